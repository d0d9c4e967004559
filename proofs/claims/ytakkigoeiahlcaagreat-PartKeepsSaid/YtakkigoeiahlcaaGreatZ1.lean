/- Lemmas for PartKeeps. -/
import Derived.Test.YtakkigoeiahlcaaGreatAg2
import Derived.Test.YtakkigoeiahlcaaGreatProg
import Derived.KernelRfl
import Derived.Laws.Externs
import Derived.Sort.Walk0
import Derived.Lib.Bytealg
import Derived.Shelf.SortM.Plain
import Derived.Shelf.SortM.SortNone
import Derived.Shelf.SlSortCmp.NoneTotal
import Derived.Ground.SlgmProg
import Derived.Ground.SlsfProg
set_option linter.all false
open Option renaming some→X,none→Z,bind_some→aG,bind_eq_some_iff→ak
open Bool renaming true→O,false→I,and_eq_true→bg,and_self→bZ,false_and→lZ,false_or→AI,not_false→uF,not_true→sO,or_eq_true→AJ,or_false→yC,or_true→AK,true_and→jo
open List renaming length→J,length_cons→bP,range→ii,all_eq_true→fO,cons_append→uH,drop_eq_getElem_cons→yF,drop_eq_nil_of_le→E9,getElem?_eq_getElem→dA,getElem?_eq_some_iff→ie,length_append→bI,map_cons→cZ,mem_cons→dD,mem_of_getElem?→cq,mem_range→yL,mergeSort_perm→Iq,pairwise_cons→re,pairwise_mergeSort→MO
open Go.BinOp renaming eql→yB
open Go.Callee renaming builtin→AO,value→nW
open Go.Ag.bj renaming of→de
open Go.IntKind renaming i64→ic
open Nat renaming beq→aA,eq_of_beq_eq_true→gA,ble→aP,ble_eq_true_of_le→bG,blt→bq,le_of_ble_eq_true→gS,lt_irrefl→bJ,zero_add→dS
open Go.Op renaming assign→yP,binOp→fE,buildSlice→Fg,call→jp,bytesLess→gi
open Go.Operand renaming const→dB,func→qd,tmp→aD
open Go.Ag.dZ renaming of→jH
open Go.ResultVar renaming tmp→bc
open Go.Ag.eH renaming of→kH
open Go.Ag.eE renaming of→mh
open Go.Proofs.Tryz renaming prog→ag
open Go.Value renaming bool→qe,int→gB
open Option.some renaming injEq→aQ
open Go.Ag.W renaming loopC→aF
open Go.Ag.WC renaming sound→aM
theorem Go.k_{p:Prop}(h:p:=by kernel_rfl):p:=h
namespace Go.Proofs.YtakkigoeiahlcaaGreat
open Tryz
open Go.Ag
structure aV (N:Nat) (fn:Func) (k:SC) (n:Nat) (rs:List ResultVar):Prop where
 a:ag.funcs[N]?=some fn
 b:fn.body.map dX=some k
 c:fn.ntmps=n
 d:fn.results.toList=rs
def aV.of{N:Nat}{fn:Func}{k:SC}{n:Nat}{rs:List ResultVar}(h:(ag.funcs[N]?,fn.body.map dX,fn.ntmps,fn.results.toList)=(X fn,X k,n,rs):=by kernel_rfl):aV N fn k n rs:=by
 simp only[Prod.mk.injEq]at h;exact⟨h.1,h.2.1,h.2.2.1,h.2.2.2⟩
def OT:CE->Nat->Bool->SG
 |[],_,_=>.never
 |o::_,0,w=>match o.dst with
  |some d=>.when d w
  |none=>.never
 |_::l,n+1,w=>OT l n w
def WU(all:CE):Option (Nat×Bool)->SG
 |none=>.aw
 |some (j,w)=>OT all j w
def JD(all:CE):CE->ns
 |[]=>[]
 |o::l=>⟨o.dst,o.op,WU all o.guard⟩::JD all l
abbrev aar:=List be
def Xe:aar->be
 |[]=>[]
 |a::_=>a
def Jh:Nat->aar->aar
 |0,l=>l
 |_+1,[]=>[]
 |n+1,_::l=>Jh n l
def xi:Code->Nat
 |.seq a b=>xi a+xi b
 |.cond _ a b=>xi a+xi b
 |.block _ b=>xi b
 |.loop b=>xi b
 |.region _ _ O=>1
 |_=>0
def zI:Code->aar->SC
 |.ret,_=>.ret
 |.exit id,_=>.exit id
 |.seq a b,l=>.seq (zI a l) (zI b (Jh (xi a) l))
 |.cond x a b,l=>.cond x (zI a l) (zI b (Jh (xi a) l))
 |.block id b,l=>.block id (zI b l)
 |.loop b,l=>.loop (zI b l)
 |.region _ ops I,_=>.region (JD ops.toList ops.toList)
 |.region _ ops O,l=>.draw (JD ops.toList ops.toList) (Xe l)
 |_,_=>.skip
def WT(f:Func)(l:aar):SC:=
 match f.body with
 |some c=>zI c l
 |none=>.skip
def stP(t:Nat)(c:SC):SC:=
 match c with
 |.seq a b=>(match t with
   |0=>a
   |_+1=>b)
 |.cond _ a b=>(match t with
   |0=>a
   |_+1=>b)
 |.block _ b=>b
 |.loop b=>b
 |c=>c
def NA:be->SC->SC
 |[],c=>c
 |t::p,c=>NA p (stP t c)
def CF(a b:SC):Prop:=a=b
def CF.r(a:SC):CF a a:=rfl
structure aY (f:Func) (l:aar) where
 y:SC
 h:CF y (WT f l):=by(conv=>arg 2;arg 1;whnf);dsimp only[WT,zI,xi,JD,WU,OT,Xe,Jh];exact CF.r _
structure bQ (k:SC) (p:be) where
 y:SC
 h:CF y (NA p k):=by(conv=>arg 2;arg 2;whnf);dsimp only[NA,stP];exact CF.r _
abbrev sC(r:ns):SC:=.region r
abbrev kD(a b:SC):SC:=.seq a b
abbrev dz(r:ns)(k:SC):SC:=.seq (.region r) k
abbrev mq(t:Nat)(a b:SC):SC:=.cond (aD t) a b
abbrev LX(t n:Nat)(k:SC):SC:=.seq (.cond (aD t) .skip (.exit n)) k
abbrev rE(n:Nat)(k:SC):SC:=.block n k
abbrev Ha(k:SC):SC:=.loop k
abbrev vW:SC:=.ret
abbrev nU:SC:=.skip
abbrev sdR(r:ns)(b:be)(k:SC):SC:=.seq (.draw r b) k
abbrev bw(a b:Nat):aJ:=⟨X a,Op.move (aD b),.aw⟩
abbrev br(a b c:Nat):aJ:=⟨X a,Op.load b (aD c),.aw⟩
abbrev cI(a b:Nat):aJ:=⟨X a,yP (aD b),.aw⟩
abbrev cj(a b c d:Nat):aJ:=⟨X a,Op.fieldAddr b (aD c) d,.aw⟩
abbrev eI(a b c:Nat):aJ:=⟨Z,Op.store a (aD b) (aD c),.aw⟩
abbrev vM(a b c:Nat):aJ:=⟨X a,jp ⟨AO Builtin.len,#[aD b],#[c]⟩,.aw⟩
abbrev xW(a b c d:Nat):aJ:=⟨X a,Op.indexAddr b (aD c) (aD d),.aw⟩
abbrev ac3(a:Nat)(b:Int):aJ:=⟨X a,yP (dB (gB ic b)),.aw⟩
abbrev qR(a b c:Nat):aJ:=⟨X a,Op.box b (aD c),.aw⟩
abbrev gN(a b:Nat):aJ:=⟨X a,Op.alloc b,.aw⟩
abbrev BU(a:Nat):aJ:=⟨X a,yP (dB (qe I)),.aw⟩
abbrev BV(a b:Nat)(c:Int):aJ:=⟨X a,fE BinOp.add 3 (aD b) (dB (gB ic c)) 3,.aw⟩
abbrev Hv(a b c d:Nat):aJ:=⟨X a,fE BinOp.lss b (aD c) (aD d) b,.aw⟩
abbrev kd(a b c d:Nat):aJ:=⟨X a,Op.load b (aD c),(.when d O)⟩
abbrev qQ(a b c d e f:Nat):aJ:=⟨X a,jp ⟨nW (qd b),#[aD c,aD d],#[e,f]⟩,.aw⟩
abbrev jk(a b c d e:Nat):aJ:=⟨X a,Op.fieldAddr b (aD c) d,(.when e O)⟩
abbrev kC(a b c:Nat):aJ:=⟨X a,Op.extract (aD b) c,.aw⟩
abbrev nf(a b c:Nat):aJ:=⟨X a,Op.pick (aD b) (aD c) (dB (qe I)),.aw⟩
abbrev nQ(a b c d:Nat):aJ:=⟨X a,jp ⟨nW (qd b),#[aD c],#[d]⟩,.aw⟩
abbrev Hw(a:Nat):aJ:=⟨X a,Op.move (dB (gB ic 0)),.aw⟩
abbrev oO(a b c d:Nat):aJ:=⟨X a,Op.load b (aD c),(.when d I)⟩
abbrev BW(a:Nat):aJ:=⟨X a,yP (dB (Value.slice Z 0 0)),.aw⟩
abbrev vJ(a b c:Nat):aJ:=⟨X a,Op.move (aD b),(.when c O)⟩
abbrev mF(a b:Nat):aJ:=⟨X a,Op.unOp UnOp.not 4 (aD b),.aw⟩
abbrev vK(a b c:Nat):aJ:=⟨X a,Op.pick (aD b) (dB (qe O)) (aD c),.aw⟩
abbrev Ac(a b c d e:Nat):aJ:=⟨X a,Op.fieldAddr b (aD c) d,(.when e I)⟩
abbrev vL(a b c:Nat):aJ:=⟨X a,Fg b 1 #[(0,aD c)],.aw⟩
abbrev ng(a b:Nat)(c:Int):aJ:=⟨X a,fE yB 3 (aD b) (dB (gB ic c)) 3,.aw⟩
abbrev xV(a b c:Nat):aJ:=⟨X a,Op.move (aD b),(.when c I)⟩
abbrev Ei(a b c d e:Nat):aJ:=⟨X a,jp ⟨AO Builtin.append,#[aD b,aD c],#[d,e]⟩,.aw⟩
abbrev t7(a b:Nat):aJ:=⟨X a,Op.nilCheck (aD b),.aw⟩
abbrev BX(a b:Nat)(c:Int):aJ:=⟨X a,fE BinOp.gtr 3 (aD b) (dB (gB ic c)) 3,.aw⟩
abbrev R3(a b c d e:Nat):aJ:=⟨X a,Op.build b #[(0,aD c),(d,aD e)],.aw⟩
abbrev Ll(a b c d e f g h:Nat):aJ:=⟨X a,jp ⟨nW (qd b),#[aD c,aD d,aD e],#[f,g,h]⟩,.aw⟩
abbrev acU(a b c d e f g:Nat):aJ:=⟨X a,jp ⟨nW (qd b),#[aD c,aD d],#[e,f]⟩,(.when g O)⟩
abbrev ayA(a b c d:Nat):aJ:=⟨X a,fE yB b (aD c) (aD d) b,.aw⟩
abbrev Lm(a b c:Nat)(d:Int):aJ:=⟨X a,Op.indexAddr b (aD c) (dB (gB ic d)),.aw⟩
abbrev ayB(a b c d:Nat):aJ:=⟨X a,jp ⟨nW (aD b),#[aD c],#[d]⟩,.aw⟩
abbrev Ln(a b c d:Nat):aJ:=⟨X a,fE BinOp.add b (aD c) (aD d) b,.aw⟩
abbrev R4(a b:Nat):aJ:=⟨X a,Op.makeMap b Z,.aw⟩
abbrev acV(a b c d:Nat):aJ:=⟨X a,fE BinOp.neq b (aD c) (aD d) b,.aw⟩
abbrev acW(a b c:Nat):aJ:=⟨X a,fE BinOp.sub 3 (aD b) (aD c) 3,.aw⟩
abbrev Lp(a b c:Nat)(d:Int):aJ:=⟨X a,fE BinOp.neq b (aD c) (dB (gB ic d)) b,.aw⟩
abbrev ayC(a b:Nat)(c:Int)(d:Nat):aJ:=⟨X a,fE BinOp.gtr 3 (aD b) (dB (gB ic c)) 3,(.when d I)⟩
abbrev Ad(a b c d:Nat):aJ:=⟨X a,Op.lookup b (aD c) (aD d) O,.aw⟩
abbrev acX(a b c d:Nat):aJ:=⟨X a,Op.lookup b (aD c) (aD d) I,.aw⟩
abbrev acY(a b:Nat):aJ:=⟨X a,Op.build b #[],.aw⟩
abbrev aHq(a b c d:Nat):aJ:=⟨X a,jp ⟨AO Builtin.len,#[aD b],#[c]⟩,(.when d O)⟩
abbrev Hx(a b c:Nat):aJ:=⟨X a,Op.unOp UnOp.not 4 (aD b),(.when c O)⟩
abbrev ayD(a b c d:Nat):aJ:=⟨X a,fE BinOp.mul b (aD c) (aD d) b,.aw⟩
abbrev R5(a b c:Nat):aJ:=⟨X a,Op.unOp UnOp.not 4 (aD b),(.when c I)⟩
abbrev ayE(a b:Nat)(c:Int):aJ:=⟨X a,fE BinOp.lss 3 (aD b) (dB (gB ic c)) 3,.aw⟩
abbrev sr(a:Nat)(b:Int):aJ:=⟨Z,Op.store 3 (aD a) (dB (gB ic b)),.aw⟩
abbrev Hy(a:Nat)(b:Int):aJ:=⟨X a,Op.build 156 #[(2,dB (gB ic b))],.aw⟩
abbrev acZ(a b c d:Nat):aJ:=⟨Z,Op.mapUpdate a (aD b) (aD c) (aD d),.aw⟩
abbrev R6(a b c d:Nat):aJ:=⟨X a,Op.pick (aD b) (aD c) (dB (qe I)),(.when d I)⟩
abbrev aHv(a b:Nat)(c:Int)(d:Nat):aJ:=⟨X a,fE BinOp.leq 3 (aD b) (dB (gB ic c)) 3,(.when d O)⟩
abbrev R7(a b c d e:Nat):aJ:=⟨X a,jp ⟨nW (qd b),#[aD c],#[d]⟩,(.when e O)⟩
abbrev ac0(a b c d e f:Nat):aJ:=⟨X a,jp ⟨nW (qd b),#[aD c,qd d],#[e,f]⟩,.aw⟩
abbrev ayF(a b c d e:Nat):aJ:=⟨X a,jp ⟨nW (qd b),#[aD c],#[d]⟩,(.when e I)⟩
abbrev R8(a b c d e f g:Nat):aJ:=⟨X a,jp ⟨nW (qd b),#[aD c,aD d],#[e,f]⟩,(.when g I)⟩
abbrev ayG(a b c d e f:Nat):aJ:=⟨X a,jp ⟨nW (aD b),#[aD c,aD d],#[e,f]⟩,.aw⟩
abbrev ac4(a b:Nat):aJ:=⟨X a,fE BinOp.neq 9 (aD b) (dB (Value.string {data:= #[] })) 9,.aw⟩
abbrev R9(a b c d:Nat):aJ:=⟨X a,Op.build b #[(c,aD d)],.aw⟩
abbrev Lq(a b:Nat)(c:Int)(d:Nat):aJ:=⟨X a,fE BinOp.neq 3 (aD b) (dB (gB ic c)) 3,(.when d O)⟩
abbrev ac5:aJ:=⟨X 2,yP (dB (Value.pointer Z)),.aw⟩
abbrev ayH(a b c d e:Nat):aJ:=⟨X a,fE yB b (aD c) (aD d) b,(.when e I)⟩
abbrev ayI(a b:Nat)(c:Int)(d:Nat):aJ:=⟨X a,fE yB 3 (aD b) (dB (gB ic c)) 3,(.when d I)⟩
abbrev ayJ(a b c d:Nat):aJ:=⟨X a,fE BinOp.gtr b (aD c) (aD d) b,.aw⟩
abbrev ac6(a b c:Nat)(d:Int)(e:Nat):aJ:=⟨X a,Op.indexAddr b (aD c) (dB (gB ic d)),(.when e O)⟩
abbrev ayK(a b:Nat)(c:Int)(d:Nat):aJ:=⟨X a,fE BinOp.lss 3 (aD b) (dB (gB ic c)) 3,(.when d O)⟩
abbrev ac7(a b c d:Nat):aJ:=⟨X a,Op.pick (aD b) (dB (qe O)) (aD c),(.when d O)⟩
abbrev ayL(a b c:Nat):aJ:=⟨X a,fE BinOp.leq 3 (aD b) (aD c) 3,.aw⟩
abbrev ayM(a b c:Nat)(d:Int)(e:Nat):aJ:=⟨X a,Op.indexAddr b (aD c) (dB (gB ic d)),(.when e I)⟩
abbrev ayN(a b:Nat):aJ:=⟨X a,fE BinOp.sub 3 (aD b) (dB (gB ic 1)) 3,.aw⟩
abbrev Hz(a:Nat):aJ:=⟨Z,Op.store 4 (aD a) (dB (qe I)),.aw⟩
abbrev Sa(a b c:Nat):aJ:=⟨X a,fE BinOp.gtr 3 (aD b) (dB (gB ic 0)) 3,(.when c O)⟩
abbrev acS(a b c d e:Nat):aJ:=⟨X a,fE BinOp.neq b (aD c) (aD d) b,(.when e I)⟩
abbrev Lk(a:Int)(b:Nat):aJ:=⟨Z,Op.insert 217 (aD 77) (dB (gB ic a)) (aD b),.aw⟩
abbrev acT(a b c d e f g:Nat):aJ:=⟨X a,jp ⟨nW (qd b),#[aD c,aD d,aD e],#[f,f,f]⟩,(.when g O)⟩
abbrev ayx(a b c d:Nat):aJ:=⟨X a,fE BinOp.leq 3 (aD b) (aD c) 3,(.when d O)⟩
abbrev aHl(a b c d:Nat):aJ:=⟨X a,jp ⟨AO Builtin.max,#[aD b,aD c],#[3,3]⟩,(.when d O)⟩
abbrev ayy(a b c:Nat):aJ:=⟨X a,fE BinOp.sub 3 (aD b) (dB (gB ic 1)) 3,(.when c I)⟩
abbrev ayz(a b c:Nat):aJ:=⟨X a,fE yB b (aD c) (dB (Value.pointer Z)) b,.aw⟩
abbrev R1(a:Nat)(b:Int):aJ:=⟨X a,Fg 26 1 #[(0,dB (gB ic b))],.aw⟩
abbrev ah(n:Int):aa:=.int .i64 n
abbrev an(n:Nat):aa:=.int .i64 (n:Int)
def O2(t:Nat):be->Nat
 |[]=>0
 |k::l=>bif aA k t then 1 else bif aA k (t+1000)then 2 else O2 t l
def Xh(f:Nat):List (Nat×be)->be
 |[]=>[]
 |(k,v)::l=>bif aA k f then v else Xh f l
def hrow(f:Nat):be:=Xh f [
(3,[3,4,8]),
(31,[3,4]),
(7,[2,10,14]),
(9,[2,3]),
(8,[3]),
(27,[2,4]),
(20,[1,5]),
(188,[2]),
(33,[2,6]),
(75,[2,3,4,8,1034]),
(4,[1,2,4,5,8,9,12]),
(5,[3,4]),
(6,[6,17]),
(19,[5,11,1040,1120]),
(17,[2,4,9,10]),
(21,[2]),
(22,[2,7,10]),
(23,[1,6]),
(24,[1,3,10,13,19,21,1176]),
(25,[1]),
(26,[1,8]),
(45,[1,5]),
(67,[2]),
(256,[2]),
(127,[2]),
(128,[1007]),
(14,[5,6]),
(15,[2,3,7]),
(16,[6,10,16]),
(18,[1,2]),
(39,[1]),
(41,[1,1044]),
(35,[1,5,7]),
(36,[3,4,6,7,9,10]),
(44,[2,7,10]),
(46,[1]),
(47,[1,2,4,6]),
(48,[1,5,10,12,1093]),
(50,[2,4]),
(52,[11,15]),
(53,[2,7]),
(56,[2,3]),
(58,[1,5,7,11]),
(59,[1025]),
(62,[9,10]),
(63,[1,6,8]),
(64,[3,7]),
(65,[3]),
(66,[3]),
(1056,[2]),
(114,[7]),
(115,[2]),
(116,[1]),
(83,[3]),
(84,[3]),
(85,[5]),
(89,[1]),
(203,[1]),
(205,[2]),
(32,[6]),
(34,[2,3]),
(81,[1]),
(73,[1,3]),
(72,[3]),
(74,[3,4,11]),
(76,[2,4]),
(140,[7]),
(93,[3]),
(95,[2,3]),
(98,[6,12,1019,1092,1097]),
(99,[2,3]),
(112,[4]),
(134,[0,1]),
(71,[2]),
(119,[2,3]),
(120,[4]),
(122,[1066]),
(124,[4,5,6,10]),
(125,[4,5,6,7]),
(187,[2,3]),
(137,[1]),
(138,[1]),
(139,[3]),
(145,[4]),
(147,[2,3]),
(148,[7]),
(149,[2]),
(150,[2,3]),
(152,[2,3]),
(153,[4]),
(154,[1,2]),
(155,[3,4,5]),
(156,[2,3,5,6]),
(181,[4]),
(182,[7]),
(183,[1,2]),
(191,[2]),
(193,[1007]),
(197,[3]),
(229,[2,3]),
(215,[3]),
(230,[2,3,4]),
(231,[2,3]),
(232,[2,3]),
(239,[1]),
(240,[1]),
(252,[3,4,5]),
(285,[4]),
(265,[2])]
def DB(f:FuncId)(t:Tmp):Nat:=O2 t (hrow f)
abbrev aaG:=FuncId->W_
noncomputable def QS(sp:aaG):ay:= {P:=ag,hint:=DB,spec:=sp,ch:=λ_=>0,kmax:=λ_=>2 }
def afR(sp:aaG):(QS sp).P=ag:=rfl
def afS(sp:aaG):(QS sp).hint=DB:=rfl
def afT(sp:aaG):(QS sp).spec=sp:=rfl
abbrev Sp:=az->er
abbrev SpZ:=FuncId->Option Sp
abbrev dy:=List (Nat×Sp)
def EW(f:Nat):dy->Option Sp
 |[]=>Z
 |(k,v)::l=>bif aA k f then X v else EW f l
noncomputable def QT(t:dy):ay:=QS λf=>EW f t
def eh(t:dy):Prop:=∀p∈t,cW ag p.1 p.2
def Mr{f:Nat}{sp:Sp}:∀{t:dy},EW f t=X sp->(f,sp)∈t
 |[],h=>by cases h
 |(k,v)::l,h=>by
  simp only[EW]at h;cases hk:aA k f;rw[hk]at h;exact List.mem_cons_of_mem _ (Mr h);rw[hk]at h;cases h
  have:=gA hk;subst this;exact List.mem_cons_self
theorem RN:ag.funcs.toList.all (fun fn=> !(fn.name== "runtime.NumGoroutine"))=true:=by kernel_rfl
def RH:ag.follows .mixedOrders=O:=k_
variable{t:dy}
def OX(h:eh t):AL (QT t) where
 mixed:=RH
 spec f sp hsp args v hv G hp w xs wr hx:=h _ (Mr hsp) args v hv G hp w xs wr hx
 specH f sp h:=by cases h
 names f fn a:=by
  have a:ag.funcs[f]?=X fn:=a
  have:=List.all_eq_true.1 RN fn (by
   rw[<-Array.getElem?_toList]at a;exact List.mem_of_getElem? a)
  simpa using this
def eh.nil:eh []:=λ_ h=>by cases h
def eh.cons{f:Nat}{sp:Sp}(h:cW ag f sp)(b:eh t):eh ((f,sp)::t):=by
 intro p a;rcases List.mem_cons.1 a with rfl|a
 exact h;exact b p a
def Gi(c:Nat):pb->Nat->Int
 |[],_=> -1
 |b::l,i=>bif aA b.toNat c then(i:Int)else Gi c l (i+1)
def S8:Sp
 |[.str s,.int .u8 (.ofNat c)]=>bif Nat.blt c 256 then X (.int .i64 (Gi c s 0))else Z
 |_=>Z
def XH(c:Nat)(a:c<256):∀(l:pb)(i:Nat),Gi c l i=match(ii (J l)).find? (λj=>l[j]! ==c.toUInt8)with|some j=>((i+j:Nat):Int)|none=> -1
 |[],i=>rfl
 |b::l,i=>by
  rw[Gi,bP,List.range_succ_eq_map,List.find?_cons];have g:((b::l)[0]! ==c.toUInt8)=aA b.toNat c:=by
   show(b==c.toUInt8)=_;cases h:aA b.toNat c
   have:=Nat.ne_of_beq_eq_false h;apply bN.2;intro e;apply this;rw[e];simp[Nat.mod_eq_of_lt a]
   have:=gA h;subst this;simp
  rw[g];cases h:aA b.toNat c;simp only[cF];rw[XH c a l (i+1),List.find?_map];have d:((λj=>(b::l)[j]! ==c.toUInt8) ∘ Nat.succ)=λj=>l[j]! ==c.toUInt8:=by
   funext j;simp[Function.comp]
  rw[d];rcases(ii (J l)).find? (λj=>l[j]! ==c.toUInt8)with _|j
  rfl;simp only[Option.map_some];show((i+1+j:Nat):Int)=((i+(j+1):Nat):Int);congr 1;omega;simp
def aDs:cW ag 295 S8:=by
 intro args v g G h w u m o;unfold S8 at g;split at g;rename_i s c
 let⟨l,g⟩:=aZ g
 cases g;have l:c<256:=Nat.le_of_ble_eq_true l;cases o with
 |cons a b=>
  cases b with
  |cons b d=>
   cases d;cases a;cases b;refine .inl ⟨.int .i64 (firstIdx ⟨⟨s⟩⟩ c.toUInt8),w,?_,G,m,.refl,?_⟩
   have:=run_callFunc_extern (P:=ag) (f:=295) (fn:=f295) (e:=Extern.BytealgIndexByte.indexByte) k_ k_ k_ k_ k_ #[.string ⟨⟨s⟩⟩,.int .u8 (.ofNat c)] w;rw[show(⟨[Value.string ⟨⟨s⟩⟩,.int .u8 (.ofNat c)]⟩:il)= #[.string ⟨⟨s⟩⟩,.int .u8 (.ofNat c)]from rfl,this,run_indexByte_string];rfl;have:firstIdx ⟨⟨s⟩⟩ c.toUInt8=Gi c s 0:=by
    rw[XH c l];unfold firstIdx;have q:(⟨⟨s⟩⟩:ByteArray).size=J s:=rfl;rw[q];have p:(λi=>(⟨⟨s⟩⟩:ByteArray)[i]! ==c.toUInt8)=λ(j:Nat)=>s[j]! ==c.toUInt8:=by
     funext i;congr 1;by_cases hi:i<J s;rw[getElem!_pos (⟨⟨s⟩⟩:ByteArray) i hi,getElem!_pos s i hi];rfl;rw[getElem!_neg (⟨⟨s⟩⟩:ByteArray) i hi,getElem!_neg s i hi]
    rw[p];cases (ii (J s)).find? (λ(j:Nat)=>s[j]! ==c.toUInt8)<;>simp
   rw[this];exact .int _ _
 cases g
end Go.Proofs.YtakkigoeiahlcaaGreat
set_option linter.defProp false
namespace Go.Proofs.YtakkigoeiahlcaaGreat
open Tryz
open Go.Ag
class Std (Q:ay):Prop where
 P:Q.P=ag
 hint:Q.hint=DB
 H:∀f,Q.specH f=none
class No (Q:ay) (f:FuncId):Prop where
 s:Q.spec f=none
 w:Q.specW f=none
attribute[go_sem]Std.P Std.hint No.s DB O2
variable{fn:Func}{f:FuncId}{args:az}{n:Nat}{sc:SC}{s s':St}{t:Tmp}{v:aa}{Q:ay}
def ai.ofN[Std Q][No Q f](g:ag.funcs[f]?=X fn)(i:fn.body.map dX=X sc)(e:fn.ntmps=n)(d:fn.results.toList=[.tmp t])(h:W Q f sc (vk n args) s λx a b=>b=s'/\(x=.normal\/x=.ret)/\ac a.env t=v)(c:v.gt=O:=by rfl):ai Q f args s v s':=
 ai.of2 (by rw[Std.P];exact g) i e d No.s (h.mono λ_ _ _ ⟨m,l,j⟩=>⟨m,l,adX j c⟩) (Std.H f) No.w
variable{rs:List ResultVar}{R:aa->St->Prop}
def ai.ofNR[Std Q][No Q f](e:ag.funcs[f]?=X fn)(g:fn.body.map dX=X sc)(d:fn.ntmps=n)(c:fn.results.toList=rs)(h:W Q f sc (vk n args) s λx a b=>(x=.normal\/x=.ret)/\∃v,(jm Q [] a b rs).map nh=X v/\R v b):∃v s',ai Q f args s v s'/\R v s':=by
 let⟨x,a,b,hrun,hx,v,hv,hp⟩:=h
 exact⟨v,b,ai.of2 (by rw[Std.P];exact e) g d c No.s ⟨x,a,b,hrun,rfl,hx,by simpa only[Option.map_eq_some_iff]using hv⟩ (Std.H f) No.w,hp⟩
def ai.ofNRZ[Std Q][No Q f](F:aV f fn sc n rs)(h:W Q f sc (vk n args) s λx a b=>(x=.normal\/x=.ret)/\∃v,(jm Q [] a b rs).map nh=X v/\R v b):∃v s',ai Q f args s v s'/\R v s':=ai.ofNR F.1 F.2 F.3 F.4 h
def ai.ofNZ[Std Q][No Q f](F:aV f fn sc n [.tmp t])(h:W Q f sc (vk n args) s λx a b=>b=s'/\(x=.normal\/x=.ret)/\ac a.env t=v)(c:v.gt=O:=by rfl):ai Q f args s v s':=ai.ofN F.1 F.2 F.3 F.4 h c
def ai.ofV[Std Q][No Q f](i:ag.funcs[f]?=X fn)(j:fn.body.map dX=X sc)(g:fn.ntmps=n)(e:fn.results.toList=rs)(h:W Q f sc (vk n args) s λx c d=>d=s'/\(x=.normal\/x=.ret)/\(jm Q [] c d rs).map nh=X v):ai Q f args s v s':=
 let⟨_,_,h,b,a⟩:=ai.ofNR (R:=λw t=>w=v/\t=s') i j g e (h.mono λ_ _ _ ⟨b,a,l⟩=>⟨a,v,l,rfl,b⟩)
 b▸a▸h
def sN:=(⟨@fA,@cT.{1},@cF.{1}⟩:_/\_/\_)
def sL:=(⟨sN,@iG,@iK,@bS.{0}⟩:_/\_/\_/\_)
def sG:=(⟨sL,@oD⟩:_/\_)
def sA:=(⟨@List.length_append.{0},@bP.{0},@List.length_nil.{0}⟩:_/\_/\_)
def yy(h:n+1<9223372036854775808):IntKind.i64.wrap ((n:Int)+1)=((n+1:Nat):Int):=by rw[kj w_ w_];omega
variable{α:Type}
def cR{l a rest:List α}{x:α}(h:l=a++x::rest):J a<J l/\l[a.length]?=X x:=by subst h;simp
def cL{l a:List α}(h:l=a++[]):J a=J l:=by rw[h];simp
def db{l a rest:List α}{x:α}(h:l=a++x::rest):l=(a++[x])++rest:=by rw[h];simp
instance(T:dy):Std (QT T):=⟨rfl,rfl,λ_=>rfl⟩
def mL{f:Nat}{T:dy}(g:eh T){sp:Sp}(h:∀args u,sp args=X u->dR args=O/\∃v s',ai (QT T) f (di args) s0 v s'/\s'.ci=0/\fF s'.heap v u):cW ag f sp:=by
 intro args u d G e w a b c
 let⟨hp,v,s',hr,hc,hf⟩:=h args u d
 exact Tb (Q:=QT T) (OX g) (λ_=>Nat.zero_lt_succ 1) hp hr hc hf G e w a b c
def PR:=({y:=_}:aY f20 []).1
def PW:=({y:=_}:bQ PR [1,1,0,1,0,0]).1
def as1:aV 20 f20 PR 29 [bc 2]:=.of
def apH:hrow 20=[1,5]:=k_
def Zk:=({y:=_}:aY f188 []).1
def asI:aV 188 f188 Zk 9 [bc 4]:=.of
def apN:hrow 188=[2]:=k_
def Z4:be:=[0,1,0,7,15,31,63,0,128,0,896,1920,3968,8064,16383,32767]
def GJ:=({y:=_}:aY f33 [Z4]).1
def Kj:=({y:=_}:bQ GJ [1,1,0,1,0,0,1,0,0,1,1,0,1,0,0]).1
def Qg:=({y:=_}:bQ GJ [1,1,0,1,0,0,1,0,0,1,1,1,1,0,0]).1
def DI:=({y:=_}:bQ GJ [1,1,0,1,0,0]).1
def atz:aV 33 f33 GJ 79 [bc 4]:=.of
def apR:hrow 33=[2,6]:=k_
def Zi:be:=[0,0,3,7,0,0,48,112,255]
def PJ:=({y:=_}:aY f186 [Zi]).1
def PK:=({y:=_}:bQ PJ [1,1,0,1,0,0]).1
def JY:aV 186 f186 PJ 26 [bc 4]:=.of
def aqp:hrow 186=[]:=k_
def Kq:be:=[0,1,3,7,15,31,63,127,255,511,1023,2047,4095,8191,16383,32767,65535,131071,262143,524287,131071,1179647,3276799,8388607,16777215,33554431,67108863,134217727,268435455,536870911,1073741823]
def k43:=({y:=_}:aY f43 [Kq]).1
def atI:aV 43 f43 k43 72 [bc 2]:=.of
def aqr:hrow 43=[]:=k_
def Ke:=({y:=_}:aY f255 []).1
def ZR:=({y:=_}:aY f256 []).1
def atj:aV 256 f256 ZR 8 [bc 3]:=.of
def aqs:hrow 256=[2]:=k_
def Pg:=({y:=_}:aY f106 []).1
def Ph:=({y:=_}:bQ Pg [1,1,0,1,0,0]).1
def arJ:aV 106 f106 Pg 18 [bc 2]:=.of
def aoz:hrow 106=[]:=k_
def Zn:=({y:=_}:aY f192 []).1
def asO:aV 192 f192 Zn 8 [bc 4]:=.of
def k51:=({y:=_}:aY f51 []).1
def atR:aV 51 f51 k51 9 [bc 4]:=.of
def Qz:=({y:=_}:aY f57 []).1
def Ku:=({y:=_}:bQ Qz [1,0,1,0,0]).1
def atX:aV 57 f57 Qz 36 [bc 4]:=.of
def aoI:hrow 57=[]:=k_
def k83:=({y:=_}:aY f83 []).1
def auZ:aV 83 f83 k83 14 [bc 2]:=.of
def aoT:hrow 83=[3]:=k_
def Q0:=({y:=_}:aY f84 []).1
def Q5:=({y:=_}:bQ Q0 [1,1,0,1,0,0]).1
def au0:aV 84 f84 Q0 39 [bc 2]:=.of
def aoU:hrow 84=[3]:=k_
def Q6:=({y:=_}:aY f85 []).1
def Q7:=({y:=_}:bQ Q6 [1,1,0,1,0,0]).1
def au1:aV 85 f85 Q6 39 [bc 2]:=.of
def aoV:hrow 85=[5]:=k_
def k87:=({y:=_}:aY f87 []).1
def au2:aV 87 f87 k87 34 [bc 5]:=.of
def k88:=({y:=_}:aY f88 []).1
def k89:=({y:=_}:aY f89 []).1
def au4:aV 89 f89 k89 21 [bc 2]:=.of
def aoW:hrow 89=[1]:=k_
def ZS:=({y:=_}:aY f257 []).1
def atk:aV 257 f257 ZS 8 [bc 4]:=.of
def Ra:=({y:=_}:aY f97 []).1
def KM:=({y:=_}:bQ Ra [1,0,1,0,0]).1
def aa9:aV 97 f97 Ra 19 [bc 4]:=.of
def apg:hrow 97=[]:=k_
def Yg:=({y:=_}:aY f102 []).1
def arB:aV 102 f102 Yg 20 [bc 4]:=.of
def Ym:=({y:=_}:aY f107 []).1
def arK:aV 107 f107 Ym 20 [bc 4]:=.of
def YP:=({y:=_}:aY f135 []).1
def Zj:=({y:=_}:aY f187 []).1
def JZ:aV 187 f187 Zj 38 [bc 4]:=.of
def apx:hrow 187=[2,3]:=k_
def Y8:=({y:=_}:aY f167 []).1
def ass:aV 167 f167 Y8 6 [bc 2]:=.of
def Zb:=({y:=_}:aY f170 []).1
def asv:aV 170 f170 Zb 6 [bc 2]:=.of
def ZQ:be:=[0,0,3,7,0,0,48,112,255]
def P6:=({y:=_}:aY f254 [ZQ]).1
def P7:=({y:=_}:bQ P6 [1,1,0,1,0,0]).1
def Kd:aV 254 f254 P6 26 [bc 4]:=.of
def ap4:hrow 254=[]:=k_
def ZG:=({y:=_}:aY f229 []).1
def as8:aV 229 f229 ZG 17 [bc 4]:=.of
def ap5:hrow 229=[2,3]:=k_
def Qc:=({y:=_}:aY f285 []).1
def Qd:=({y:=_}:bQ Qc [1,0,1,0,0]).1
def atu:aV 285 f285 Qc 21 [bc 2]:=.of
def aqi:hrow 285=[4]:=k_
def aho:eX ag 24 [(0,1)]:=eX.of
def U3:eX ag 44 [(0,1),(1,1)]:=eX.of
def ahB:eX ag 103 [(0,1),(1,1)]:=eX.of
def U1:ri ag 127 1:=ri.of
def U2:ri ag 231 1:=ri.of
theorem sw:dZ ag 3:=jH
def adN:dZ ag 5:=jH
def uf:dZ ag 9:=jH
def aA0:dZ ag 22:=jH
def LC:eH ag 24 1:=kH
def Eo:dZ ag 25:=jH
def adM:dZ ag 97:=jH
def LD:eH ag 44 2:=kH
def Sv:dZ ag 45:=jH
def Sw:eH ag 47 6:=kH
def aBj:eH ag 103 2:=kH
def adK:eH ag 127 2:=kH
def aEb:cS ag 3=X 1:=k_
def aeW:cS ag 9=X 1:=k_
def aD3:cS ag 22=X 1:=k_
def aD5:cS ag 24=X 1:=k_
def aD6:cS ag 25=X 1:=k_
def aEi:cS ag 97=X 1:=k_
def aEk:cS ag 44=X 2:=k_
def aEl:cS ag 45=X 1:=k_
def aEm:cS ag 47=X 6:=k_
def aEp:cS ag 103=X 2:=k_
def aeS:cS ag 127=X 2:=k_
def aeU:cS ag 231=X 6:=k_
def aeV:cS ag 232=X 256:=k_
def uD:dC ag 3=X (.int .i64 (0)):=k_
def TF:dC ag 4=X (.bool I):=k_
def aG0:dC ag 9=X (.str []):=k_
def aGL:dC ag 24=X (.agg [.Ge]):=k_
def aGV:dC ag 97=X .nilm:=k_
def Mz:dC ag 44=X (.agg [(.int .i64 (0)),(.int .i64 (0))]):=k_
def Ig:dC ag 47=X (.agg [(.str []),(.int .i64 (0)),(.int .i64 (0)),(.int .i64 (0)),.Ge,.Ge]):=k_
def aG1:dC ag 103=X (.agg [(.str []),(.str [])]):=k_
def TE:dC ag 127=X (.agg [(.int .i64 (0)),(.int .i64 (0))]):=k_
def afB:dC ag 231=X (.agg [(.str []),(.str []),(.str []),(.str []),(.str []),(.str [])]):=k_
def alB:bj ag 24 0 0:=de
def alT:bj ag 44 0 0:=de
def alU:bj ag 44 1 1:=de
def Oz:bj ag 47 0 0:=de
def Dm:bj ag 47 1 1:=de
def OA:bj ag 47 2 2:=de
def Dn:bj ag 47 3 4:=de
def OB:bj ag 47 4 5:=de
def al4:bj ag 103 0 0:=de
def al5:bj ag 103 1 1:=de
def ek:eE ag 22 6 88 O (.agg [(.str []),(.int .i64 (0)),(.int .i64 (0)),(.int .i64 (0)),.Ge,.Ge]):=mh
def bM:eE ag 25 1 16 I (.str []):=mh
theorem iO:eE ag 26 1 8 I (.int .i64 (0)):=mh
def kh:eE ag 45 2 32 O (.agg [(.str []),(.str [])]):=mh
def XC(lc:Ag.Loc)(l g o:Nat)(i:aa):gm ag lc 127 (.Gt l g o) i=(dP i).bind λi=>bif Nat.blt i 2 then bif aA (lc.gen l) g then X (.Gt l g (o+i*1))else Z else Z:=k_
def nj:eE ag 138 2 16 O (.agg [(.int .i64 (0)),(.int .i64 (0))]):=mh
def XE(lc:Ag.Loc)(l g o:Nat)(i:aa):gm ag lc 232 (.Gt l g o) i=(dP i).bind λi=>bif Nat.blt i 256 then bif aA (lc.gen l) g then X (.Gt l g (o+i*1))else Z else Z:=k_
def SS:eE ag 345 1 24 I .Ge:=mh
def EG:eE ag 376 2 16 O (.agg [(.int .i64 (0)),(.int .i64 (0))]):=mh
def Yf(s:pb)(i:aa):Bw ag 9 (.str s) i=(dP i).bind λi=>match s.drop i with|b::_=>X (.int .u8 b.toNat)|[]=>Z:=k_
def vw(mk:aI)(b:pb)(s:St):fN ag mk 9 (.str b) s=X (.int .i64 (J b)):=k_
def D3(k:pb):j0 ag 97 (.str k)=X (9,4):=k_
def Jj(a b:pb):jh ag 8 9 (.str a) (.str b)=X (a==b):=k_
attribute[go_sem]aho U3 ahB U1 U2 sw adN uf aA0 LC Eo adM LD Sv Sw aBj adK aEb aeW aD3 aD5 aD6 aEi aEk aEl aEm aEp aeS aeU aeV uD TF aG0 aGL aGV Mz Ig aG1 TE afB alB alT alU Oz Dm OA Dn OB al4 al5 ek bM iO kh XC nj XE SS EG Yf vw ek bM iO kh nj SS EG ek bM iO kh nj SS EG D3 Jj apN aqs apg Zk Ke ZR k51 k88 Ra YP Z4 Zi Kq ZQ
end Go.Proofs.YtakkigoeiahlcaaGreat
namespace Go.Proofs.YtakkigoeiahlcaaGreat
open Go.Ag
def aaa:=(⟨@bS.{0},@cT.{1},@cd⟩:_/\_/\_)
def aah:=(⟨@cF.{1},@cT.{1},@iG,@iK,@fA⟩:_/\_/\_/\_/\_)
def aac:=(⟨@Bool.and_self,@aG.{0,0},@cT.{1}⟩:_/\_/\_)
def aag:=(⟨@List.length_append.{0},@List.length_cons.{0},@List.length_nil.{0}⟩:_/\_/\_)
def aaf:=(⟨@aG.{0,0},@cT.{1}⟩:_/\_)
end Go.Proofs.YtakkigoeiahlcaaGreat
namespace Go.Proofs.YtakkigoeiahlcaaGreat
open Go.Ag
abbrev ae:=pb
def Rm(b:Nat):Bool:=(aP 97 b&&aP b 122)||(aP 65 b&&aP b 90)
def Jg(b:Nat):Bool:=aP 48 b&&aP b 57
def Hc(b:Nat):be->Bool
 |[]=>I
 |x::l=>aA b x||Hc b l
def zy(b:Nat):Nat:=
 bif Rm b then 3 else bif Jg b then 4 else bif Hc b [32,9,10]then 1 else bif Hc b [59,44,46,58,40,41,123,125,91,93,61,60,62,47,45]then 6
 else bif aA b 35 then 2 else bif aA b 95 then 5 else bif aA b 34 then 7 else 0
def w7:Nat->Nat->az
 |0,_=>[]
 |k+1,i=>.int .u8 (zy i:Nat)::w7 k (i+1)
def Vv:aa:=.agg (w7 256 0)
def Md:Sp
 |[]=>X Vv
 |_=>Z
def T1:dy:=[(295,S8)]
def TT:eh T1:=.cons aDs .nil
noncomputable def Jk(t:dy)(n f:Nat)(args:az):Option (aa×Nat):=((bX (QT t) n).call f args [] s0).bind λx=>(b9 x.2.heap 12 x.1).bind λu=>X (u,x.2.ci)
def Me{t:dy}(e:eh t){n f:Nat}{args:az}{u:aa}(h:Jk t n f args=X (u,0)){args':az}(i:di args'=args)(g:dR args'=O)(G:Gh)(a:aB aH)(w:World)(xs:gy)(wr:WR G a w)(d:bL G args' xs):
 kI Tryz.prog f ⟨xs⟩ w λy c=>∃b,WR b a c/\ce G a w b a c 0 0/\VR b u y:=by
 simp only[Jk,Option.bind_eq_some_iff,Option.some.injEq,Prod.mk.injEq]at h;obtain⟨⟨v,p⟩,m,o,l,rfl,j⟩:=h;exact Tb (Q:=QT t) (OX e) (λ_=>Nat.zero_lt_succ 1) g ⟨n,by rw[i];exact m⟩ j ⟨12,l⟩ G a w xs wr d
def alc:Jk T1 3000 134 []=X (Vv,0):=k_
def aDr:cW Tryz.prog 134 Md:=by
 intro a v b G h w c d e;rcases a with _|⟨_,_⟩
 cases b;exact Me TT alc rfl rfl G h w c d e;cases b
def VC:∀k i,(w7 k i).length=k
 |0,_=>rfl
 |k+1,i=>by simp[w7,VC k (i+1)]
def VB:∀(k i j:Nat),j<k->((w7 k i).drop j).head?=X (.int .u8 (zy (i+j):Nat))
 |0,_,_,h=>w_
 |k+1,i,0,_=>by simp[w7]
 |k+1,i,j+1,h=>by
  simp only[w7,List.drop_succ_cons];rw[VB k (i+1) j w_,show i+1+j=i+(j+1)from w_]
end Go.Proofs.YtakkigoeiahlcaaGreat
theorem Go.d_{p:Prop}(h:p:=by decide):p:=h
namespace Go.Proofs.YtakkigoeiahlcaaGreat
open Tryz
open Go.Ag
def small:Nat:=9223372036854775808
def aab:small=9223372036854775808:=rfl
abbrev dt:=ae×ae
def aw(s:ae):aa:=.str s
def bW(t:dt):aa:=.agg [.str t.1,.str t.2]
abbrev N_:=Option ae
def iV:aa->N_
 |.str s=>X s
 |_=>Z
def te:aa->Option dt
 |.agg [.str a,.str b]=>X (a,b)
 |_=>Z
def jB{α β:Type}(g:α->Option β):List α->Option (List β)
 |[]=>X []
 |a::l=>(g a).bind λb=>(jB g l).bind λr=>X (b::r)
def ff{α:Type}(n:Nat)(d:aa->Option α):aa->Option (List α)
 |.Ge=>X []
 |.list m xs _=>bif aA m n then jB d xs else Z
 |_=>Z
variable{v:aa}
theorem pg{s:ae}(h:iV v=X s):v=aw s:=by
 unfold iV at h;split at h;cases h;rfl;cases h
def IV{t:dt}(h:te v=X t):v=bW t:=by
 unfold te at h;split at h;cases h;rfl;cases h
theorem Hb{α:Type}{d:aa->Option α}{enc:α->aa}(i:∀v a,d v=X a->v=enc a):∀{xs:az}{l:List α},jB d xs=X l->xs=l.map enc
 |[],l,h=>by grind [jB]
 |x::xs,l,h=>by
  simp only[jB,ak,aQ]at h;obtain⟨a,p,r,j,rfl⟩:=h;rw[cZ,<-i x a p,<-Hb i j]
theorem zZ{α:Type}{d:aa->Option α}{enc:α->aa}(h:∀a,d (enc a)=X a):∀(l:List α),jB d (l.map enc)=X l
 |[]=>rfl
 |a::l=>by simp only[cZ,jB,h,aG,zZ h l]
variable{n:Nat}{α:Type}
theorem ku{d:aa->Option α}{enc:α->aa}(i:∀v a,d v=X a->v=enc a){l:List α}(h:ff n d v=X l):au n enc v l:=by
 unfold ff at h;split at h;injection h with h;exact .inl ⟨rfl,h.symm⟩
 let⟨h1,h2⟩:=aZ h
 have:=Nat.eq_of_beq_eq_true h1;subst this;rename_i j r;exact .inr ⟨r,by rw[Hb i h2]⟩;cases h
theorem oI{d:aa->Option α}{enc:α->aa}(i:∀a,d (enc a)=X a){l:List α}(h:au n enc v l):ff n d v=X l:=by
 rcases h with⟨rfl,rfl⟩|⟨r,rfl⟩<;>grind [ff,zZ,cd]
theorem B6{enc:α->aa}(d:∀a,bn (enc a)=O)(l:List α):pures (l.map enc)=O:=by
 grind [pures_all]
def m6{enc:α->aa}(d:∀a,bn (enc a)=O){l:List α}(h:au n enc v l):dW v=O/\au n enc (cx v) l:=by
 rcases h with⟨rfl,rfl⟩|⟨r,rfl⟩
 exact⟨rfl,.inl R_⟩;exact⟨by simpa[dW]using B6 d l,.inr (by
  simp only[cx,kF (B6 d l)];exact⟨_,rfl⟩)⟩
def pT(s:ae):bn (aw s)=O:=rfl
def H3(t:dt):bn (bW t)=O:=rfl
def oo(s:ae):iV (aw s)=X s:=rfl
def IW(t:dt):te (bW t)=X t:=rfl
theorem aO(s:St)(n m:Nat)(o:sh):(s.put n o).get [] m=bif m==n then o else s.get [] m:=by
 grind [St.get,St.put,dG,aB.get_set]
theorem ei(s:St)(m:Nat)(o:aH):(s.new o).get [] m=bif m==s.aL then X o else s.get [] m:=by
 grind [St.get,St.new,dG,aB.get_set]
def kB(s:St)(n:Nat)(o:sh):(s.put n o).aL=s.aL:=rfl
def acn(s:St)(o:aH):(s.new o).aL=s.aL+1:=rfl
abbrev df:=List (ae×aa)
def mW(n:Nat):df->MQ
 |[]=>[]
 |(k,v)::l=>⟨.str k,v,n⟩::mW (n+1) l
def look(k:ae):df->er
 |[]=>Z
 |(a,v)::l=>bif k==a then X v else look k l
def xZ(k:ae):df->Nat
 |[]=>0
 |(a,_)::l=>bif k==a then 0 else xZ k l+1
variable{l:df}{m:Nat}{s:St}{e t:TypeId}
section
variable{P:Program}{kt:TypeId}(heq:∀a b:pb,jh P 8 kt (.str a) (.str b)=some (a==b))
include heq
theorem OG:∀(l:df)(k:ae)(n i:Nat),mX P kt (.str k) (mW n l) i=X ((look k l).map λv=>(i+xZ k l,⟨.str k,v,n+xZ k l⟩))
 |[],k,n,i=>rfl
 |(a,v)::l,k,n,i=>by
  simp only[mW,mX,heq,aG,look,xZ];cases h:k==a;simp only[cF];rw[OG l k (n+1) (i+1)]
  grind
  grind
theorem awE{z:aa}(i:∀k:pb,j0 P t (.str k)=X (kt,e))(d:dC P e=X z){c:Nat}(h:s.get [] m=X (.map (mW 0 l) c))(k:ae):
 mB P [] t (.map m) (.str k) I s=X ((look k l).getD z):=by
 simp only[mB,i,aG,d,zX,h,OG heq l k 0 0];cases look k l<;>rfl
end
def V7:∀(l r:df)(n:Nat),mW n (l++r)=mW n l++mW (n+J l) r
 |[],r,n=>rfl
 |(a,v)::l,r,n=>by simp only[uH,mW,V7 l r (n+1),bP];congr 3;omega
def tN(k:ae)(v:aa):df->df
 |[]=>[(k,v)]
 |(a,u)::l=>bif k==a then(k,v)::l else(a,u)::tN k v l
def X2{k:ae}{v:aa}:∀{l},look k l=Z->tN k v l=l++[(k,v)]
 |[],_=>rfl
 |(a,u)::l,h=>by
  simp only[look]at h;simp only[tN];cases h1:k==a;rw[h1]at h;simp only[cF,X2 h,uH];rw[h1]at h;cases h
def V8{k:ae}{u v:aa}:∀{l:df}{n:Nat},look k l=X u->(mW n l).set (xZ k l) ⟨.str k,v,n+xZ k l⟩=mW n (tN k v l)
 |[],_,h=>by cases h
 |(a,w)::l,n,h=>by
  simp only[look]at h;simp only[tN,xZ,mW];cases h1:k==a;rw[h1]at h;simp only[cF,List.set_cons_succ,mW];rw[<-V8 (l:=l) (n:=n+1) h,show n+(xZ k l+1)=n+1+xZ k l from w_];simp[mW]
theorem aFt{P:Program}{kt:TypeId}(heq:∀a b:pb,jh P 8 kt (.str a) (.str b)=X (a==b))(p:∀k:pb,j0 P t (.str k)=X (kt,e))(j:s.get [] m=X (.map (mW 0 l) (J l)))(k:ae)(v:aa):
 mN P [] t (.map m) (.str k) v s=X (s.put m (X (.map (mW 0 (tN k v l)) (tN k v l).length))):=by
 have d:∀{l:df}{u:aa},look k l=X u->(tN k v l).length=J l:=by
  intro l
  induction l with
  |nil=>intro u h;cases h
  |cons x l q=>
   grind [look,tN]
 simp only[mN,p,aG,j,OG heq l k 0 0];rcases h:look k l with _|u
 simp only[aag,Option.map_none,X2 h,V7,dS];rfl;have i:pG (.str k) (.str k)=O:=by simp[pG,sD]
 simp only[Option.map_some,i,cT,d h]
 have:=V8 (v:=v) (n:=0) h
 grind
def zR(b:UInt8):Bool:=Rm b.toNat
def Gk(b:UInt8):Bool:=Jg b.toNat
def BK(s:ae):Bool:=s.all λb=>zR b||Gk b||aA b.toNat 95
def eA(s:ae):Bool:=match s with|[]=>I|b::r=>zR b&&BK r&&Nat.ble (b::r).length 24
def jq:Sp
 |[.str s]=>bif bq (J s) small then X (.bool (eA s))else Z
 |_=>Z
def xR{s:ae}(h:J s<small):jq [.str s]=X (.bool (eA s)):=by
 simp only[jq,qL,h,dT,cT]
def Ho(i:Nat)(b:UInt8):Bool:=zR b||(!(i==0)&&(Gk b||(b.toNat==95)))
def tU:Nat->ae->Bool
 |_,[]=>O
 |i,b::r=>Ho i b&&tU (i+1) r
def aca:∀(s:ae)(i:Nat),tU (i+1) s=BK s
 |[],_=>rfl
 |b::r,i=>by
  simp only[tU,BK,List.all_cons];rw[aca r (i+1)];simp[Ho,BK,Bool.or_assoc,cd]
def ajC(b:UInt8):aj ((zy b.toNat:Nat):Int) 3=zR b:=by
 rw[show(3:Int)=((3:Nat):Int)from rfl,zP];unfold zy zR;cases Rm b.toNat;simp only[cF];cases Jg b.toNat;simp only[cF];cases Hc b.toNat [32,9,10];simp only[cF];cases Hc b.toNat [59,44,46,58,40,41,123,125,91,93,61,60,62,47,45];simp only[cF];cases aA b.toNat 35<;>cases aA b.toNat 95<;>cases aA b.toNat 34<;>rfl;rfl;rfl;rfl;rfl
def VD:(List.range 256).all (λn=>(aA (zy n) 4==Jg n)&&(aA (zy n) 5==aA n 95))=O:=by decide+kernel
def ajD(b:UInt8):aj ((zy b.toNat:Nat):Int) 4=Gk b:=by
 rw[show(4:Int)=((4:Nat):Int)from rfl,zP,<-cd]
 have:=fO.1 VD b.toNat (yL.2 b.toNat_lt);simp only[bg,bE]at this;exact this.1
def ajE(b:UInt8):aj ((zy b.toNat:Nat):Int) 5=(b.toNat==95):=by
 rw[<-cd b.toNat,show(5:Int)=((5:Nat):Int)from rfl,zP,<-cd]
 have:=fO.1 VD b.toNat (yL.2 b.toNat_lt);simp only[bg,bE]at this;exact this.2
variable{Q:ay}[Std Q]
attribute[go_sem]Q0 aoU
variable{K:hP}{str:ae}
def axd(q:J str<small){g:Nat}{lc:Ag.Loc}(U:lc.gen 3=g)(T:lc.get 3 g=X (w7 256 0))(N:∀e,ac e 0=.str str->tU 0 str=O->K (.exit 0) ⟨e,39,lc⟩ s)(S:∀e,ac e 2=.bool I->tU 0 str=I->K .ret ⟨e,39,lc⟩ s):
 ∀(rest d:ae)(e:ax),str=d++rest->tU 0 str=tU (J d) rest->ac e 0=.str str->ac e 3=.Gt 3 g 0->ac e 8=an (J str)->ac e 9=an (J d)->W Q 84 (.loop Q5) ⟨e,39,lc⟩ s K:=by
 have R:=aab;intro rest
 induction rest with
 |nil=>
  intro d e p E x G w F;have C:=cL p;refine aF ?_;simp only[go_sem,seval,Q5,w,F,C,bJ];exact N _ (by simp only[sN,seval,x]) (by rw[E];rfl)
 |cons b rest M=>
  intro d e p E x G w F;have B:J d<J str:=by rw[p];simp
  have i:str.drop (J d)=b::rest:=by rw[p];simp
  have H:=b.toNat_lt;have h:=VB 256 0 b.toNat H;rw[dS]at h;have y:=yy (n:=J d) w_;have D:aj (J d:Int) 0=(J d==0):=zP _ 0;have j:Ho (J d) b=(zR b||(!(J d==0)&&(Gk b||(b.toNat==95)))):=rfl;have A:tU 0 str=(Ho (J d) b&&tU (d++[b]).length rest):=by rw[E,bI];rfl
  refine aF ?_;cases hL:zR b<;>cases hz:J d==0<;>cases hD:Gk b<;>cases hU:b.toNat==95<;>simp only[hL,hz,hD,hU,yC,AK,sO,uF,Bool.and_true,Bool.and_false]at j<;>rw[j]at A<;>simp only[go_sem,seval,Q5,x,G,w,F,B,Yf,XE,adN,i,H,U,T,h,ajC,ajD,ajE,hL,hz,hD,hU,D,y,Nat.mul_one]<;>
   first|exact S _ (by simp only[sN,seval]) A|exact M (d++[b]) _ (db p) A (by simp only[sN,seval,x]) (by simp only[sN,seval,G]) (by simp only[sN,seval,w]) (by simp only[aag,sN,seval])
def axf(p:Q.spec 134=X Md)(B:No Q 84)(d:J str<small)(s:St):ai Q 84 [.str str] s (.bool (eA str)) s:=by
 have h:Md []=X (.agg (w7 256 0)):=rfl;have q:=VC 256 0;have x:dC ag 232=X (.agg (fD [.int .u8 0] 256)):=k_
 have j:(fD [aa.int .u8 0] 256).length=256:=k_
 have A:List.drop 256 (fD [aa.int .u8 0] 256)=[]:=E9 (by rw[j];omega);have y:eA str=(tU 0 str&&(!(str== [])&&bT (J str:Int) 24)):=by
  rcases str with _|⟨b,r⟩
  rfl;have w:bT ((b::r).length:Int) 24=decide ((b::r).length<=24):=O6 _ 24;simp only[tU,aca r 0,Ho,eA,ach,w];simp
 refine ai.ofNZ au0 (aM ?_);rw[y];simp only[go_sem,seval,p,h,x,j,A,q,aeV,Nat.le_refl];refine axd d (g:=1) ?_ ?_ (λe D i=>?_) (λe C i=>?_) str [] _ rfl rfl ?_ ?_ ?_ ?_;rfl;rfl;cases hb:str== []<;>simp only[go_sem,seval,D,i,hb,vw];simp only[go_sem,seval,C,i]
 all_goals first|(simp only[sN,seval];done)|(simp only[sN,seval];rfl)|rfl
def T2:dy:=(134,Md)::T1
def TU:eh T2:=.cons aDr TT
def Hi:cW ag 84 jq:=by
 refine mL TU λh v d=>?_;unfold jq at d;split at d
 let⟨h1,d⟩:=aZ d
 cases d;exact⟨rfl,_,s0,axf rfl R_ (gS h1) s0,rfl,1,rfl⟩;cases d
def Mp(last:ae)(t:dt):Bool:= !eA t.1||Ag.leBytes t.1 last||(t.2== [])||decide (200<J t.2)
abbrev wf:=List dt
def uA:ae->wf->Bool
 |_,[]=>O
 |last,t::r=>bif Mp last t then I else uA t.1 r
def jt(l:wf):Bool:=uA [] l&&decide (J l<=60)
attribute[go_sem]Q6 aoV
variable{l:wf}
def aEu(i:Q.spec 84=X jq)(H:au 2 bW v l)(U:∀t∈l,J t.1<small)(j:J l<small)(R:∀e lc,ac e 0=v->uA [] l=O->K (.exit 0) ⟨e,39,lc⟩ s)(T:∀e lc,ac e 2=.bool I->uA [] l=I->K .ret ⟨e,39,lc⟩ s):
 ∀(rest d:wf)(e:ax)(lc:Ag.Loc)(last:ae),l=d++rest->uA [] l=uA last rest->ac e 0=v->ac e 6=v->ac e 7=an (J l)->ac e 8=an (J d)->ac e 3=.str last->W Q 85 (.loop Q7) ⟨e,39,lc⟩ s K:=by
 have S:=aab;have D:=H.gt;intro rest
 induction rest with
 |nil=>
  intro d e lc last p E w G q F M;have A:=cL p;refine aF ?_;simp only[go_sem,seval,Q7,q,F,A,bJ];exact R _ _ (by simp only[sN,seval,w]) (by rw[E];rfl)
 |cons t rest N=>
  intro d e lc last p E w G q F M
  let⟨hlt,hat⟩:=cR p
  have C:=λlc k=>H.at kh.2.2.1 hat lc k;have h:=xR (U t (cq hat));have x:=yy (n:=J d) w_;have B:aR 200 (J t.2:Nat)=decide (200<J t.2):=JL 200 _;have y:uA [] l=(!(!eA t.1||Ag.leBytes t.1 last||(t.2== [])||decide (200<J t.2))&&uA t.1 rest):=by
   rw[E,uA,Mp];cases (!eA t.1||Ag.leBytes t.1 last||(t.2== [])||decide (200<J t.2))<;>rfl
  refine aF ?_;cases hb1:eA t.1<;>cases hb2:Ag.leBytes t.1 last<;>cases hb3:t.2== []<;>cases hb4:decide (200<J t.2)<;>rw[hb1]at h<;>simp only[hb1,hb2,hb3,hb4,yC,AK,sO,uF,jo,lZ,Bool.true_or]at y<;>simp only[go_sem,seval,Q7,w,M,G,q,F,hlt,D,C,bW,i,h,hb2,hb3,B,hb4,vw,x]<;>
   first|exact T _ _ (by simp only[sN,seval]) y|exact N (d++[t]) _ _ t.1 (by rw[p];simp) y (by simp only[sN,seval,w]) (by simp only[sN,seval,G]) (by simp only[sN,seval,q]) (by simp only[aag,sN,seval]) (by simp only[sN,seval])
def aEv(p:Q.spec 84=X jq)(x:No Q 85)(q:au 2 bW v l)(y:∀t∈l,J t.1<small)(d:J l<small)(s:St):ai Q 85 [v] s (.bool (jt l)) s:=by
 have h:=q.lenS kh;have j:=q.gt;have w:bT (J l:Int) 60=decide (J l<=60):=O6 _ 60;refine ai.ofNZ au1 (aM ?_);simp only[go_sem,seval,j,h,jt];refine aEu p q y d (λe lc B i=>?_) (λe lc A i=>?_) l [] _ _ [] rfl rfl ?_ ?_ ?_ ?_ ?_;simp only[go_sem,seval,B,i,j,h,w];simp only[go_sem,seval,A,i]
 all_goals first|(simp only[sN,seval];done)|(simp only[sN,seval];rfl)|rfl
def Ci:wf->Bool
 |[]=>O
 |t::l=>bq (J t.1) small&&Ci l
def ST:∀{l:wf},Ci l=O->∀t∈l,J t.1<small
 |[],_,_,h=>by cases h
 |a::l,h,t,d=>by
  simp only[Ci,bg]at h;rcases dD.1 d with rfl|d
  exact gS h.1;exact ST h.2 t d
def SU:∀{l:wf},(∀t∈l,J t.1<small)->Ci l=O
 |[],_=>rfl
 |a::l,h=>by
  simp only[Ci,bg];exact⟨bG (h a (by simp)),SU λt d=>h t (by simp[d])⟩
def AA:Sp
 |[v]=>(ff 2 te v).bind λl=>bif bq (J l) small&&Ci l then X (.bool (jt l))else Z
 |_=>Z
def aeY(h:au 2 bW v l)(h1:J l<small)(d:∀t∈l,J t.1<small):AA [v]=X (.bool (jt l)):=by
 simp only[go_sem,AA,oI IW h,h1,SU d]
def T3:dy:=(84,jq)::T2
def TW:eh T3:=.cons Hi TU
def aeZ:cW ag 85 AA:=by
 refine mL TW λh u d=>?_;unfold AA at d;split at d;rename_i v;simp only[ak]at d
 let⟨l,h1,d⟩:=d
 let⟨h2,d⟩:=aZ d
 cases d;simp only[bg]at h2
 let⟨ht,hw⟩:=m6 H3 (ku (λ_ _=>IV) h1)
 exact⟨by simp only[dR,ht,bZ],_,s0,aEv rfl R_ hw (ST h2.2) (gS h2.1) s0,rfl,1,rfl⟩;cases d
def yx(k:Int):ae:=bif aj k 1 then [110,111,100,101]else bif aj k 2 then [119,97,121]else bif aj k 3 then [97,114,101,97]else bif aj k 4 then [114,111,117,116,101]else bif aj k 5 then [116,117,114,110]else []
def Ia:Sp
 |[.int .i64 k]=>X (.str (yx k))
 |_=>Z
attribute[go_sem]k83 aoT k89 aoW
section
variable{Q:ay}[Std Q]
def aF1(d:No Q 83){k:Int}(h:k<0\/6<=k)(s:St):ai Q 83 [.int .i64 k] s (.str []) s:=by
 refine ai.ofNZ auZ (aM ?_);cases h1:aR k 0<;>cases h2:bT 6 k
 have:=of_decide_eq_false h1
 have:=of_decide_eq_false h2;omega
 all_goals simp only[go_sem,seval,h1,h2,U2,afB,dL,aeU]
end
theorem oH{a b:Int}(h:a≠b):aj a b=I:=bN.2 h
def aFZ:cW ag 83 Ia:=by
 intro args u i G h w j p q;unfold Ia at i;split at i
 ·rename_i k
  cases i;have d:(k<0\/6<=k)\/k=0\/k=1\/k=2\/k=3\/k=4\/k=5:=w_
  rcases d with y|rfl|rfl|rfl|rfl|rfl|rfl
  have x:yx k=[]:=by
   simp only[yx,oH (show k≠1 from w_),oH (show k≠2 from w_),oH (show k≠3 from w_),oH (show k≠4 from w_),oH (show k≠5 from w_),cF]
  rw[x];exact Tb (Q:=QT []) (OX .nil) (λ_=>Nat.zero_lt_succ 1) (args:=[.int .i64 k]) (v:=.str []) (s':=s0) rfl (aF1 R_ y s0) rfl ⟨1,rfl⟩ G h w j p q
  all_goals exact Me (n:=100) .nil k_ (args':=[.int .i64 _]) rfl rfl G h w j p q
 cases i
def xL(k:Int):Nat:=bif aj k 2 then 2 else bif aj k 3 then 3 else bif aj k 4 then 1 else bif aj k 5 then 3 else 0
def DP:Sp
 |[.int .i64 k]=>bif bT 0 k&&aR k 6 then X (.int .i64 (xL k:Nat))else Z
 |_=>Z
def avJ:cW ag 86 DP:=by
 intro j u i G h w p q x;unfold DP at i;split at i;rename_i k
 let⟨hk,i⟩:=aZ i
 cases i;simp only[bT,aR,bg,dE]at hk;have d:k=0\/k=1\/k=2\/k=3\/k=4\/k=5:=w_
 rcases d with rfl|rfl|rfl|rfl|rfl|rfl<;>exact Me (n:=100) .nil k_ (args':=[.int .i64 _]) rfl rfl G h w p q x
 cases i
def Ab(x y:Int):Bool:=bT 0 x&&aR x 1048576&&bT 0 y&&aR y 1048576
def Hs:Sp
 |[.agg [.int .i64 x,.int .i64 y]]=>X (.bool (Ab x y))
 |_=>Z
def ayt{Q:ay}[Std Q](d:No Q 89)(x y:Int)(s:St):ai Q 89 [.agg [.int .i64 x,.int .i64 y]] s (.bool (Ab x y)) s:=by
 refine ai.ofNZ au4 (aM ?_);cases h1:bT 0 x<;>cases h2:aR x 1048576<;>cases h3:bT 0 y<;>simp only[go_sem,seval,h1,h2,h3,Ab]
def ays:cW ag 89 Hs:=by
 refine mL (T:=[]) .nil λh u d=>?_;unfold Hs at d;split at d;cases d;exact⟨rfl,_,s0,ayt R_ _ _ s0,rfl,1,rfl⟩;cases d
def T4:dy:=(83,Ia)::(86,DP)::(89,Hs)::(85,AA)::T3
def TX:eh T4:=.cons aFZ (.cons avJ (.cons ays (.cons aeZ TW)))
def zV(P:Program)(t:TypeId)(off:Nat):sh->er
 |some (.cells cs)=>gQ P t cs off
 |some (.fix (.cells cs))=>gQ P t cs off
 |_=>Z
theorem xO(P:Program)(mk:aI)(t:TypeId)(n off:Nat)(lc:Ag.Loc)(s:St):lh P mk t (.ptr n off) lc s=zV P t off (s.get mk n):=by
 simp only[lh];rcases s.get mk n with _|o
 rfl;cases o with
 |fix o=>cases o<;>rfl
 |_=>rfl
def Rq(P:Program)(t:TypeId)(off:Nat)(cs:az):zV P t off (X (.fix (.cells cs)))=gQ P t cs off:=rfl
theorem qF(P:Program)(t:TypeId)(off:Nat)(cs:az):zV P t off (X (.cells cs))=gQ P t cs off:=rfl
noncomputable def ET(lc:Ag.Loc)(s:St)(m off:Nat)(v:aa):sh->Option (Ag.Loc×St)
 |some (.cells cs)=>(gR cs off v.cells).bind λd=>X (lc,s.put m (X (.cells d)))
 |_=>Z
def dh(P:Program)(mk:aI)(t:TypeId)(m off:Nat)(v:aa)(lc:Ag.Loc)(s:St):ur P mk t (.ptr m off) v lc s=(cS P t).bind λn=>bif aA (J v.cells) n&&bq 0 n then ET lc s m off v (s.get mk m)else Z:=by
 simp only[ur];rcases s.get mk m with _|o
 rfl;cases o<;>rfl
def dq(lc:Ag.Loc)(s:St)(m off:Nat)(v:aa)(cs:az):ET lc s m off v (X (.cells cs))=(gR cs off v.cells).bind λd=>X (lc,s.put m (X (.cells d))):=rfl
abbrev cf:=List ae
structure Obj where
 id:ae
 Al:Int
 x:Int
 y:Int
 refsV:aa
 tagsV:aa
 gT:cf
 uP:wf
def Obj.cells(o:Obj):az:=[.str o.id,.int .i64 o.Al,.int .i64 o.x,.int .i64 o.y,o.refsV,o.tagsV]
def Obj.val(o:Obj):aa:=.agg o.cells
structure Obj.Ok (o:Obj):Prop where
 gT:au 1 aw o.refsV o.gT
 uP:au 2 bW o.tagsV o.uP
 id:o.id.length<small
 reflen:o.gT.length<small
 ref:∀r∈o.gT,r.length<small
 taglen:o.uP.length<small
 key:∀t∈o.uP,t.1.length<small
def v6(d:cf):df:=d.map λk=>(k,.bool O)
def abP(k:ae):∀d,look k (v6 d)=bif d.contains k then X (.bool O)else Z
 |[]=>rfl
 |a::d=>by
  have h:=abP k d;simp only[v6,cZ,look,List.contains_cons]at h⊢;rw[h];cases k==a<;>simp
def awC(k:ae)(d:cf):(look k (v6 d)).getD (.bool I)=.bool (d.contains k):=by
 rw[abP];cases d.contains k<;>rfl
def CM(k:ae)(d:cf):cf:=bif d.contains k then d else d++[k]
def X3(k:ae):∀d,tN k (.bool O) (v6 d)=v6 (CM k d)
 |[]=>rfl
 |a::d=>by
  have i:=X3 k d;simp only[v6,cZ,tN,CM,List.contains_cons]at i⊢;cases h:k==a;simp only[cF,AI,i];cases d.contains k<;>simp;have:k=a:=by simpa using h
  subst this;simp
def TC(Al:Int)(last:ae)(seen:cf)(r:ae):Bool:=((aj Al 2&&(r==last))||(aj Al 3&&seen.contains r))|| !eA r
structure qg (s:St) (o:Obj) (po pl ps m:Nat) (last:ae) (seen:cf):Prop where
 ho:s.get [] po=some (.cells o.cells)
 hl:s.get [] pl=some (.cells [.str last])
 hs:s.get [] ps=some (.cells [.map m])
 hm:s.get [] m=some (.map (mW 0 (v6 seen)) (v6 seen).length)
 d1:(pl==m)=false
 d2:(po==m)=false
 d3:(po==pl)=false
 d4:(ps==m)=false
 d5:(ps==pl)=false
 d6:(m==pl)=false
noncomputable def qg.aL(s:St)(d m:Nat)(seen:cf)(r:ae):St:=(s.put m (X (.map (mW 0 (v6 (CM r seen))) (v6 (CM r seen)).length))).put d (X (.cells [.str r]))
variable{seen:cf}{o:Obj}{last:ae}
def qg.after{h d ps:Nat}(c:qg s o h d ps m last seen)(r:ae):qg (qg.aL s d m seen r) o h d ps m r (CM r seen):=by
 refine⟨?_,?_,?_,?_,c.d1,c.d2,c.d3,c.d4,c.d5,c.d6⟩<;>simp only[qg.aL,aO,c.d1,c.d2,c.d3,c.d4,c.d5,c.d6,bS,cT,cF,c.ho,c.hs]
attribute[go_sem]k87
def aF9{Q:ay}[Std Q](i:Q.spec 84=X jq)(q:No Q 87){w j ps:Nat}(c:qg s o w j ps m last seen){r:ae}(A:J r<small):
 ai Q 87 [.str r,.ptr w 0,.ptr j 0,.ptr ps 0] s (.bool (TC o.Al last seen r)) (qg.aL s j m seen r):=by
 have p:=xR A;have d:=awE Jj D3 TF c.hm r;rw[awC]at d;have h:=aFt Jj D3 c.hm r (.bool O);rw[X3]at h;have x:=c.ho;have B:=c.hl;have y:=c.hs;have C:=c.d1;simp only[Obj.cells]at x;refine ai.ofNZ au2 (aM ?_);cases hk2:aj o.Al 2<;>cases he:r==last<;>cases hk3:aj o.Al 3<;>cases hc:seen.contains r<;>rw[hc]at d<;>simp only[go_sem,seval,xO,qF,dh,dq,aO,NP,Dm,sw,adM,uf,aeW,x,B,y,C,hk2,he,hk3,d,h,i,p,qg.aL,TC,hc]
def JJ(t e:TypeId):SC:=
 (.seq (.region [⟨X 9,.binOp .lss 3 (.tmp 8) (.tmp 7) 3,.aw⟩])
 (.seq (.cond (.tmp 9) .skip (.exit 0))
 (.seq (.block 1 (.seq (.region [⟨X 10,.move (.tmp 8),.aw⟩,⟨X 5,.assign (.tmp 10),.aw⟩])
 (.seq (.region [⟨X 11,.move (.tmp 1),.aw⟩,⟨X 12,.move (.tmp 0),.aw⟩,⟨X 13,.move (.tmp 5),.aw⟩,⟨X 14,.indexAddr t (.tmp 12) (.tmp 13),.aw⟩,⟨X 15,.load e (.tmp 14),.aw⟩,⟨X 16,.call ⟨.value (.tmp 11),#[.tmp 15],#[e]⟩,.aw⟩])
 (.cond (.tmp 16) (.seq (.region [⟨X 17,.move (.tmp 5),.aw⟩,⟨X 4,.assign (.tmp 17),.aw⟩]) .ret) .skip))))
 (.region [⟨X 18,.binOp .add 3 (.tmp 8) (.const (.int .i64 1)) 3,.aw⟩,⟨X 8,.move (.tmp 18),.aw⟩]))))
def XR(t e:TypeId):SC:=
 (.seq (.region [⟨X 4,.assign (.const (.int .i64 0)),.aw⟩])
 (.seq (.seq (.region [⟨X 6,.move (.tmp 0),.aw⟩,⟨X 7,.call ⟨.builtin .len,#[.tmp 6],#[t]⟩,.aw⟩,⟨X 8,.move (.const (.int .i64 0)),.aw⟩])
 (.block 0 (.loop (JJ t e))))
 (.seq (.region [⟨X 4,.assign (.const (.int .i64 (-1))),.aw⟩]) .ret)))
def NQ(t c:TypeId)(f:FuncId):SC:=
 (.seq (.region [⟨X 4,.assign (.const (.bool I)),.aw⟩])
 (.seq (.region [⟨X 5,.move (.tmp 0),.aw⟩,⟨X 6,.move (.tmp 1),.aw⟩,⟨X 7,.call ⟨.value (.func f),#[.tmp 5,.tmp 6],#[t,c]⟩,.aw⟩,⟨X 8,.binOp .geq 3 (.tmp 7) (.const (.int .i64 0)) 3,.aw⟩,⟨X 4,.assign (.tmp 8),.aw⟩]) .ret))
structure sW (f:FuncId) (t e:TypeId):Prop where
 ex:∃fn,ag.funcs[f]?=some fn/\fn.body.map dX=some (XR t e)/\fn.ntmps=19/\fn.results.toList=[.tmp 4]
 hr:hrow f=[]
structure yT (f:FuncId) (t c:TypeId) (g:FuncId):Prop where
 ex:∃fn,ag.funcs[f]?=some fn/\fn.body.map dX=some (NQ t c g)/\fn.ntmps=9/\fn.results.toList=[.tmp 4]
 hr:hrow f=[]
def io{α:Type}(p:α->Bool):List α->Nat->Int
 |[],_=> -1
 |x::l,i=>bif p x then(i:Int)else io p l (i+1)
def JC{α:Type}(p:α->Bool):∀(l:List α)(i:Nat),bT 0 (io p l i)=l.any p
 |[],_=>rfl
 |x::l,i=>by
  simp only[io,List.any_cons];cases p x;exact JC p l (i+1);simp[bT]
abbrev v_:=Nat->St->Prop
variable{f':FuncId}{P:v_}{c:TypeId}
section
variable{Q:ay}[Std Q]{f:FuncId}{t e:TypeId}{α:Type}{enc:α->aa}{n b:Nat}{gg:Bool}{z:aa}{sv:aa}{l:List α}{g:FuncId}{cap:az}{s:St}
def aq1(F:sW f t e)(S:eE ag t n b gg z)(T:au n enc sv l)(U:J l<small)(A:∀x∈l,gQ ag e (enc x).cells 0=X (enc x)/\(enc x).gt=O)(C:Q.spec g=Z){D:v_}(hg:∀i x s,l[i]?=X x->P i s->∃b q,ai Q g (enc x::cap) s (.bool b) q/\(b=I->P (i+1) q)/\(b=O->D i q)){lc:Ag.Loc}(hx:∀e s,P (J l) s->K (.exit 0) ⟨e,19,lc⟩ s)(hr:∀(i:Nat) e s,D i s->ac e 4=an i->K .ret ⟨e,19,lc⟩ s):
 ∀(m i:Nat)(E:ax)(s:St),i+m=J l->P i s->ac E 0=sv->ac E 1=.func (.func g) [] cap->ac E 7=an (J l)->ac E 8=an i->W Q f (.loop (JJ t e)) ⟨E,19,lc⟩ s K:=by
 have a0:=aab;have N:=F.hr;have H:=T.gt;intro m
 induction m with
 |zero=>
  intro i E s V M R G w p;have j:i=J l:=V;refine aF ?_;simp only[go_sem,seval,JJ,w,p,j,bJ];exact hx _ _ (j▸M)
 |succ m Y=>
  intro i E s V M R G w p;have h:i<J l:=w_
  obtain⟨x,d⟩:∃x,l[i]?=X x:=⟨_,dA h⟩;have B:=λlc k=>T.at S.2.2.1 d lc k
  let⟨hr1,hr2⟩:=A x (cq d)
  have y:=yy (n:=i) w_
  let⟨b,q,hrun,hp,hd⟩:=hg i x s d M
  refine aF ?_;simp only[go_sem,seval,JJ,R,G,w,p,h,H,B,hr1,hr2,C,N];refine aU.of hrun d_ ?_;cases b;simp only[go_sem,seval,p,y];exact Y (i+1) _ _ w_ (hp rfl) (by simp only[sN,seval,R]) (by simp only[sN,seval,G]) (by simp only[sN,seval,w]) (by simp only[sN,seval]);simp only[go_sem,seval];exact hr i _ _ (hd rfl) (by simp only[sN,seval,p])
def XK(F:sW f t e)(H:No Q f)(S:eE ag t n b gg z)(p:au n enc sv l)(j:J l<small)(q:∀x∈l,gQ ag e (enc x).cells 0=X (enc x)/\(enc x).gt=O)(y:Q.spec g=Z){D:v_}(B:∀i x s,l[i]?=X x->P i s->∃b d,ai Q g (enc x::cap) s (.bool b) d/\(b=I->P (i+1) d)/\(b=O->D i d))(C:P 0 s):
 ∃v d,ai Q f [sv,.func (.func g) [] cap] s v d/\((v=ah (-1)/\P (J l) d)\/∃i:Nat,v=an i/\D i d):=by
 have w:=p.lenS S;have A:=p.gt;have E:=F.hr
 let⟨fn,k1,k2,k3,k4⟩:=F.ex
 refine ai.ofNR k1 k2 k3 k4 (aM ?_);simp only[go_sem,seval,XR,w,A,E];refine aq1 F S p j q y B (λe s h=>?_) (λi e s h G=>?_) (J l) 0 _ s (dS _) C ?_ ?_ ?_ ?_;simp only[go_sem,seval];exact⟨_,rfl,.inl ⟨rfl,h⟩⟩;simp only[go_sem,seval,G];exact⟨_,rfl,.inr ⟨i,rfl,h⟩⟩
 all_goals first|(simp only[sN,seval];done)|(simp only[sN,seval];rfl)|rfl
def XJ(F:sW f t e)(C:No Q f)(S:eE ag t n b gg z)(E:au n enc sv l)(w:J l<small)(y:∀x∈l,gQ ag e (enc x).cells 0=X (enc x)/\(enc x).gt=O)(B:Q.spec g=Z){p:α->Bool}(G:∀x∈l,ai Q g (enc x::cap) s (.bool (p x)) s):ai Q f [sv,.func (.func g) [] cap] s (ah (io p l 0)) s:=by
 let⟨v,j,hr,h⟩:=XK (cap:=cap) F C S E w y B (P:=λi j=>j=s/\io p l 0=io p (l.drop i) i) (D:=λi j=>j=s/\io p l 0=(i:Int)) (λi x j A h=>by
  obtain⟨rfl,d⟩:=h;have q:=(ie.1 A).1;have H:l.drop i=x::l.drop (i+1):=by rw[yF q,<-sI ((dA q).symm.trans A)]
  rw[H,io]at d;refine⟨p x,_,G x (cq A),λe=>⟨rfl,?_⟩,λe=>⟨rfl,?_⟩⟩<;>rw[d,e]<;>rfl) (s:=s) R_
 rcases h with⟨rfl,rfl,d⟩|⟨i,rfl,rfl,d⟩
 rw[List.drop_length,io]at d;rw[d];exact hr;rw[d];exact hr
abbrev Q_:=St->Prop
def Xa(C:yT f' t c f)(wc:No Q f')(F:sW f t e)(B:No Q f)(S:eE ag t n b gg z)(A:au n enc sv l)(j:J l<small)(p:∀x∈l,gQ ag e (enc x).cells 0=X (enc x)/\(enc x).gt=O)(q:Q.spec g=Z){D:Q_}(E:∀i x s,l[i]?=X x->P i s->∃b d,ai Q g (enc x::cap) s (.bool b) d/\(b=I->P (i+1) d)/\(b=O->D d))(G:P 0 s):
 ∃v d,ai Q f' [sv,.func (.func g) [] cap] s v d/\((v=.bool I/\P (J l) d)\/(v=.bool O/\D d)):=by
 have w:=A.gt
 let⟨v,d,hr,h⟩:=XK F B S A j p q (D:=λ_=>D) E G
 let⟨fn,k1,k2,k3,k4⟩:=C.ex
 refine ai.ofNR k1 k2 k3 k4 (aM ?_);simp only[go_sem,seval,NQ,w];refine aU.of hr d_ ?_;rcases h with⟨rfl,h⟩|⟨i,rfl,h⟩
 have y:bT 0 (-1)=I:=rfl;simp only[go_sem,seval,y];exact⟨_,rfl,.inl ⟨rfl,h⟩⟩;have y:bT 0 (i:Int)=O:=dQ w_;simp only[go_sem,seval,y];exact⟨_,rfl,.inr ⟨rfl,h⟩⟩
def Gb(C:yT f' t c f)(wc:No Q f')(F:sW f t e)(w:No Q f)(S:eE ag t n b gg z)(q:au n enc sv l)(d:J l<small)(h:∀x∈l,gQ ag e (enc x).cells 0=X (enc x)/\(enc x).gt=O)(i:Q.spec g=Z){p:α->Bool}(y:∀x∈l,ai Q g (enc x::cap) s (.bool (p x)) s):ai Q f' [sv,.func (.func g) [] cap] s (.bool (l.any p)) s:=by
 have j:=q.gt
 let⟨fn,k1,k2,k3,k4⟩:=C.ex
 refine ai.ofN k1 k2 k3 k4 (aM ?_);simp only[go_sem,seval,NQ,j];refine aU.of (XJ F w S q d h i y) d_ ?_;simp only[go_sem,seval,U5,JC]
end
def EK(h:n<=1000000):n<small:=Nat.lt_of_le_of_lt h d_
def XP:sW 135 25 9:=⟨⟨_,func135,k_,k_,k_⟩,k_⟩
def XQ:sW 255 22 47:=⟨⟨_,func255,k_,k_,k_⟩,k_⟩
def aq0:sW 287 138 44:=⟨⟨_,func287,k_,k_,k_⟩,k_⟩
def aqZ:sW 211 27 105:=⟨⟨_,func211,k_,k_,k_⟩,k_⟩
def aqX:sW 261 294 24:=⟨⟨_,func261,k_,k_,k_⟩,k_⟩
def aqY:sW 133 30 51:=⟨⟨_,func133,k_,k_,k_⟩,k_⟩
def Vm:yT 88 25 173 135:=⟨⟨_,func88,k_,k_,k_⟩,k_⟩
def aiW:yT 196 22 96 255:=⟨⟨_,func196,k_,k_,k_⟩,k_⟩
def aiX:yT 238 138 176 287:=⟨⟨_,func238,k_,k_,k_⟩,k_⟩
def aiV:yT 136 27 237 211:=⟨⟨_,func136,k_,k_,k_⟩,k_⟩
def aiT:yT 202 294 67 261:=⟨⟨_,func202,k_,k_,k_⟩,k_⟩
def aiU:yT 80 30 154 133:=⟨⟨_,func80,k_,k_,k_⟩,k_⟩
def rm(Al:Int):ae->cf->cf->Bool
 |_,_,[]=>I
 |last,seen,r::rs=>TC Al last seen r||rm Al r (CM r seen) rs
def lK(o:Obj):Bool:=(yx o.Al== [])|| !eA o.id|| !jt o.uP||decide (J o.gT<xL o.Al)||decide (2000<J o.gT)
def Ie(o:Obj):Bool:=aj o.x 0&&aj o.y 0
def dY(o:Obj):Bool:=bif lK o then I else bif rm o.Al [] [] o.gT then I else bif aj o.Al 1 then(J o.gT==0)&&Ab o.x o.y else bif aj o.Al 5 then(J o.gT==3)&&Ie o else Ie o
def Nj(P:Program)(t:TypeId)(a b:az):cP P .eql t (.agg a) (.agg b)=(xd P t (.agg a) (.agg b)).bind λb=>X (.bool b):=rfl
def agP(P:Program)(t:TypeId)(a b:az):cP P .neq t (.agg a) (.agg b)=(xd P t (.agg a) (.agg b)).bind λb=>X (.bool !b):=rfl
def Lz(a b c d:Int):cP ag .eql 44 (.agg [.int .i64 a,.int .i64 b]) (.agg [.int .i64 c,.int .i64 d])=X (.bool (bif aj a c then bif aj b d then O else I else I)):=by
 have h:xd ag 44 (.agg [.int .i64 a,.int .i64 b]) (.agg [.int .i64 c,.int .i64 d])=(X (aj a c)).bind λr=>bif r then(X (aj b d)).bind λr=>bif r then X O else X I else X I:=k_
 rw[Nj,h];cases aj a c<;>cases aj b d<;>rfl
def aAk(a b:Int):(bif aj a 0 then bif aj b 0 then O else I else I)=(aj a 0&&aj b 0):=by
 cases aj a 0<;>cases aj b 0<;>rfl
def aF0{k:Int}(h:(yx k== [])=I):(bT 0 k&&aR k 6)=O:=by
 by_cases h1:0<=k/\k<6;simp[bT,aR,h1.1,h1.2];have d:yx k=[]:=by
  simp only[yx,oH (show k≠1 from w_),oH (show k≠2 from w_),oH (show k≠3 from w_),oH (show k≠4 from w_),oH (show k≠5 from w_),cF]
 rw[d]at h;cases h
def W3(s:St)(mk:aI)(n:Nat):s.top.get mk n=s.get mk n:=rfl
def avI{k:Int}(h:(bT 0 k&&aR k 6)=O):DP [.int .i64 k]=X (.int .i64 (xL k:Nat)):=by
 simp only[DP,h,cT]
attribute[go_sem]k43 aqr
set_option maxHeartbeats 1000000 in
def ax5{Q:ay}[Std Q](G:Q.spec 83=X Ia)(F:Q.spec 84=X jq)(a4:Q.spec 85=X AA)(a3:Q.spec 86=X DP)(a2:Q.spec 89=X Hs)(B:No Q 87)(S:No Q 88)(R:No Q 135)(a8:No Q 43)(p:o.Ok):∃v s',ai Q 43 [o.val] s0 v s'/\(v=.bool (dY o)/\s'.ci=0):=by
 have Y:=xR p.id;have V:=aeY p.uP p.taglen p.key;have U:Ia [.int .i64 o.Al]=X (.str (yx o.Al)):=rfl;have q:=p.gT.lenS bM;have M:(o.refsV.gt=O/\o.tagsV.gt=O)/\o.refsV.cells=[o.refsV]/\o.tagsV.cells=[o.tagsV]:=⟨⟨p.gT.gt,p.uP.gt⟩,p.gT.scal,p.uP.scal⟩;have a7:aR 2000 (J o.gT:Nat)=decide (2000<J o.gT):=JL 2000 _;have a0:s0.aL=0:=rfl;obtain⟨C,e1,g1,m1,n1,c1⟩:∃C,s0.new (.cells o.cells)=C/\C.get [] 0=X (.cells o.cells)/\C.gE<=C.aL/\C.aL=1/\C.ci=0:=⟨_,rfl,by rw[ei];rfl,Nat.zero_le _,rfl,rfl⟩;obtain⟨T,e2,E,c2⟩:∃T,((((C.new (.map [] 0)).new (.cells [.nilm])).put 2 (X (.cells [.map 1]))).new (.cells [.str []])).put 3 (X (.cells [.str []]))=T/\qg T o 0 3 2 1 [] []/\T.ci=0:=by
  refine⟨_,rfl,⟨?_,?_,?_,?_,rfl,rfl,rfl,rfl,rfl,rfl⟩,c1⟩<;>simp only[ei,aO,acn,kB,n1,g1,Nat.reduceBEq,Nat.reduceAdd,cT,cF]<;>rfl
 let⟨u,s3,hr,hu⟩:=Xa Vm S XP R bM p.gT p.reflen (λx _=>⟨uf _ 0,rfl⟩) B.s (cap:=[.ptr 0 0,.ptr 3 0,.ptr 2 0]) (s:=T)
  (P:=λi s=>s.ci=0/\∃last seen,qg s o 0 3 2 1 last seen/\rm o.Al [] [] o.gT=rm o.Al last seen (o.gT.drop i)) (D:=λs=>s.ci=0/\(∃last seen,qg s o 0 3 2 1 last seen)/\rm o.Al [] [] o.gT=O) (λi x s hi h=>by
   let⟨N,last,seen,j,H⟩:=h
   have A:=(ie.1 hi).1;rw[yF A,<-sI (hi.symm.trans (dA A)),rm]at H;exact⟨_,_,aF9 F B j (p.ref x (cq hi)),λe=>⟨N,_,_,j.after x,by rw[H,e];rfl⟩,λe=>⟨N,⟨_,_,j.after x⟩,by rw[H,e];rfl⟩⟩) ⟨c2,_,_,E,rfl⟩
 obtain⟨hv,w,last,seen,a1⟩:u=.bool (rm o.Al [] [] o.gT)/\s3.ci=0/\∃last seen,qg s3 o 0 3 2 1 last seen:=by
  rcases hu with⟨rfl,N,last,seen,j,H⟩|⟨rfl,N,⟨last,seen,j⟩,H⟩
  exact⟨by rw[H,List.drop_length];rfl,N,_,_,j⟩;exact⟨by rw[H],N,_,_,j⟩
 subst hv;have g2:=E.ho;have g3:=a1.ho;have e0:aj (J o.gT:Int) 0=(J o.gT==0):=zP _ 0;have e3:aj (J o.gT:Int) 3=(J o.gT==3):=zP _ 3;have a5:Hs [.agg [.int .i64 o.x,.int .i64 o.y]]=X (.bool (Ab o.x o.y)):=rfl;have lt:=iZ m1;simp only[Obj.cells]at e1 g1 g2 g3;refine ai.ofNRZ atI (aM ?_);simp only[go_sem,seval,Obj.val,Obj.cells,M,e1,a0];refine⟨m1,?_⟩;cases hb1:yx o.Al== []with
 |true=>
  simp only[go_sem,Kq,seval,W3,xO,qF,Oz,Dm,Dn,OB,sw,uf,Eo,Sv,g1,M,G,U,hb1,lt];exact⟨_,rfl,by simp[dY,lK,hb1],c1⟩
 |false=>
 have a6:=avI (aF0 hb1);have A:∀n:Nat,aR (J o.gT:Nat) (n:Nat)=decide (J o.gT<n):=λn=>JL _ n;rcases(by cases eA o.id<;>cases jt o.uP<;>cases decide (J o.gT<xL o.Al)<;>cases decide (2000<J o.gT)<;>decide:(eA o.id=I)\/(eA o.id=O/\jt o.uP=I)\/(eA o.id=O/\jt o.uP=O/\decide (J o.gT<xL o.Al)=O)\/(eA o.id=O/\jt o.uP=O/\decide (J o.gT<xL o.Al)=I/\decide (2000<J o.gT)=O)\/(eA o.id=O/\jt o.uP=O/\decide (J o.gT<xL o.Al)=I/\decide (2000<J o.gT)=I))with h|h|h|h|h
 all_goals
  simp only[h]at Y V;simp only[go_sem,Kq,seval,W3,xO,qF,Oz,Dm,Dn,OB,sw,uf,Eo,Sv,g1,M,G,F,a4,a3,U,Y,V,a6,q,A,a7,hb1,h,lt]
 iterate 4 exact⟨_,rfl,by simp[dY,lK,hb1,h],c1⟩
 have d:lK o=I:=by simp only[lK,hb1,h];rfl
 simp only[go_sem,seval,a0,n1,acn,kB,e2,dh,dq,ei,aO,xO,qF,Dn,Eo,g2,M,jA,aa.cells];refine aU.of hr d_ ?_;cases hw:rm o.Al [] [] o.gT with
 |true=>
  simp only[go_sem,seval];exact⟨_,rfl,by simp[dY,d,hw],w⟩
 |false=>
 cases hk1:aj o.Al 1;cases hk5:aj o.Al 5<;>cases hz3:J o.gT==3<;>simp only[go_sem,seval,xO,qF,Dm,OA,Dn,sw,Eo,LD,U3,Mz,dL,g3,M,q,e3,hk1,hk5,hz3,Lz,aAk]<;>exact⟨_,rfl,by simp[dY,d,hw,hk1,hk5,hz3,Ie],w⟩;cases hz0:J o.gT==0<;>simp only[go_sem,seval,xO,qF,Dm,OA,Dn,sw,Eo,LD,g3,M,q,e0,a2,a5,hk1,hz0]<;>exact⟨_,rfl,by simp[dY,d,hw,hk1,hz0],w⟩
def EJ:cf->Bool
 |[]=>O
 |t::l=>bq (J t) small&&EJ l
def aeA:∀{l:cf},EJ l=O->∀t∈l,J t<small
 |[],_,_,h=>by cases h
 |a::l,h,t,d=>by
  simp only[EJ,bg]at h;rcases dD.1 d with rfl|d
  exact gS h.1;exact aeA h.2 t d
def aeB:∀{l:cf},(∀t∈l,J t<small)->EJ l=O
 |[],_=>rfl
 |a::l,h=>by
  simp only[EJ,bg];exact⟨bG (h a (by simp)),aeB λt d=>h t (by simp[d])⟩
def KV(id:ae)(k x y:Int)(rv h:aa)(rs:cf)(d:wf):Option Obj:=
 bif bn rv&&bn h&&bq (J id) small&&bq (J rs) small&&EJ rs&&bq (J d) small&&Ci d then X ⟨id,k,x,y,rv,h,rs,d⟩else Z
def uW:aa->Option Obj
 |.agg [.str id,.int .i64 k,.int .i64 x,.int .i64 y,rv,tv]=>(ff 1 iV rv).bind λh=>(ff 2 te tv).bind λd=>KV id k x y rv tv h d
 |_=>Z
structure Obj.AL (o:Obj):Prop extends o.Ok where
 pr:bn o.refsV=true
 pt:bn o.tagsV=true
def IP(h:uW v=X o):v=o.val/\o.AL:=by
 unfold uW at h;split at h;simp only[ak]at h
 let⟨rs,h1,ts,h2,h⟩:=h
 unfold KV at h
 let⟨h3,h⟩:=aZ h
 simp only[bg]at h3
 let⟨⟨⟨⟨⟨⟨p1,p2⟩,p3⟩,p4⟩,p5⟩,p6⟩,p7⟩:=h3
 cases h;exact⟨rfl,⟨⟨ku (λv a=>pg) h1,ku (λv a=>IV) h2,gS p3,gS p4,aeA p5,gS p6,ST p7⟩,p1,p2⟩⟩;cases h
def Nu(h:o.AL):uW o.val=X o:=by
 show((ff 1 iV o.refsV).bind λi=>(ff 2 te o.tagsV).bind λd=>KV o.id o.Al o.x o.y o.refsV o.tagsV i d)=_;rw[oI oo h.gT,aG,oI IW h.uP,aG];unfold KV;have q:bq (J o.id) small=O:=bG h.id;have p:bq (J o.gT) small=O:=bG h.reflen;have j:bq (J o.uP) small=O:=bG h.taglen;rw[h.pr,h.pt,q,p,j,aeB h.ref,SU h.key];rfl
def Obj.AL.pure(h:o.AL):bn o.val=O:=by
 simp only[Obj.val,Obj.cells,bn,pures,h.pr,h.pt,bZ]
mutual
def Tp:∀{v:aa},bn v=O->dW v=O
 |.agg cs,h=>by simp only[dW];exact AB (by simpa only[bn]using h)
 |.tup cs,h=>by simp only[dW];exact AB (by simpa only[bn]using h)
 |.list _ xs r,h=>by
   simp only[bn,bg]at h;simp only[dW];exact h.1
 |.bool _,_=>rfl
 |.int _ _,_=>rfl
 |.str _,_=>rfl
 |.nilp,_=>rfl
 |.ptr _ _,h=>by simp[bn]at h
 |.Gt _ _ _,h=>by simp[bn]at h
 |.ro cs,h=>by simpa only[dW]using h
 |.Ge,_=>rfl
 |.arr _ _ _ _ _,h=>by simp[bn]at h
 |.nilm,_=>rfl
 |.map _,h=>by simp[bn]at h
 |.nilf,_=>rfl
 |.func _ _ _,h=>by simpa only[dW]using h
 |.nili,_=>rfl
 |.iface _ _,h=>by simpa only[dW]using h
def AB:∀{l:az},pures l=O->dR l=O
 |[],_=>rfl
 |v::l,h=>by
  simp only[pures,bg]at h;simp only[dR,Tp h.1,AB h.2,bZ]
end
def qN:Sp
 |[v]=>(uW v).bind λo=>X (.bool (dY o))
 |_=>Z
def K8(h:o.AL):qN [o.val]=X (.bool (dY o)):=by
 show(uW o.val).bind _=_;rw[Nu h];rfl
def K9:cW ag 43 qN:=by
 refine mL TX λp u d=>?_;unfold qN at d;split at d;simp only[ak,aQ]at d;obtain⟨o,x,rfl⟩:=d;obtain⟨rfl,j⟩:=IP x;obtain⟨v,q,w,rfl,h⟩:=ax5 (Q:=QT T4) rfl rfl rfl rfl rfl R_ R_ R_ R_ j.toOk;have i:pures [o.val]=O:=by simp only[pures,j.pure,bZ]
 rw[kF i];exact⟨AB i,_,q,w,h,1,rfl⟩;cases d
abbrev ba:=List Obj
def lQ:ae->ba->Bool
 |_,[]=>O
 |last,o::r=>bif !dY o||Ag.leBytes o.id last then I else lQ o.id r
def bm(l:ba):Bool:=lQ [] l&&decide (J l<=1000000)
variable{Q:ay}[Std Q]
attribute[go_sem]PR apH
variable{l:ba}
def awL(E:Q.spec 43=X qN)(M:au 6 Obj.val v l)(hk:∀o∈l,o.AL)(j:J l<small)(Y:∀e lc,ac e 1=.Gt 1 1 0->lc.gen 1=1->lc.get 1 1=X [v]->lQ [] l=O->K (.exit 0) ⟨e,29,lc⟩ s)(hr:∀e lc,ac e 2=.bool I->lQ [] l=I->K .ret ⟨e,29,lc⟩ s):
 ∀(rest d:ba)(e:ax)(lc:Ag.Loc)(last:ae),l=d++rest->lQ [] l=lQ last rest->ac e 1=.Gt 1 1 0->lc.gen 1=1->lc.get 1 1=X [v]->ac e 7=v->ac e 8=an (J l)->ac e 9=an (J d)->ac e 3=.str last->W Q 20 (.loop PW) ⟨e,29,lc⟩ s K:=by
 have a0:=aab;have D:=M.gt;intro rest
 induction rest with
 |nil=>
  intro d e lc last p F x q i H w G N;have B:=cL p;refine aF ?_;simp only[go_sem,seval,PW,w,G,B,bJ];exact Y _ _ (by simp only[sN,seval,x]) q i (by rw[F];rfl)
 |cons o rest V=>
  intro d e lc last p F x q i H w G N
  let⟨hlt,hat⟩:=cR p
  have go:=hk o (cq hat);have U:=go.gT.gt;have T:=go.uP.gt;have S:=go.gT.scal;have R:=go.uP.scal;have C:=λlc k=>M.at ek.2.2.1 hat lc k;have h:=K8 go;have y:=yy (n:=J d) w_;have A:lQ [] l=(!(!dY o||Ag.leBytes o.id last)&&lQ o.id rest):=by
   rw[F,lQ];cases (!dY o||Ag.leBytes o.id last)<;>rfl
  simp only[Obj.val,Obj.cells]at h;refine aF ?_;cases hb1:dY o<;>cases hb2:Ag.leBytes o.id last<;>rw[hb1]at h<;>simp only[hb1,hb2,yC,AK,sO,uF,jo,lZ]at A<;>simp only[go_sem,seval,PW,x,q,i,N,H,w,G,hlt,D,C,Obj.val,Obj.cells,U,T,S,R,E,h,hb2,y]<;>
   first|exact hr _ _ (by simp only[sN,seval]) A|exact V (d++[o]) _ _ o.id (by rw[p];simp) A (by simp only[sN,seval,x]) (by simp only[sL,seval,q]) (by simp only[sL,seval,i]) (by simp only[sN,seval,H]) (by simp only[sN,seval,w]) (by simp only[aag,sN,seval]) (by simp only[sN,seval])
def awP(x:Q.spec 43=X qN)(y:No Q 20)(p:au 6 Obj.val v l)(B:∀o∈l,o.AL)(d:J l<small)(s:St):ai Q 20 [.agg [v]] s (.bool (bm l)) s:=by
 have h:=p.lenS ek;have j:=p.gt;have q:=p.scal;have w:bT (J l:Int) 1000000=decide (J l<=1000000):=O6 _ 1000000;refine ai.ofNZ as1 (aM ?_);simp only[go_sem,seval,j,q,h,bm];refine awL x p B d (λe lc E C A i=>?_) (λe lc D i=>?_) l [] _ _ [] rfl rfl ?_ ?_ ?_ ?_ ?_ ?_ ?_;simp only[go_sem,seval,E,C,A,i,j,h,w];simp only[go_sem,seval,D,i]
 all_goals first|(simp only[sN,seval];done)|(simp only[sN,seval];rfl)|rfl
def kY:aa->Option ba
 |.agg [v]=>(ff 6 uW v).bind λl=>bif bq (J l) small then X l else Z
 |_=>Z
def abV:∀{xs:az}{l:ba},jB uW xs=X l->(∀o∈l,o.AL)
 |[],l,h=>by simp only[jB,aQ]at h;subst h;intro o d;cases d
 |x::xs,l,h=>by
  simp only[jB,ak,aQ]at h;obtain⟨a,j,r,i,rfl⟩:=h;intro o d;rcases dD.1 d with rfl|d
  exact(IP j).2;exact abV i o d
def abW:∀{l:ba},(∀o∈l,o.AL)->jB uW (l.map Obj.val)=X l
 |[],_=>rfl
 |o::l,h=>by
  have d:=abW (l:=l) λo i=>h o (List.mem_cons_of_mem _ i);simp only[cZ,jB,Nu (h o List.mem_cons_self),aG,d]
variable{u:aa}
def qr(h:kY u=X l):∃v,u=.agg [v]/\au 6 Obj.val v l/\(∀o∈l,o.AL)/\J l<small:=by
 unfold kY at h;split at h;rename_i v;simp only[ak]at h
 let⟨l',h1,h⟩:=h
 let⟨h2,h⟩:=aZ h
 cases h;refine⟨v,rfl,ku (λv a h=>(IP h).1) h1,?_,gS h2⟩;unfold ff at h1;split at h1;cases h1;intro o d;cases d
 let⟨_,h1⟩:=aZ h1
 exact abV h1;cases h1;cases h
def rp(h:au 6 Obj.val v l)(i:∀o∈l,o.AL)(d:J l<small):kY (.agg [v])=X l:=by
 have:ff 6 uW v=X l:=by
  rcases h with⟨rfl,rfl⟩|⟨r,rfl⟩
  rfl;simp only[aaa,ff,abW i]
 have q:bq (J l) small=O:=bG d;simp only[aaf,kY,this,q]
def So(i:∀o∈l,o.AL):pures (l.map Obj.val)=O:=by
 rw[pures_all];intro v d;obtain⟨o,h,rfl⟩:=List.mem_map.1 d;exact(i o h).pure
def pJ(h:au 6 Obj.val v l)(i:∀o∈l,o.AL):dW (.agg [v])=O/\∃d,cx (.agg [v])=.agg [d]/\au 6 Obj.val d l:=by
 rcases h with⟨rfl,rfl⟩|⟨r,rfl⟩
 exact⟨rfl,.Ge,rfl,.inl R_⟩;refine⟨by simp only[dW,dR,So i,bZ],.list 6 (l.map Obj.val) (match r with|.own _=>.no|r=>r),?_,.inr ⟨_,rfl⟩⟩;simp only[cx,di,kF (So i)];cases r<;>rfl
def gI:Sp
 |[v]=>(kY v).bind λl=>X (.bool (bm l))
 |_=>Z
def xP(h:au 6 Obj.val v l)(i:∀o∈l,o.AL)(d:J l<small):gI [.agg [v]]=X (.bool (bm l)):=by
 simp only[gI,rp h i d,aG]
def T5:dy:=(43,qN)::T4
def afZ:eh T5:=.cons K9 TX
def vB:cW ag 20 gI:=by
 refine mL afZ λj u d=>?_;unfold gI at d;split at d;rename_i v;simp only[ak,aQ]at d;obtain⟨l,h,rfl⟩:=d;obtain⟨v,rfl,h,i,p⟩:=qr h
 let⟨ht,v',hw,hl'⟩:=pJ h i
 exact⟨by simp only[dR,ht,bZ],_,s0,by rw[di,hw];exact awP rfl R_ hl' i p s0,rfl,1,rfl⟩;cases d
def DC(a:Int):aj a a=O:=bS a
def ae5(s:St)(mk:aI)(n:Nat):s.top.get mk n=s.get mk n:=rfl
def ak1:Sp
 |[a,b]=>bif pures [a,b]then(ff 1 iV a).bind λl=>(ff 1 iV b).bind λr=>bif bq (J l) small then X (.bool (l==r))else Z else Z
 |_=>Z
def ak2:Sp
 |[a,b]=>bif pures [a,b]then(ff 2 te a).bind λl=>(ff 2 te b).bind λr=>bif bq (J l) small then X (.bool (l==r))else Z else Z
 |_=>Z
def V1:dy:=[(186,ak1),(254,ak2)]
def kz(a b:pb):Bool:=decide (a<=b)
def Bx(x:pb):List pb->List pb
 |[]=>[x]
 |y::l=>bif Ag.leBytes x y then x::y::l else y::Bx x l
def ja:List pb->List pb
 |[]=>[]
 |x::l=>Bx x (ja l)
def Ag.leBytes_iff(x y:pb):Ag.leBytes x y=kz x y:=by
 have h:Ag.leBytes x y=(gi x y||x==y):=rfl;rw[h,Go.Proofs.bytesLess_eq];apply Bool.eq_iff_iff.2;simp only[kz,AJ,dE,bE];constructor;rintro(h|rfl);exact List.le_of_lt h;exact List.le_refl _;intro h;by_cases e:x=y;exact .inr e;exact .inl (Classical.byContradiction λd=>e (List.le_antisymm h (List.not_lt.1 d)))
def O9(x:pb):∀l,(Bx x l).Perm (x::l)
 |[]=>.refl _
 |y::l=>by
  simp only[Bx];cases Ag.leBytes x y with
  |true=>exact .refl _
  |false=>exact((O9 x l).cons y).trans (.swap x y l)
theorem Cj:∀l,(ja l).Perm l
 |[]=>.refl _
 |x::l=>(O9 x _).trans ((Cj l).cons x)
def KP(a b c:pb)(h1:kz a b=O)(d:kz b c=O):kz a c=O:=by
 simp only[kz,dE]at*;exact List.le_trans h1 d
def KO(a b:pb):(kz a b||kz b a)=O:=by
 simp only[kz,AJ,dE];exact List.le_total a b
def XT(x:pb):∀l,l.Pairwise (λa b=>kz a b=O)->(Bx x l).Pairwise (λa b=>kz a b=O)
 |[],_=>by simp[Bx]
 |y::l,h=>by
  simp only[Bx];cases e:Ag.leBytes x y;rw[Ag.leBytes_iff]at e;refine re.2 ⟨λz d=>?_,XT x l (re.1 h).2⟩;rcases dD.1 ((O9 x l).mem_iff.1 d)with rfl|d
  have:=KO z y;rw[e,AI]at this;exact this;exact(re.1 h).1 z d;rw[Ag.leBytes_iff]at e;refine re.2 ⟨λz d=>?_,h⟩;rcases dD.1 d with rfl|d
  exact e;exact KP _ _ _ e ((re.1 h).1 z d)
theorem SX:∀l,(ja l).Pairwise (λa b=>kz a b=O)
 |[]=>.nil
 |x::l=>XT x _ (SX l)
def SW(l:List pb):l.mergeSort (λx y=>decide (x<=y))=ja l:=by
 refine List.Perm.eq_of_pairwise (le:=λa b=>kz a b=O) (λa b _ _ h d=>?_) (MO KP KO l) (SX l) ((Iq l _).trans (Cj l).symm);simp only[kz,dE]at h d;exact List.le_antisymm h d
def aDb{l r:cf}(h:l.Perm r):ja l=ja r:=by
 rw[<-SW,<-SW];refine List.Perm.eq_of_pairwise (le:=λa b=>kz a b=O) (λa b _ _ i d=>?_) (MO KP KO l) (MO KP KO r) (((Iq l _).trans h).trans (Iq r _).symm);simp only[kz,dE]at i d;exact List.le_antisymm i d
def Rl(p k:ae):gi p k= !Ag.leBytes k p:=by
 rw[Ag.leBytes_iff,Go.Proofs.bytesLess_eq];by_cases h:k<=p;have d:¬p<k:=List.not_lt.2 h;simp[kz,h,d];have d:p<k:=List.not_le.1 h;simp[kz,h,d]
def aig(P:Program)(t:TypeId)(a b:pb):cP P .gtr t (.str a) (.str b)=X (.bool (!Ag.leBytes a b)):=rfl
def avU(a b:ae):(!Ag.leBytes a b)=gi b a:=(Rl b a).symm
attribute[go_sem]Zb Ym Y8 Yg
def acf(d:No Q 170)(a:Int)(s:St):ai Q 170 [.int .i64 a] s (.bool I) s:=by
 refine ai.ofNZ asv (aM ?_);simp only[go_sem,seval,DC]
def jO(a b:Int):Int:=bif aR a b then-1 else bif aR b a then 1 else 0
def pm:Sp
 |[.int .i64 a,.int .i64 b]=>X (.int .i64 (jO a b))
 |_=>Z
def ajF(d:No Q 170)(h:No Q 107)(a b:Int)(s:St):ai Q 107 [.int .i64 a,.int .i64 b] s (.int .i64 (jO a b)) s:=by
 refine ai.ofNZ arK (aM ?_);simp only[go_sem,seval];refine aU.of (acf d a s) d_ ?_;simp only[go_sem,seval];refine aU.of (acf d b s) d_ ?_;cases h2:aR a b<;>cases h3:aR b a<;>simp only[go_sem,seval,h2,h3,jO]
def N5:cW ag 107 pm:=by
 refine mL (T:=[]) .nil λh x d=>?_;unfold pm at d;split at d;cases d;exact⟨rfl,_,s0,ajF R_ R_ _ _ s0,rfl,1,rfl⟩;cases d
def acg(d:No Q 167)(a:ae)(s:St):ai Q 167 [.str a] s (.bool I) s:=by
 refine ai.ofNZ ass (aM ?_);simp only[go_sem,seval]
def gG(a b:ae):Int:=bif gi a b then-1 else bif gi b a then 1 else 0
def pn:Sp
 |[.str a,.str b]=>X (.int .i64 (gG a b))
 |_=>Z
def ajJ(d:No Q 167)(h:No Q 102)(a b:ae)(s:St):ai Q 102 [.str a,.str b] s (.int .i64 (gG a b)) s:=by
 refine ai.ofNZ arB (aM ?_);simp only[go_sem,seval];refine aU.of (acg d a s) d_ ?_;simp only[go_sem,seval];refine aU.of (acg d b s) d_ ?_;cases h2:gi a b<;>cases h3:gi b a<;>simp only[go_sem,seval,aig,avU,h2,h3,gG]
def N6:cW ag 102 pn:=by
 refine mL (T:=[]) .nil λh x d=>?_;unfold pn at d;split at d;cases d;exact⟨rfl,_,s0,ajJ R_ R_ _ _ s0,rfl,1,rfl⟩;cases d
def bu(n:Int):aa:=.int .i64 n
def asInt:aa->Option Int
 |.int .i64 n=>X n
 |_=>Z
def ag6{n:Int}(h:asInt v=X n):v=bu n:=by
 unfold asInt at h;split at h;cases h;rfl;cases h
abbrev x_:=Int×Int
def aX(p:x_):aa:=.agg [.int .i64 p.1,.int .i64 p.2]
def nF:aa->Option (Int×Int)
 |.agg [.int .i64 a,.int .i64 b]=>X (a,b)
 |_=>Z
def rq{p:x_}(h:nF v=X p):v=aX p:=by
 unfold nF at h;split at h;cases h;rfl;cases h
def FA(p:x_):nF (aX p)=X p:=rfl
def Lv(p:x_):bn (aX p)=O:=rfl
abbrev q_:=List Int
def lR:q_->Int
 |[]=>0
 |x::l=>bif aj x 0 then lR l else x
attribute[go_sem]Pg aoz Qc aqi ZG ap5
abbrev P_:=List (Int×Int)
variable{lc:Ag.Loc}{l:P_}
section
variable{Q:ay}[Std Q]
def azs{l:q_}(E:au 1 bu v l)(i:J l<small)(G:∀e,ac e 3=.int .i64 0->lR l=0->K (.exit 0) ⟨e,18,lc⟩ s)(M:∀e,ac e 2=.int .i64 (lR l)->K .ret ⟨e,18,lc⟩ s):
 ∀(rest d:q_)(e:ax),l=d++rest->lR l=lR rest->ac e 3=.int .i64 0->ac e 6=v->ac e 7=an (J l)->ac e 8=an (J d)->W Q 106 (.loop Ph) ⟨e,18,lc⟩ s K:=by
 have H:=aab;have B:=E.gt;intro rest
 induction rest with
 |nil=>
  intro d e j h q D p C;have y:=cL j;refine aF ?_;simp only[go_sem,seval,Ph,p,C,y,bJ];exact G _ (by simp only[sN,seval,q]) h
 |cons x rest F=>
  intro d e j h q D p C
  let⟨hlt,hat⟩:=cR j
  have A:=λlc k=>E.at iO.2.2.1 hat lc k;have w:=yy (n:=J d) w_;rw[lR]at h;refine aF ?_;cases hb:aj x 0<;>rw[hb]at h<;>simp only[go_sem,seval,Ph,q,D,p,C,hlt,B,A,bu,hb,w];exact M _ (by simp only[sN,seval,h,cF]);exact F (d++[x]) _ (db j) h (by simp only[sN,seval,q]) (by simp only[sN,seval,D]) (by simp only[sN,seval,p]) (by simp only[aag,sN,seval])
def azt(q:No Q 106){l:q_}(j:au 1 bu v l)(d:J l<small)(s:St):ai Q 106 [v] s (.int .i64 (lR l)) s:=by
 have i:=j.lenS iO;have p:=j.gt;refine ai.ofNZ arJ (aM ?_);simp only[go_sem,seval,p,i];refine azs j d (λe w h=>?_) (λe x=>?_) l [] _ rfl rfl ?_ ?_ ?_ ?_;simp only[go_sem,seval,w,h];simp only[go_sem,seval,x]
 all_goals first|(simp only[sN,seval];done)|(simp only[sN,seval];rfl)|rfl
def vO:Sp
 |[a]=>bif pures [a]then(ff 1 asInt a).bind λl=>bif bq (J l) small then X (.int .i64 (lR l))else Z else Z
 |_=>Z
def ade:cW ag 106 vO:=by
 refine mL (T:=[]) .nil λh x d=>?_;unfold vO at d;split at d
 let⟨hp,d⟩:=aZ d
 simp only[ak]at d
 let⟨l,h1,d⟩:=d
 let⟨hs,d⟩:=aZ d
 cases d;rw[kF hp];exact⟨AB hp,_,s0,azt R_ (ku (λv a=>ag6) h1) (gS hs) s0,rfl,1,rfl⟩;cases d
def xe:P_->Int
 |[]=>0
 |p::l=>bif aj (jO p.1 p.2) 0 then xe l else jO p.1 p.2
def amE(i:Q.spec 107=X pm)(E:au 2 aX v l)(j:J l<small)(M:∀e lc,xe l=0->K (.exit 0) ⟨e,21,lc⟩ s)(R:∀e lc,ac e 2=.int .i64 (xe l)->K .ret ⟨e,21,lc⟩ s):
 ∀(rest d:P_)(e:ax)(lc:Ag.Loc),l=d++rest->xe l=xe rest->ac e 6=v->ac e 7=an (J l)->ac e 8=an (J d)->W Q 285 (.loop Qd) ⟨e,21,lc⟩ s K:=by
 have N:=aab;have B:=E.gt;intro rest
 induction rest with
 |nil=>
  intro d e lc p h D q C;have y:=cL p;refine aF ?_;simp only[go_sem,seval,Qd,q,C,y,bJ];exact M _ _ h
 |cons x rest H=>
  intro d e lc p h D q C
  let⟨hlt,hat⟩:=cR p
  have A:=λlc k=>E.at EG.2.2.1 hat lc k;have w:=yy (n:=J d) w_;have S:pm [.int .i64 x.1,.int .i64 x.2]=X (.int .i64 (jO x.1 x.2)):=rfl;have G:dP (.int .i64 0)=X 0:=rfl;have F:dP (.int .i64 1)=X 1:=rfl;rw[xe]at h;refine aF ?_;cases hb:aj (jO x.1 x.2) 0<;>rw[hb]at h<;>simp only[go_sem,seval,Qd,D,q,C,hlt,B,A,aX,XC,adK,aeS,TE,sw,G,F,i,S,hb,w];exact R _ _ (by simp only[sN,seval,h,cF]);exact H (d++[x]) _ _ (db p) h (by simp only[sN,seval,D]) (by simp only[sN,seval,q]) (by simp only[aag,sN,seval])
def amF(j:Q.spec 107=X pm)(w:No Q 285)(p:au 2 aX v l)(d:J l<small)(s:St):ai Q 285 [v] s (.int .i64 (xe l)) s:=by
 have i:=p.lenS EG;have q:=p.gt;refine ai.ofNZ atu (aM ?_);simp only[go_sem,seval,q,i];refine amE j p d (λe lc h=>?_) (λe lc x=>?_) l [] _ _ rfl rfl ?_ ?_ ?_;simp only[go_sem,seval,h];simp only[go_sem,seval,x]
 all_goals first|(simp only[sN,seval];done)|(simp only[sN,seval];rfl)|rfl
def im(a b:x_):Int:=xe [(a.1,b.1),(a.2,b.2)]
def aAj(h:Q.spec 107=X pm)(d:No Q 285)(i:No Q 229)(a b:x_)(s:St):ai Q 229 [aX a,aX b] s (.int .i64 (im a b)) s:=by
 have r:ai Q 285 [.list 2 [.agg [.int .i64 a.1,.int .i64 b.1],.agg [.int .i64 a.2,.int .i64 b.2]] .GT] s (.int .i64 (im a b)) s:=amF h d (l:=[(a.1,b.1),(a.2,b.2)]) (.inr ⟨_,rfl⟩) (show 2<small from d_) s;refine ai.ofNZ as8 (aM ?_);simp only[go_sem,seval,aX,th,dL,fD,chunk,evc,EG,U1,TE,sw];refine aU.of r d_ ?_;simp only[go_sem,seval]
def Af:Sp
 |[a,b]=>(nF a).bind λp=>(nF b).bind λq=>X (.int .i64 (im p q))
 |_=>Z
def agw:dy:=[(107,pm)]
def Us:eh agw:=.cons N5 .nil
def aAg:cW ag 229 Af:=by
 refine mL Us λh x d=>?_;unfold Af at d;split at d;simp only[ak,aQ]at d;obtain⟨p,j,q,i,rfl⟩:=d;rw[rq j,rq i];exact⟨rfl,_,s0,aAj rfl R_ R_ p q s0,rfl,1,rfl⟩;cases d
end
def fk:cf->cf->Int
 |[],[]=>0
 |[],_::_=> -1
 |_::_,[]=>1
 |a::x,b::y=>bif aj (gG a b) 0 then fk x y else gG a b
attribute[go_sem]Qz aoI
def aDO(D:Q.spec 102=X pn){l r:cf}(U:au 1 aw v l)(M:au 1 aw u r)(F:J l<small)(hx:∀e,ac e 0=v->ac e 1=u->fk l r=(bif decide (J l<J r)then-1 else 0)->K (.exit 0) ⟨e,36,lc⟩ s)(hK:∀e,ac e 4=.int .i64 (fk l r)->K .ret ⟨e,36,lc⟩ s):
 ∀(n i:Nat)(e:ax),i+n=J l->fk l r=fk (l.drop i) (r.drop i)->i<=J r->ac e 0=v->ac e 1=u->ac e 9=v->ac e 10=an (J l)->ac e 11=an i->W Q 57 (.loop Ku) ⟨e,36,lc⟩ s K:=by
 have a0:=aab;have C:=U.gt;have B:=M.gt;have x:=M.lenS bM;intro n
 induction n with
 |zero=>
  intro i e h1 p h3 T E G j q;have y:i=J l:=h1;refine aF ?_;simp only[go_sem,seval,Ku,j,q,y,bJ];refine hx _ (by simp only[sN,seval,T]) (by simp only[sN,seval,E]) ?_;rw[p,y,List.drop_length];rcases Nat.lt_or_ge (J l) (J r)with h|h
  rw[dQ h,yF h];rfl;rw[dN w_,E9 h];rfl
 |succ n ih=>
  intro i e h1 p h3 T E G j q;have d:i<J l:=w_
  obtain⟨a,Y⟩:∃a,l[i]?=X a:=⟨_,dA d⟩;have S:l.drop i=a::l.drop (i+1):=by rw[yF d,<-sI ((dA d).symm.trans Y)]
  have A:=λlc k=>U.at bM.2.2.1 Y lc k;have H:=yy (n:=i) w_;rw[S]at p;refine aF ?_;rcases Nat.lt_or_ge i (J r)with h|h
  obtain⟨b,V⟩:∃b,r[i]?=X b:=⟨_,dA h⟩;have R:r.drop i=b::r.drop (i+1):=by rw[yF h,<-sI ((dA h).symm.trans V)]
  have N:=λlc k=>M.at bM.2.2.1 V lc k;have w:bT ((J r:Nat):Int) ((i:Nat):Int)=I:=dN w_;have hc:pn [.str a,.str b]=X (.int .i64 (gG a b)):=rfl;rw[R,fk]at p;cases hq:aj (gG a b) 0<;>rw[hq]at p<;>simp only[go_sem,seval,Ku,E,G,j,q,d,C,B,x,w,A,N,aw,D,hc,hq,H];exact hK _ (by simp only[sN,seval,p,cF]);exact ih (i+1) _ w_ p h (by simp only[sN,seval,T]) (by simp only[sN,seval,E]) (by simp only[sN,seval,G]) (by simp only[sN,seval,j]) (by simp only[sN,seval]);have w:bT ((J r:Nat):Int) ((i:Nat):Int)=O:=dQ w_;rw[E9 h,fk]at p;simp only[go_sem,seval,Ku,E,G,j,q,d,C,B,x,w,A,aw];exact hK _ (by simp only[sN,seval,p])
def aDP(p:Q.spec 102=X pn)(A:No Q 57){l r:cf}(x:au 1 aw v l)(q:au 1 aw u r)(d:J l<small)(s:St):ai Q 57 [v,u] s (.int .i64 (fk l r)) s:=by
 have i:=x.lenS bM;have w:=q.lenS bM;have j:=x.gt;have y:=q.gt;refine ai.ofNZ atX (aM ?_);simp only[go_sem,seval,j,i];refine aDO p x q d (λe D C h=>?_) (λe B=>?_) (J l) 0 _ (dS _) rfl (Nat.zero_le _) ?_ ?_ ?_ ?_ ?_;cases hd:decide (J l<J r)<;>rw[hd]at h<;>simp only[go_sem,seval,D,C,j,y,i,w,hd,h];simp only[go_sem,seval,B]
 all_goals first|(simp only[sN,seval];done)|(simp only[sN,seval];rfl)|rfl
def EU:Sp
 |[a,b]=>bif pures [a,b]then(ff 1 iV a).bind λl=>(ff 1 iV b).bind λr=>bif bq (J l) small then X (.int .i64 (fk l r))else Z else Z
 |_=>Z
def agx:dy:=[(102,pn)]
def agy:eh agx:=.cons N6 .nil
def aDK:cW ag 57 EU:=by
 refine mL agy λh x d=>?_;unfold EU at d;split at d
 let⟨hp,d⟩:=aZ d
 simp only[ak]at d
 let⟨l,h1,r,h2,d⟩:=d
 let⟨hs,d⟩:=aZ d
 cases d;rw[kF hp];exact⟨AB hp,_,s0,aDP rfl R_ (ku (λv a=>pg) h1) (ku (λv a=>pg) h2) (gS hs) s0,rfl,1,rfl⟩;cases d
def cK:pb->pb->Int
 |[],[]=>0
 |[],_::_=> -1
 |_::_,[]=>1
 |a::x,b::y=>bif bq a.toNat b.toNat then-1 else bif bq b.toNat a.toNat then 1 else cK x y
def kL:Sp
 |[.str a,.str b]=>X (.int .i64 (cK a b))
 |_=>Z
def ajQ:∀(a b:pb),cK a b=Lib.compareBytes a b:=by
 intro a
 induction a with
 |nil=>intro b;cases b<;>rfl
 |cons u x d=>
  intro b;rcases b with _|⟨v,y⟩
  rfl;simp only[cK,Lib.compareBytes,UInt8.lt_iff_toNat_lt,qL,d];by_cases h1:u.toNat<v.toNat;simp[h1];by_cases h2:v.toNat<u.toNat<;>simp[h1,h2]
def ajY:cW ag 292 kL:=by
 intro i v d G h w y j x;unfold kL at d;split at d;rename_i a b;cases d;cases x with
 |cons p q=>
  cases q with
  |cons q r=>
   cases r;cases p;cases q;refine .inl ⟨.int .i64 (Lib.compareBytes a b),w,?_,G,j,.refl,?_⟩
   have:=run_callFunc_extern (P:=ag) (f:=292) (fn:=f292) (e:=Extern.BytealgCompare.compare) k_ k_ k_ k_ k_ #[.string ⟨⟨a⟩⟩,.string ⟨⟨b⟩⟩] w;rw[show(⟨[Value.string ⟨⟨a⟩⟩,.string ⟨⟨b⟩⟩]⟩:il)= #[.string ⟨⟨a⟩⟩,.string ⟨⟨b⟩⟩]from rfl,this,Lib.run_compareString];rfl;rw[ajQ];exact .int _ _
 cases d
def ui{b:Nat}(h:n<=1000000)(d:b<=88):eB n b=O:=by
 unfold eB;apply bG;have:(n*2+1024)*b<=2001024*88:=Nat.mul_le_mul w_ d;omega
def NN(a b c d e:Nat):(aa.arr a b c d e).cells=[.arr a b c d e]:=rfl
def ajj(a b c d e:Nat):(aa.arr a b c d e).gt=O:=rfl
theorem mY:∀(a b:az),aq (a++b)=aq a++aq b
 |[],b=>rfl
 |x::a,b=>by
  have d:=mY a b;show x.cells++aq (a++b)=(x.cells++aq a)++aq b;rw[d,List.append_assoc]
def OJ{sz:Nat}:∀{xs:az},(∀x∈xs,J x.cells=sz)->(aq xs).length=J xs*sz
 |[],_=>by simp[aq]
 |x::xs,h=>by
  have d:=OJ (xs:=xs) λy i=>h y (by simp[i]);show(x.cells++aq xs).length=_;rw[bI,d,h x (by simp),bP,Nat.add_mul];omega
def Vx(n:Nat):(aa.yld n).gt=O:=rfl
def rB:az->Option cf
 |[]=>X []
 |.str a::l=>(rB l).bind λr=>X (a::r)
 |_=>Z
def FB:∀l:cf,rB (l.map aw)=X l
 |[]=>rfl
 |a::l=>by
  show(rB (l.map aw)).bind _=_;rw[FB l];rfl
def aiS:(aa.Ge).cells=[.Ge]:=rfl
def qA:∀l:cf,aq (l.map aw)=l.map aw
 |[]=>rfl
 |a::l=>by
  show(aw a).cells++aq (l.map aw)=_;rw[qA l];rfl
abbrev y_:=ae×ae
def iX(a b:y_):Int:=bif aj (cK a.1 b.1) 0 then cK a.2 b.2 else cK a.1 b.1
def KS(a b:y_):Bool:=aR (iX a b) 0
abbrev e_:=List (ae×ae)
def Bz(x:y_):e_->e_
 |[]=>[x]
 |y::l=>bif KS y x then y::Bz x l else x::y::l
def EM:e_->e_
 |[]=>[]
 |x::l=>Bz x (EM l)
def Pa(x:y_):∀l,(Bz x l).Perm (x::l)
 |[]=>.refl _
 |y::l=>by
  simp only[Bz];cases KS y x with
  |true=>exact((Pa x l).cons y).trans (.swap x y l)
  |false=>exact .refl _
def HY:∀l,(EM l).Perm l
 |[]=>.refl _
 |x::l=>(Pa x _).trans ((HY l).cons x)
def uj:az->UP
 |[.Ge]=>X Z
 |[.arr 1 m 0 len _]=>X (X (m,λcs=>su (bif aA (J cs) len&&bq len 1000001 then(rB cs).bind λl=>X ((ja l).map aw)else Z)))
 |_=>Z
end Go.Proofs.YtakkigoeiahlcaaGreat
namespace Go.Proofs
open Go.Shelf
def acb(P:Program)(f:FuncId):String:=match P.funcs[f]? with|some g=>g.name|none=> ""
def CU{P:Program}{f:FuncId}{B:Func}(h1:(acb P f== "runtime.NumGoroutine")=false)(h2:P.funcs[f]? =some {B with name:=acb P f }):Bears P f B:=⟨_,h1,h2⟩
def Tryz.sort48_ren:Go.Shelf.Ren:=⟨λ|6=>61|8=>101|9=>109|19=>165|20=>166|21=>172|22=>173|23=>174|24=>175|25=>176|26=>177|27=>178|28=>179|29=>180|36=>249|31=>234|32=>235|37=>250|38=>251|39=>167|41=>291|n=>n,λ|27=>25|29=>9|3=>3|32=>195|26=>25|0=>0|44=>267|46=>269|4=>4|36=>261|35=>260|41=>92|5=>5|9=>9|53=>327|57=>331|63=>363|64=>364|n=>n,λ|n=>n⟩
def Tryz.sort48:Go.Proofs.SlLaysM.n6 Tryz.prog Tryz.sort48_ren:=by
 constructor<;>first|kernel_rfl|(intro _;kernel_rfl)|(refine CU ?_ ?_<;>kernel_rfl)
