/- Lemmas for PartUnits. -/
import Derived.Test.YtnhmcokmdhgpbaaGreatAg2
import Derived.Test.YtnhmcokmdhgpbaaGreatProg
import Derived.KernelRfl
import Derived.Laws.Externs
set_option linter.all false
open Option renaming some→X,none→Z,bind_some→aH
open Bool renaming true→O,false→I
open List renaming length→J,length_cons→bT,range→g9
open Go.Ag.eP renaming of→kK
open Go.BinOp renaming eql→ye
open Go.Callee renaming builtin→yh,value→nL
open Go.Ag.bq renaming of→dg
open Go.IntKind renaming i64→gM
open Nat renaming beq→aB,blt→bC,eq_of_beq_eq_true→fL,ble→aP
open Go.Op renaming assign→yD,binOp→fh,buildSlice→yE,call→iT
open Go.Operand renaming const→dy,func→pG,tmp→aG
open Go.Ag.ee renaming of→jx
open Go.ResultVar renaming cell→jy,tmp→aY
open Go.Ag.eI renaming of→kA
open Go.Ag.ep renaming of→kY
open Go.Proofs.Tryz renaming prog→ae
open Go.Value renaming bool→qP,int→fS
theorem Go.k_{p:Prop}(h:p:=by kernel_rfl):p:=h
namespace Go.Proofs.YtnhmcokmdhgpbaaGreat
open Tryz
open Go.Ag
structure aU (N:Nat) (fn:Func) (k:SC) (n:Nat) (rs:List ResultVar):Prop where
 a:ae.funcs[N]?=some fn
 b:fn.body.map dZ=some k
 c:fn.ntmps=n
 d:fn.results.toList=rs
def aU.of{N:Nat}{fn:Func}{k:SC}{n:Nat}{rs:List ResultVar}(h:(ae.funcs[N]?,fn.body.map dZ,fn.ntmps,fn.results.toList)=(X fn,X k,n,rs):=by kernel_rfl):aU N fn k n rs:=by
 simp only[Prod.mk.injEq]at h;exact⟨h.1,h.2.1,h.2.2.1,h.2.2.2⟩
def Pu:zd->Nat->Bool->SG
 |[],_,_=>.never
 |o::_,0,w=>match o.dst with
  |some d=>.when d w
  |none=>.never
 |_::l,n+1,w=>Pu l n w
def Xx(all:zd):Option (Nat×Bool)->SG
 |none=>.aw
 |some (j,w)=>Pu all j w
def JU(all:zd):zd->mm
 |[]=>[]
 |o::l=>⟨o.dst,o.op,Xx all o.guard⟩::JU all l
abbrev H_:=List be
def XL:H_->be
 |[]=>[]
 |a::_=>a
def Jz:Nat->H_->H_
 |0,l=>l
 |_+1,[]=>[]
 |n+1,_::l=>Jz n l
def w7:Code->Nat
 |.seq a b=>w7 a+w7 b
 |.cond _ a b=>w7 a+w7 b
 |.block _ b=>w7 b
 |.loop b=>w7 b
 |.region _ _ O=>1
 |_=>0
def zy:Code->H_->SC
 |.ret,_=>.ret
 |.exit id,_=>.exit id
 |.seq a b,l=>.seq (zy a l) (zy b (Jz (w7 a) l))
 |.cond x a b,l=>.cond x (zy a l) (zy b (Jz (w7 a) l))
 |.block id b,l=>.block id (zy b l)
 |.loop b,l=>.loop (zy b l)
 |.region _ ops I,_=>.region (JU ops.toList ops.toList)
 |.region _ ops O,l=>.draw (JU ops.toList ops.toList) (XL l)
 |_,_=>.skip
def Xw(f:Func)(l:H_):SC:=
 match f.body with
 |some c=>zy c l
 |none=>.skip
def stP(t:Nat)(c:SC):SC:=
 match c with
 |.seq a b=>(match t with
   |0=>a
   |_+1=>b)
 |.cond _ a b=>(match t with
   |0=>a
   |_+1=>b)
 |.block _ b=>b
 |.loop b=>b
 |c=>c
def Oh:be->SC->SC
 |[],c=>c
 |t::p,c=>Oh p (stP t c)
def CC(a b:SC):Prop:=a=b
def CC.r(a:SC):CC a a:=rfl
structure aW (f:Func) (l:H_) where
 y:SC
 h:CC y (Xw f l):=by(conv=>arg 2;arg 1;whnf);dsimp only[Xw,zy,w7,JU,Xx,Pu,XL,Jz];exact CC.r _
structure bM (k:SC) (p:be) where
 y:SC
 h:CC y (Oh p k):=by(conv=>arg 2;arg 2;whnf);dsimp only[Oh,stP];exact CC.r _
abbrev rZ(r:mm):SC:=.region r
abbrev j6(a b:SC):SC:=.seq a b
abbrev cS(r:mm)(k:SC):SC:=.seq (.region r) k
abbrev jn(t:Nat)(a b:SC):SC:=.cond (aG t) a b
abbrev MD(t n:Nat)(k:SC):SC:=.seq (.cond (aG t) .skip (.exit n)) k
abbrev pT(n:Nat)(k:SC):SC:=.block n k
abbrev Hb(k:SC):SC:=.loop k
abbrev sd:SC:=.ret
abbrev m5:SC:=.skip
abbrev sdR(r:mm)(b:be)(k:SC):SC:=.seq (.draw r b) k
abbrev bk(a b:Nat):aJ:=⟨X a,Op.move (aG b),.aw⟩
abbrev bm(a b c:Nat):aJ:=⟨X a,Op.load b (aG c),.aw⟩
abbrev cq(a b:Nat):aJ:=⟨X a,yD (aG b),.aw⟩
abbrev bQ(a b c d:Nat):aJ:=⟨X a,Op.fieldAddr b (aG c) d,.aw⟩
abbrev dU(a b c:Nat):aJ:=⟨Z,Op.store a (aG b) (aG c),.aw⟩
abbrev vE(a b c:Nat):aJ:=⟨X a,iT ⟨yh Builtin.len,#[aG b],#[c]⟩,.aw⟩
abbrev xL(a b c d:Nat):aJ:=⟨X a,Op.indexAddr b (aG c) (aG d),.aw⟩
abbrev adI(a:Nat)(b:Int):aJ:=⟨X a,yD (dy (fS gM b)),.aw⟩
abbrev ph(a b c:Nat):aJ:=⟨X a,Op.box b (aG c),.aw⟩
abbrev xN(a:Nat):aJ:=⟨X a,yD (dy (qP I)),.aw⟩
abbrev gD(a b:Nat):aJ:=⟨X a,Op.alloc b,.aw⟩
abbrev BM(a b:Nat)(c:Int):aJ:=⟨X a,fh BinOp.add 3 (aG b) (dy (fS gM c)) 3,.aw⟩
abbrev Hx(a b c d:Nat):aJ:=⟨X a,fh BinOp.lss b (aG c) (aG d) b,.aw⟩
abbrev gh(a b c d:Nat):aJ:=⟨X a,Op.load b (aG c),(.when d O)⟩
abbrev qz(a b c d e f:Nat):aJ:=⟨X a,iT ⟨nL (pG b),#[aG c,aG d],#[e,f]⟩,.aw⟩
abbrev eV(a b c d e:Nat):aJ:=⟨X a,Op.fieldAddr b (aG c) d,(.when e O)⟩
abbrev ku(a b c:Nat):aJ:=⟨X a,Op.extract (aG b) c,.aw⟩
abbrev jh(a b c:Nat):aJ:=⟨X a,Op.pick (aG b) (aG c) (dy (qP I)),.aw⟩
abbrev mr(a b c d:Nat):aJ:=⟨X a,iT ⟨nL (pG b),#[aG c],#[d]⟩,.aw⟩
abbrev oB(a b c d:Nat):aJ:=⟨X a,Op.load b (aG c),(.when d I)⟩
abbrev Hy(a:Nat):aJ:=⟨X a,Op.move (dy (fS gM 0)),.aw⟩
abbrev BN(a:Nat):aJ:=⟨X a,yD (dy (Value.slice Z 0 0)),.aw⟩
abbrev vC(a b c:Nat):aJ:=⟨X a,Op.move (aG b),(.when c O)⟩
abbrev my(a b:Nat):aJ:=⟨X a,Op.unOp UnOp.not 4 (aG b),.aw⟩
abbrev vD(a b c:Nat):aJ:=⟨X a,Op.pick (aG b) (dy (qP O)) (aG c),.aw⟩
abbrev zV(a b c d e:Nat):aJ:=⟨X a,Op.fieldAddr b (aG c) d,(.when e I)⟩
abbrev xK(a b c:Nat):aJ:=⟨X a,Op.move (aG b),(.when c I)⟩
abbrev tP(a b c:Nat):aJ:=⟨X a,yE b 1 #[(0,aG c)],.aw⟩
abbrev jJ(a b:Nat)(c:Int):aJ:=⟨X a,fh ye 3 (aG b) (dy (fS gM c)) 3,.aw⟩
abbrev Eb(a b c d e:Nat):aJ:=⟨X a,iT ⟨yh Builtin.append,#[aG b,aG c],#[d,e]⟩,.aw⟩
abbrev tQ(a b:Nat):aJ:=⟨X a,Op.nilCheck (aG b),.aw⟩
abbrev BO(a b:Nat)(c:Int):aJ:=⟨X a,fh BinOp.gtr 3 (aG b) (dy (fS gM c)) 3,.aw⟩
abbrev LY(a b c d e:Nat):aJ:=⟨X a,Op.build b #[(0,aG c),(d,aG e)],.aw⟩
abbrev adz(a b c d:Nat):aJ:=⟨X a,fh BinOp.neq b (aG c) (aG d) b,.aw⟩
abbrev LZ(a b c d e f g h:Nat):aJ:=⟨X a,iT ⟨nL (pG b),#[aG c,aG d,aG e],#[f,g,h]⟩,.aw⟩
abbrev L0(a b c:Nat)(d:Int):aJ:=⟨X a,Op.indexAddr b (aG c) (dy (fS gM d)),.aw⟩
abbrev L4(a b c d:Nat):aJ:=⟨X a,fh BinOp.add b (aG c) (aG d) b,.aw⟩
abbrev adA(a b c d e f g:Nat):aJ:=⟨X a,iT ⟨nL (pG b),#[aG c,aG d],#[e,f]⟩,(.when g O)⟩
abbrev azx(a b c d:Nat):aJ:=⟨X a,iT ⟨nL (aG b),#[aG c],#[d]⟩,.aw⟩
abbrev azy(a b c d:Nat):aJ:=⟨X a,fh ye b (aG c) (aG d) b,.aw⟩
abbrev SH(a b:Nat):aJ:=⟨X a,Op.makeMap b Z,.aw⟩
abbrev L5(a b c:Nat)(d:Int):aJ:=⟨X a,fh BinOp.neq b (aG c) (dy (fS gM d)) b,.aw⟩
abbrev azz(a b:Nat)(c:Int)(d:Nat):aJ:=⟨X a,fh BinOp.gtr 3 (aG b) (dy (fS gM c)) 3,(.when d I)⟩
abbrev adB(a b c:Nat):aJ:=⟨X a,fh BinOp.sub 3 (aG b) (aG c) 3,.aw⟩
abbrev zW(a b c d:Nat):aJ:=⟨X a,Op.lookup b (aG c) (aG d) O,.aw⟩
abbrev adC(a b c d:Nat):aJ:=⟨X a,Op.lookup b (aG c) (aG d) I,.aw⟩
abbrev adE(a b:Nat):aJ:=⟨X a,Op.build b #[],.aw⟩
abbrev SI(a b c:Nat):aJ:=⟨X a,Op.unOp UnOp.not 4 (aG b),(.when c I)⟩
abbrev Hz(a b c:Nat):aJ:=⟨X a,Op.unOp UnOp.not 4 (aG b),(.when c O)⟩
abbrev azA(a b:Nat)(c:Int):aJ:=⟨X a,fh BinOp.lss 3 (aG b) (dy (fS gM c)) 3,.aw⟩
abbrev SJ(a b c d:Nat):aJ:=⟨X a,iT ⟨yh Builtin.len,#[aG b],#[c]⟩,(.when d O)⟩
abbrev azB(a b c d:Nat):aJ:=⟨X a,fh BinOp.mul b (aG c) (aG d) b,.aw⟩
abbrev HA(a:Nat)(b:Int):aJ:=⟨X a,Op.build 108 #[(2,dy (fS gM b))],.aw⟩
abbrev rT(a:Nat)(b:Int):aJ:=⟨Z,Op.store 3 (aG a) (dy (fS gM b)),.aw⟩
abbrev adF(a b c d:Nat):aJ:=⟨Z,Op.mapUpdate a (aG b) (aG c) (aG d),.aw⟩
abbrev SK(a b c d:Nat):aJ:=⟨X a,Op.pick (aG b) (aG c) (dy (qP I)),(.when d I)⟩
abbrev BP(a b c d e:Nat):aJ:=⟨X a,iT ⟨nL (pG b),#[aG c],#[d]⟩,(.when e O)⟩
abbrev adG(a b:Nat)(c:Int)(d:Nat):aJ:=⟨X a,fh BinOp.leq 3 (aG b) (dy (fS gM c)) 3,(.when d O)⟩
abbrev adH(a b c d e f:Nat):aJ:=⟨X a,iT ⟨nL (pG b),#[aG c,pG d],#[e,f]⟩,.aw⟩
abbrev azC(a b c d e:Nat):aJ:=⟨X a,iT ⟨nL (pG b),#[aG c],#[d]⟩,(.when e I)⟩
abbrev adJ(a b c:Nat)(d:Int)(e:Nat):aJ:=⟨X a,Op.indexAddr b (aG c) (dy (fS gM d)),(.when e O)⟩
abbrev adK(a b:Nat):aJ:=⟨X a,fh BinOp.neq 9 (aG b) (dy (Value.string {data:= #[] })) 9,.aw⟩
abbrev adL(a b c d e:Nat):aJ:=⟨X a,fh BinOp.neq b (aG c) (aG d) b,(.when e I)⟩
abbrev SL(a b c d:Nat):aJ:=⟨X a,Op.build b #[(c,aG d)],.aw⟩
abbrev azD(a b c d e f:Nat):aJ:=⟨X a,iT ⟨nL (aG b),#[aG c,aG d],#[e,f]⟩,.aw⟩
abbrev adM:aJ:=⟨X 2,yD (dy (Value.pointer Z)),.aw⟩
abbrev L6(a b:Nat)(c:Int)(d:Nat):aJ:=⟨X a,fh BinOp.neq 3 (aG b) (dy (fS gM c)) 3,(.when d O)⟩
abbrev SM(a b c d e f g:Nat):aJ:=⟨X a,iT ⟨nL (pG b),#[aG c,aG d],#[e,f]⟩,(.when g I)⟩
abbrev azE(a b c d e:Nat):aJ:=⟨X a,fh ye b (aG c) (aG d) b,(.when e I)⟩
abbrev azF(a b c d:Nat):aJ:=⟨X a,fh BinOp.gtr b (aG c) (aG d) b,.aw⟩
abbrev azG(a b:Nat)(c:Int)(d:Nat):aJ:=⟨X a,fh ye 3 (aG b) (dy (fS gM c)) 3,(.when d I)⟩
abbrev azH(a b:Nat):aJ:=⟨X a,fh BinOp.sub 3 (aG b) (dy (fS gM 1)) 3,.aw⟩
abbrev azI(a b c:Nat)(d:Int)(e:Nat):aJ:=⟨X a,Op.indexAddr b (aG c) (dy (fS gM d)),(.when e I)⟩
abbrev azJ(a b c:Nat):aJ:=⟨X a,fh BinOp.leq 3 (aG b) (aG c) 3,.aw⟩
abbrev adN(a b:Nat)(c:Int)(d:Nat):aJ:=⟨X a,fh BinOp.lss 3 (aG b) (dy (fS gM c)) 3,(.when d O)⟩
abbrev L7(a b c:Nat):aJ:=⟨X a,fh BinOp.gtr 3 (aG b) (dy (fS gM 0)) 3,(.when c O)⟩
abbrev HB(a:Nat):aJ:=⟨Z,Op.store 4 (aG a) (dy (qP I)),.aw⟩
abbrev adw(a b c d:Nat):aJ:=⟨X a,Op.pick (aG b) (dy (qP O)) (aG c),(.when d O)⟩
abbrev LX(a:Int)(b:Nat):aJ:=⟨Z,Op.insert 184 (aG 77) (dy (fS gM a)) (aG b),.aw⟩
abbrev azs(a b c d e f g h i:Nat):aJ:=⟨X a,iT ⟨nL (pG b),#[aG c,aG d,aG e],#[f,g,h]⟩,(.when i I)⟩
abbrev azt(a b c:Nat):aJ:=⟨X a,fh ye b (aG c) (dy (Value.pointer Z)) b,.aw⟩
abbrev azu(a b c d:Nat):aJ:=⟨X a,iT ⟨yh Builtin.max,#[aG b,aG c],#[3,3]⟩,(.when d O)⟩
abbrev SF(a:Nat)(b:Int):aJ:=⟨X a,yE 26 1 #[(0,dy (fS gM b))],.aw⟩
abbrev azv(a b c:Nat):aJ:=⟨X a,fh BinOp.sub 3 (aG b) (dy (fS gM 1)) 3,(.when c I)⟩
abbrev adx(a:Nat):aJ:=⟨Z,Op.store 4 (aG a) (dy (qP O)),.aw⟩
abbrev ady(a b c d e f g:Nat):aJ:=⟨X a,iT ⟨nL (pG b),#[aG c,aG d,aG e],#[f,f,f]⟩,(.when g O)⟩
abbrev azw(a b c d:Nat):aJ:=⟨X a,fh BinOp.leq 3 (aG b) (aG c) 3,(.when d O)⟩
abbrev ah(n:Int):aa:=.int .i64 n
abbrev ak(n:Nat):aa:=.int .i64 (n:Int)
def PC(t:Nat):be->Nat
 |[]=>0
 |k::l=>bif aB k t then 1 else bif aB k (t+1000)then 2 else PC t l
def XO(f:Nat):List (Nat×be)->be
 |[]=>[]
 |(k,v)::l=>bif aB k f then v else XO f l
def hrow(f:Nat):be:=XO f [
(3,[3,4,8,16,1046]),
(11,[2,3]),
(28,[2,3]),
(32,[3,4]),
(20,[2,10,14]),
(43,[2,4]),
(36,[1,5]),
(151,[2]),
(34,[2,6]),
(52,[2,3,4,8,1034]),
(4,[1,2,4,5,8,9,12]),
(5,[3,4]),
(6,[6,17]),
(7,[5,11,1040,1120]),
(12,[2,4,9,10]),
(37,[2]),
(38,[2,7,10]),
(39,[1,6]),
(40,[1,3,10,13,19,21,1176]),
(41,[1]),
(42,[1,8]),
(59,[1,5]),
(80,[2]),
(220,[2]),
(98,[2]),
(99,[1007]),
(17,[5,6]),
(18,[2,3,7]),
(19,[6,10,16]),
(21,[1,2]),
(23,[1]),
(25,[1,1044]),
(29,[1,5,7]),
(30,[3,4,6,7,9,10]),
(58,[2,7,10]),
(60,[1]),
(61,[1,2,4,6]),
(62,[1,5,10,12,1093]),
(64,[2,4]),
(66,[11,15]),
(67,[2,7]),
(70,[2,3]),
(72,[1,5,7,11]),
(73,[1025]),
(75,[9,10]),
(76,[1,6,8]),
(77,[3,7]),
(78,[3]),
(79,[3]),
(1956,[2]),
(132,[7]),
(133,[2]),
(134,[1]),
(103,[3]),
(104,[3]),
(105,[5]),
(109,[1]),
(166,[1]),
(168,[2]),
(33,[6]),
(35,[2,3]),
(46,[1]),
(47,[1,3]),
(50,[3]),
(51,[3,4,11]),
(53,[2,4]),
(177,[7]),
(113,[3]),
(115,[2,3]),
(118,[6,12,1019,1092,1097]),
(119,[2,3]),
(130,[4]),
(171,[0,1]),
(56,[2]),
(87,[2,3]),
(91,[4]),
(93,[1066]),
(95,[4,5,6,10]),
(96,[4,5,6,7]),
(139,[2,3]),
(174,[1]),
(175,[1]),
(176,[3]),
(182,[4]),
(184,[2,3]),
(185,[7]),
(186,[2]),
(187,[2,3]),
(189,[2,3]),
(190,[4]),
(191,[1,2]),
(192,[3,4,5]),
(193,[2,3,5,6]),
(207,[4]),
(208,[7]),
(209,[1,2]),
(154,[2]),
(156,[1007]),
(160,[3]),
(246,[2,3]),
(232,[3]),
(247,[2,3,4]),
(248,[2,3]),
(249,[2,3]),
(254,[1]),
(255,[1]),
(264,[3,4,5]),
(292,[4]),
(272,[2])]
def Ds(f:FuncId)(t:Tmp):Nat:=PC t (hrow f)
abbrev Y_:=FuncId->O_
noncomputable def QS(sp:Y_):ay:= {P:=ae,hint:=Ds,spec:=sp,ch:=λ_=>0,kmax:=λ_=>2 }
def agC(sp:Y_):(QS sp).P=ae:=rfl
def agD(sp:Y_):(QS sp).hint=Ds:=rfl
def agE(sp:Y_):(QS sp).spec=sp:=rfl
def QX:=({y:=_}:aW f36 []).1
def QY:=({y:=_}:bM QX [1,1,0,1,0,0]).1
def auv:aU 36 f36 QX 29 [aY 2]:=.of
def aqq:hrow 36=[1,5]:=k_
def Zp:=({y:=_}:aW f151 []).1
def as6:aU 151 f151 Zp 9 [aY 4]:=.of
def aqw:hrow 151=[2]:=k_
def aaD:be:=[0,1,0,7,15,31,63,0,128,0,896,1920,3968,8064,16383,32767]
def GL:=({y:=_}:aW f34 [aaD]).1
def KH:=({y:=_}:bM GL [1,1,0,1,0,0,1,0,0,1,1,0,1,0,0]).1
def QU:=({y:=_}:bM GL [1,1,0,1,0,0,1,0,0,1,1,1,1,0,0]).1
def DC:=({y:=_}:bM GL [1,1,0,1,0,0]).1
def aut:aU 34 f34 GL 79 [aY 4]:=.of
def aqz:hrow 34=[2,6]:=k_
def Zn:be:=[0,0,3,7,0,0,48,112,255]
def P9:=({y:=_}:aW f138 [Zn]).1
def Qa:=({y:=_}:bM P9 [1,1,0,1,0,0]).1
def Kg:aU 138 f138 P9 26 [aY 4]:=.of
def aq7:hrow 138=[]:=k_
def aa1:be:=[0,1,3,7,15,31,63,127,255,511,1023,2047,4095,8191,16383,32767,65535,131071,262143,524287,131071,1179647,3276799,8388607,16777215,33554431,67108863,134217727,268435455,536870911,1073741823]
def k57:=({y:=_}:aW f57 [aa1]).1
def avo:aU 57 f57 k57 72 [aY 2]:=.of
def aq9:hrow 57=[]:=k_
def Z5:=({y:=_}:aW f219 []).1
def Z8:=({y:=_}:aW f220 []).1
def atY:aU 220 f220 Z8 8 [aY 3]:=.of
def ara:hrow 220=[2]:=k_
def P3:=({y:=_}:aW f125 []).1
def P4:=({y:=_}:bM P3 [1,1,0,1,0,0]).1
def asR:aU 125 f125 P3 18 [aY 2]:=.of
def api:hrow 125=[]:=k_
def Zr:=({y:=_}:aW f155 []).1
def ata:aU 155 f155 Zr 8 [aY 4]:=.of
def k65:=({y:=_}:aW f65 []).1
def avy:aU 65 f65 k65 9 [aY 4]:=.of
def RB:=({y:=_}:aW f71 []).1
def La:=({y:=_}:bM RB [1,0,1,0,0]).1
def avF:aU 71 f71 RB 36 [aY 4]:=.of
def aps:hrow 71=[]:=k_
def YQ:=({y:=_}:aW f103 []).1
def ass:aU 103 f103 YQ 14 [aY 2]:=.of
def apD:hrow 103=[3]:=k_
def PQ:=({y:=_}:aW f104 []).1
def PR:=({y:=_}:bM PQ [1,1,0,1,0,0]).1
def ast:aU 104 f104 PQ 39 [aY 2]:=.of
def apE:hrow 104=[3]:=k_
def PS:=({y:=_}:aW f105 []).1
def PT:=({y:=_}:bM PS [1,1,0,1,0,0]).1
def asu:aU 105 f105 PS 39 [aY 2]:=.of
def apF:hrow 105=[5]:=k_
def YR:=({y:=_}:aW f107 []).1
def asv:aU 107 f107 YR 34 [aY 5]:=.of
def asw:=({y:=_}:aW f108 []).1
def YS:=({y:=_}:aW f109 []).1
def asx:aU 109 f109 YS 21 [aY 2]:=.of
def apG:hrow 109=[1]:=k_
def Z9:=({y:=_}:aW f221 []).1
def atZ:aU 221 f221 Z9 8 [aY 4]:=.of
def PW:=({y:=_}:aW f117 []).1
def Kc:=({y:=_}:bM PW [1,0,1,0,0]).1
def Y0:aU 117 f117 PW 19 [aY 4]:=.of
def ap1:hrow 117=[]:=k_
def Y7:=({y:=_}:aW f121 []).1
def asI:aU 121 f121 Y7 20 [aY 4]:=.of
def Zd:=({y:=_}:aW f126 []).1
def asS:aU 126 f126 Zd 20 [aY 4]:=.of
def ZC:=({y:=_}:aW f172 []).1
def Zo:=({y:=_}:aW f139 []).1
def Kh:aU 139 f139 Zo 38 [aY 4]:=.of
def aqg:hrow 139=[2,3]:=k_
def ZW:=({y:=_}:aW f202 []).1
def atI:aU 202 f202 ZW 6 [aY 2]:=.of
def ZY:=({y:=_}:aW f205 []).1
def atK:aU 205 f205 ZY 6 [aY 2]:=.of
def Z4:be:=[0,0,3,7,0,0,48,112,255]
def QD:=({y:=_}:aW f213 [Z4]).1
def QE:=({y:=_}:bM QD [1,1,0,1,0,0]).1
def Ks:aU 213 f213 QD 26 [aY 4]:=.of
def aqM:hrow 213=[]:=k_
def aal:=({y:=_}:aW f246 []).1
def at7:aU 246 f246 aal 17 [aY 4]:=.of
def aqN:hrow 246=[2,3]:=k_
def QK:=({y:=_}:aW f292 []).1
def QL:=({y:=_}:bM QK [1,0,1,0,0]).1
def auo:aU 292 f292 QK 21 [aY 2]:=.of
def aq0:hrow 292=[4]:=k_
def ah7:eP ae 24 [(0,1)]:=kK
def VA:eP ae 50 [(0,1),(1,1)]:=kK
def aik:eP ae 105 [(0,1),(1,1)]:=kK
def Vy:qR ae 143 1:=qR.of
def Vz:qR ae 262 1:=qR.of
theorem rY:ee ae 3:=jx
def aev:ee ae 5:=jx
def vK:ee ae 9:=jx
def aBV:ee ae 22:=jx
def Mi:eI ae 24 1:=kA
def HR:ee ae 25:=jx
def aeu:ee ae 101:=jx
def Mj:eI ae 50 2:=kA
def aew:ee ae 51:=jx
def S8:eI ae 53 6:=kA
def aCe:eI ae 105 2:=kA
def aes:eI ae 143 2:=kA
def aE5:cW ae 3=X 1:=k_
def afC:cW ae 9=X 1:=k_
def aEX:cW ae 22=X 1:=k_
def aEZ:cW ae 24=X 1:=k_
def aE0:cW ae 25=X 1:=k_
def aFc:cW ae 101=X 1:=k_
def aFe:cW ae 50=X 2:=k_
def aFf:cW ae 51=X 1:=k_
def aFg:cW ae 53=X 6:=k_
def aFj:cW ae 105=X 2:=k_
def afz:cW ae 143=X 2:=k_
def afA:cW ae 262=X 6:=k_
def afB:cW ae 263=X 256:=k_
def uf:dD ae 3=X (.int .i64 (0)):=k_
def Ul:dD ae 4=X (.bool I):=k_
def aH2:dD ae 9=X (.str []):=k_
def aHN:dD ae 24=X (.agg [.uP]):=k_
def aHX:dD ae 101=X .nilm:=k_
def Nh:dD ae 50=X (.agg [(.int .i64 (0)),(.int .i64 (0))]):=k_
def Im:dD ae 53=X (.agg [(.str []),(.int .i64 (0)),(.int .i64 (0)),(.int .i64 (0)),.uP,.uP]):=k_
def aH3:dD ae 105=X (.agg [(.str []),(.str [])]):=k_
def Uk:dD ae 143=X (.agg [(.int .i64 (0)),(.int .i64 (0))]):=k_
def agm:dD ae 262=X (.agg [(.str []),(.str []),(.str []),(.str []),(.str []),(.str [])]):=k_
def amp:bq ae 24 0 0:=dg
def amG:bq ae 50 0 0:=dg
def amH:bq ae 50 1 1:=dg
def WW:bq ae 53 0 0:=dg
def FP:bq ae 53 1 1:=dg
def O8:bq ae 53 2 2:=dg
def FQ:bq ae 53 3 4:=dg
def WY:bq ae 53 4 5:=dg
def amR:bq ae 105 0 0:=dg
def amS:bq ae 105 1 1:=dg
def dY:ep ae 22 6 88 O (.agg [(.str []),(.int .i64 (0)),(.int .i64 (0)),(.int .i64 (0)),.uP,.uP]):=kY
def bL:ep ae 25 1 16 I (.str []):=kY
theorem ff:ep ae 26 1 8 I (.int .i64 (0)):=kY
def jj:ep ae 51 2 32 O (.agg [(.str []),(.str [])]):=kY
def X8(lc:Ag.Loc)(l g o:Nat)(i:aa):fR ae lc 143 (.uV l g o) i=(dJ i).bind λi=>bif bC i 2 then bif aB (lc.gen l) g then X (.uV l g (o+i*1))else Z else Z:=k_
def m6:ep ae 154 2 16 O (.agg [(.int .i64 (0)),(.int .i64 (0))]):=kY
def Ya(lc:Ag.Loc)(l g o:Nat)(i:aa):fR ae lc 263 (.uV l g o) i=(dJ i).bind λi=>bif bC i 256 then bif aB (lc.gen l) g then X (.uV l g (o+i*1))else Z else Z:=k_
def TA:ep ae 314 1 24 I .uP:=kY
def Ez:ep ae 379 2 16 O (.agg [(.int .i64 (0)),(.int .i64 (0))]):=kY
def YK(s:oa)(i:aa):Bo ae 9 (.str s) i=(dJ i).bind λi=>match s.drop i with|b::_=>X (.int .u8 b.toNat)|[]=>Z:=k_
def vk(mk:aK)(b:oa)(s:St):fZ ae mk 9 (.str b) s=X (.int .i64 (J b)):=k_
def DW(k:oa):jV ae 101 (.str k)=X (9,4):=k_
def JC(a b:oa):i9 ae 8 9 (.str a) (.str b)=X (a==b):=k_
attribute[go_sem]ah7 VA aik Vy Vz rY aev vK aBV Mi HR aeu Mj aew S8 aCe aes aE5 afC aEX aEZ aE0 aFc aFe aFf aFg aFj afz afA afB uf Ul aH2 aHN aHX Nh Im aH3 Uk agm amp amG amH WW FP O8 FQ WY amR amS dY bL ff jj X8 m6 Ya TA Ez YK vk dY bL ff jj m6 TA Ez dY bL ff jj m6 TA Ez DW JC aqw ara ap1 Zp Z5 Z8 k65 asw PW ZC aaD Zn aa1 Z4
def YO:be:=[0,0,3,7,0,0,48,112,255]
def YP:be:=[0,0,3,7,0,0,48,112,255,511]
def PP:=({y:=_}:aW f102 [YO,YP]).1
def k54:=({y:=_}:aW f54 []).1
def aih:eP ae 53 [(0,1),(1,1),(2,2),(4,1),(5,1)]:=kK
def aB0:ee ae 26:=jx
def aE2:cW ae 26=X 1:=k_
def oG:ep ae 33 1 24 I .uP:=kY
attribute[go_sem]aih aB0 aE2 oG YO YP
def Qn:=({y:=_}:aW f190 []).1
def Qo:=({y:=_}:bM Qn [1,0,1,0,0]).1
def atE:aU 190 f190 Qn 26 [aY 2]:=.of
def aqs:hrow 190=[4]:=k_
def ZR:=({y:=_}:aW f191 []).1
def Kr:aU 191 f191 ZR 16 [jy 2 209]:=.of
def aqt:hrow 191=[1,2]:=k_
def ZS:=({y:=_}:aW f192 []).1
def atF:aU 192 f192 ZS 24 [aY 6]:=.of
def aqu:hrow 192=[3,4,5]:=k_
def ZU:be:=[0,1,0,4,0,0,51,127]
def ZT:=({y:=_}:aW f193 [ZU]).1
def atG:aU 193 f193 ZT 63 [aY 4]:=.of
def aqv:hrow 193=[2,3,5,6]:=k_
def Y3:be:=[0,1,0,7,15,31]
def Y4:be:=[0,1,0,4,0,16,63,0,128,0,512,0,2048,8191,16383,32767]
def Y5:be:=[0,1,0,4,0,16,63,0,128,0,512,0,2048,8191,16383,32767]
def Y2:=({y:=_}:aW f119 [Y3,Y4,Y5]).1
def asG:aU 119 f119 Y2 125 [aY 4]:=.of
def ap3:hrow 119=[2,3]:=k_
def aam:=({y:=_}:aW f247 []).1
def Ku:aU 247 f247 aam 16 [jy 4 338]:=.of
def aqS:hrow 247=[2,3,4]:=k_
def aan:=({y:=_}:aW f248 []).1
def at8:aU 248 f248 aan 16 [aY 4]:=.of
def aqT:hrow 248=[2,3]:=k_
def aao:=({y:=_}:aW f249 []).1
def at9:aU 249 f249 aao 49 [aY 4]:=.of
def aqU:hrow 249=[2,3]:=k_
def ZK:=({y:=_}:aW f182 []).1
def Kq:aU 182 f182 ZK 12 [jy 4 276]:=.of
def aqm:hrow 182=[4]:=k_
def ZP:=({y:=_}:aW f187 []).1
def atB:aU 187 f187 ZP 17 [aY 4]:=.of
def aqp:hrow 187=[2,3]:=k_
def Y1:be:=[0,0,0,0,0,16,48,0,128,384,1008,0,2048,6144,0,16384,49152,131056,262140,524287,1048575]
def Gj:=({y:=_}:aW f118 [Y1]).1
def PX:=({y:=_}:bM Gj [1,1,1,0,1,0,0]).1
def Dx:=({y:=_}:bM Gj [1,1,1,1,1,1,1,0,1,0,0,1,1,0,0,1,1,0,1,0,0]).1
def PY:=({y:=_}:bM Gj [1,1,1,1,1,1,1,0,1,0,0]).1
def asF:aU 118 f118 Gj 102 [aY 2,aY 3]:=.of
def ap2:hrow 118=[6,12,1019,1092,1097]:=k_
def ZM:be:=[0,1,3,0,8,24,63,0,128,0,512,1920,4095,8191,16383]
def ZL:=({y:=_}:aW f184 [ZM]).1
def atz:aU 184 f184 ZL 19 [aY 4]:=.of
def XW:hrow 184=[2,3]:=k_
def ZO:=({y:=_}:aW f186 []).1
def atA:aU 186 f186 ZO 11 [aY 3]:=.of
def aqo:hrow 186=[2]:=k_
def Qk:=({y:=_}:aW f185 []).1
def Ql:=({y:=_}:bM Qk [1,1,1,0,1,0,0]).1
def ZN:aU 185 f185 Qk 42 [aY 4]:=.of
def aqn:hrow 185=[7]:=k_
def QF:=({y:=_}:aW f244 []).1
def Kt:=({y:=_}:bM QF [1,0,1,0,0]).1
def aak:aU 244 f244 QF 19 [aY 4]:=.of
def aqR:hrow 244=[]:=k_
def ZQ:=({y:=_}:aW f189 []).1
def atC:aU 189 f189 ZQ 17 [aY 4]:=.of
def aqr:hrow 189=[2,3]:=k_
def aia:eP ae 214 [(0,1),(1,1),(2,1)]:=kK
def aid:eP ae 276 [(0,1),(1,1)]:=kK
def aie:eP ae 279 [(0,1),(1,4),(5,2),(7,2)]:=kK
def aig:eP ae 338 [(0,1),(1,1)]:=kK
def aB2:eI ae 209 4:=kA
def aB7:eI ae 276 2:=kA
def aet:eI ae 279 9:=kA
def aB9:eI ae 338 2:=kA
def aE3:cW ae 209=X 4:=k_
def aE9:cW ae 276=X 2:=k_
def aFa:cW ae 279=X 9:=k_
def aFd:cW ae 338=X 2:=k_
def aHP:dD ae 209=X (.agg [(.int .i64 (0)),(.int .i64 (0)),(.int .i64 (0)),(.int .i64 (0))]):=k_
def aHQ:dD ae 214=X (.agg [(.int .i64 (0)),(.int .i64 (0)),(.int .i64 (0))]):=k_
def aHU:dD ae 276=X (.agg [(.int .i64 (0)),(.int .i64 (0))]):=k_
def aHV:dD ae 279=X (.agg [(.int .i64 (0)),(.int .i64 (0)),(.int .i64 (0)),(.int .i64 (0)),(.int .i64 (0)),(.int .i64 (0)),(.int .i64 (0)),(.int .i64 (0)),(.int .i64 (0))]):=k_
def aHY:dD ae 338=X (.agg [(.int .i64 (0)),(.int .i64 (0))]):=k_
def ams:bq ae 209 0 0:=dg
def amt:bq ae 209 1 2:=dg
def WQ:bq ae 214 0 0:=dg
def amu:bq ae 214 1 1:=dg
def amz:bq ae 276 0 0:=dg
def amA:bq ae 276 1 1:=dg
def amB:bq ae 279 0 0:=dg
def amC:bq ae 279 1 1:=dg
def amD:bq ae 279 2 5:=dg
def amE:bq ae 279 3 7:=dg
def WU:bq ae 338 0 0:=dg
def amF:bq ae 338 1 1:=dg
def Aj:ep ae 141 4 32 O (.agg [(.int .i64 (0)),(.int .i64 (0)),(.int .i64 (0)),(.int .i64 (0))]):=kY
def vQ:ep ae 274 9 72 O (.agg [(.int .i64 (0)),(.int .i64 (0)),(.int .i64 (0)),(.int .i64 (0)),(.int .i64 (0)),(.int .i64 (0)),(.int .i64 (0)),(.int .i64 (0)),(.int .i64 (0))]):=kY
def Ey:ep ae 210 3 24 O (.agg [(.int .i64 (0)),(.int .i64 (0)),(.int .i64 (0))]):=kY
attribute[go_sem]aia aid aie aig aB2 aB7 aet aB9 aE3 aE9 aFa aFd aHP aHQ aHU aHV aHY ams amt WQ WQ amu amz amA amB amC amD amE WU WU amF Aj vQ Ey aqs aqt aqu aqv ap3 aqS aqT aqU aqm aqp ap2 XW XW aqo aqn aqR aqr Qn ZR ZS ZT Y2 aam aan aao ZK ZP Gj ZL ZO Qk QF ZQ
def Rt:=({y:=_}:aW f61 []).1
def Ru:=({y:=_}:bM Rt [1,1,1,0,1,0,0]).1
def avt:aU 61 f61 Rt 29 [jy 2 126,aY 3]:=.of
def apl:hrow 61=[1,2,4,6]:=k_
def YW:=({y:=_}:aW f113 []).1
def asC:aU 113 f113 YW 10 [aY 4]:=.of
def apY:hrow 113=[3]:=k_
def ZJ:=({y:=_}:aW f180 []).1
def aty:aU 180 f180 ZJ 25 [aY 3]:=.of
def aa3:be:=[0,1,0,0,8,24,60,127,255,511]
def aa4:be:=[0,0,3,0,8,31,63]
def GQ:=({y:=_}:aW f62 [aa3,aa4]).1
def GR:=({y:=_}:bM GQ [1,1,0,1,0,0,1,1,0,0,1,1,1,0,0]).1
def GS:=({y:=_}:bM GQ [1,1,0,1,0,0]).1
def Rv:=({y:=_}:bM GQ [1,1,1,1,0,1,0,0]).1
def avu:aU 62 f62 GQ 110 [aY 2]:=.of
def XP:hrow 62=[1,5,10,12,1093]:=k_
def YX:=({y:=_}:aW f115 []).1
def asD:aU 115 f115 YX 19 [aY 4]:=.of
def apZ:hrow 115=[2,3]:=k_
def YY:be:=[0,0,3,7,0,0,32,112,240,511,1023]
def PV:=({y:=_}:aW f116 [YY]).1
def YZ:=({y:=_}:bM PV [1,0,1,0,0]).1
def asE:aU 116 f116 PV 25 [aY 2]:=.of
def ap0:hrow 116=[]:=k_
def k64:=({y:=_}:aW f64 []).1
def avx:aU 64 f64 k64 15 [jy 4 50]:=.of
def apn:hrow 64=[2,4]:=k_
def abc:be:=[0,1,3,0,8,24,63,0,128,384,0,1024,3072,8064,127,32767]
def abd:be:=[0,0,2,6,0,16,48,127,0,0,512,1536,0,4096,12288,32512,255,131071]
def aa8:be:=[0,0,0,4,14,30,0,0,128,448,960,2046,0,4096,16383]
def aa9:be:=[0,0,3,7,15,31,0,0,192,448,960,1984,4095,0,16383]
def aba:be:=[0,0,3,7,15,31,0,0,192,448,960,1984,4095,0,16383]
def abb:be:=[0,0,3,7,0,0,48,112,255,511]
def Bv:=({y:=_}:aW f66 [abc,abd,aa8,aa9,aba,abb]).1
def K8:=({y:=_}:bM Bv [1,1,0,1,0,0]).1
def Rx:=({y:=_}:bM Bv [1,1,1,0,1,0,1,0,1,0,0]).1
def avz:aU 66 f66 Bv 208 []:=.of
def XQ:hrow 66=[11,15]:=k_
def abe:be:=[0,0,0,4,12,30,0,0,128,384,1022,2046,4094,8191,16383]
def Ry:=({y:=_}:aW f67 [abe]).1
def Rz:=({y:=_}:bM Ry [1,1,0,1,0,0]).1
def avA:aU 67 f67 Ry 30 [aY 4]:=.of
def apo:hrow 67=[2,7]:=k_
def aaH:be:=[0,0,2,7,15,0,0,64,224,480,0,0,3103,8191]
def aaI:be:=[0,1,0,4,12,31,63,127,255,127,639,1663,4095,8191,16383]
def vi:=({y:=_}:aW f40 [aaH,aaI]).1
def Q0:=({y:=_}:bM vi [1,1,1,1,1,1,1,0,1,0,0,1,1,0,0,1,1,0,0,1,1,0,0,1,1,1,0,0,1,0,0]).1
def Q5:=({y:=_}:bM vi [1,1,1,1,1,1,1,0,1,0,0,1,1,0,0,1,1,0,0]).1
def Q6:=({y:=_}:bM vi [1,1,1,1,1,1,1,0,1,0,0]).1
def Q7:=({y:=_}:bM vi [1,1,1,1,1,1,1,1,1,0,1,0,0]).1
def Q8:=({y:=_}:bM vi [1,1,1,1,1,1,1,1,1,1,1,1,0,1,0,0,1,1,0,1,1,1,1,1,0,0,1,1,0,0,1,1,0,0]).1
def Q9:=({y:=_}:bM vi [1,1,1,1,1,1,1,1,1,1,1,1,0,1,0,0,1,1,0,1,1,1,1,1,0,0]).1
def KQ:=({y:=_}:bM vi [1,1,1,1,1,1,1,1,1,1,1,1,0,1,0,0]).1
def Ra:=({y:=_}:bM vi [1,1,1,1,1,1,1,1,1,1,1,1,1,1,0,1,0,0]).1
def auA:aU 40 f40 vi 180 [aY 2]:=.of
def X4:hrow 40=[1,3,10,13,19,21,1176]:=k_
def k63:=({y:=_}:aW f63 []).1
def avv:aU 63 f63 k63 13 []:=.of
def apm:hrow 63=[]:=k_
def abg:be:=[0,0,3,7,0,0,32,112,240,511]
def abf:be:=[0,0,3,7,0,0,32,112,240,511]
def K9:=({y:=_}:aW f68 [abg,abf]).1
def avC:=({y:=_}:bM K9 [1,1,0,1,0,0,1,0,0,1,0,1,0,1,0,0]).1
def abh:=({y:=_}:bM K9 [1,1,0,1,0,0]).1
def avB:aU 68 f68 K9 61 [aY 2]:=.of
def apq:hrow 68=[]:=k_
def k70:=({y:=_}:aW f70 []).1
def avE:aU 70 f70 k70 10 [aY 4]:=.of
def apr:hrow 70=[2,3]:=k_
def aic:eP ae 59 [(0,1),(1,1),(2,1)]:=kK
def ah2:eP ae 126 [(0,1),(1,1)]:=kK
def ah3:qR ae 132 1:=qR.of
def ah4:eP ae 136 [(0,2),(2,1)]:=kK
def ah9:eP ae 209 [(0,2),(2,2)]:=kK
def aBN:ee ae 72:=jx
def aBP:eI ae 126 2:=kA
def aBQ:ee ae 131:=jx
def aBR:eI ae 132 2:=kA
def aer:eI ae 136 3:=kA
def aB4:eI ae 214 3:=kA
def aES:cW ae 126=X 2:=k_
def aET:cW ae 131=X 1:=k_
def aEU:cW ae 132=X 2:=k_
def aEV:cW ae 136=X 3:=k_
def aE4:cW ae 214=X 3:=k_
def yd:dD ae 25=X .uP:=k_
def aHT:dD ae 59=X (.agg [(.str []),(.int .i64 (0)),.uP]):=k_
def aHG:dD ae 126=X (.agg [.uP,.nilm]):=k_
def aHH:dD ae 131=X .nilm:=k_
def aHI:dD ae 132=X (.agg [(.str []),(.str [])]):=k_
def aHJ:dD ae 136=X (.agg [(.str []),(.str []),.uP]):=k_
def WT:bq ae 59 2 2:=dg
def amf:bq ae 126 0 0:=dg
def amg:bq ae 126 1 1:=dg
def amh:bq ae 136 0 0:=dg
def ami:bq ae 136 1 2:=dg
def amv:bq ae 214 2 2:=dg
def B7:ep ae 129 3 56 O (.agg [(.str []),(.str []),.uP]):=kY
def arv(lc:Ag.Loc)(l g o:Nat)(i:aa):fR ae lc 132 (.uV l g o) i=(dJ i).bind λi=>bif bC i 2 then bif aB (lc.gen l) g then X (.uV l g (o+i*1))else Z else Z:=k_
def YJ(cs:az)(i:aa):Bo ae 132 (.agg cs) i=(dJ i).bind λi=>bif bC i 2 then gK ae 9 cs (i*1)else Z:=k_
def kw:ep ae 43 3 48 O (.agg [(.str []),(.int .i64 (0)),.uP]):=kY
attribute[go_sem]aic ah2 ah3 ah4 ah9 aBN aBP aBQ aBR aer aB4 aES aET aEU aEV aE4 yd aHT aHG aHH aHI aHJ WT WT amf amg amh ami amv B7 arv Ey YJ Ey kw B7 Aj apl apY XP XP apZ ap0 apn XQ XQ apo X4 X4 apm apq apr Rt YW ZJ GQ YX PV k64 Bv Ry vi k63 K9 k70
def ZX:=({y:=_}:aW f203 []).1
def atJ:aU 203 f203 ZX 16 [aY 2]:=.of
def aqx:hrow 203=[]:=k_
def aub:=({y:=_}:aW f253 []).1
def aap:=({y:=_}:aW f254 []).1
def auc:aU 254 f254 aap 6 [aY 2]:=.of
def aqV:hrow 254=[1]:=k_
def Kv:=({y:=_}:aW f255 []).1
def aud:aU 255 f255 Kv 17 [aY 2]:=.of
def aqX:hrow 255=[1]:=k_
def aaz:=({y:=_}:aW f294 []).1
def Zf:=({y:=_}:aW f128 []).1
def asU:aU 128 f128 Zf 4 [aY 2]:=.of
def ap6:hrow 128=[]:=k_
def Z0:be:=[0,0,0,0,0,16,0,64,240,504,1016,2044,4095,8191]
def Qt:=({y:=_}:aW f207 [Z0]).1
def Qu:=({y:=_}:bM Qt [1,0,0]).1
def atQ:aU 207 f207 Qt 27 []:=.of
def aqA:hrow 207=[4]:=k_
noncomputable def Gk:Code:=
 ((jc (f122.body.getD .ret)).getD 0 (.ret,.ret)).1
noncomputable def Gm:Code:=
 ((jc (f122.body.getD .ret)).getD 0 (.ret,.ret)).2
noncomputable def P0:SC:=
 (.seq (.region [cq 6 21])
 (.region [gD 7 209,dU 209 7 22]))
noncomputable def Ke:SC:=
 (.block 3 (.seq (.seq (.region [bk 23 6,bm 24 3 4,⟨X 25,fh BinOp.geq 3 (aG 23) (aG 24) 3,.aw⟩])
 (.cond (aG 25) (.exit 2) .skip))
 (.seq (.region [bm 26 209 5,bm 27 209 7,qz 28 119 26 27 209 209,cq 8 28])
 (.seq (.region [bm 29 3 4,bk 30 6,adB 31 29 30,jJ 32 31 1,bk 33 32,oB 34 3 4 33,xK 35 6 33,⟨X 36,fh BinOp.sub 3 (aG 34) (aG 35) 3,(.when 33 I)⟩,oB 37 3 3 33,azv 38 37 33,azE 39 3 36 38 33,vD 40 33 39,cq 9 40])
 (.seq (.region [bk 41 9,bk 42 41,vC 43 8 42,L6 44 43 1 42,jh 45 42 44,bk 46 45,xK 47 9 46,SI 48 47 46,xK 49 48 46,vC 50 8 49,L6 51 50 0 49,SK 52 49 51 46,vD 53 46 52])
 (.cond (aG 53) (.seq (.region [HB 2])
 .ret) .skip))))))
noncomputable def Gl:Code:=
 ((jc (f122.body.getD .ret)).getD 1 (.ret,.ret)).1
noncomputable def Gn:Code:=
 ((jc (f122.body.getD .ret)).getD 1 (.ret,.ret)).2
noncomputable def P1:SC:=
 (.seq (.region [gD 4 3,dU 3 4 17])
 (.region [gD 5 209,dU 209 5 18]))
noncomputable def P2:SC:=
 (.block 1 (.seq (.region [bm 19 154 1,mr 20 128 19 154])
 (.block 2 (.rfun (aG 20) [21,22] Gk Gm))))
noncomputable def Y8:SC:=
 (.seq (.region [ph 1 154 0,gD 2 4])
 (.seq (.seq (.region [bm 10 154 1,mr 11 203 10 154,my 12 11])
 (.cond (aG 12) (.seq (.region [HB 2])
 .ret) .skip))
 (.seq (.region [bm 13 154 1,vE 14 13 154,gD 3 3,dU 3 3 14])
 (.seq (.seq (.region [bm 15 154 1,mr 16 128 15 154])
 (.block 0 (.rfun (aG 16) [17,18] Gl Gn)))
 (.seq (.region [adx 2])
 .ret)))))
def asJ:dZ Gk=P0:=k_
def asN:dZ Gm=Ke:=k_
def Y9:(dR Gk&&dR Gm)=O:=k_
def asM:dZ Gl=P1:=k_
def asO:dZ Gn=P2:=k_
def asP:aU 122 f122 Y8 54 [jy 2 4]:=.of
def XU:hrow 122=[]:=k_
noncomputable def Gz:Code:=
 ((jc (f206.body.getD .ret)).getD 0 (.ret,.ret)).1
noncomputable def GA:Code:=
 ((jc (f206.body.getD .ret)).getD 0 (.ret,.ret)).2
noncomputable def Qr:SC:=
 (.region [gD 5 209,dU 209 5 12])
noncomputable def Qs:SC:=
 (.block 1 (.region [bm 13 3 3,bQ 14 209 5 0,bQ 15 50 14 0,bm 16 3 15,bQ 17 209 5 1,bQ 18 50 17 0,bm 19 3 18,L4 20 3 16 19,bQ 21 209 5 1,bQ 22 50 21 1,bm 23 3 22,bQ 24 209 5 0,bQ 25 50 24 1,bm 26 3 25,adB 27 23 26,azB 28 3 20 27,L4 29 3 13 28,dU 3 3 29]))
noncomputable def ZZ:SC:=
 (.seq (.region [adI 2 0])
 (.seq (.seq (.region [bk 6 0,mr 7 203 6 154,my 8 7])
 (.cond (aG 8) (.seq (.region [adI 2 0])
 .ret) .skip))
 (.seq (.region [gD 3 3,rT 3 0])
 (.seq (.seq (.region [bk 9 0,mr 10 128 9 154])
 (.block 0 (.rfun (aG 10) [11,12] Gz GA)))
 (.seq (.region [bm 30 3 3,cq 2 30])
 .ret)))))
def atL:dZ Gz=Qr:=k_
def atM:dZ GA=Qs:=k_
def atO:(dR Gz&&dR GA)=O:=k_
def atN:aU 206 f206 ZZ 31 [aY 2]:=.of
def aqy:hrow 206=[]:=k_
def GD:sP:=[bk 20 8,jJ 21 20 0,bk 22 21,eV 23 209 7 0 22,eV 24 50 23 0 22,gh 25 3 24 22,eV 26 50 3 0 22,gh 27 3 26 22,eV 28 209 7 1 22,eV 29 50 28 0 22,gh 30 3 29 22,ady 31 265 25 27 30 3 22,jh 32 22 31,bk 33 32,eV 34 209 7 0 33,eV 35 50 34 1 33,gh 36 3 35 33,eV 37 50 3 1 33,gh 38 3 37 33,eV 39 209 7 1 33,eV 40 50 39 1 33,gh 41 3 40 33,ady 42 265 36 38 41 3 33,jh 43 33 42,cq 19 43]
def Dz:sP:=[bQ 45 209 7 0,bQ 46 50 45 1,bm 47 3 46,bQ 48 50 3 1,bm 49 3 48,azJ 50 47 49,bk 51 50,eV 52 209 7 1 51,eV 53 50 52 1 51,gh 54 3 53 51,eV 55 50 3 1 51,gh 56 3 55 51,⟨X 57,fh BinOp.gtr 3 (aG 54) (aG 56) 3,(.when 51 O)⟩,jh 58 51 57,bk 59 58,vC 60 8 59,L7 61 60 59,jh 62 59 61,cq 44 62]
def Bu:sP:=[bQ 66 209 7 0,bQ 67 50 66 1,bm 68 3 67,bQ 69 50 3 1,bm 70 3 69,azF 71 3 68 70,bk 72 71,eV 73 209 7 1 72,eV 74 50 73 1 72,gh 75 3 74 72,eV 76 50 3 1 72,gh 77 3 76 72,azw 78 75 77 72,jh 79 72 78,bk 80 79,vC 81 8 80,adN 82 81 0 80,jh 83 80 82,cq 65 83]
noncomputable def GB:Code:=
 ((jc (f210.body.getD .ret)).getD 0 (.ret,.ret)).1
noncomputable def GC:Code:=
 ((jc (f210.body.getD .ret)).getD 0 (.ret,.ret)).2
noncomputable def QB:SC:=
 (.region [gD 7 209,dU 209 7 12])
noncomputable def QC:SC:=
 (.block 1 (.seq (.region [bQ 13 209 7 0,bm 14 50 13,bQ 15 209 7 1,bm 16 50 15,bm 17 50 3,LZ 18 264 14 16 17 50 50 50,cq 8 18])
 (.block 2 (.seq (.region GD)
 (.cond (aG 19) (.seq (.region [rT 4 0])
 .ret) (.seq (.region Dz)
 (.cond (aG 44) (.region [bm 63 3 5,BM 64 63 1,dU 3 5 64]) (.seq (.region Bu)
 (.cond (aG 65) (.region [bm 84 3 5,azH 85 84,dU 3 5 85]) .skip)))))))))
noncomputable def Z2:SC:=
 (.seq (.region [ph 3 50 1,gD 4 3])
 (.seq (.region [gD 5 3,rT 5 0])
 (.seq (.seq (.region [bk 9 0,mr 10 128 9 154])
 (.block 0 (.rfun (aG 10) [11,12] GB GC)))
 (.seq (.seq (.region [bm 86 3 5,jJ 87 86 0])
 (.cond (aG 87) (.seq (.region [rT 4 (-1)])
 .ret) .skip))
 (.seq (.region [rT 4 1])
 .ret)))))
def atU:dZ GB=QB:=k_
def atV:dZ GC=QC:=k_
def atW:aU 210 f210 Z2 88 [jy 4 3]:=.of
def aqC:hrow 210=[]:=k_
def aaq:=({y:=_}:aW f264 []).1
def auf:aU 264 f264 aaq 30 [aY 6]:=.of
def aqY:hrow 264=[3,4,5]:=k_
def aar:=({y:=_}:aW f265 []).1
def aug:aU 265 f265 aar 19 [aY 6]:=.of
def aqZ:hrow 265=[]:=k_
def Qv:=({y:=_}:aW f208 []).1
def Qw:=({y:=_}:bM Qv [1,1,0,1,0,0]).1
def atR:aU 208 f208 Qv 25 [aY 4]:=.of
def XY:hrow 208=[7]:=k_
def Z1:=({y:=_}:aW f209 []).1
def atS:aU 209 f209 Z1 10 [jy 2 50]:=.of
def aqB:hrow 209=[1,2]:=k_
noncomputable def Gp:Code:=
 ((jc (f129.body.getD .ret)).getD 0 (.ret,.ret)).1
noncomputable def Gq:Code:=
 ((jc (f129.body.getD .ret)).getD 0 (.ret,.ret)).2
noncomputable def P5:SC:=
 (.region [gD 8 209,dU 209 8 14])
noncomputable def P6:SC:=
 (.block 1 (.region [bm 15 154 6,bQ 16 209 8 0,bQ 17 50 16 0,bm 18 3 17,bQ 19 209 8 1,bQ 20 50 19 0,bm 21 3 20,L4 22 3 18 21,bQ 23 209 8 0,bQ 24 50 23 1,bm 25 3 24,bQ 26 209 8 1,bQ 27 50 26 1,bm 28 3 27,L4 29 3 25 28,LY 30 50 22 1 29,qz 31 210 15 30 154 50,⟨X 32,fh BinOp.sub 3 (dy (fS gM 1)) (aG 31) 3,.aw⟩,xL 33 226 5 32,bm 34 3 33,BM 35 34 1,xL 36 226 5 32,dU 3 36 35]))
noncomputable def Zg:SC:=
 (.seq (.region [gD 4 226])
 (.seq (.region [gD 5 226])
 (.seq (.region [bk 9 1,adH 10 208 9 209 154 300,gD 6 154,dU 154 6 10])
 (.seq (.seq (.region [bk 11 0,mr 12 128 11 154])
 (.block 0 (.rfun (aG 12) [13,14] Gp Gq)))
 (.seq (.region [bm 37 226 5,dU 226 4 37])
 .ret)))))
def asV:dZ Gp=P5:=k_
def asW:dZ Gq=P6:=k_
def asY:(dR Gp&&dR Gq)=O:=k_
def asX:aU 129 f129 Zg 38 [jy 4 226]:=.of
def ap7:hrow 129=[]:=k_
def abp:be:=[0,0,3,0,0,31,0,0,255,511]
noncomputable def GV:Code:=
 ((jc (f75.body.getD .ret)).getD 0 (.ret,.ret)).1
noncomputable def GX:Code:=
 ((jc (f75.body.getD .ret)).getD 0 (.ret,.ret)).2
noncomputable def RE:SC:=
 (.region [gD 8 209,dU 209 8 26])
noncomputable def DG:SC:=
 (.block 3 (.seq (.region [bm 27 209 6,bm 28 209 8,qz 29 119 27 28 209 209])
 (.block 4 (.seq (.seq (.region [jJ 31 29 2,cq 30 31])
 (.cond (aG 30) .skip (.seq (.region [jJ 32 29 3,cq 30 32])
 (.cond (aG 30) .skip (.region [jJ 33 29 5,cq 30 33])))))
 (.cond (aG 30) (.seq (.region [rT 4 0])
 .ret) .skip)))))
noncomputable def GW:Code:=
 ((jc (f75.body.getD .ret)).getD 1 (.ret,.ret)).1
noncomputable def GY:Code:=
 ((jc (f75.body.getD .ret)).getD 1 (.ret,.ret)).2
noncomputable def RF:SC:=
 (.region [gD 6 209,dU 209 6 22])
noncomputable def RG:SC:=
 (.block 1 (.seq (.region [bm 23 154 3,mr 24 128 23 154])
 (.block 2 (.rfun (aG 24) [25,26] GV GX))))
def Lc:sP:=[bk 34 0,bm 35 154 3,qz 36 129 34 35 154 154,bm 37 154 3,bk 38 0,qz 39 129 37 38 154 154,gD 9 226,gD 10 226,dU 226 9 36,dU 226 10 39]
noncomputable def k75:SC:=
 (.seq (.region [ph 3 154 1,gD 4 3])
 (.seq (.seq (.region [bk 11 0,mr 12 122 11 154,my 13 12,bk 14 13,oB 15 154 3 14,azC 16 122 15 154 14,SI 17 16 14,vD 18 14 17])
 (.cond (aG 18) (.seq (.region [rT 4 0])
 .ret) .skip))
 (.seq (.seq (.region [bk 19 0,mr 20 128 19 154])
 (.block 0 (.rfun (aG 20) [21,22] GW GY)))
 (.seq (.draw Lc abp)
 (.seq (.block 5 (.seq (.region [L0 41 226 9 0,bm 42 3 41,BO 43 42 0,bk 44 43,adJ 45 226 9 2 44,gh 46 3 45 44,L7 47 46 44,jh 48 44 47,bk 49 48,azI 50 226 10 0 49,oB 51 3 50 49,azz 52 51 0 49,xK 53 52 49,adJ 54 226 10 2 53,gh 55 3 54 53,L7 56 55 53,SK 57 53 56 49,vD 58 49 57,cq 40 58])
 (.cond (aG 40) (.seq (.region [rT 4 0])
 .ret) (.seq (.region [L0 60 226 9 0,bm 61 3 60,BO 62 61 0,cq 59 62])
 (.cond (aG 59) (.seq (.region [rT 4 2])
 .ret) (.seq (.region [L0 64 226 10 0,bm 65 3 64,BO 66 65 0,cq 63 66])
 (.cond (aG 63) (.seq (.region [rT 4 3])
 .ret) (.seq (.region [L0 68 226 9 2,bm 69 3 68,BO 70 69 0,cq 67 70])
 (.cond (aG 67) (.seq (.region [rT 4 1])
 .ret) .skip)))))))))
 (.seq (.region [rT 4 4])
 .ret))))))
def avJ:dZ GV=RE:=k_
def avL:dZ GX=DG:=k_
def abq:(dR GV&&dR GX)=O:=k_
def avK:dZ GW=RF:=k_
def avM:dZ GY=RG:=k_
def avN:aU 75 f75 k75 71 [jy 4 3]:=.of
def apu:hrow 75=[9,10]:=k_
def aah:=({y:=_}:aW f232 []).1
def at4:aU 232 f232 aah 16 [aY 4]:=.of
def aqQ:hrow 232=[3]:=k_
def abm:be:=[0,1,3,7,0,16,0,127]
def abk:be:=[0,0,2,6,14,0,32,96,254,511,1023,2047]
def abl:be:=[0,1,3,7,0,16,0,127]
def Lb:SC:=(cS [Hx 24 3 23 22] (MD 24 0 (j6 (pT 1 (cS [xL 25 22 21 23,bm 26 53 25,gD 5 53,dU 53 5 26] (.draw [bk 27 3,tQ 28 27,bQ 29 152 28 1,bm 30 122 29,bQ 31 53 5 0,bm 32 9 31,bm 33 53 5,adF 122 30 32 33] abm))) (rZ [BM 34 23 1,bk 23 34]))))
def DE:SC:=(cS [Hx 49 3 48 47] (MD 49 4 (j6 (pT 5 (cS [xL 50 25 46 48,bm 51 9 50,cq 10 51] (cS [bk 53 3,tQ 54 53,bQ 55 152 54 1,bm 56 122 55,bk 57 10,zW 58 122 56 57,bk 52 58,ku 59 52 0,ku 60 52 1,gD 11 53,dU 53 11 59,cq 12 60] (j6 (cS [bk 61 12,my 62 61,bk 63 62,zV 64 53 11 1 63,oB 65 3 64 63,⟨X 66,fh BinOp.neq 3 (aG 65) (dy (fS gM 1)) 3,(.when 63 I)⟩,vD 67 63 66] (jn 67 (.exit 3) m5)) (rZ [bk 68 8,bQ 69 53 11 2,bm 70 50 69,tP 71 154 70,Eb 72 68 71 154 154,cq 8 72]))))) (rZ [BM 73 48 1,bk 48 73]))))
def DF:SC:=(cS [Hx 39 3 38 37] (MD 39 2 (j6 (pT 3 (cS [xL 40 22 36 38,bm 41 53 40,gD 7 53,dU 53 7 41] (j6 (cS [bQ 42 53 7 1,bm 43 3 42,L5 44 3 43 3] (jn 44 (.exit 3) m5)) (cS [BN 8] (j6 (cS [bQ 45 53 7 3,bm 46 25 45,vE 47 46 25,Hy 48] (pT 4 (Hb DE))) (j6 (cS [bk 74 8,mr 75 122 74 154,my 76 75] (jn 76 (sdR [bk 77 3,bk 78 3,tQ 79 78,bQ 80 152 79 2,bm 81 25 80,bQ 82 53 7 0,bm 83 9 82,tP 84 25 83,Eb 85 81 84 25 25,tQ 86 77,bQ 87 152 86 2,dU 25 87 85] abk (.exit 3)) m5)) (.draw [bk 88 3,tQ 89 88,bQ 90 152 89 0,bm 91 150 90,bQ 92 53 7 0,bm 93 9 92,bk 94 8,adF 150 91 93 94] abl))))))) (rZ [BM 95 38 1,bk 38 95]))))
def k72:SC:=(cS [ph 1 24 0,adM] (.scope (j6 (cS [bm 13 24 1,mr 14 36 13 24,my 15 14] (jn 15 (cS [adM] sd) m5)) (cS [SH 16 150,SH 17 122,⟨X 18,Op.build 152 #[(0,aG 16),(1,aG 17),(2,dy (Value.slice Z 0 0))],.aw⟩,ph 19 152 18,cq 3 19] (j6 (cS [bQ 20 24 1 0,bm 21 22 20,vE 22 21 22,Hy 23] (pT 0 (Hb Lb))) (j6 m5 (j6 (cS [bQ 35 24 1 0,bm 36 22 35,vE 37 36 22,Hy 38] (pT 2 (Hb DF))) (cS [bk 96 3,cq 2 96] sd))))))))
def avG:aU 72 f72 k72 97 [aY 2]:=.of
def apt:hrow 72=[1,5,7,11]:=k_
def Ze:=({y:=_}:aW f127 []).1
def asT:aU 127 f127 Ze 17 [aY 4]:=.of
def ap5:hrow 127=[]:=k_
def RC:=({y:=_}:aW f73 []).1
def RD:=({y:=_}:bM RC [1,1,0,1,0,0]).1
def avH:aU 73 f73 RC 30 [aY 4]:=.of
def XR:hrow 73=[1025]:=k_
def Zc:be:=[0,0,3,0,0,31,63,0,0,511,1023,2047,4095]
def Zb:=({y:=_}:aW f124 [Zc]).1
def asQ:aU 124 f124 Zb 18 [aY 5]:=.of
def ap4:hrow 124=[]:=k_
def k74:=({y:=_}:aW f74 []).1
def avI:aU 74 f74 k74 5 [aY 4]:=.of
def aaJ:be:=[0,1,3,7,0,31,0,64,192,448,0,1984,4095,8191]
def GN:=({y:=_}:aW f41 [aaJ]).1
def Rb:=({y:=_}:bM GN [1,1,1,1,0,1,0,0]).1
def KR:=({y:=_}:bM GN [1,1,1,1,1,1,1,0,1,0,0,1,1,0,0,1,1,0,0]).1
def KS:=({y:=_}:bM GN [1,1,1,1,1,1,1,0,1,0,0]).1
def auB:aU 41 f41 GN 76 [aY 2]:=.of
def aq5:hrow 41=[1]:=k_
noncomputable def Gv:Code:=
 ((jc (f178.body.getD .ret)).getD 0 (.ret,.ret)).1
noncomputable def Gw:Code:=
 ((jc (f178.body.getD .ret)).getD 0 (.ret,.ret)).2
noncomputable def Qj:SC:=
 (.seq (.region [gD 12 50,dU 50 12 45])
 (.region [cq 13 46]))
noncomputable def Gu:SC:=
 (.block 1 (.seq (.region [bk 47 13,my 48 47,bk 49 48,oB 50 154 10 49,oB 51 50 12 49,SM 52 232 50 51 154 50 49,⟨X 53,fh BinOp.lss 3 (aG 52) (dy (fS gM 0)) 3,(.when 49 I)⟩,vD 54 49 53])
 (.cond (aG 54) (.seq (.region [HB 6])
 .ret) .skip)))
noncomputable def ZG:SC:=
 (.seq (.region [ph 3 24 0,gD 6 4])
 (.seq (.region [bm 14 24 3,mr 15 72 14 24,cq 7 15])
 (.seq (.seq (.region [bk 16 7,azt 17 148 16])
 (.cond (aG 17) (.seq (.region [HB 6])
 .ret) .skip))
 (.seq (.region [bk 19 7,tQ 20 19,bQ 21 152 20 1,bm 22 122 21,bk 23 1,zW 24 122 22 23,bk 18 24,ku 25 18 0,ku 26 18 1,gD 8 53,dU 53 8 25,cq 9 26])
 (.seq (.region [bk 28 7,tQ 29 28,bQ 30 152 29 0,bm 31 150 30,bk 32 2,zW 33 150 31 32,bk 27 33,ku 34 27 0,ku 35 27 1,gD 10 154,dU 154 10 34,cq 11 35])
 (.seq (.seq (.region [bk 36 9,my 37 36,bk 38 37,xK 39 11 38,SI 40 39 38,vD 41 38 40])
 (.cond (aG 41) (.seq (.region [HB 6])
 .ret) .skip))
 (.seq (.seq (.region [bk 42 7,bm 43 53 8,qz 44 231 42 43 148 53])
 (.block 0 (.rfun (aG 44) [45,46] Gv Gw)))
 (.seq (.region [adx 6])
 .ret))))))))
def att:dZ Gv=Qj:=k_
def atu:dZ Gw=Gu:=k_
def ZH:(dR Gv&&dR Gw)=O:=k_
def atv:aU 178 f178 ZG 55 [jy 6 4]:=.of
def aql:hrow 178=[]:=k_
def aag:=({y:=_}:aW f231 []).1
def at3:aU 231 f231 aag 6 [aY 4]:=.of
def aqP:hrow 231=[]:=k_
def aat:be:=[0,1,3,7,15,7,7,103,255,511]
noncomputable def GH:Code:=
 ((jc (f271.body.getD .ret)).getD 0 (.ret,.ret)).1
noncomputable def GI:Code:=
 ((jc (f271.body.getD .ret)).getD 0 (.ret,.ret)).2
noncomputable def QI:SC:=
 (.seq (.region [gD 8 50,dU 50 8 50])
 (.region [cq 9 51]))
noncomputable def QJ:SC:=
 (.block 3 (.seq (.region [bm 52 354 3,bm 53 50 8,bk 54 9,azD 55 52 53 54 50 4,my 56 55])
 (.cond (aG 56) .ret .skip)))
noncomputable def DA:SC:=
 (.seq (.region [Hx 21 3 20 19])
 (.seq (.cond (aG 21) .skip (.exit 0))
 (.seq (.block 1 (.seq (.region [bk 22 20,xL 23 25 18 20,bm 24 9 23,cq 4 22,cq 5 24])
 (.seq (.region [bm 26 148 2,tQ 27 26,bQ 28 152 27 1,bm 29 122 28,bk 30 5,zW 31 122 29 30,bk 25 31,ku 32 25 0,ku 33 25 1,gD 6 53,dU 53 6 32,cq 7 33])
 (.seq (.seq (.draw [bk 34 7,my 35 34,bk 36 35,zV 37 53 6 1 36,oB 38 3 37 36,oB 39 53 1 36,xK 40 4 36,SM 41 272 39 40 53 3 36,adL 42 3 38 41 36,vD 43 36 42] aat)
 (.cond (aG 43) (.seq (.region [bm 44 354 3,adE 45 50,⟨X 46,iT ⟨nL (aG 44),#[aG 45,dy (qP I)],#[50,4]⟩,.aw⟩])
 .ret) .skip))
 (.seq (.region [bm 47 148 2,bm 48 53 6,qz 49 231 47 48 148 53])
 (.block 2 (.rfun (aG 49) [50,51] GH GI)))))))
 (.region [BM 57 20 1,bk 20 57]))))
noncomputable def aas:SC:=
 (.seq (.region [ph 3 354 0])
 (.seq (.seq (.region [bQ 10 53 1 1,bm 11 3 10,jJ 12 11 1])
 (.cond (aG 12) (.seq (.region [bm 13 354 3,bQ 14 53 1 2,bm 15 50 14,⟨X 16,iT ⟨nL (aG 13),#[aG 15,dy (qP O)],#[50,4]⟩,.aw⟩])
 .ret) .skip))
 (.seq (.region [bQ 17 53 1 3,bm 18 25 17,vE 19 18 25,Hy 20])
 (.block 0 (.loop DA)))))
def aui:dZ GH=QI:=k_
def auj:dZ GI=QJ:=k_
def aau:(dR GH&&dR GI)=O:=k_
def auk:aU 271 f271 aas 58 []:=.of
def aq1:hrow 271=[]:=k_
def aav:=({y:=_}:aW f272 []).1
def aul:aU 272 f272 aav 17 [aY 4]:=.of
def aq2:hrow 272=[2]:=k_
def ah5:eP ae 152 [(0,1),(1,1),(2,1)]:=kK
def aB8:ee ae 4:=jx
def aBJ:ee ae 122:=jx
def aBT:ee ae 148:=jx
def aBU:ee ae 150:=jx
def tW:ee ae 154:=jx
def aB5:eI ae 226 3:=kA
def aCa:ee ae 354:=jx
def aFb:cW ae 4=X 1:=k_
def aEW:cW ae 154=X 1:=k_
def aE6:cW ae 226=X 3:=k_
def aHK:dD ae 152=X (.agg [.nilm,.nilm,.uP]):=k_
def EW:dD ae 154=X .uP:=k_
def aHR:dD ae 226=X (.agg [(.int .i64 (0)),(.int .i64 (0)),(.int .i64 (0))]):=k_
def amj:bq ae 152 0 0:=dg
def amk:bq ae 152 1 1:=dg
def aml:bq ae 152 2 2:=dg
def X9(lc:Ag.Loc)(l g o:Nat)(i:aa):fR ae lc 226 (.uV l g o) i=(dJ i).bind λi=>bif bC i 3 then bif aB (lc.gen l) g then X (.uV l g (o+i*1))else Z else Z:=k_
def BC(k:oa):jV ae 122 (.str k)=X (9,53):=k_
def BD(k:oa):jV ae 150 (.str k)=X (9,154):=k_
attribute[go_sem]ah5 aB8 aBJ aBT aBU tW aB5 aCa aFb aEW aE6 aHK EW aHR amj amk aml X9 BC BD aqx aqV aqX ap6 aqA XU XU aqy aqC aqY aqZ XY XY aqB ap7 apu aqQ apt ap5 XR XR ap4 aq5 aql aqP aq1 aq2 ZX aub aap Kv aaz Zf Qt Y8 ZZ Z2 aaq aar Qv Z1 Zg k75 aah k72 Ze RC Zb k74 GN ZG aag aas aav
end Go.Proofs.YtnhmcokmdhgpbaaGreat
namespace Go.Proofs.YtnhmcokmdhgpbaaGreat
open Go.Ag
def ce:=(⟨@bS.{0},@cT.{1},@fa⟩:_/\_/\_)
def aaj:=(⟨@cF.{1},@cT.{1},@aaF,@aaK,@jT⟩:_/\_/\_/\_/\_)
def fb:=(⟨@Bool.and_self,@aH.{0,0},@cT.{1}⟩:_/\_/\_)
def jW:=(⟨@List.length_append.{0},@List.length_cons.{0},@List.length_nil.{0}⟩:_/\_/\_)
def fq:=(⟨@aH.{0,0},@cT.{1}⟩:_/\_)
end Go.Proofs.YtnhmcokmdhgpbaaGreat
namespace Go.Proofs.YtnhmcokmdhgpbaaGreat
open Tryz
open Go.Ag
def abu:be:=[0,1,3,7,0,16,0,64,255]
def abt:be:=[0,1,3,7,0,16,0,64,255]
def Ld:=({y:=_}:aW f76 [abu,abt]).1
def Lg:=({y:=_}:bM Ld [1,1,1,0,1,0,0]).1
def Lh:=({y:=_}:bM Ld [1,1,1,1,0,1,0,0]).1
def avO:aU 76 f76 Ld 64 [aY 2,aY 3]:=.of
def XS:hrow 76=[1,6,8]:=k_
def Zh:=({y:=_}:aW f130 []).1
def as0:aU 130 f130 Zh 17 [aY 3]:=.of
def ap8:hrow 130=[4]:=k_
def RH:=({y:=_}:aW f77 []).1
def xt:=({y:=_}:bM RH [1,0,1,0,0]).1
def avP:aU 77 f77 RH 43 [aY 4]:=.of
def apv:hrow 77=[3,7]:=k_
def abv:be:=[0,1,3,0,0,16,48,120,248,7,1023]
def RI:=({y:=_}:aW f78 [abv]).1
def Li:=({y:=_}:bM RI [1,1,1,0,1,0,0]).1
def avQ:aU 78 f78 RI 60 [aY 4]:=.of
def apw:hrow 78=[3]:=k_
def Zi:=({y:=_}:aW f131 []).1
def as1:aU 131 f131 Zi 23 [aY 4]:=.of
def abx:be:=[0,1,3,7,0,16,48,112,255,0,512,1536,3584,8191,16383,32767,65535,131071,262143,32767,557055,1605631,3702783,8388607,32767,16809983,50364415,117473279,268435455,536870911,1073741823]
def k79:=({y:=_}:aW f79 [abx]).1
def avR:aU 79 f79 k79 35 [aY 4]:=.of
def apx:hrow 79=[3]:=k_
def Rc:=({y:=_}:aW f42 []).1
def DD:=({y:=_}:bM Rc [1,1,1,1,0,1,0,0]).1
def auC:aU 42 f42 Rc 73 [aY 2]:=.of
def X5:hrow 42=[1,8]:=k_
def YT:=({y:=_}:aW f110 []).1
def asz:aU 110 f110 YT 11 [aY 2]:=.of
def apV:hrow 110=[]:=k_
def atn:=({y:=_}:aW f173 []).1
def aac:=({y:=_}:aW f228 []).1
def ZD:=({y:=_}:aW f174 []).1
def ato:aU 174 f174 ZD 6 [aY 2]:=.of
def aqi:hrow 174=[1]:=k_
def Kl:sP:=[bQ 8 121 1 1,bm 9 9 8,adK 10 9,bk 11 10,eV 12 121 1 1 11,gh 13 9 12 11,BP 14 104 13 9 11,Hz 15 14 11,jh 16 11 15,cq 7 16]
def Gr:sP:=[bQ 28 121 1 3,bm 29 105 28,adE 30 105,adz 31 105 29 30,bk 32 31,eV 33 121 1 3 32,eV 34 105 33 0 32,gh 35 9 34 32,BP 36 104 35 9 32,vC 37 36 32,eV 38 121 1 3 37,eV 39 105 38 1 37,gh 40 9 39 37,BP 41 229 40 9 37,⟨X 42,Op.pick (aG 37) (aG 41) (dy (Value.bool I)),(.when 32 O)⟩,Hz 43 42 32,jh 44 32 43,cq 27 44]
def Qh:sP:=[bk 46 3,my 47 46,bk 48 47,eV 49 121 1 4 48,gh 50 3 49 48,L6 51 50 1 48,jh 52 48 51,bk 53 52,eV 54 121 1 4 53,gh 55 3 54 53,L6 56 55 3 53,jh 57 53 56,cq 45 57]
def ZE:SC:=(cS [ph 1 121 0,xN 2] (cS [bQ 4 121 1 4,bm 5 3 4,jJ 6 5 2,cq 3 6] (j6 (pT 0 (j6 (cS Kl (jn 7 m5 (cS [bQ 17 121 1 2,bm 18 3 17,azA 19 18 0,cq 7 19] (jn 7 m5 (cS [bQ 20 121 1 2,bm 21 3 20,BO 22 21 5,cq 7 22] (jn 7 m5 (rZ [bQ 23 121 1 5,bm 24 9 23,mr 25 104 24 9,my 26 25,cq 7 26]))))))) (jn 7 (cS [xN 2] sd) (cS Gr (jn 27 (cS [xN 2] sd) (j6 (cS Qh (jn 45 m5 (cS [bk 58 3,bQ 59 121 1 6,bm 60 25 59,vE 61 60 25,BO 62 61 0,adz 63 4 58 62,cq 45 63] (jn 45 m5 (rZ [bQ 64 121 1 6,bm 65 25 64,vE 66 65 25,BO 67 66 60,cq 45 67]))))) (jn 45 (cS [xN 2] sd) m5))))))) (cS [bQ 68 121 1 6,bm 69 25 68,adH 70 108 69 230 25 196,my 71 70,cq 2 71] sd))))
def atp:aU 175 f175 ZE 72 [aY 2]:=.of
def aqj:hrow 175=[1]:=k_
def aad:=({y:=_}:aW f229 []).1
def at1:aU 229 f229 aad 10 [aY 2]:=.of
def aqO:hrow 229=[]:=k_
def aaf:=({y:=_}:aW f230 []).1
def at2:aU 230 f230 aaf 6 [aY 2]:=.of
def K7:=({y:=_}:aW f58 []).1
def Rp:=({y:=_}:bM K7 [1,1,1,0,1,0,0,1,1,0,0,1,1,1,0,0]).1
def Rq:=({y:=_}:bM K7 [1,1,1,0,1,0,0]).1
def avp:aU 58 f58 K7 49 [aY 4]:=.of
def apj:hrow 58=[2,7,10]:=k_
def YU:=({y:=_}:aW f111 []).1
def asA:aU 111 f111 YU 6 [aY 4]:=.of
def apW:hrow 111=[]:=k_
def Km:sP:=[bQ 10 121 1 2,bm 11 3 10,L5 12 3 11 0,bk 13 12,eV 14 121 1 2 13,gh 15 3 14 13,eV 16 53 3 1 13,gh 17 3 16 13,⟨X 18,Op.binOp BinOp.neq 3 (aG 15) (aG 17) 3,(.when 13 O)⟩,jh 19 13 18]
def Gs:sP:=[bQ 29 121 1 3,bQ 30 105 29 0,bm 31 9 30,adK 32 31,bk 33 32,vC 34 6 33,Hz 35 34 33,vC 36 35 33,xK 37 5 36,zV 38 121 1 3 36,zV 39 105 38 1 36,oB 40 9 39 36,adL 41 9 37 40 36,adw 42 36 41 33,jh 43 33 42]
def Dy:sP:=[bk 69 9,my 70 69,bk 71 70,eV 72 121 1 1 71,gh 73 9 72 71,⟨X 74,Op.binOp BinOp.eql 9 (aG 73) (dy (Value.string {data:= #[] })) 9,(.when 71 O)⟩,vC 75 74 71,oB 76 24 2 75,zV 77 53 3 0 75,oB 78 9 77 75,zV 79 121 1 1 75,oB 80 9 79 75,azs 81 178 76 78 80 24 9 9 75,adw 82 75 81 71,jh 83 71 82,cq 4 83]
def ZF:SC:=(cS [ph 3 53 0,xN 4] (j6 (cS Km (jn 19 (cS [xN 4] sd) m5)) (j6 (cS [bQ 21 53 3 4,bm 22 51 21,bQ 23 121 1 3,bQ 24 105 23 0,bm 25 9 24,qz 26 177 22 25 51 9,bk 20 26,ku 27 20 0,ku 28 20 1,cq 5 27,cq 6 28] (cS Gs (jn 43 (cS [xN 4] sd) m5))) (cS [bQ 45 53 3 4,bm 46 51 45,bQ 47 121 1 5,bm 48 9 47,qz 49 177 46 48 51 9,bk 44 49,ku 50 44 0,ku 51 44 1,cq 7 50,cq 8 51] (cS [bk 52 8,cq 9 52] (j6 (cS [bQ 53 121 1 4,bm 54 3 53] (pT 0 (cS [jJ 56 54 3,cq 55 56] (jn 55 (rZ [bk 57 8,my 58 57,cq 9 58]) (cS [jJ 60 54 2,cq 59 60] (jn 59 (rZ [bk 61 8,my 62 61,bk 63 62,zV 64 121 1 6 63,oB 65 25 64 63,xK 66 7 63,SM 67 65 65 66 25 9 63,vD 68 63 67,cq 9 68]) m5)))))) (cS Dy sd)))))))
def atq:aU 176 f176 ZF 84 [aY 4]:=.of
def aqk:hrow 176=[3]:=k_
def KJ:=({y:=_}:aW f38 []).1
def KL:=({y:=_}:bM KJ [1,1,0,1,0,0]).1
def KM:=({y:=_}:bM KJ [1,1,1,1,0,1,0,0]).1
def aux:aU 38 f38 KJ 50 [aY 4]:=.of
def X2:hrow 38=[2,7,10]:=k_
def Qi:=({y:=_}:aW f177 []).1
def Kn:=({y:=_}:bM Qi [1,0,1,0,0]).1
def atr:aU 177 f177 Qi 21 [aY 4,aY 5]:=.of
def apU:hrow 177=[7]:=k_
def k43:=({y:=_}:aW f43 []).1
def auD:aU 43 f43 k43 9 [jy 4 24]:=.of
def aqh:hrow 43=[2,4]:=k_
def k81:=({y:=_}:aW f81 []).1
def avV:aU 81 f81 k81 13 [aY 5]:=.of
def k80:=({y:=_}:aW f80 []).1
def avU:aU 80 f80 k80 12 [aY 4]:=.of
def aq8:hrow 80=[2]:=k_
def Zk:be:=[0,0,2,6,6,31,63]
def Zj:=({y:=_}:aW f133 [Zk]).1
def as3:aU 133 f133 Zj 10 [aY 3]:=.of
def apA:hrow 133=[2]:=k_
def P7:=({y:=_}:aW f132 []).1
def P8:=({y:=_}:bM P7 [1,1,0,1,0,0]).1
def as2:aU 132 f132 P7 23 [aY 4]:=.of
def apz:hrow 132=[7]:=k_
def Zl:=({y:=_}:aW f134 []).1
def as4:aU 134 f134 Zl 18 [aY 2,aY 3]:=.of
def apB:hrow 134=[1]:=k_
def Gy:=({y:=_}:aW f20 []).1
def Qx:=({y:=_}:bM Gy [1,1,1,1,1,0,1,0,0,1,1,0,0,1,1,1,0,0,1,1,0,0,1,1,0,0]).1
def Qy:=({y:=_}:bM Gy [1,1,1,1,1,0,1,0,0,1,1,0,0,1,1,1,0,0]).1
def Qz:=({y:=_}:bM Gy [1,1,1,1,1,0,1,0,0]).1
def atT:aU 20 f20 Gy 57 [aY 4]:=.of
def apO:hrow 20=[2,10,14]:=k_
def k37:=({y:=_}:aW f37 []).1
def auw:aU 37 f37 k37 8 [aY 3]:=.of
def aq4:hrow 37=[2]:=k_
def KN:=({y:=_}:aW f39 []).1
def KO:=({y:=_}:bM KN [1,1,1,0,1,0,0,1,1,0,0,1,1,0,0]).1
def QZ:=({y:=_}:bM KN [1,1,1,0,1,0,0]).1
def auy:aU 39 f39 KN 46 [aY 2]:=.of
def X3:hrow 39=[1,6]:=k_
def k60:=({y:=_}:aW f60 []).1
def avs:aU 60 f60 k60 17 [aY 2]:=.of
def apk:hrow 60=[1]:=k_
def YV:be:=[0,0,0,6,0,0,48,126,255,511]
def PU:=({y:=_}:aW f112 [YV]).1
def Gi:=({y:=_}:bM PU [1,1,1,1,1,1,0,0,0]).1
def asB:aU 112 f112 PU 48 [aY 4]:=.of
def apX:hrow 112=[]:=k_
def Rr:=({y:=_}:aW f59 []).1
def Rs:=({y:=_}:bM Rr [1,1,0,1,0,0]).1
def avq:aU 59 f59 Rr 23 [aY 2]:=.of
def aq6:hrow 59=[1,5]:=k_
def ah1:eP ae 119 [(0,1),(1,1)]:=eP.of
def ah6:eP ae 163 [(0,1),(1,1),(2,1)]:=eP.of
def aib:qR ae 229 1:=qR.of
def aB1:ee ae 27:=jx
def aB3:eI ae 29 6:=kA
def aB6:eI ae 59 3:=kA
def aey:eI ae 121 8:=kA
def aCf:ee ae 95:=jx
def aBK:ee ae 165:=jx
def aBO:eI ae 119 2:=kA
def aBW:ee ae 157:=jx
def aBX:ee ae 160:=jx
def aBY:ee ae 161:=jx
def aE8:cW ae 59=X 3:=k_
def aFk:cW ae 121=X 8:=k_
def aER:cW ae 119=X 2:=k_
def aEY:cW ae 157=X 1:=k_
def aE7:cW ae 229=X 2:=k_
def aH4:dD ae 121=X (.agg [(.bool I),(.str []),(.int .i64 (0)),(.str []),(.str []),(.int .i64 (0)),(.str []),.uP]):=k_
def aHF:dD ae 119=X (.agg [(.int .i64 (0)),(.str [])]):=k_
def aHL:dD ae 157=X .nilp:=k_
def aHM:dD ae 163=X (.agg [.uP,.nilm,.nilm]):=k_
def aHS:dD ae 229=X (.agg [(.bool I),(.bool I)]):=k_
def WS:bq ae 29 4 4:=dg
def amw:bq ae 29 5 5:=dg
def amx:bq ae 59 0 0:=dg
def amT:bq ae 121 0 0:=dg
def amU:bq ae 121 1 1:=dg
def amV:bq ae 121 2 2:=dg
def amW:bq ae 121 3 3:=dg
def amX:bq ae 121 4 5:=dg
def W3:bq ae 121 5 6:=dg
def amY:bq ae 121 6 7:=dg
def amd:bq ae 119 0 0:=dg
def ame:bq ae 119 1 1:=dg
def amm:bq ae 163 0 0:=dg
def amn:bq ae 163 1 1:=dg
def amo:bq ae 163 2 2:=dg
def O9(cs:az):zu ae 53 (.agg cs) 1=gK ae 3 cs 1:=k_
def sj:ep ae 27 8 112 O (.agg [(.bool I),(.str []),(.int .i64 (0)),(.str []),(.str []),(.int .i64 (0)),(.str []),.uP]):=kY
def MJ:ep ae 96 1 8 I .nilf:=kY
def MH:ep ae 116 2 24 O (.agg [(.int .i64 (0)),(.str [])]):=kY
def LA(k:oa):jV ae 160 (.str k)=X (9,50):=k_
def DV(k:oa):jV ae 161 (.str k)=X (9,25):=k_
attribute[go_sem]ah1 ah6 aib aB1 aB3 aB6 aey aCf aBK aBO aBW aBX aBY aE8 aFk aER aEY aE7 aH4 aHF aHL aHM aHS WS WS amw amx amT amU amV amW amX W3 W3 amY amd ame amm amn amo O9 sj kw kw MJ MH sj LA DV XS XS ap8 apv apw apx X5 X5 apV aqi aqj aqO apj apW aqk X2 X2 apU aqh aq8 apA apz apB apO aq4 X3 X3 apk apX aq6 Ld Zh RH RI Zi k79 Rc YT atn aac ZD ZE aad aaf K7 YU ZF KJ Qi k43 k81 k80 Zj P7 Zl Gy k37 KN k60 PU Rr
end Go.Proofs.YtnhmcokmdhgpbaaGreat
namespace Go.Proofs.YtnhmcokmdhgpbaaGreat
open Tryz
open Go.Ag
attribute[go_sem]ZU Y3 Y4 Y5 Y1 ZM aa3 aa4 YY abc abd aa8 aa9 aba abb abe aaH aaI abg abf Z0 abp abm abk abl Zc aaJ aat abu abt abv abx Zk YV
def ZI:=({y:=_}:aW f179 []).1
def atw:aU 179 f179 ZI 30 [aY 4,aY 5]:=.of
def aai:=({y:=_}:aW f234 []).1
def at5:aU 234 f234 aai 51 [aY 4,aY 5]:=.of
attribute[go_sem]ZI aai
def QR:=({y:=_}:aW f32 []).1
def KD:=({y:=_}:bM QR [1,0,1,0,0]).1
def aur:aU 32 f32 QR 36 [aY 6]:=.of
def apC:hrow 32=[3,4]:=k_
def aaY:be:=[0,0,3,7,15,31,0,0,192,448,960,1984,4095,0,0,24576,57344,122880,253952,516096,1048575,0,0,6291456,14680064,31457280,65011712,132120576,268435455,536870911,1073741823,2147483647,2147483647,8589934591,17179869183,34359738367,68719476735,137438953471,274877906943]
def KZ:=({y:=_}:aW f55 [aaY]).1
def K4:=({y:=_}:bM KZ [1,0,1,0,0,1,0,0,1,1,0,0]).1
def Rn:=({y:=_}:bM KZ [1,0,1,0,0]).1
def avm:aU 55 f55 KZ 76 [aY 4]:=.of
def aq3:hrow 55=[]:=k_
def aaC:be:=[0,0,3,7,15,0,0,96,224,480,1023,2047,4095,4095,16383,32767,65535,4095,4095,397311,921599,1970175,4194303,8388607,16777215,33554431,33554431,134217727,268435455,536870911,33554431,33554431,3254779903,7549747199,16139681791,34359738367,68719476735,137438953471]
def QQ:=({y:=_}:aW f31 [aaC]).1
def amy:bq ae 59 1 1:=dg
attribute[go_sem]amy sj apC aq3 QR KZ QQ aaY aaC
def Zz:=({y:=_}:aW f163 []).1
def atf:aU 163 f163 Zz 8 [aY 2]:=.of
def apy:hrow 163=[]:=k_
attribute[go_sem]apy Zz
def k52:=({y:=_}:aW f52 []).1
def avj:aU 52 f52 k52 51 [jy 4 24,aY 5]:=.of
def XX:hrow 52=[2,3,4,8,1034]:=k_
def k97:=({y:=_}:aW f97 []).1
def av6:aU 97 f97 k97 6 [aY 2]:=.of
def k98:=({y:=_}:aW f98 []).1
def av7:aU 98 f98 k98 12 [aY 4,aY 5]:=.of
def arb:hrow 98=[2]:=k_
def k99:=({y:=_}:aW f99 []).1
def RN:aU 99 f99 k99 8 [aY 2]:=.of
def arc:hrow 99=[1007]:=k_
def atj:=({y:=_}:aW f165 []).1
def ZA:=({y:=_}:aW f166 []).1
def atk:aU 166 f166 ZA 6 [aY 2]:=.of
def apI:hrow 166=[1]:=k_
def Qe:=({y:=_}:aW f167 []).1
def Qf:=({y:=_}:bM Qe [1,1,1,0,0,0]).1
def atl:aU 167 f167 Qe 49 [aY 6,aY 7]:=.of
def apJ:hrow 167=[]:=k_
def ZB:=({y:=_}:aW f168 []).1
def atm:aU 168 f168 ZB 9 [aY 4]:=.of
def apK:hrow 168=[2]:=k_
def aab:=({y:=_}:aW f225 []).1
def afg:ep ae 256 1 24 O (.agg [.uP]):=kY
attribute[go_sem]afg XX XX arb arc apI apJ apK k52 k97 k98 k99 atj ZA Qe ZB aab
end Go.Proofs.YtnhmcokmdhgpbaaGreat
namespace Go.Proofs.YtnhmcokmdhgpbaaGreat
open Tryz
open Go.Ag
def k5:=({y:=_}:aW Tryz.f5 []).1
def avr:aU 5 Tryz.f5 k5 11 [aY 6]:=.of
def aqJ:hrow 5=[3,4]:=k_
def GU:SC:=(cS [Hx 27 3 26 25] (MD 27 2 (j6 (pT 3 (cS [xL 28 33 24 26,bm 29 26 28,cq 16 29] (cS [bk 30 12,bk 31 16,azx 32 30 31 26,gD 17 45,dU 45 17 32] (cS [bQ 33 45 17 1,bm 34 42 33,L5 35 42 34 0] (jn 35 (rZ [bk 36 10,bm 37 45 17,tP 38 34 37,Eb 39 36 38 34 34,bk 40 14,bk 41 16,tP 42 33 41,Eb 43 40 42 33 33,cq 10 39,cq 14 43]) (rZ [bk 44 9,bk 45 16,tP 46 33 45,Eb 47 44 46 33 33,cq 9 47])))))) (rZ [BM 48 26 1,bk 26 48]))))
def RA:SC:=(pT 1 (cS [BN 10] (cS [BN 14] (j6 (cS [bk 24 13,vE 25 24 33,Hy 26] (pT 2 (Hb GU))) (j6 (cS [bk 49 14,vE 50 49 33,bk 51 13,vE 52 51 33,azy 53 3 50 52] (jn 53 (.exit 0) m5)) (rZ [bk 54 14,cq 13 54]))))))
def k6:SC:=(cS [ph 3 24 0,ph 4 29 1,ph 5 30 2,gD 6 24,BN 7,BN 8] (.scope (cS [BN 9] (cS [BN 10] (cS [bm 18 24 3,bm 19 29 4,qz 20 18 18 19 24 29,gD 11 63,dU 63 11 20] (cS [⟨X 21,Op.makeFunc (Fn.func 19) #[] #[aG 5,aG 3,aG 4,aG 11],.aw⟩,cq 12 21] (cS [bm 22 30 5,mr 23 7 22 30,cq 13 23] (j6 m5 (j6 (pT 0 (Hb RA)) (cS [bm 55 24 3,bk 56 9,bk 57 10,dU 24 6 55,cq 7 56,cq 8 57] sd))))))))))
def avD:aU 6 Tryz.f6 k6 58 [jy 6 24,aY 7,aY 8]:=.of
def XZ:hrow 6=[6,17]:=k_
def RJ:be:=[0,0,0,6,0,0,0,96,240,496,0,1024,4080,8191,16383]
abbrev avT:mm:=[bk 121 16,bk 122 17,bk 123 19,adC 124 78 122 123,bk 125 16,bk 126 17,bk 127 19,adC 128 78 126 127,xL 129 33 125 128,bm 130 26 129,bk 131 18,tP 132 26 131,Eb 133 130 132 26 26,xL 134 33 121 124,dU 26 134 133]
def k7:=({y:=_}:aW Tryz.f7 [RJ]).1
def Lj:=({y:=_}:bM k7 [1,1,1,0,1,0,0,1,1,0,0,1,1,1,0,0]).1
def RK:=({y:=_}:bM k7 [1,1,1,0,1,0,0]).1
def Lk:=({y:=_}:bM k7 [1,1,1,1,0,1,0,0,1,1,0,0,1,1,0,0]).1
def RL:=({y:=_}:bM k7 [1,1,1,1,0,1,0,0]).1
def RM:=({y:=_}:bM k7 [1,1,1,1,1,1,1,0,1,0,0]).1
def avS:aU 7 Tryz.f7 k7 137 [aY 2]:=.of
def X0:hrow 7=[5,11,1040,1120]:=k_
def PZ:=({y:=_}:aW f12 []).1
def Kf:=({y:=_}:bM PZ [1,1,1,0,1,0,0]).1
def asZ:aU 12 f12 PZ 42 [jy 4 24,aY 5,aY 6]:=.of
def aqW:hrow 12=[2,4,9,10]:=k_
def Qg:=({y:=_}:aW f17 []).1
def atx:aU 17 f17 Qg 26 [aY 10]:=.of
def are:hrow 17=[5,6]:=k_
def Ko:=({y:=_}:aW f18 []).1
def Qm:=({y:=_}:bM Ko [1,1,0,1,0,0]).1
def atD:aU 18 f18 Ko 22 [aY 4]:=.of
def X6:hrow 18=[2,3,7]:=k_
def ZV:be:=[0,0,2,7,15]
def Gx:=({y:=_}:aW f19 [ZV]).1
def Qp:=({y:=_}:bM Gx [1,1,0,1,0,0]).1
def Qq:=({y:=_}:bM Gx [1,1,1,1,1,1,1,0,1,0,0]).1
def atH:aU 19 f19 Gx 74 [jy 6 45]:=.of
def arf:hrow 19=[6,10,16]:=k_
def Z6:be:=[0,1,0,4,0,16,48,127,255]
def QA:=({y:=_}:aW f21 [Z6]).1
def atX:aU 21 f21 QA 11 [jy 2 67]:=.of
def arh:hrow 21=[1,2]:=k_
def Z7:=({y:=_}:aW f22 []).1
def GF:aU 22 f22 Z7 16 [aY 2]:=.of
def ari:hrow 22=[]:=k_
def k23:=({y:=_}:aW f23 []).1
def at6:aU 23 f23 k23 22 [aY 2]:=.of
def X7:hrow 23=[1]:=k_
def k24:=({y:=_}:aW f24 []).1
def aua:aU 24 f24 k24 23 []:=.of
def arj:hrow 24=[]:=k_
def QG:=({y:=_}:aW f25 []).1
def Kw:=({y:=_}:bM QG [1,1,1,1,1,1,1,1,0,1,0,0]).1
def aue:aU 25 f25 QG 48 [aY 2]:=.of
def ark:hrow 25=[1,1044]:=k_
def QH:=({y:=_}:aW f26 []).1
def Kx:=({y:=_}:bM QH [1,0,0,0]).1
def auh:aU 26 f26 QH 22 [aY 4]:=.of
def aaA:be:=[0,1,3,7,0,16,0,64,255]
def KA:=({y:=_}:aW f29 [aaA]).1
def QM:=({y:=_}:bM KA [1,1,1,0,1,0,0]).1
def QO:=({y:=_}:bM KA [1,1,1,1,0,1,0,0]).1
def aup:aU 29 f29 KA 44 [aY 2]:=.of
def arl:hrow 29=[1,5,7]:=k_
def aaB:be:=[0,0,2,1,15]
def QP:=({y:=_}:aW f30 [aaB]).1
def KC:=({y:=_}:bM QP [1,1,1,1,1,0,1,0,0]).1
def auq:aU 30 f30 QP 58 [jy 4 24,aY 5]:=.of
def arm:hrow 30=[3,4,6,7,9,10]:=k_
def KF:=({y:=_}:aW f33 []).1
def KG:=({y:=_}:bM KF [1,1,0,1,0,0,1,0,0,1,1,1,0,0]).1
def xr:=({y:=_}:bM KF [1,1,0,1,0,0]).1
def aus:aU 33 f33 KF 83 [aY 4]:=.of
def apL:hrow 33=[6]:=k_
def aaE:be:=[0,1,0,0,12,28,60,124,255,511,1023]
def KI:=({y:=_}:aW f35 [aaE]).1
def QV:=({y:=_}:bM KI [1,1,0,1,0,0]).1
def auu:aU 35 f35 KI 22 [jy 2 24]:=.of
def apM:hrow 35=[2,3]:=k_
def k45:=({y:=_}:aW f45 []).1
def k46:=({y:=_}:aW f46 []).1
def KU:aU 46 f46 k46 6 [aY 2]:=.of
def apN:hrow 46=[1]:=k_
def aaR:be:=[0,1,0,4,12,0,60,127,255,511]
def aaS:be:=[0,1,0,4,12,28,60,12,140,396,1020,2044,4092,8188,16380,32764,65532,16380,147452,409596,1048572,2097148,4194300,3,8404991,33554431]
def aaN:be:=[0,1,0,4,0,16,48,112,240,496,1008,2032,4080,8176,16368,32752,65520,3,135155,397311,921599,2097151]
def aaO:be:=[0,1,0,4,12,28,60,124,252,508,1020,2044,4092,8188,16380,32764,65532,131068,262140,524284,3,1572863,4194303]
def aaP:be:=[0,1,0,4,0,16,48,112,48,304,1008,2032,4080,3,12275,28671,61439,131071]
def aaQ:be:=[0,1,0,4,12,28,60,124,252,3,767,2047]
def GP:sP:=[bk 126 4,bk 127 126,gh 128 57 3 127,gh 129 57 1 127,adA 130 87 128 129 57 57 127,jh 131 127 130,cq 2 131]
def k47:SC:=(cS [ph 1 57 0,xN 2] (cS [bQ 5 57 1 0,bm 6 3 5,bQ 7 57 1 1,bm 8 9 7,LY 9 57 6 1 8,gD 3 57,dU 57 3 9] (cS [bQ 10 57 1 1,bm 11 9 10,tP 12 25 11,mr 13 86 12 25,cq 4 13] (j6 (cS [bQ 14 57 1 0,bm 15 3 14] (pT 0 (cS [jJ 17 15 1,cq 16 17] (jn 16 (.draw [bQ 18 57 1 8,bm 19 53 18,bQ 20 57 1 8,bm 21 53 20,mr 22 57 21 53,bQ 23 57 3 1,⟨Z,Op.store 9 (aG 23) (dy (Value.string {data:= #[] })),.aw⟩,bQ 24 57 3 8,dU 53 24 19,cq 4 22] aaR) (cS [jJ 26 15 2,cq 25 26] (jn 25 (.draw [bQ 27 57 1 4,bm 28 50 27,bk 29 4,bk 30 29,eV 31 57 1 4 30,eV 32 50 31 0 30,gh 33 3 32 30,eV 34 57 1 4 30,eV 35 50 34 1 30,gh 36 3 35 30,⟨X 37,Op.call ⟨Callee.builtin Builtin.min,#[aG 33,aG 36],#[3,3]⟩,(.when 30 O)⟩,⟨X 38,Op.binOp BinOp.geq 3 (aG 37) (dy (fS gM 0)) 3,(.when 30 O)⟩,jh 39 30 38,bk 40 39,eV 41 57 1 4 40,eV 42 50 41 0 40,gh 43 3 42 40,eV 44 57 1 4 40,eV 45 50 44 1 40,gh 46 3 45 40,azu 47 43 46 40,adN 48 47 1048576 40,jh 49 40 48,bQ 50 57 3 4,dU 50 50 28,cq 4 49] aaS) (cS [jJ 52 15 3,cq 51 52] (jn 51 (.draw [bQ 53 57 1 5,bm 54 9 53,bQ 55 57 1 6,bm 56 9 55,bk 57 4,bk 58 57,eV 59 57 1 5 58,gh 60 9 59 58,⟨X 61,yE 25 1 #[(0,aG 60)],(.when 58 O)⟩,BP 62 86 61 25 58,jh 63 58 62,bk 64 63,eV 65 57 1 6 64,gh 66 9 65 64,SJ 67 66 9 64,adG 68 67 200 64,jh 69 64 68,bQ 70 57 3 5,dU 9 70 54,bQ 71 57 3 6,dU 9 71 56,cq 4 69] aaN) (cS [jJ 73 15 4,cq 72 73] (jn 72 (.draw [bQ 74 57 1 7,bm 75 25 74,bk 76 4,bk 77 76,eV 78 57 1 7 77,gh 79 25 78 77,SJ 80 79 25 77,L7 81 80 77,jh 82 77 81,bk 83 82,eV 84 57 1 7 83,gh 85 25 84 83,SJ 86 85 25 83,adG 87 86 2000 83,jh 88 83 87,bk 89 88,eV 90 57 1 7 89,gh 91 25 90 89,BP 92 86 91 25 89,jh 93 89 92,bQ 94 57 3 7,dU 25 94 75,cq 4 93] aaO) (cS [jJ 96 15 5,cq 95 96] (jn 95 m5 (cS [jJ 98 15 6,cq 97 98] (jn 97 (.draw [bQ 99 57 1 3,bm 100 9 99,bQ 101 57 1 2,bm 102 9 101,bk 103 4,bk 104 103,eV 105 57 1 3 104,gh 106 9 105 104,eV 107 57 1 2 104,gh 108 9 107 104,⟨X 109,yE 25 2 #[(0,aG 106),(1,aG 108)],(.when 104 O)⟩,BP 110 86 109 25 104,jh 111 104 110,bQ 112 57 3 3,dU 9 112 100,bQ 113 57 3 2,dU 9 113 102,cq 4 111] aaP) (cS [jJ 115 15 7,cq 114 115] (jn 114 (.draw [bQ 116 57 1 2,bm 117 9 116,bk 118 4,bk 119 118,eV 120 57 1 2 119,gh 121 9 120 119,⟨X 122,yE 25 1 #[(0,aG 121)],(.when 119 O)⟩,BP 123 86 122 25 119,jh 124 119 123,bQ 125 57 3 2,dU 9 125 117,cq 4 124] aaQ) (cS [xN 2] sd))))))))))))))))) (cS GP sd)))))
def KV:aU 47 f47 k47 132 [aY 2]:=.of
def apQ:hrow 47=[1,3]:=k_
def Re:=({y:=_}:aW f48 []).1
def Rf:=({y:=_}:bM Re [1,0,0]).1
def auF:aU 48 f48 Re 14 []:=.of
def apR:hrow 48=[]:=k_
def Rg:=({y:=_}:aW f50 []).1
def KW:=({y:=_}:bM Rg [1,0,1,0,0]).1
def auG:aU 50 f50 Rg 37 [aY 4]:=.of
def apS:hrow 50=[3]:=k_
def Rh:be:=[0,1,3,7,0,16,48,127,255,511,511,1023,4095]
def Rj:be:=[0,1,3,0,0,16,56,127,255]
def Rk:be:=[0,1,3,7,0,16,63,127,255,255,511,2047]
def Rl:be:=[0,1,3,7,0,16,63,127,255,255,511,2047]
def Ri:be:=[0,1,0,0,12,31,63]
abbrev auI:mm:=[ph 3 57 1,gD 4 108]
abbrev auJ:mm:=[bQ 17 57 3 0,bm 18 3 17,jJ 19 18 1]
abbrev auU:mm:=[bk 21 0,tQ 22 21,bQ 23 87 22 1,bm 24 72 23,bQ 25 57 3 8,bQ 26 53 25 0,bm 27 9 26,zW 28 72 24 27,bk 20 28,ku 29 20 0,ku 30 20 1,cq 5 29,cq 6 30]
abbrev au5:mm:=[bk 31 6]
abbrev avd:mm:=[HA 32 9,dU 108 4 32]
abbrev ave:mm:=[bQ 33 57 3 8,bm 34 53 33,tP 35 22 34,bk 36 0,bQ 37 57 3 8,bm 38 53 37,qz 39 50 36 38 82 53,LY 40 108 35 2 39,dU 108 4 40]
abbrev avf:mm:=[bk 42 0,tQ 43 42,bQ 44 87 43 1,bm 45 72 44,bQ 46 57 3 1,bm 47 9 46,zW 48 72 45 47,bk 41 48,ku 49 41 0,ku 50 41 1,cq 7 49,cq 8 50]
abbrev avg:mm:=[bk 52 0,tQ 53 52,bQ 54 87 53 1,bm 55 72 54,bQ 56 57 3 2,bm 57 9 56,zW 58 72 55 57,bk 51 58,ku 59 51 0,ku 60 51 1,cq 9 59,cq 10 60]
abbrev avh:mm:=[bk 61 8,my 62 61,bk 63 62,zV 64 57 3 0 63,oB 65 3 64 63,azG 66 65 7 63,xK 67 66 63,vC 68 10 67,Hz 69 68 67,SK 70 67 69 63,vD 71 63 70]
abbrev avi:mm:=[HA 72 11,dU 108 4 72]
abbrev auK:mm:=[bk 73 0,bQ 74 57 3 1,bm 75 9 74,qz 76 91 73 75 82 9,gD 11 53,dU 53 11 76]
abbrev auL:mm:=[SH 77 184,SF 78 1,LX 2 78,⟨X 79,yE 26 3 #[(0,dy (fS gM 2)),(1,dy (fS gM 3)),(2,dy (fS gM 4))],.aw⟩,LX 4 79,SF 80 2,LX 6 80,SF 81 2,LX 7 81,bk 82 77,cq 12 82]
abbrev auM:mm:=[bk 84 12,bQ 85 57 3 0,bm 86 3 85,zW 87 184 84 86,bk 83 87,ku 88 83 0,ku 89 83 1,cq 13 88,cq 14 89]
abbrev auN:mm:=[bk 90 14,bk 91 90,vC 92 13 91,eV 93 53 11 1 91,gh 94 3 93 91,adA 95 92 92 94 26 3 91,Hz 96 95 91,jh 97 91 96]
abbrev auO:mm:=[HA 98 13,dU 108 4 98]
abbrev auP:mm:=[bQ 99 57 3 0,bm 100 3 99]
abbrev auQ:mm:=[jJ 102 100 2,cq 101 102]
abbrev auR:mm:=[bQ 103 57 3 4,bm 104 50 103,bQ 105 53 11 2,dU 50 105 104]
abbrev auS:mm:=[jJ 107 100 3,cq 106 107]
abbrev auT:mm:=[bQ 109 53 11 4,bm 110 51 109,bQ 111 57 3 5,bm 112 9 111,bQ 113 57 3 6,bm 114 9 113,LZ 115 93 110 112 114 51 9 9,bk 108 115,ku 116 108 0,ku 117 108 1,cq 15 116,cq 16 117]
abbrev auV:mm:=[bk 118 15,bQ 119 53 11 4,dU 51 119 118]
abbrev auW:mm:=[bk 120 16,L5 121 42 120 0]
abbrev auX:mm:=[bk 122 16,SL 123 108 2 122,dU 108 4 123]
abbrev auY:mm:=[jJ 125 100 4,cq 124 125]
abbrev auZ:mm:=[bQ 126 57 3 7,bm 127 25 126,bQ 128 53 11 3,dU 25 128 127]
abbrev au0:mm:=[bm 129 53 11,mr 130 57 129 53,my 131 130]
abbrev au1:mm:=[HA 132 1,dU 108 4 132]
abbrev au2:mm:=[bm 133 53 11,tP 134 22 133,bk 135 0,bm 136 53 11,qz 137 50 135 136 82 53,LY 138 108 134 2 137,dU 108 4 138]
abbrev au3:mm:=[jJ 140 100 5,cq 139 140]
abbrev au4:mm:=[bk 141 0,bQ 142 57 3 1,bm 143 9 142,tP 144 25 143,sOa 145 (Op.call ⟨Callee.value (Operand.func 94),#[aG 141,dy (Value.bool I),aG 144],#[82,4,25]⟩)]
abbrev au6:mm:=[HA 146 14,dU 108 4 146]
abbrev au7:mm:=[bQ 147 57 3 1,bm 148 9 147,SL 149 108 1 148,dU 108 4 149]
abbrev au8:mm:=[jJ 151 100 6,cq 150 151]
abbrev au9:mm:=[bk 152 0,bm 153 57 3,bm 154 53 11,LZ 155 95 152 153 154 82 57 53,dU 108 4 155]
abbrev ava:mm:=[jJ 157 100 7,cq 156 157]
abbrev avb:mm:=[bk 158 0,bm 159 57 3,bm 160 53 11,LZ 161 96 158 159 160 82 57 53,dU 108 4 161]
abbrev avc:mm:=[bm 162 53 11,tP 163 22 162,SL 164 108 0 163,dU 108 4 164]
def k51:=({y:=_}:aW f51 [Rh,Rj,Rk,Rl,Ri]).1
def KX:aU 51 f51 k51 165 [jy 4 108]:=.of
def XT:hrow 51=[3,4,11]:=k_
def k53:=({y:=_}:aW f53 []).1
def avk:aU 53 f53 k53 30 [jy 4 24,aY 5]:=.of
def apT:hrow 53=[2,4]:=k_
def aaZ:be:=[0,1,0,7,15,31,63,0,128,0,896,1920,3968,8064,16383,32767]
def K5:=({y:=_}:aW f56 [aaZ]).1
def K6:=({y:=_}:bM K5 [1,1,0,1,0,0]).1
def Ro:=({y:=_}:bM K5 [1,1,1,0,1,0,0]).1
def avn:aU 56 f56 K5 61 [aY 4]:=.of
def ap9:hrow 56=[2]:=k_
def k85:=({y:=_}:aW f85 []).1
def k86:=({y:=_}:aW f86 []).1
def avW:aU 86 f86 k86 6 [aY 2]:=.of
def k87:=({y:=_}:aW f87 []).1
def Ll:aU 87 f87 k87 61 [aY 4]:=.of
def aqa:hrow 87=[2,3]:=k_
def k90:=({y:=_}:aW f90 []).1
def avY:aU 90 f90 k90 15 [aY 4]:=.of
def abF:be:=[0,1,3,7,15,0,32,96,224,0,992,2047,4095,8191]
def k91:=({y:=_}:aW f91 [abF]).1
def avZ:aU 91 f91 k91 18 [jy 4 53]:=.of
def aqb:hrow 91=[4]:=k_
def k92:=({y:=_}:aW f92 []).1
def av0:aU 92 f92 k92 9 [aY 4]:=.of
def k93:=({y:=_}:aW f93 []).1
def av1:aU 93 f93 k93 69 [aY 6,aY 7]:=.of
def aqc:hrow 93=[1066]:=k_
def k94:=({y:=_}:aW f94 []).1
def av2:aU 94 f94 k94 14 [aY 6]:=.of
def aqd:hrow 94=[]:=k_
def abK:be:=[0,1,3,7,0,16,63,127,255,255,511,2047]
def abL:be:=[0,1,0,4,0,28,60,0,128,511,0,2047]
def k95:=({y:=_}:aW f95 [abK,abL]).1
def av3:aU 95 f95 k95 60 [jy 6 108]:=.of
def XV:hrow 95=[4,5,6,10]:=k_
def abO:be:=[0,1,0,4,15,31,63,127,63,319,831,1855,4095,8191,63,16447,49215,114751,262143,524287,1048575]
def abN:be:=[0,1,0,4,12,31,63,127,255]
def k96:=({y:=_}:aW f96 [abO,abN]).1
def av5:aU 96 f96 k96 72 [jy 6 108]:=.of
def aqe:hrow 96=[4,5,6,7]:=k_
def YN:be:=[0,0,3,0,0,24,63,127]
def YM:=({y:=_}:aW f101 [YN]).1
def asq:aU 101 f101 YM 33 [aY 6]:=.of
def aqf:hrow 101=[]:=k_
def Zm:=({y:=_}:aW f137 []).1
def as5:aU 137 f137 Zm 6 [aY 2]:=.of
def Qb:=({y:=_}:aW f152 []).1
def Ki:=({y:=_}:bM Qb [1,0,1,0,0]).1
def as7:aU 152 f152 Qb 19 [aY 4]:=.of
def aqD:hrow 152=[]:=k_
def Qc:=({y:=_}:aW f153 []).1
def Kj:=({y:=_}:bM Qc [1,1,1,0,0,0]).1
def as8:aU 153 f153 Qc 49 [aY 6,aY 7]:=.of
def aqE:hrow 153=[]:=k_
def Zq:=({y:=_}:aW f154 []).1
def as9:aU 154 f154 Zq 9 [aY 4]:=.of
def aqF:hrow 154=[2]:=k_
def Zs:=({y:=_}:aW f156 []).1
def Qd:aU 156 f156 Zs 8 [aY 2]:=.of
def aqG:hrow 156=[1007]:=k_
def Zu:be:=[0,0,3,0,0,24,63,127]
def Zt:=({y:=_}:aW f157 [Zu]).1
def atb:aU 157 f157 Zt 33 [aY 6]:=.of
def aqH:hrow 157=[]:=k_
def atc:=({y:=_}:aW f159 []).1
def Zv:=({y:=_}:aW f160 []).1
def atd:aU 160 f160 Zv 18 [aY 4]:=.of
def aqI:hrow 160=[3]:=k_
def Zw:=({y:=_}:aW f161 []).1
def ate:aU 161 f161 Zw 7 [aY 3]:=.of
def Zx:=({y:=_}:aW f162 []).1
def Zy:aU 162 f162 Zx 27 [aY 4]:=.of
def aqK:hrow 162=[]:=k_
def Kk:=({y:=_}:aW f164 []).1
def ath:=({y:=_}:bM Kk [1,1,0,1,0,0]).1
def ati:=({y:=_}:bM Kk [1,1,1,1,0,1,0,0]).1
def atg:aU 164 f164 Kk 36 [aY 2]:=.of
def aqL:hrow 164=[]:=k_
def aaa:=({y:=_}:aW f224 []).1
def at0:aU 224 f224 aaa 27 [aY 4]:=.of
def X1:hrow 224=[]:=k_
def aii:eP ae 45 [(0,1),(1,1),(2,1)]:=kK
def aij:eP ae 57 [(0,1),(1,1),(2,1),(3,1),(4,2),(6,1),(7,1),(8,1),(9,6)]:=kK
def ahY:eP ae 67 [(0,1),(1,1),(2,1)]:=kK
def ahZ:eP ae 74 [(0,1),(1,1)]:=kK
def ah0:eP ae 87 [(0,1),(1,1)]:=kK
def ah8:eP ae 108 [(0,1),(1,1),(2,1)]:=kK
def aif:qR ae 234 1:=qR.of
def aCb:ee ae 42:=ee.of
def aCc:ee ae 30:=ee.of
def aCd:eI ae 45 3:=kA
def aex:eI ae 57 15:=kA
def aBL:ee ae 63:=ee.of
def aBM:eI ae 67 3:=kA
def aBZ:eI ae 108 3:=kA
def aFh:cW ae 45=X 3:=k_
def aFi:cW ae 57=X 15:=k_
def aEP:cW ae 63=X 1:=k_
def aEQ:cW ae 67=X 3:=k_
def aE1:cW ae 108=X 3:=k_
def agl:dD ae 26=X .uP:=k_
def aH0:dD ae 45=X (.agg [.uP,(.int .i64 (0)),.uP]):=k_
def aH1:dD ae 57=X (.agg [(.int .i64 (0)),(.str []),(.str []),(.str []),(.int .i64 (0)),(.int .i64 (0)),(.str []),(.str []),.uP,(.str []),(.int .i64 (0)),(.int .i64 (0)),(.int .i64 (0)),.uP,.uP]):=k_
def aHB:dD ae 63=X .nilm:=k_
def aHC:dD ae 67=X (.agg [(.str []),(.int .i64 (0)),(.str [])]):=k_
def aHD:dD ae 74=X (.agg [.uP,.nilm]):=k_
def aHE:dD ae 87=X (.agg [.uP,.nilm]):=k_
def aHO:dD ae 108=X (.agg [.uP,(.str []),(.int .i64 (0))]):=k_
def aHW:dD ae 234=X (.agg [(.str []),(.str []),(.str []),(.str [])]):=k_
def amI:bq ae 45 1 1:=dg
def amJ:bq ae 57 0 0:=dg
def amK:bq ae 57 1 1:=dg
def amL:bq ae 57 2 2:=dg
def amM:bq ae 57 3 3:=dg
def amN:bq ae 57 4 4:=dg
def WZ:bq ae 57 5 6:=dg
def amO:bq ae 57 6 7:=dg
def amP:bq ae 57 7 8:=dg
def amQ:bq ae 57 8 9:=dg
def al9:bq ae 74 0 0:=dg
def ama:bq ae 74 1 1:=dg
def amb:bq ae 87 0 0:=dg
def amc:bq ae 87 1 1:=dg
def WP:bq ae 108 0 0:=dg
def amq:bq ae 108 1 1:=dg
def amr:bq ae 108 2 2:=dg
def kx:ep ae 30 15 216 O (.agg [(.int .i64 (0)),(.str []),(.str []),(.str []),(.int .i64 (0)),(.int .i64 (0)),(.str []),(.str []),.uP,(.str []),(.int .i64 (0)),(.int .i64 (0)),(.int .i64 (0)),.uP,.uP]):=ep.of
def EA:ep ae 34 3 56 O (.agg [.uP,(.int .i64 (0)),.uP]):=ep.of
attribute[go_sem]aii aij ahY ahZ ah0 ah8 aif aCb aCc aCd aex aBL aBM aBZ aFh aFi aEP aEQ aE1 agl aH0 aH1 aHB aHC aHD aHE aHO aHW amI amJ amK amL amM amN WZ WZ amO amP amQ al9 ama amb amc WP WP amq amr kx oG EA aqJ XZ XZ X0 X0 aqW are X6 X6 arf arh ari X7 X7 arj ark arl arm apL apM apN apQ apR apS XT XT apT ap9 aqa aqb aqc aqd XV XV aqe aqf aqD aqE aqF aqG aqH aqI aqK aqL X1 X1 k5 k6 k7 PZ Qg Ko Gx QA Z7 k23 k24 QG QH KA QP KF KI k45 k46 k47 Re Rg k51 k53 K5 k85 k86 k87 k90 k91 k92 k93 k94 k95 k96 YM Zm Qb Qc Zq Zs Zt atc Zv Zw Zx Kk aaa ZV Z6 aaA aaB aaE aaR aaS aaN aaO aaP aaQ Rh Rj Rk Rl Ri aaZ abF abK abL abO abN YN Zu
def aaG:be:=[0,0,0,0,12,28,60,127,255,511,1023,2047,4095,8191,8191,24575,65535,131071,262143,524287,1048575,8191,8191,6299647,14688255,31465471,65019903,132128767,268435455,536870911,1073741823]
def k3:=({y:=_}:aW Tryz.f3 [aaG]).1
def KP:=({y:=_}:bM k3 [1,1,1,1,1,1,1,1,0,1,0,0]).1
def GM:=({y:=_}:bM k3 [1,1,1,1,1,1,1,1,1,0,1,0,0]).1
def auz:aU 3 Tryz.f3 k3 142 [aY 6]:=.of
def k8:=({y:=_}:aW Tryz.f8 []).1
def Lm:=({y:=_}:bM k8 [1,0,1,0,0]).1
def avX:aU 8 Tryz.f8 k8 28 [aY 4]:=.of
def k9:=({y:=_}:aW Tryz.f9 []).1
def RP:=({y:=_}:bM k9 [1,0,1,0,0]).1
def av8:aU 9 Tryz.f9 k9 35 [aY 6]:=.of
def vh:=({y:=_}:aW f10 []).1
def Ka:=({y:=_}:bM vh [1,1,0,1,0,0]).1
def asy:aU 10 f10 vh 24 [aY 4]:=.of
def Y6:be:=[0,1,0,7,15,0,32,0,224,480,1023,2047]
def Kb:=({y:=_}:aW f11 [Y6]).1
def Kd:=({y:=_}:bM Kb [1,1,0,1,0,0]).1
def asH:aU 11 f11 Kb 32 [aY 4]:=.of
def aay:be:=[0,1,0,7,15,0,32,0,224,480,1023]
def aax:be:=[0,1,0,7,15,0,32,0,224,480,1023]
def GK:=({y:=_}:aW f28 [aay,aax]).1
def Ky:=({y:=_}:bM GK [1,1,0,1,0,0]).1
def Kz:=({y:=_}:bM GK [1,1,1,0,1,0,0]).1
def aun:aU 28 f28 GK 80 [aY 4]:=.of
def aaw:be:=[0,0,3,7,0,0,48,112,255]
def GG:=({y:=_}:aW f27 [aaw]).1
def GJ:=({y:=_}:bM GG [1,1,0,1,0,0]).1
def aum:aU 27 f27 GG 26 [aY 4]:=.of
def ars:hrow 3=[3,4,8,16,1046]:=k_
def art:hrow 8=[]:=k_
def aru:hrow 9=[]:=k_
def arn:hrow 10=[]:=k_
def aro:hrow 11=[2,3]:=k_
def arp:hrow 27=[]:=k_
def arq:hrow 28=[2,3]:=k_
def amZ:bq ae 45 0 0:=dg
def TB:ep ae 38 1 1 I (.bool I):=ep.of
attribute[go_sem]ars art aru arn aro arp arq amZ TB aaG KP GM k3 Lm k8 RP k9 Ka vh Y6 Kd Kb aay aax Ky Kz GK aaw GJ GG
abbrev Sp:=az->df
abbrev de:=List (Nat×Sp)
abbrev rD(f:Nat):Bool:=(1018517988493371575556237815703811856546364214636698849302426381281462253131394965140672656 >>> f) % 2==1
def Ap(f:Nat):de->Option Sp
 |[]=>Z
 |(k,v)::l=>bif aB k f&&rD f then X v else Ap f l
def H8{f:Nat}(h:rD f=I):∀T:de,Ap f T=Z
 |[]=>rfl
 |(k,v)::l=>by
  rw[Ap,h,Bool.and_false];exact H8 h l
noncomputable def QT(t:de):ay:=QS λf=>Ap f t
def eh(t:de):Prop:=∀p∈t,da ae p.1 p.2
def H7{f:Nat}{sp:Sp}:∀{t:de},Ap f t=X sp->(f,sp)∈t
 |[],h=>by cases h
 |(k,v)::l,h=>by
  simp only[Ap]at h;cases hk:aB k f&&rD f;rw[hk]at h;exact List.mem_cons_of_mem _ (H7 h);rw[hk]at h;cases h
  have:=fL (Bool.and_eq_true_iff.1 hk).1;subst this;exact List.mem_cons_self
theorem Ss:ae.funcs.toList.all (fun fn=> !(fn.name== "runtime.NumGoroutine"))=true:=by kernel_rfl
def Ly:ae.follows .mixedOrders=O:=k_
variable{t:de}
def JZ(h:eh t):rf (QT t) where
 mixed:=Ly
 spec f sp hsp args v hv G hp w xs wr hx:=h _ (H7 hsp) args v hv G hp w xs wr hx
 specH f sp h:=by cases h
 names f fn a:=by
  have a:ae.funcs[f]?=X fn:=a
  have:=List.all_eq_true.1 Ss fn (by
   rw[<-Array.getElem?_toList]at a;exact List.mem_of_getElem? a)
  simpa using this
def eh.nil:eh []:=λ_ h=>by cases h
def eh.cons{f:Nat}{sp:Sp}(h:da ae f sp)(b:eh t):eh ((f,sp)::t):=by
 intro p a;rcases List.mem_cons.1 a with rfl|a
 exact h;exact b p a
def Gb(c:Nat):oa->Nat->Int
 |[],_=> -1
 |b::l,i=>bif aB b.toNat c then(i:Int)else Gb c l (i+1)
def TN:Sp
 |[.str s,.int .u8 (.ofNat c)]=>bif Nat.blt c 256 then X (.int .i64 (Gb c s 0))else Z
 |_=>Z
def Yd(c:Nat)(a:c<256):∀(l:oa)(i:Nat),Gb c l i=match(g9 (J l)).find? (λj=>l[j]! ==c.toUInt8)with|some j=>((i+j:Nat):Int)|none=> -1
 |[],i=>rfl
 |b::l,i=>by
  rw[Gb,bT,List.range_succ_eq_map,List.find?_cons];have g:((b::l)[0]! ==c.toUInt8)=aB b.toNat c:=by
   show(b==c.toUInt8)=_;cases h:aB b.toNat c
   have:=Nat.ne_of_beq_eq_false h;apply bN.2;intro e;apply this;rw[e];simp[Nat.mod_eq_of_lt a]
   have:=fL h;subst this;simp
  rw[g];cases h:aB b.toNat c;simp only[cF];rw[Yd c a l (i+1),List.find?_map];have d:((λj=>(b::l)[j]! ==c.toUInt8) ∘ Nat.succ)=λj=>l[j]! ==c.toUInt8:=by
   funext j;simp[Function.comp]
  rw[d];rcases(g9 (J l)).find? (λj=>l[j]! ==c.toUInt8)with _|j
  rfl;simp only[Option.map_some];show((i+1+j:Nat):Int)=((i+(j+1):Nat):Int);congr 1;omega;simp
def aEm:da ae 299 TN:=by
 intro args v g G h w u m o;unfold TN at g;split at g;rename_i s c
 let⟨l,g⟩:=bf g
 cases g;have l:c<256:=Nat.le_of_ble_eq_true l;cases o with
 |cons a b=>
  cases b with
  |cons b d=>
   cases d;cases a;cases b;refine .inl ⟨.int .i64 (firstIdx ⟨⟨s⟩⟩ c.toUInt8),w,?_,G,m,.refl,?_⟩
   have:=run_callFunc_extern (P:=ae) (f:=299) (fn:=f299) (e:=Extern.BytealgIndexByte.indexByte) k_ k_ k_ k_ k_ #[.string ⟨⟨s⟩⟩,.int .u8 (.ofNat c)] w;rw[show(⟨[Value.string ⟨⟨s⟩⟩,.int .u8 (.ofNat c)]⟩:gy)= #[.string ⟨⟨s⟩⟩,.int .u8 (.ofNat c)]from rfl,this,run_indexByte_string];rfl;have:firstIdx ⟨⟨s⟩⟩ c.toUInt8=Gb c s 0:=by
    rw[Yd c l];unfold firstIdx;have q:(⟨⟨s⟩⟩:ByteArray).size=J s:=rfl;rw[q];have p:(λi=>(⟨⟨s⟩⟩:ByteArray)[i]! ==c.toUInt8)=λ(j:Nat)=>s[j]! ==c.toUInt8:=by
     funext i;congr 1;by_cases hi:i<J s;rw[getElem!_pos (⟨⟨s⟩⟩:ByteArray) i hi,getElem!_pos s i hi];rfl;rw[getElem!_neg (⟨⟨s⟩⟩:ByteArray) i hi,getElem!_neg s i hi]
    rw[p];cases (g9 (J s)).find? (λ(j:Nat)=>s[j]! ==c.toUInt8)<;>simp
   rw[this];exact .int _ _
 cases g
end Go.Proofs.YtnhmcokmdhgpbaaGreat
set_option linter.defProp false
namespace Go.Proofs.YtnhmcokmdhgpbaaGreat
open Tryz
open Go.Ag
class Std (Q:ay):Prop where
 P:Q.P=ae
 hint:Q.hint=Ds
 H:∀f,Q.specH f=none
 n:∀f,rD f=false->Q.spec f=none/\Q.specW f=none
class No (Q:ay) (f:FuncId):Prop where
 s:Q.spec f=none
 w:Q.specW f=none
variable{f:FuncId}{Q:ay}
theorem tI[Std Q](h:rD f=I):No Q f:=⟨(Std.n f h).1,(Std.n f h).2⟩
def nJ[Std Q](f:FuncId)(h:rD f=I:=by rfl):Q.spec f=Z:=(Std.n f h).1
def aIU[Std Q](h:rD f=I):Q.spec f=Z:=(Std.n f h).1
attribute[go_sem]aIU rD Std.P Std.hint No.s Ds PC
variable{fn:Func}{args:az}{n:Nat}{sc:SC}{s s':St}{t:Tmp}{v:aa}
def ai.ofN[Std Q](g:ae.funcs[f]?=X fn)(i:fn.body.map dZ=X sc)(e:fn.ntmps=n)(d:fn.results.toList=[.tmp t])(h:W Q f sc (uZ n args) s λx a b=>b=s'/\(x=.normal\/x=.ret)/\ac a.env t=v)(c:v.gt=O:=by rfl)(w:No Q f:=by first|assumption|exact tI rfl):ai Q f args s v s':=
 ai.of2 (by rw[Std.P];exact g) i e d w.s (h.mono λ_ _ _ ⟨m,l,j⟩=>⟨m,l,aeG j c⟩) (Std.H f) w.w
variable{rs:List ResultVar}{R:aa->St->Prop}
def ai.ofNR[Std Q](e:ae.funcs[f]?=X fn)(g:fn.body.map dZ=X sc)(d:fn.ntmps=n)(c:fn.results.toList=rs)(h:W Q f sc (uZ n args) s λx a b=>(x=.normal\/x=.ret)/\∃v,(jb Q [] a b rs).map mY=X v/\R v b)(w:No Q f:=by first|assumption|exact tI rfl):∃v s',ai Q f args s v s'/\R v s':=by
 let⟨x,a,b,hrun,hx,v,hv,hp⟩:=h
 exact⟨v,b,ai.of2 (by rw[Std.P];exact e) g d c w.s ⟨x,a,b,hrun,rfl,hx,by simpa only[Option.map_eq_some_iff]using hv⟩ (Std.H f) w.w,hp⟩
def ai.ofNRZ[Std Q](F:aU f fn sc n rs)(h:W Q f sc (uZ n args) s λx a b=>(x=.normal\/x=.ret)/\∃v,(jb Q [] a b rs).map mY=X v/\R v b)(w:No Q f:=by first|assumption|exact tI rfl):∃v s',ai Q f args s v s'/\R v s':=ai.ofNR F.1 F.2 F.3 F.4 h
def ai.ofNZ[Std Q](F:aU f fn sc n [.tmp t])(h:W Q f sc (uZ n args) s λx a b=>b=s'/\(x=.normal\/x=.ret)/\ac a.env t=v)(c:v.gt=O:=by rfl)(w:No Q f:=by first|assumption|exact tI rfl):ai Q f args s v s':=ai.ofN F.1 F.2 F.3 F.4 h c
def ai.ofV[Std Q](i:ae.funcs[f]?=X fn)(j:fn.body.map dZ=X sc)(g:fn.ntmps=n)(e:fn.results.toList=rs)(h:W Q f sc (uZ n args) s λx c d=>d=s'/\(x=.normal\/x=.ret)/\(jb Q [] c d rs).map mY=X v)(w:No Q f:=by first|assumption|exact tI rfl):ai Q f args s v s':=
 let⟨_,_,h,b,a⟩:=ai.ofNR (R:=λw t=>w=v/\t=s') i j g e (h.mono λ_ _ _ ⟨b,a,l⟩=>⟨a,v,l,rfl,b⟩)
 b▸a▸h
def sN:=(⟨@jT,@cT.{1},@cF.{1}⟩:_/\_/\_)
def sL:=(⟨sN,@aaF,@aaK,@bS.{0}⟩:_/\_/\_/\_)
def sG:=(⟨sL,@u6⟩:_/\_)
def sA:=(⟨@List.length_append.{0},@bT.{0},@List.length_nil.{0}⟩:_/\_/\_)
def ue(h:n+1<9223372036854775808):IntKind.i64.wrap ((n:Int)+1)=((n+1:Nat):Int):=by rw[ka w_ w_];omega
variable{α:Type}
def cH{l a rest:List α}{x:α}(h:l=a++x::rest):J a<J l/\l[a.length]?=X x:=by subst h;simp
def cz{l a:List α}(h:l=a++[]):J a=J l:=by rw[h];simp
def cP{l a rest:List α}{x:α}(h:l=a++x::rest):l=(a++[x])++rest:=by rw[h];simp
instance(T:de):Std (QT T):=⟨rfl,rfl,λ_=>rfl,λ_ h=>⟨H8 h T,rfl⟩⟩
def mD{f:Nat}{T:de}(g:eh T){sp:Sp}(h:∀args u,sp args=X u->dW args=O/\∃v s',ai (QT T) f (di args) s0 v s'/\s'.ci=0/\eY s'.heap v u):da ae f sp:=by
 intro args u d G e w a b c
 let⟨hp,v,s',hr,hc,hf⟩:=h args u d
 exact TR (Q:=QT T) (JZ g) (λ_=>Nat.zero_lt_succ 1) hp hr hc hf G e w a b c
end Go.Proofs.YtnhmcokmdhgpbaaGreat
namespace Go.Proofs.YtnhmcokmdhgpbaaGreat
open Go.Ag
abbrev ag:=oa
def R3(b:Nat):Bool:=(aP 97 b&&aP b 122)||(aP 65 b&&aP b 90)
def Jy(b:Nat):Bool:=aP 48 b&&aP b 57
def Hd(b:Nat):be->Bool
 |[]=>I
 |x::l=>aB b x||Hd b l
def zf(b:Nat):Nat:=
 bif R3 b then 3 else bif Jy b then 4 else bif Hd b [32,9,10]then 1 else bif Hd b [59,44,46,58,40,41,123,125,91,93,61,60,62,47,45]then 6
 else bif aB b 35 then 2 else bif aB b 95 then 5 else bif aB b 34 then 7 else 0
def wS:Nat->Nat->az
 |0,_=>[]
 |k+1,i=>.int .u8 (zf i:Nat)::wS k (i+1)
def V7:aa:=.agg (wS 256 0)
def MS:Sp
 |[]=>X V7
 |_=>Z
def T1:de:=[(299,TN)]
def Uz:eh T1:=.cons aEm .nil
noncomputable def JD(t:de)(n f:Nat)(args:az):Option (aa×Nat):=((b9 (QT t) n).call f args [] s0).bind λx=>(bW x.2.heap 12 x.1).bind λu=>X (u,x.2.ci)
def MV{t:de}(e:eh t){n f:Nat}{args:az}{u:aa}(h:JD t n f args=X (u,0)){args':az}(i:di args'=args)(g:dW args'=O)(G:Gh)(a:aC aI)(w:World)(xs:er)(wr:WR G a w)(d:bO G args' xs):
 kh Tryz.prog f ⟨xs⟩ w λy c=>∃b,WR b a c/\ck G a w b a c 0 0/\VR b u y:=by
 simp only[JD,Option.bind_eq_some_iff,Option.some.injEq,Prod.mk.injEq]at h;obtain⟨⟨v,p⟩,m,o,l,rfl,j⟩:=h;exact TR (Q:=QT t) (JZ e) (λ_=>Nat.zero_lt_succ 1) g ⟨n,by rw[i];exact m⟩ j ⟨12,l⟩ G a w xs wr d
def al2:JD T1 3000 171 []=X (V7,0):=k_
def aEl:da Tryz.prog 171 MS:=by
 intro a v b G h w c d e;rcases a with _|⟨_,_⟩
 cases b;exact MV Uz al2 rfl rfl G h w c d e;cases b
def Wd:∀k i,(wS k i).length=k
 |0,_=>rfl
 |k+1,i=>by simp[wS,Wd k (i+1)]
def Wc:∀(k i j:Nat),j<k->((wS k i).drop j).head?=X (.int .u8 (zf (i+j):Nat))
 |0,_,_,h=>w_
 |k+1,i,0,_=>by simp[wS]
 |k+1,i,j+1,h=>by
  simp only[wS,List.drop_succ_cons];rw[Wc k (i+1) j w_,show i+1+j=i+(j+1)from w_]
