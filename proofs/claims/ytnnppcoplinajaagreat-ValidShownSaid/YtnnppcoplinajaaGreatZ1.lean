/- Lemmas for ValidShown. -/
import Derived.Test.YtnnppcoplinajaaGreatAg3
import Derived.Test.YtnnppcoplinajaaGreatProg
import Derived.KernelRfl
import Derived.Laws.Externs
set_option linter.all false
open Go.Callee renaming builtin→D4,value→oB
open Go.Ag.cd renaming of→ew
open Go.IntKind renaming i64→iG
open List renaming range→hZ
open Nat renaming beq→aK,eq_of_beq_eq_true→jI
open Go.Op renaming assign→xT,binOp→ey,call→jJ
open Go.Operand renaming const→dJ,func→rD,tmp→aC
open Go.Ag.dU renaming of→jK
open Go.ResultVar renaming tmp→bJ
open Go.Ag.fw renaming of→ng
open Go.Ag.fW renaming of→oD
open Go.Proofs.Tryz renaming prog→ah
open Go.Value renaming bool→rF,int→gX
namespace Go.Proofs.YtnnppcoplinajaaGreat
open Go.Ag
structure bt (N:Nat) (fn:Func) (k:SC) (n:Nat) (rs:List ResultVar):Prop where
 a:ah.funcs[N]? =some fn
 b:fn.body.map dY=some k
 c:fn.ntmps=n
 d:fn.results.toList=rs
def bt.of{N:Nat}{fn:Func}{k:SC}{n:Nat}{rs:List ResultVar}(h:(ah.funcs[N]?,fn.body.map dY,fn.ntmps,fn.results.toList)=(some fn,some k,n,rs):=by kernel_rfl):bt N fn k n rs:=by
 simp only[Prod.mk.injEq] at h;exact⟨h.1,h.2.1,h.2.2.1,h.2.2.2⟩
def NW:List Oper->Nat->Bool->SG
 | [],_,_=>.never
 |o::_,0,w=>match o.dst with
  |some d=>.when d w
  |none=>.never
 |_::l,n+1,w=>NW l n w
def W1(all:List Oper):Option (Nat×Bool)->SG
 |none=>.aw
 |some (j,w)=>NW all j w
def HY(all:List Oper):List Oper->List ay
 | []=>[]
 |o::l=>⟨o.dst,o.op,W1 all o.guard⟩::HY all l
def Xc:List (List Nat)->List Nat
 | []=>[]
 |a::_=>a
def HH:Nat->List (List Nat)->List (List Nat)
 |0,l=>l
 |_+1,[]=>[]
 |n+1,_::l=>HH n l
def wG:Code->Nat
 | .seq a b=>wG a+wG b
 | .cond _ a b=>wG a+wG b
 | .block _ b=>wG b
 | .loop b=>wG b
 | .region _ _ true=>1
 |_=>0
def yC:Code->List (List Nat)->SC
 | .ret,_=>.ret
 | .exit id,_=>.exit id
 | .seq a b,l=>.seq (yC a l) (yC b (HH (wG a) l))
 | .cond x a b,l=>.cond x (yC a l) (yC b (HH (wG a) l))
 | .block id b,l=>.block id (yC b l)
 | .loop b,l=>.loop (yC b l)
 | .region _ ops false,_=>.region (HY ops.toList ops.toList)
 | .region _ ops true,l=>.draw (HY ops.toList ops.toList) (Xc l)
 |_,_=>.skip
def W0(f:Func)(l:List (List Nat)):SC:=
 match f.body with
 |some c=>yC c l
 |none=>.skip
def stP(t:Nat)(c:SC):SC:=
 match c with
 | .seq a b=>(match t with
   |0=>a
   |_+1=>b)
 | .cond _ a b=>(match t with
   |0=>a
   |_+1=>b)
 | .block _ b=>b
 | .loop b=>b
 |c=>c
def Me:List Nat->SC->SC
 | [],c=>c
 |t::p,c=>Me p (stP t c)
def BN(a b:SC):Prop:=a=b
def BN.r(a:SC):BN a a:=rfl
structure bw (f:Func) (l:List (List Nat)) where
 y:SC
 h:BN y (W0 f l):=by(conv=>arg 2;arg 1;whnf);dsimp only[W0,yC,wG,HY,W1,NW,Xc,HH];exact BN.r _
structure cx (k:SC) (p:List Nat) where
 y:SC
 h:BN y (Me p k):=by(conv=>arg 2;arg 2;whnf);dsimp only[Me,stP];exact BN.r _
abbrev zq(r:List ay):SC:=.region r
abbrev nP(a b:SC):SC:=.seq a b
abbrev eH(r:List ay)(k:SC):SC:=.seq (.region r) k
abbrev n9(t:Nat)(a b:SC):SC:=.cond (aC t) a b
abbrev exT(t n:Nat):SC:=.cond (aC t) .skip (.exit n)
abbrev RN(t n:Nat)(k:SC):SC:=.seq (.cond (aC t) .skip (.exit n)) k
abbrev x8(n:Nat)(k:SC):SC:=.block n k
abbrev P9(k:SC):SC:=.loop k
abbrev xt:SC:=.ret
abbrev pX:SC:=.skip
abbrev sdR(r:List ay)(b:List Nat)(k:SC):SC:=.seq (.draw r b) k
abbrev bR(a b:Nat):ay:=⟨some a,Op.move (aC b),.aw⟩
abbrev br(a b c:Nat):ay:=⟨some a,Op.load b (aC c),.aw⟩
abbrev db(a b:Nat):ay:=⟨some a,xT (aC b),.aw⟩
abbrev cj(a b c d:Nat):ay:=⟨some a,Op.fieldAddr b (aC c) d,.aw⟩
abbrev zf(a b c:Nat):ay:=⟨some a,jJ ⟨D4 Builtin.len,#[aC b],#[c]⟩,.aw⟩
abbrev Bd(a b c d:Nat):ay:=⟨some a,Op.indexAddr b (aC c) (aC d),.aw⟩
abbrev f8(a b c:Nat):ay:=⟨none,Op.store a (aC b) (aC c),.aw⟩
abbrev re(a b c:Nat):ay:=⟨some a,Op.box b (aC c),.aw⟩
abbrev io(a b:Nat):ay:=⟨some a,Op.alloc b,.aw⟩
abbrev oo(a:Nat)(b:Int):ay:=⟨some a,xT (dJ (gX iG b)),.aw⟩
abbrev Dj(a b:Nat)(c:Int):ay:=⟨some a,ey BinOp.add 3 (aC b) (dJ (gX iG c)) 3,.aw⟩
abbrev sr(a:Nat):ay:=⟨some a,xT (dJ (rF false)),.aw⟩
abbrev JY(a b c d:Nat):ay:=⟨some a,ey BinOp.lss b (aC c) (aC d) b,.aw⟩
abbrev gJ(a b c d:Nat):ay:=⟨some a,Op.load b (aC c),(.when d true)⟩
abbrev pg(a b c d e f:Nat):ay:=⟨some a,jJ ⟨oB (rD b),#[aC c,aC d],#[e,f]⟩,.aw⟩
abbrev fJ(a b c d e:Nat):ay:=⟨some a,Op.fieldAddr b (aC c) d,(.when e true)⟩
abbrev jS(a b c:Nat):ay:=⟨some a,Op.move (aC b),(.when c true)⟩
abbrev kZ(a b c:Nat):ay:=⟨some a,Op.pick (aC b) (aC c) (dJ (rF false)),.aw⟩
abbrev JZ(a:Nat):ay:=⟨some a,Op.move (dJ (gX iG 0)),.aw⟩
abbrev iB(a b c d:Nat):ay:=⟨some a,Op.load b (aC c),(.when d false)⟩
abbrev nJ(a b c d:Nat):ay:=⟨some a,jJ ⟨oB (rD b),#[aC c],#[d]⟩,.aw⟩
abbrev mN(a b:Nat):ay:=⟨some a,Op.unOp UnOp.not 4 (aC b),.aw⟩
abbrev auq(a:Nat):ay:=⟨some a,xT (dJ (Value.slice none 0 0)),.aw⟩
abbrev su(a b c:Nat):ay:=⟨some a,Op.extract (aC b) c,.aw⟩
abbrev jC(a b c:Nat):ay:=⟨some a,Op.move (aC b),(.when c false)⟩
abbrev lA(a b c:Nat):ay:=⟨some a,Op.pick (aC b) (dJ (rF true)) (aC c),.aw⟩
abbrev lV(a b c d e:Nat):ay:=⟨some a,Op.fieldAddr b (aC c) d,(.when e false)⟩
abbrev abv(a b c:Nat):ay:=⟨some a,Op.buildSlice b 1 #[(0,aC c)],.aw⟩
abbrev abw(a b c d:Nat):ay:=⟨some a,jJ ⟨D4 Builtin.append,#[aC b,aC c],#[d,d]⟩,.aw⟩
abbrev rd(a b:Nat)(c:Int):ay:=⟨some a,ey BinOp.eql 3 (aC b) (dJ (gX iG c)) 3,.aw⟩
abbrev F5(a b c:Nat)(d:Int):ay:=⟨some a,Op.indexAddr b (aC c) (dJ (gX iG d)),.aw⟩
abbrev ze(a b:Nat):ay:=⟨some a,Op.nilCheck (aC b),.aw⟩
abbrev vn(a b:Nat)(c:Int):ay:=⟨some a,ey BinOp.gtr 3 (aC b) (dJ (gX iG c)) 3,.aw⟩
abbrev aur(a b c d:Nat):ay:=⟨some a,Op.build b #[(0,aC c),(1,aC d)],.aw⟩
abbrev aAC(a b c d e f g:Nat):ay:=⟨some a,jJ ⟨oB (rD b),#[aC c,aC d],#[e,f]⟩,(.when g true)⟩
abbrev aAD(a b c d:Nat):ay:=⟨some a,jJ ⟨oB (aC b),#[aC c],#[d]⟩,.aw⟩
abbrev aAE(a b c d:Nat):ay:=⟨some a,Op.lookup b (aC c) (aC d) false,.aw⟩
abbrev Dk(a b c d:Nat):ay:=⟨some a,ey BinOp.eql b (aC c) (aC d) b,.aw⟩
abbrev abx(a b c:Nat):ay:=⟨some a,ey BinOp.sub 3 (aC b) (aC c) 3,.aw⟩
abbrev J0(a b c d:Nat):ay:=⟨some a,ey BinOp.add b (aC c) (aC d) b,.aw⟩
abbrev J1(a b c d:Nat):ay:=⟨some a,ey BinOp.mul b (aC c) (aC d) b,.aw⟩
abbrev aby(a b:Nat):ay:=⟨some a,Op.makeMap b none,.aw⟩
abbrev abz(a b c d:Nat):ay:=⟨some a,ey BinOp.neq b (aC c) (aC d) b,.aw⟩
abbrev Dl(a b c d e:Nat):ay:=⟨some a,Op.indexAddr b (aC c) (aC d),(.when e false)⟩
abbrev F6(a b c:Nat):ay:=⟨some a,Op.unOp UnOp.not 4 (aC b),(.when c false)⟩
abbrev sw(a:Nat)(b:Int):ay:=⟨none,Op.store 3 (aC a) (dJ (gX iG b)),.aw⟩
abbrev abA(a b c d:Nat):ay:=⟨some a,jJ ⟨D4 Builtin.len,#[aC b],#[c]⟩,(.when d true)⟩
abbrev F7(a b c d e f g h:Nat):ay:=⟨some a,jJ ⟨oB (rD b),#[aC c,aC d,aC e],#[f,g,h]⟩,.aw⟩
abbrev aAF(a b c:Nat):ay:=⟨some a,Op.makeFunc (Fn.func b) #[] #[aC c],.aw⟩
abbrev QI(a b c:Nat):ay:=⟨some a,Op.unOp UnOp.not 4 (aC b),(.when c true)⟩
abbrev aAG(a:Nat):ay:=⟨some a,xT (dJ (rF true)),.aw⟩
abbrev J2(a b:Nat)(c:Int)(d:Nat):ay:=⟨some a,ey BinOp.gtr 3 (aC b) (dJ (gX iG c)) 3,(.when d false)⟩
abbrev aus(a:Nat):ay:=⟨some a,xT (dJ (Value.string {data:= #[] })),.aw⟩
abbrev QJ(a b c d:Nat):ay:=⟨some a,jJ ⟨D4 Builtin.len,#[aC b],#[c]⟩,(.when d false)⟩
abbrev Dm(a b c d e:Nat):ay:=⟨some a,Op.indexAddr b (aC c) (aC d),(.when e true)⟩
abbrev QK(a b:Nat)(c:Int)(d:Nat):ay:=⟨some a,ey BinOp.eql 3 (aC b) (dJ (gX iG c)) 3,(.when d true)⟩
abbrev J3(a b c d:Nat):ay:=⟨some a,Op.pick (aC b) (aC c) (dJ (rF false)),(.when d false)⟩
abbrev aAH(a b c d:Nat):ay:=⟨some a,jJ ⟨D4 Builtin.min,#[aC b,aC c],#[d,d]⟩,.aw⟩
abbrev abB(a b:Nat)(c:Int):ay:=⟨some a,ey BinOp.neq 3 (aC b) (dJ (gX iG c)) 3,.aw⟩
abbrev aAI(a b c d:Nat):ay:=⟨some a,jJ ⟨D4 Builtin.max,#[aC b,aC c],#[d,d]⟩,.aw⟩
abbrev J4(a b:Nat)(c:Int):ay:=⟨some a,ey BinOp.lss 3 (aC b) (dJ (gX iG c)) 3,.aw⟩
abbrev abC(a b c d:Nat):ay:=⟨none,Op.mapUpdate a (aC b) (aC c) (aC d),.aw⟩
abbrev aAJ(a b:Nat)(c:Int):ay:=⟨some a,ey BinOp.geq 3 (aC b) (dJ (gX iG c)) 3,.aw⟩
abbrev abD(a b c d e:Nat):ay:=⟨some a,jJ ⟨oB (rD b),#[aC c],#[d]⟩,(.when e false)⟩
abbrev J5(a b c:Nat)(d:Int)(e:Nat):ay:=⟨some a,Op.indexAddr b (aC c) (dJ (gX iG d)),(.when e true)⟩
abbrev aut(a b c d e:Nat):ay:=⟨some a,ey BinOp.eql b (aC c) (aC d) b,(.when e true)⟩
abbrev aAK(a b:Nat)(c:Int)(d:Nat):ay:=⟨some a,ey BinOp.leq 3 (aC b) (dJ (gX iG c)) 3,(.when d true)⟩
abbrev abE(a b c d e f:Nat):ay:=⟨some a,jJ ⟨oB (rD b),#[aC c,rD d],#[e,f]⟩,.aw⟩
abbrev J6(a b c d:Nat):ay:=⟨some a,Op.lookup b (aC c) (aC d) true,.aw⟩
abbrev aAL(a:Nat)(b:Int)(c:Nat):ay:=⟨some a,Op.build 31 #[(1,dJ (gX iG b)),(2,aC c)],.aw⟩
abbrev aAM(a b c d:Nat):ay:=⟨some a,Op.convert b c (aC d),.aw⟩
abbrev abF(a b:Nat)(c:Int)(d:Nat):ay:=⟨some a,ey BinOp.eql 3 (aC b) (dJ (gX iG c)) 3,(.when d false)⟩
abbrev aAN(a b c d:Nat):ay:=⟨some a,Op.slice b (aC c) (some (aC d)) none none,.aw⟩
abbrev J7(a b:Nat)(c:Int)(d:Nat):ay:=⟨some a,ey BinOp.neq 3 (aC b) (dJ (gX iG c)) 3,(.when d true)⟩
abbrev QL(a b c d e f g:Nat):ay:=⟨some a,jJ ⟨oB (rD b),#[aC c,aC d],#[e,f]⟩,(.when g false)⟩
abbrev auu(a b c d e f:Nat):ay:=⟨some a,jJ ⟨oB (aC b),#[aC c,aC d],#[e,f]⟩,.aw⟩
abbrev QM(a b c d e:Nat):ay:=⟨some a,jJ ⟨oB (rD b),#[aC c],#[d]⟩,(.when e true)⟩
abbrev QN(a b c d e:Nat):ay:=⟨some a,ey BinOp.eql b (aC c) (aC d) b,(.when e false)⟩
abbrev QO(a b:Nat)(c:Int)(d:Nat):ay:=⟨some a,ey BinOp.lss 3 (aC b) (dJ (gX iG c)) 3,(.when d true)⟩
abbrev abG(a b c d:Nat):ay:=⟨some a,Op.pick (aC b) (dJ (rF true)) (aC c),(.when d true)⟩
abbrev auv(a b c:Nat):ay:=⟨some a,ey BinOp.leq 3 (aC b) (aC c) 3,.aw⟩
abbrev aAO(a b c d:Nat):ay:=⟨some a,Op.buildSlice b 2 #[(0,aC c),(1,aC d)],.aw⟩
abbrev abH(a b:Nat):ay:=⟨some a,Op.build b #[],.aw⟩
abbrev auw(a b c d:Nat):ay:=⟨some a,ey BinOp.gtr b (aC c) (aC d) b,.aw⟩
abbrev aux(a b c:Nat):ay:=⟨none,Op.mapUpdate a (aC b) (aC c) (dJ (rF true)),.aw⟩
abbrev auy(a b:Nat):ay:=⟨some a,ey BinOp.sub 3 (aC b) (dJ (gX iG 1)) 3,.aw⟩
abbrev F8(a:Nat):ay:=⟨none,Op.store 4 (aC a) (dJ (rF false)),.aw⟩
abbrev aAP(a b:Nat):ay:=⟨some a,ey BinOp.shr 389 (aC b) (dJ (gX IntKind.u64 32)) 294,.aw⟩
abbrev QP(a b:Nat)(c:Int)(d:Nat):ay:=⟨some a,ey BinOp.lss 3 (aC b) (dJ (gX iG c)) 3,(.when d false)⟩
abbrev aAQ(a b c:Nat):ay:=⟨some a,Op.range b (aC c),.aw⟩
abbrev aAR(a b:Nat):ay:=⟨some a,Op.next (aC b) false,.aw⟩
abbrev aAS(a b:Nat):ay:=⟨some a,Op.entry (aC b),.aw⟩
abbrev aAT(a b:Nat)(c:Int):ay:=⟨some a,ey BinOp.leq 3 (aC b) (dJ (gX iG c)) 3,.aw⟩
abbrev auz(a b c:Nat)(d:Int)(e:Nat):ay:=⟨some a,Op.indexAddr b (aC c) (dJ (gX iG d)),(.when e false)⟩
abbrev abI:ay:=⟨some 2,xT (dJ (Value.pointer none)),.aw⟩
abbrev abJ(a b:Nat):ay:=⟨some a,ey BinOp.neq 9 (aC b) (dJ (Value.string {data:= #[] })) 9,.aw⟩
abbrev aAU(a:Nat):ay:=⟨some a,xT (dJ (gX IntKind.u64 0)),.aw⟩
abbrev aAV(a b:Nat):ay:=⟨some a,jJ ⟨oB (rD b),#[],#[]⟩,.aw⟩
abbrev auA(a b c d:Nat):ay:=⟨some a,ey BinOp.lss 3 (aC b) (aC c) 3,(.when d true)⟩
abbrev QQ(a b c d e f g h i:Nat):ay:=⟨some a,jJ ⟨oB (rD b),#[aC c,aC d,aC e],#[f,g,h]⟩,(.when i false)⟩
abbrev QG(a b c d e f g:Nat):ay:=⟨some a,jJ ⟨oB (rD b),#[aC c,aC d,aC e],#[f,f,f]⟩,(.when g true)⟩
abbrev auo(a b c d e:Nat):ay:=⟨some a,ey BinOp.neq b (aC c) (aC d) b,(.when e true)⟩
abbrev aup(a b c d:Nat):ay:=⟨some a,ey BinOp.leq 3 (aC b) (aC c) 3,(.when d true)⟩
abbrev aAv(a b c d:Nat):ay:=⟨some a,Op.slice b (aC c) none (some (aC d)) none,.aw⟩
abbrev aAw(a:Nat):ay:=⟨some a,xT (dJ Value.nilFunc),.aw⟩
abbrev QH(a b c:Nat):ay:=⟨some a,ey BinOp.gtr 3 (aC b) (dJ (gX iG 0)) 3,(.when c true)⟩
abbrev aAx(a b c d:Nat):ay:=⟨some a,Op.makeFunc (Fn.func b) #[] #[aC c,aC d],.aw⟩
abbrev abu(a b c d e:Nat):ay:=⟨some a,ey BinOp.neq b (aC c) (aC d) b,(.when e false)⟩
abbrev aAy(a b c d:Nat):ay:=⟨some a,Op.build b #[(c,aC d)],.aw⟩
abbrev aAz(a:Nat):ay:=⟨some a,Op.buildSlice 25 1 #[(0,dJ (Value.string {data:= #[] }))],.aw⟩
abbrev aAA(a b:Nat):ay:=⟨some a,ey BinOp.and 389 (aC b) (dJ (gX IntKind.u64 4294967295)) 389,.aw⟩
abbrev aAB(a b c:Nat):ay:=⟨some a,jJ ⟨oB (rD 16),#[aC b,aC c,dJ (gX iG 24)],#[24,29,3]⟩,.aw⟩
abbrev ag(n:Int):aa:=.int .i64 n
abbrev aI(n:Nat):aa:=.int .i64 (n:Int)
def Xf(n:Nat):List (Nat×Nat)->Nat
 | []=>0
 |(k,v)::l=>bif aK k n then v else Xf n l
def al3:List (Nat×List (Nat×Nat)):=[
(3,[(4,1),(5,1),(7,1)]),
(4,[(3,1),(4,1)]),
(5,[(2,1),(3,1),(7,1),(12,1),(16,1)]),
(6,[(2,1),(3,1)]),
(7,[(3,1),(4,1),(5,1),(10,1)]),
(8,[(3,1),(4,1),(8,1),(16,1)]),
(9,[(3,1),(4,1),(8,1),(17,1)]),
(10,[(3,1),(4,1),(8,1)]),
(11,[(3,1),(4,1),(8,1),(13,1),(14,1)]),
(12,[(3,1),(4,1),(5,1),(8,1),(10,1)]),
(13,[(3,1),(4,1),(5,1),(8,1),(10,1)]),
(14,[(3,1),(4,1),(5,1),(8,1)]),
(15,[(1,1),(3,1),(6,1),(7,1)]),
(16,[(3,1),(4,1)]),
(18,[(2,1),(10,1),(14,1)]),
(19,[(2,1),(3,1)]),
(20,[(2,1),(3,1)]),
(21,[(2,1),(4,1),(10,1),(12,1)]),
(22,[(2,1),(4,1),(9,1),(11,1)]),
(23,[(2,1),(3,1)]),
(24,[(2,1),(3,1)]),
(25,[(3,1),(4,1)]),
(26,[(3,1),(4,1),(5,1)]),
(27,[(3,1)]),
(28,[(2,1),(4,1)]),
(29,[(3,1),(4,1)]),
(30,[(1,1)]),
(31,[(1,1),(5,1)]),
(32,[(2,1)]),
(33,[(2,1),(6,1)]),
(34,[(2,1),(3,1),(4,1),(8,1)]),
(36,[(1,1),(2,1),(4,1),(5,1),(8,1),(9,1),(12,1)]),
(37,[(3,1),(4,1)]),
(38,[(6,1),(17,1)]),
(39,[(5,1),(11,1),(40,2),(120,2)]),
(43,[(2,1),(4,1),(9,1),(10,1)]),
(45,[(1,1),(2,1),(4,1),(6,1),(8,1),(9,1),(10,1),(11,1),(12,1),(16,1)]),
(46,[(3,1),(4,1),(5,1)]),
(47,[(3,1),(4,1),(5,1),(6,1),(15,1)]),
(48,[(3,1),(4,1),(5,1),(6,1),(8,1),(12,1),(17,1),(19,1),(21,1)]),
(50,[(3,1),(4,1),(5,1),(6,1),(10,1)]),
(51,[(3,1),(4,1),(5,1),(6,1),(10,1)]),
(54,[(0,1)]),
(56,[(2,1)]),
(57,[(2,1),(7,1),(10,1)]),
(58,[(1,1),(6,1)]),
(59,[(1,1),(3,1),(10,1),(13,1),(19,1),(21,1),(176,2)]),
(60,[(1,1)]),
(61,[(1,1),(8,1)]),
(62,[(1,1)]),
(63,[(3,1),(4,1)]),
(64,[(2,1),(3,1)]),
(65,[(1,1),(5,1)]),
(68,[(3,1),(4,1),(5,1),(9,1),(11,1)]),
(69,[(2,1)]),
(71,[(3,1),(4,1),(5,1),(10,1)]),
(72,[(2,1)]),
(74,[(1,1)]),
(77,[(2,1)]),
(79,[(2,1)]),
(80,[(7,2)]),
(83,[(6,1)]),
(84,[(6,1)]),
(86,[(5,1),(6,1)]),
(87,[(2,1),(3,1),(7,1)]),
(88,[(6,1),(10,1),(16,1)]),
(89,[(1,1),(2,1)]),
(91,[(1,1)]),
(93,[(1,1)]),
(96,[(1,1),(5,1),(7,1)]),
(97,[(3,1),(4,1),(6,1),(7,1),(9,1),(10,1)]),
(98,[(2,1)]),
(99,[(8,1),(9,1)]),
(100,[(1,1)]),
(107,[(2,1),(3,1)]),
(110,[(1,1)]),
(111,[(4,1),(5,1),(6,1),(8,1),(11,1),(13,1),(15,1),(17,1)]),
(112,[(2,1),(3,1),(4,1)]),
(113,[(3,1)]),
(114,[(4,1),(5,1),(6,1),(7,1)]),
(115,[(2,1),(4,1)]),
(116,[(2,1),(3,1)]),
(117,[(2,1),(3,1),(15,1)]),
(118,[(3,1),(4,1),(6,1),(14,1),(15,1)]),
(119,[(1,1),(3,1)]),
(122,[(0,1)]),
(123,[(6,1)]),
(124,[(2,1),(7,1),(10,1)]),
(125,[(1,1)]),
(126,[(1,1),(2,1),(4,1),(6,1)]),
(127,[(1,1),(5,1),(10,1),(12,1),(93,2)]),
(129,[(2,1),(4,1)]),
(131,[(11,1),(15,1)]),
(132,[(2,1),(7,1)]),
(135,[(2,1),(3,1)]),
(137,[(1,1),(5,1),(7,1),(11,1)]),
(138,[(25,2)]),
(141,[(9,1),(10,1)]),
(142,[(1,1),(6,1),(8,1)]),
(143,[(3,1),(7,1)]),
(144,[(3,1)]),
(145,[(3,1)]),
(146,[(1,1)]),
(147,[(2,1),(4,1),(5,1)]),
(148,[(2,1),(3,1)]),
(149,[(1,1)]),
(150,[(1,1)]),
(151,[(1,1)]),
(152,[(2,1)]),
(156,[(2,1)]),
(157,[(7,1)]),
(158,[(2,1)]),
(159,[(1,1)]),
(162,[(3,1)]),
(163,[(3,1)]),
(164,[(5,1)]),
(168,[(1,1)]),
(170,[(1,1)]),
(172,[(2,1)]),
(175,[(6,1)]),
(176,[(2,1),(3,1)]),
(179,[(1,1)]),
(180,[(1,1),(3,1)]),
(182,[(3,1)]),
(183,[(3,1),(4,1),(11,1)]),
(184,[(2,1),(4,1)]),
(193,[(3,1)]),
(195,[(2,1),(3,1),(4,1)]),
(196,[(3,1),(4,1),(5,1),(6,1),(8,1)]),
(197,[(2,1),(4,1),(5,1)]),
(198,[(2,1)]),
(199,[(2,1),(3,1)]),
(201,[(1,1)]),
(202,[(2,1)]),
(204,[(4,1),(5,1),(12,1)]),
(205,[(1,1)]),
(206,[(3,1),(4,1)]),
(208,[(4,1),(5,1),(8,1),(9,1),(10,1)]),
(210,[(6,1)]),
(211,[(1,1)]),
(212,[(1,1)]),
(213,[(1,1),(5,1),(9,1)]),
(214,[(7,1)]),
(215,[(3,1)]),
(219,[(3,1)]),
(221,[(2,1),(3,1)]),
(224,[(6,1),(12,1),(19,2),(92,2),(97,2)]),
(225,[(2,1),(3,1)]),
(237,[(4,1)]),
(239,[(1,1)]),
(242,[(1,1)]),
(243,[(2,1)]),
(245,[(1,1),(5,1)]),
(246,[(2,1),(3,1)]),
(247,[(3,1)]),
(248,[(4,1)]),
(249,[(2,1)]),
(250,[(2,1)]),
(251,[(1,1)]),
(253,[(2,1)]),
(254,[(2,1),(3,1)]),
(255,[(2,1),(3,1)]),
(256,[(2,1),(8,1)]),
(260,[(0,1),(1,1)]),
(264,[(2,1)]),
(270,[(2,1),(3,1)]),
(272,[(4,1)]),
(276,[(4,1),(5,1),(6,1),(10,1)]),
(277,[(4,1),(5,1),(6,1),(7,1)]),
(279,[(2,1),(3,1)]),
(280,[(10,1),(13,1),(19,1),(22,1)]),
(281,[(7,1),(8,1),(9,1),(10,1)]),
(282,[(8,1),(13,1),(18,1)]),
(284,[(11,2)]),
(285,[(11,2)]),
(290,[(2,1),(3,1)]),
(292,[(2,1),(3,1)]),
(293,[(2,1),(4,1),(8,1)]),
(294,[(3,1)]),
(296,[(1,1)]),
(297,[(1,1)]),
(298,[(3,1)]),
(303,[(4,1)]),
(305,[(2,1),(3,1)]),
(306,[(7,1)]),
(307,[(2,1)]),
(308,[(2,1),(3,1)]),
(310,[(2,1),(3,1)]),
(311,[(4,1)]),
(312,[(1,1),(2,1)]),
(313,[(3,1),(4,1),(5,1)]),
(314,[(2,1),(3,1),(5,1),(6,1)]),
(339,[(4,1)]),
(340,[(7,1)]),
(341,[(1,1),(2,1)]),
(343,[(1,1)]),
(344,[(5,1),(6,1),(10,1)]),
(345,[(2,1),(3,1)]),
(346,[(1,1),(2,1)]),
(347,[(2,1),(7,1)]),
(349,[(4,1)]),
(350,[(10,1)]),
(351,[(2,1)]),
(352,[(4,1)]),
(354,[(3,1),(4,1),(5,1)]),
(355,[(2,1),(3,1)]),
(364,[(2,1)]),
(369,[(3,1)]),
(378,[(4,1),(5,1)]),
(379,[(2,1),(3,1)]),
(381,[(5,1)]),
(391,[(14,2)]),
(396,[(2,1)]),
(397,[(1,1),(3,1)]),
(398,[(1,1)]),
(399,[(1,1)]),
(400,[(1,1)]),
(401,[(2,1),(3,1),(4,1)]),
(406,[(3,1)]),
(420,[(2,1),(3,1),(4,1)]),
(421,[(2,1),(3,1)]),
(422,[(2,1),(3,1)]),
(429,[(1,1)]),
(430,[(1,1)]),
(442,[(3,1),(4,1),(5,1)]),
(444,[(1,1)]),
(445,[(2,1),(3,1)]),
(446,[(2,1),(3,1)]),
(447,[(3,1),(4,1),(5,1)]),
(450,[(3,1),(7,1)]),
(451,[(1,1)]),
(452,[(3,1)]),
(462,[(4,1)]),
(467,[(12,2),(24,2)]),
(468,[(1,1),(2,1)]),
(470,[(2,1),(3,1)]),
(471,[(2,1),(3,1),(4,1)]),
(472,[(3,1),(4,1),(5,1),(6,1),(12,1),(14,1)]),
(474,[(2,1)]),
(500,[(1,1)]),
(501,[(3,1),(4,1),(5,1)]),
(503,[(2,1),(3,1)]),
(504,[(3,1),(4,1),(5,1)]),
(506,[(2,1),(3,1)]),
(507,[(3,1)]),
(515,[(3,1),(8,1)])]
def Xg(f t:Nat):List (Nat×List (Nat×Nat))->Nat
 | []=>0
 |(k,v)::l=>bif aK k f then Xf t v else Xg f t l
def aj(f:FuncId)(t:Tmp):Nat:=Xg f t al3
noncomputable def QS(sp:FuncId->Option (List aa->Option aa)):aF:= {P:=ah,hint:=aj,spec:=sp,ch:=fun _=>0,kmax:=fun _=>2 }
def Tu(sp:FuncId->Option (List aa->Option aa)):(QS sp).P=ah:=rfl
def Tv(sp:FuncId->Option (List aa->Option aa)):(QS sp).hint=aj:=rfl
def Tw(sp:FuncId->Option (List aa->Option aa)):(QS sp).spec=sp:=rfl
abbrev aql:List ay:=[sr 2]
def YW:=({y:=_}:bw Tryz.f31 []).1
def aqk:=({y:=_}:cx YW [1,1,0,1,0,0]).1
def IY:bt 31 Tryz.f31 YW 29 [bJ 2]:=.of
def Xq:aj 31 1=1/\aj 31 5=1:=by and_intros<;>kernel_rfl
def Zi:=({y:=_}:bw Tryz.f32 []).1
def aqt:bt 32 Tryz.f32 Zi 9 [bJ 4]:=.of
def am0:aj 32 2=1/\aj 32 3=0:=by and_intros<;>kernel_rfl
def aqv:List Nat:=[0,1,0,7,15,31,63,0,128,0,896,1920,3968,8064,16383,32767]
abbrev aqz:List ay:=[sr 4]
def I5:=({y:=_}:bw Tryz.f33 [aqv]).1
def aqw:=({y:=_}:cx I5 [1,1,0,1,0,0,1,0,0,1,1,0,1,0,0]).1
def aqx:=({y:=_}:cx I5 [1,1,0,1,0,0,1,0,0,1,1,1,1,0,0]).1
def aqy:=({y:=_}:cx I5 [1,1,0,1,0,0]).1
def I7:bt 33 Tryz.f33 I5 79 [bJ 4]:=.of
def Xr:aj 33 2=1/\aj 33 6=1:=by and_intros<;>kernel_rfl
def arj:List Nat:=[0,0,3,7,0,0,48,112,255]
def ZK:=({y:=_}:bw Tryz.f70 [arj]).1
def ark:=({y:=_}:cx ZK [1,1,0,1,0,0]).1
def Jr:bt 70 Tryz.f70 ZK 26 [bJ 4]:=.of
def Xz:aj 70 7=0/\aj 70 9=0/\aj 70 12=0:=by and_intros<;>kernel_rfl
def arp:List Nat:=[0,1,3,7,15,31,63,127,255,511,1023,2047,4095,8191,16383,32767,65535,131071,262143,524287,131071,1179647,3276799,8388607,16777215,33554431,67108863,134217727,268435455,536870911,1073741823]
abbrev arq:List ay:=[sr 2]
def k75:=({y:=_}:bw Tryz.f75 [arp]).1
def Js:bt 75 Tryz.f75 k75 72 [bJ 2]:=.of
def N6:aj 75 1=0/\aj 75 3=0/\aj 75 4=0:=by and_intros<;>kernel_rfl
def FA:=({y:=_}:bw Tryz.f76 []).1
def PS:=({y:=_}:cx FA [1,0,1,0,0]).1
def ars:bt 76 Tryz.f76 FA 19 [bJ 4]:=.of
def anv:aj 76 7=0:=by kernel_rfl
def ZN:=({y:=_}:bw Tryz.f77 []).1
def art:bt 77 Tryz.f77 ZN 8 [bJ 3]:=.of
def anw:aj 77 2=1:=by kernel_rfl
def XW:=({y:=_}:bw Tryz.f108 []).1
def aoe:=({y:=_}:cx XW [1,1,0,1,0,0]).1
def Ic:bt 108 Tryz.f108 XW 18 [bJ 2]:=.of
def al4:aj 108 7=0:=by kernel_rfl
def X0:=({y:=_}:bw Tryz.f130 []).1
def aol:bt 130 Tryz.f130 X0 9 [bJ 4]:=.of
def X6:=({y:=_}:bw Tryz.f136 []).1
def aoA:=({y:=_}:cx X6 [1,0,1,0,0]).1
def Ij:bt 136 Tryz.f136 X6 36 [bJ 4]:=.of
def Xk:aj 136 10=0/\aj 136 32=0/\aj 136 34=0:=by and_intros<;>kernel_rfl
abbrev aoY:List ay:=[aus 2]
def aoX:=({y:=_}:bw Tryz.f162 []).1
def Iu:bt 162 Tryz.f162 aoX 14 [bJ 2]:=.of
def amq:aj 162 3=1:=by kernel_rfl
abbrev ao0:List ay:=[sr 2]
def Yk:=({y:=_}:bw Tryz.f163 []).1
def aoZ:=({y:=_}:cx Yk [1,1,0,1,0,0]).1
def Iv:bt 163 Tryz.f163 Yk 39 [bJ 2]:=.of
def amr:aj 163 3=1:=by kernel_rfl
abbrev ao2:List ay:=[sr 2]
def Yl:=({y:=_}:bw Tryz.f164 []).1
def ao1:=({y:=_}:cx Yl [1,1,0,1,0,0]).1
def Iw:bt 164 Tryz.f164 Yl 39 [bJ 2]:=.of
def N4:aj 164 5=1/\aj 164 30=0:=by and_intros<;>kernel_rfl
abbrev ao4:List ay:=[br 25 44 3,bR 26 0,bR 27 0,aux 44 25 26,f8 9 2 27]
abbrev ao5:List ay:=[bR 28 6,bR 29 28,jC 30 0 29,abD 31 163 30 9 29,F6 32 31 29,lA 33 29 32,db 5 33]
def ao3:=({y:=_}:bw Tryz.f166 []).1
def Ix:bt 166 Tryz.f166 ao3 34 [bJ 5]:=.of
def Ym:=({y:=_}:bw Tryz.f167 []).1
def E8:bt 167 Tryz.f167 Ym 9 [bJ 4]:=.of
def ao6:=({y:=_}:bw Tryz.f168 []).1
def Iy:bt 168 Tryz.f168 ao6 21 [bJ 2]:=.of
def ams:aj 168 1=1:=by kernel_rfl
def OV:=({y:=_}:bw Tryz.f223 []).1
def IE:=({y:=_}:cx OV [1,0,1,0,0]).1
def apj:bt 223 Tryz.f223 OV 19 [bJ 4]:=.of
def amD:aj 223 7=0:=by kernel_rfl
def apH:=({y:=_}:bw Tryz.f228 []).1
def II:bt 228 Tryz.f228 apH 20 [bJ 4]:=.of
def apO:=({y:=_}:bw Tryz.f232 []).1
def IK:bt 232 Tryz.f232 apO 20 [bJ 4]:=.of
def Pa:=({y:=_}:bw Tryz.f261 []).1
def IL:=({y:=_}:cx Pa [1,0,1,0,0]).1
def Fj:bt 261 Tryz.f261 Pa 19 [bJ 4]:=.of
def amL:aj 261 7=0:=by kernel_rfl
def aqm:=({y:=_}:bw Tryz.f325 []).1
def IZ:bt 325 Tryz.f325 aqm 6 [bJ 2]:=.of
def aqo:=({y:=_}:bw Tryz.f328 []).1
def I4:bt 328 Tryz.f328 aqo 6 [bJ 2]:=.of
def aqF:=({y:=_}:bw Tryz.f379 []).1
def I9:bt 379 Tryz.f379 aqF 17 [bJ 4]:=.of
def Xt:aj 379 2=1/\aj 379 3=1/\aj 379 15=0:=by and_intros<;>kernel_rfl
def ZC:=({y:=_}:bw Tryz.f462 []).1
def aqR:=({y:=_}:cx ZC [1,0,1,0,0]).1
def Jf:bt 462 Tryz.f462 ZC 21 [bJ 2]:=.of
def Xu:aj 462 4=1/\aj 462 7=0:=by and_intros<;>kernel_rfl
def Mg:gL ah 24 [(0,1)]:=gL.of
def Em:gL ah 49 [(0,1),(1,1)]:=gL.of
def Mo:gL ah 92 [(0,1),(1,1)]:=gL.of
def UT:uA ah 207 1:=uA.of
def UU:uA ah 319 1:=uA.of
theorem jn:dU ah 3:=jK
def Kh:dU ah 5:=jK
def gK:dU ah 9:=jK
def acK:dU ah 21:=jK
def xr:dU ah 22:=jK
def Gm:fw ah 24 1:=ng
def mP:dU ah 25:=jK
def Dt:dU ah 44:=jK
def Du:fw ah 49 2:=ng
def rh:dU ah 50:=jK
def zi:fw ah 52 6:=ng
def acM:dU ah 80:=jK
def Ki:fw ah 92 2:=ng
def acJ:fw ah 207 2:=ng
def ad3:dh ah 3=some 1:=by kernel_rfl
def ayk:dh ah 5=some 1:=by kernel_rfl
def ad9:dh ah 9=some 1:=by kernel_rfl
def ayh:dh ah 21=some 1:=by kernel_rfl
def adZ:dh ah 22=some 1:=by kernel_rfl
def ad0:dh ah 24=some 1:=by kernel_rfl
def ad1:dh ah 25=some 1:=by kernel_rfl
def ad6:dh ah 44=some 1:=by kernel_rfl
def ad7:dh ah 49=some 2:=by kernel_rfl
def ayl:dh ah 50=some 1:=by kernel_rfl
def ad8:dh ah 52=some 6:=by kernel_rfl
def aym:dh ah 80=some 1:=by kernel_rfl
def aea:dh ah 92=some 2:=by kernel_rfl
def adX:dh ah 207=some 2:=by kernel_rfl
def ad4:dh ah 319=some 6:=by kernel_rfl
def ad5:dh ah 320=some 256:=by kernel_rfl
def KV:ei ah 3=some (.int .i64 (0)):=by kernel_rfl
def D1:ei ah 4=some (.bool false):=by kernel_rfl
def aeU:ei ah 9=some (.str []):=by kernel_rfl
def aeR:ei ah 24=some (.agg [.Ge]):=by kernel_rfl
def aeT:ei ah 44=some .nilm:=by kernel_rfl
def KW:ei ah 49=some (.agg [(.int .i64 (0)),(.int .i64 (0))]):=by kernel_rfl
def BF:ei ah 52=some (.agg [(.str []),(.int .i64 (0)),(.int .i64 (0)),(.int .i64 (0)),.Ge,.Ge]):=by kernel_rfl
def aeV:ei ah 92=some (.agg [(.str []),(.str [])]):=by kernel_rfl
def aeQ:ei ah 207=some (.agg [(.int .i64 (0)),(.int .i64 (0))]):=by kernel_rfl
def aeS:ei ah 319=some (.agg [(.str []),(.str []),(.str []),(.str []),(.str []),(.str [])]):=by kernel_rfl
def wB:cd ah 24 0 0:=ew
def yx:cd ah 49 0 0:=ew
def Ck:cd ah 49 1 1:=ew
def qH:cd ah 52 0 0:=ew
def oS:cd ah 52 1 1:=ew
def Cl:cd ah 52 2 2:=ew
def mz:cd ah 52 3 4:=ew
def qI:cd ah 52 4 5:=ew
def uT:cd ah 92 0 0:=ew
def AA:cd ah 92 1 1:=ew
def eO:fW ah 22 6 88 true (.agg [(.str []),(.int .i64 (0)),(.int .i64 (0)),(.int .i64 (0)),.Ge,.Ge]):=oD
def bT:fW ah 25 1 16 false (.str []):=oD
theorem lf:fW ah 26 1 8 false (.int .i64 (0)):=oD
def sJ:fW ah 50 2 32 true (.agg [(.str []),(.str [])]):=oD
def adw:fW ah 80 2 32 true (.agg [(.str []),(.str [])]):=oD
def XA(lc:Ag.Loc)(l g o:Nat)(i:aa):gS ah lc 207 (.Gt l g o) i=(dv i).bind fun i=>bif Nat.blt i 2 then bif aK (lc.gen l) g then some (.Gt l g (o+i*1)) else none else none:=by kernel_rfl
def mR:fW ah 218 2 16 true (.agg [(.int .i64 (0)),(.int .i64 (0))]):=oD
def XC(lc:Ag.Loc)(l g o:Nat)(i:aa):gS ah lc 320 (.Gt l g o) i=(dv i).bind fun i=>bif Nat.blt i 256 then bif aK (lc.gen l) g then some (.Gt l g (o+i*1)) else none else none:=by kernel_rfl
def DE:fW ah 535 2 16 true (.agg [(.int .i64 (0)),(.int .i64 (0))]):=oD
def XV(s:List UInt8)(i:aa):AO ah 9 (.str s) i=(dv i).bind fun i=>match s.drop i with|b::_=>some (.int .u8 b.toNat)| []=>none:=by kernel_rfl
def vf(mk:aH)(b:List UInt8)(s:St):iM ah mk 9 (.str b) s=some (.int .i64 b.length):=by kernel_rfl
def wX(k:List UInt8):lw ah 44 (.str k)=some (9,4):=by kernel_rfl
def HJ(a b:List UInt8):kg ah 8 9 (.str a) (.str b)=some (a==b):=by kernel_rfl
attribute[go_sem]Mg Em Mo UT UU jn Kh gK xr Gm mP Dt Du rh zi Ki acJ ad3 ad9 adZ ad0 ad1 ad6 ad7 ad8 aea adX ad4 ad5 KV D1 aeU aeR aeT KW BF aeV aeQ aeS wB yx Ck qH oS Cl mz qI uT AA eO bT lf sJ XA mR XC DE XV vf eO bT lf sJ mR DE eO bT lf sJ mR DE wX HJ am0 anv anw amD amL Zi FA ZN X0 Ym OV Pa
abbrev Sp:=List aa->Option aa
abbrev gQ:=FuncId->Option Sp
abbrev df:=List (Nat×Sp)
def gg(f:Nat):df->Option Sp
 | []=>none
 |(k,v)::l=>bif aK k f then some v else gg f l
noncomputable def QT(t:df):aF:=QS fun f=>gg f t
def dl(t:df):Prop:= ∀p∈t,cL ah p.1 p.2
def Su{f:Nat}{sp:Sp}: ∀ {t:df},gg f t=some sp->(f,sp)∈t
 | [],h=>by cases h
 |(k,v)::l,h=>by
  simp only[gg] at h;cases hk:aK k f with
  |true=>
   rw[hk] at h;injection h with h;subst h
   have:=jI hk;subst this;exact List.mem_cons_self
  |false=>
   rw[hk] at h;exact List.mem_cons_of_mem _ (Su h)
theorem aaO:ah.funcs.toList.all (fun fn=> !(fn.name== "runtime.NumGoroutine"))=true:=by kernel_rfl
def aaK:ah.follows .mixedOrders=true:=by kernel_rfl
variable{t:df}
def mE(h:dl t):AL (QT t) where
 mixed:=aaK
 spec f sp hsp args v hv G hp w xs wr hx:=h _ (Su hsp) args v hv G hp w xs wr hx
 specH f sp h:=by cases h
 names f fn a:=by
  have a:ah.funcs[f]? =some fn:=a
  have:=List.all_eq_true.1 aaO fn (by
   rw[<-Array.getElem?_toList] at a;exact List.mem_of_getElem? a)
  simpa using this
def dl.nil:dl []:=fun _ h=>by cases h
def dl.cons{f:Nat}{sp:Sp}(h:cL ah f sp)(b:dl t):dl ((f,sp)::t):=by
 intro p a;rcases List.mem_cons.1 a with rfl|a
 exact h;exact b p a
def EV(c:Nat):List UInt8->Nat->Int
 | [],_=> -1
 |b::l,i=>bif aK b.toNat c then(i:Int) else EV c l (i+1)
def R6:Sp
 | [.str s,.int .u8 (.ofNat c)]=>bif Nat.blt c 256 then some (.int .i64 (EV c s 0)) else none
 |_=>none
def XF(c:Nat)(a:c<256): ∀(l:List UInt8) (i:Nat),EV c l i=match(hZ l.length).find? (fun j=>l[j]! ==c.toUInt8) with|some j=>((i+j:Nat):Int)|none=> -1
 | [],i=>rfl
 |b::l,i=>by
  rw[EV,List.length_cons,List.range_succ_eq_map,List.find?_cons];have f:((b::l)[0]! ==c.toUInt8)=aK b.toNat c:=by
   show(b==c.toUInt8)=_;cases h:aK b.toNat c with
   |true=>
    have:=jI h;subst this;simp
   |false=>
    have:=Nat.ne_of_beq_eq_false h;apply bN.2;intro e;apply this;rw[e];simp[Nat.mod_eq_of_lt a]
  rw[f];cases h:aK b.toNat c with
  |true=>simp
  |false=>
   simp only[cF];rw[XF c a l (i+1),List.find?_map];have d:((fun j=>(b::l)[j]! ==c.toUInt8) ∘ Nat.succ)=fun j=>l[j]! ==c.toUInt8:=by
    funext j;simp[Function.comp]
   rw[d];cases (hZ l.length).find? (fun j=>l[j]! ==c.toUInt8) with
   |none=>rfl
   |some j=>simp only[Option.map_some];show((i+1+j:Nat):Int)=((i+(j+1):Nat):Int);congr 1;omega
def axO:cL ah 508 R6:=by
 intro l v g G h w q m n;unfold R6 at g;split at g;rename_i s c;obtain⟨k,g⟩:=bc g;injection g with g;subst g
 have k:c<256:=Nat.le_of_ble_eq_true k;cases n with
 |cons a b=>
  cases b with
  |cons b d=>
   cases d;cases a;cases b;refine .inl ⟨.int .i64 (firstIdx ⟨⟨s⟩⟩ c.toUInt8),w,?_,G,m,.refl,?_⟩
   have:=run_callFunc_extern (P:=ah) (f:=508) (fn:=Tryz.f508) (e:=Extern.BytealgIndexByte.indexByte) (by kernel_rfl) (by kernel_rfl) (by kernel_rfl) (by kernel_rfl) (by kernel_rfl) #[.string ⟨⟨s⟩⟩,.int .u8 (.ofNat c)] w;rw[show(⟨[Value.string ⟨⟨s⟩⟩,.int .u8 (.ofNat c)]⟩:Array Value)= #[.string ⟨⟨s⟩⟩,.int .u8 (.ofNat c)] from rfl,this,run_indexByte_string];rfl;have:firstIdx ⟨⟨s⟩⟩ c.toUInt8=EV c s 0:=by
    rw[XF c k];unfold firstIdx;have p:(⟨⟨s⟩⟩:ByteArray).size=s.length:=rfl;rw[p];have o:(fun i=>(⟨⟨s⟩⟩:ByteArray)[i]! ==c.toUInt8)=fun(j:Nat)=>s[j]! ==c.toUInt8:=by
     funext i;congr 1;by_cases hi:i<s.length;rw[getElem!_pos (⟨⟨s⟩⟩:ByteArray) i hi,getElem!_pos s i hi];rfl;rw[getElem!_neg (⟨⟨s⟩⟩:ByteArray) i hi,getElem!_neg s i hi]
    rw[o];cases (hZ s.length).find? (fun(j:Nat)=>s[j]! ==c.toUInt8)<;>simp
   rw[this];exact .int _ _
 cases g
