/- The program as the evaluator takes it; codes of its functions; tables of contracts. -/
import Derived.Test.YtbfmdojdemckbaaGreatAg8
import Derived.Test.YtbfmdojdemckbaaGreatProg
import Derived.KernelRfl
import Derived.Laws.Externs
namespace Go.Proofs.YtbfmdojdemckbaaGreat
open BinOp renaming add→dX,eql→eL,geq→pA,gtr→nH,lss→dY,neq→jq,sub→nI
open Builtin renaming append→mO,len→cX
open Callee renaming builtin→cE,value→bz
open IntKind renaming i64→bn
open _root_.Nat renaming beq→aY,blt→bP,eq_of_beq_eq_true→ib
open Op renaming alloc→ey,assign→aG,binOp→bg,box→ef,buildSlice→ka,build→jJ,call→aV,extract→eh,fieldAddr→bC,indexAddr→df,load→aH,lookup→mT,mapUpdate→ur,move→ay,nilCheck→dE,pick→cO,store→dw,unOp→fy
open Operand renaming const→aD,func→bG,tmp→aa
open ResultVar renaming tmp→dA
open Value renaming bool→bF,int→bm,pointer→lF,slice→iy,string→iQ
open Go.Ag
def H0 (n:Nat):List (Nat×Nat)→Nat
 | []=>0
 |(k,v)::l=>bif aY k n then v else H0 n l
def XZ:List (Nat×List (Nat×Nat)):=[
(3,[(3,1),(4,1),(5,1),(8,1),(10,1)]),
(4,[(2,1),(3,1),(6,1),(8,1),(10,1)]),
(5,[(4,1),(5,1),(6,1),(10,1),(12,1),(14,1),(16,1),(18,1),(20,1),(21,1)]),
(6,[(3,1),(4,1),(5,1),(8,1),(14,1),(16,1)]),
(7,[(1,1),(2,1),(4,1),(6,1),(8,1),(9,1),(10,1),(11,1),(12,1),(16,1)]),
(8,[(3,1),(4,1),(5,1)]),
(9,[(3,1),(4,1),(5,1),(6,1),(15,1)]),
(10,[(2,1),(3,1)]),
(12,[(1,1)]),
(13,[(1,1),(5,1)]),
(14,[(2,1),(4,1)]),
(15,[(3,1),(4,1),(7,1),(9,1)]),
(16,[(2,1),(3,1)]),
(18,[(2,1)]),
(19,[(2,1)]),
(20,[(8,1),(9,1)]),
(21,[(3,1),(4,1),(5,1),(6,1),(10,1)]),
(22,[(2,1),(6,1)]),
(23,[(1,1)]),
(30,[(2,1),(3,1)]),
(33,[(2,1),(3,1)]),
(34,[(1,1)]),
(35,[(2,1),(3,1)]),
(40,[(2,1)]),
(42,[(6,1),(17,1)]),
(52,[(3,1)]),
(54,[(1,1)]),
(55,[(2,1)]),
(57,[(3,1)]),
(58,[(3,1)]),
(59,[(5,1)]),
(63,[(1,1)]),
(64,[(1,1),(3,1)]),
(67,[(0,1)]),
(68,[(2,1),(3,1),(7,1)]),
(69,[(6,1),(10,1),(16,1)]),
(70,[(2,1),(4,1),(9,1),(10,1)]),
(71,[(2,1),(10,1),(14,1)]),
(72,[(1,1),(2,1)]),
(73,[(5,1),(11,1),(40,2),(120,2)]),
(74,[(10,1),(13,1),(19,1),(22,1)]),
(75,[(7,1),(8,1),(9,1),(10,1)]),
(76,[(8,1),(13,1),(18,1)]),
(78,[(11,2)]),
(81,[(11,2)]),
(84,[(1,1)]),
(88,[(1,1)]),
(89,[(0,1),(1,1)]),
(92,[(6,1)]),
(93,[(1,1)]),
(94,[(1,1)]),
(96,[(1,1),(5,1),(9,1)]),
(97,[(7,1)]),
(98,[(3,1)]),
(99,[(1,1),(5,1),(7,1)]),
(100,[(3,1),(4,1),(6,1),(7,1),(9,1),(10,1)]),
(101,[(2,1)]),
(102,[(2,1),(7,1),(10,1)]),
(103,[(1,1),(6,1)]),
(104,[(1,1),(3,1),(10,1),(13,1),(19,1),(21,1),(176,2)]),
(105,[(1,1)]),
(106,[(1,1),(8,1)]),
(107,[(2,1),(4,1)]),
(110,[(1,1)]),
(112,[(1,1)]),
(118,[(4,1),(5,1)]),
(119,[(2,1),(3,1)]),
(124,[(5,1)]),
(147,[(3,1)]),
(148,[(3,1)]),
(149,[(1,1),(3,1)]),
(150,[(3,1),(4,1),(11,1)]),
(151,[(2,1),(3,1),(4,1),(8,1)]),
(152,[(2,1),(4,1)]),
(153,[(2,1),(7,1),(10,1)]),
(154,[(1,1),(5,1)]),
(155,[(1,1)]),
(156,[(1,1),(2,1),(4,1),(6,1)]),
(157,[(1,1),(5,1),(10,1),(12,1),(93,2)]),
(159,[(2,1),(4,1)]),
(160,[(11,1),(15,1)]),
(161,[(2,1),(7,1)]),
(164,[(2,1),(3,1)]),
(165,[(1,1),(5,1),(7,1),(11,1)]),
(166,[(25,2)]),
(169,[(1,1),(6,1),(8,1)]),
(170,[(3,1),(7,1)]),
(171,[(3,1)]),
(172,[(3,1)]),
(173,[(2,1)]),
(179,[(1,1)]),
(184,[(4,1)]),
(202,[(2,1),(3,1)]),
(203,[(4,1)]),
(207,[(4,1),(5,1),(6,1),(10,1)]),
(208,[(4,1),(5,1),(6,1),(7,1)]),
(210,[(2,1)]),
(211,[(7,2)]),
(217,[(3,1)]),
(219,[(2,1),(3,1)]),
(221,[(6,1),(12,1),(92,2),(97,2)]),
(222,[(2,1),(3,1)]),
(230,[(4,1)]),
(232,[(7,1)]),
(233,[(2,1)]),
(234,[(1,1)]),
(245,[(2,1)]),
(250,[(3,1)]),
(255,[(1,1)]),
(257,[(2,1)]),
(261,[(1,1)]),
(262,[(1,1)]),
(263,[(3,1)]),
(268,[(4,1)]),
(270,[(2,1),(3,1)]),
(271,[(7,1)]),
(272,[(2,1)]),
(273,[(2,1),(3,1)]),
(275,[(2,1),(3,1)]),
(276,[(4,1)]),
(277,[(1,1),(2,1)]),
(278,[(3,1),(4,1),(5,1)]),
(279,[(2,1),(3,1),(5,1),(6,1)]),
(291,[(4,1)]),
(292,[(7,1)]),
(293,[(1,1),(2,1)]),
(306,[(3,1)]),
(320,[(2,1),(3,1),(4,1)]),
(321,[(2,1),(3,1)]),
(322,[(2,1),(3,1)]),
(327,[(1,1)]),
(328,[(1,1)]),
(337,[(3,1),(4,1),(5,1)]),
(342,[(2,1)])]
def H1 (f t:Nat):List (Nat×List (Nat×Nat))→Nat
 | []=>0
 |(k,v)::l=>bif aY k f then H0 t v else H1 f t l
def bB (f:FuncId) (t:Tmp):Nat:=H1 f t XZ
noncomputable def QS (sp:FuncId→Option (List ai→Option ai)):ck:= {P:=Tryz.prog,hint:=bB,spec:=sp,ch:=fun _=>0,kmax:=fun _=>2 }
theorem aP (sp:FuncId→Option (List ai→Option ai)):(QS sp).P=Tryz.prog:=rfl
theorem bX (sp:FuncId→Option (List ai→Option ai)):(QS sp).hint=bB:=rfl
theorem dt (sp:FuncId→Option (List ai→Option ai)):(QS sp).spec=sp:=rfl
def aaK:List Nat:=[0,1,0,7,15,0,32,0,224,480,1023,2047]
def aaM:List au:=
 [⟨some 2,ef 24 (aa 0),.aw⟩,
 ⟨some 3,ef 24 (aa 1),.aw⟩,
 ⟨some 4,aG (aD (bF false)),.aw⟩]
def aaN:List au:=
 [⟨some 6,bC 24 (aa 2) 0,.aw⟩,
 ⟨some 7,aH 22 (aa 6),.aw⟩,
 ⟨some 8,aV ⟨cE cX, #[aa 7], #[22]⟩,.aw⟩,
 ⟨some 9,bC 24 (aa 3) 0,.aw⟩,
 ⟨some 10,aH 22 (aa 9),.aw⟩,
 ⟨some 11,aV ⟨cE cX, #[aa 10], #[22]⟩,.aw⟩,
 ⟨some 12,bg jq 3 (aa 8) (aa 11) 3,.aw⟩]
def aaO:List au:=
 [⟨some 4,aG (aD (bF false)),.aw⟩]
def aaP:List au:=
 [⟨some 5,aG (aD (bm bn 0)),.aw⟩]
def aaQ:List au:=
 [⟨some 13,ay (aa 5),.aw⟩,
 ⟨some 14,bC 24 (aa 2) 0,.aw⟩,
 ⟨some 15,aH 22 (aa 14),.aw⟩,
 ⟨some 16,aV ⟨cE cX, #[aa 15], #[22]⟩,.aw⟩,
 ⟨some 17,bg dY 3 (aa 13) (aa 16) 3,.aw⟩]
def aaS:List au:=
 [⟨some 20,bC 24 (aa 2) 0,.aw⟩,
 ⟨some 21,aH 22 (aa 20),.aw⟩,
 ⟨some 22,ay (aa 5),.aw⟩,
 ⟨some 23,df 22 (aa 21) (aa 22),.aw⟩,
 ⟨some 24,aH 40 (aa 23),.aw⟩,
 ⟨some 25,bC 24 (aa 3) 0,.aw⟩,
 ⟨some 26,aH 22 (aa 25),.aw⟩,
 ⟨some 27,ay (aa 5),.aw⟩,
 ⟨some 28,df 22 (aa 26) (aa 27),.aw⟩,
 ⟨some 29,aH 40 (aa 28),.aw⟩,
 ⟨some 30,aV ⟨bz (bG 33), #[aa 24,aa 29], #[40,40]⟩,.aw⟩,
 ⟨some 31,fy UnOp.not 4 (aa 30),.aw⟩]
def aaT:List au:=
 [⟨some 4,aG (aD (bF false)),.aw⟩]
def aaR:List au:=
 [⟨some 18,ay (aa 5),.aw⟩,
 ⟨some 19,bg dX 3 (aa 18) (aD (bm bn 1)) 3,.aw⟩,
 ⟨some 5,aG (aa 19),.aw⟩]
def aaL:SC:=
 (.seq (.seq (.region aaQ)
 (.cond (aa 17) .skip (.exit 0)))
 (.seq (.block 1 (.seq (.draw aaS aaK)
 (.cond (aa 31) (.seq (.region aaT)
 .ret) .skip)))
 (.region aaR)))
def aaU:List au:=
 [⟨some 4,aG (aD (bF true)),.aw⟩]
def yW:SC:=
 (.seq (.region aaM)
 (.seq (.seq (.region aaN)
 (.cond (aa 12) (.seq (.region aaO)
 .ret) .skip))
 (.seq (.seq (.region aaP)
 (.block 0 (.loop aaL)))
 (.seq (.region aaU)
 .ret))))
def ac4:List Nat:=[0,1,0,7,15,31,63,0,128,0,896,1920,3968,8064,16383,32767]
def Lg:List au:=
 [⟨some 2,ef 24 (aa 0),.aw⟩,
 ⟨some 4,aG (aD (bF false)),.aw⟩]
def Lh:List au:=
 [⟨some 9,bC 24 (aa 2) 0,.aw⟩,
 ⟨some 10,aH 22 (aa 9),.aw⟩,
 ⟨some 11,aV ⟨cE cX, #[aa 10], #[22]⟩,.aw⟩,
 ⟨some 12,ay (aa 1),.aw⟩,
 ⟨some 13,bg nH 3 (aa 11) (aa 12) 3,.aw⟩]
def Lr:List au:=
 [⟨some 4,aG (aD (bF false)),.aw⟩]
def Ls:List au:=
 [⟨some 5,aG (aD (bm bn 0)),.aw⟩]
def Dj:List au:=
 [⟨some 14,ay (aa 5),.aw⟩,
 ⟨some 15,bC 24 (aa 2) 0,.aw⟩,
 ⟨some 16,aH 22 (aa 15),.aw⟩,
 ⟨some 17,aV ⟨cE cX, #[aa 16], #[22]⟩,.aw⟩,
 ⟨some 18,bg dY 3 (aa 14) (aa 17) 3,.aw⟩]
def Lv:List au:=
 [⟨some 21,bC 24 (aa 2) 0,.aw⟩,
 ⟨some 22,aH 22 (aa 21),.aw⟩,
 ⟨some 23,ay (aa 5),.aw⟩,
 ⟨some 24,df 22 (aa 22) (aa 23),.aw⟩,
 ⟨some 25,aH 40 (aa 24),.aw⟩,
 ⟨some 6,ey 40,.aw⟩,
 ⟨none,dw 40 (aa 6) (aa 25),.aw⟩]
def Lw:List au:=
 [⟨some 26,bC 40 (aa 6) 3,.aw⟩,
 ⟨some 27,aH 37 (aa 26),.aw⟩,
 ⟨some 28,aV ⟨cE cX, #[aa 27], #[37]⟩,.aw⟩,
 ⟨some 29,bg nH 3 (aa 28) (aD (bm bn 12)) 3,.aw⟩,
 ⟨some 30,ay (aa 29),.aw⟩,
 ⟨some 31,bC 40 (aa 6) 4,(.when 30 false)⟩,
 ⟨some 32,aH 38 (aa 31),(.when 30 false)⟩,
 ⟨some 33,aV ⟨cE cX, #[aa 32], #[38]⟩,(.when 30 false)⟩,
 ⟨some 34,bg nH 3 (aa 33) (aD (bm bn 20)) 3,(.when 30 false)⟩,
 ⟨some 35,cO (aa 30) (aD (bF true)) (aa 34),.aw⟩,
 ⟨some 36,ay (aa 35),.aw⟩,
 ⟨some 37,bC 40 (aa 6) 0,(.when 36 false)⟩,
 ⟨some 38,aH 9 (aa 37),(.when 36 false)⟩,
 ⟨some 39,aV ⟨cE cX, #[aa 38], #[9]⟩,(.when 36 false)⟩,
 ⟨some 40,bg nH 3 (aa 39) (aD (bm bn 60)) 3,(.when 36 false)⟩,
 ⟨some 41,cO (aa 36) (aD (bF true)) (aa 40),.aw⟩]
def Dk:List au:=
 [⟨some 4,aG (aD (bF false)),.aw⟩]
def Lx:List au:=
 [⟨some 7,aG (aD (bm bn 0)),.aw⟩]
def Dh:List au:=
 [⟨some 42,ay (aa 7),.aw⟩,
 ⟨some 43,bC 40 (aa 6) 3,.aw⟩,
 ⟨some 44,aH 37 (aa 43),.aw⟩,
 ⟨some 45,aV ⟨cE cX, #[aa 44], #[37]⟩,.aw⟩,
 ⟨some 46,bg dY 3 (aa 42) (aa 45) 3,.aw⟩]
def Lj:List au:=
 [⟨some 49,bC 40 (aa 6) 3,.aw⟩,
 ⟨some 50,aH 37 (aa 49),.aw⟩,
 ⟨some 51,ay (aa 7),.aw⟩,
 ⟨some 52,df 37 (aa 50) (aa 51),.aw⟩,
 ⟨some 53,aH 9 (aa 52),.aw⟩,
 ⟨some 54,aV ⟨cE cX, #[aa 53], #[9]⟩,.aw⟩,
 ⟨some 55,bg nH 3 (aa 54) (aD (bm bn 60)) 3,.aw⟩]
def Lk:List au:=
 [⟨some 4,aG (aD (bF false)),.aw⟩]
def Li:List au:=
 [⟨some 47,ay (aa 7),.aw⟩,
 ⟨some 48,bg dX 3 (aa 47) (aD (bm bn 1)) 3,.aw⟩,
 ⟨some 7,aG (aa 48),.aw⟩]
def zb:SC:=
 (.seq (.seq (.region Dh)
 (.cond (aa 46) .skip (.exit 2)))
 (.seq (.block 3 (.seq (.region Lj)
 (.cond (aa 55) (.seq (.region Lk)
 .ret) .skip)))
 (.region Li)))
def Ll:List au:=
 [⟨some 8,aG (aD (bm bn 0)),.aw⟩]
def Di:List au:=
 [⟨some 56,ay (aa 8),.aw⟩,
 ⟨some 57,bC 40 (aa 6) 4,.aw⟩,
 ⟨some 58,aH 38 (aa 57),.aw⟩,
 ⟨some 59,aV ⟨cE cX, #[aa 58], #[38]⟩,.aw⟩,
 ⟨some 60,bg dY 3 (aa 56) (aa 59) 3,.aw⟩]
def Ln:List au:=
 [⟨some 63,bC 40 (aa 6) 4,.aw⟩,
 ⟨some 64,aH 38 (aa 63),.aw⟩,
 ⟨some 65,ay (aa 8),.aw⟩,
 ⟨some 66,df 38 (aa 64) (aa 65),.aw⟩,
 ⟨some 67,bC 51 (aa 66) 0,.aw⟩,
 ⟨some 68,aH 9 (aa 67),.aw⟩,
 ⟨some 69,aV ⟨cE cX, #[aa 68], #[9]⟩,.aw⟩,
 ⟨some 70,bC 40 (aa 6) 4,.aw⟩,
 ⟨some 71,aH 38 (aa 70),.aw⟩,
 ⟨some 72,ay (aa 8),.aw⟩,
 ⟨some 73,df 38 (aa 71) (aa 72),.aw⟩,
 ⟨some 74,bC 51 (aa 73) 1,.aw⟩,
 ⟨some 75,aH 9 (aa 74),.aw⟩,
 ⟨some 76,aV ⟨cE cX, #[aa 75], #[9]⟩,.aw⟩,
 ⟨some 77,bg dX 3 (aa 69) (aa 76) 3,.aw⟩,
 ⟨some 78,bg nH 3 (aa 77) (aD (bm bn 300)) 3,.aw⟩]
def Lp:List au:=
 [⟨some 4,aG (aD (bF false)),.aw⟩]
def Lm:List au:=
 [⟨some 61,ay (aa 8),.aw⟩,
 ⟨some 62,bg dX 3 (aa 61) (aD (bm bn 1)) 3,.aw⟩,
 ⟨some 8,aG (aa 62),.aw⟩]
def zc:SC:=
 (.seq (.seq (.region Di)
 (.cond (aa 60) .skip (.exit 4)))
 (.seq (.block 5 (.seq (.draw Ln ac4)
 (.cond (aa 78) (.seq (.region Lp)
 .ret) .skip)))
 (.region Lm)))
def Lu:List au:=
 [⟨some 19,ay (aa 5),.aw⟩,
 ⟨some 20,bg dX 3 (aa 19) (aD (bm bn 1)) 3,.aw⟩,
 ⟨some 5,aG (aa 20),.aw⟩]
def zd:SC:=
 (.seq (.seq (.region Dj)
 (.cond (aa 18) .skip (.exit 0)))
 (.seq (.block 1 (.seq (.region Lv)
 (.seq (.seq (.region Lw)
 (.cond (aa 41) (.seq (.region Dk)
 .ret) .skip))
 (.seq (.seq (.region Lx)
 (.block 2 (.loop zb)))
 (.seq (.region Ll)
 (.block 4 (.loop zc)))))))
 (.region Lu)))
def Lq:List au:=
 [⟨some 4,aG (aD (bF true)),.aw⟩]
def Lf:SC:=
 (.seq (.region Lg)
 (.seq (.seq (.region Lh)
 (.cond (aa 13) (.seq (.region Lr)
 .ret) .skip))
 (.seq (.seq (.region Ls)
 (.block 0 (.loop zd)))
 (.seq (.region Lq)
 .ret))))
theorem ac6:Tryz.prog.funcs[22]? =some Tryz.f22:=by kernel_rfl
theorem ac5:(Tryz.f22.body).map cy=some Lf:=by kernel_rfl
theorem ac8:Tryz.f22.ntmps=79:=by kernel_rfl
theorem ac7:Tryz.f22.results.toList=[dA 4]:=by kernel_rfl
theorem YG:bB 22 2=1:=by kernel_rfl
theorem YH:bB 22 6=1:=by kernel_rfl
def JT:List au:=
 [⟨some 1,ef 24 (aa 0),.aw⟩,
 ⟨some 2,aG (aD (bF false)),.aw⟩]
def JU:List au:=
 [⟨some 3,aG (aD (iQ {data:= #[] })),.aw⟩]
def JV:List au:=
 [⟨some 6,bC 24 (aa 1) 0,.aw⟩,
 ⟨some 7,aH 22 (aa 6),.aw⟩,
 ⟨some 8,aV ⟨cE cX, #[aa 7], #[22]⟩,.aw⟩,
 ⟨some 9,ay (aD (bm bn 0)),.aw⟩]
def Da:List au:=
 [⟨some 10,bg dY 3 (aa 9) (aa 8) 3,.aw⟩]
def JW:List au:=
 [⟨some 11,df 22 (aa 7) (aa 9),.aw⟩,
 ⟨some 12,aH 40 (aa 11),.aw⟩,
 ⟨some 5,ey 40,.aw⟩,
 ⟨none,dw 40 (aa 5) (aa 12),.aw⟩]
def JX:List au:=
 [⟨some 13,aH 40 (aa 5),.aw⟩,
 ⟨some 14,aV ⟨bz (bG 36), #[aa 13], #[40]⟩,.aw⟩,
 ⟨some 15,fy UnOp.not 4 (aa 14),.aw⟩,
 ⟨some 16,ay (aa 15),.aw⟩,
 ⟨some 17,bC 40 (aa 5) 0,(.when 16 false)⟩,
 ⟨some 18,aH 9 (aa 17),(.when 16 false)⟩,
 ⟨some 19,ay (aa 3),(.when 16 false)⟩,
 ⟨some 20,bg BinOp.leq 9 (aa 18) (aa 19) 9,(.when 16 false)⟩,
 ⟨some 21,cO (aa 16) (aD (bF true)) (aa 20),.aw⟩]
def Db:List au:=
 [⟨some 2,aG (aD (bF false)),.aw⟩]
def JY:List au:=
 [⟨some 22,bC 40 (aa 5) 0,.aw⟩,
 ⟨some 23,aH 9 (aa 22),.aw⟩,
 ⟨some 3,aG (aa 23),.aw⟩]
def JZ:List au:=
 [⟨some 24,bg dX 3 (aa 9) (aD (bm bn 1)) 3,.aw⟩,
 ⟨some 9,ay (aa 24),.aw⟩]
def y7:SC:=
 (.seq (.region Da)
 (.seq (.cond (aa 10) .skip (.exit 0))
 (.seq (.block 1 (.seq (.region JW)
 (.seq (.seq (.region JX)
 (.cond (aa 21) (.seq (.region Db)
 .ret) .skip))
 (.region JY))))
 (.region JZ))))
def J0:List au:=
 [⟨some 25,bC 24 (aa 1) 0,.aw⟩,
 ⟨some 26,aH 22 (aa 25),.aw⟩,
 ⟨some 27,aV ⟨cE cX, #[aa 26], #[22]⟩,.aw⟩,
 ⟨some 28,bg BinOp.leq 3 (aa 27) (aD (bm bn 1000000)) 3,.aw⟩,
 ⟨some 2,aG (aa 28),.aw⟩]
def JS:SC:=
 (.seq (.region JT)
 (.seq (.region JU)
 (.seq (.seq (.region JV)
 (.block 0 (.loop y7)))
 (.seq (.region J0)
 .ret))))
theorem ab2:Tryz.prog.funcs[13]? =some Tryz.f13:=by kernel_rfl
theorem ab1:(Tryz.f13.body).map cy=some JS:=by kernel_rfl
theorem ab4:Tryz.f13.ntmps=29:=by kernel_rfl
theorem ab3:Tryz.f13.results.toList=[dA 2]:=by kernel_rfl
theorem Yp:bB 13 1=1:=by kernel_rfl
theorem Yq:bB 13 5=1:=by kernel_rfl
def adV:List Nat:=[0,1,3,7,15,31,63,127,255,511,1023,2047,4095,8191,16383,32767,65535,131071,262143,524287,131071,1179647,3276799,8388607,16777215,33554431,67108863,134217727,268435455,536870911,1073741823]
def MG:List au:=
 [⟨some 1,ef 40 (aa 0),.aw⟩,
 ⟨some 2,aG (aD (bF false)),.aw⟩]
def MH:List au:=
 [⟨some 6,bC 40 (aa 1) 1,.aw⟩,
 ⟨some 7,aH 3 (aa 6),.aw⟩,
 ⟨some 8,aV ⟨bz (bG 57), #[aa 7], #[3]⟩,.aw⟩,
 ⟨some 9,bg eL 9 (aa 8) (aD (iQ {data:= #[] })) 9,.aw⟩,
 ⟨some 10,ay (aa 9),.aw⟩,
 ⟨some 11,bC 40 (aa 1) 0,(.when 10 false)⟩,
 ⟨some 12,aH 9 (aa 11),(.when 10 false)⟩,
 ⟨some 13,aV ⟨bz (bG 58), #[aa 12], #[9]⟩,(.when 10 false)⟩,
 ⟨some 14,fy UnOp.not 4 (aa 13),(.when 10 false)⟩,
 ⟨some 15,cO (aa 10) (aD (bF true)) (aa 14),.aw⟩,
 ⟨some 16,ay (aa 15),.aw⟩,
 ⟨some 17,bC 40 (aa 1) 4,(.when 16 false)⟩,
 ⟨some 18,aH 38 (aa 17),(.when 16 false)⟩,
 ⟨some 19,aV ⟨bz (bG 59), #[aa 18], #[38]⟩,(.when 16 false)⟩,
 ⟨some 20,fy UnOp.not 4 (aa 19),(.when 16 false)⟩,
 ⟨some 21,cO (aa 16) (aD (bF true)) (aa 20),.aw⟩,
 ⟨some 22,ay (aa 21),.aw⟩,
 ⟨some 23,bC 40 (aa 1) 3,(.when 22 false)⟩,
 ⟨some 24,aH 37 (aa 23),(.when 22 false)⟩,
 ⟨some 25,aV ⟨cE cX, #[aa 24], #[37]⟩,(.when 22 false)⟩,
 ⟨some 26,bC 40 (aa 1) 1,(.when 22 false)⟩,
 ⟨some 27,aH 3 (aa 26),(.when 22 false)⟩,
 ⟨some 28,aV ⟨bz (bG 60), #[aa 27], #[3]⟩,(.when 22 false)⟩,
 ⟨some 29,bg dY 3 (aa 25) (aa 28) 3,(.when 22 false)⟩,
 ⟨some 30,cO (aa 22) (aD (bF true)) (aa 29),.aw⟩,
 ⟨some 31,ay (aa 30),.aw⟩,
 ⟨some 32,bC 40 (aa 1) 3,(.when 31 false)⟩,
 ⟨some 33,aH 37 (aa 32),(.when 31 false)⟩,
 ⟨some 34,aV ⟨cE cX, #[aa 33], #[37]⟩,(.when 31 false)⟩,
 ⟨some 35,bg nH 3 (aa 34) (aD (bm bn 2000)) 3,(.when 31 false)⟩,
 ⟨some 36,cO (aa 31) (aD (bF true)) (aa 35),.aw⟩]
def Dz:List au:=
 [⟨some 2,aG (aD (bF false)),.aw⟩]
def MO:List au:=
 [⟨some 37,Op.makeMap 109 none,.aw⟩,
 ⟨some 3,ey 109,.aw⟩,
 ⟨none,dw 109 (aa 3) (aa 37),.aw⟩]
def MP:List au:=
 [⟨some 4,ey 9,.aw⟩,
 ⟨none,dw 9 (aa 4) (aD (iQ {data:= #[] })),.aw⟩]
def MQ:List au:=
 [⟨some 38,Op.makeFunc (Fn.func 61) #[] #[aa 1,aa 4,aa 3],.aw⟩,
 ⟨some 5,aG (aa 38),.aw⟩]
def MR:List au:=
 [⟨some 39,bC 40 (aa 1) 3,.aw⟩,
 ⟨some 40,aH 37 (aa 39),.aw⟩,
 ⟨some 41,ay (aa 5),.aw⟩,
 ⟨some 42,aV ⟨bz (bG 62), #[aa 40,aa 41], #[37,101]⟩,.aw⟩]
def MS:List au:=
 [⟨some 2,aG (aD (bF false)),.aw⟩]
def MT:List au:=
 [⟨some 43,bC 40 (aa 1) 1,.aw⟩,
 ⟨some 44,aH 3 (aa 43),.aw⟩]
def MU:List au:=
 [⟨some 46,bg eL 3 (aa 44) (aD (bm bn 1)) 3,.aw⟩,
 ⟨some 45,aG (aa 46),.aw⟩]
def MI:List au:=
 [⟨some 47,bC 40 (aa 1) 3,.aw⟩,
 ⟨some 48,aH 37 (aa 47),.aw⟩,
 ⟨some 49,aV ⟨cE cX, #[aa 48], #[37]⟩,.aw⟩,
 ⟨some 50,bg eL 3 (aa 49) (aD (bm bn 0)) 3,.aw⟩,
 ⟨some 51,ay (aa 50),.aw⟩,
 ⟨some 52,bC 40 (aa 1) 2,(.when 51 true)⟩,
 ⟨some 53,aH 36 (aa 52),(.when 51 true)⟩,
 ⟨some 54,aV ⟨bz (bG 63), #[aa 53], #[36]⟩,(.when 51 true)⟩,
 ⟨some 55,cO (aa 51) (aa 54) (aD (bF false)),.aw⟩,
 ⟨some 2,aG (aa 55),.aw⟩]
def MJ:List au:=
 [⟨some 57,bg eL 3 (aa 44) (aD (bm bn 5)) 3,.aw⟩,
 ⟨some 56,aG (aa 57),.aw⟩]
def MM:List au:=
 [⟨some 58,bC 40 (aa 1) 3,.aw⟩,
 ⟨some 59,aH 37 (aa 58),.aw⟩,
 ⟨some 60,aV ⟨cE cX, #[aa 59], #[37]⟩,.aw⟩,
 ⟨some 61,bg eL 3 (aa 60) (aD (bm bn 3)) 3,.aw⟩,
 ⟨some 62,ay (aa 61),.aw⟩,
 ⟨some 63,bC 40 (aa 1) 2,(.when 62 true)⟩,
 ⟨some 64,aH 36 (aa 63),(.when 62 true)⟩,
 ⟨some 65,jJ 36 #[],(.when 62 true)⟩,
 ⟨some 66,bg eL 36 (aa 64) (aa 65) 36,(.when 62 true)⟩,
 ⟨some 67,cO (aa 62) (aa 66) (aD (bF false)),.aw⟩,
 ⟨some 2,aG (aa 67),.aw⟩]
def MN:List au:=
 [⟨some 68,bC 40 (aa 1) 2,.aw⟩,
 ⟨some 69,aH 36 (aa 68),.aw⟩,
 ⟨some 70,jJ 36 #[],.aw⟩,
 ⟨some 71,bg eL 36 (aa 69) (aa 70) 36,.aw⟩,
 ⟨some 2,aG (aa 71),.aw⟩]
def MF:SC:=
 (.seq (.region MG)
 (.seq (.seq (.draw MH adV)
 (.cond (aa 36) (.seq (.region Dz)
 .ret) .skip))
 (.seq (.region MO)
 (.seq (.region MP)
 (.seq (.region MQ)
 (.seq (.seq (.region MR)
 (.cond (aa 42) (.seq (.region MS)
 .ret) .skip))
 (.seq (.seq (.region MT)
 (.block 0 (.seq (.region MU)
 (.cond (aa 45) (.seq (.region MI)
 .ret) (.seq (.region MJ)
 (.cond (aa 56) (.seq (.region MM)
 .ret) .skip))))))
 (.seq (.region MN)
 .ret))))))))
theorem adX:Tryz.prog.funcs[36]? =some Tryz.f36:=by kernel_rfl
theorem adW:(Tryz.f36.body).map cy=some MF:=by kernel_rfl
theorem adZ:Tryz.f36.ntmps=72:=by kernel_rfl
theorem adY:Tryz.f36.results.toList=[dA 2]:=by kernel_rfl
theorem YU:bB 36 1=0:=by kernel_rfl
theorem YV:bB 36 3=0:=by kernel_rfl
theorem YW:bB 36 4=0:=by kernel_rfl
def Oc:List au:=
 [⟨some 2,aG (aD (iQ {data:= #[] })),.aw⟩]
def Od:List au:=
 [⟨some 4,jJ 150 #[(1,aD (iQ {data:= #[110,111,100,101] })),(2,aD (iQ {data:= #[119,97,121] })),(3,aD (iQ {data:= #[97,114,101,97] })),(4,aD (iQ {data:= #[114,111,117,116,101] })),(5,aD (iQ {data:= #[116,117,114,110] }))],.aw⟩,
 ⟨some 3,ey 150,.aw⟩,
 ⟨none,dw 150 (aa 3) (aa 4),.aw⟩]
def Oe:List au:=
 [⟨some 5,ay (aa 0),.aw⟩,
 ⟨some 6,bg dY 3 (aa 5) (aD (bm bn 0)) 3,.aw⟩,
 ⟨some 7,ay (aa 6),.aw⟩,
 ⟨some 8,ay (aa 0),(.when 7 false)⟩,
 ⟨some 9,bg pA 3 (aa 8) (aD (bm bn 6)) 3,(.when 7 false)⟩,
 ⟨some 10,cO (aa 7) (aD (bF true)) (aa 9),.aw⟩]
def DH:List au:=
 [⟨some 2,aG (aD (iQ {data:= #[] })),.aw⟩]
def afi:List au:=
 [⟨some 11,ay (aa 0),.aw⟩,
 ⟨some 12,df 150 (aa 3) (aa 11),.aw⟩,
 ⟨some 13,aH 9 (aa 12),.aw⟩,
 ⟨some 2,aG (aa 13),.aw⟩]
def Ob:SC:=
 (.seq (.region Oc)
 (.seq (.region Od)
 (.seq (.seq (.region Oe)
 (.cond (aa 10) (.seq (.region DH)
 .ret) .skip))
 (.seq (.region afi)
 .ret))))
theorem afh:Tryz.prog.funcs[57]? =some Tryz.f57:=by kernel_rfl
theorem afg:(Tryz.f57.body).map cy=some Ob:=by kernel_rfl
theorem afk:Tryz.f57.ntmps=14:=by kernel_rfl
theorem afj:Tryz.f57.results.toList=[dA 2]:=by kernel_rfl
theorem Y8:bB 57 3=1:=by kernel_rfl
def Oh:List au:=
 [⟨some 2,aG (aD (bF false)),.aw⟩]
def Oi:List au:=
 [⟨some 6,aV ⟨bz (bG 89), #[], #[]⟩,.aw⟩,
 ⟨some 3,ey 151,.aw⟩,
 ⟨none,dw 151 (aa 3) (aa 6),.aw⟩]
def Oj:List au:=
 [⟨some 7,ay (aa 0),.aw⟩,
 ⟨some 8,aV ⟨cE cX, #[aa 7], #[9]⟩,.aw⟩,
 ⟨some 9,ay (aD (bm bn 0)),.aw⟩]
def DI:List au:=
 [⟨some 10,bg dY 3 (aa 9) (aa 8) 3,.aw⟩]
def Ol:List au:=
 [⟨some 11,ay (aa 9),.aw⟩,
 ⟨some 4,aG (aa 11),.aw⟩]
def Om:List au:=
 [⟨some 12,ay (aa 0),.aw⟩,
 ⟨some 13,ay (aa 4),.aw⟩,
 ⟨some 14,Op.index 9 (aa 12) (aa 13),.aw⟩,
 ⟨some 15,df 151 (aa 3) (aa 14),.aw⟩,
 ⟨some 16,aH 5 (aa 15),.aw⟩,
 ⟨some 5,aG (aa 16),.aw⟩]
def On:List au:=
 [⟨some 17,ay (aa 5),.aw⟩,
 ⟨some 18,bg jq 5 (aa 17) (aD (bm IntKind.u8 3)) 5,.aw⟩,
 ⟨some 19,ay (aa 18),.aw⟩,
 ⟨some 20,ay (aa 4),(.when 19 true)⟩,
 ⟨some 21,bg eL 3 (aa 20) (aD (bm bn 0)) 3,(.when 19 true)⟩,
 ⟨some 22,ay (aa 21),(.when 19 true)⟩,
 ⟨some 23,ay (aa 5),(.when 22 false)⟩,
 ⟨some 24,bg jq 5 (aa 23) (aD (bm IntKind.u8 4)) 5,(.when 22 false)⟩,
 ⟨some 25,ay (aa 24),(.when 22 false)⟩,
 ⟨some 26,ay (aa 5),(.when 25 true)⟩,
 ⟨some 27,bg jq 5 (aa 26) (aD (bm IntKind.u8 5)) 5,(.when 25 true)⟩,
 ⟨some 28,cO (aa 25) (aa 27) (aD (bF false)),(.when 22 false)⟩,
 ⟨some 29,cO (aa 22) (aD (bF true)) (aa 28),(.when 19 true)⟩,
 ⟨some 30,cO (aa 19) (aa 29) (aD (bF false)),.aw⟩]
def DJ:List au:=
 [⟨some 2,aG (aD (bF false)),.aw⟩]
def zw:List au:=
 [⟨some 31,bg dX 3 (aa 9) (aD (bm bn 1)) 3,.aw⟩,
 ⟨some 9,ay (aa 31),.aw⟩]
def zu:SC:=
 (.seq (.region DI)
 (.seq (.cond (aa 10) .skip (.exit 0))
 (.seq (.block 1 (.seq (.region Ol)
 (.seq (.region Om)
 (.seq (.region On)
 (.cond (aa 30) (.seq (.region DJ)
 .ret) .skip)))))
 (.region zw))))
def Oo:List au:=
 [⟨some 32,ay (aa 0),.aw⟩,
 ⟨some 33,bg jq 9 (aa 32) (aD (iQ {data:= #[] })) 9,.aw⟩,
 ⟨some 34,ay (aa 33),.aw⟩,
 ⟨some 35,ay (aa 0),(.when 34 true)⟩,
 ⟨some 36,aV ⟨cE cX, #[aa 35], #[9]⟩,(.when 34 true)⟩,
 ⟨some 37,bg BinOp.leq 3 (aa 36) (aD (bm bn 24)) 3,(.when 34 true)⟩,
 ⟨some 38,cO (aa 34) (aa 37) (aD (bF false)),.aw⟩,
 ⟨some 2,aG (aa 38),.aw⟩]
def Og:SC:=
 (.seq (.region Oh)
 (.seq (.region Oi)
 (.seq (.seq (.region Oj)
 (.block 0 (.loop zu)))
 (.seq (.region Oo)
 .ret))))
theorem afm:Tryz.prog.funcs[58]? =some Tryz.f58:=by kernel_rfl
theorem afl:(Tryz.f58.body).map cy=some Og:=by kernel_rfl
theorem afo:Tryz.f58.ntmps=39:=by kernel_rfl
theorem afn:Tryz.f58.results.toList=[dA 2]:=by kernel_rfl
theorem Y9:bB 58 3=1:=by kernel_rfl
def Ot:List au:=
 [⟨some 2,aG (aD (bF false)),.aw⟩]
def Ou:List au:=
 [⟨some 3,aG (aD (iQ {data:= #[] })),.aw⟩]
def Ov:List au:=
 [⟨some 6,ay (aa 0),.aw⟩,
 ⟨some 7,aV ⟨cE cX, #[aa 6], #[38]⟩,.aw⟩,
 ⟨some 8,ay (aD (bm bn 0)),.aw⟩]
def DK:List au:=
 [⟨some 9,bg dY 3 (aa 8) (aa 7) 3,.aw⟩]
def Ow:List au:=
 [⟨some 10,df 38 (aa 6) (aa 8),.aw⟩,
 ⟨some 11,aH 51 (aa 10),.aw⟩,
 ⟨some 5,ey 51,.aw⟩,
 ⟨none,dw 51 (aa 5) (aa 11),.aw⟩]
def Ox:List au:=
 [⟨some 12,bC 51 (aa 5) 0,.aw⟩,
 ⟨some 13,aH 9 (aa 12),.aw⟩,
 ⟨some 14,aV ⟨bz (bG 58), #[aa 13], #[9]⟩,.aw⟩,
 ⟨some 15,fy UnOp.not 4 (aa 14),.aw⟩,
 ⟨some 16,ay (aa 15),.aw⟩,
 ⟨some 17,bC 51 (aa 5) 0,(.when 16 false)⟩,
 ⟨some 18,aH 9 (aa 17),(.when 16 false)⟩,
 ⟨some 19,ay (aa 3),(.when 16 false)⟩,
 ⟨some 20,bg BinOp.leq 9 (aa 18) (aa 19) 9,(.when 16 false)⟩,
 ⟨some 21,cO (aa 16) (aD (bF true)) (aa 20),.aw⟩,
 ⟨some 22,ay (aa 21),.aw⟩,
 ⟨some 23,bC 51 (aa 5) 1,(.when 22 false)⟩,
 ⟨some 24,aH 9 (aa 23),(.when 22 false)⟩,
 ⟨some 25,bg eL 9 (aa 24) (aD (iQ {data:= #[] })) 9,(.when 22 false)⟩,
 ⟨some 26,cO (aa 22) (aD (bF true)) (aa 25),.aw⟩,
 ⟨some 27,ay (aa 26),.aw⟩,
 ⟨some 28,bC 51 (aa 5) 1,(.when 27 false)⟩,
 ⟨some 29,aH 9 (aa 28),(.when 27 false)⟩,
 ⟨some 30,aV ⟨cE cX, #[aa 29], #[9]⟩,(.when 27 false)⟩,
 ⟨some 31,bg nH 3 (aa 30) (aD (bm bn 200)) 3,(.when 27 false)⟩,
 ⟨some 32,cO (aa 27) (aD (bF true)) (aa 31),.aw⟩]
def DL:List au:=
 [⟨some 2,aG (aD (bF false)),.aw⟩]
def Oy:List au:=
 [⟨some 33,bC 51 (aa 5) 0,.aw⟩,
 ⟨some 34,aH 9 (aa 33),.aw⟩,
 ⟨some 3,aG (aa 34),.aw⟩]
def Oz:List au:=
 [⟨some 35,bg dX 3 (aa 8) (aD (bm bn 1)) 3,.aw⟩,
 ⟨some 8,ay (aa 35),.aw⟩]
def zx:SC:=
 (.seq (.region DK)
 (.seq (.cond (aa 9) .skip (.exit 0))
 (.seq (.block 1 (.seq (.region Ow)
 (.seq (.seq (.region Ox)
 (.cond (aa 32) (.seq (.region DL)
 .ret) .skip))
 (.region Oy))))
 (.region Oz))))
def OA:List au:=
 [⟨some 36,ay (aa 0),.aw⟩,
 ⟨some 37,aV ⟨cE cX, #[aa 36], #[38]⟩,.aw⟩,
 ⟨some 38,bg BinOp.leq 3 (aa 37) (aD (bm bn 60)) 3,.aw⟩,
 ⟨some 2,aG (aa 38),.aw⟩]
def Oq:SC:=
 (.seq (.region Ot)
 (.seq (.region Ou)
 (.seq (.seq (.region Ov)
 (.block 0 (.loop zx)))
 (.seq (.region OA)
 .ret))))
theorem afq:Tryz.prog.funcs[59]? =some Tryz.f59:=by kernel_rfl
theorem afp:(Tryz.f59.body).map cy=some Oq:=by kernel_rfl
theorem afs:Tryz.f59.ntmps=39:=by kernel_rfl
theorem afr:Tryz.f59.results.toList=[dA 2]:=by kernel_rfl
theorem Za:bB 59 5=1:=by kernel_rfl
theorem H4:bB 59 30=0:=by kernel_rfl
def OM:List au:=
 [⟨some 5,aG (aD (bF false)),.aw⟩]
def ON:List au:=
 [⟨some 7,bC 40 (aa 1) 1,.aw⟩,
 ⟨some 8,aH 3 (aa 7),.aw⟩,
 ⟨some 9,bg eL 3 (aa 8) (aD (bm bn 2)) 3,.aw⟩,
 ⟨some 10,ay (aa 9),.aw⟩,
 ⟨some 11,ay (aa 0),(.when 10 true)⟩,
 ⟨some 12,aH 9 (aa 2),(.when 10 true)⟩,
 ⟨some 13,bg eL 9 (aa 11) (aa 12) 9,(.when 10 true)⟩,
 ⟨some 14,cO (aa 10) (aa 13) (aD (bF false)),.aw⟩,
 ⟨some 15,ay (aa 14),.aw⟩,
 ⟨some 16,bC 40 (aa 1) 1,(.when 15 false)⟩,
 ⟨some 17,aH 3 (aa 16),(.when 15 false)⟩,
 ⟨some 18,bg eL 3 (aa 17) (aD (bm bn 3)) 3,(.when 15 false)⟩,
 ⟨some 19,ay (aa 18),(.when 15 false)⟩,
 ⟨some 20,aH 109 (aa 3),(.when 19 true)⟩,
 ⟨some 21,ay (aa 0),(.when 19 true)⟩,
 ⟨some 22,mT 109 (aa 20) (aa 21) false,(.when 19 true)⟩,
 ⟨some 23,cO (aa 19) (aa 22) (aD (bF false)),(.when 15 false)⟩,
 ⟨some 24,cO (aa 15) (aD (bF true)) (aa 23),.aw⟩,
 ⟨some 6,aG (aa 24),.aw⟩]
def DQ:List au:=
 [⟨some 25,aH 109 (aa 3),.aw⟩,
 ⟨some 26,ay (aa 0),.aw⟩,
 ⟨some 27,ay (aa 0),.aw⟩,
 ⟨none,ur 109 (aa 25) (aa 26) (aD (bF true)),.aw⟩,
 ⟨none,dw 9 (aa 2) (aa 27),.aw⟩]
def DR:List au:=
 [⟨some 28,ay (aa 6),.aw⟩,
 ⟨some 29,ay (aa 28),.aw⟩,
 ⟨some 30,ay (aa 0),(.when 29 false)⟩,
 ⟨some 31,aV ⟨bz (bG 58), #[aa 30], #[9]⟩,(.when 29 false)⟩,
 ⟨some 32,fy UnOp.not 4 (aa 31),(.when 29 false)⟩,
 ⟨some 33,cO (aa 29) (aD (bF true)) (aa 32),.aw⟩,
 ⟨some 5,aG (aa 33),.aw⟩]
def OL:SC:=
 (.seq (.region OM)
 (.seq (.region ON)
 (.seq (.region DQ)
 (.seq (.region DR)
 .ret))))
theorem afy:Tryz.prog.funcs[61]? =some Tryz.f61:=by kernel_rfl
theorem afx:(Tryz.f61.body).map cy=some OL:=by kernel_rfl
theorem afA:Tryz.f61.ntmps=34:=by kernel_rfl
theorem afz:Tryz.f61.results.toList=[dA 5]:=by kernel_rfl
def OP:List au:=
 [⟨some 4,aG (aD (bF false)),.aw⟩]
def OQ:List au:=
 [⟨some 5,ay (aa 0),.aw⟩,
 ⟨some 6,ay (aa 1),.aw⟩,
 ⟨some 7,aV ⟨bz (bG 90), #[aa 5,aa 6], #[37,101]⟩,.aw⟩,
 ⟨some 8,bg pA 3 (aa 7) (aD (bm bn 0)) 3,.aw⟩,
 ⟨some 4,aG (aa 8),.aw⟩]
def OO:SC:=
 (.seq (.region OP)
 (.seq (.region OQ)
 .ret))
theorem afC:Tryz.prog.funcs[62]? =some Tryz.f62:=by kernel_rfl
theorem afB:(Tryz.f62.body).map cy=some OO:=by kernel_rfl
theorem afE:Tryz.f62.ntmps=9:=by kernel_rfl
theorem afD:Tryz.f62.results.toList=[dA 4]:=by kernel_rfl
def OT:List au:=
 [⟨some 1,ef 36 (aa 0),.aw⟩,
 ⟨some 2,aG (aD (bF false)),.aw⟩]
def OU:List au:=
 [⟨some 3,bC 36 (aa 1) 0,.aw⟩,
 ⟨some 4,aH 3 (aa 3),.aw⟩,
 ⟨some 5,bg pA 3 (aa 4) (aD (bm bn 0)) 3,.aw⟩,
 ⟨some 6,ay (aa 5),.aw⟩,
 ⟨some 7,bC 36 (aa 1) 0,(.when 6 true)⟩,
 ⟨some 8,aH 3 (aa 7),(.when 6 true)⟩,
 ⟨some 9,bg dY 3 (aa 8) (aD (bm bn 1048576)) 3,(.when 6 true)⟩,
 ⟨some 10,cO (aa 6) (aa 9) (aD (bF false)),.aw⟩,
 ⟨some 11,ay (aa 10),.aw⟩,
 ⟨some 12,bC 36 (aa 1) 1,(.when 11 true)⟩,
 ⟨some 13,aH 3 (aa 12),(.when 11 true)⟩,
 ⟨some 14,bg pA 3 (aa 13) (aD (bm bn 0)) 3,(.when 11 true)⟩,
 ⟨some 15,cO (aa 11) (aa 14) (aD (bF false)),.aw⟩,
 ⟨some 16,ay (aa 15),.aw⟩,
 ⟨some 17,bC 36 (aa 1) 1,(.when 16 true)⟩,
 ⟨some 18,aH 3 (aa 17),(.when 16 true)⟩,
 ⟨some 19,bg dY 3 (aa 18) (aD (bm bn 1048576)) 3,(.when 16 true)⟩,
 ⟨some 20,cO (aa 16) (aa 19) (aD (bF false)),.aw⟩,
 ⟨some 2,aG (aa 20),.aw⟩]
def OS:SC:=
 (.seq (.region OT)
 (.seq (.region OU)
 .ret))
theorem afG:Tryz.prog.funcs[63]? =some Tryz.f63:=by kernel_rfl
theorem afF:(Tryz.f63.body).map cy=some OS:=by kernel_rfl
theorem afI:Tryz.f63.ntmps=21:=by kernel_rfl
theorem afH:Tryz.f63.results.toList=[dA 2]:=by kernel_rfl
theorem Zl:bB 63 1=1:=by kernel_rfl
def Qd:List au:=
 [⟨some 4,aG (aD (bm bn 0)),.aw⟩]
def Qe:List au:=
 [⟨some 6,ay (aa 0),.aw⟩,
 ⟨some 7,aV ⟨cE cX, #[aa 6], #[37]⟩,.aw⟩,
 ⟨some 8,ay (aD (bm bn 0)),.aw⟩]
def Ei:List au:=
 [⟨some 9,bg dY 3 (aa 8) (aa 7) 3,.aw⟩]
def Qf:List au:=
 [⟨some 10,ay (aa 8),.aw⟩,
 ⟨some 5,aG (aa 10),.aw⟩]
def Qg:List au:=
 [⟨some 11,ay (aa 1),.aw⟩,
 ⟨some 12,ay (aa 0),.aw⟩,
 ⟨some 13,ay (aa 5),.aw⟩,
 ⟨some 14,df 37 (aa 12) (aa 13),.aw⟩,
 ⟨some 15,aH 9 (aa 14),.aw⟩,
 ⟨some 16,aV ⟨bz (aa 11), #[aa 15], #[9]⟩,.aw⟩]
def Qh:List au:=
 [⟨some 17,ay (aa 5),.aw⟩,
 ⟨some 4,aG (aa 17),.aw⟩]
def Qi:List au:=
 [⟨some 18,bg dX 3 (aa 8) (aD (bm bn 1)) 3,.aw⟩,
 ⟨some 8,ay (aa 18),.aw⟩]
def zF:SC:=
 (.seq (.region Ei)
 (.seq (.cond (aa 9) .skip (.exit 0))
 (.seq (.block 1 (.seq (.region Qf)
 (.seq (.region Qg)
 (.cond (aa 16) (.seq (.region Qh)
 .ret) .skip))))
 (.region Qi))))
def Qj:List au:=
 [⟨some 4,aG (aD (bm bn (-1))),.aw⟩]
def Qc:SC:=
 (.seq (.region Qd)
 (.seq (.seq (.region Qe)
 (.block 0 (.loop zF)))
 (.seq (.region Qj)
 .ret)))
theorem agL:Tryz.prog.funcs[90]? =some Tryz.f90:=by kernel_rfl
theorem agK:(Tryz.f90.body).map cy=some Qc:=by kernel_rfl
theorem agN:Tryz.f90.ntmps=19:=by kernel_rfl
theorem agM:Tryz.f90.results.toList=[dA 4]:=by kernel_rfl
def abP:List Nat:=[0,0,2,0,14,30,63,127]
def abR:List au:=
 [⟨some 1,ef 24 (aa 0),.aw⟩,
 ⟨some 2,aG (aD (bF false)),.aw⟩]
def abT:List au:=
 [⟨some 4,aH 24 (aa 1),.aw⟩,
 ⟨some 5,aV ⟨bz (bG 34), #[aa 4], #[24]⟩,.aw⟩,
 ⟨some 6,fy UnOp.not 4 (aa 5),.aw⟩]
def abU:List au:=
 [⟨some 2,aG (aD (bF false)),.aw⟩]
def abV:List au:=
 [⟨some 3,aG (aD (bm bn 0)),.aw⟩]
def abW:List au:=
 [⟨some 7,ay (aa 3),.aw⟩,
 ⟨some 8,bC 24 (aa 1) 0,.aw⟩,
 ⟨some 9,aH 22 (aa 8),.aw⟩,
 ⟨some 10,aV ⟨cE cX, #[aa 9], #[22]⟩,.aw⟩,
 ⟨some 11,bg dY 3 (aa 7) (aa 10) 3,.aw⟩]
def abY:List au:=
 [⟨some 14,aH 24 (aa 1),.aw⟩,
 ⟨some 15,bC 24 (aa 1) 0,.aw⟩,
 ⟨some 16,aH 22 (aa 15),.aw⟩,
 ⟨some 17,ay (aa 3),.aw⟩,
 ⟨some 18,df 22 (aa 16) (aa 17),.aw⟩,
 ⟨some 19,aH 40 (aa 18),.aw⟩,
 ⟨some 20,aV ⟨bz (bG 35), #[aa 14,aa 19], #[24,40]⟩,.aw⟩,
 ⟨some 21,bg jq 81 (aa 20) (aD (bm bn 0)) 81,.aw⟩]
def abZ:List au:=
 [⟨some 2,aG (aD (bF false)),.aw⟩]
def abX:List au:=
 [⟨some 12,ay (aa 3),.aw⟩,
 ⟨some 13,bg dX 3 (aa 12) (aD (bm bn 1)) 3,.aw⟩,
 ⟨some 3,aG (aa 13),.aw⟩]
def abQ:SC:=
 (.seq (.seq (.region abW)
 (.cond (aa 11) .skip (.exit 0)))
 (.seq (.block 1 (.seq (.draw abY abP)
 (.cond (aa 21) (.seq (.region abZ)
 .ret) .skip)))
 (.region abX)))
def ab0:List au:=
 [⟨some 2,aG (aD (bF true)),.aw⟩]
def C7:SC:=
 (.seq (.region abR)
 (.seq (.seq (.region abT)
 (.cond (aa 6) (.seq (.region abU)
 .ret) .skip))
 (.seq (.seq (.region abV)
 (.block 0 (.loop abQ)))
 (.seq (.region ab0)
 .ret))))
def Kd:List au:=
 [⟨some 2,ef 40 (aa 0),.aw⟩,
 ⟨some 3,ef 40 (aa 1),.aw⟩,
 ⟨some 4,aG (aD (bF false)),.aw⟩]
def Ke:List au:=
 [⟨some 5,bC 40 (aa 2) 0,.aw⟩,
 ⟨some 6,aH 9 (aa 5),.aw⟩,
 ⟨some 7,bC 40 (aa 3) 0,.aw⟩,
 ⟨some 8,aH 9 (aa 7),.aw⟩,
 ⟨some 9,bg eL 9 (aa 6) (aa 8) 9,.aw⟩,
 ⟨some 10,ay (aa 9),.aw⟩,
 ⟨some 11,bC 40 (aa 2) 1,(.when 10 true)⟩,
 ⟨some 12,aH 3 (aa 11),(.when 10 true)⟩,
 ⟨some 13,bC 40 (aa 3) 1,(.when 10 true)⟩,
 ⟨some 14,aH 3 (aa 13),(.when 10 true)⟩,
 ⟨some 15,bg eL 3 (aa 12) (aa 14) 3,(.when 10 true)⟩,
 ⟨some 16,cO (aa 10) (aa 15) (aD (bF false)),.aw⟩,
 ⟨some 17,ay (aa 16),.aw⟩,
 ⟨some 18,bC 40 (aa 2) 2,(.when 17 true)⟩,
 ⟨some 19,aH 36 (aa 18),(.when 17 true)⟩,
 ⟨some 20,bC 40 (aa 3) 2,(.when 17 true)⟩,
 ⟨some 21,aH 36 (aa 20),(.when 17 true)⟩,
 ⟨some 22,bg eL 36 (aa 19) (aa 21) 36,(.when 17 true)⟩,
 ⟨some 23,cO (aa 17) (aa 22) (aD (bF false)),.aw⟩,
 ⟨some 24,ay (aa 23),.aw⟩,
 ⟨some 25,bC 40 (aa 2) 3,(.when 24 true)⟩,
 ⟨some 26,aH 37 (aa 25),(.when 24 true)⟩,
 ⟨some 27,bC 40 (aa 3) 3,(.when 24 true)⟩,
 ⟨some 28,aH 37 (aa 27),(.when 24 true)⟩,
 ⟨some 29,aV ⟨bz (bG 37), #[aa 26,aa 28], #[37,37]⟩,(.when 24 true)⟩,
 ⟨some 30,cO (aa 24) (aa 29) (aD (bF false)),.aw⟩,
 ⟨some 31,ay (aa 30),.aw⟩,
 ⟨some 32,bC 40 (aa 2) 4,(.when 31 true)⟩,
 ⟨some 33,aH 38 (aa 32),(.when 31 true)⟩,
 ⟨some 34,bC 40 (aa 3) 4,(.when 31 true)⟩,
 ⟨some 35,aH 38 (aa 34),(.when 31 true)⟩,
 ⟨some 36,aV ⟨bz (bG 38), #[aa 33,aa 35], #[38,38]⟩,(.when 31 true)⟩,
 ⟨some 37,cO (aa 31) (aa 36) (aD (bF false)),.aw⟩,
 ⟨some 4,aG (aa 37),.aw⟩]
def Kc:SC:=
 (.seq (.region Kd)
 (.seq (.region Ke)
 .ret))
theorem acf:Tryz.prog.funcs[16]? =some Tryz.f16:=by kernel_rfl
theorem ace:(Tryz.f16.body).map cy=some Kc:=by kernel_rfl
theorem ach:Tryz.f16.ntmps=38:=by kernel_rfl
theorem acg:Tryz.f16.results.toList=[dA 4]:=by kernel_rfl
theorem Yy:bB 16 2=1:=by kernel_rfl
theorem Yz:bB 16 3=1:=by kernel_rfl
def ad0:List Nat:=[0,0,3,7,0,0,48,112,255]
def MW:List au:=
 [⟨some 4,aG (aD (bF false)),.aw⟩]
def MX:List au:=
 [⟨some 6,ay (aa 0),.aw⟩,
 ⟨some 7,aV ⟨cE cX, #[aa 6], #[37]⟩,.aw⟩,
 ⟨some 8,ay (aa 1),.aw⟩,
 ⟨some 9,aV ⟨cE cX, #[aa 8], #[37]⟩,.aw⟩,
 ⟨some 10,bg jq 3 (aa 7) (aa 9) 3,.aw⟩]
def MY:List au:=
 [⟨some 4,aG (aD (bF false)),.aw⟩]
def MZ:List au:=
 [⟨some 11,ay (aa 0),.aw⟩,
 ⟨some 12,aV ⟨cE cX, #[aa 11], #[37]⟩,.aw⟩,
 ⟨some 13,ay (aD (bm bn 0)),.aw⟩]
def DA:List au:=
 [⟨some 14,bg dY 3 (aa 13) (aa 12) 3,.aw⟩]
def M3:List au:=
 [⟨some 15,ay (aa 13),.aw⟩,
 ⟨some 5,aG (aa 15),.aw⟩]
def M4:List au:=
 [⟨some 16,ay (aa 0),.aw⟩,
 ⟨some 17,ay (aa 5),.aw⟩,
 ⟨some 18,df 37 (aa 16) (aa 17),.aw⟩,
 ⟨some 19,aH 9 (aa 18),.aw⟩,
 ⟨some 20,ay (aa 1),.aw⟩,
 ⟨some 21,ay (aa 5),.aw⟩,
 ⟨some 22,df 37 (aa 20) (aa 21),.aw⟩,
 ⟨some 23,aH 9 (aa 22),.aw⟩,
 ⟨some 24,bg jq 9 (aa 19) (aa 23) 9,.aw⟩]
def M5:List au:=
 [⟨some 4,aG (aD (bF false)),.aw⟩]
def M6:List au:=
 [⟨some 25,bg dX 3 (aa 13) (aD (bm bn 1)) 3,.aw⟩,
 ⟨some 13,ay (aa 25),.aw⟩]
def zh:SC:=
 (.seq (.region DA)
 (.seq (.cond (aa 14) .skip (.exit 0))
 (.seq (.block 1 (.seq (.region M3)
 (.seq (.draw M4 ad0)
 (.cond (aa 24) (.seq (.region M5)
 .ret) .skip))))
 (.region M6))))
def M7:List au:=
 [⟨some 4,aG (aD (bF true)),.aw⟩]
def MV:SC:=
 (.seq (.region MW)
 (.seq (.seq (.region MX)
 (.cond (aa 10) (.seq (.region MY)
 .ret) .skip))
 (.seq (.seq (.region MZ)
 (.block 0 (.loop zh)))
 (.seq (.region M7)
 .ret))))
theorem ad2:Tryz.prog.funcs[37]? =some Tryz.f37:=by kernel_rfl
theorem ad1:(Tryz.f37.body).map cy=some MV:=by kernel_rfl
theorem ad4:Tryz.f37.ntmps=26:=by kernel_rfl
theorem ad3:Tryz.f37.results.toList=[dA 4]:=by kernel_rfl
theorem YY:bB 37 7=0:=by kernel_rfl
theorem YZ:bB 37 9=0:=by kernel_rfl
theorem YX:bB 37 12=0:=by kernel_rfl
def ad5:List Nat:=[0,0,3,7,0,0,48,112,255]
def M9:List au:=
 [⟨some 4,aG (aD (bF false)),.aw⟩]
def Na:List au:=
 [⟨some 6,ay (aa 0),.aw⟩,
 ⟨some 7,aV ⟨cE cX, #[aa 6], #[38]⟩,.aw⟩,
 ⟨some 8,ay (aa 1),.aw⟩,
 ⟨some 9,aV ⟨cE cX, #[aa 8], #[38]⟩,.aw⟩,
 ⟨some 10,bg jq 3 (aa 7) (aa 9) 3,.aw⟩]
def Nb:List au:=
 [⟨some 4,aG (aD (bF false)),.aw⟩]
def Nc:List au:=
 [⟨some 11,ay (aa 0),.aw⟩,
 ⟨some 12,aV ⟨cE cX, #[aa 11], #[38]⟩,.aw⟩,
 ⟨some 13,ay (aD (bm bn 0)),.aw⟩]
def DB:List au:=
 [⟨some 14,bg dY 3 (aa 13) (aa 12) 3,.aw⟩]
def Nf:List au:=
 [⟨some 15,ay (aa 13),.aw⟩,
 ⟨some 5,aG (aa 15),.aw⟩]
def Ng:List au:=
 [⟨some 16,ay (aa 0),.aw⟩,
 ⟨some 17,ay (aa 5),.aw⟩,
 ⟨some 18,df 38 (aa 16) (aa 17),.aw⟩,
 ⟨some 19,aH 51 (aa 18),.aw⟩,
 ⟨some 20,ay (aa 1),.aw⟩,
 ⟨some 21,ay (aa 5),.aw⟩,
 ⟨some 22,df 38 (aa 20) (aa 21),.aw⟩,
 ⟨some 23,aH 51 (aa 22),.aw⟩,
 ⟨some 24,bg jq 51 (aa 19) (aa 23) 51,.aw⟩]
def Nh:List au:=
 [⟨some 4,aG (aD (bF false)),.aw⟩]
def Ni:List au:=
 [⟨some 25,bg dX 3 (aa 13) (aD (bm bn 1)) 3,.aw⟩,
 ⟨some 13,ay (aa 25),.aw⟩]
def zi:SC:=
 (.seq (.region DB)
 (.seq (.cond (aa 14) .skip (.exit 0))
 (.seq (.block 1 (.seq (.region Nf)
 (.seq (.draw Ng ad5)
 (.cond (aa 24) (.seq (.region Nh)
 .ret) .skip))))
 (.region Ni))))
def Nj:List au:=
 [⟨some 4,aG (aD (bF true)),.aw⟩]
def M8:SC:=
 (.seq (.region M9)
 (.seq (.seq (.region Na)
 (.cond (aa 10) (.seq (.region Nb)
 .ret) .skip))
 (.seq (.seq (.region Nc)
 (.block 0 (.loop zi)))
 (.seq (.region Nj)
 .ret))))
theorem ad7:Tryz.prog.funcs[38]? =some Tryz.f38:=by kernel_rfl
theorem ad6:(Tryz.f38.body).map cy=some M8:=by kernel_rfl
theorem ad9:Tryz.f38.ntmps=26:=by kernel_rfl
theorem ad8:Tryz.f38.results.toList=[dA 4]:=by kernel_rfl
theorem Y1:bB 38 7=0:=by kernel_rfl
theorem Y2:bB 38 9=0:=by kernel_rfl
theorem Y0:bB 38 12=0:=by kernel_rfl
def LJ:List au:=
 [⟨some 1,ef 24 (aa 0),.aw⟩,
 ⟨some 2,aG (aD (Value.map none)),.aw⟩]
def LK:List au:=
 [⟨some 6,bC 24 (aa 1) 0,.aw⟩,
 ⟨some 7,aH 22 (aa 6),.aw⟩,
 ⟨some 8,aV ⟨cE cX, #[aa 7], #[22]⟩,.aw⟩,
 ⟨some 9,Op.makeMap 61 (some (aa 8)),.aw⟩,
 ⟨some 3,aG (aa 9),.aw⟩]
def LL:List au:=
 [⟨some 10,bC 24 (aa 1) 0,.aw⟩,
 ⟨some 11,aH 22 (aa 10),.aw⟩,
 ⟨some 12,aV ⟨cE cX, #[aa 11], #[22]⟩,.aw⟩,
 ⟨some 13,ay (aD (bm bn 0)),.aw⟩]
def Dm:List au:=
 [⟨some 14,bg dY 3 (aa 13) (aa 12) 3,.aw⟩]
def LM:List au:=
 [⟨some 15,df 22 (aa 11) (aa 13),.aw⟩,
 ⟨some 16,aH 40 (aa 15),.aw⟩,
 ⟨some 5,ey 40,.aw⟩,
 ⟨none,dw 40 (aa 5) (aa 16),.aw⟩]
def LN:List au:=
 [⟨some 17,ay (aa 3),.aw⟩,
 ⟨some 18,bC 40 (aa 5) 0,.aw⟩,
 ⟨some 19,aH 9 (aa 18),.aw⟩,
 ⟨none,ur 61 (aa 17) (aa 19) (aa 5),.aw⟩]
def LO:List au:=
 [⟨some 20,bg dX 3 (aa 13) (aD (bm bn 1)) 3,.aw⟩,
 ⟨some 13,ay (aa 20),.aw⟩]
def u7:SC:=
 (.seq (.region Dm)
 (.seq (.cond (aa 14) .skip (.exit 0))
 (.seq (.block 1 (.seq (.region LM)
 (.region LN)))
 (.region LO))))
def LP:List au:=
 [⟨some 21,ay (aa 3),.aw⟩,
 ⟨some 2,aG (aa 21),.aw⟩]
def Ly:SC:=
 (.seq (.region LJ)
 (.seq (.region LK)
 (.seq (.seq (.region LL)
 (.block 0 (.loop u7)))
 (.seq (.region LP)
 .ret))))
theorem adf:Tryz.prog.funcs[23]? =some Tryz.f23:=by kernel_rfl
theorem ade:(Tryz.f23.body).map cy=some Ly:=by kernel_rfl
theorem adh:Tryz.f23.ntmps=22:=by kernel_rfl
theorem adg:Tryz.f23.results.toList=[dA 2]:=by kernel_rfl
theorem YJ:bB 23 1=1:=by kernel_rfl
theorem YL:bB 23 5=0:=by kernel_rfl
theorem YM:bB 23 8=0:=by kernel_rfl
theorem YK:bB 23 12=0:=by kernel_rfl
def adi:List Nat:=[0,1,3,7,0,31,0,64,192,448,0,1984,0,4096,12288,28672,0,126976,63,266239,1048575]
def LR:List Nat:=[0,1,3,7,15,31,63,127,255,511,1023,2047,4095,8191,16383,2047,34815,100351,231423,524287,1048575,2097151,4194303,8388607,16777215,33554431,4194303,71303167,205520895,473956351,1073741823,2147483647,4294967295]
def LS:List au:=
 [⟨some 4,aG (aD (lF none)),.aw⟩]
def LU:List au:=
 [⟨some 8,ay (aa 0),.aw⟩,
 ⟨some 9,dE (aa 8),.aw⟩,
 ⟨some 10,bC 65 (aa 9) 0,.aw⟩,
 ⟨some 11,aH 61 (aa 10),.aw⟩,
 ⟨some 12,ay (aa 1),.aw⟩,
 ⟨some 13,mT 61 (aa 11) (aa 12) false,.aw⟩,
 ⟨some 14,ay (aa 0),.aw⟩,
 ⟨some 15,dE (aa 14),.aw⟩,
 ⟨some 16,bC 65 (aa 15) 1,.aw⟩,
 ⟨some 17,aH 61 (aa 16),.aw⟩,
 ⟨some 18,ay (aa 1),.aw⟩,
 ⟨some 19,mT 61 (aa 17) (aa 18) false,.aw⟩,
 ⟨some 20,ay (aa 0),.aw⟩,
 ⟨some 21,dE (aa 20),.aw⟩,
 ⟨some 22,bC 65 (aa 21) 2,.aw⟩,
 ⟨some 23,aH 61 (aa 22),.aw⟩,
 ⟨some 24,ay (aa 1),.aw⟩,
 ⟨some 25,mT 61 (aa 23) (aa 24) false,.aw⟩,
 ⟨some 5,aG (aa 13),.aw⟩,
 ⟨some 6,aG (aa 19),.aw⟩,
 ⟨some 7,aG (aa 25),.aw⟩]
def LW:List au:=
 [⟨some 27,ay (aa 6),.aw⟩,
 ⟨some 28,ay (aa 7),.aw⟩,
 ⟨some 29,aV ⟨bz (bG 43), #[aa 27,aa 28], #[67,67]⟩,.aw⟩,
 ⟨some 26,aG (aa 29),.aw⟩]
def LX:List au:=
 [⟨some 30,ay (aa 7),.aw⟩,
 ⟨some 31,ay (aa 5),.aw⟩,
 ⟨some 32,aV ⟨bz (bG 43), #[aa 30,aa 31], #[67,67]⟩,.aw⟩,
 ⟨some 26,aG (aa 32),.aw⟩]
def Dp:List au:=
 [⟨some 33,ay (aa 6),.aw⟩,
 ⟨some 4,aG (aa 33),.aw⟩]
def LY:List au:=
 [⟨some 35,ay (aa 6),.aw⟩,
 ⟨some 36,ay (aa 5),.aw⟩,
 ⟨some 37,aV ⟨bz (bG 43), #[aa 35,aa 36], #[67,67]⟩,.aw⟩,
 ⟨some 34,aG (aa 37),.aw⟩]
def LZ:List au:=
 [⟨some 38,ay (aa 7),.aw⟩,
 ⟨some 4,aG (aa 38),.aw⟩]
def Dq:List au:=
 [⟨some 40,ay (aa 6),.aw⟩,
 ⟨some 41,bg jq 67 (aa 40) (aD (lF none)) 67,.aw⟩,
 ⟨some 42,ay (aa 41),.aw⟩,
 ⟨some 43,ay (aa 7),(.when 42 true)⟩,
 ⟨some 44,bg jq 67 (aa 43) (aD (lF none)) 67,(.when 42 true)⟩,
 ⟨some 45,cO (aa 42) (aa 44) (aD (bF false)),.aw⟩,
 ⟨some 46,ay (aa 45),.aw⟩,
 ⟨some 47,ay (aa 5),(.when 46 true)⟩,
 ⟨some 48,bg jq 67 (aa 47) (aD (lF none)) 67,(.when 46 true)⟩,
 ⟨some 49,cO (aa 46) (aa 48) (aD (bF false)),.aw⟩,
 ⟨some 50,ay (aa 49),.aw⟩,
 ⟨some 51,ay (aa 6),(.when 50 true)⟩,
 ⟨some 52,dE (aa 51),(.when 50 true)⟩,
 ⟨some 53,bC 40 (aa 52) 1,(.when 50 true)⟩,
 ⟨some 54,aH 3 (aa 53),(.when 50 true)⟩,
 ⟨some 55,ay (aa 5),(.when 50 true)⟩,
 ⟨some 56,dE (aa 55),(.when 50 true)⟩,
 ⟨some 57,bC 40 (aa 56) 1,(.when 50 true)⟩,
 ⟨some 58,aH 3 (aa 57),(.when 50 true)⟩,
 ⟨some 59,bg eL 3 (aa 54) (aa 58) 3,(.when 50 true)⟩,
 ⟨some 60,cO (aa 50) (aa 59) (aD (bF false)),.aw⟩,
 ⟨some 61,ay (aa 60),.aw⟩,
 ⟨some 62,ay (aa 7),(.when 61 true)⟩,
 ⟨some 63,dE (aa 62),(.when 61 true)⟩,
 ⟨some 64,bC 40 (aa 63) 1,(.when 61 true)⟩,
 ⟨some 65,aH 3 (aa 64),(.when 61 true)⟩,
 ⟨some 66,ay (aa 5),(.when 61 true)⟩,
 ⟨some 67,dE (aa 66),(.when 61 true)⟩,
 ⟨some 68,bC 40 (aa 67) 1,(.when 61 true)⟩,
 ⟨some 69,aH 3 (aa 68),(.when 61 true)⟩,
 ⟨some 70,bg eL 3 (aa 65) (aa 69) 3,(.when 61 true)⟩,
 ⟨some 71,cO (aa 61) (aa 70) (aD (bF false)),.aw⟩,
 ⟨some 39,aG (aa 71),.aw⟩]
def Dr:List au:=
 [⟨some 72,ay (aa 0),.aw⟩,
 ⟨some 73,ay (aa 5),.aw⟩,
 ⟨some 74,ay (aa 6),.aw⟩,
 ⟨some 75,ay (aa 7),.aw⟩,
 ⟨some 76,aV ⟨bz (bG 44), #[aa 72,aa 73,aa 74,aa 75], #[60,67,67,67]⟩,.aw⟩,
 ⟨some 4,aG (aa 76),.aw⟩]
def Ds:List au:=
 [⟨some 77,ay (aa 0),.aw⟩,
 ⟨some 78,ay (aa 1),.aw⟩,
 ⟨some 79,aV {callee:=bz (bG 45),args:= #[aa 77,aa 78,aD (iQ {data:= #[111,98,106,101,99,116] })],argTypes:= #[60,9,9] },.aw⟩]
def Dn:List au:=
 [⟨some 80,ay (aa 6),.aw⟩,
 ⟨some 81,ay (aa 7),.aw⟩,
 ⟨some 82,aV ⟨bz (bG 46), #[aa 80,aa 81], #[67,67]⟩,.aw⟩,
 ⟨some 4,aG (aa 82),.aw⟩]
def LQ:SC:=
 (.seq (.region LS)
 (.seq (.draw LU adi)
 (.seq (.block 0 (.seq (.seq (.region LW)
 (.cond (aa 26) .skip (.region LX)))
 (.cond (aa 26) (.seq (.region Dp)
 .ret) (.seq (.region LY)
 (.cond (aa 34) (.seq (.region LZ)
 .ret) (.seq (.draw Dq LR)
 (.cond (aa 39) (.seq (.region Dr)
 .ret) .skip)))))))
 (.seq (.region Ds)
 (.seq (.region Dn)
 .ret)))))
theorem adk:Tryz.prog.funcs[24]? =some Tryz.f24:=by kernel_rfl
theorem adj:(Tryz.f24.body).map cy=some LQ:=by kernel_rfl
theorem adm:Tryz.f24.ntmps=83:=by kernel_rfl
theorem adl:Tryz.f24.results.toList=[dA 4]:=by kernel_rfl
def aew:List Nat:=[0,1,3,0,8,24,63,127]
def Nx:List au:=
 [⟨some 4,aG (aD (bF false)),.aw⟩]
def Ny:List au:=
 [⟨some 5,ay (aa 0),.aw⟩,
 ⟨some 6,bg eL 67 (aa 5) (aD (lF none)) 67,.aw⟩,
 ⟨some 7,ay (aa 6),.aw⟩,
 ⟨some 8,ay (aa 1),(.when 7 false)⟩,
 ⟨some 9,bg eL 67 (aa 8) (aD (lF none)) 67,(.when 7 false)⟩,
 ⟨some 10,cO (aa 7) (aD (bF true)) (aa 9),.aw⟩]
def zk:List au:=
 [⟨some 11,ay (aa 0),.aw⟩,
 ⟨some 12,ay (aa 1),.aw⟩,
 ⟨some 13,bg eL 67 (aa 11) (aa 12) 67,.aw⟩,
 ⟨some 4,aG (aa 13),.aw⟩]
def Nz:List au:=
 [⟨some 14,ay (aa 0),.aw⟩,
 ⟨some 15,dE (aa 14),.aw⟩,
 ⟨some 16,aH 40 (aa 15),.aw⟩,
 ⟨some 17,ay (aa 1),.aw⟩,
 ⟨some 18,dE (aa 17),.aw⟩,
 ⟨some 19,aH 40 (aa 18),.aw⟩,
 ⟨some 20,aV ⟨bz (bG 16), #[aa 16,aa 19], #[40,40]⟩,.aw⟩,
 ⟨some 4,aG (aa 20),.aw⟩]
def Nw:SC:=
 (.seq (.region Nx)
 (.seq (.seq (.region Ny)
 (.cond (aa 10) (.seq (.region zk)
 .ret) .skip))
 (.seq (.draw Nz aew)
 .ret)))
theorem aey:Tryz.prog.funcs[43]? =some Tryz.f43:=by kernel_rfl
theorem aex:(Tryz.f43.body).map cy=some Nw:=by kernel_rfl
theorem aeA:Tryz.f43.ntmps=21:=by kernel_rfl
theorem aez:Tryz.f43.results.toList=[dA 4]:=by kernel_rfl
def NP:List au:=
 [⟨some 6,ay (aa 0),.aw⟩,
 ⟨some 7,dE (aa 6),.aw⟩,
 ⟨some 8,bC 65 (aa 7) 4,.aw⟩,
 ⟨some 9,aH 63 (aa 8),.aw⟩,
 ⟨some 10,ay (aa 1),.aw⟩,
 ⟨some 11,ay (aa 2),.aw⟩,
 ⟨some 12,jJ 31 #[(0,aa 10),(1,aa 11)],.aw⟩,
 ⟨none,ur 63 (aa 9) (aa 12) (aD (bF true)),.aw⟩]
def NN:SC:=
 (.region NP)
theorem aeH:Tryz.prog.funcs[45]? =some Tryz.f45:=by kernel_rfl
theorem aeG:(Tryz.f45.body).map cy=some NN:=by kernel_rfl
theorem aeJ:Tryz.f45.ntmps=13:=by kernel_rfl
theorem aeI:Tryz.f45.results.toList=[]:=by kernel_rfl
def NR:List au:=
 [⟨some 4,aG (aD (lF none)),.aw⟩]
def zq:List au:=
 [⟨some 5,ay (aa 0),.aw⟩,
 ⟨some 6,bg eL 67 (aa 5) (aD (lF none)) 67,.aw⟩,
 ⟨some 7,ay (aa 6),.aw⟩,
 ⟨some 8,ay (aa 1),(.when 7 false)⟩,
 ⟨some 9,bg jq 67 (aa 8) (aD (lF none)) 67,(.when 7 false)⟩,
 ⟨some 10,ay (aa 9),(.when 7 false)⟩,
 ⟨some 11,ay (aa 1),(.when 10 true)⟩,
 ⟨some 12,ay (aa 0),(.when 10 true)⟩,
 ⟨some 13,aV ⟨bz (bG 77), #[aa 11,aa 12], #[67,67]⟩,(.when 10 true)⟩,
 ⟨some 14,bg dY 3 (aa 13) (aD (bm bn 0)) 3,(.when 10 true)⟩,
 ⟨some 15,cO (aa 10) (aa 14) (aD (bF false)),(.when 7 false)⟩,
 ⟨some 16,cO (aa 7) (aD (bF true)) (aa 15),.aw⟩]
def DF:List au:=
 [⟨some 17,ay (aa 1),.aw⟩,
 ⟨some 4,aG (aa 17),.aw⟩]
def DG:List au:=
 [⟨some 18,ay (aa 0),.aw⟩,
 ⟨some 4,aG (aa 18),.aw⟩]
def NQ:SC:=
 (.seq (.region NR)
 (.seq (.seq (.region zq)
 (.cond (aa 16) (.seq (.region DF)
 .ret) .skip))
 (.seq (.region DG)
 .ret)))
theorem aeL:Tryz.prog.funcs[46]? =some Tryz.f46:=by kernel_rfl
theorem aeK:(Tryz.f46.body).map cy=some NQ:=by kernel_rfl
theorem aeN:Tryz.f46.ntmps=19:=by kernel_rfl
theorem aeM:Tryz.f46.results.toList=[dA 4]:=by kernel_rfl
def Ma:List Nat:=[0,1,3,7,0,31,0,64,192,448,0,1984,4095,8191]
def Mb:List au:=
 [⟨some 7,ay (aa 1),.aw⟩,
 ⟨some 8,dE (aa 7),.aw⟩,
 ⟨some 9,bC 40 (aa 8) 3,.aw⟩,
 ⟨some 10,aH 37 (aa 9),.aw⟩,
 ⟨some 11,aV ⟨cE cX, #[aa 10], #[37]⟩,.aw⟩,
 ⟨some 12,ay (aD (bm bn 0)),.aw⟩]
def Dt:List au:=
 [⟨some 13,bg dY 3 (aa 12) (aa 11) 3,.aw⟩]
def Mc:List au:=
 [⟨some 14,df 37 (aa 10) (aa 12),.aw⟩,
 ⟨some 15,aH 9 (aa 14),.aw⟩,
 ⟨some 5,aG (aa 15),.aw⟩]
def Md:List au:=
 [⟨some 16,ay (aa 0),.aw⟩,
 ⟨some 17,dE (aa 16),.aw⟩,
 ⟨some 18,bC 65 (aa 17) 3,.aw⟩,
 ⟨some 19,aH 61 (aa 18),.aw⟩,
 ⟨some 20,ay (aa 5),.aw⟩,
 ⟨some 21,mT 61 (aa 19) (aa 20) false,.aw⟩,
 ⟨some 22,bg jq 67 (aa 21) (aD (lF none)) 67,.aw⟩]
def Me:List au:=
 [⟨some 23,ay (aa 0),.aw⟩,
 ⟨some 24,dE (aa 23),.aw⟩,
 ⟨some 25,bC 65 (aa 24) 0,.aw⟩,
 ⟨some 26,aH 61 (aa 25),.aw⟩,
 ⟨some 27,ay (aa 5),.aw⟩,
 ⟨some 28,mT 61 (aa 26) (aa 27) false,.aw⟩,
 ⟨some 6,aG (aa 28),.aw⟩]
def Mf:List au:=
 [⟨some 29,ay (aa 6),.aw⟩,
 ⟨some 30,bg eL 67 (aa 29) (aD (lF none)) 67,.aw⟩]
def u9:List au:=
 [⟨some 31,ay (aa 0),.aw⟩,
 ⟨some 32,dE (aa 31),.aw⟩,
 ⟨some 33,bC 65 (aa 32) 1,.aw⟩,
 ⟨some 34,aH 61 (aa 33),.aw⟩,
 ⟨some 35,ay (aa 5),.aw⟩,
 ⟨some 36,mT 61 (aa 34) (aa 35) false,.aw⟩,
 ⟨some 37,ay (aa 0),.aw⟩,
 ⟨some 38,dE (aa 37),.aw⟩,
 ⟨some 39,bC 65 (aa 38) 2,.aw⟩,
 ⟨some 40,aH 61 (aa 39),.aw⟩,
 ⟨some 41,ay (aa 5),.aw⟩,
 ⟨some 42,mT 61 (aa 40) (aa 41) false,.aw⟩,
 ⟨some 43,aV ⟨bz (bG 46), #[aa 36,aa 42], #[67,67]⟩,.aw⟩,
 ⟨some 6,aG (aa 43),.aw⟩]
def Dv:List au:=
 [⟨some 44,ay (aa 6),.aw⟩,
 ⟨some 45,bg jq 67 (aa 44) (aD (lF none)) 67,.aw⟩]
def Dw:List au:=
 [⟨some 46,ay (aa 0),.aw⟩,
 ⟨some 47,dE (aa 46),.aw⟩,
 ⟨some 48,bC 65 (aa 47) 3,.aw⟩,
 ⟨some 49,aH 61 (aa 48),.aw⟩,
 ⟨some 50,ay (aa 5),.aw⟩,
 ⟨some 51,ay (aa 6),.aw⟩,
 ⟨none,ur 61 (aa 49) (aa 50) (aa 51),.aw⟩]
def Dx:List au:=
 [⟨some 52,ay (aa 0),.aw⟩,
 ⟨some 53,ay (aa 5),.aw⟩,
 ⟨some 54,aV {callee:=bz (bG 45),args:= #[aa 52,aa 53,aD (iQ {data:= #[111,98,106,101,99,116] })],argTypes:= #[60,9,9] },.aw⟩]
def Du:List au:=
 [⟨some 55,ay (aa 0),.aw⟩,
 ⟨some 56,ay (aa 6),.aw⟩,
 ⟨some 57,aV ⟨bz (bG 27), #[aa 55,aa 56], #[60,67]⟩,.aw⟩]
def zf:List au:=
 [⟨some 58,bg dX 3 (aa 12) (aD (bm bn 1)) 3,.aw⟩,
 ⟨some 12,ay (aa 58),.aw⟩]
def xd:SC:=
 (.seq (.region Dt)
 (.seq (.cond (aa 13) .skip (.exit 0))
 (.seq (.block 1 (.seq (.region Mc)
 (.seq (.seq (.region Md)
 (.cond (aa 22) (.exit 1) .skip))
 (.seq (.region Me)
 (.seq (.seq (.region Mf)
 (.cond (aa 30) (.draw u9 Ma) .skip))
 (.seq (.region Dv)
 (.cond (aa 45) (.seq (.region Dw)
 (.seq (.region Dx)
 (.region Du))) .skip)))))))
 (.region zf))))
def L9:SC:=
 (.seq (.region Mb)
 (.block 0 (.loop xd)))
theorem adw:Tryz.prog.funcs[27]? =some Tryz.f27:=by kernel_rfl
theorem adv:(Tryz.f27.body).map cy=some L9:=by kernel_rfl
theorem ady:Tryz.f27.ntmps=59:=by kernel_rfl
theorem adx:Tryz.f27.results.toList=[]:=by kernel_rfl
theorem YO:bB 27 11=0:=by kernel_rfl
def Ej:List Nat:=[0,1,0,7,0,31,0,0,255,511,1023]
def agP:List Nat:=[0,1,3,7,0,16,48,112,0,256,768,1792,4095,8191,0]
def agO:List Nat:=[0,1,0,4,12,28,0,124,252,508,1020,2047,4095,8191]
def Qk:List au:=
 [⟨some 3,ef 24 (aa 0),.aw⟩,
 ⟨some 4,ef 24 (aa 1),.aw⟩,
 ⟨some 5,ef 24 (aa 2),.aw⟩,
 ⟨some 6,ey 24,.aw⟩,
 ⟨some 7,aG (aD (iy none 0 0)),.aw⟩]
def Ql:List au:=
 [⟨some 19,aH 24 (aa 3),.aw⟩,
 ⟨some 20,aV ⟨bz (bG 13), #[aa 19], #[24]⟩,.aw⟩,
 ⟨some 21,fy UnOp.not 4 (aa 20),.aw⟩,
 ⟨some 22,ay (aa 21),.aw⟩,
 ⟨some 23,aH 24 (aa 4),(.when 22 false)⟩,
 ⟨some 24,aV ⟨bz (bG 13), #[aa 23], #[24]⟩,(.when 22 false)⟩,
 ⟨some 25,fy UnOp.not 4 (aa 24),(.when 22 false)⟩,
 ⟨some 26,cO (aa 22) (aD (bF true)) (aa 25),.aw⟩,
 ⟨some 27,ay (aa 26),.aw⟩,
 ⟨some 28,aH 24 (aa 5),(.when 27 false)⟩,
 ⟨some 29,aV ⟨bz (bG 13), #[aa 28], #[24]⟩,(.when 27 false)⟩,
 ⟨some 30,fy UnOp.not 4 (aa 29),(.when 27 false)⟩,
 ⟨some 31,cO (aa 27) (aD (bF true)) (aa 30),.aw⟩]
def agS:List au:=
 [⟨some 32,jJ 24 #[],.aw⟩,
 ⟨none,dw 24 (aa 6) (aa 32),.aw⟩,
 ⟨some 7,aG (aD (iy none 0 0)),.aw⟩]
def Em:List au:=
 [⟨some 33,aH 24 (aa 3),.aw⟩,
 ⟨some 34,aV ⟨bz (bG 23), #[aa 33], #[24]⟩,.aw⟩,
 ⟨some 35,aH 24 (aa 4),.aw⟩,
 ⟨some 36,aV ⟨bz (bG 23), #[aa 35], #[24]⟩,.aw⟩,
 ⟨some 37,aH 24 (aa 5),.aw⟩,
 ⟨some 38,aV ⟨bz (bG 23), #[aa 37], #[24]⟩,.aw⟩,
 ⟨some 39,Op.makeMap 61 none,.aw⟩,
 ⟨some 40,Op.makeMap 63 none,.aw⟩,
 ⟨some 41,jJ 65 #[(0,aa 34),(1,aa 36),(2,aa 38),(3,aa 39),(4,aa 40)],.aw⟩,
 ⟨some 42,ef 65 (aa 41),.aw⟩,
 ⟨some 8,aG (aa 42),.aw⟩]
def QA:List au:=
 [⟨some 43,ay (aa 8),.aw⟩,
 ⟨some 44,dE (aa 43),.aw⟩,
 ⟨some 45,bC 65 (aa 44) 0,.aw⟩,
 ⟨some 46,aH 61 (aa 45),.aw⟩,
 ⟨some 47,ay (aa 8),.aw⟩,
 ⟨some 48,dE (aa 47),.aw⟩,
 ⟨some 49,bC 65 (aa 48) 1,.aw⟩,
 ⟨some 50,aH 61 (aa 49),.aw⟩,
 ⟨some 51,ay (aa 8),.aw⟩,
 ⟨some 52,dE (aa 51),.aw⟩,
 ⟨some 53,bC 65 (aa 52) 2,.aw⟩,
 ⟨some 54,aH 61 (aa 53),.aw⟩,
 ⟨some 55,ka 66 3 #[(0,aa 46),(1,aa 50),(2,aa 54)],.aw⟩,
 ⟨some 56,aV ⟨cE cX, #[aa 55], #[66]⟩,.aw⟩,
 ⟨some 57,ay (aD (bm bn 0)),.aw⟩]
def En:List au:=
 [⟨some 58,bg dY 3 (aa 57) (aa 56) 3,.aw⟩]
def QB:List au:=
 [⟨some 59,df 66 (aa 55) (aa 57),.aw⟩,
 ⟨some 60,aH 61 (aa 59),.aw⟩,
 ⟨some 10,aG (aa 60),.aw⟩]
def QC:List au:=
 [⟨some 61,ay (aa 10),.aw⟩,
 ⟨some 62,Op.range 61 (aa 61),.aw⟩]
def Eo:List au:=
 [⟨some 63,Op.next (aa 62) false,.aw⟩,
 ⟨some 64,eh (aa 63) 0,.aw⟩]
def QD:List au:=
 [⟨some 65,Op.entry (aa 62),.aw⟩,
 ⟨some 66,eh (aa 65) 0,.aw⟩,
 ⟨some 11,aG (aa 66),.aw⟩]
def Qm:List au:=
 [⟨some 67,ay (aa 8),.aw⟩,
 ⟨some 68,ay (aa 11),.aw⟩,
 ⟨some 69,aV ⟨bz (bG 24), #[aa 67,aa 68], #[60,9]⟩,.aw⟩,
 ⟨some 12,aG (aa 69),.aw⟩]
def Qn:List au:=
 [⟨some 70,ay (aa 12),.aw⟩,
 ⟨some 71,bg jq 67 (aa 70) (aD (lF none)) 67,.aw⟩]
def Qo:List au:=
 [⟨some 72,ay (aa 8),.aw⟩,
 ⟨some 73,dE (aa 72),.aw⟩,
 ⟨some 74,bC 65 (aa 73) 3,.aw⟩,
 ⟨some 75,aH 61 (aa 74),.aw⟩,
 ⟨some 76,ay (aa 11),.aw⟩,
 ⟨some 77,ay (aa 12),.aw⟩,
 ⟨none,ur 61 (aa 75) (aa 76) (aa 77),.aw⟩]
def xm:SC:=
 (.seq (.region Eo)
 (.seq (.cond (aa 64) .skip (.exit 2))
 (.block 3 (.seq (.region QD)
 (.seq (.region Qm)
 (.seq (.region Qn)
 (.cond (aa 71) (.region Qo) .skip)))))))
def Qp:List au:=
 [⟨some 78,bg dX 3 (aa 57) (aD (bm bn 1)) 3,.aw⟩,
 ⟨some 57,ay (aa 78),.aw⟩]
def zG:SC:=
 (.seq (.region En)
 (.seq (.cond (aa 58) .skip (.exit 0))
 (.seq (.block 1 (.seq (.region QB)
 (.seq (.region QC)
 (.block 2 (.loop xm)))))
 (.region Qp))))
def Qq:List au:=
 [⟨some 79,ay (aa 8),.aw⟩,
 ⟨some 80,dE (aa 79),.aw⟩,
 ⟨some 81,bC 65 (aa 80) 3,.aw⟩,
 ⟨some 82,aH 61 (aa 81),.aw⟩,
 ⟨some 83,aV ⟨bz (bG 26), #[aa 82], #[61]⟩,.aw⟩,
 ⟨some 84,aV ⟨bz (bG 25), #[aa 83], #[71]⟩,.aw⟩,
 ⟨some 85,aV ⟨cE cX, #[aa 84], #[37]⟩,.aw⟩,
 ⟨some 86,ay (aD (bm bn 0)),.aw⟩]
def Ek:List au:=
 [⟨some 87,bg dY 3 (aa 86) (aa 85) 3,.aw⟩]
def Qr:List au:=
 [⟨some 88,df 37 (aa 84) (aa 86),.aw⟩,
 ⟨some 89,aH 9 (aa 88),.aw⟩,
 ⟨some 14,aG (aa 89),.aw⟩]
def Qs:List au:=
 [⟨some 90,ay (aa 8),.aw⟩,
 ⟨some 91,ay (aa 8),.aw⟩,
 ⟨some 92,dE (aa 91),.aw⟩,
 ⟨some 93,bC 65 (aa 92) 3,.aw⟩,
 ⟨some 94,aH 61 (aa 93),.aw⟩,
 ⟨some 95,ay (aa 14),.aw⟩,
 ⟨some 96,mT 61 (aa 94) (aa 95) false,.aw⟩,
 ⟨some 97,aV ⟨bz (bG 27), #[aa 90,aa 96], #[60,67]⟩,.aw⟩]
def Qt:List au:=
 [⟨some 98,bg dX 3 (aa 86) (aD (bm bn 1)) 3,.aw⟩,
 ⟨some 86,ay (aa 98),.aw⟩]
def zH:SC:=
 (.seq (.region Ek)
 (.seq (.cond (aa 87) .skip (.exit 4))
 (.seq (.block 5 (.seq (.region Qr)
 (.region Qs)))
 (.region Qt))))
def Qu:List au:=
 [⟨some 15,ey 24,.aw⟩]
def Qv:List au:=
 [⟨some 99,ay (aa 8),.aw⟩,
 ⟨some 100,dE (aa 99),.aw⟩,
 ⟨some 101,bC 65 (aa 100) 3,.aw⟩,
 ⟨some 102,aH 61 (aa 101),.aw⟩,
 ⟨some 103,aV ⟨bz (bG 26), #[aa 102], #[61]⟩,.aw⟩,
 ⟨some 104,aV ⟨bz (bG 25), #[aa 103], #[71]⟩,.aw⟩,
 ⟨some 105,aV ⟨cE cX, #[aa 104], #[37]⟩,.aw⟩,
 ⟨some 106,ay (aD (bm bn 0)),.aw⟩]
def El:List au:=
 [⟨some 107,bg dY 3 (aa 106) (aa 105) 3,.aw⟩]
def Qw:List au:=
 [⟨some 108,df 37 (aa 104) (aa 106),.aw⟩,
 ⟨some 109,aH 9 (aa 108),.aw⟩,
 ⟨some 17,aG (aa 109),.aw⟩]
def tE:List au:=
 [⟨some 110,bC 24 (aa 15) 0,.aw⟩,
 ⟨some 111,aH 22 (aa 110),.aw⟩,
 ⟨some 112,ay (aa 8),.aw⟩,
 ⟨some 113,dE (aa 112),.aw⟩,
 ⟨some 114,bC 65 (aa 113) 3,.aw⟩,
 ⟨some 115,aH 61 (aa 114),.aw⟩,
 ⟨some 116,ay (aa 17),.aw⟩,
 ⟨some 117,mT 61 (aa 115) (aa 116) false,.aw⟩,
 ⟨some 118,dE (aa 117),.aw⟩,
 ⟨some 119,aH 40 (aa 118),.aw⟩,
 ⟨some 120,ka 22 1 #[(0,aa 119)],.aw⟩,
 ⟨some 121,aV ⟨cE mO, #[aa 111,aa 120], #[22,22]⟩,.aw⟩,
 ⟨some 122,bC 24 (aa 15) 0,.aw⟩,
 ⟨none,dw 22 (aa 122) (aa 121),.aw⟩]
def Qx:List au:=
 [⟨some 123,bg dX 3 (aa 106) (aD (bm bn 1)) 3,.aw⟩,
 ⟨some 106,ay (aa 123),.aw⟩]
def zI:SC:=
 (.seq (.region El)
 (.seq (.cond (aa 107) .skip (.exit 6))
 (.seq (.block 7 (.seq (.region Qw)
 (.draw tE agO)))
 (.region Qx))))
def Qy:List au:=
 [⟨some 124,ay (aa 8),.aw⟩,
 ⟨some 125,dE (aa 124),.aw⟩,
 ⟨some 126,bC 65 (aa 125) 4,.aw⟩,
 ⟨some 127,aH 63 (aa 126),.aw⟩,
 ⟨some 128,aV ⟨bz (bG 29), #[aa 127], #[63]⟩,.aw⟩,
 ⟨some 129,aV ⟨bz (bG 28), #[aa 128,bG 30], #[76,80]⟩,.aw⟩,
 ⟨some 18,aG (aa 129),.aw⟩]
def Qz:List au:=
 [⟨some 130,aH 24 (aa 15),.aw⟩,
 ⟨some 131,ay (aa 18),.aw⟩,
 ⟨none,dw 24 (aa 6) (aa 130),.aw⟩,
 ⟨some 7,aG (aa 131),.aw⟩]
def k9:SC:=
 (.seq (.region Qk)
 (.seq (.seq (.region Ql)
 (.cond (aa 31) (.seq (.region agS)
 .ret) .skip))
 (.seq (.draw Em Ej)
 (.seq (.seq (.draw QA agP)
 (.block 0 (.loop zG)))
 (.seq (.seq (.region Qq)
 (.block 4 (.loop zH)))
 (.seq (.region Qu)
 (.seq (.seq (.region Qv)
 (.block 6 (.loop zI)))
 (.seq (.region Qy)
 (.seq (.region Qz)
 .ret)))))))))
theorem agR:Tryz.prog.funcs[9]? =some Tryz.f9:=by kernel_rfl
theorem agQ:(Tryz.f9.body).map cy=some k9:=by kernel_rfl
theorem agU:Tryz.f9.ntmps=132:=by kernel_rfl
theorem agT:Tryz.f9.results.toList=[ResultVar.cell 6 24,dA 7]:=by kernel_rfl
theorem aaa:bB 9 3=1:=by kernel_rfl
theorem aab:bB 9 4=1:=by kernel_rfl
theorem aad:bB 9 5=1:=by kernel_rfl
theorem aag:bB 9 6=1:=by kernel_rfl
theorem Z9:bB 9 15=1:=by kernel_rfl
theorem aac:bB 9 42=0:=by kernel_rfl
theorem aae:bB 9 55=0:=by kernel_rfl
theorem aaf:bB 9 56=0:=by kernel_rfl
theorem aah:bB 9 85=0:=by kernel_rfl
theorem Z6:bB 9 105=0:=by kernel_rfl
theorem Z7:bB 9 120=0:=by kernel_rfl
theorem Z8:bB 9 121=0:=by kernel_rfl
def adI:List Nat:=[0,1,0,4,15,0,32,0,128,511,1023,2047,4095]
def Mr:List au:=
 [⟨some 2,ef 31 (aa 0),.aw⟩,
 ⟨some 3,ef 31 (aa 1),.aw⟩,
 ⟨some 4,aG (aD (bm bn 0)),.aw⟩]
def Ms:List au:=
 [⟨some 5,bC 31 (aa 2) 0,.aw⟩,
 ⟨some 6,aH 9 (aa 5),.aw⟩,
 ⟨some 7,bC 31 (aa 3) 0,.aw⟩,
 ⟨some 8,aH 9 (aa 7),.aw⟩,
 ⟨some 9,aV ⟨bz (bG 32), #[aa 6,aa 8], #[9,9]⟩,.aw⟩,
 ⟨some 10,bC 31 (aa 2) 1,.aw⟩,
 ⟨some 11,aH 9 (aa 10),.aw⟩,
 ⟨some 12,bC 31 (aa 3) 1,.aw⟩,
 ⟨some 13,aH 9 (aa 12),.aw⟩,
 ⟨some 14,aV ⟨bz (bG 32), #[aa 11,aa 13], #[9,9]⟩,.aw⟩,
 ⟨some 15,ka 55 2 #[(0,aa 9),(1,aa 14)],.aw⟩,
 ⟨some 16,aV ⟨bz (bG 31), #[aa 15], #[55]⟩,.aw⟩,
 ⟨some 4,aG (aa 16),.aw⟩]
def Mq:SC:=
 (.seq (.region Mr)
 (.seq (.draw Ms adI)
 .ret))
theorem adK:Tryz.prog.funcs[30]? =some Tryz.f30:=by kernel_rfl
theorem adJ:(Tryz.f30.body).map cy=some Mq:=by kernel_rfl
theorem adM:Tryz.f30.ntmps=17:=by kernel_rfl
theorem adL:Tryz.f30.results.toList=[dA 4]:=by kernel_rfl
theorem YR:bB 30 2=1:=by kernel_rfl
theorem YS:bB 30 3=1:=by kernel_rfl
theorem YQ:bB 30 15=0:=by kernel_rfl
def L7:List au:=
 [⟨some 1,ef 61 (aa 0),.aw⟩,
 ⟨some 2,aG (aD Value.nilFunc),.aw⟩]
def L8:List au:=
 [⟨some 3,Op.makeFunc (Fn.func 49) #[] #[aa 1],.aw⟩,
 ⟨some 2,aG (aa 3),.aw⟩]
def L6:SC:=
 (.seq (.region L7)
 (.seq (.region L8)
 .ret))
theorem ads:Tryz.prog.funcs[26]? =some Tryz.f26:=by kernel_rfl
theorem adr:(Tryz.f26.body).map cy=some L6:=by kernel_rfl
theorem adu:Tryz.f26.ntmps=4:=by kernel_rfl
theorem adt:Tryz.f26.results.toList=[dA 2]:=by kernel_rfl
theorem YN:bB 26 1=0:=by kernel_rfl
def aeW:List au:=
 [⟨some 2,ef 24 (aa 0),.aw⟩,
 ⟨some 3,ef 24 (aa 1),.aw⟩,
 ⟨some 4,aG (aD (bF false)),.aw⟩]
def aeX:List au:=
 [⟨some 12,aV ⟨bz (bG 7), #[], #[]⟩,.aw⟩,
 ⟨some 5,aG (aa 12),.aw⟩]
def aeY:List au:=
 [⟨some 13,aH 24 (aa 2),.aw⟩,
 ⟨some 14,aH 24 (aa 3),.aw⟩,
 ⟨some 15,aH 24 (aa 2),.aw⟩,
 ⟨some 16,aV ⟨bz (bG 8), #[aa 13,aa 14,aa 15], #[24,24,24]⟩,.aw⟩,
 ⟨some 17,fy UnOp.not 4 (aa 16),.aw⟩,
 ⟨some 18,ay (aa 17),.aw⟩,
 ⟨some 19,aH 24 (aa 3),(.when 18 false)⟩,
 ⟨some 20,aV ⟨bz (bG 12), #[aa 19], #[24]⟩,(.when 18 false)⟩,
 ⟨some 21,fy UnOp.not 4 (aa 20),(.when 18 false)⟩,
 ⟨some 22,cO (aa 18) (aD (bF true)) (aa 21),.aw⟩,
 ⟨some 23,ay (aa 22),.aw⟩,
 ⟨some 24,aH 24 (aa 2),(.when 23 false)⟩,
 ⟨some 25,aV ⟨bz (bG 13), #[aa 24], #[24]⟩,(.when 23 false)⟩,
 ⟨some 26,fy UnOp.not 4 (aa 25),(.when 23 false)⟩,
 ⟨some 27,cO (aa 23) (aD (bF true)) (aa 26),.aw⟩]
def aeZ:List au:=
 [⟨some 28,ay (aa 5),.aw⟩,
 ⟨some 4,aG (aa 28),.aw⟩]
def ae0:List au:=
 [⟨some 30,aH 24 (aa 2),.aw⟩,
 ⟨some 31,aH 24 (aa 3),.aw⟩,
 ⟨some 32,aH 24 (aa 2),.aw⟩,
 ⟨some 33,aV ⟨bz (bG 9), #[aa 30,aa 31,aa 32], #[24,24,24]⟩,.aw⟩,
 ⟨some 29,ay (aa 33),.aw⟩,
 ⟨some 34,eh (aa 29) 0,.aw⟩,
 ⟨some 35,eh (aa 29) 1,.aw⟩,
 ⟨some 6,ey 24,.aw⟩,
 ⟨none,dw 24 (aa 6) (aa 34),.aw⟩,
 ⟨some 7,aG (aa 35),.aw⟩]
def ae1:List au:=
 [⟨some 37,aH 24 (aa 2),.aw⟩,
 ⟨some 38,aH 24 (aa 2),.aw⟩,
 ⟨some 39,aH 24 (aa 3),.aw⟩,
 ⟨some 40,aV ⟨bz (bG 9), #[aa 37,aa 38,aa 39], #[24,24,24]⟩,.aw⟩,
 ⟨some 36,ay (aa 40),.aw⟩,
 ⟨some 41,eh (aa 36) 0,.aw⟩,
 ⟨some 42,eh (aa 36) 1,.aw⟩,
 ⟨some 8,ey 24,.aw⟩,
 ⟨none,dw 24 (aa 8) (aa 41),.aw⟩,
 ⟨some 9,aG (aa 42),.aw⟩]
def ae2:List au:=
 [⟨some 44,aH 24 (aa 2),.aw⟩,
 ⟨some 45,aH 24 (aa 3),.aw⟩,
 ⟨some 46,aH 24 (aa 3),.aw⟩,
 ⟨some 47,aV ⟨bz (bG 9), #[aa 44,aa 45,aa 46], #[24,24,24]⟩,.aw⟩,
 ⟨some 43,ay (aa 47),.aw⟩,
 ⟨some 48,eh (aa 43) 0,.aw⟩,
 ⟨some 49,eh (aa 43) 1,.aw⟩,
 ⟨some 10,ey 24,.aw⟩,
 ⟨none,dw 24 (aa 10) (aa 48),.aw⟩,
 ⟨some 11,aG (aa 49),.aw⟩]
def ae3:List au:=
 [⟨some 50,ay (aa 5),.aw⟩,
 ⟨some 51,ay (aa 50),.aw⟩,
 ⟨some 52,aH 24 (aa 6),(.when 51 true)⟩,
 ⟨some 53,aH 24 (aa 3),(.when 51 true)⟩,
 ⟨some 54,aV ⟨bz (bG 10), #[aa 52,aa 53], #[24,24]⟩,(.when 51 true)⟩,
 ⟨some 55,cO (aa 51) (aa 54) (aD (bF false)),.aw⟩,
 ⟨some 56,ay (aa 55),.aw⟩,
 ⟨some 57,ay (aa 7),(.when 56 true)⟩,
 ⟨some 58,aV ⟨cE cX, #[aa 57], #[27]⟩,(.when 56 true)⟩,
 ⟨some 59,bg eL 3 (aa 58) (aD (bm bn 0)) 3,(.when 56 true)⟩,
 ⟨some 60,cO (aa 56) (aa 59) (aD (bF false)),.aw⟩,
 ⟨some 61,ay (aa 60),.aw⟩,
 ⟨some 62,aH 24 (aa 8),(.when 61 true)⟩,
 ⟨some 63,aH 24 (aa 3),(.when 61 true)⟩,
 ⟨some 64,aV ⟨bz (bG 10), #[aa 62,aa 63], #[24,24]⟩,(.when 61 true)⟩,
 ⟨some 65,cO (aa 61) (aa 64) (aD (bF false)),.aw⟩,
 ⟨some 66,ay (aa 65),.aw⟩,
 ⟨some 67,ay (aa 9),(.when 66 true)⟩,
 ⟨some 68,aV ⟨cE cX, #[aa 67], #[27]⟩,(.when 66 true)⟩,
 ⟨some 69,bg eL 3 (aa 68) (aD (bm bn 0)) 3,(.when 66 true)⟩,
 ⟨some 70,cO (aa 66) (aa 69) (aD (bF false)),.aw⟩,
 ⟨some 71,ay (aa 70),.aw⟩,
 ⟨some 72,aH 24 (aa 10),(.when 71 true)⟩,
 ⟨some 73,aH 24 (aa 3),(.when 71 true)⟩,
 ⟨some 74,aV ⟨bz (bG 10), #[aa 72,aa 73], #[24,24]⟩,(.when 71 true)⟩,
 ⟨some 75,cO (aa 71) (aa 74) (aD (bF false)),.aw⟩,
 ⟨some 76,ay (aa 75),.aw⟩,
 ⟨some 77,ay (aa 11),(.when 76 true)⟩,
 ⟨some 78,aV ⟨cE cX, #[aa 77], #[27]⟩,(.when 76 true)⟩,
 ⟨some 79,bg eL 3 (aa 78) (aD (bm bn 0)) 3,(.when 76 true)⟩,
 ⟨some 80,cO (aa 76) (aa 79) (aD (bF false)),.aw⟩,
 ⟨some 4,aG (aa 80),.aw⟩]
def k4:SC:=
 (.seq (.region aeW)
 (.seq (.region aeX)
 (.seq (.seq (.region aeY)
 (.cond (aa 27) (.seq (.region aeZ)
 .ret) .skip))
 (.seq (.region ae0)
 (.seq (.region ae1)
 (.seq (.region ae2)
 (.seq (.region ae3)
 .ret)))))))
def Qa:List au:=
 [⟨some 3,ef 24 (aa 0),.aw⟩,
 ⟨some 4,ef 24 (aa 1),.aw⟩,
 ⟨some 5,ef 24 (aa 2),.aw⟩,
 ⟨some 6,aG (aD (bF false)),.aw⟩]
def Qb:List au:=
 [⟨some 7,aH 24 (aa 3),.aw⟩,
 ⟨some 8,aV ⟨bz (bG 22), #[aa 7,aD (bm bn 20)], #[24,3]⟩,.aw⟩,
 ⟨some 9,ay (aa 8),.aw⟩,
 ⟨some 10,aH 24 (aa 4),(.when 9 true)⟩,
 ⟨some 11,aV ⟨bz (bG 22), #[aa 10,aD (bm bn 20)], #[24,3]⟩,(.when 9 true)⟩,
 ⟨some 12,cO (aa 9) (aa 11) (aD (bF false)),.aw⟩,
 ⟨some 13,ay (aa 12),.aw⟩,
 ⟨some 14,aH 24 (aa 5),(.when 13 true)⟩,
 ⟨some 15,aV ⟨bz (bG 22), #[aa 14,aD (bm bn 20)], #[24,3]⟩,(.when 13 true)⟩,
 ⟨some 16,cO (aa 13) (aa 15) (aD (bF false)),.aw⟩,
 ⟨some 6,aG (aa 16),.aw⟩]
def k8:SC:=
 (.seq (.region Qa)
 (.seq (.region Qb)
 .ret))
theorem agH:Tryz.prog.funcs[8]? =some Tryz.f8:=by kernel_rfl
theorem agG:(Tryz.f8.body).map cy=some k8:=by kernel_rfl
theorem agJ:Tryz.f8.ntmps=17:=by kernel_rfl
theorem agI:Tryz.f8.results.toList=[dA 6]:=by kernel_rfl
theorem Z3:bB 8 3=1:=by kernel_rfl
theorem Z4:bB 8 4=1:=by kernel_rfl
theorem Z5:bB 8 5=1:=by kernel_rfl
def Mo:List au:=
 [⟨some 1,ef 63 (aa 0),.aw⟩,
 ⟨some 2,aG (aD Value.nilFunc),.aw⟩]
def Mp:List au:=
 [⟨some 3,Op.makeFunc (Fn.func 52) #[] #[aa 1],.aw⟩,
 ⟨some 2,aG (aa 3),.aw⟩]
def Mn:SC:=
 (.seq (.region Mo)
 (.seq (.region Mp)
 .ret))
theorem adF:Tryz.prog.funcs[29]? =some Tryz.f29:=by kernel_rfl
theorem adE:(Tryz.f29.body).map cy=some Mn:=by kernel_rfl
theorem adH:Tryz.f29.ntmps=4:=by kernel_rfl
theorem adG:Tryz.f29.results.toList=[dA 2]:=by kernel_rfl
theorem YP:bB 29 1=0:=by kernel_rfl
def Mu:List au:=
 [⟨some 2,aG (aD (bm bn 0)),.aw⟩]
def Mv:List au:=
 [⟨some 3,aG (aD (bm bn 0)),.aw⟩]
def Mw:List au:=
 [⟨some 6,ay (aa 0),.aw⟩,
 ⟨some 7,aV ⟨cE cX, #[aa 6], #[55]⟩,.aw⟩,
 ⟨some 8,ay (aD (bm bn 0)),.aw⟩]
def Dy:List au:=
 [⟨some 9,bg dY 3 (aa 8) (aa 7) 3,.aw⟩]
def Mx:List au:=
 [⟨some 10,df 55 (aa 6) (aa 8),.aw⟩,
 ⟨some 11,aH 3 (aa 10),.aw⟩,
 ⟨some 5,aG (aa 11),.aw⟩]
def My:List au:=
 [⟨some 12,ay (aa 5),.aw⟩,
 ⟨some 13,ay (aa 3),.aw⟩,
 ⟨some 14,bg jq 3 (aa 12) (aa 13) 3,.aw⟩]
def Mz:List au:=
 [⟨some 15,ay (aa 5),.aw⟩,
 ⟨some 2,aG (aa 15),.aw⟩]
def MA:List au:=
 [⟨some 16,bg dX 3 (aa 8) (aD (bm bn 1)) 3,.aw⟩,
 ⟨some 8,ay (aa 16),.aw⟩]
def zg:SC:=
 (.seq (.region Dy)
 (.seq (.cond (aa 9) .skip (.exit 0))
 (.seq (.block 1 (.seq (.region Mx)
 (.seq (.region My)
 (.cond (aa 14) (.seq (.region Mz)
 .ret) .skip))))
 (.region MA))))
def MB:List au:=
 [⟨some 17,ay (aa 3),.aw⟩,
 ⟨some 2,aG (aa 17),.aw⟩]
def Mt:SC:=
 (.seq (.region Mu)
 (.seq (.region Mv)
 (.seq (.seq (.region Mw)
 (.block 0 (.loop zg)))
 (.seq (.region MB)
 .ret))))
theorem adO:Tryz.prog.funcs[31]? =some Tryz.f31:=by kernel_rfl
theorem adN:(Tryz.f31.body).map cy=some Mt:=by kernel_rfl
theorem adQ:Tryz.f31.ntmps=18:=by kernel_rfl
theorem adP:Tryz.f31.results.toList=[dA 2]:=by kernel_rfl
theorem YT:bB 31 7=0:=by kernel_rfl
def Jm:List au:=
 [⟨some 4,aG (aD (bm bn 0)),.aw⟩]
def Jn:List au:=
 [⟨some 7,ay (aa 0),.aw⟩,
 ⟨some 8,aV ⟨bz (bG 187), #[aa 7], #[3]⟩,.aw⟩,
 ⟨some 5,aG (aa 8),.aw⟩]
def Js:List au:=
 [⟨some 9,ay (aa 1),.aw⟩,
 ⟨some 10,aV ⟨bz (bG 187), #[aa 9], #[3]⟩,.aw⟩,
 ⟨some 6,aG (aa 10),.aw⟩]
def Jt:List au:=
 [⟨some 11,ay (aa 5),.aw⟩]
def abB:List au:=
 [⟨some 12,ay (aa 6),.aw⟩]
def abC:List au:=
 [⟨some 4,aG (aD (bm bn 0)),.aw⟩]
def abD:List au:=
 [⟨some 4,aG (aD (bm bn (-1))),.aw⟩]
def Ju:List au:=
 [⟨some 13,ay (aa 6),.aw⟩]
def abE:List au:=
 [⟨some 4,aG (aD (bm bn 1)),.aw⟩]
def Jv:List au:=
 [⟨some 14,ay (aa 0),.aw⟩,
 ⟨some 15,ay (aa 1),.aw⟩,
 ⟨some 16,bg dY 3 (aa 14) (aa 15) 3,.aw⟩]
def Jo:List au:=
 [⟨some 4,aG (aD (bm bn (-1))),.aw⟩]
def Jp:List au:=
 [⟨some 17,ay (aa 0),.aw⟩,
 ⟨some 18,ay (aa 1),.aw⟩,
 ⟨some 19,bg nH 3 (aa 17) (aa 18) 3,.aw⟩]
def Jq:List au:=
 [⟨some 4,aG (aD (bm bn 1)),.aw⟩]
def Jr:List au:=
 [⟨some 4,aG (aD (bm bn 0)),.aw⟩]
def Jl:SC:=
 (.seq (.region Jm)
 (.seq (.region Jn)
 (.seq (.region Js)
 (.seq (.seq (.region Jt)
 (.cond (aa 11) (.seq (.seq (.region abB)
 (.cond (aa 12) (.seq (.region abC)
 .ret) .skip))
 (.seq (.region abD)
 .ret)) .skip))
 (.seq (.seq (.region Ju)
 (.cond (aa 13) (.seq (.region abE)
 .ret) .skip))
 (.seq (.seq (.region Jv)
 (.cond (aa 16) (.seq (.region Jo)
 .ret) .skip))
 (.seq (.seq (.region Jp)
 (.cond (aa 19) (.seq (.region Jq)
 .ret) .skip))
 (.seq (.region Jr)
 .ret))))))))
theorem abA:Tryz.prog.funcs[122]? =some Tryz.f122:=by kernel_rfl
theorem abz:(Tryz.f122.body).map cy=some Jl:=by kernel_rfl
theorem abG:Tryz.f122.ntmps=20:=by kernel_rfl
theorem abF:Tryz.f122.results.toList=[dA 4]:=by kernel_rfl
def KS:List au:=
 [⟨some 2,aG (aD (bF false)),.aw⟩]
def KT:List au:=
 [⟨some 3,ay (aa 0),.aw⟩,
 ⟨some 4,ay (aa 0),.aw⟩,
 ⟨some 5,bg jq 3 (aa 3) (aa 4) 3,.aw⟩,
 ⟨some 2,aG (aa 5),.aw⟩]
def KR:SC:=
 (.seq (.region KS)
 (.seq (.region KT)
 .ret))
theorem acL:Tryz.prog.funcs[187]? =some Tryz.f187:=by kernel_rfl
theorem acK:(Tryz.f187.body).map cy=some KR:=by kernel_rfl
theorem acN:Tryz.f187.ntmps=6:=by kernel_rfl
theorem acM:Tryz.f187.results.toList=[dA 2]:=by kernel_rfl
def Jd:List au:=
 [⟨some 2,ef 36 (aa 0),.aw⟩,
 ⟨some 3,ef 36 (aa 1),.aw⟩,
 ⟨some 4,aG (aD (bm bn 0)),.aw⟩]
def Je:List au:=
 [⟨some 5,bC 36 (aa 2) 0,.aw⟩,
 ⟨some 6,aH 3 (aa 5),.aw⟩,
 ⟨some 7,bC 36 (aa 3) 0,.aw⟩,
 ⟨some 8,aH 3 (aa 7),.aw⟩,
 ⟨some 9,jJ 254 #[(0,aa 6),(1,aa 8)],.aw⟩,
 ⟨some 10,bC 36 (aa 2) 1,.aw⟩,
 ⟨some 11,aH 3 (aa 10),.aw⟩,
 ⟨some 12,bC 36 (aa 3) 1,.aw⟩,
 ⟨some 13,aH 3 (aa 12),.aw⟩,
 ⟨some 14,jJ 254 #[(0,aa 11),(1,aa 13)],.aw⟩,
 ⟨some 15,ka 349 2 #[(0,aa 9),(1,aa 14)],.aw⟩,
 ⟨some 16,aV ⟨bz (bG 184), #[aa 15], #[349]⟩,.aw⟩,
 ⟨some 4,aG (aa 16),.aw⟩]
def Jc:SC:=
 (.seq (.region Jd)
 (.seq (.region Je)
 .ret))
theorem abn:Tryz.prog.funcs[119]? =some Tryz.f119:=by kernel_rfl
theorem abm:(Tryz.f119.body).map cy=some Jc:=by kernel_rfl
theorem abp:Tryz.f119.ntmps=17:=by kernel_rfl
theorem abo:Tryz.f119.results.toList=[dA 4]:=by kernel_rfl
theorem Yf:bB 119 2=1:=by kernel_rfl
theorem Yg:bB 119 3=1:=by kernel_rfl
theorem Ye:bB 119 15=0:=by kernel_rfl
def Kv:List au:=
 [⟨some 2,aG (aD (bm bn 0)),.aw⟩]
def Kw:List au:=
 [⟨some 6,ay (aa 0),.aw⟩,
 ⟨some 7,aV ⟨cE cX, #[aa 6], #[349]⟩,.aw⟩,
 ⟨some 8,ay (aD (bm bn 0)),.aw⟩]
def Df:List au:=
 [⟨some 9,bg dY 3 (aa 8) (aa 7) 3,.aw⟩]
def Kx:List au:=
 [⟨some 10,df 349 (aa 6) (aa 8),.aw⟩,
 ⟨some 11,aH 254 (aa 10),.aw⟩,
 ⟨some 4,ey 254,.aw⟩,
 ⟨none,dw 254 (aa 4) (aa 11),.aw⟩]
def Ky:List au:=
 [⟨some 12,df 254 (aa 4) (aD (bm bn 0)),.aw⟩,
 ⟨some 13,aH 3 (aa 12),.aw⟩,
 ⟨some 14,df 254 (aa 4) (aD (bm bn 1)),.aw⟩,
 ⟨some 15,aH 3 (aa 14),.aw⟩,
 ⟨some 16,aV ⟨bz (bG 122), #[aa 13,aa 15], #[3,3]⟩,.aw⟩,
 ⟨some 5,aG (aa 16),.aw⟩]
def Kz:List au:=
 [⟨some 17,ay (aa 5),.aw⟩,
 ⟨some 18,bg jq 3 (aa 17) (aD (bm bn 0)) 3,.aw⟩]
def KA:List au:=
 [⟨some 19,ay (aa 5),.aw⟩,
 ⟨some 2,aG (aa 19),.aw⟩]
def KB:List au:=
 [⟨some 20,bg dX 3 (aa 8) (aD (bm bn 1)) 3,.aw⟩,
 ⟨some 8,ay (aa 20),.aw⟩]
def y8:SC:=
 (.seq (.region Df)
 (.seq (.cond (aa 9) .skip (.exit 0))
 (.seq (.block 1 (.seq (.region Kx)
 (.seq (.region Ky)
 (.seq (.region Kz)
 (.cond (aa 18) (.seq (.region KA)
 .ret) .skip)))))
 (.region KB))))
def KC:List au:=
 [⟨some 2,aG (aD (bm bn 0)),.aw⟩]
def Ku:SC:=
 (.seq (.region Kv)
 (.seq (.seq (.region Kw)
 (.block 0 (.loop y8)))
 (.seq (.region KC)
 .ret)))
theorem acz:Tryz.prog.funcs[184]? =some Tryz.f184:=by kernel_rfl
theorem acy:(Tryz.f184.body).map cy=some Ku:=by kernel_rfl
theorem acB:Tryz.f184.ntmps=21:=by kernel_rfl
theorem acA:Tryz.f184.results.toList=[dA 2]:=by kernel_rfl
theorem YB:bB 184 4=1:=by kernel_rfl
theorem YC:bB 184 7=0:=by kernel_rfl
def D2:List au:=
 [⟨some 7,ef 36 (aa 2),.aw⟩,
 ⟨some 8,ef 36 (aa 3),.aw⟩,
 ⟨some 9,ef 36 (aa 4),.aw⟩,
 ⟨some 10,ey 36,.aw⟩]
def D3:List au:=
 [⟨some 12,aH 36 (aa 8),.aw⟩,
 ⟨some 13,aH 36 (aa 9),.aw⟩,
 ⟨some 14,bg eL 36 (aa 12) (aa 13) 36,.aw⟩,
 ⟨some 11,aG (aa 14),.aw⟩]
def D4:List au:=
 [⟨some 15,aH 36 (aa 9),.aw⟩,
 ⟨some 16,aH 36 (aa 7),.aw⟩,
 ⟨some 17,bg eL 36 (aa 15) (aa 16) 36,.aw⟩,
 ⟨some 11,aG (aa 17),.aw⟩]
def D5:List au:=
 [⟨some 18,aH 36 (aa 8),.aw⟩,
 ⟨none,dw 36 (aa 10) (aa 18),.aw⟩]
def D6:List au:=
 [⟨some 20,aH 36 (aa 8),.aw⟩,
 ⟨some 21,aH 36 (aa 7),.aw⟩,
 ⟨some 22,bg eL 36 (aa 20) (aa 21) 36,.aw⟩,
 ⟨some 19,aG (aa 22),.aw⟩]
def Pn:List au:=
 [⟨some 23,aH 36 (aa 9),.aw⟩,
 ⟨none,dw 36 (aa 10) (aa 23),.aw⟩]
def Po:List au:=
 [⟨some 24,ay (aa 0),.aw⟩,
 ⟨some 25,ay (aa 1),.aw⟩,
 ⟨some 26,aV {callee:=bz (bG 45),args:= #[aa 24,aa 25,aD (iQ {data:= #[97,116] })],argTypes:= #[60,9,9] },.aw⟩]
def Pp:List au:=
 [⟨some 27,aH 36 (aa 8),.aw⟩,
 ⟨some 28,aH 36 (aa 9),.aw⟩,
 ⟨some 29,ka 192 2 #[(0,aa 27),(1,aa 28)],.aw⟩,
 ⟨some 30,aV ⟨bz (bG 118), #[aa 29,bG 119], #[192,193]⟩,.aw⟩,
 ⟨none,dw 36 (aa 10) (aa 30),.aw⟩]
def D1:SC:=
 (.seq (.region D2)
 (.seq (.block 0 (.seq (.seq (.region D3)
 (.cond (aa 11) .skip (.region D4)))
 (.cond (aa 11) (.seq (.region D5)
 .ret) (.seq (.region D6)
 (.cond (aa 19) (.seq (.region Pn)
 .ret) .skip)))))
 (.seq (.region Po)
 (.seq (.region Pp)
 .ret))))
theorem Pm:Tryz.prog.funcs[75]? =some Tryz.f75:=by kernel_rfl
theorem Pl:(Tryz.f75.body).map cy=some D1:=by kernel_rfl
theorem Pr:Tryz.f75.ntmps=31:=by kernel_rfl
theorem Pq:Tryz.f75.results.toList=[ResultVar.cell 10 36]:=by kernel_rfl
theorem H7:bB 75 7=1:=by kernel_rfl
theorem H8:bB 75 8=1:=by kernel_rfl
theorem H9:bB 75 9=1:=by kernel_rfl
theorem H6:bB 75 10=1:=by kernel_rfl
theorem ZI:bB 75 29=0:=by kernel_rfl
def abg:List Nat:=[0,0,0,6,14,0,63,127]
def I6:List au:=
 [⟨some 4,ey 36,.aw⟩]
def I7:List au:=
 [⟨some 7,ay (aa 0),.aw⟩,
 ⟨some 8,aV ⟨cE cX, #[aa 7], #[192]⟩,.aw⟩,
 ⟨some 9,bg dY 3 (aa 8) (aD (bm bn 1)) 3,.aw⟩]
def abj:List au:=
 [⟨some 10,Op.makeInterface 9 (aD (iQ {data:= #[115,108,105,99,101,115,46,77,105,110,70,117,110,99,58,32,101,109,112,116,121,32,108,105,115,116] })),.aw⟩,
 ⟨none,Op.panic (aa 10),.aw⟩]
def I8:List au:=
 [⟨some 11,ay (aa 0),.aw⟩,
 ⟨some 12,df 192 (aa 11) (aD (bm bn 0)),.aw⟩,
 ⟨some 13,aH 36 (aa 12),.aw⟩,
 ⟨some 5,ey 36,.aw⟩,
 ⟨none,dw 36 (aa 5) (aa 13),.aw⟩]
def I9:List au:=
 [⟨some 6,aG (aD (bm bn 1)),.aw⟩]
def yZ:List au:=
 [⟨some 14,ay (aa 6),.aw⟩,
 ⟨some 15,ay (aa 0),.aw⟩,
 ⟨some 16,aV ⟨cE cX, #[aa 15], #[192]⟩,.aw⟩,
 ⟨some 17,bg dY 3 (aa 14) (aa 16) 3,.aw⟩]
def Ja:List au:=
 [⟨some 20,ay (aa 1),.aw⟩,
 ⟨some 21,ay (aa 0),.aw⟩,
 ⟨some 22,ay (aa 6),.aw⟩,
 ⟨some 23,df 192 (aa 21) (aa 22),.aw⟩,
 ⟨some 24,aH 36 (aa 23),.aw⟩,
 ⟨some 25,aH 36 (aa 5),.aw⟩,
 ⟨some 26,aV ⟨bz (aa 20), #[aa 24,aa 25], #[36,36]⟩,.aw⟩,
 ⟨some 27,bg dY 3 (aa 26) (aD (bm bn 0)) 3,.aw⟩]
def Jb:List au:=
 [⟨some 28,ay (aa 0),.aw⟩,
 ⟨some 29,ay (aa 6),.aw⟩,
 ⟨some 30,df 192 (aa 28) (aa 29),.aw⟩,
 ⟨some 31,aH 36 (aa 30),.aw⟩,
 ⟨none,dw 36 (aa 5) (aa 31),.aw⟩]
def C5:List au:=
 [⟨some 18,ay (aa 6),.aw⟩,
 ⟨some 19,bg dX 3 (aa 18) (aD (bm bn 1)) 3,.aw⟩,
 ⟨some 6,aG (aa 19),.aw⟩]
def yY:SC:=
 (.seq (.seq (.region yZ)
 (.cond (aa 17) .skip (.exit 0)))
 (.seq (.block 1 (.seq (.draw Ja abg)
 (.cond (aa 27) (.region Jb) .skip)))
 (.region C5)))
def C6:List au:=
 [⟨some 32,aH 36 (aa 5),.aw⟩,
 ⟨none,dw 36 (aa 4) (aa 32),.aw⟩]
def I5:SC:=
 (.seq (.region I6)
 (.seq (.seq (.region I7)
 (.cond (aa 9) (.region abj) .skip))
 (.seq (.region I8)
 (.seq (.seq (.region I9)
 (.block 0 (.loop yY)))
 (.seq (.region C6)
 .ret)))))
theorem abi:Tryz.prog.funcs[118]? =some Tryz.f118:=by kernel_rfl
theorem abh:(Tryz.f118.body).map cy=some I5:=by kernel_rfl
theorem abl:Tryz.f118.ntmps=33:=by kernel_rfl
theorem abk:Tryz.f118.results.toList=[ResultVar.cell 4 36]:=by kernel_rfl
theorem Yb:bB 118 4=1:=by kernel_rfl
theorem Yc:bB 118 5=1:=by kernel_rfl
theorem Yd:bB 118 8=0:=by kernel_rfl
theorem CI:bB 118 16=0:=by kernel_rfl
def agn:List Nat:=[0,1,3,7,0,16,48,112,255,0,512,1536,3584,0,8192,24576,57344,131071,0,262144,786432,1835008,0,4194304,12582912,29360128,67108863,0,134217728,402653184,939524096,2147483647,0,4294967296,12884901888,30064771072,68719476735,137438953471,274877906943,549755813887,1099511627775]
def PP:List au:=
 [⟨some 4,aG (aD (bm bn 0)),.aw⟩]
def PQ:List au:=
 [⟨some 5,ay (aa 0),.aw⟩,
 ⟨some 6,dE (aa 5),.aw⟩,
 ⟨some 7,bC 40 (aa 6) 1,.aw⟩,
 ⟨some 8,aH 3 (aa 7),.aw⟩,
 ⟨some 9,ay (aa 1),.aw⟩,
 ⟨some 10,dE (aa 9),.aw⟩,
 ⟨some 11,bC 40 (aa 10) 1,.aw⟩,
 ⟨some 12,aH 3 (aa 11),.aw⟩,
 ⟨some 13,aV ⟨bz (bG 122), #[aa 8,aa 12], #[3,3]⟩,.aw⟩,
 ⟨some 14,ay (aa 0),.aw⟩,
 ⟨some 15,dE (aa 14),.aw⟩,
 ⟨some 16,bC 40 (aa 15) 2,.aw⟩,
 ⟨some 17,aH 36 (aa 16),.aw⟩,
 ⟨some 18,ay (aa 1),.aw⟩,
 ⟨some 19,dE (aa 18),.aw⟩,
 ⟨some 20,bC 40 (aa 19) 2,.aw⟩,
 ⟨some 21,aH 36 (aa 20),.aw⟩,
 ⟨some 22,aV ⟨bz (bG 119), #[aa 17,aa 21], #[36,36]⟩,.aw⟩,
 ⟨some 23,ay (aa 0),.aw⟩,
 ⟨some 24,dE (aa 23),.aw⟩,
 ⟨some 25,bC 40 (aa 24) 3,.aw⟩,
 ⟨some 26,aH 37 (aa 25),.aw⟩,
 ⟨some 27,ay (aa 1),.aw⟩,
 ⟨some 28,dE (aa 27),.aw⟩,
 ⟨some 29,bC 40 (aa 28) 3,.aw⟩,
 ⟨some 30,aH 37 (aa 29),.aw⟩,
 ⟨some 31,aV ⟨bz (bG 123), #[aa 26,aa 30], #[37,37]⟩,.aw⟩,
 ⟨some 32,ay (aa 0),.aw⟩,
 ⟨some 33,dE (aa 32),.aw⟩,
 ⟨some 34,bC 40 (aa 33) 4,.aw⟩,
 ⟨some 35,aH 38 (aa 34),.aw⟩,
 ⟨some 36,aV ⟨bz (bG 124), #[aa 35], #[38]⟩,.aw⟩,
 ⟨some 37,ay (aa 1),.aw⟩,
 ⟨some 38,dE (aa 37),.aw⟩,
 ⟨some 39,bC 40 (aa 38) 4,.aw⟩,
 ⟨some 40,aH 38 (aa 39),.aw⟩,
 ⟨some 41,aV ⟨bz (bG 124), #[aa 40], #[38]⟩,.aw⟩,
 ⟨some 42,aV ⟨bz (bG 123), #[aa 36,aa 41], #[37,37]⟩,.aw⟩,
 ⟨some 43,ka 55 4 #[(0,aa 13),(1,aa 22),(2,aa 31),(3,aa 42)],.aw⟩,
 ⟨some 44,aV ⟨bz (bG 31), #[aa 43], #[55]⟩,.aw⟩,
 ⟨some 4,aG (aa 44),.aw⟩]
def PO:SC:=
 (.seq (.region PP)
 (.seq (.draw PQ agn)
 .ret))
theorem agp:Tryz.prog.funcs[77]? =some Tryz.f77:=by kernel_rfl
theorem ago:(Tryz.f77.body).map cy=some PO:=by kernel_rfl
theorem agr:Tryz.f77.ntmps=45:=by kernel_rfl
theorem agq:Tryz.f77.results.toList=[dA 4]:=by kernel_rfl
theorem ZV:bB 77 43=0:=by kernel_rfl
def Jx:List au:=
 [⟨some 4,aG (aD (bm bn 0)),.aw⟩]
def Jy:List au:=
 [⟨some 9,ay (aa 0),.aw⟩,
 ⟨some 10,aV ⟨cE cX, #[aa 9], #[37]⟩,.aw⟩,
 ⟨some 11,ay (aD (bm bn 0)),.aw⟩]
def C8:List au:=
 [⟨some 12,bg dY 3 (aa 11) (aa 10) 3,.aw⟩]
def JD:List au:=
 [⟨some 13,ay (aa 11),.aw⟩,
 ⟨some 14,df 37 (aa 9) (aa 11),.aw⟩,
 ⟨some 15,aH 9 (aa 14),.aw⟩,
 ⟨some 5,aG (aa 13),.aw⟩,
 ⟨some 6,aG (aa 15),.aw⟩]
def JE:List au:=
 [⟨some 16,ay (aa 5),.aw⟩,
 ⟨some 17,ay (aa 1),.aw⟩,
 ⟨some 18,aV ⟨cE cX, #[aa 17], #[37]⟩,.aw⟩,
 ⟨some 19,bg pA 3 (aa 16) (aa 18) 3,.aw⟩]
def JF:List au:=
 [⟨some 4,aG (aD (bm bn 1)),.aw⟩]
def JG:List au:=
 [⟨some 20,ay (aa 1),.aw⟩,
 ⟨some 21,ay (aa 5),.aw⟩,
 ⟨some 22,df 37 (aa 20) (aa 21),.aw⟩,
 ⟨some 23,aH 9 (aa 22),.aw⟩,
 ⟨some 7,aG (aa 23),.aw⟩]
def JH:List au:=
 [⟨some 24,ay (aa 6),.aw⟩,
 ⟨some 25,ay (aa 7),.aw⟩,
 ⟨some 26,aV ⟨bz (bG 188), #[aa 24,aa 25], #[9,9]⟩,.aw⟩,
 ⟨some 8,aG (aa 26),.aw⟩]
def JI:List au:=
 [⟨some 27,ay (aa 8),.aw⟩,
 ⟨some 28,bg jq 3 (aa 27) (aD (bm bn 0)) 3,.aw⟩]
def JJ:List au:=
 [⟨some 29,ay (aa 8),.aw⟩,
 ⟨some 4,aG (aa 29),.aw⟩]
def Jz:List au:=
 [⟨some 30,bg dX 3 (aa 11) (aD (bm bn 1)) 3,.aw⟩,
 ⟨some 11,ay (aa 30),.aw⟩]
def y5:SC:=
 (.seq (.region C8)
 (.seq (.cond (aa 12) .skip (.exit 0))
 (.seq (.block 1 (.seq (.region JD)
 (.seq (.seq (.region JE)
 (.cond (aa 19) (.seq (.region JF)
 .ret) .skip))
 (.seq (.region JG)
 (.seq (.region JH)
 (.seq (.region JI)
 (.cond (aa 28) (.seq (.region JJ)
 .ret) .skip)))))))
 (.region Jz))))
def JA:List au:=
 [⟨some 31,ay (aa 0),.aw⟩,
 ⟨some 32,aV ⟨cE cX, #[aa 31], #[37]⟩,.aw⟩,
 ⟨some 33,ay (aa 1),.aw⟩,
 ⟨some 34,aV ⟨cE cX, #[aa 33], #[37]⟩,.aw⟩,
 ⟨some 35,bg dY 3 (aa 32) (aa 34) 3,.aw⟩]
def JB:List au:=
 [⟨some 4,aG (aD (bm bn (-1))),.aw⟩]
def JC:List au:=
 [⟨some 4,aG (aD (bm bn 0)),.aw⟩]
def Jw:SC:=
 (.seq (.region Jx)
 (.seq (.seq (.region Jy)
 (.block 0 (.loop y5)))
 (.seq (.seq (.region JA)
 (.cond (aa 35) (.seq (.region JB)
 .ret) .skip))
 (.seq (.region JC)
 .ret))))
theorem abI:Tryz.prog.funcs[123]? =some Tryz.f123:=by kernel_rfl
theorem abH:(Tryz.f123.body).map cy=some Jw:=by kernel_rfl
theorem abK:Tryz.f123.ntmps=36:=by kernel_rfl
theorem abJ:Tryz.f123.results.toList=[dA 4]:=by kernel_rfl
theorem Yi:bB 123 10=0:=by kernel_rfl
theorem Yj:bB 123 32=0:=by kernel_rfl
theorem Yk:bB 123 34=0:=by kernel_rfl
def KV:List au:=
 [⟨some 4,aG (aD (bm bn 0)),.aw⟩]
def KW:List au:=
 [⟨some 7,ay (aa 0),.aw⟩,
 ⟨some 8,aV ⟨bz (bG 194), #[aa 7], #[9]⟩,.aw⟩,
 ⟨some 5,aG (aa 8),.aw⟩]
def K4:List au:=
 [⟨some 9,ay (aa 1),.aw⟩,
 ⟨some 10,aV ⟨bz (bG 194), #[aa 9], #[9]⟩,.aw⟩,
 ⟨some 6,aG (aa 10),.aw⟩]
def K6:List au:=
 [⟨some 11,ay (aa 5),.aw⟩]
def acQ:List au:=
 [⟨some 12,ay (aa 6),.aw⟩]
def acR:List au:=
 [⟨some 4,aG (aD (bm bn 0)),.aw⟩]
def acS:List au:=
 [⟨some 4,aG (aD (bm bn (-1))),.aw⟩]
def K7:List au:=
 [⟨some 13,ay (aa 6),.aw⟩]
def acT:List au:=
 [⟨some 4,aG (aD (bm bn 1)),.aw⟩]
def K8:List au:=
 [⟨some 14,ay (aa 0),.aw⟩,
 ⟨some 15,ay (aa 1),.aw⟩,
 ⟨some 16,bg dY 9 (aa 14) (aa 15) 9,.aw⟩]
def KX:List au:=
 [⟨some 4,aG (aD (bm bn (-1))),.aw⟩]
def KZ:List au:=
 [⟨some 17,ay (aa 0),.aw⟩,
 ⟨some 18,ay (aa 1),.aw⟩,
 ⟨some 19,bg nH 9 (aa 17) (aa 18) 9,.aw⟩]
def K0:List au:=
 [⟨some 4,aG (aD (bm bn 1)),.aw⟩]
def K1:List au:=
 [⟨some 4,aG (aD (bm bn 0)),.aw⟩]
def KU:SC:=
 (.seq (.region KV)
 (.seq (.region KW)
 (.seq (.region K4)
 (.seq (.seq (.region K6)
 (.cond (aa 11) (.seq (.seq (.region acQ)
 (.cond (aa 12) (.seq (.region acR)
 .ret) .skip))
 (.seq (.region acS)
 .ret)) .skip))
 (.seq (.seq (.region K7)
 (.cond (aa 13) (.seq (.region acT)
 .ret) .skip))
 (.seq (.seq (.region K8)
 (.cond (aa 16) (.seq (.region KX)
 .ret) .skip))
 (.seq (.seq (.region KZ)
 (.cond (aa 19) (.seq (.region K0)
 .ret) .skip))
 (.seq (.region K1)
 .ret))))))))
theorem acP:Tryz.prog.funcs[188]? =some Tryz.f188:=by kernel_rfl
theorem acO:(Tryz.f188.body).map cy=some KU:=by kernel_rfl
theorem acV:Tryz.f188.ntmps=20:=by kernel_rfl
theorem acU:Tryz.f188.results.toList=[dA 4]:=by kernel_rfl
def Lc:List au:=
 [⟨some 2,aG (aD (bF false)),.aw⟩]
def Ld:List au:=
 [⟨some 3,ay (aa 0),.aw⟩,
 ⟨some 4,ay (aa 0),.aw⟩,
 ⟨some 5,bg jq 9 (aa 3) (aa 4) 9,.aw⟩,
 ⟨some 2,aG (aa 5),.aw⟩]
def Lb:SC:=
 (.seq (.region Lc)
 (.seq (.region Ld)
 .ret))
theorem ac1:Tryz.prog.funcs[194]? =some Tryz.f194:=by kernel_rfl
theorem ac0:(Tryz.f194.body).map cy=some Lb:=by kernel_rfl
theorem ac3:Tryz.f194.ntmps=6:=by kernel_rfl
theorem ac2:Tryz.f194.results.toList=[dA 2]:=by kernel_rfl
def JL:List au:=
 [⟨some 2,aG (aD (iy none 0 0)),.aw⟩]
def JM:List au:=
 [⟨some 3,aG (aD (iy none 0 0)),.aw⟩]
def JN:List au:=
 [⟨some 6,ay (aa 0),.aw⟩,
 ⟨some 7,aV ⟨cE cX, #[aa 6], #[38]⟩,.aw⟩,
 ⟨some 8,ay (aD (bm bn 0)),.aw⟩]
def C9:List au:=
 [⟨some 9,bg dY 3 (aa 8) (aa 7) 3,.aw⟩]
def JO:List au:=
 [⟨some 10,df 38 (aa 6) (aa 8),.aw⟩,
 ⟨some 11,aH 51 (aa 10),.aw⟩,
 ⟨some 5,ey 51,.aw⟩,
 ⟨none,dw 51 (aa 5) (aa 11),.aw⟩]
def JP:List au:=
 [⟨some 12,ay (aa 3),.aw⟩,
 ⟨some 13,bC 51 (aa 5) 0,.aw⟩,
 ⟨some 14,aH 9 (aa 13),.aw⟩,
 ⟨some 15,bC 51 (aa 5) 1,.aw⟩,
 ⟨some 16,aH 9 (aa 15),.aw⟩,
 ⟨some 17,ka 37 2 #[(0,aa 14),(1,aa 16)],.aw⟩,
 ⟨some 18,aV ⟨cE mO, #[aa 12,aa 17], #[37,37]⟩,.aw⟩,
 ⟨some 3,aG (aa 18),.aw⟩]
def JQ:List au:=
 [⟨some 19,bg dX 3 (aa 8) (aD (bm bn 1)) 3,.aw⟩,
 ⟨some 8,ay (aa 19),.aw⟩]
def y6:SC:=
 (.seq (.region C9)
 (.seq (.cond (aa 9) .skip (.exit 0))
 (.seq (.block 1 (.seq (.region JO)
 (.region JP)))
 (.region JQ))))
def JR:List au:=
 [⟨some 20,ay (aa 3),.aw⟩,
 ⟨some 2,aG (aa 20),.aw⟩]
def JK:SC:=
 (.seq (.region JL)
 (.seq (.region JM)
 (.seq (.seq (.region JN)
 (.block 0 (.loop y6)))
 (.seq (.region JR)
 .ret))))
theorem abM:Tryz.prog.funcs[124]? =some Tryz.f124:=by kernel_rfl
theorem abL:(Tryz.f124.body).map cy=some JK:=by kernel_rfl
theorem abO:Tryz.f124.ntmps=21:=by kernel_rfl
theorem abN:Tryz.f124.results.toList=[dA 2]:=by kernel_rfl
theorem Yn:bB 124 5=1:=by kernel_rfl
theorem Yo:bB 124 7=0:=by kernel_rfl
theorem Yl:bB 124 17=0:=by kernel_rfl
theorem Ym:bB 124 18=0:=by kernel_rfl
def Jj:List au:=
 [⟨some 4,aG (aD (bF false)),.aw⟩]
def Jk:List au:=
 [⟨some 5,ay (aa 0),.aw⟩,
 ⟨some 6,ay (aa 1),.aw⟩,
 ⟨some 7,aV ⟨bz (bG 186), #[aa 5,aa 6], #[37,9]⟩,.aw⟩,
 ⟨some 8,bg pA 3 (aa 7) (aD (bm bn 0)) 3,.aw⟩,
 ⟨some 4,aG (aa 8),.aw⟩]
def Ji:SC:=
 (.seq (.region Jj)
 (.seq (.region Jk)
 .ret))
theorem abw:Tryz.prog.funcs[121]? =some Tryz.f121:=by kernel_rfl
theorem abv:(Tryz.f121.body).map cy=some Ji:=by kernel_rfl
theorem aby:Tryz.f121.ntmps=9:=by kernel_rfl
theorem abx:Tryz.f121.results.toList=[dA 4]:=by kernel_rfl
def KI:List au:=
 [⟨some 4,aG (aD (bm bn 0)),.aw⟩]
def KJ:List au:=
 [⟨some 6,ay (aa 0),.aw⟩,
 ⟨some 7,aV ⟨cE cX, #[aa 6], #[37]⟩,.aw⟩,
 ⟨some 8,ay (aD (bm bn 0)),.aw⟩]
def Dg:List au:=
 [⟨some 9,bg dY 3 (aa 8) (aa 7) 3,.aw⟩]
def KM:List au:=
 [⟨some 10,ay (aa 8),.aw⟩,
 ⟨some 5,aG (aa 10),.aw⟩]
def KN:List au:=
 [⟨some 11,ay (aa 1),.aw⟩,
 ⟨some 12,ay (aa 0),.aw⟩,
 ⟨some 13,ay (aa 5),.aw⟩,
 ⟨some 14,df 37 (aa 12) (aa 13),.aw⟩,
 ⟨some 15,aH 9 (aa 14),.aw⟩,
 ⟨some 16,bg eL 9 (aa 11) (aa 15) 9,.aw⟩]
def KO:List au:=
 [⟨some 17,ay (aa 5),.aw⟩,
 ⟨some 4,aG (aa 17),.aw⟩]
def KP:List au:=
 [⟨some 18,bg dX 3 (aa 8) (aD (bm bn 1)) 3,.aw⟩,
 ⟨some 8,ay (aa 18),.aw⟩]
def za:SC:=
 (.seq (.region Dg)
 (.seq (.cond (aa 9) .skip (.exit 0))
 (.seq (.block 1 (.seq (.region KM)
 (.seq (.region KN)
 (.cond (aa 16) (.seq (.region KO)
 .ret) .skip))))
 (.region KP))))
def KQ:List au:=
 [⟨some 4,aG (aD (bm bn (-1))),.aw⟩]
def KH:SC:=
 (.seq (.region KI)
 (.seq (.seq (.region KJ)
 (.block 0 (.loop za)))
 (.seq (.region KQ)
 .ret)))
theorem acH:Tryz.prog.funcs[186]? =some Tryz.f186:=by kernel_rfl
theorem acG:(Tryz.f186.body).map cy=some KH:=by kernel_rfl
theorem acJ:Tryz.f186.ntmps=19:=by kernel_rfl
theorem acI:Tryz.f186.results.toList=[dA 4]:=by kernel_rfl
theorem YD:bB 186 7=0:=by kernel_rfl
def MD:List au:=
 [⟨some 4,aG (aD (bm bn 0)),.aw⟩]
def ME:List au:=
 [⟨some 5,ay (aa 0),.aw⟩,
 ⟨some 6,ay (aa 1),.aw⟩,
 ⟨some 7,aV ⟨bz (bG 53), #[aa 5,aa 6], #[9,9]⟩,.aw⟩,
 ⟨some 4,aG (aa 7),.aw⟩]
def MC:SC:=
 (.seq (.region MD)
 (.seq (.region ME)
 .ret))
theorem adS:Tryz.prog.funcs[32]? =some Tryz.f32:=by kernel_rfl
theorem adR:(Tryz.f32.body).map cy=some MC:=by kernel_rfl
theorem adU:Tryz.f32.ntmps=8:=by kernel_rfl
theorem adT:Tryz.f32.results.toList=[dA 4]:=by kernel_rfl
def N9:List au:=
 [⟨some 4,aG (aD (bm bn 0)),.aw⟩]
def Oa:List au:=
 [⟨some 5,ay (aa 0),.aw⟩,
 ⟨some 6,ay (aa 1),.aw⟩,
 ⟨some 7,aV ⟨bz (bG 83), #[aa 5,aa 6], #[9,9]⟩,.aw⟩,
 ⟨some 4,aG (aa 7),.aw⟩]
def N8:SC:=
 (.seq (.region N9)
 (.seq (.region Oa)
 .ret))
theorem afd:Tryz.prog.funcs[53]? =some Tryz.f53:=by kernel_rfl
theorem afc:(Tryz.f53.body).map cy=some N8:=by kernel_rfl
theorem aff:Tryz.f53.ntmps=8:=by kernel_rfl
theorem afe:Tryz.f53.results.toList=[dA 4]:=by kernel_rfl
def DS:List Nat:=[0,0,2,0,8,30,62,127,0,0,512,0,2048,7680,15872,32767,0,0,131072,0,524288,1966080,4063232,8388607,16777215,33554431,67108863,67108863,134217727,536870911]
def OW:List au:=
 [⟨some 6,aG (aD (iy none 0 0)),.aw⟩,
 ⟨some 7,aG (aD (bF false)),.aw⟩]
def OX:List au:=
 [⟨some 25,ay (aa 0),.aw⟩,
 ⟨some 26,ay (aa 1),.aw⟩,
 ⟨some 27,ay (aa 2),.aw⟩,
 ⟨some 28,ka 286 3 #[(0,aa 25),(1,aa 26),(2,aa 27)],.aw⟩,
 ⟨some 29,aV ⟨bz (bG 114), #[aa 28], #[286]⟩,.aw⟩,
 ⟨some 30,fy UnOp.not 4 (aa 29),.aw⟩]
def O5:List au:=
 [⟨some 6,aG (aD (iy none 0 0)),.aw⟩,
 ⟨some 7,aG (aD (bF false)),.aw⟩]
def Pd:List au:=
 [⟨some 31,Op.makeMap 178 none,.aw⟩,
 ⟨some 8,aG (aa 31),.aw⟩]
def Pf:List au:=
 [⟨some 32,ay (aa 0),.aw⟩,
 ⟨some 33,ay (aa 2),.aw⟩,
 ⟨some 34,aV ⟨bz (bG 115), #[aa 32,aa 33], #[37,37]⟩,.aw⟩,
 ⟨some 35,aV ⟨cE cX, #[aa 34], #[180]⟩,.aw⟩,
 ⟨some 36,ay (aD (bm bn 0)),.aw⟩]
def D0:List au:=
 [⟨some 37,bg dY 3 (aa 36) (aa 35) 3,.aw⟩]
def Pg:List au:=
 [⟨some 38,df 180 (aa 34) (aa 36),.aw⟩,
 ⟨some 39,aH 183 (aa 38),.aw⟩,
 ⟨some 10,ey 183,.aw⟩,
 ⟨none,dw 183 (aa 10) (aa 39),.aw⟩]
def Ph:List au:=
 [⟨some 40,ay (aa 8),.aw⟩,
 ⟨some 41,bC 183 (aa 10) 0,.aw⟩,
 ⟨some 42,aH 3 (aa 41),.aw⟩,
 ⟨some 43,bC 183 (aa 10) 1,.aw⟩,
 ⟨some 44,aH 3 (aa 43),.aw⟩,
 ⟨none,ur 178 (aa 40) (aa 42) (aa 44),.aw⟩]
def Pj:List au:=
 [⟨some 45,bg dX 3 (aa 36) (aD (bm bn 1)) 3,.aw⟩,
 ⟨some 36,ay (aa 45),.aw⟩]
def zy:SC:=
 (.seq (.region D0)
 (.seq (.cond (aa 37) .skip (.exit 0))
 (.seq (.block 1 (.seq (.region Pg)
 (.region Ph)))
 (.region Pj))))
def Pk:List au:=
 [⟨some 11,aG (aD (iy none 0 0)),.aw⟩]
def OY:List au:=
 [⟨some 46,ay (aa 0),.aw⟩,
 ⟨some 47,ay (aa 1),.aw⟩,
 ⟨some 48,aV ⟨bz (bG 115), #[aa 46,aa 47], #[37,37]⟩,.aw⟩,
 ⟨some 49,aV ⟨cE cX, #[aa 48], #[180]⟩,.aw⟩,
 ⟨some 50,ay (aD (bm bn 0)),.aw⟩]
def DT:List au:=
 [⟨some 51,bg dY 3 (aa 50) (aa 49) 3,.aw⟩]
def OZ:List au:=
 [⟨some 52,df 180 (aa 48) (aa 50),.aw⟩,
 ⟨some 53,aH 183 (aa 52),.aw⟩,
 ⟨some 13,ey 183,.aw⟩,
 ⟨none,dw 183 (aa 13) (aa 53),.aw⟩]
def O0:List au:=
 [⟨some 55,ay (aa 8),.aw⟩,
 ⟨some 56,bC 183 (aa 13) 0,.aw⟩,
 ⟨some 57,aH 3 (aa 56),.aw⟩,
 ⟨some 58,mT 178 (aa 55) (aa 57) true,.aw⟩,
 ⟨some 54,ay (aa 58),.aw⟩,
 ⟨some 59,eh (aa 54) 0,.aw⟩,
 ⟨some 60,eh (aa 54) 1,.aw⟩,
 ⟨some 14,aG (aa 59),.aw⟩,
 ⟨some 15,aG (aa 60),.aw⟩]
def DU:List au:=
 [⟨some 61,ay (aa 15),.aw⟩]
def O1:List au:=
 [⟨some 62,ay (aa 11),.aw⟩,
 ⟨some 63,bC 183 (aa 13) 0,.aw⟩,
 ⟨some 64,aH 3 (aa 63),.aw⟩,
 ⟨some 65,bC 183 (aa 13) 1,.aw⟩,
 ⟨some 66,aH 3 (aa 65),.aw⟩,
 ⟨some 67,ay (aa 14),.aw⟩,
 ⟨some 68,jJ 186 #[(0,aa 64),(1,aa 66),(2,aa 67)],.aw⟩,
 ⟨some 69,ka 184 1 #[(0,aa 68)],.aw⟩,
 ⟨some 70,aV ⟨cE mO, #[aa 62,aa 69], #[184,184]⟩,.aw⟩,
 ⟨some 11,aG (aa 70),.aw⟩]
def DV:List au:=
 [⟨some 71,bg dX 3 (aa 50) (aD (bm bn 1)) 3,.aw⟩,
 ⟨some 50,ay (aa 71),.aw⟩]
def zz:SC:=
 (.seq (.region DT)
 (.seq (.cond (aa 51) .skip (.exit 2))
 (.seq (.block 3 (.seq (.region OZ)
 (.seq (.region O0)
 (.seq (.region DU)
 (.cond (aa 61) (.region O1) .skip)))))
 (.region DV))))
def O2:List au:=
 [⟨some 72,ay (aa 11),.aw⟩,
 ⟨some 73,ay (aa 0),.aw⟩,
 ⟨some 74,aV ⟨cE cX, #[aa 73], #[37]⟩,.aw⟩,
 ⟨some 75,ay (aa 1),.aw⟩,
 ⟨some 76,aV ⟨cE cX, #[aa 75], #[37]⟩,.aw⟩,
 ⟨some 77,ay (aa 2),.aw⟩,
 ⟨some 78,aV ⟨cE cX, #[aa 77], #[37]⟩,.aw⟩,
 ⟨some 79,jJ 186 #[(0,aa 74),(1,aa 76),(2,aa 78)],.aw⟩,
 ⟨some 80,ka 184 1 #[(0,aa 79)],.aw⟩,
 ⟨some 81,aV ⟨cE mO, #[aa 72,aa 80], #[184,184]⟩,.aw⟩,
 ⟨some 11,aG (aa 81),.aw⟩]
def O3:List au:=
 [⟨some 82,ay (aa 0),.aw⟩,
 ⟨some 83,jJ 189 #[(0,aa 82)],.aw⟩,
 ⟨some 84,ef 189 (aa 83),.aw⟩,
 ⟨some 85,ay (aa 1),.aw⟩,
 ⟨some 86,jJ 189 #[(0,aa 85)],.aw⟩,
 ⟨some 87,ef 189 (aa 86),.aw⟩,
 ⟨some 88,ay (aa 2),.aw⟩,
 ⟨some 89,jJ 189 #[(0,aa 88)],.aw⟩,
 ⟨some 90,ef 189 (aa 89),.aw⟩,
 ⟨some 16,aG (aa 84),.aw⟩,
 ⟨some 17,aG (aa 87),.aw⟩,
 ⟨some 18,aG (aa 90),.aw⟩]
def O4:List au:=
 [⟨some 91,jJ 186 #[(0,aD (bm bn (-1))),(1,aD (bm bn (-1))),(2,aD (bm bn (-1)))],.aw⟩,
 ⟨some 19,ey 186,.aw⟩,
 ⟨none,dw 186 (aa 19) (aa 91),.aw⟩]
def O6:List au:=
 [⟨some 20,aG (aD (iy none 0 0)),.aw⟩]
def O7:List au:=
 [⟨some 92,ay (aa 11),.aw⟩,
 ⟨some 93,aV ⟨cE cX, #[aa 92], #[184]⟩,.aw⟩,
 ⟨some 94,ay (aD (bm bn 0)),.aw⟩]
def DW:List au:=
 [⟨some 95,bg dY 3 (aa 94) (aa 93) 3,.aw⟩]
def O8:List au:=
 [⟨some 96,df 184 (aa 92) (aa 94),.aw⟩,
 ⟨some 97,aH 186 (aa 96),.aw⟩,
 ⟨some 22,ey 186,.aw⟩,
 ⟨none,dw 186 (aa 22) (aa 97),.aw⟩]
def mr:List au:=
 [⟨some 99,ay (aa 16),.aw⟩,
 ⟨some 100,bC 186 (aa 22) 0,.aw⟩,
 ⟨some 101,aH 3 (aa 100),.aw⟩,
 ⟨some 102,bC 186 (aa 19) 0,.aw⟩,
 ⟨some 103,aH 3 (aa 102),.aw⟩,
 ⟨some 104,bg nI 3 (aa 101) (aa 103) 3,.aw⟩,
 ⟨some 105,bg nI 3 (aa 104) (aD (bm bn 1)) 3,.aw⟩,
 ⟨some 106,aV ⟨bz (bG 117), #[aa 99,aa 105], #[187,3]⟩,.aw⟩,
 ⟨some 107,ay (aa 17),.aw⟩,
 ⟨some 108,bC 186 (aa 22) 1,.aw⟩,
 ⟨some 109,aH 3 (aa 108),.aw⟩,
 ⟨some 110,bC 186 (aa 19) 1,.aw⟩,
 ⟨some 111,aH 3 (aa 110),.aw⟩,
 ⟨some 112,bg nI 3 (aa 109) (aa 111) 3,.aw⟩,
 ⟨some 113,bg nI 3 (aa 112) (aD (bm bn 1)) 3,.aw⟩,
 ⟨some 114,aV ⟨bz (bG 117), #[aa 107,aa 113], #[187,3]⟩,.aw⟩,
 ⟨some 115,ay (aa 18),.aw⟩,
 ⟨some 116,bC 186 (aa 22) 2,.aw⟩,
 ⟨some 117,aH 3 (aa 116),.aw⟩,
 ⟨some 118,bC 186 (aa 19) 2,.aw⟩,
 ⟨some 119,aH 3 (aa 118),.aw⟩,
 ⟨some 120,bg nI 3 (aa 117) (aa 119) 3,.aw⟩,
 ⟨some 121,bg nI 3 (aa 120) (aD (bm bn 1)) 3,.aw⟩,
 ⟨some 122,aV ⟨bz (bG 117), #[aa 115,aa 121], #[187,3]⟩,.aw⟩,
 ⟨some 123,aV ⟨bz (bG 116), #[aa 106,aa 114,aa 122], #[37,37,37]⟩,.aw⟩,
 ⟨some 98,ay (aa 123),.aw⟩,
 ⟨some 124,eh (aa 98) 0,.aw⟩,
 ⟨some 125,eh (aa 98) 1,.aw⟩,
 ⟨some 23,aG (aa 124),.aw⟩,
 ⟨some 24,aG (aa 125),.aw⟩]
def DX:List au:=
 [⟨some 126,ay (aa 24),.aw⟩,
 ⟨some 127,fy UnOp.not 4 (aa 126),.aw⟩]
def O9:List au:=
 [⟨some 6,aG (aD (iy none 0 0)),.aw⟩,
 ⟨some 7,aG (aD (bF false)),.aw⟩]
def Pa:List au:=
 [⟨some 128,ay (aa 20),.aw⟩,
 ⟨some 129,ay (aa 23),.aw⟩,
 ⟨some 130,aV ⟨cE mO, #[aa 128,aa 129], #[37,37]⟩,.aw⟩,
 ⟨some 20,aG (aa 130),.aw⟩]
def Pb:List au:=
 [⟨some 131,bC 186 (aa 22) 0,.aw⟩,
 ⟨some 132,aH 3 (aa 131),.aw⟩,
 ⟨some 133,ay (aa 0),.aw⟩,
 ⟨some 134,aV ⟨cE cX, #[aa 133], #[37]⟩,.aw⟩,
 ⟨some 135,bg dY 3 (aa 132) (aa 134) 3,.aw⟩]
def Pc:List au:=
 [⟨some 136,ay (aa 20),.aw⟩,
 ⟨some 137,ay (aa 0),.aw⟩,
 ⟨some 138,bC 186 (aa 22) 0,.aw⟩,
 ⟨some 139,aH 3 (aa 138),.aw⟩,
 ⟨some 140,df 37 (aa 137) (aa 139),.aw⟩,
 ⟨some 141,aH 9 (aa 140),.aw⟩,
 ⟨some 142,ka 37 1 #[(0,aa 141)],.aw⟩,
 ⟨some 143,aV ⟨cE mO, #[aa 136,aa 142], #[37,37]⟩,.aw⟩,
 ⟨some 20,aG (aa 143),.aw⟩]
def DY:List au:=
 [⟨some 144,aH 186 (aa 22),.aw⟩,
 ⟨none,dw 186 (aa 19) (aa 144),.aw⟩]
def DZ:List au:=
 [⟨some 145,bg dX 3 (aa 94) (aD (bm bn 1)) 3,.aw⟩,
 ⟨some 94,ay (aa 145),.aw⟩]
def xj:SC:=
 (.seq (.region DW)
 (.seq (.cond (aa 95) .skip (.exit 4))
 (.seq (.block 5 (.seq (.region O8)
 (.seq (.draw mr DS)
 (.seq (.seq (.region DX)
 (.cond (aa 127) (.seq (.region O9)
 .ret) .skip))
 (.seq (.region Pa)
 (.seq (.seq (.region Pb)
 (.cond (aa 135) (.region Pc) .skip))
 (.region DY)))))))
 (.region DZ))))
def Pe:List au:=
 [⟨some 146,ay (aa 20),.aw⟩,
 ⟨some 6,aG (aa 146),.aw⟩,
 ⟨some 7,aG (aD (bF true)),.aw⟩]
def OV:SC:=
 (.seq (.region OW)
 (.seq (.seq (.region OX)
 (.cond (aa 30) (.seq (.region O5)
 .ret) .skip))
 (.seq (.region Pd)
 (.seq (.seq (.region Pf)
 (.block 0 (.loop zy)))
 (.seq (.region Pk)
 (.seq (.seq (.region OY)
 (.block 2 (.loop zz)))
 (.seq (.region O2)
 (.seq (.region O3)
 (.seq (.region O4)
 (.seq (.region O6)
 (.seq (.seq (.region O7)
 (.block 4 (.loop xj)))
 (.seq (.region Pe)
 .ret))))))))))))
theorem agd:Tryz.prog.funcs[74]? =some Tryz.f74:=by kernel_rfl
theorem agc:(Tryz.f74.body).map cy=some OV:=by kernel_rfl
theorem agf:Tryz.f74.ntmps=147:=by kernel_rfl
theorem age:Tryz.f74.results.toList=[dA 6,dA 7]:=by kernel_rfl
theorem Zm:bB 74 10=1:=by kernel_rfl
theorem Zn:bB 74 13=1:=by kernel_rfl
theorem Zs:bB 74 19=1:=by kernel_rfl
theorem Zt:bB 74 22=1:=by kernel_rfl
theorem Zu:bB 74 28=0:=by kernel_rfl
theorem Zv:bB 74 35=0:=by kernel_rfl
theorem Zw:bB 74 49=0:=by kernel_rfl
theorem Zx:bB 74 69=0:=by kernel_rfl
theorem Zy:bB 74 70=0:=by kernel_rfl
theorem Zz:bB 74 74=0:=by kernel_rfl
theorem ZA:bB 74 76=0:=by kernel_rfl
theorem ZB:bB 74 78=0:=by kernel_rfl
theorem ZC:bB 74 80=0:=by kernel_rfl
theorem ZD:bB 74 81=0:=by kernel_rfl
theorem ZE:bB 74 84=0:=by kernel_rfl
theorem ZF:bB 74 87=0:=by kernel_rfl
theorem ZG:bB 74 90=0:=by kernel_rfl
theorem ZH:bB 74 93=0:=by kernel_rfl
theorem Zo:bB 74 130=0:=by kernel_rfl
theorem Zp:bB 74 134=0:=by kernel_rfl
theorem Zq:bB 74 142=0:=by kernel_rfl
theorem Zr:bB 74 143=0:=by kernel_rfl
def Iv:List au:=
 [⟨some 2,aG (aD (bF false)),.aw⟩]
def Iw:List au:=
 [⟨some 3,ay (aa 0),.aw⟩,
 ⟨some 4,aV ⟨bz (bG 181), #[aa 3,bG 182], #[286,288]⟩,.aw⟩,
 ⟨some 5,fy UnOp.not 4 (aa 4),.aw⟩,
 ⟨some 2,aG (aa 5),.aw⟩]
def Iu:SC:=
 (.seq (.region Iv)
 (.seq (.region Iw)
 .ret))
theorem aaW:Tryz.prog.funcs[114]? =some Tryz.f114:=by kernel_rfl
theorem aaV:(Tryz.f114.body).map cy=some Iu:=by kernel_rfl
theorem aaY:Tryz.f114.ntmps=6:=by kernel_rfl
theorem aaX:Tryz.f114.results.toList=[dA 2]:=by kernel_rfl
def aaZ:List Nat:=[0,0,3,7,0,0,48,112,255]
def aa0:List Nat:=[0,0,0,7,0,0,32,0,255,511,1023,0,0,0,8192,31231,63999,129535,262143,524287,1048575]
def aa1:List Nat:=[0,0,3,7,0,0,48,112,255,511]
def aa2:List Nat:=[0,0,2,0,15,31,63,0,0,0,927,1951,3999,8191,16383]
def Iy:List au:=
 [⟨some 4,aG (aD (iy none 0 0)),.aw⟩]
def Iz:List au:=
 [⟨some 13,ay (aa 1),.aw⟩,
 ⟨some 14,aV ⟨cE cX, #[aa 13], #[37]⟩,.aw⟩,
 ⟨some 15,bg dX 3 (aa 14) (aD (bm bn 1)) 3,.aw⟩,
 ⟨some 5,ey 3,.aw⟩,
 ⟨none,dw 3 (aa 5) (aa 15),.aw⟩]
def IK:List au:=
 [⟨some 16,ay (aa 0),.aw⟩,
 ⟨some 17,aV ⟨cE cX, #[aa 16], #[37]⟩,.aw⟩,
 ⟨some 18,bg dX 3 (aa 17) (aD (bm bn 1)) 3,.aw⟩,
 ⟨some 19,aH 3 (aa 5),.aw⟩,
 ⟨some 20,bg BinOp.mul 3 (aa 18) (aa 19) 3,.aw⟩,
 ⟨some 21,Op.makeSlice 289 (aa 20) (aa 20),.aw⟩,
 ⟨some 6,ey 289,.aw⟩,
 ⟨none,dw 289 (aa 6) (aa 21),.aw⟩]
def IP:List au:=
 [⟨some 22,Op.makeFunc (Fn.func 183) #[] #[aa 6,aa 5],.aw⟩,
 ⟨some 7,aG (aa 22),.aw⟩]
def IQ:List au:=
 [⟨some 23,ay (aa 0),.aw⟩,
 ⟨some 24,aV ⟨cE cX, #[aa 23], #[37]⟩,.aw⟩,
 ⟨some 25,bg nI 3 (aa 24) (aD (bm bn 1)) 3,.aw⟩,
 ⟨some 8,aG (aa 25),.aw⟩]
def CV:List au:=
 [⟨some 26,ay (aa 8),.aw⟩,
 ⟨some 27,bg pA 3 (aa 26) (aD (bm bn 0)) 3,.aw⟩]
def IT:List au:=
 [⟨some 30,ay (aa 1),.aw⟩,
 ⟨some 31,aV ⟨cE cX, #[aa 30], #[37]⟩,.aw⟩,
 ⟨some 32,bg nI 3 (aa 31) (aD (bm bn 1)) 3,.aw⟩,
 ⟨some 9,aG (aa 32),.aw⟩]
def CW:List au:=
 [⟨some 33,ay (aa 9),.aw⟩,
 ⟨some 34,bg pA 3 (aa 33) (aD (bm bn 0)) 3,.aw⟩]
def IA:List au:=
 [⟨some 37,ay (aa 0),.aw⟩,
 ⟨some 38,ay (aa 8),.aw⟩,
 ⟨some 39,df 37 (aa 37) (aa 38),.aw⟩,
 ⟨some 40,aH 9 (aa 39),.aw⟩,
 ⟨some 41,ay (aa 1),.aw⟩,
 ⟨some 42,ay (aa 9),.aw⟩,
 ⟨some 43,df 37 (aa 41) (aa 42),.aw⟩,
 ⟨some 44,aH 9 (aa 43),.aw⟩,
 ⟨some 45,bg eL 9 (aa 40) (aa 44) 9,.aw⟩]
def IB:List au:=
 [⟨some 46,ay (aa 7),.aw⟩,
 ⟨some 47,ay (aa 8),.aw⟩,
 ⟨some 48,ay (aa 9),.aw⟩,
 ⟨some 49,aV ⟨bz (aa 46), #[aa 47,aa 48], #[3,3]⟩,.aw⟩,
 ⟨some 50,ay (aa 7),.aw⟩,
 ⟨some 51,ay (aa 8),.aw⟩,
 ⟨some 52,bg dX 3 (aa 51) (aD (bm bn 1)) 3,.aw⟩,
 ⟨some 53,ay (aa 9),.aw⟩,
 ⟨some 54,bg dX 3 (aa 53) (aD (bm bn 1)) 3,.aw⟩,
 ⟨some 55,aV ⟨bz (aa 50), #[aa 52,aa 54], #[3,3]⟩,.aw⟩,
 ⟨some 56,dE (aa 55),.aw⟩,
 ⟨some 57,aH 21 (aa 56),.aw⟩,
 ⟨some 58,bg dX 21 (aa 57) (aD (bm IntKind.i32 1)) 21,.aw⟩,
 ⟨some 59,dE (aa 49),.aw⟩,
 ⟨none,dw 21 (aa 59) (aa 58),.aw⟩]
def mq:List au:=
 [⟨some 60,ay (aa 7),.aw⟩,
 ⟨some 61,ay (aa 8),.aw⟩,
 ⟨some 62,ay (aa 9),.aw⟩,
 ⟨some 63,aV ⟨bz (aa 60), #[aa 61,aa 62], #[3,3]⟩,.aw⟩,
 ⟨some 64,ay (aa 7),.aw⟩,
 ⟨some 65,ay (aa 8),.aw⟩,
 ⟨some 66,bg dX 3 (aa 65) (aD (bm bn 1)) 3,.aw⟩,
 ⟨some 67,ay (aa 9),.aw⟩,
 ⟨some 68,aV ⟨bz (aa 64), #[aa 66,aa 67], #[3,3]⟩,.aw⟩,
 ⟨some 69,dE (aa 68),.aw⟩,
 ⟨some 70,aH 21 (aa 69),.aw⟩,
 ⟨some 71,ay (aa 7),.aw⟩,
 ⟨some 72,ay (aa 8),.aw⟩,
 ⟨some 73,ay (aa 9),.aw⟩,
 ⟨some 74,bg dX 3 (aa 73) (aD (bm bn 1)) 3,.aw⟩,
 ⟨some 75,aV ⟨bz (aa 71), #[aa 72,aa 74], #[3,3]⟩,.aw⟩,
 ⟨some 76,dE (aa 75),.aw⟩,
 ⟨some 77,aH 21 (aa 76),.aw⟩,
 ⟨some 78,aV ⟨cE Builtin.max, #[aa 70,aa 77], #[21,21]⟩,.aw⟩,
 ⟨some 79,dE (aa 63),.aw⟩,
 ⟨none,dw 21 (aa 79) (aa 78),.aw⟩]
def CZ:List au:=
 [⟨some 35,ay (aa 9),.aw⟩,
 ⟨some 36,bg nI 3 (aa 35) (aD (bm bn 1)) 3,.aw⟩,
 ⟨some 9,aG (aa 36),.aw⟩]
def w9:SC:=
 (.seq (.seq (.region CW)
 (.cond (aa 34) .skip (.exit 2)))
 (.seq (.block 3 (.seq (.draw IA aaZ)
 (.cond (aa 45) (.region IB) (.draw mq aa0))))
 (.region CZ)))
def IR:List au:=
 [⟨some 28,ay (aa 8),.aw⟩,
 ⟨some 29,bg nI 3 (aa 28) (aD (bm bn 1)) 3,.aw⟩,
 ⟨some 8,aG (aa 29),.aw⟩]
def yX:SC:=
 (.seq (.seq (.region CV)
 (.cond (aa 27) .skip (.exit 0)))
 (.seq (.block 1 (.seq (.region IT)
 (.block 2 (.loop w9))))
 (.region IR)))
def IC:List au:=
 [⟨some 10,aG (aD (iy none 0 0)),.aw⟩]
def IE:List au:=
 [⟨some 11,aG (aD (bm bn 0)),.aw⟩,
 ⟨some 12,aG (aD (bm bn 0)),.aw⟩]
def CU:List au:=
 [⟨some 80,ay (aa 11),.aw⟩,
 ⟨some 81,ay (aa 0),.aw⟩,
 ⟨some 82,aV ⟨cE cX, #[aa 81], #[37]⟩,.aw⟩,
 ⟨some 83,bg dY 3 (aa 80) (aa 82) 3,.aw⟩,
 ⟨some 84,ay (aa 83),.aw⟩,
 ⟨some 85,ay (aa 12),(.when 84 true)⟩,
 ⟨some 86,ay (aa 1),(.when 84 true)⟩,
 ⟨some 87,aV ⟨cE cX, #[aa 86], #[37]⟩,(.when 84 true)⟩,
 ⟨some 88,bg dY 3 (aa 85) (aa 87) 3,(.when 84 true)⟩,
 ⟨some 89,cO (aa 84) (aa 88) (aD (bF false)),.aw⟩]
def IH:List au:=
 [⟨some 93,ay (aa 0),.aw⟩,
 ⟨some 94,ay (aa 11),.aw⟩,
 ⟨some 95,df 37 (aa 93) (aa 94),.aw⟩,
 ⟨some 96,aH 9 (aa 95),.aw⟩,
 ⟨some 97,ay (aa 1),.aw⟩,
 ⟨some 98,ay (aa 12),.aw⟩,
 ⟨some 99,df 37 (aa 97) (aa 98),.aw⟩,
 ⟨some 100,aH 9 (aa 99),.aw⟩,
 ⟨some 101,bg eL 9 (aa 96) (aa 100) 9,.aw⟩,
 ⟨some 92,aG (aa 101),.aw⟩]
def II:List au:=
 [⟨some 102,ay (aa 10),.aw⟩,
 ⟨some 103,ay (aa 11),.aw⟩,
 ⟨some 104,ay (aa 12),.aw⟩,
 ⟨some 105,jJ 183 #[(0,aa 103),(1,aa 104)],.aw⟩,
 ⟨some 106,ka 180 1 #[(0,aa 105)],.aw⟩,
 ⟨some 107,aV ⟨cE mO, #[aa 102,aa 106], #[180,180]⟩,.aw⟩,
 ⟨some 10,aG (aa 107),.aw⟩]
def IJ:List au:=
 [⟨some 108,ay (aa 11),.aw⟩,
 ⟨some 109,bg dX 3 (aa 108) (aD (bm bn 1)) 3,.aw⟩,
 ⟨some 110,ay (aa 12),.aw⟩,
 ⟨some 111,bg dX 3 (aa 110) (aD (bm bn 1)) 3,.aw⟩,
 ⟨some 11,aG (aa 109),.aw⟩,
 ⟨some 12,aG (aa 111),.aw⟩]
def pS:List au:=
 [⟨some 113,ay (aa 7),.aw⟩,
 ⟨some 114,ay (aa 11),.aw⟩,
 ⟨some 115,bg dX 3 (aa 114) (aD (bm bn 1)) 3,.aw⟩,
 ⟨some 116,ay (aa 12),.aw⟩,
 ⟨some 117,aV ⟨bz (aa 113), #[aa 115,aa 116], #[3,3]⟩,.aw⟩,
 ⟨some 118,dE (aa 117),.aw⟩,
 ⟨some 119,aH 21 (aa 118),.aw⟩,
 ⟨some 120,ay (aa 7),.aw⟩,
 ⟨some 121,ay (aa 11),.aw⟩,
 ⟨some 122,ay (aa 12),.aw⟩,
 ⟨some 123,aV ⟨bz (aa 120), #[aa 121,aa 122], #[3,3]⟩,.aw⟩,
 ⟨some 124,dE (aa 123),.aw⟩,
 ⟨some 125,aH 21 (aa 124),.aw⟩,
 ⟨some 126,bg eL 21 (aa 119) (aa 125) 21,.aw⟩,
 ⟨some 112,aG (aa 126),.aw⟩]
def IL:List au:=
 [⟨some 127,ay (aa 11),.aw⟩,
 ⟨some 128,bg dX 3 (aa 127) (aD (bm bn 1)) 3,.aw⟩,
 ⟨some 11,aG (aa 128),.aw⟩]
def IG:List au:=
 [⟨some 90,ay (aa 12),.aw⟩,
 ⟨some 91,bg dX 3 (aa 90) (aD (bm bn 1)) 3,.aw⟩,
 ⟨some 12,aG (aa 91),.aw⟩]
def xa:SC:=
 (.seq (.seq (.region CU)
 (.cond (aa 89) .skip (.exit 4)))
 (.block 5 (.block 6 (.seq (.draw IH aa1)
 (.cond (aa 92) (.seq (.region II)
 (.region IJ)) (.seq (.draw pS aa2)
 (.cond (aa 112) (.region IL) (.region IG))))))))
def IM:List au:=
 [⟨some 129,ay (aa 10),.aw⟩,
 ⟨some 4,aG (aa 129),.aw⟩]
def Ix:SC:=
 (.seq (.region Iy)
 (.seq (.region Iz)
 (.seq (.region IK)
 (.seq (.region IP)
 (.seq (.seq (.region IQ)
 (.block 0 (.loop yX)))
 (.seq (.region IC)
 (.seq (.seq (.region IE)
 (.block 4 (.loop xa)))
 (.seq (.region IM)
 .ret))))))))
theorem aa4:Tryz.prog.funcs[115]? =some Tryz.f115:=by kernel_rfl
theorem aa3:(Tryz.f115.body).map cy=some Ix:=by kernel_rfl
theorem aa6:Tryz.f115.ntmps=130:=by kernel_rfl
theorem aa5:Tryz.f115.results.toList=[dA 4]:=by kernel_rfl
theorem X7:bB 115 5=0:=by kernel_rfl
theorem X8:bB 115 6=0:=by kernel_rfl
theorem X2:bB 115 14=0:=by kernel_rfl
theorem X3:bB 115 17=0:=by kernel_rfl
theorem X4:bB 115 21=0:=by kernel_rfl
theorem X5:bB 115 24=0:=by kernel_rfl
theorem X6:bB 115 31=0:=by kernel_rfl
theorem CH:bB 115 82=0:=by kernel_rfl
theorem H2:bB 115 87=0:=by kernel_rfl
theorem X0:bB 115 106=0:=by kernel_rfl
theorem X1:bB 115 107=0:=by kernel_rfl
def IV:List au:=
 [⟨some 6,aG (aD (iy none 0 0)),.aw⟩,
 ⟨some 7,aG (aD (bF false)),.aw⟩]
def IW:List au:=
 [⟨some 9,ay (aa 1),.aw⟩,
 ⟨some 10,ay (aa 0),.aw⟩,
 ⟨some 11,aV ⟨bz (bG 37), #[aa 9,aa 10], #[37,37]⟩,.aw⟩,
 ⟨some 8,aG (aa 11),.aw⟩]
def IX:List au:=
 [⟨some 12,ay (aa 2),.aw⟩,
 ⟨some 6,aG (aa 12),.aw⟩,
 ⟨some 7,aG (aD (bF true)),.aw⟩]
def IY:List au:=
 [⟨some 14,ay (aa 2),.aw⟩,
 ⟨some 15,ay (aa 0),.aw⟩,
 ⟨some 16,aV ⟨bz (bG 37), #[aa 14,aa 15], #[37,37]⟩,.aw⟩,
 ⟨some 13,aG (aa 16),.aw⟩]
def IZ:List au:=
 [⟨some 17,ay (aa 2),.aw⟩,
 ⟨some 18,ay (aa 1),.aw⟩,
 ⟨some 19,aV ⟨bz (bG 37), #[aa 17,aa 18], #[37,37]⟩,.aw⟩,
 ⟨some 13,aG (aa 19),.aw⟩]
def C3:List au:=
 [⟨some 20,ay (aa 1),.aw⟩,
 ⟨some 6,aG (aa 20),.aw⟩,
 ⟨some 7,aG (aD (bF true)),.aw⟩]
def I0:List au:=
 [⟨some 6,aG (aD (iy none 0 0)),.aw⟩,
 ⟨some 7,aG (aD (bF false)),.aw⟩]
def IU:SC:=
 (.seq (.region IV)
 (.seq (.block 0 (.seq (.region IW)
 (.cond (aa 8) (.seq (.region IX)
 .ret) (.seq (.seq (.region IY)
 (.cond (aa 13) .skip (.region IZ)))
 (.cond (aa 13) (.seq (.region C3)
 .ret) .skip)))))
 (.seq (.region I0)
 .ret)))
theorem aa8:Tryz.prog.funcs[116]? =some Tryz.f116:=by kernel_rfl
theorem aa7:(Tryz.f116.body).map cy=some IU:=by kernel_rfl
theorem aba:Tryz.f116.ntmps=21:=by kernel_rfl
theorem aa9:Tryz.f116.results.toList=[dA 6,dA 7]:=by kernel_rfl
def abb:List Nat:=[0,0,2,6,14,0,32,0,128,384,896,1920,4064,8190,16383,32767,65535]
def I2:List au:=
 [⟨some 4,aG (aD (iy none 0 0)),.aw⟩]
def I3:List au:=
 [⟨some 6,ay (aa 0),.aw⟩,
 ⟨some 7,dE (aa 6),.aw⟩,
 ⟨some 8,bC 189 (aa 7) 0,.aw⟩,
 ⟨some 9,aH 37 (aa 8),.aw⟩,
 ⟨some 10,ay (aa 1),.aw⟩,
 ⟨some 11,ay (aa 1),.aw⟩,
 ⟨some 12,Op.slice 37 (aa 9) none (some (aa 10)) (some (aa 11)),.aw⟩,
 ⟨some 5,aG (aa 12),.aw⟩]
def tD:List au:=
 [⟨some 13,ay (aa 0),.aw⟩,
 ⟨some 14,ay (aa 0),.aw⟩,
 ⟨some 15,dE (aa 14),.aw⟩,
 ⟨some 16,bC 189 (aa 15) 0,.aw⟩,
 ⟨some 17,aH 37 (aa 16),.aw⟩,
 ⟨some 18,ay (aa 1),.aw⟩,
 ⟨some 19,bg dX 3 (aa 18) (aD (bm bn 1)) 3,.aw⟩,
 ⟨some 20,ay (aa 0),.aw⟩,
 ⟨some 21,dE (aa 20),.aw⟩,
 ⟨some 22,bC 189 (aa 21) 0,.aw⟩,
 ⟨some 23,aH 37 (aa 22),.aw⟩,
 ⟨some 24,aV ⟨cE cX, #[aa 23], #[37]⟩,.aw⟩,
 ⟨some 25,aV ⟨cE Builtin.min, #[aa 19,aa 24], #[3,3]⟩,.aw⟩,
 ⟨some 26,Op.slice 37 (aa 17) (some (aa 25)) none none,.aw⟩,
 ⟨some 27,dE (aa 13),.aw⟩,
 ⟨some 28,bC 189 (aa 27) 0,.aw⟩,
 ⟨none,dw 37 (aa 28) (aa 26),.aw⟩]
def I4:List au:=
 [⟨some 29,ay (aa 5),.aw⟩,
 ⟨some 4,aG (aa 29),.aw⟩]
def I1:SC:=
 (.seq (.region I2)
 (.seq (.region I3)
 (.seq (.draw tD abb)
 (.seq (.region I4)
 .ret))))
theorem abd:Tryz.prog.funcs[117]? =some Tryz.f117:=by kernel_rfl
theorem abc:(Tryz.f117.body).map cy=some I1:=by kernel_rfl
theorem abf:Tryz.f117.ntmps=30:=by kernel_rfl
theorem abe:Tryz.f117.results.toList=[dA 4]:=by kernel_rfl
theorem X9:bB 117 24=0:=by kernel_rfl
theorem Ya:bB 117 25=0:=by kernel_rfl
def Km:List au:=
 [⟨some 4,aG (aD (bF false)),.aw⟩]
def Kn:List au:=
 [⟨some 5,ay (aa 0),.aw⟩,
 ⟨some 6,ay (aa 1),.aw⟩,
 ⟨some 7,aV ⟨bz (bG 238), #[aa 5,aa 6], #[286,288]⟩,.aw⟩,
 ⟨some 8,bg pA 3 (aa 7) (aD (bm bn 0)) 3,.aw⟩,
 ⟨some 4,aG (aa 8),.aw⟩]
def Kl:SC:=
 (.seq (.region Km)
 (.seq (.region Kn)
 .ret))
theorem acn:Tryz.prog.funcs[181]? =some Tryz.f181:=by kernel_rfl
theorem acm:(Tryz.f181.body).map cy=some Kl:=by kernel_rfl
theorem acp:Tryz.f181.ntmps=9:=by kernel_rfl
theorem aco:Tryz.f181.results.toList=[dA 4]:=by kernel_rfl
def Kp:List au:=
 [⟨some 2,aG (aD (bF false)),.aw⟩]
def Kq:List au:=
 [⟨some 3,ay (aa 0),.aw⟩,
 ⟨some 4,aV ⟨cE cX, #[aa 3], #[37]⟩,.aw⟩,
 ⟨some 5,bg nH 3 (aa 4) (aD (bm bn 2000)) 3,.aw⟩,
 ⟨some 2,aG (aa 5),.aw⟩]
def Ko:SC:=
 (.seq (.region Kp)
 (.seq (.region Kq)
 .ret))
theorem acr:Tryz.prog.funcs[182]? =some Tryz.f182:=by kernel_rfl
theorem acq:(Tryz.f182.body).map cy=some Ko:=by kernel_rfl
theorem act:Tryz.f182.ntmps=6:=by kernel_rfl
theorem acs:Tryz.f182.results.toList=[dA 2]:=by kernel_rfl
theorem YA:bB 182 4=0:=by kernel_rfl
def Ks:List au:=
 [⟨some 6,aG (aD (lF none)),.aw⟩]
def Kt:List au:=
 [⟨some 7,aH 289 (aa 2),.aw⟩,
 ⟨some 8,ay (aa 0),.aw⟩,
 ⟨some 9,aH 3 (aa 3),.aw⟩,
 ⟨some 10,bg BinOp.mul 3 (aa 8) (aa 9) 3,.aw⟩,
 ⟨some 11,ay (aa 1),.aw⟩,
 ⟨some 12,bg dX 3 (aa 10) (aa 11) 3,.aw⟩,
 ⟨some 13,df 289 (aa 7) (aa 12),.aw⟩,
 ⟨some 6,aG (aa 13),.aw⟩]
def Kr:SC:=
 (.seq (.region Ks)
 (.seq (.region Kt)
 .ret))
theorem acv:Tryz.prog.funcs[183]? =some Tryz.f183:=by kernel_rfl
theorem acu:(Tryz.f183.body).map cy=some Kr:=by kernel_rfl
theorem acx:Tryz.f183.ntmps=14:=by kernel_rfl
theorem acw:Tryz.f183.results.toList=[dA 6]:=by kernel_rfl
def LA:List au:=
 [⟨some 4,aG (aD (bm bn 0)),.aw⟩]
def LC:List au:=
 [⟨some 6,ay (aa 0),.aw⟩,
 ⟨some 7,aV ⟨cE cX, #[aa 6], #[286]⟩,.aw⟩,
 ⟨some 8,ay (aD (bm bn 0)),.aw⟩]
def Dl:List au:=
 [⟨some 9,bg dY 3 (aa 8) (aa 7) 3,.aw⟩]
def LD:List au:=
 [⟨some 10,ay (aa 8),.aw⟩,
 ⟨some 5,aG (aa 10),.aw⟩]
def LF:List au:=
 [⟨some 11,ay (aa 1),.aw⟩,
 ⟨some 12,ay (aa 0),.aw⟩,
 ⟨some 13,ay (aa 5),.aw⟩,
 ⟨some 14,df 286 (aa 12) (aa 13),.aw⟩,
 ⟨some 15,aH 37 (aa 14),.aw⟩,
 ⟨some 16,aV ⟨bz (aa 11), #[aa 15], #[37]⟩,.aw⟩]
def LG:List au:=
 [⟨some 17,ay (aa 5),.aw⟩,
 ⟨some 4,aG (aa 17),.aw⟩]
def LH:List au:=
 [⟨some 18,bg dX 3 (aa 8) (aD (bm bn 1)) 3,.aw⟩,
 ⟨some 8,ay (aa 18),.aw⟩]
def ze:SC:=
 (.seq (.region Dl)
 (.seq (.cond (aa 9) .skip (.exit 0))
 (.seq (.block 1 (.seq (.region LD)
 (.seq (.region LF)
 (.cond (aa 16) (.seq (.region LG)
 .ret) .skip))))
 (.region LH))))
def LI:List au:=
 [⟨some 4,aG (aD (bm bn (-1))),.aw⟩]
def Lz:SC:=
 (.seq (.region LA)
 (.seq (.seq (.region LC)
 (.block 0 (.loop ze)))
 (.seq (.region LI)
 .ret)))
theorem ada:Tryz.prog.funcs[238]? =some Tryz.f238:=by kernel_rfl
theorem ac9:(Tryz.f238.body).map cy=some Lz:=by kernel_rfl
theorem adc:Tryz.f238.ntmps=19:=by kernel_rfl
theorem adb:Tryz.f238.results.toList=[dA 4]:=by kernel_rfl
theorem YI:bB 238 7=0:=by kernel_rfl
def agh:List Nat:=[0,0,2,7,0,0,32,15,255,511]
def Pv:List au:=
 [⟨some 6,aG (aD (iy none 0 0)),.aw⟩,
 ⟨some 7,aG (aD (iy none 0 0)),.aw⟩]
def Pw:List au:=
 [⟨some 20,ay (aa 0),.aw⟩,
 ⟨some 21,ay (aa 1),.aw⟩,
 ⟨some 22,ay (aa 2),.aw⟩,
 ⟨some 23,jJ 194 #[(0,aa 20),(1,aa 21),(2,aa 22)],.aw⟩,
 ⟨some 8,ey 194,.aw⟩,
 ⟨none,dw 194 (aa 8) (aa 23),.aw⟩]
def PE:List au:=
 [⟨some 24,Op.makeMap 195 none,.aw⟩,
 ⟨some 9,aG (aa 24),.aw⟩]
def PJ:List au:=
 [⟨some 25,aH 194 (aa 8),.aw⟩,
 ⟨some 26,ay (aD (bm bn 0)),.aw⟩]
def Eg:List au:=
 [⟨some 27,bg dY 3 (aa 26) (aD (bm bn 3)) 3,.aw⟩]
def PL:List au:=
 [⟨some 28,ay (aa 26),.aw⟩,
 ⟨some 29,Op.index 194 (aa 25) (aa 26),.aw⟩,
 ⟨some 10,aG (aa 28),.aw⟩,
 ⟨some 11,aG (aa 29),.aw⟩]
def PM:List au:=
 [⟨some 30,ay (aa 11),.aw⟩,
 ⟨some 31,aV ⟨bz (bG 59), #[aa 30], #[38]⟩,.aw⟩,
 ⟨some 32,fy UnOp.not 4 (aa 31),.aw⟩]
def agk:List au:=
 [⟨some 6,aG (aD (iy none 0 0)),.aw⟩,
 ⟨some 7,aG (aD (iy none 0 0)),.aw⟩]
def PN:List au:=
 [⟨some 33,ay (aa 11),.aw⟩,
 ⟨some 34,aV ⟨cE cX, #[aa 33], #[38]⟩,.aw⟩,
 ⟨some 35,ay (aD (bm bn 0)),.aw⟩]
def Eh:List au:=
 [⟨some 36,bg dY 3 (aa 35) (aa 34) 3,.aw⟩]
def Px:List au:=
 [⟨some 37,df 38 (aa 33) (aa 35),.aw⟩,
 ⟨some 38,aH 51 (aa 37),.aw⟩,
 ⟨some 13,ey 51,.aw⟩,
 ⟨none,dw 51 (aa 13) (aa 38),.aw⟩]
def Py:List au:=
 [⟨some 39,ay (aa 9),.aw⟩,
 ⟨some 40,bC 51 (aa 13) 0,.aw⟩,
 ⟨some 41,aH 9 (aa 40),.aw⟩,
 ⟨some 42,mT 195 (aa 39) (aa 41) false,.aw⟩,
 ⟨some 43,bg eL 196 (aa 42) (aD (lF none)) 196,.aw⟩]
def Pz:List au:=
 [⟨some 44,ay (aa 9),.aw⟩,
 ⟨some 45,bC 51 (aa 13) 0,.aw⟩,
 ⟨some 46,aH 9 (aa 45),.aw⟩,
 ⟨some 47,ey 197,.aw⟩,
 ⟨none,ur 195 (aa 44) (aa 46) (aa 47),.aw⟩]
def oY:List au:=
 [⟨some 48,ay (aa 9),.aw⟩,
 ⟨some 49,bC 51 (aa 13) 0,.aw⟩,
 ⟨some 50,aH 9 (aa 49),.aw⟩,
 ⟨some 51,mT 195 (aa 48) (aa 50) false,.aw⟩,
 ⟨some 52,ay (aa 10),.aw⟩,
 ⟨some 53,bC 51 (aa 13) 1,.aw⟩,
 ⟨some 54,aH 9 (aa 53),.aw⟩,
 ⟨some 55,dE (aa 51),.aw⟩,
 ⟨some 56,df 197 (aa 55) (aa 52),.aw⟩,
 ⟨none,dw 9 (aa 56) (aa 54),.aw⟩]
def D7:List au:=
 [⟨some 57,bg dX 3 (aa 35) (aD (bm bn 1)) 3,.aw⟩,
 ⟨some 35,ay (aa 57),.aw⟩]
def xk:SC:=
 (.seq (.region Eh)
 (.seq (.cond (aa 36) .skip (.exit 2))
 (.seq (.block 3 (.seq (.region Px)
 (.seq (.seq (.region Py)
 (.cond (aa 43) (.region Pz) .skip))
 (.draw oY agh))))
 (.region D7))))
def PA:List au:=
 [⟨some 58,bg dX 3 (aa 26) (aD (bm bn 1)) 3,.aw⟩,
 ⟨some 26,ay (aa 58),.aw⟩]
def vg:SC:=
 (.seq (.region Eg)
 (.seq (.cond (aa 27) .skip (.exit 0))
 (.seq (.block 1 (.seq (.region PL)
 (.seq (.seq (.region PM)
 (.cond (aa 32) (.seq (.region agk)
 .ret) .skip))
 (.seq (.region PN)
 (.block 2 (.loop xk))))))
 (.region PA))))
def PB:List au:=
 [⟨some 14,aG (aD (iy none 0 0)),.aw⟩]
def PC:List au:=
 [⟨some 15,aG (aD (iy none 0 0)),.aw⟩]
def PD:List au:=
 [⟨some 59,ay (aa 9),.aw⟩,
 ⟨some 60,aV ⟨bz (bG 120), #[aa 59], #[195]⟩,.aw⟩,
 ⟨some 61,aV ⟨bz (bG 25), #[aa 60], #[71]⟩,.aw⟩,
 ⟨some 62,aV ⟨cE cX, #[aa 61], #[37]⟩,.aw⟩,
 ⟨some 63,ay (aD (bm bn 0)),.aw⟩]
def zA:List au:=
 [⟨some 64,bg dY 3 (aa 63) (aa 62) 3,.aw⟩]
def PF:List au:=
 [⟨some 65,df 37 (aa 61) (aa 63),.aw⟩,
 ⟨some 66,aH 9 (aa 65),.aw⟩,
 ⟨some 17,aG (aa 66),.aw⟩]
def PG:List au:=
 [⟨some 67,ay (aa 9),.aw⟩,
 ⟨some 68,ay (aa 17),.aw⟩,
 ⟨some 69,mT 195 (aa 67) (aa 68) false,.aw⟩,
 ⟨some 70,dE (aa 69),.aw⟩,
 ⟨some 71,aH 197 (aa 70),.aw⟩,
 ⟨some 18,ey 197,.aw⟩,
 ⟨none,dw 197 (aa 18) (aa 71),.aw⟩]
def PH:List au:=
 [⟨some 72,df 197 (aa 18) (aD (bm bn 0)),.aw⟩,
 ⟨some 73,aH 9 (aa 72),.aw⟩,
 ⟨some 19,aG (aa 73),.aw⟩]
def D8:List au:=
 [⟨some 79,aH 197 (aa 18),.aw⟩,
 ⟨some 80,df 197 (aa 18) (aD (bm bn 0)),.aw⟩,
 ⟨some 81,aH 9 (aa 80),.aw⟩,
 ⟨some 82,df 197 (aa 18) (aD (bm bn 1)),.aw⟩,
 ⟨some 83,aH 9 (aa 82),.aw⟩,
 ⟨some 84,df 197 (aa 18) (aD (bm bn 1)),.aw⟩,
 ⟨some 85,aH 9 (aa 84),.aw⟩,
 ⟨some 86,jJ 197 #[(0,aa 81),(1,aa 83),(2,aa 85)],.aw⟩,
 ⟨some 87,bg eL 197 (aa 79) (aa 86) 197,.aw⟩,
 ⟨some 78,aG (aa 87),.aw⟩]
def D9:List au:=
 [⟨some 88,aH 197 (aa 18),.aw⟩,
 ⟨some 89,df 197 (aa 18) (aD (bm bn 0)),.aw⟩,
 ⟨some 90,aH 9 (aa 89),.aw⟩,
 ⟨some 91,df 197 (aa 18) (aD (bm bn 1)),.aw⟩,
 ⟨some 92,aH 9 (aa 91),.aw⟩,
 ⟨some 93,df 197 (aa 18) (aD (bm bn 0)),.aw⟩,
 ⟨some 94,aH 9 (aa 93),.aw⟩,
 ⟨some 95,jJ 197 #[(0,aa 90),(1,aa 92),(2,aa 94)],.aw⟩,
 ⟨some 96,bg eL 197 (aa 88) (aa 95) 197,.aw⟩,
 ⟨some 78,aG (aa 96),.aw⟩]
def zC:List au:=
 [⟨some 97,df 197 (aa 18) (aD (bm bn 1)),.aw⟩,
 ⟨some 98,aH 9 (aa 97),.aw⟩,
 ⟨some 19,aG (aa 98),.aw⟩]
def zD:List au:=
 [⟨some 100,aH 197 (aa 18),.aw⟩,
 ⟨some 101,df 197 (aa 18) (aD (bm bn 0)),.aw⟩,
 ⟨some 102,aH 9 (aa 101),.aw⟩,
 ⟨some 103,df 197 (aa 18) (aD (bm bn 0)),.aw⟩,
 ⟨some 104,aH 9 (aa 103),.aw⟩,
 ⟨some 105,df 197 (aa 18) (aD (bm bn 2)),.aw⟩,
 ⟨some 106,aH 9 (aa 105),.aw⟩,
 ⟨some 107,jJ 197 #[(0,aa 102),(1,aa 104),(2,aa 106)],.aw⟩,
 ⟨some 108,bg eL 197 (aa 100) (aa 107) 197,.aw⟩,
 ⟨some 99,aG (aa 108),.aw⟩]
def zE:List au:=
 [⟨some 109,df 197 (aa 18) (aD (bm bn 2)),.aw⟩,
 ⟨some 110,aH 9 (aa 109),.aw⟩,
 ⟨some 19,aG (aa 110),.aw⟩]
def zB:List au:=
 [⟨some 74,ay (aa 15),.aw⟩,
 ⟨some 75,ay (aa 17),.aw⟩,
 ⟨some 76,ka 37 1 #[(0,aa 75)],.aw⟩,
 ⟨some 77,aV ⟨cE mO, #[aa 74,aa 76], #[37,37]⟩,.aw⟩,
 ⟨some 15,aG (aa 77),.aw⟩]
def Ea:List au:=
 [⟨some 112,ay (aa 19),.aw⟩,
 ⟨some 113,bg eL 9 (aa 112) (aD (iQ {data:= #[] })) 9,.aw⟩,
 ⟨some 111,aG (aa 113),.aw⟩]
def Eb:List au:=
 [⟨some 115,ay (aa 14),.aw⟩,
 ⟨some 116,aV ⟨cE cX, #[aa 115], #[38]⟩,.aw⟩,
 ⟨some 117,bg dY 3 (aa 116) (aD (bm bn 60)) 3,.aw⟩,
 ⟨some 114,aG (aa 117),.aw⟩]
def Ec:List au:=
 [⟨some 118,ay (aa 14),.aw⟩,
 ⟨some 119,ay (aa 17),.aw⟩,
 ⟨some 120,ay (aa 19),.aw⟩,
 ⟨some 121,jJ 51 #[(0,aa 119),(1,aa 120)],.aw⟩,
 ⟨some 122,ka 38 1 #[(0,aa 121)],.aw⟩,
 ⟨some 123,aV ⟨cE mO, #[aa 118,aa 122], #[38,38]⟩,.aw⟩,
 ⟨some 14,aG (aa 123),.aw⟩]
def Ed:List au:=
 [⟨some 125,ay (aa 15),.aw⟩,
 ⟨some 126,ay (aa 17),.aw⟩,
 ⟨some 127,aV ⟨bz (bG 121), #[aa 125,aa 126], #[37,9]⟩,.aw⟩,
 ⟨some 128,fy UnOp.not 4 (aa 127),.aw⟩,
 ⟨some 124,aG (aa 128),.aw⟩]
def Ee:List au:=
 [⟨some 129,ay (aa 15),.aw⟩,
 ⟨some 130,ay (aa 17),.aw⟩,
 ⟨some 131,ka 37 1 #[(0,aa 130)],.aw⟩,
 ⟨some 132,aV ⟨cE mO, #[aa 129,aa 131], #[37,37]⟩,.aw⟩,
 ⟨some 15,aG (aa 132),.aw⟩]
def PK:List au:=
 [⟨some 133,bg dX 3 (aa 63) (aD (bm bn 1)) 3,.aw⟩,
 ⟨some 63,ay (aa 133),.aw⟩]
def xl:SC:=
 (.seq (.region zA)
 (.seq (.cond (aa 64) .skip (.exit 4))
 (.seq (.block 5 (.seq (.region PF)
 (.seq (.region PG)
 (.seq (.region PH)
 (.seq (.block 6 (.seq (.seq (.region D8)
 (.cond (aa 78) .skip (.region D9)))
 (.cond (aa 78) (.region zC) (.seq (.region zD)
 (.cond (aa 99) (.region zE) (.region zB))))))
 (.block 7 (.seq (.region Ea)
 (.cond (aa 111) .skip (.seq (.region Eb)
 (.cond (aa 114) (.region Ec) (.seq (.region Ed)
 (.cond (aa 124) (.region Ee) .skip))))))))))))
 (.region PK))))
def Ef:List au:=
 [⟨some 134,ay (aa 14),.aw⟩,
 ⟨some 135,ay (aa 15),.aw⟩,
 ⟨some 6,aG (aa 134),.aw⟩,
 ⟨some 7,aG (aa 135),.aw⟩]
def Ps:SC:=
 (.seq (.region Pv)
 (.seq (.region Pw)
 (.seq (.region PE)
 (.seq (.seq (.region PJ)
 (.block 0 (.loop vg)))
 (.seq (.region PB)
 (.seq (.region PC)
 (.seq (.seq (.region PD)
 (.block 4 (.loop xl)))
 (.seq (.region Ef)
 .ret))))))))
theorem agj:Tryz.prog.funcs[76]? =some Tryz.f76:=by kernel_rfl
theorem agi:(Tryz.f76.body).map cy=some Ps:=by kernel_rfl
theorem agm:Tryz.f76.ntmps=136:=by kernel_rfl
theorem agl:Tryz.f76.results.toList=[dA 6,dA 7]:=by kernel_rfl
theorem ZU:bB 76 8=1:=by kernel_rfl
theorem ZM:bB 76 13=1:=by kernel_rfl
theorem ZP:bB 76 18=1:=by kernel_rfl
theorem ZQ:bB 76 34=0:=by kernel_rfl
theorem ZR:bB 76 47=0:=by kernel_rfl
theorem Ia:bB 76 62=0:=by kernel_rfl
theorem ZS:bB 76 76=0:=by kernel_rfl
theorem ZT:bB 76 77=0:=by kernel_rfl
theorem ZJ:bB 76 116=0:=by kernel_rfl
theorem ZK:bB 76 122=0:=by kernel_rfl
theorem ZL:bB 76 123=0:=by kernel_rfl
theorem ZN:bB 76 131=0:=by kernel_rfl
theorem ZO:bB 76 132=0:=by kernel_rfl
def NB:List Nat:=[0,1,3,7,0,16,48,112,0,256,768,1792,4095,8191,16383,16383,32767,131071]
def NC:List Nat:=[0,0,2,6,14,0,32,96,224,0,512,1536,3584,0,8192,24576,57344,131071,262143,524287]
def aeB:List Nat:=[0,1,3,7,0,16,48,112,0,256,768,1792,4095,8191,16383,16383,32767,131071]
def ND:List au:=
 [⟨some 8,aG (aD (lF none)),.aw⟩]
def NF:List au:=
 [⟨some 16,ay (aa 1),.aw⟩,
 ⟨some 17,dE (aa 16),.aw⟩,
 ⟨some 18,aH 40 (aa 17),.aw⟩,
 ⟨some 9,ey 40,.aw⟩,
 ⟨none,dw 40 (aa 9) (aa 18),.aw⟩]
def DE:List au:=
 [⟨some 20,ay (aa 1),.aw⟩,
 ⟨some 21,dE (aa 20),.aw⟩,
 ⟨some 22,bC 40 (aa 21) 3,.aw⟩,
 ⟨some 23,aH 37 (aa 22),.aw⟩,
 ⟨some 24,ay (aa 2),.aw⟩,
 ⟨some 25,dE (aa 24),.aw⟩,
 ⟨some 26,bC 40 (aa 25) 3,.aw⟩,
 ⟨some 27,aH 37 (aa 26),.aw⟩,
 ⟨some 28,ay (aa 3),.aw⟩,
 ⟨some 29,dE (aa 28),.aw⟩,
 ⟨some 30,bC 40 (aa 29) 3,.aw⟩,
 ⟨some 31,aH 37 (aa 30),.aw⟩,
 ⟨some 32,aV ⟨bz (bG 74), #[aa 23,aa 27,aa 31], #[37,37,37]⟩,.aw⟩,
 ⟨some 19,ay (aa 32),.aw⟩,
 ⟨some 33,eh (aa 19) 0,.aw⟩,
 ⟨some 34,eh (aa 19) 1,.aw⟩,
 ⟨some 10,aG (aa 33),.aw⟩,
 ⟨some 11,aG (aa 34),.aw⟩]
def zm:List au:=
 [⟨some 35,ay (aa 10),.aw⟩,
 ⟨some 36,bC 40 (aa 9) 3,.aw⟩,
 ⟨none,dw 37 (aa 36) (aa 35),.aw⟩]
def zn:List au:=
 [⟨some 37,ay (aa 11),.aw⟩,
 ⟨some 38,fy UnOp.not 4 (aa 37),.aw⟩,
 ⟨some 39,ay (aa 38),.aw⟩,
 ⟨some 40,aH 40 (aa 9),(.when 39 false)⟩,
 ⟨some 41,aV ⟨bz (bG 36), #[aa 40], #[40]⟩,(.when 39 false)⟩,
 ⟨some 42,fy UnOp.not 4 (aa 41),(.when 39 false)⟩,
 ⟨some 43,cO (aa 39) (aD (bF true)) (aa 42),.aw⟩]
def zo:List au:=
 [⟨some 44,ay (aa 0),.aw⟩,
 ⟨some 45,ay (aa 1),.aw⟩,
 ⟨some 46,dE (aa 45),.aw⟩,
 ⟨some 47,bC 40 (aa 46) 0,.aw⟩,
 ⟨some 48,aH 9 (aa 47),.aw⟩,
 ⟨some 49,aV {callee:=bz (bG 45),args:= #[aa 44,aa 48,aD (iQ {data:= #[114,101,102,115] })],argTypes:= #[60,9,9] },.aw⟩]
def zp:List au:=
 [⟨some 50,ay (aa 1),.aw⟩,
 ⟨some 51,dE (aa 50),.aw⟩,
 ⟨some 52,bC 40 (aa 51) 3,.aw⟩,
 ⟨some 53,aH 37 (aa 52),.aw⟩,
 ⟨some 54,bC 40 (aa 9) 3,.aw⟩,
 ⟨none,dw 37 (aa 54) (aa 53),.aw⟩]
def vd:List au:=
 [⟨some 55,ay (aa 0),.aw⟩,
 ⟨some 56,ay (aa 1),.aw⟩,
 ⟨some 57,dE (aa 56),.aw⟩,
 ⟨some 58,bC 40 (aa 57) 0,.aw⟩,
 ⟨some 59,aH 9 (aa 58),.aw⟩,
 ⟨some 60,ay (aa 1),.aw⟩,
 ⟨some 61,dE (aa 60),.aw⟩,
 ⟨some 62,bC 40 (aa 61) 2,.aw⟩,
 ⟨some 63,aH 36 (aa 62),.aw⟩,
 ⟨some 64,ay (aa 2),.aw⟩,
 ⟨some 65,dE (aa 64),.aw⟩,
 ⟨some 66,bC 40 (aa 65) 2,.aw⟩,
 ⟨some 67,aH 36 (aa 66),.aw⟩,
 ⟨some 68,ay (aa 3),.aw⟩,
 ⟨some 69,dE (aa 68),.aw⟩,
 ⟨some 70,bC 40 (aa 69) 2,.aw⟩,
 ⟨some 71,aH 36 (aa 70),.aw⟩,
 ⟨some 72,aV ⟨bz (bG 75), #[aa 55,aa 59,aa 63,aa 67,aa 71], #[60,9,36,36,36]⟩,.aw⟩,
 ⟨some 73,bC 40 (aa 9) 2,.aw⟩,
 ⟨none,dw 36 (aa 73) (aa 72),.aw⟩]
def NL:List au:=
 [⟨some 75,ay (aa 1),.aw⟩,
 ⟨some 76,dE (aa 75),.aw⟩,
 ⟨some 77,bC 40 (aa 76) 4,.aw⟩,
 ⟨some 78,aH 38 (aa 77),.aw⟩,
 ⟨some 79,ay (aa 2),.aw⟩,
 ⟨some 80,dE (aa 79),.aw⟩,
 ⟨some 81,bC 40 (aa 80) 4,.aw⟩,
 ⟨some 82,aH 38 (aa 81),.aw⟩,
 ⟨some 83,ay (aa 3),.aw⟩,
 ⟨some 84,dE (aa 83),.aw⟩,
 ⟨some 85,bC 40 (aa 84) 4,.aw⟩,
 ⟨some 86,aH 38 (aa 85),.aw⟩,
 ⟨some 87,aV ⟨bz (bG 76), #[aa 78,aa 82,aa 86], #[38,38,38]⟩,.aw⟩,
 ⟨some 74,ay (aa 87),.aw⟩,
 ⟨some 88,eh (aa 74) 0,.aw⟩,
 ⟨some 89,eh (aa 74) 1,.aw⟩,
 ⟨some 12,aG (aa 88),.aw⟩,
 ⟨some 13,aG (aa 89),.aw⟩]
def NM:List au:=
 [⟨some 90,ay (aa 12),.aw⟩,
 ⟨some 91,bC 40 (aa 9) 4,.aw⟩,
 ⟨none,dw 38 (aa 91) (aa 90),.aw⟩]
def NG:List au:=
 [⟨some 92,ay (aa 13),.aw⟩,
 ⟨some 93,aV ⟨cE cX, #[aa 92], #[37]⟩,.aw⟩,
 ⟨some 94,ay (aD (bm bn 0)),.aw⟩]
def DD:List au:=
 [⟨some 95,bg dY 3 (aa 94) (aa 93) 3,.aw⟩]
def NH:List au:=
 [⟨some 96,df 37 (aa 92) (aa 94),.aw⟩,
 ⟨some 97,aH 9 (aa 96),.aw⟩,
 ⟨some 15,aG (aa 97),.aw⟩]
def NI:List au:=
 [⟨some 98,ay (aa 0),.aw⟩,
 ⟨some 99,ay (aa 1),.aw⟩,
 ⟨some 100,dE (aa 99),.aw⟩,
 ⟨some 101,bC 40 (aa 100) 0,.aw⟩,
 ⟨some 102,aH 9 (aa 101),.aw⟩,
 ⟨some 103,ay (aa 15),.aw⟩,
 ⟨some 104,bg dX 9 (aD (iQ {data:= #[116,97,103,32] })) (aa 103) 9,.aw⟩,
 ⟨some 105,aV ⟨bz (bG 45), #[aa 98,aa 102,aa 104], #[60,9,9]⟩,.aw⟩]
def NJ:List au:=
 [⟨some 106,bg dX 3 (aa 94) (aD (bm bn 1)) 3,.aw⟩,
 ⟨some 94,ay (aa 106),.aw⟩]
def zl:SC:=
 (.seq (.region DD)
 (.seq (.cond (aa 95) .skip (.exit 0))
 (.seq (.block 1 (.seq (.region NH)
 (.region NI)))
 (.region NJ))))
def NK:List au:=
 [⟨some 8,aG (aa 9),.aw⟩]
def NA:SC:=
 (.seq (.region ND)
 (.seq (.region NF)
 (.seq (.draw DE NB)
 (.seq (.region zm)
 (.seq (.seq (.region zn)
 (.cond (aa 43) (.seq (.region zo)
 (.region zp)) .skip))
 (.seq (.draw vd NC)
 (.seq (.draw NL aeB)
 (.seq (.region NM)
 (.seq (.seq (.region NG)
 (.block 0 (.loop zl)))
 (.seq (.region NK)
 .ret))))))))))
theorem aeD:Tryz.prog.funcs[44]? =some Tryz.f44:=by kernel_rfl
theorem aeC:(Tryz.f44.body).map cy=some NA:=by kernel_rfl
theorem aeF:Tryz.f44.ntmps=107:=by kernel_rfl
theorem aeE:Tryz.f44.results.toList=[dA 8]:=by kernel_rfl
theorem Y5:bB 44 9=0:=by kernel_rfl
theorem Y6:bB 44 93=0:=by kernel_rfl
def aee:List Nat:=[0,0,2,7,15,31,0,0,192,448,960,2047,4095,8191,8191,24575,65535,131071,262143,8191,8191,1581055,3678207,7872511,16777215,33554431,67108863,67108863,201326591,536870911,1073741823,2147483647,67108863,67108863,12952010751,30131879935,64491618303,137438953471,274877906943,549755813887]
def aeg:List au:=
 [⟨some 3,ef 24 (aa 0),.aw⟩,
 ⟨some 4,ef 24 (aa 1),.aw⟩,
 ⟨some 5,ef 24 (aa 2),.aw⟩,
 ⟨some 6,aG (aD (bF false)),.aw⟩]
def aeh:List au:=
 [⟨some 13,aV ⟨bz (bG 7), #[], #[]⟩,.aw⟩,
 ⟨some 7,aG (aa 13),.aw⟩]
def aek:List au:=
 [⟨some 14,aH 24 (aa 3),.aw⟩,
 ⟨some 15,aH 24 (aa 4),.aw⟩,
 ⟨some 16,aH 24 (aa 5),.aw⟩,
 ⟨some 17,aV ⟨bz (bG 8), #[aa 14,aa 15,aa 16], #[24,24,24]⟩,.aw⟩,
 ⟨some 18,fy UnOp.not 4 (aa 17),.aw⟩]
def ael:List au:=
 [⟨some 19,ay (aa 7),.aw⟩,
 ⟨some 6,aG (aa 19),.aw⟩]
def aem:List au:=
 [⟨some 21,aH 24 (aa 3),.aw⟩,
 ⟨some 22,aH 24 (aa 4),.aw⟩,
 ⟨some 23,aH 24 (aa 5),.aw⟩,
 ⟨some 24,aV ⟨bz (bG 9), #[aa 21,aa 22,aa 23], #[24,24,24]⟩,.aw⟩,
 ⟨some 20,ay (aa 24),.aw⟩,
 ⟨some 25,eh (aa 20) 0,.aw⟩,
 ⟨some 26,eh (aa 20) 1,.aw⟩,
 ⟨some 8,ey 24,.aw⟩,
 ⟨none,dw 24 (aa 8) (aa 25),.aw⟩,
 ⟨some 9,aG (aa 26),.aw⟩]
def aen:List au:=
 [⟨some 28,aH 24 (aa 3),.aw⟩,
 ⟨some 29,aH 24 (aa 5),.aw⟩,
 ⟨some 30,aH 24 (aa 4),.aw⟩,
 ⟨some 31,aV ⟨bz (bG 9), #[aa 28,aa 29,aa 30], #[24,24,24]⟩,.aw⟩,
 ⟨some 27,ay (aa 31),.aw⟩,
 ⟨some 32,eh (aa 27) 0,.aw⟩,
 ⟨some 33,eh (aa 27) 1,.aw⟩,
 ⟨some 10,ey 24,.aw⟩,
 ⟨none,dw 24 (aa 10) (aa 32),.aw⟩,
 ⟨some 11,aG (aa 33),.aw⟩]
def aeo:List au:=
 [⟨some 12,aG (aD (bm bn 1)),.aw⟩]
def aep:List au:=
 [⟨some 34,ay (aa 12),.aw⟩,
 ⟨some 35,ay (aa 9),.aw⟩,
 ⟨some 36,aV ⟨cE cX, #[aa 35], #[27]⟩,.aw⟩,
 ⟨some 37,bg dY 3 (aa 34) (aa 36) 3,.aw⟩]
def aer:List au:=
 [⟨some 40,ay (aa 9),.aw⟩,
 ⟨some 41,ay (aa 12),.aw⟩,
 ⟨some 42,bg nI 3 (aa 41) (aD (bm bn 1)) 3,.aw⟩,
 ⟨some 43,df 27 (aa 40) (aa 42),.aw⟩,
 ⟨some 44,bC 31 (aa 43) 0,.aw⟩,
 ⟨some 45,aH 9 (aa 44),.aw⟩,
 ⟨some 46,ay (aa 9),.aw⟩,
 ⟨some 47,ay (aa 12),.aw⟩,
 ⟨some 48,df 27 (aa 46) (aa 47),.aw⟩,
 ⟨some 49,bC 31 (aa 48) 0,.aw⟩,
 ⟨some 50,aH 9 (aa 49),.aw⟩,
 ⟨some 51,bg nH 9 (aa 45) (aa 50) 9,.aw⟩,
 ⟨some 52,ay (aa 51),.aw⟩,
 ⟨some 53,ay (aa 9),(.when 52 false)⟩,
 ⟨some 54,ay (aa 12),(.when 52 false)⟩,
 ⟨some 55,bg nI 3 (aa 54) (aD (bm bn 1)) 3,(.when 52 false)⟩,
 ⟨some 56,df 27 (aa 53) (aa 55),(.when 52 false)⟩,
 ⟨some 57,bC 31 (aa 56) 0,(.when 52 false)⟩,
 ⟨some 58,aH 9 (aa 57),(.when 52 false)⟩,
 ⟨some 59,ay (aa 9),(.when 52 false)⟩,
 ⟨some 60,ay (aa 12),(.when 52 false)⟩,
 ⟨some 61,df 27 (aa 59) (aa 60),(.when 52 false)⟩,
 ⟨some 62,bC 31 (aa 61) 0,(.when 52 false)⟩,
 ⟨some 63,aH 9 (aa 62),(.when 52 false)⟩,
 ⟨some 64,bg eL 9 (aa 58) (aa 63) 9,(.when 52 false)⟩,
 ⟨some 65,ay (aa 64),(.when 52 false)⟩,
 ⟨some 66,ay (aa 9),(.when 65 true)⟩,
 ⟨some 67,ay (aa 12),(.when 65 true)⟩,
 ⟨some 68,bg nI 3 (aa 67) (aD (bm bn 1)) 3,(.when 65 true)⟩,
 ⟨some 69,df 27 (aa 66) (aa 68),(.when 65 true)⟩,
 ⟨some 70,bC 31 (aa 69) 1,(.when 65 true)⟩,
 ⟨some 71,aH 9 (aa 70),(.when 65 true)⟩,
 ⟨some 72,ay (aa 9),(.when 65 true)⟩,
 ⟨some 73,ay (aa 12),(.when 65 true)⟩,
 ⟨some 74,df 27 (aa 72) (aa 73),(.when 65 true)⟩,
 ⟨some 75,bC 31 (aa 74) 1,(.when 65 true)⟩,
 ⟨some 76,aH 9 (aa 75),(.when 65 true)⟩,
 ⟨some 77,bg pA 9 (aa 71) (aa 76) 9,(.when 65 true)⟩,
 ⟨some 78,cO (aa 65) (aa 77) (aD (bF false)),(.when 52 false)⟩,
 ⟨some 79,cO (aa 52) (aD (bF true)) (aa 78),.aw⟩]
def aei:List au:=
 [⟨some 6,aG (aD (bF false)),.aw⟩]
def aeq:List au:=
 [⟨some 38,ay (aa 12),.aw⟩,
 ⟨some 39,bg dX 3 (aa 38) (aD (bm bn 1)) 3,.aw⟩,
 ⟨some 12,aG (aa 39),.aw⟩]
def aef:SC:=
 (.seq (.seq (.region aep)
 (.cond (aa 37) .skip (.exit 0)))
 (.seq (.block 1 (.seq (.draw aer aee)
 (.cond (aa 79) (.seq (.region aei)
 .ret) .skip)))
 (.region aeq)))
def aej:List au:=
 [⟨some 80,ay (aa 7),.aw⟩,
 ⟨some 81,ay (aa 80),.aw⟩,
 ⟨some 82,aH 24 (aa 8),(.when 81 true)⟩,
 ⟨some 83,aH 24 (aa 10),(.when 81 true)⟩,
 ⟨some 84,aV ⟨bz (bG 10), #[aa 82,aa 83], #[24,24]⟩,(.when 81 true)⟩,
 ⟨some 85,cO (aa 81) (aa 84) (aD (bF false)),.aw⟩,
 ⟨some 86,ay (aa 85),.aw⟩,
 ⟨some 87,ay (aa 9),(.when 86 true)⟩,
 ⟨some 88,ay (aa 11),(.when 86 true)⟩,
 ⟨some 89,aV ⟨bz (bG 11), #[aa 87,aa 88], #[27,27]⟩,(.when 86 true)⟩,
 ⟨some 90,cO (aa 86) (aa 89) (aD (bF false)),.aw⟩,
 ⟨some 6,aG (aa 90),.aw⟩]
def k3:SC:=
 (.seq (.region aeg)
 (.seq (.region aeh)
 (.seq (.seq (.region aek)
 (.cond (aa 18) (.seq (.region ael)
 .ret) .skip))
 (.seq (.region aem)
 (.seq (.region aen)
 (.seq (.seq (.region aeo)
 (.block 0 (.loop aef)))
 (.seq (.region aej)
 .ret)))))))
def OB:List au:=
 [⟨some 4,ef 24 (aa 0),.aw⟩,
 ⟨some 5,ef 24 (aa 1),.aw⟩,
 ⟨some 6,ef 24 (aa 2),.aw⟩,
 ⟨some 8,aG (aD (bF false)),.aw⟩]
def OC:List au:=
 [⟨some 23,aV ⟨bz (bG 7), #[], #[]⟩,.aw⟩,
 ⟨some 9,aG (aa 23),.aw⟩]
def OD:List au:=
 [⟨some 24,aH 24 (aa 4),.aw⟩,
 ⟨some 25,aH 24 (aa 5),.aw⟩,
 ⟨some 26,aH 24 (aa 6),.aw⟩,
 ⟨some 27,aV ⟨bz (bG 8), #[aa 24,aa 25,aa 26], #[24,24,24]⟩,.aw⟩,
 ⟨some 28,fy UnOp.not 4 (aa 27),.aw⟩,
 ⟨some 29,ay (aa 28),.aw⟩,
 ⟨some 30,aH 24 (aa 4),(.when 29 false)⟩,
 ⟨some 31,aV ⟨bz (bG 13), #[aa 30], #[24]⟩,(.when 29 false)⟩,
 ⟨some 32,fy UnOp.not 4 (aa 31),(.when 29 false)⟩,
 ⟨some 33,cO (aa 29) (aD (bF true)) (aa 32),.aw⟩,
 ⟨some 34,ay (aa 33),.aw⟩,
 ⟨some 35,aH 24 (aa 5),(.when 34 false)⟩,
 ⟨some 36,aV ⟨bz (bG 13), #[aa 35], #[24]⟩,(.when 34 false)⟩,
 ⟨some 37,fy UnOp.not 4 (aa 36),(.when 34 false)⟩,
 ⟨some 38,cO (aa 34) (aD (bF true)) (aa 37),.aw⟩,
 ⟨some 39,ay (aa 38),.aw⟩,
 ⟨some 40,aH 24 (aa 6),(.when 39 false)⟩,
 ⟨some 41,aV ⟨bz (bG 13), #[aa 40], #[24]⟩,(.when 39 false)⟩,
 ⟨some 42,fy UnOp.not 4 (aa 41),(.when 39 false)⟩,
 ⟨some 43,cO (aa 39) (aD (bF true)) (aa 42),.aw⟩,
 ⟨some 44,ay (aa 43),.aw⟩,
 ⟨some 45,ay (aa 3),(.when 44 false)⟩,
 ⟨some 46,aV ⟨cE cX, #[aa 45], #[9]⟩,(.when 44 false)⟩,
 ⟨some 47,bg nH 3 (aa 46) (aD (bm bn 60)) 3,(.when 44 false)⟩,
 ⟨some 48,cO (aa 44) (aD (bF true)) (aa 47),.aw⟩]
def DN:List au:=
 [⟨some 49,ay (aa 9),.aw⟩,
 ⟨some 8,aG (aa 49),.aw⟩]
def OE:List au:=
 [⟨some 51,aH 24 (aa 4),.aw⟩,
 ⟨some 52,aH 24 (aa 5),.aw⟩,
 ⟨some 53,aH 24 (aa 6),.aw⟩,
 ⟨some 54,aV ⟨bz (bG 9), #[aa 51,aa 52,aa 53], #[24,24,24]⟩,.aw⟩,
 ⟨some 50,ay (aa 54),.aw⟩,
 ⟨some 55,eh (aa 50) 0,.aw⟩,
 ⟨some 56,eh (aa 50) 1,.aw⟩,
 ⟨some 10,ey 24,.aw⟩,
 ⟨none,dw 24 (aa 10) (aa 55),.aw⟩,
 ⟨some 11,aG (aa 56),.aw⟩]
def OG:List au:=
 [⟨some 58,aH 24 (aa 10),.aw⟩,
 ⟨some 59,ay (aa 3),.aw⟩,
 ⟨some 60,aV ⟨bz (bG 14), #[aa 58,aa 59], #[24,9]⟩,.aw⟩,
 ⟨some 57,ay (aa 60),.aw⟩,
 ⟨some 61,eh (aa 57) 0,.aw⟩,
 ⟨some 62,eh (aa 57) 1,.aw⟩,
 ⟨some 12,ey 40,.aw⟩,
 ⟨none,dw 40 (aa 12) (aa 61),.aw⟩,
 ⟨some 13,aG (aa 62),.aw⟩]
def OH:List au:=
 [⟨some 64,aH 24 (aa 4),.aw⟩,
 ⟨some 65,ay (aa 3),.aw⟩,
 ⟨some 66,aV ⟨bz (bG 14), #[aa 64,aa 65], #[24,9]⟩,.aw⟩,
 ⟨some 63,ay (aa 66),.aw⟩,
 ⟨some 67,eh (aa 63) 0,.aw⟩,
 ⟨some 68,eh (aa 63) 1,.aw⟩,
 ⟨some 14,ey 40,.aw⟩,
 ⟨none,dw 40 (aa 14) (aa 67),.aw⟩,
 ⟨some 15,aG (aa 68),.aw⟩]
def OI:List au:=
 [⟨some 70,aH 24 (aa 5),.aw⟩,
 ⟨some 71,ay (aa 3),.aw⟩,
 ⟨some 72,aV ⟨bz (bG 14), #[aa 70,aa 71], #[24,9]⟩,.aw⟩,
 ⟨some 69,ay (aa 72),.aw⟩,
 ⟨some 73,eh (aa 69) 0,.aw⟩,
 ⟨some 74,eh (aa 69) 1,.aw⟩,
 ⟨some 16,ey 40,.aw⟩,
 ⟨none,dw 40 (aa 16) (aa 73),.aw⟩,
 ⟨some 17,aG (aa 74),.aw⟩]
def OJ:List au:=
 [⟨some 76,aH 24 (aa 6),.aw⟩,
 ⟨some 77,ay (aa 3),.aw⟩,
 ⟨some 78,aV ⟨bz (bG 14), #[aa 76,aa 77], #[24,9]⟩,.aw⟩,
 ⟨some 75,ay (aa 78),.aw⟩,
 ⟨some 79,eh (aa 75) 0,.aw⟩,
 ⟨some 80,eh (aa 75) 1,.aw⟩,
 ⟨some 18,ey 40,.aw⟩,
 ⟨none,dw 40 (aa 18) (aa 79),.aw⟩,
 ⟨some 19,aG (aa 80),.aw⟩]
def DP:List au:=
 [⟨some 81,ay (aa 13),.aw⟩,
 ⟨some 82,ay (aa 81),.aw⟩,
 ⟨some 83,ay (aa 15),(.when 82 true)⟩,
 ⟨some 84,fy UnOp.not 4 (aa 83),(.when 82 true)⟩,
 ⟨some 85,cO (aa 82) (aa 84) (aD (bF false)),.aw⟩,
 ⟨some 86,ay (aa 85),.aw⟩,
 ⟨some 87,ay (aa 17),(.when 86 true)⟩,
 ⟨some 88,fy UnOp.not 4 (aa 87),(.when 86 true)⟩,
 ⟨some 89,cO (aa 86) (aa 88) (aD (bF false)),.aw⟩,
 ⟨some 90,ay (aa 89),.aw⟩,
 ⟨some 91,ay (aa 19),(.when 90 true)⟩,
 ⟨some 92,fy UnOp.not 4 (aa 91),(.when 90 true)⟩,
 ⟨some 93,cO (aa 90) (aa 92) (aD (bF false)),.aw⟩]
def DM:List au:=
 [⟨some 8,aG (aD (bF false)),.aw⟩]
def xg:List au:=
 [⟨some 94,aH 24 (aa 5),.aw⟩,
 ⟨some 20,ey 24,.aw⟩,
 ⟨none,dw 24 (aa 20) (aa 94),.aw⟩]
def xh:List au:=
 [⟨some 95,aH 24 (aa 5),.aw⟩,
 ⟨some 96,aH 24 (aa 4),.aw⟩,
 ⟨some 97,ay (aa 3),.aw⟩,
 ⟨some 98,aV ⟨bz (bG 15), #[aa 95,aa 96,aa 97], #[24,24,9]⟩,.aw⟩]
def xi:List au:=
 [⟨some 99,aH 24 (aa 6),.aw⟩,
 ⟨none,dw 24 (aa 20) (aa 99),.aw⟩]
def ve:List au:=
 [⟨some 100,aH 24 (aa 5),.aw⟩,
 ⟨some 101,aH 24 (aa 4),.aw⟩,
 ⟨some 102,ay (aa 3),.aw⟩,
 ⟨some 103,aV ⟨bz (bG 15), #[aa 100,aa 101,aa 102], #[24,24,9]⟩,.aw⟩,
 ⟨some 104,fy UnOp.not 4 (aa 103),.aw⟩,
 ⟨some 105,ay (aa 104),.aw⟩,
 ⟨some 106,aH 24 (aa 6),(.when 105 true)⟩,
 ⟨some 107,aH 24 (aa 4),(.when 105 true)⟩,
 ⟨some 108,ay (aa 3),(.when 105 true)⟩,
 ⟨some 109,aV ⟨bz (bG 15), #[aa 106,aa 107,aa 108], #[24,24,9]⟩,(.when 105 true)⟩,
 ⟨some 110,fy UnOp.not 4 (aa 109),(.when 105 true)⟩,
 ⟨some 111,cO (aa 105) (aa 110) (aD (bF false)),.aw⟩,
 ⟨some 112,ay (aa 111),.aw⟩,
 ⟨some 113,aH 24 (aa 5),(.when 112 true)⟩,
 ⟨some 114,aH 24 (aa 6),(.when 112 true)⟩,
 ⟨some 115,ay (aa 3),(.when 112 true)⟩,
 ⟨some 116,aV ⟨bz (bG 15), #[aa 113,aa 114,aa 115], #[24,24,9]⟩,(.when 112 true)⟩,
 ⟨some 117,fy UnOp.not 4 (aa 116),(.when 112 true)⟩,
 ⟨some 118,cO (aa 112) (aa 117) (aD (bF false)),.aw⟩]
def vf:List au:=
 [⟨some 119,ay (aa 9),.aw⟩,
 ⟨some 120,ay (aa 119),.aw⟩,
 ⟨some 121,ay (aa 13),(.when 120 true)⟩,
 ⟨some 122,cO (aa 120) (aa 121) (aD (bF false)),.aw⟩,
 ⟨some 8,aG (aa 122),.aw⟩]
def rR:List au:=
 [⟨some 124,aH 24 (aa 20),.aw⟩,
 ⟨some 125,ay (aa 3),.aw⟩,
 ⟨some 126,aV ⟨bz (bG 14), #[aa 124,aa 125], #[24,9]⟩,.aw⟩,
 ⟨some 123,ay (aa 126),.aw⟩,
 ⟨some 127,eh (aa 123) 0,.aw⟩,
 ⟨some 128,eh (aa 123) 1,.aw⟩,
 ⟨some 21,ey 40,.aw⟩,
 ⟨none,dw 40 (aa 21) (aa 127),.aw⟩,
 ⟨some 22,aG (aa 128),.aw⟩]
def rS:List au:=
 [⟨some 129,ay (aa 22),.aw⟩,
 ⟨some 130,ay (aa 129),.aw⟩,
 ⟨some 131,ay (aa 13),(.when 130 false)⟩,
 ⟨some 132,fy UnOp.not 4 (aa 131),(.when 130 false)⟩,
 ⟨some 133,cO (aa 130) (aD (bF true)) (aa 132),.aw⟩]
def qL:List au:=
 [⟨some 134,ay (aa 9),.aw⟩,
 ⟨some 135,ay (aa 134),.aw⟩,
 ⟨some 136,ay (aa 13),(.when 135 true)⟩,
 ⟨some 137,ay (aa 22),(.when 135 true)⟩,
 ⟨some 138,bg eL 4 (aa 136) (aa 137) 4,(.when 135 true)⟩,
 ⟨some 139,cO (aa 135) (aa 138) (aD (bF false)),.aw⟩,
 ⟨some 140,ay (aa 139),.aw⟩,
 ⟨some 141,aH 40 (aa 12),(.when 140 true)⟩,
 ⟨some 142,aH 40 (aa 21),(.when 140 true)⟩,
 ⟨some 143,aV ⟨bz (bG 16), #[aa 141,aa 142], #[40,40]⟩,(.when 140 true)⟩,
 ⟨some 144,cO (aa 140) (aa 143) (aD (bF false)),.aw⟩,
 ⟨some 145,ay (aa 144),.aw⟩,
 ⟨some 146,ay (aa 11),(.when 145 true)⟩,
 ⟨some 147,ay (aa 3),(.when 145 true)⟩,
 ⟨some 148,aV {callee:=bz (bG 17),args:= #[aa 146,aa 147,aD (iQ {data:= #[] })],argTypes:= #[27,9,9] },(.when 145 true)⟩,
 ⟨some 149,fy UnOp.not 4 (aa 148),(.when 145 true)⟩,
 ⟨some 150,cO (aa 145) (aa 149) (aD (bF false)),.aw⟩,
 ⟨some 8,aG (aa 150),.aw⟩]
def rT:List au:=
 [⟨some 151,ay (aa 9),.aw⟩,
 ⟨some 152,ay (aa 151),.aw⟩,
 ⟨some 153,ay (aa 11),(.when 152 true)⟩,
 ⟨some 154,ay (aa 3),(.when 152 true)⟩,
 ⟨some 155,aV {callee:=bz (bG 17),args:= #[aa 153,aa 154,aD (iQ {data:= #[111,98,106,101,99,116] })],argTypes:= #[27,9,9] },(.when 152 true)⟩,
 ⟨some 156,cO (aa 152) (aa 155) (aD (bF false)),.aw⟩,
 ⟨some 157,ay (aa 156),.aw⟩,
 ⟨some 158,aH 24 (aa 10),(.when 157 true)⟩,
 ⟨some 159,aH 24 (aa 4),(.when 157 true)⟩,
 ⟨some 160,ay (aa 3),(.when 157 true)⟩,
 ⟨some 161,aV ⟨bz (bG 15), #[aa 158,aa 159,aa 160], #[24,24,9]⟩,(.when 157 true)⟩,
 ⟨some 162,ay (aa 161),(.when 157 true)⟩,
 ⟨some 163,aH 24 (aa 10),(.when 162 false)⟩,
 ⟨some 164,aH 24 (aa 5),(.when 162 false)⟩,
 ⟨some 165,ay (aa 3),(.when 162 false)⟩,
 ⟨some 166,aV ⟨bz (bG 15), #[aa 163,aa 164,aa 165], #[24,24,9]⟩,(.when 162 false)⟩,
 ⟨some 167,cO (aa 162) (aD (bF true)) (aa 166),(.when 157 true)⟩,
 ⟨some 168,ay (aa 167),(.when 157 true)⟩,
 ⟨some 169,aH 24 (aa 10),(.when 168 false)⟩,
 ⟨some 170,aH 24 (aa 6),(.when 168 false)⟩,
 ⟨some 171,ay (aa 3),(.when 168 false)⟩,
 ⟨some 172,aV ⟨bz (bG 15), #[aa 169,aa 170,aa 171], #[24,24,9]⟩,(.when 168 false)⟩,
 ⟨some 173,cO (aa 168) (aD (bF true)) (aa 172),(.when 157 true)⟩,
 ⟨some 174,cO (aa 157) (aa 173) (aD (bF false)),.aw⟩,
 ⟨some 8,aG (aa 174),.aw⟩]
def k5:SC:=
 (.seq (.region OB)
 (.seq (.region OC)
 (.seq (.seq (.region OD)
 (.cond (aa 48) (.seq (.region DN)
 .ret) .skip))
 (.seq (.region OE)
 (.seq (.region OG)
 (.seq (.region OH)
 (.seq (.region OI)
 (.seq (.region OJ)
 (.seq (.seq (.region DP)
 (.cond (aa 93) (.seq (.region DM)
 .ret) .skip))
 (.seq (.region xg)
 (.seq (.seq (.region xh)
 (.cond (aa 98) (.region xi) .skip))
 (.seq (.seq (.region ve)
 (.cond (aa 118) (.seq (.region vf)
 .ret) .skip))
 (.seq (.region rR)
 (.seq (.seq (.region rS)
 (.cond (aa 133) (.seq (.region qL)
 .ret) .skip))
 (.seq (.region rT)
 .ret)))))))))))))))
theorem afu:Tryz.prog.funcs[5]? =some Tryz.f5:=by kernel_rfl
theorem aft:(Tryz.f5.body).map cy=some k5:=by kernel_rfl
theorem afw:Tryz.f5.ntmps=175:=by kernel_rfl
theorem afv:Tryz.f5.results.toList=[dA 8]:=by kernel_rfl
theorem Zi:bB 5 4=1:=by kernel_rfl
theorem Zj:bB 5 5=1:=by kernel_rfl
theorem Zk:bB 5 6=1:=by kernel_rfl
theorem Zb:bB 5 10=1:=by kernel_rfl
theorem Zc:bB 5 12=1:=by kernel_rfl
theorem Zd:bB 5 14=1:=by kernel_rfl
theorem Ze:bB 5 16=1:=by kernel_rfl
theorem Zf:bB 5 18=1:=by kernel_rfl
theorem Zg:bB 5 20=1:=by kernel_rfl
theorem Zh:bB 5 21=1:=by kernel_rfl
theorem H5:bB 5 46=0:=by kernel_rfl
def afJ:List Nat:=[0,0,2,0,14,30,62,0,254,510,1023,2047]
def afN:List au:=
 [⟨some 3,ef 24 (aa 0),.aw⟩,
 ⟨some 4,ef 24 (aa 1),.aw⟩,
 ⟨some 5,ef 24 (aa 2),.aw⟩,
 ⟨some 6,aG (aD (bF false)),.aw⟩]
def afO:List au:=
 [⟨some 19,aV ⟨bz (bG 7), #[], #[]⟩,.aw⟩,
 ⟨some 7,aG (aa 19),.aw⟩]
def afZ:List au:=
 [⟨some 20,aH 24 (aa 3),.aw⟩,
 ⟨some 21,aH 24 (aa 4),.aw⟩,
 ⟨some 22,aH 24 (aa 5),.aw⟩,
 ⟨some 23,aV ⟨bz (bG 8), #[aa 20,aa 21,aa 22], #[24,24,24]⟩,.aw⟩,
 ⟨some 24,fy UnOp.not 4 (aa 23),.aw⟩,
 ⟨some 25,ay (aa 24),.aw⟩,
 ⟨some 26,aH 24 (aa 3),(.when 25 false)⟩,
 ⟨some 27,aV ⟨bz (bG 12), #[aa 26], #[24]⟩,(.when 25 false)⟩,
 ⟨some 28,fy UnOp.not 4 (aa 27),(.when 25 false)⟩,
 ⟨some 29,cO (aa 25) (aD (bF true)) (aa 28),.aw⟩,
 ⟨some 30,ay (aa 29),.aw⟩,
 ⟨some 31,aH 24 (aa 4),(.when 30 false)⟩,
 ⟨some 32,aV ⟨bz (bG 12), #[aa 31], #[24]⟩,(.when 30 false)⟩,
 ⟨some 33,fy UnOp.not 4 (aa 32),(.when 30 false)⟩,
 ⟨some 34,cO (aa 30) (aD (bF true)) (aa 33),.aw⟩,
 ⟨some 35,ay (aa 34),.aw⟩,
 ⟨some 36,aH 24 (aa 5),(.when 35 false)⟩,
 ⟨some 37,aV ⟨bz (bG 12), #[aa 36], #[24]⟩,(.when 35 false)⟩,
 ⟨some 38,fy UnOp.not 4 (aa 37),(.when 35 false)⟩,
 ⟨some 39,cO (aa 35) (aD (bF true)) (aa 38),.aw⟩]
def af5:List au:=
 [⟨some 40,ay (aa 7),.aw⟩,
 ⟨some 6,aG (aa 40),.aw⟩]
def af6:List au:=
 [⟨some 42,aH 24 (aa 3),.aw⟩,
 ⟨some 43,aH 24 (aa 4),.aw⟩,
 ⟨some 44,aH 24 (aa 5),.aw⟩,
 ⟨some 45,aV ⟨bz (bG 9), #[aa 42,aa 43,aa 44], #[24,24,24]⟩,.aw⟩,
 ⟨some 41,ay (aa 45),.aw⟩,
 ⟨some 46,eh (aa 41) 0,.aw⟩,
 ⟨some 47,eh (aa 41) 1,.aw⟩,
 ⟨some 8,ey 24,.aw⟩,
 ⟨none,dw 24 (aa 8) (aa 46),.aw⟩,
 ⟨some 9,aG (aa 47),.aw⟩]
def af7:List au:=
 [⟨some 10,aG (aD (bm bn 0)),.aw⟩]
def af8:List au:=
 [⟨some 48,ay (aa 10),.aw⟩,
 ⟨some 49,bC 24 (aa 8) 0,.aw⟩,
 ⟨some 50,aH 22 (aa 49),.aw⟩,
 ⟨some 51,aV ⟨cE cX, #[aa 50], #[22]⟩,.aw⟩,
 ⟨some 52,bg dY 3 (aa 48) (aa 51) 3,.aw⟩]
def aga:List au:=
 [⟨some 11,aG (aD (bm bn 0)),.aw⟩]
def agb:List au:=
 [⟨some 55,ay (aa 11),.aw⟩,
 ⟨some 56,bC 24 (aa 8) 0,.aw⟩,
 ⟨some 57,aH 22 (aa 56),.aw⟩,
 ⟨some 58,ay (aa 10),.aw⟩,
 ⟨some 59,df 22 (aa 57) (aa 58),.aw⟩,
 ⟨some 60,bC 40 (aa 59) 3,.aw⟩,
 ⟨some 61,aH 37 (aa 60),.aw⟩,
 ⟨some 62,aV ⟨cE cX, #[aa 61], #[37]⟩,.aw⟩,
 ⟨some 63,bg dY 3 (aa 55) (aa 62) 3,.aw⟩]
def afQ:List au:=
 [⟨some 66,aH 24 (aa 8),.aw⟩,
 ⟨some 67,bC 24 (aa 8) 0,.aw⟩,
 ⟨some 68,aH 22 (aa 67),.aw⟩,
 ⟨some 69,ay (aa 10),.aw⟩,
 ⟨some 70,df 22 (aa 68) (aa 69),.aw⟩,
 ⟨some 71,bC 40 (aa 70) 3,.aw⟩,
 ⟨some 72,aH 37 (aa 71),.aw⟩,
 ⟨some 73,ay (aa 11),.aw⟩,
 ⟨some 74,df 37 (aa 72) (aa 73),.aw⟩,
 ⟨some 75,aH 9 (aa 74),.aw⟩,
 ⟨some 76,aV ⟨bz (bG 18), #[aa 66,aa 75], #[24,9]⟩,.aw⟩,
 ⟨some 77,bg dY 3 (aa 76) (aD (bm bn 0)) 3,.aw⟩]
def afR:List au:=
 [⟨some 6,aG (aD (bF false)),.aw⟩]
def afP:List au:=
 [⟨some 64,ay (aa 11),.aw⟩,
 ⟨some 65,bg dX 3 (aa 64) (aD (bm bn 1)) 3,.aw⟩,
 ⟨some 11,aG (aa 65),.aw⟩]
def afK:SC:=
 (.seq (.seq (.region agb)
 (.cond (aa 63) .skip (.exit 2)))
 (.seq (.block 3 (.seq (.draw afQ afJ)
 (.cond (aa 77) (.seq (.region afR)
 .ret) .skip)))
 (.region afP)))
def af9:List au:=
 [⟨some 53,ay (aa 10),.aw⟩,
 ⟨some 54,bg dX 3 (aa 53) (aD (bm bn 1)) 3,.aw⟩,
 ⟨some 10,aG (aa 54),.aw⟩]
def afL:SC:=
 (.seq (.seq (.region af8)
 (.cond (aa 52) .skip (.exit 0)))
 (.seq (.block 1 (.seq (.region aga)
 (.block 2 (.loop afK))))
 (.region af9)))
def afS:List au:=
 [⟨some 12,aG (aD (bm bn 0)),.aw⟩]
def afT:List au:=
 [⟨some 78,ay (aa 12),.aw⟩,
 ⟨some 79,ay (aa 9),.aw⟩,
 ⟨some 80,aV ⟨cE cX, #[aa 79], #[27]⟩,.aw⟩,
 ⟨some 81,bg dY 3 (aa 78) (aa 80) 3,.aw⟩]
def afV:List au:=
 [⟨some 84,ay (aa 9),.aw⟩,
 ⟨some 85,ay (aa 12),.aw⟩,
 ⟨some 86,df 27 (aa 84) (aa 85),.aw⟩,
 ⟨some 87,bC 31 (aa 86) 0,.aw⟩,
 ⟨some 88,aH 9 (aa 87),.aw⟩,
 ⟨some 13,aG (aa 88),.aw⟩]
def afW:List au:=
 [⟨some 90,aH 24 (aa 4),.aw⟩,
 ⟨some 91,ay (aa 13),.aw⟩,
 ⟨some 92,aV ⟨bz (bG 14), #[aa 90,aa 91], #[24,9]⟩,.aw⟩,
 ⟨some 89,ay (aa 92),.aw⟩,
 ⟨some 93,eh (aa 89) 0,.aw⟩,
 ⟨some 94,eh (aa 89) 1,.aw⟩,
 ⟨some 14,ey 40,.aw⟩,
 ⟨none,dw 40 (aa 14) (aa 93),.aw⟩,
 ⟨some 15,aG (aa 94),.aw⟩]
def afX:List au:=
 [⟨some 96,aH 24 (aa 5),.aw⟩,
 ⟨some 97,ay (aa 13),.aw⟩,
 ⟨some 98,aV ⟨bz (bG 14), #[aa 96,aa 97], #[24,9]⟩,.aw⟩,
 ⟨some 95,ay (aa 98),.aw⟩,
 ⟨some 99,eh (aa 95) 0,.aw⟩,
 ⟨some 100,eh (aa 95) 1,.aw⟩,
 ⟨some 16,ey 40,.aw⟩,
 ⟨none,dw 40 (aa 16) (aa 99),.aw⟩,
 ⟨some 17,aG (aa 100),.aw⟩]
def afY:List au:=
 [⟨some 101,aH 24 (aa 4),.aw⟩,
 ⟨some 102,aH 24 (aa 3),.aw⟩,
 ⟨some 103,ay (aa 13),.aw⟩,
 ⟨some 104,aV ⟨bz (bG 15), #[aa 101,aa 102,aa 103], #[24,24,9]⟩,.aw⟩,
 ⟨some 105,ay (aa 104),.aw⟩,
 ⟨some 106,aH 24 (aa 5),(.when 105 false)⟩,
 ⟨some 107,aH 24 (aa 3),(.when 105 false)⟩,
 ⟨some 108,ay (aa 13),(.when 105 false)⟩,
 ⟨some 109,aV ⟨bz (bG 15), #[aa 106,aa 107,aa 108], #[24,24,9]⟩,(.when 105 false)⟩,
 ⟨some 110,cO (aa 105) (aD (bF true)) (aa 109),.aw⟩,
 ⟨some 111,ay (aa 110),.aw⟩,
 ⟨some 112,aH 24 (aa 4),(.when 111 false)⟩,
 ⟨some 113,aH 24 (aa 5),(.when 111 false)⟩,
 ⟨some 114,ay (aa 13),(.when 111 false)⟩,
 ⟨some 115,aV ⟨bz (bG 15), #[aa 112,aa 113,aa 114], #[24,24,9]⟩,(.when 111 false)⟩,
 ⟨some 116,cO (aa 111) (aD (bF true)) (aa 115),.aw⟩,
 ⟨some 18,aG (aa 116),.aw⟩]
def af0:List au:=
 [⟨some 117,ay (aa 18),.aw⟩,
 ⟨some 118,ay (aa 117),.aw⟩,
 ⟨some 119,ay (aa 15),(.when 118 true)⟩,
 ⟨some 120,ay (aa 119),(.when 118 true)⟩,
 ⟨some 121,ay (aa 17),(.when 120 true)⟩,
 ⟨some 122,cO (aa 120) (aa 121) (aD (bF false)),(.when 118 true)⟩,
 ⟨some 123,ay (aa 122),(.when 118 true)⟩,
 ⟨some 124,ay (aa 9),(.when 123 false)⟩,
 ⟨some 125,ay (aa 12),(.when 123 false)⟩,
 ⟨some 126,df 27 (aa 124) (aa 125),(.when 123 false)⟩,
 ⟨some 127,bC 31 (aa 126) 1,(.when 123 false)⟩,
 ⟨some 128,aH 9 (aa 127),(.when 123 false)⟩,
 ⟨some 129,bg jq 9 (aa 128) (aD (iQ {data:= #[111,98,106,101,99,116] })) 9,(.when 123 false)⟩,
 ⟨some 130,cO (aa 123) (aD (bF true)) (aa 129),(.when 118 true)⟩,
 ⟨some 131,cO (aa 118) (aa 130) (aD (bF false)),.aw⟩]
def af3:List au:=
 [⟨some 6,aG (aD (bF false)),.aw⟩]
def afU:List au:=
 [⟨some 82,ay (aa 12),.aw⟩,
 ⟨some 83,bg dX 3 (aa 82) (aD (bm bn 1)) 3,.aw⟩,
 ⟨some 12,aG (aa 83),.aw⟩]
def afM:SC:=
 (.seq (.seq (.region afT)
 (.cond (aa 81) .skip (.exit 4)))
 (.seq (.block 5 (.seq (.region afV)
 (.seq (.region afW)
 (.seq (.region afX)
 (.seq (.region afY)
 (.seq (.region af0)
 (.cond (aa 131) (.seq (.region af3)
 .ret) .skip)))))))
 (.region afU)))
def af4:List au:=
 [⟨some 132,ay (aa 7),.aw⟩,
 ⟨some 133,ay (aa 132),.aw⟩,
 ⟨some 134,aH 24 (aa 8),(.when 133 true)⟩,
 ⟨some 135,aV ⟨bz (bG 13), #[aa 134], #[24]⟩,(.when 133 true)⟩,
 ⟨some 136,cO (aa 133) (aa 135) (aD (bF false)),.aw⟩,
 ⟨some 6,aG (aa 136),.aw⟩]
def k6:SC:=
 (.seq (.region afN)
 (.seq (.region afO)
 (.seq (.seq (.region afZ)
 (.cond (aa 39) (.seq (.region af5)
 .ret) .skip))
 (.seq (.region af6)
 (.seq (.seq (.region af7)
 (.block 0 (.loop afL)))
 (.seq (.seq (.region afS)
 (.block 4 (.loop afM)))
 (.seq (.region af4)
 .ret)))))))
def J2:List au:=
 [⟨some 2,ef 24 (aa 0),.aw⟩,
 ⟨some 4,ey 40,.aw⟩,
 ⟨some 5,aG (aD (bF false)),.aw⟩]
def J3:List au:=
 [⟨some 7,aH 24 (aa 2),.aw⟩,
 ⟨some 8,ay (aa 1),.aw⟩,
 ⟨some 9,aV ⟨bz (bG 18), #[aa 7,aa 8], #[24,9]⟩,.aw⟩,
 ⟨some 6,aG (aa 9),.aw⟩]
def J4:List au:=
 [⟨some 10,ay (aa 6),.aw⟩,
 ⟨some 11,bg dY 3 (aa 10) (aD (bm bn 0)) 3,.aw⟩,
 ⟨some 12,ay (aa 11),.aw⟩,
 ⟨some 13,ay (aa 6),(.when 12 false)⟩,
 ⟨some 14,bC 24 (aa 2) 0,(.when 12 false)⟩,
 ⟨some 15,aH 22 (aa 14),(.when 12 false)⟩,
 ⟨some 16,aV ⟨cE cX, #[aa 15], #[22]⟩,(.when 12 false)⟩,
 ⟨some 17,bg pA 3 (aa 13) (aa 16) 3,(.when 12 false)⟩,
 ⟨some 18,cO (aa 12) (aD (bF true)) (aa 17),.aw⟩]
def J5:List au:=
 [⟨some 19,jJ 40 #[],.aw⟩,
 ⟨none,dw 40 (aa 4) (aa 19),.aw⟩,
 ⟨some 5,aG (aD (bF false)),.aw⟩]
def J6:List au:=
 [⟨some 20,bC 24 (aa 2) 0,.aw⟩,
 ⟨some 21,aH 22 (aa 20),.aw⟩,
 ⟨some 22,ay (aa 6),.aw⟩,
 ⟨some 23,df 22 (aa 21) (aa 22),.aw⟩,
 ⟨some 24,aH 40 (aa 23),.aw⟩,
 ⟨none,dw 40 (aa 4) (aa 24),.aw⟩,
 ⟨some 5,aG (aD (bF true)),.aw⟩]
def J1:SC:=
 (.seq (.region J2)
 (.seq (.region J3)
 (.seq (.seq (.region J4)
 (.cond (aa 18) (.seq (.region J5)
 .ret) .skip))
 (.seq (.region J6)
 .ret))))
theorem ab6:Tryz.prog.funcs[14]? =some Tryz.f14:=by kernel_rfl
theorem ab5:(Tryz.f14.body).map cy=some J1:=by kernel_rfl
theorem ab8:Tryz.f14.ntmps=25:=by kernel_rfl
theorem ab7:Tryz.f14.results.toList=[ResultVar.cell 4 40,dA 5]:=by kernel_rfl
theorem Ys:bB 14 2=1:=by kernel_rfl
theorem Yt:bB 14 4=1:=by kernel_rfl
theorem Yr:bB 14 16=0:=by kernel_rfl
def J8:List au:=
 [⟨some 3,ef 24 (aa 0),.aw⟩,
 ⟨some 4,ef 24 (aa 1),.aw⟩,
 ⟨some 6,aG (aD (bF false)),.aw⟩]
def J9:List au:=
 [⟨some 12,aH 24 (aa 3),.aw⟩,
 ⟨some 13,ay (aa 2),.aw⟩,
 ⟨some 14,aV ⟨bz (bG 14), #[aa 12,aa 13], #[24,9]⟩,.aw⟩,
 ⟨some 11,ay (aa 14),.aw⟩,
 ⟨some 15,eh (aa 11) 0,.aw⟩,
 ⟨some 16,eh (aa 11) 1,.aw⟩,
 ⟨some 7,ey 40,.aw⟩,
 ⟨none,dw 40 (aa 7) (aa 15),.aw⟩,
 ⟨some 8,aG (aa 16),.aw⟩]
def Ka:List au:=
 [⟨some 18,aH 24 (aa 4),.aw⟩,
 ⟨some 19,ay (aa 2),.aw⟩,
 ⟨some 20,aV ⟨bz (bG 14), #[aa 18,aa 19], #[24,9]⟩,.aw⟩,
 ⟨some 17,ay (aa 20),.aw⟩,
 ⟨some 21,eh (aa 17) 0,.aw⟩,
 ⟨some 22,eh (aa 17) 1,.aw⟩,
 ⟨some 9,ey 40,.aw⟩,
 ⟨none,dw 40 (aa 9) (aa 21),.aw⟩,
 ⟨some 10,aG (aa 22),.aw⟩]
def Kb:List au:=
 [⟨some 23,ay (aa 8),.aw⟩,
 ⟨some 24,ay (aa 10),.aw⟩,
 ⟨some 25,bg eL 4 (aa 23) (aa 24) 4,.aw⟩,
 ⟨some 26,ay (aa 25),.aw⟩,
 ⟨some 27,aH 40 (aa 7),(.when 26 true)⟩,
 ⟨some 28,aH 40 (aa 9),(.when 26 true)⟩,
 ⟨some 29,aV ⟨bz (bG 16), #[aa 27,aa 28], #[40,40]⟩,(.when 26 true)⟩,
 ⟨some 30,cO (aa 26) (aa 29) (aD (bF false)),.aw⟩,
 ⟨some 6,aG (aa 30),.aw⟩]
def J7:SC:=
 (.seq (.region J8)
 (.seq (.region J9)
 (.seq (.region Ka)
 (.seq (.region Kb)
 .ret))))
theorem aca:Tryz.prog.funcs[15]? =some Tryz.f15:=by kernel_rfl
theorem ab9:(Tryz.f15.body).map cy=some J7:=by kernel_rfl
theorem acd:Tryz.f15.ntmps=31:=by kernel_rfl
theorem acb:Tryz.f15.results.toList=[dA 6]:=by kernel_rfl
theorem Yu:bB 15 3=1:=by kernel_rfl
theorem Yv:bB 15 4=1:=by kernel_rfl
theorem Yw:bB 15 7=1:=by kernel_rfl
theorem Yx:bB 15 9=1:=by kernel_rfl
def Kg:List au:=
 [⟨some 6,aG (aD (bF false)),.aw⟩]
def Kh:List au:=
 [⟨some 7,aG (aD (bm bn 0)),.aw⟩]
def Dc:List au:=
 [⟨some 8,ay (aa 7),.aw⟩,
 ⟨some 9,ay (aa 0),.aw⟩,
 ⟨some 10,aV ⟨cE cX, #[aa 9], #[27]⟩,.aw⟩,
 ⟨some 11,bg dY 3 (aa 8) (aa 10) 3,.aw⟩]
def Ki:List au:=
 [⟨some 14,ay (aa 0),.aw⟩,
 ⟨some 15,ay (aa 7),.aw⟩,
 ⟨some 16,df 27 (aa 14) (aa 15),.aw⟩,
 ⟨some 17,bC 31 (aa 16) 0,.aw⟩,
 ⟨some 18,aH 9 (aa 17),.aw⟩,
 ⟨some 19,ay (aa 1),.aw⟩,
 ⟨some 20,bg eL 9 (aa 18) (aa 19) 9,.aw⟩,
 ⟨some 21,ay (aa 20),.aw⟩,
 ⟨some 22,ay (aa 2),(.when 21 true)⟩,
 ⟨some 23,bg eL 9 (aa 22) (aD (iQ {data:= #[] })) 9,(.when 21 true)⟩,
 ⟨some 24,ay (aa 23),(.when 21 true)⟩,
 ⟨some 25,ay (aa 0),(.when 24 false)⟩,
 ⟨some 26,ay (aa 7),(.when 24 false)⟩,
 ⟨some 27,df 27 (aa 25) (aa 26),(.when 24 false)⟩,
 ⟨some 28,bC 31 (aa 27) 1,(.when 24 false)⟩,
 ⟨some 29,aH 9 (aa 28),(.when 24 false)⟩,
 ⟨some 30,ay (aa 2),(.when 24 false)⟩,
 ⟨some 31,bg eL 9 (aa 29) (aa 30) 9,(.when 24 false)⟩,
 ⟨some 32,cO (aa 24) (aD (bF true)) (aa 31),(.when 21 true)⟩,
 ⟨some 33,cO (aa 21) (aa 32) (aD (bF false)),.aw⟩]
def De:List au:=
 [⟨some 6,aG (aD (bF true)),.aw⟩]
def Dd:List au:=
 [⟨some 12,ay (aa 7),.aw⟩,
 ⟨some 13,bg dX 3 (aa 12) (aD (bm bn 1)) 3,.aw⟩,
 ⟨some 7,aG (aa 13),.aw⟩]
def xb:SC:=
 (.seq (.seq (.region Dc)
 (.cond (aa 11) .skip (.exit 0)))
 (.seq (.block 1 (.seq (.region Ki)
 (.cond (aa 33) (.seq (.region De)
 .ret) .skip)))
 (.region Dd)))
def Kj:List au:=
 [⟨some 6,aG (aD (bF false)),.aw⟩]
def Kf:SC:=
 (.seq (.region Kg)
 (.seq (.seq (.region Kh)
 (.block 0 (.loop xb)))
 (.seq (.region Kj)
 .ret)))
theorem acj:Tryz.prog.funcs[17]? =some Tryz.f17:=by kernel_rfl
theorem aci:(Tryz.f17.body).map cy=some Kf:=by kernel_rfl
theorem acl:Tryz.f17.ntmps=34:=by kernel_rfl
theorem ack:Tryz.f17.results.toList=[dA 6]:=by kernel_rfl
theorem H3:bB 17 10=0:=by kernel_rfl
def K9:List au:=
 [⟨some 2,ef 24 (aa 0),.aw⟩,
 ⟨some 3,ef 9 (aa 1),.aw⟩,
 ⟨some 4,aG (aD (bm bn 0)),.aw⟩]
def La:List au:=
 [⟨some 5,bC 24 (aa 2) 0,.aw⟩,
 ⟨some 6,aH 22 (aa 5),.aw⟩,
 ⟨some 7,Op.makeFunc (Fn.func 40) #[] #[aa 3],.aw⟩,
 ⟨some 8,aV ⟨bz (bG 39), #[aa 6,aa 7], #[22,83]⟩,.aw⟩,
 ⟨some 4,aG (aa 8),.aw⟩]
def Kk:SC:=
 (.seq (.region K9)
 (.seq (.region La)
 .ret))
theorem acX:Tryz.prog.funcs[18]? =some Tryz.f18:=by kernel_rfl
theorem acW:(Tryz.f18.body).map cy=some Kk:=by kernel_rfl
theorem acZ:Tryz.f18.ntmps=9:=by kernel_rfl
theorem acY:Tryz.f18.results.toList=[dA 4]:=by kernel_rfl
theorem YE:bB 18 2=1:=by kernel_rfl
theorem YF:bB 18 3=0:=by kernel_rfl
def Nl:List au:=
 [⟨some 4,aG (aD (bm bn 0)),.aw⟩]
def Nm:List au:=
 [⟨some 6,ay (aa 0),.aw⟩,
 ⟨some 7,aV ⟨cE cX, #[aa 6], #[22]⟩,.aw⟩,
 ⟨some 8,ay (aD (bm bn 0)),.aw⟩]
def DC:List au:=
 [⟨some 9,bg dY 3 (aa 8) (aa 7) 3,.aw⟩]
def Nn:List au:=
 [⟨some 10,ay (aa 8),.aw⟩,
 ⟨some 5,aG (aa 10),.aw⟩]
def Np:List au:=
 [⟨some 11,ay (aa 1),.aw⟩,
 ⟨some 12,ay (aa 0),.aw⟩,
 ⟨some 13,ay (aa 5),.aw⟩,
 ⟨some 14,df 22 (aa 12) (aa 13),.aw⟩,
 ⟨some 15,aH 40 (aa 14),.aw⟩,
 ⟨some 16,aV ⟨bz (aa 11), #[aa 15], #[40]⟩,.aw⟩]
def Nq:List au:=
 [⟨some 17,ay (aa 5),.aw⟩,
 ⟨some 4,aG (aa 17),.aw⟩]
def Nr:List au:=
 [⟨some 18,bg dX 3 (aa 8) (aD (bm bn 1)) 3,.aw⟩,
 ⟨some 8,ay (aa 18),.aw⟩]
def zj:SC:=
 (.seq (.region DC)
 (.seq (.cond (aa 9) .skip (.exit 0))
 (.seq (.block 1 (.seq (.region Nn)
 (.seq (.region Np)
 (.cond (aa 16) (.seq (.region Nq)
 .ret) .skip))))
 (.region Nr))))
def Ns:List au:=
 [⟨some 4,aG (aD (bm bn (-1))),.aw⟩]
def Nk:SC:=
 (.seq (.region Nl)
 (.seq (.seq (.region Nm)
 (.block 0 (.loop zj)))
 (.seq (.region Ns)
 .ret)))
theorem aeb:Tryz.prog.funcs[39]? =some Tryz.f39:=by kernel_rfl
theorem aea:(Tryz.f39.body).map cy=some Nk:=by kernel_rfl
theorem aed:Tryz.f39.ntmps=19:=by kernel_rfl
theorem aec:Tryz.f39.results.toList=[dA 4]:=by kernel_rfl
theorem Y3:bB 39 7=0:=by kernel_rfl
def Nu:List au:=
 [⟨some 2,ef 40 (aa 0),.aw⟩,
 ⟨some 3,aG (aD (bF false)),.aw⟩]
def Nv:List au:=
 [⟨some 4,bC 40 (aa 2) 0,.aw⟩,
 ⟨some 5,aH 9 (aa 4),.aw⟩,
 ⟨some 6,aH 9 (aa 1),.aw⟩,
 ⟨some 7,bg eL 9 (aa 5) (aa 6) 9,.aw⟩,
 ⟨some 3,aG (aa 7),.aw⟩]
def Nt:SC:=
 (.seq (.region Nu)
 (.seq (.region Nv)
 .ret))
theorem aet:Tryz.prog.funcs[40]? =some Tryz.f40:=by kernel_rfl
theorem aes:(Tryz.f40.body).map cy=some Nt:=by kernel_rfl
theorem aev:Tryz.f40.ntmps=8:=by kernel_rfl
theorem aeu:Tryz.f40.results.toList=[dA 3]:=by kernel_rfl
theorem Y4:bB 40 2=1:=by kernel_rfl
theorem UQ (ps:List (Nat×Operand)) (e:bc):fY Tryz.prog 31 ps e=(eK Tryz.prog 31).bind fun z=>(dL (fun i=>([(0,1),(1,1)]:List (Nat×Nat))[i]?) e z.cells ps).bind fun c=>some (.agg c):=by kernel_rfl
theorem GF (ps:List (Nat×Operand)) (e:bc):fY Tryz.prog 36 ps e=(eK Tryz.prog 36).bind fun z=>(dL (fun i=>([(0,1),(1,1)]:List (Nat×Nat))[i]?) e z.cells ps).bind fun c=>some (.agg c):=by kernel_rfl
theorem UR (ps:List (Nat×Operand)) (e:bc):fY Tryz.prog 40 ps e=(eK Tryz.prog 40).bind fun z=>(dL (fun i=>([(0,1),(1,1),(2,2),(4,1),(5,1)]:List (Nat×Nat))[i]?) e z.cells ps).bind fun c=>some (.agg c):=by kernel_rfl
theorem US (ps:List (Nat×Operand)) (e:bc):fY Tryz.prog 51 ps e=(eK Tryz.prog 51).bind fun z=>(dL (fun i=>([(0,1),(1,1)]:List (Nat×Nat))[i]?) e z.cells ps).bind fun c=>some (.agg c):=by kernel_rfl
theorem UU (ps:List (Nat×Operand)) (e:bc):fY Tryz.prog 65 ps e=(eK Tryz.prog 65).bind fun z=>(dL (fun i=>([(0,1),(1,1),(2,1),(3,1),(4,1)]:List (Nat×Nat))[i]?) e z.cells ps).bind fun c=>some (.agg c):=by kernel_rfl
theorem UJ (ps:List (Nat×Operand)) (e:bc):fY Tryz.prog 150 ps e=(eK Tryz.prog 150).bind fun z=>(dL (fun i=>some (i*1,1)) e z.cells ps).bind fun c=>some (.agg c):=by kernel_rfl
theorem UK (ps:List (Nat×Operand)) (e:bc):fY Tryz.prog 183 ps e=(eK Tryz.prog 183).bind fun z=>(dL (fun i=>([(0,1),(1,1)]:List (Nat×Nat))[i]?) e z.cells ps).bind fun c=>some (.agg c):=by kernel_rfl
theorem Bx (ps:List (Nat×Operand)) (e:bc):fY Tryz.prog 186 ps e=(eK Tryz.prog 186).bind fun z=>(dL (fun i=>([(0,1),(1,1),(2,1)]:List (Nat×Nat))[i]?) e z.cells ps).bind fun c=>some (.agg c):=by kernel_rfl
theorem Bz (ps:List (Nat×Operand)) (e:bc):fY Tryz.prog 189 ps e=(eK Tryz.prog 189).bind fun z=>(dL (fun i=>([(0,1)]:List (Nat×Nat))[i]?) e z.cells ps).bind fun c=>some (.agg c):=by kernel_rfl
theorem UM (ps:List (Nat×Operand)) (e:bc):fY Tryz.prog 194 ps e=(eK Tryz.prog 194).bind fun z=>(dL (fun i=>some (i*1,1)) e z.cells ps).bind fun c=>some (.agg c):=by kernel_rfl
theorem UN (ps:List (Nat×Operand)) (e:bc):fY Tryz.prog 197 ps e=(eK Tryz.prog 197).bind fun z=>(dL (fun i=>some (i*1,1)) e z.cells ps).bind fun c=>some (.agg c):=by kernel_rfl
theorem UO (ps:List (Nat×Operand)) (e:bc):fY Tryz.prog 254 ps e=(eK Tryz.prog 254).bind fun z=>(dL (fun i=>some (i*1,1)) e z.cells ps).bind fun c=>some (.agg c):=by kernel_rfl
theorem fT (cs:List ai) (off:Nat):eN Tryz.prog 3 cs off=(cs.drop off).head?:=by kernel_rfl
theorem ajX (cs:List ai) (off:Nat):eN Tryz.prog 5 cs off=(cs.drop off).head?:=by kernel_rfl
theorem dD (cs:List ai) (off:Nat):eN Tryz.prog 9 cs off=(cs.drop off).head?:=by kernel_rfl
theorem xM (cs:List ai) (off:Nat):eN Tryz.prog 21 cs off=(cs.drop off).head?:=by kernel_rfl
theorem oC (cs:List ai) (off:Nat):eN Tryz.prog 22 cs off=(cs.drop off).head?:=by kernel_rfl
theorem gj (cs:List ai) (off:Nat):eN Tryz.prog 24 cs off=(cut cs off 1).bind fun r=>some (.agg r):=by kernel_rfl
theorem jb (cs:List ai) (off:Nat):eN Tryz.prog 36 cs off=(cut cs off 2).bind fun r=>some (.agg r):=by kernel_rfl
theorem iE (cs:List ai) (off:Nat):eN Tryz.prog 37 cs off=(cs.drop off).head?:=by kernel_rfl
theorem mD (cs:List ai) (off:Nat):eN Tryz.prog 38 cs off=(cs.drop off).head?:=by kernel_rfl
theorem l0 (cs:List ai) (off:Nat):eN Tryz.prog 40 cs off=(cut cs off 6).bind fun r=>some (.agg r):=by kernel_rfl
theorem Ao (cs:List ai) (off:Nat):eN Tryz.prog 51 cs off=(cut cs off 2).bind fun r=>some (.agg r):=by kernel_rfl
theorem mE (cs:List ai) (off:Nat):eN Tryz.prog 61 cs off=(cs.drop off).head?:=by kernel_rfl
theorem Fe (cs:List ai) (off:Nat):eN Tryz.prog 63 cs off=(cs.drop off).head?:=by kernel_rfl
theorem Fd (cs:List ai) (off:Nat):eN Tryz.prog 109 cs off=(cs.drop off).head?:=by kernel_rfl
theorem Sd (cs:List ai) (off:Nat):eN Tryz.prog 183 cs off=(cut cs off 2).bind fun r=>some (.agg r):=by kernel_rfl
theorem Se (cs:List ai) (off:Nat):eN Tryz.prog 186 cs off=(cut cs off 3).bind fun r=>some (.agg r):=by kernel_rfl
theorem ajT (cs:List ai) (off:Nat):eN Tryz.prog 194 cs off=(cut cs off 3).bind fun r=>some (.agg r):=by kernel_rfl
theorem An (cs:List ai) (off:Nat):eN Tryz.prog 197 cs off=(cut cs off 3).bind fun r=>some (.agg r):=by kernel_rfl
theorem ajV (cs:List ai) (off:Nat):eN Tryz.prog 254 cs off=(cut cs off 2).bind fun r=>some (.agg r):=by kernel_rfl
theorem ajW (cs:List ai) (off:Nat):eN Tryz.prog 289 cs off=(cs.drop off).head?:=by kernel_rfl
theorem alc:eX Tryz.prog 3=some 1:=by kernel_rfl
theorem FH:eX Tryz.prog 9=some 1:=by kernel_rfl
theorem S4:eX Tryz.prog 21=some 1:=by kernel_rfl
theorem ak8:eX Tryz.prog 22=some 1:=by kernel_rfl
theorem AJ:eX Tryz.prog 24=some 1:=by kernel_rfl
theorem q8:eX Tryz.prog 36=some 2:=by kernel_rfl
theorem xX:eX Tryz.prog 37=some 1:=by kernel_rfl
theorem ald:eX Tryz.prog 38=some 1:=by kernel_rfl
theorem nF:eX Tryz.prog 40=some 6:=by kernel_rfl
theorem FG:eX Tryz.prog 51=some 2:=by kernel_rfl
theorem ak3:eX Tryz.prog 109=some 1:=by kernel_rfl
theorem ak4:eX Tryz.prog 150=some 6:=by kernel_rfl
theorem ak5:eX Tryz.prog 151=some 256:=by kernel_rfl
theorem S3:eX Tryz.prog 183=some 2:=by kernel_rfl
theorem FF:eX Tryz.prog 186=some 3:=by kernel_rfl
theorem ak6:eX Tryz.prog 194=some 3:=by kernel_rfl
theorem ak7:eX Tryz.prog 197=some 3:=by kernel_rfl
theorem ak9:eX Tryz.prog 254=some 2:=by kernel_rfl
theorem alb:eX Tryz.prog 289=some 1:=by kernel_rfl
theorem amc:eK Tryz.prog 3=some (.int .i64 (0)):=by kernel_rfl
theorem ame:eK Tryz.prog 4=some (.bool false):=by kernel_rfl
theorem amh:eK Tryz.prog 9=some (.str []):=by kernel_rfl
theorem AW:eK Tryz.prog 24=some (.agg [.nils]):=by kernel_rfl
theorem FZ:eK Tryz.prog 31=some (.agg [(.str []),(.str [])]):=by kernel_rfl
theorem wg:eK Tryz.prog 36=some (.agg [(.int .i64 (0)),(.int .i64 (0))]):=by kernel_rfl
theorem nG:eK Tryz.prog 40=some (.agg [(.str []),(.int .i64 (0)),(.int .i64 (0)),(.int .i64 (0)),.nils,.nils]):=by kernel_rfl
theorem AX:eK Tryz.prog 51=some (.agg [(.str []),(.str [])]):=by kernel_rfl
theorem amf:eK Tryz.prog 65=some (.agg [.nilm,.nilm,.nilm,.nilm,.nilm]):=by kernel_rfl
theorem amg:eK Tryz.prog 67=some .nilp:=by kernel_rfl
theorem al8:eK Tryz.prog 109=some .nilm:=by kernel_rfl
theorem al9:eK Tryz.prog 150=some (.agg [(.str []),(.str []),(.str []),(.str []),(.str []),(.str [])]):=by kernel_rfl
theorem FW:eK Tryz.prog 183=some (.agg [(.int .i64 (0)),(.int .i64 (0))]):=by kernel_rfl
theorem yb:eK Tryz.prog 186=some (.agg [(.int .i64 (0)),(.int .i64 (0)),(.int .i64 (0))]):=by kernel_rfl
theorem FX:eK Tryz.prog 189=some (.agg [.nils]):=by kernel_rfl
theorem TH:eK Tryz.prog 194=some (.agg [.nils,.nils,.nils]):=by kernel_rfl
theorem ama:eK Tryz.prog 196=some .nilp:=by kernel_rfl
theorem FY:eK Tryz.prog 197=some (.agg [(.str []),(.str []),(.str [])]):=by kernel_rfl
theorem TI:eK Tryz.prog 254=some (.agg [(.int .i64 (0)),(.int .i64 (0))]):=by kernel_rfl
theorem amb:eK Tryz.prog 289=some .nils:=by kernel_rfl
theorem nj (lc:Ag.Loc) (l g o:Nat):fE Tryz.prog lc 24 (.lref l g o) 0=bif aY (lc.gen l) g then some (.lref l g (o+0)) else none:=by kernel_rfl
theorem WM (lc:Ag.Loc) (l g o:Nat):fE Tryz.prog lc 31 (.lref l g o) 0=bif aY (lc.gen l) g then some (.lref l g (o+0)) else none:=by kernel_rfl
theorem yI (lc:Ag.Loc) (cs:List ai):fE Tryz.prog lc 31 (.ro cs) 0=some (.ro (cs.drop 0)):=by kernel_rfl
theorem WN (lc:Ag.Loc) (l g o:Nat):fE Tryz.prog lc 31 (.lref l g o) 1=bif aY (lc.gen l) g then some (.lref l g (o+1)) else none:=by kernel_rfl
theorem Hu (lc:Ag.Loc) (cs:List ai):fE Tryz.prog lc 31 (.ro cs) 1=some (.ro (cs.drop 1)):=by kernel_rfl
theorem wR (lc:Ag.Loc) (l g o:Nat):fE Tryz.prog lc 36 (.lref l g o) 0=bif aY (lc.gen l) g then some (.lref l g (o+0)) else none:=by kernel_rfl
theorem B7 (lc:Ag.Loc) (l g o:Nat):fE Tryz.prog lc 36 (.lref l g o) 1=bif aY (lc.gen l) g then some (.lref l g (o+1)) else none:=by kernel_rfl
theorem oU (lc:Ag.Loc) (l g o:Nat):fE Tryz.prog lc 40 (.lref l g o) 0=bif aY (lc.gen l) g then some (.lref l g (o+0)) else none:=by kernel_rfl
theorem qD (lc:Ag.Loc) (m o:Nat):fE Tryz.prog lc 40 (.ptr m o) 0=some (.ptr m (o+0)):=by kernel_rfl
theorem yJ (lc:Ag.Loc) (l g o:Nat):fE Tryz.prog lc 40 (.lref l g o) 1=bif aY (lc.gen l) g then some (.lref l g (o+1)) else none:=by kernel_rfl
theorem li (lc:Ag.Loc) (m o:Nat):fE Tryz.prog lc 40 (.ptr m o) 1=some (.ptr m (o+1)):=by kernel_rfl
theorem B8 (lc:Ag.Loc) (l g o:Nat):fE Tryz.prog lc 40 (.lref l g o) 2=bif aY (lc.gen l) g then some (.lref l g (o+2)) else none:=by kernel_rfl
theorem uS (lc:Ag.Loc) (m o:Nat):fE Tryz.prog lc 40 (.ptr m o) 2=some (.ptr m (o+2)):=by kernel_rfl
theorem qE (lc:Ag.Loc) (l g o:Nat):fE Tryz.prog lc 40 (.lref l g o) 3=bif aY (lc.gen l) g then some (.lref l g (o+4)) else none:=by kernel_rfl
theorem lP (lc:Ag.Loc) (m o:Nat):fE Tryz.prog lc 40 (.ptr m o) 3=some (.ptr m (o+4)):=by kernel_rfl
theorem tm (lc:Ag.Loc) (l g o:Nat):fE Tryz.prog lc 40 (.lref l g o) 4=bif aY (lc.gen l) g then some (.lref l g (o+5)) else none:=by kernel_rfl
theorem tn (lc:Ag.Loc) (m o:Nat):fE Tryz.prog lc 40 (.ptr m o) 4=some (.ptr m (o+5)):=by kernel_rfl
theorem oc (lc:Ag.Loc) (l g o:Nat):fE Tryz.prog lc 51 (.lref l g o) 0=bif aY (lc.gen l) g then some (.lref l g (o+0)) else none:=by kernel_rfl
theorem WO (lc:Ag.Loc) (cs:List ai):fE Tryz.prog lc 51 (.ro cs) 0=some (.ro (cs.drop 0)):=by kernel_rfl
theorem uT (lc:Ag.Loc) (l g o:Nat):fE Tryz.prog lc 51 (.lref l g o) 1=bif aY (lc.gen l) g then some (.lref l g (o+1)) else none:=by kernel_rfl
theorem WS (lc:Ag.Loc) (cs:List ai):fE Tryz.prog lc 51 (.ro cs) 1=some (.ro (cs.drop 1)):=by kernel_rfl
theorem B9 (lc:Ag.Loc) (m o:Nat):fE Tryz.prog lc 65 (.ptr m o) 0=some (.ptr m (o+0)):=by kernel_rfl
theorem Ca (lc:Ag.Loc) (m o:Nat):fE Tryz.prog lc 65 (.ptr m o) 1=some (.ptr m (o+1)):=by kernel_rfl
theorem Cb (lc:Ag.Loc) (m o:Nat):fE Tryz.prog lc 65 (.ptr m o) 2=some (.ptr m (o+2)):=by kernel_rfl
theorem rL (lc:Ag.Loc) (m o:Nat):fE Tryz.prog lc 65 (.ptr m o) 3=some (.ptr m (o+3)):=by kernel_rfl
theorem Hv (lc:Ag.Loc) (m o:Nat):fE Tryz.prog lc 65 (.ptr m o) 4=some (.ptr m (o+4)):=by kernel_rfl
theorem yH (lc:Ag.Loc) (l g o:Nat):fE Tryz.prog lc 183 (.lref l g o) 0=bif aY (lc.gen l) g then some (.lref l g (o+0)) else none:=by kernel_rfl
theorem Ht (lc:Ag.Loc) (l g o:Nat):fE Tryz.prog lc 183 (.lref l g o) 1=bif aY (lc.gen l) g then some (.lref l g (o+1)) else none:=by kernel_rfl
theorem B5 (lc:Ag.Loc) (l g o:Nat):fE Tryz.prog lc 186 (.lref l g o) 0=bif aY (lc.gen l) g then some (.lref l g (o+0)) else none:=by kernel_rfl
theorem WJ (lc:Ag.Loc) (l g o:Nat):fE Tryz.prog lc 186 (.lref l g o) 1=bif aY (lc.gen l) g then some (.lref l g (o+1)) else none:=by kernel_rfl
theorem WK (lc:Ag.Loc) (l g o:Nat):fE Tryz.prog lc 186 (.lref l g o) 2=bif aY (lc.gen l) g then some (.lref l g (o+2)) else none:=by kernel_rfl
theorem B6 (lc:Ag.Loc) (m o:Nat):fE Tryz.prog lc 189 (.ptr m o) 0=some (.ptr m (o+0)):=by kernel_rfl
theorem wZ (lc:Ag.Loc) (n:Nat) (xs:List ai) (r:fC) (i:ai):iq Tryz.prog lc 22 (.list n xs r) i=(fF i).bind fun i=>bif aY n 6&&bP i xs.length then some (.ro (iu xs i).cells) else none:=by kernel_rfl
theorem aal (lc:Ag.Loc) (n:Nat) (xs:List ai) (r:fC) (i:ai):iq Tryz.prog lc 27 (.list n xs r) i=(fF i).bind fun i=>bif aY n 2&&bP i xs.length then some (.ro (iu xs i).cells) else none:=by kernel_rfl
theorem mp (lc:Ag.Loc) (n:Nat) (xs:List ai) (r:fC) (i:ai):iq Tryz.prog lc 37 (.list n xs r) i=(fF i).bind fun i=>bif aY n 1&&bP i xs.length then some (.ro (iu xs i).cells) else none:=by kernel_rfl
theorem Ig (lc:Ag.Loc) (n m o l c:Nat) (i:ai):iq Tryz.prog lc 37 (.arr n m o l c) i=(fF i).bind fun i=>bif aY n 1&&bP i l then some (.ptr m (o+i*1)) else none:=by kernel_rfl
theorem u4 (lc:Ag.Loc) (n:Nat) (xs:List ai) (r:fC) (i:ai):iq Tryz.prog lc 38 (.list n xs r) i=(fF i).bind fun i=>bif aY n 2&&bP i xs.length then some (.ro (iu xs i).cells) else none:=by kernel_rfl
theorem aap (lc:Ag.Loc) (n:Nat) (xs:List ai) (r:fC) (i:ai):iq Tryz.prog lc 55 (.list n xs r) i=(fF i).bind fun i=>bif aY n 1&&bP i xs.length then some (.ro (iu xs i).cells) else none:=by kernel_rfl
theorem aaq (lc:Ag.Loc) (n:Nat) (xs:List ai) (r:fC) (i:ai):iq Tryz.prog lc 66 (.list n xs r) i=(fF i).bind fun i=>bif aY n 1&&bP i xs.length then some (.ro (iu xs i).cells) else none:=by kernel_rfl
theorem aai (lc:Ag.Loc) (l g o:Nat) (i:ai):iq Tryz.prog lc 151 (.lref l g o) i=(fF i).bind fun i=>bif bP i 256 then bif aY (lc.gen l) g then some (.lref l g (o+i*1)) else none else none:=by kernel_rfl
theorem Ib (lc:Ag.Loc) (n:Nat) (xs:List ai) (r:fC) (i:ai):iq Tryz.prog lc 180 (.list n xs r) i=(fF i).bind fun i=>bif aY n 2&&bP i xs.length then some (.ro (iu xs i).cells) else none:=by kernel_rfl
theorem aaj (lc:Ag.Loc) (n:Nat) (xs:List ai) (r:fC) (i:ai):iq Tryz.prog lc 184 (.list n xs r) i=(fF i).bind fun i=>bif aY n 3&&bP i xs.length then some (.ro (iu xs i).cells) else none:=by kernel_rfl
theorem CJ (lc:Ag.Loc) (n:Nat) (xs:List ai) (r:fC) (i:ai):iq Tryz.prog lc 192 (.list n xs r) i=(fF i).bind fun i=>bif aY n 2&&bP i xs.length then some (.ro (iu xs i).cells) else none:=by kernel_rfl
theorem CL (lc:Ag.Loc) (l g o:Nat) (i:ai):iq Tryz.prog lc 197 (.lref l g o) i=(fF i).bind fun i=>bif bP i 3 then bif aY (lc.gen l) g then some (.lref l g (o+i*1)) else none else none:=by kernel_rfl
theorem aak (lc:Ag.Loc) (l g o:Nat) (i:ai):iq Tryz.prog lc 254 (.lref l g o) i=(fF i).bind fun i=>bif bP i 2 then bif aY (lc.gen l) g then some (.lref l g (o+i*1)) else none else none:=by kernel_rfl
theorem aam (lc:Ag.Loc) (n:Nat) (xs:List ai) (r:fC) (i:ai):iq Tryz.prog lc 286 (.list n xs r) i=(fF i).bind fun i=>bif aY n 1&&bP i xs.length then some (.ro (iu xs i).cells) else none:=by kernel_rfl
theorem aan (lc:Ag.Loc) (n m o l c:Nat) (i:ai):iq Tryz.prog lc 289 (.arr n m o l c) i=(fF i).bind fun i=>bif aY n 1&&bP i l then some (.ptr m (o+i*1)) else none:=by kernel_rfl
theorem aao (lc:Ag.Loc) (n:Nat) (xs:List ai) (r:fC) (i:ai):iq Tryz.prog lc 349 (.list n xs r) i=(fF i).bind fun i=>bif aY n 2&&bP i xs.length then some (.ro (iu xs i).cells) else none:=by kernel_rfl
theorem aaJ (s:List UInt8) (i:ai):pR Tryz.prog 9 (.str s) i=(fF i).bind fun i=>match s.drop i with|b::_=>some (.int .u8 b.toNat)| []=>none:=by kernel_rfl
theorem aaI (cs:List ai) (i:ai):pR Tryz.prog 194 (.agg cs) i=(fF i).bind fun i=>bif bP i 3 then eN Tryz.prog 38 cs (i*1) else none:=by kernel_rfl
theorem qM (mk:bj) (b:List UInt8) (s:St):gG Tryz.prog mk 9 (.str b) s=some (.int .i64 b.length):=by kernel_rfl
theorem vj (mk:bj) (s:St):gG Tryz.prog mk 22 .nils s=some (.int .i64 (0:Nat)):=by kernel_rfl
theorem vi (mk:bj) (n:Nat) (xs:List ai) (r:fC) (s:St):gG Tryz.prog mk 22 (.list n xs r) s=some (.int .i64 xs.length):=by kernel_rfl
theorem ahs (mk:bj) (s:St):gG Tryz.prog mk 27 .nils s=some (.int .i64 (0:Nat)):=by kernel_rfl
theorem ahr (mk:bj) (n:Nat) (xs:List ai) (r:fC) (s:St):gG Tryz.prog mk 27 (.list n xs r) s=some (.int .i64 xs.length):=by kernel_rfl
theorem iT (mk:bj) (s:St):gG Tryz.prog mk 37 .nils s=some (.int .i64 (0:Nat)):=by kernel_rfl
theorem jl (mk:bj) (n:Nat) (xs:List ai) (r:fC) (s:St):gG Tryz.prog mk 37 (.list n xs r) s=some (.int .i64 xs.length):=by kernel_rfl
theorem se (mk:bj) (s:St):gG Tryz.prog mk 38 .nils s=some (.int .i64 (0:Nat)):=by kernel_rfl
theorem sd (mk:bj) (n:Nat) (xs:List ai) (r:fC) (s:St):gG Tryz.prog mk 38 (.list n xs r) s=some (.int .i64 xs.length):=by kernel_rfl
theorem ahx (mk:bj) (s:St):gG Tryz.prog mk 55 .nils s=some (.int .i64 (0:Nat)):=by kernel_rfl
theorem ahw (mk:bj) (n:Nat) (xs:List ai) (r:fC) (s:St):gG Tryz.prog mk 55 (.list n xs r) s=some (.int .i64 xs.length):=by kernel_rfl
theorem ahy (mk:bj) (n:Nat) (xs:List ai) (r:fC) (s:St):gG Tryz.prog mk 66 (.list n xs r) s=some (.int .i64 xs.length):=by kernel_rfl
theorem QW (mk:bj) (s:St):gG Tryz.prog mk 180 .nils s=some (.int .i64 (0:Nat)):=by kernel_rfl
theorem QV (mk:bj) (n:Nat) (xs:List ai) (r:fC) (s:St):gG Tryz.prog mk 180 (.list n xs r) s=some (.int .i64 xs.length):=by kernel_rfl
theorem ahq (mk:bj) (s:St):gG Tryz.prog mk 184 .nils s=some (.int .i64 (0:Nat)):=by kernel_rfl
theorem ahp (mk:bj) (n:Nat) (xs:List ai) (r:fC) (s:St):gG Tryz.prog mk 184 (.list n xs r) s=some (.int .i64 xs.length):=by kernel_rfl
theorem zO (mk:bj) (n:Nat) (xs:List ai) (r:fC) (s:St):gG Tryz.prog mk 192 (.list n xs r) s=some (.int .i64 xs.length):=by kernel_rfl
theorem aht (mk:bj) (n:Nat) (xs:List ai) (r:fC) (s:St):gG Tryz.prog mk 286 (.list n xs r) s=some (.int .i64 xs.length):=by kernel_rfl
theorem ahv (mk:bj) (s:St):gG Tryz.prog mk 349 .nils s=some (.int .i64 (0:Nat)):=by kernel_rfl
theorem ahu (mk:bj) (n:Nat) (xs:List ai) (r:fC) (s:St):gG Tryz.prog mk 349 (.list n xs r) s=some (.int .i64 xs.length):=by kernel_rfl
theorem Hg:jc Tryz.prog 22=some ⟨6,88,true,(.agg [(.str []),(.int .i64 (0)),(.int .i64 (0)),(.int .i64 (0)),.nils,.nils])⟩:=by kernel_rfl
theorem aaF:lj Tryz.prog 22=true:=by kernel_rfl
theorem pN:jc Tryz.prog 37=some ⟨1,16,false,(.str [])⟩:=by kernel_rfl
theorem u6:lj Tryz.prog 37=true:=by kernel_rfl
theorem Hi:jc Tryz.prog 38=some ⟨2,32,true,(.agg [(.str []),(.str [])])⟩:=by kernel_rfl
theorem aaH:lj Tryz.prog 38=true:=by kernel_rfl
theorem Hj:jc Tryz.prog 55=some ⟨1,8,false,(.int .i64 (0))⟩:=by kernel_rfl
theorem Wf:jc Tryz.prog 66=some ⟨1,8,false,.nilm⟩:=by kernel_rfl
theorem Hf:jc Tryz.prog 180=some ⟨2,16,true,(.agg [(.int .i64 (0)),(.int .i64 (0))])⟩:=by kernel_rfl
theorem aaE:lj Tryz.prog 180=true:=by kernel_rfl
theorem BT:jc Tryz.prog 184=some ⟨3,24,true,(.agg [(.int .i64 (0)),(.int .i64 (0)),(.int .i64 (0))])⟩:=by kernel_rfl
theorem Iq:lj Tryz.prog 184=true:=by kernel_rfl
theorem Wb:jc Tryz.prog 192=some ⟨2,16,true,(.agg [(.int .i64 (0)),(.int .i64 (0))])⟩:=by kernel_rfl
theorem Wc:jc Tryz.prog 286=some ⟨1,24,false,.nils⟩:=by kernel_rfl
theorem Wd:jc Tryz.prog 289=some ⟨1,4,false,(.int .i32 (0))⟩:=by kernel_rfl
theorem We:jc Tryz.prog 349=some ⟨2,16,true,(.agg [(.int .i64 (0)),(.int .i64 (0))])⟩:=by kernel_rfl
theorem zW (k:List UInt8):nl Tryz.prog 61 (.str k)=some (9,67):=by kernel_rfl
theorem rK (a b:List UInt8):jX Tryz.prog 8 9 (.str a) (.str b)=some (a==b):=by kernel_rfl
theorem Rz (k:List UInt8):nl Tryz.prog 109 (.str k)=some (9,4):=by kernel_rfl
theorem RA (k:List UInt8):nl Tryz.prog 195 (.str k)=some (9,196):=by kernel_rfl
def L1:List au:=
 [⟨some 2,aG (aD (iy none 0 0)),.aw⟩]
def L2:List au:=
 [⟨some 4,ay (aa 0),.aw⟩,
 ⟨some 5,aV ⟨bz (bG 47), #[aa 4], #[71]⟩,.aw⟩,
 ⟨some 3,aG (aa 5),.aw⟩]
def L3:List au:=
 [⟨some 6,ay (aa 3),.aw⟩,
 ⟨some 7,aV ⟨bz (bG 48), #[aa 6], #[37]⟩,.aw⟩]
def L4:List au:=
 [⟨some 8,ay (aa 3),.aw⟩,
 ⟨some 2,aG (aa 8),.aw⟩]
def L0:SC:=
 (.seq (.region L1)
 (.seq (.region L2)
 (.seq (.region L3)
 (.seq (.region L4)
 .ret))))
theorem ado:Tryz.prog.funcs[25]? =some Tryz.f25:=by kernel_rfl
theorem adn:(Tryz.f25.body).map cy=some L0:=by kernel_rfl
theorem adq:Tryz.f25.ntmps=9:=by kernel_rfl
theorem adp:Tryz.f25.results.toList=[dA 2]:=by kernel_rfl
def Mi:List au:=
 [⟨some 4,aG (aD (iy none 0 0)),.aw⟩]
def Mj:List au:=
 [⟨some 6,ay (aa 0),.aw⟩,
 ⟨some 7,aV ⟨bz (bG 50), #[aa 6], #[76]⟩,.aw⟩,
 ⟨some 5,aG (aa 7),.aw⟩]
def Ml:List au:=
 [⟨some 8,ay (aa 5),.aw⟩,
 ⟨some 9,ay (aa 1),.aw⟩,
 ⟨some 10,aV ⟨bz (bG 51), #[aa 8,aa 9], #[27,80]⟩,.aw⟩]
def Mm:List au:=
 [⟨some 11,ay (aa 5),.aw⟩,
 ⟨some 4,aG (aa 11),.aw⟩]
def Mh:SC:=
 (.seq (.region Mi)
 (.seq (.region Mj)
 (.seq (.region Ml)
 (.seq (.region Mm)
 .ret))))
theorem adA:Tryz.prog.funcs[28]? =some Tryz.f28:=by kernel_rfl
theorem adz:(Tryz.f28.body).map cy=some Mh:=by kernel_rfl
theorem adC:Tryz.f28.ntmps=12:=by kernel_rfl
theorem adB:Tryz.f28.results.toList=[dA 4]:=by kernel_rfl
def NT:List au:=
 [⟨some 2,aG (aD (iy none 0 0)),.aw⟩]
def NU:List au:=
 [⟨some 3,ay (aa 0),.aw⟩,
 ⟨some 4,aV ⟨bz (bG 78), #[aD (iy none 0 0),aa 3], #[37,71]⟩,.aw⟩,
 ⟨some 2,aG (aa 4),.aw⟩]
def NS:SC:=
 (.seq (.region NT)
 (.seq (.region NU)
 .ret))
theorem aeP:Tryz.prog.funcs[47]? =some Tryz.f47:=by kernel_rfl
theorem aeO:(Tryz.f47.body).map cy=some NS:=by kernel_rfl
theorem aeR:Tryz.f47.ntmps=5:=by kernel_rfl
theorem aeQ:Tryz.f47.results.toList=[dA 2]:=by kernel_rfl
def NW:List au:=
 [⟨some 4,aH 61 (aa 1),.aw⟩,
 ⟨some 5,Op.range 61 (aa 4),.aw⟩]
def zr:List au:=
 [⟨some 6,Op.next (aa 5) false,.aw⟩,
 ⟨some 7,eh (aa 6) 0,.aw⟩]
def NX:List au:=
 [⟨some 8,Op.entry (aa 5),.aw⟩,
 ⟨some 9,eh (aa 8) 0,.aw⟩,
 ⟨some 3,aG (aa 9),.aw⟩]
def NY:List au:=
 [⟨some 10,ay (aa 0),.aw⟩,
 ⟨some 11,ay (aa 3),.aw⟩,
 ⟨some 12,aV ⟨bz (aa 10), #[aa 11], #[9]⟩,.aw⟩,
 ⟨some 13,fy UnOp.not 4 (aa 12),.aw⟩]
def xe:SC:=
 (.seq (.region zr)
 (.seq (.cond (aa 7) .skip (.exit 0))
 (.block 1 (.seq (.region NX)
 (.seq (.region NY)
 (.cond (aa 13) .ret .skip))))))
def NV:SC:=
 (.seq (.region NW)
 (.block 0 (.loop xe)))
theorem aeT:Tryz.prog.funcs[49]? =some Tryz.f49:=by kernel_rfl
theorem aeS:(Tryz.f49.body).map cy=some NV:=by kernel_rfl
theorem aeV:Tryz.f49.ntmps=14:=by kernel_rfl
theorem aeU:Tryz.f49.results.toList=[]:=by kernel_rfl
def N0:List au:=
 [⟨some 2,aG (aD (iy none 0 0)),.aw⟩]
def N3:List au:=
 [⟨some 3,ay (aa 0),.aw⟩,
 ⟨some 4,aV ⟨bz (bG 81), #[aD (iy none 0 0),aa 3], #[27,76]⟩,.aw⟩,
 ⟨some 2,aG (aa 4),.aw⟩]
def NZ:SC:=
 (.seq (.region N0)
 (.seq (.region N3)
 .ret))
theorem ae5:Tryz.prog.funcs[50]? =some Tryz.f50:=by kernel_rfl
theorem ae4:(Tryz.f50.body).map cy=some NZ:=by kernel_rfl
theorem ae7:Tryz.f50.ntmps=5:=by kernel_rfl
theorem ae6:Tryz.f50.results.toList=[dA 2]:=by kernel_rfl
def N5:List au:=
 [⟨some 4,aH 63 (aa 1),.aw⟩,
 ⟨some 5,Op.range 63 (aa 4),.aw⟩]
def zt:List au:=
 [⟨some 6,Op.next (aa 5) false,.aw⟩,
 ⟨some 7,eh (aa 6) 0,.aw⟩]
def N6:List au:=
 [⟨some 8,Op.entry (aa 5),.aw⟩,
 ⟨some 9,eh (aa 8) 0,.aw⟩,
 ⟨some 3,ey 31,.aw⟩,
 ⟨none,dw 31 (aa 3) (aa 9),.aw⟩]
def N7:List au:=
 [⟨some 10,ay (aa 0),.aw⟩,
 ⟨some 11,aH 31 (aa 3),.aw⟩,
 ⟨some 12,aV ⟨bz (aa 10), #[aa 11], #[31]⟩,.aw⟩,
 ⟨some 13,fy UnOp.not 4 (aa 12),.aw⟩]
def xf:SC:=
 (.seq (.region zt)
 (.seq (.cond (aa 7) .skip (.exit 0))
 (.block 1 (.seq (.region N6)
 (.seq (.region N7)
 (.cond (aa 13) .ret .skip))))))
def N4:SC:=
 (.seq (.region N5)
 (.block 0 (.loop xf)))
theorem ae9:Tryz.prog.funcs[52]? =some Tryz.f52:=by kernel_rfl
theorem ae8:(Tryz.f52.body).map cy=some N4:=by kernel_rfl
theorem afb:Tryz.f52.ntmps=14:=by kernel_rfl
theorem afa:Tryz.f52.results.toList=[]:=by kernel_rfl
theorem Y7:bB 52 3=1:=by kernel_rfl
def PU:List au:=
 [⟨some 2,ef 37 (aa 0),.aw⟩,
 ⟨some 4,aG (aD (iy none 0 0)),.aw⟩]
def PW:List au:=
 [⟨some 6,ay (aa 1),.aw⟩]
def PX:List au:=
 [⟨some 5,aG (aa 7),.aw⟩]
def PY:List au:=
 [⟨some 8,aH 37 (aa 2),.aw⟩,
 ⟨some 9,ay (aa 5),.aw⟩,
 ⟨some 10,ka 37 1 #[(0,aa 9)],.aw⟩,
 ⟨some 11,aV ⟨cE mO, #[aa 8,aa 10], #[37,37]⟩,.aw⟩,
 ⟨none,dw 37 (aa 2) (aa 11),.aw⟩]
def rU:Code:=
 (Code.region 2 #[{dst:=some 5,op:=aG (aa 7),type:=9,pos:= "iter.go:51",after:= #[],guard:=none }] false)
def rX:Code:=
 (Code.block 1 (Code.region 3 #[{dst:=some 8,op:=aH 37 (aa 2),type:=37,pos:= "iter.go:52",after:= #[],guard:=none }, {dst:=some 9,op:=ay (aa 5),type:=9,pos:= "iter.go:52",after:= #[],guard:=none }, {dst:=some 10,op:=ka 37 1 #[(0,aa 9)],type:=37,pos:= "iter.go:52",after:= #[{on:=1,ground:=Ground.data }],guard:=none }, {dst:=some 11,op:=aV ⟨cE mO, #[aa 8,aa 10], #[37,37]⟩,type:=37,pos:= "iter.go:52",after:= #[{on:=0,ground:=Ground.data }, {on:=2,ground:=Ground.data }],guard:=none }, {dst:=none,op:=dw 37 (aa 2) (aa 11),type:=0,pos:= "iter.go:52",after:= #[{on:=3,ground:=Ground.data }, {on:=3,ground:=Ground.chain }, {on:=0,ground:=Ground.phase }, {on:=1,ground:=Ground.phase }, {on:=2,ground:=Ground.phase }, {on:=3,ground:=Ground.phase }],guard:=none }] false))
def PS:SC:=
 (.region PX)
def PT:SC:=
 (.block 1 (.region PY))
def PZ:List au:=
 [⟨some 12,aH 37 (aa 2),.aw⟩,
 ⟨some 4,aG (aa 12),.aw⟩]
def PR:SC:=
 (.seq (.region PU)
 (.seq (.seq (.region PW)
 (.block 0 (.rfun (aa 6) [7] rU rX)))
 (.seq (.region PZ)
 .ret)))
theorem agt:cy rU=PS:=by kernel_rfl
theorem agu:cy rX=PT:=by kernel_rfl
theorem agv:(eV rU&&eV rX)=true:=by kernel_rfl
theorem agw:Tryz.prog.funcs[78]? =some Tryz.f78:=by kernel_rfl
theorem ags:(Tryz.f78.body).map cy=some PR:=by kernel_rfl
theorem agy:Tryz.f78.ntmps=13:=by kernel_rfl
theorem agx:Tryz.f78.results.toList=[dA 4]:=by kernel_rfl
theorem ZY:bB 78 2=0:=by kernel_rfl
theorem ZW:bB 78 10=0:=by kernel_rfl
theorem ZX:bB 78 11=2:=by kernel_rfl
def P5:List au:=
 [⟨some 2,ef 27 (aa 0),.aw⟩,
 ⟨some 4,aG (aD (iy none 0 0)),.aw⟩]
def P6:List au:=
 [⟨some 6,ay (aa 1),.aw⟩]
def P7:List au:=
 [⟨some 5,ey 31,.aw⟩,
 ⟨none,dw 31 (aa 5) (aa 7),.aw⟩]
def P8:List au:=
 [⟨some 8,aH 27 (aa 2),.aw⟩,
 ⟨some 9,aH 31 (aa 5),.aw⟩,
 ⟨some 10,ka 27 1 #[(0,aa 9)],.aw⟩,
 ⟨some 11,aV ⟨cE mO, #[aa 8,aa 10], #[27,27]⟩,.aw⟩,
 ⟨none,dw 27 (aa 2) (aa 11),.aw⟩]
def rY:Code:=
 (Code.region 2 #[{dst:=some 5,op:=ey 31,type:=0,pos:= "iter.go:51",after:= #[],guard:=none }, {dst:=none,op:=dw 31 (aa 5) (aa 7),type:=0,pos:= "iter.go:51",after:= #[{on:=0,ground:=Ground.data }, {on:=0,ground:=Ground.phase }],guard:=none }] false)
def rZ:Code:=
 (Code.block 1 (Code.region 3 #[{dst:=some 8,op:=aH 27 (aa 2),type:=27,pos:= "iter.go:52",after:= #[],guard:=none }, {dst:=some 9,op:=aH 31 (aa 5),type:=31,pos:= "iter.go:52",after:= #[],guard:=none }, {dst:=some 10,op:=ka 27 1 #[(0,aa 9)],type:=27,pos:= "iter.go:52",after:= #[{on:=1,ground:=Ground.data }],guard:=none }, {dst:=some 11,op:=aV ⟨cE mO, #[aa 8,aa 10], #[27,27]⟩,type:=27,pos:= "iter.go:52",after:= #[{on:=0,ground:=Ground.data }, {on:=2,ground:=Ground.data }],guard:=none }, {dst:=none,op:=dw 27 (aa 2) (aa 11),type:=0,pos:= "iter.go:52",after:= #[{on:=3,ground:=Ground.data }, {on:=3,ground:=Ground.chain }, {on:=0,ground:=Ground.phase }, {on:=1,ground:=Ground.phase }, {on:=2,ground:=Ground.phase }, {on:=3,ground:=Ground.phase }],guard:=none }] false))
def P3:SC:=
 (.region P7)
def P4:SC:=
 (.block 1 (.region P8))
def P9:List au:=
 [⟨some 12,aH 27 (aa 2),.aw⟩,
 ⟨some 4,aG (aa 12),.aw⟩]
def P0:SC:=
 (.seq (.region P5)
 (.seq (.seq (.region P6)
 (.block 0 (.rfun (aa 6) [7] rY rZ)))
 (.seq (.region P9)
 .ret)))
theorem agA:cy rY=P3:=by kernel_rfl
theorem agB:cy rZ=P4:=by kernel_rfl
theorem agC:(eV rY&&eV rZ)=true:=by kernel_rfl
theorem agD:Tryz.prog.funcs[81]? =some Tryz.f81:=by kernel_rfl
theorem agz:(Tryz.f81.body).map cy=some P0:=by kernel_rfl
theorem agF:Tryz.f81.ntmps=13:=by kernel_rfl
theorem agE:Tryz.f81.results.toList=[dA 4]:=by kernel_rfl
theorem Z1:bB 81 2=0:=by kernel_rfl
theorem Z2:bB 81 5=0:=by kernel_rfl
theorem ZZ:bB 81 10=0:=by kernel_rfl
theorem Z0:bB 81 11=2:=by kernel_rfl
def KE:List au:=
 [⟨some 4,aH 195 (aa 1),.aw⟩,
 ⟨some 5,Op.range 195 (aa 4),.aw⟩]
def y9:List au:=
 [⟨some 6,Op.next (aa 5) false,.aw⟩,
 ⟨some 7,eh (aa 6) 0,.aw⟩]
def KF:List au:=
 [⟨some 8,Op.entry (aa 5),.aw⟩,
 ⟨some 9,eh (aa 8) 0,.aw⟩,
 ⟨some 3,aG (aa 9),.aw⟩]
def KG:List au:=
 [⟨some 10,ay (aa 0),.aw⟩,
 ⟨some 11,ay (aa 3),.aw⟩,
 ⟨some 12,aV ⟨bz (aa 10), #[aa 11], #[9]⟩,.aw⟩,
 ⟨some 13,fy UnOp.not 4 (aa 12),.aw⟩]
def xc:SC:=
 (.seq (.region y9)
 (.seq (.cond (aa 7) .skip (.exit 0))
 (.block 1 (.seq (.region KF)
 (.seq (.region KG)
 (.cond (aa 13) .ret .skip))))))
def KD:SC:=
 (.seq (.region KE)
 (.block 0 (.loop xc)))
theorem acD:Tryz.prog.funcs[185]? =some Tryz.f185:=by kernel_rfl
theorem acC:(Tryz.f185.body).map cy=some KD:=by kernel_rfl
theorem acF:Tryz.f185.ntmps=14:=by kernel_rfl
theorem acE:Tryz.f185.results.toList=[]:=by kernel_rfl
def Jg:List au:=
 [⟨some 1,ef 195 (aa 0),.aw⟩,
 ⟨some 2,aG (aD Value.nilFunc),.aw⟩]
def Jh:List au:=
 [⟨some 3,Op.makeFunc (Fn.func 185) #[] #[aa 1],.aw⟩,
 ⟨some 2,aG (aa 3),.aw⟩]
def Jf:SC:=
 (.seq (.region Jg)
 (.seq (.region Jh)
 .ret))
theorem abr:Tryz.prog.funcs[120]? =some Tryz.f120:=by kernel_rfl
theorem abq:(Tryz.f120.body).map cy=some Jf:=by kernel_rfl
theorem abu:Tryz.f120.ntmps=4:=by kernel_rfl
theorem abt:Tryz.f120.results.toList=[dA 2]:=by kernel_rfl
theorem Yh:bB 120 1=0:=by kernel_rfl
theorem Sf (cs:List ai) (off:Nat):eN Tryz.prog 27 cs off=(cs.drop off).head?:=by kernel_rfl
theorem Sg (cs:List ai) (off:Nat):eN Tryz.prog 31 cs off=(cut cs off 2).bind fun r=>some (.agg r):=by kernel_rfl
theorem ajU (cs:List ai) (off:Nat):eN Tryz.prog 195 cs off=(cs.drop off).head?:=by kernel_rfl
theorem ala:eX Tryz.prog 27=some 1:=by kernel_rfl
theorem S5:eX Tryz.prog 31=some 2:=by kernel_rfl
theorem Hh:jc Tryz.prog 27=some ⟨2,32,true,(.agg [(.str []),(.str [])])⟩:=by kernel_rfl
theorem aaG:lj Tryz.prog 27=true:=by kernel_rfl
abbrev Sp:=List ai→Option ai
abbrev eE:=List (Nat×Sp)
def eY (f:Nat):eE→Option Sp
 | []=>none
 |(k,v)::l=>bif aY k f then some v else eY f l
noncomputable def QT (t:eE):ck:=QS fun f=>eY f t
def fV (t:eE):Prop:= ∀p∈t,eD Tryz.prog p.1 p.2
theorem AN {f:Nat} {sp:Sp}: ∀ {t:eE},eY f t=some sp→(f,sp)∈t
 | [],h=>by cases h
 |(k,v)::l,h=>by
  simp only [eY] at h
  cases hk:aY k f with
  |true=>
   rw [hk] at h
   injection h with h;subst h
   have:=ib hk
   subst this
   exact List.mem_cons_self
  |false=>
   rw [hk] at h
   exact List.mem_cons_of_mem _ (AN h)
theorem ET:Tryz.prog.funcs.toList.all (fun fn=> !(fn.name== "runtime.NumGoroutine"))=true:=by kernel_rfl
theorem EL:Tryz.prog.follows .mixedOrders=true:=by kernel_rfl
theorem gD {t:eE} (h:fV t):Good (QT t) where
 mixed:=EL
 spec f sp hsp args v hv G hp w xs wr hx:=h _ (AN hsp) args v hv G hp w xs wr hx
 specH f sp h:=by cases h
 names f fn hf:=by
  have hf:Tryz.prog.funcs[f]? =some fn:=hf
  have:=List.all_eq_true.1 ET fn (by
   rw [←Array.getElem?_toList] at hf
   exact List.mem_of_getElem? hf)
  simpa using this
theorem fV.nil:fV []:=fun _ h=>by cases h
theorem fV.cons {f:Nat} {sp:Sp} {t:eE} (h:eD Tryz.prog f sp) (ht:fV t):fV ((f,sp)::t):=by
 intro p hp
 rcases List.mem_cons.1 hp with rfl|hp
 ·exact h
 ·exact ht p hp
def w4 (c:Nat):List UInt8→Nat→Int
 | [],_=> -1
 |b::l,i=>bif aY b.toNat c then(i:Int) else w4 c l (i+1)
def Fx:Sp
 | [.str s,.int .u8 (.ofNat c)]=>bif bP c 256 then some (.int .i64 (w4 c s 0)) else none
 |_=>none
theorem Ii (c:Nat) (hc:c<256): ∀(l:List UInt8) (i:Nat),w4 c l i=match(List.range l.length).find? (fun j=>l[j]! ==c.toUInt8) with|some j=>((i+j:Nat):Int)|none=> -1
 | [],i=>rfl
 |b::l,i=>by
  rw [w4,List.length_cons,List.range_succ_eq_map,List.find?_cons]
  have hb:((b::l)[0]! ==c.toUInt8)=aY b.toNat c:=by
   show(b==c.toUInt8)=_
   cases h:aY b.toNat c with
   |true=>
    have:=ib h
    subst this
    simp
   |false=>
    have:=Nat.ne_of_beq_eq_false h
    apply beq_eq_false_iff_ne.2
    intro e
    apply this
    rw [e]
    simp [Nat.mod_eq_of_lt hc]
  rw [hb]
  cases h:aY b.toNat c with
  |true=>simp
  |false=>
   simp only [cF]
   rw [Ii c hc l (i+1),List.find?_map]
   have hf:((fun j=>(b::l)[j]! ==c.toUInt8) ∘ Nat.succ)=fun j=>l[j]! ==c.toUInt8:=by
    funext j
    simp [Function.comp]
   rw [hf]
   cases (List.range l.length).find? (fun j=>l[j]! ==c.toUInt8) with
   |none=>rfl
   |some j=>simp only [Option.map_some];show((i+1+j:Nat):Int)=((i+(j+1):Nat):Int);congr 1;omega
theorem akV:eD Tryz.prog 241 Fx:=by
 intro args v hv G h w xs wr hx
 unfold Fx at hv
 split at hv
 ·rename_i s c
  obtain⟨hc,hv⟩:=bW hv
  injection hv with hv;subst hv
  have hc:c<256:=Nat.le_of_ble_eq_true hc
  cases hx with
  |cons a b=>
   cases b with
   |cons b d=>
    cases d
    cases a
    cases b
    refine .inl ⟨.int .i64 (firstIdx ⟨⟨s⟩⟩ c.toUInt8),w,?_,G,wr,.refl,?_⟩
    ·have:=run_callFunc_extern (P:=Tryz.prog) (f:=241) (fn:=Tryz.f241) (e:=Extern.BytealgIndexByte.indexByte) (by kernel_rfl) (by kernel_rfl) (by kernel_rfl) (by kernel_rfl) (by kernel_rfl) #[.string ⟨⟨s⟩⟩,.int .u8 (.ofNat c)] w
     rw [show(⟨[iQ ⟨⟨s⟩⟩,.int .u8 (.ofNat c)]⟩:Array Value)= #[.string ⟨⟨s⟩⟩,.int .u8 (.ofNat c)] from rfl,this,run_indexByte_string]
     rfl
    ·have:firstIdx ⟨⟨s⟩⟩ c.toUInt8=w4 c s 0:=by
      rw [Ii c hc]
      unfold firstIdx
      have h1:(⟨⟨s⟩⟩:ByteArray).size=s.length:=rfl
      rw [h1]
      have h2:(fun i=>(⟨⟨s⟩⟩:ByteArray)[i]! ==c.toUInt8)=fun(j:Nat)=>s[j]! ==c.toUInt8:=by
       funext i
       congr 1
       by_cases hi:i<s.length
       ·rw [getElem!_pos (⟨⟨s⟩⟩:ByteArray) i hi,getElem!_pos s i hi];rfl
       ·rw [getElem!_neg (⟨⟨s⟩⟩:ByteArray) i hi,getElem!_neg s i hi]
      rw [h2]
      cases (List.range s.length).find? (fun(j:Nat)=>s[j]! ==c.toUInt8)<;>simp
     rw [this]
     exact .int _ _
 ·cases hv
end Go.Proofs.YtbfmdojdemckbaaGreat
