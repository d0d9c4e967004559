/- The program as the evaluator takes it; codes of its functions; tables of contracts. -/
import Derived.Test.YtbfmdojdemckbaaGreatAg3
import Derived.Test.YtbfmdojdemckbaaGreatProg
import Derived.KernelRfl
import Derived.Laws.Externs
open Go.BinOp renaming add→d8,eql→fL,geq→qI,gtr→oh,lss→eh,neq→ij,sub→ol
open Go.Builtin renaming append→nm,len→cW
open Go.Callee renaming builtin→cG,value→bG
open Go.IntKind renaming i64→br
open Nat renaming beq→be,ble→cy,blt→bT,eq_of_beq_eq_true→ik
open Go.Op renaming alloc→eZ,assign→aJ,binOp→bh,box→e7,buildSlice→kE,build→kb,call→aY,extract→fe,fieldAddr→bA,indexAddr→dn,load→aI,lookup→nu,mapUpdate→uH,move→ay,nilCheck→dE,pick→cX,store→dD,unOp→fM
open Go.Operand renaming const→aE,func→bM,tmp→aa
open Go.ResultVar renaming tmp→dF
open Go.Value renaming bool→bK,int→bq,pointer→lY,slice→iM,string→jh
namespace Go.Proofs.YtbfmdojdemckbaaGreat
open Go.Ag
def IG (n:Nat):List (Nat×Nat)->Nat
 | []=>0
 |(k,v)::l=>bif be k n then v else IG n l
def YU:List (Nat×List (Nat×Nat)):=[
(3,[(3,1),(4,1),(5,1),(8,1),(10,1)]),
(4,[(2,1),(3,1),(6,1),(8,1),(10,1)]),
(5,[(4,1),(5,1),(6,1),(10,1),(12,1),(14,1),(16,1),(18,1),(20,1),(21,1)]),
(6,[(3,1),(4,1),(5,1),(8,1),(14,1),(16,1)]),
(7,[(1,1),(2,1),(4,1),(6,1),(8,1),(9,1),(10,1),(11,1),(12,1),(16,1)]),
(8,[(3,1),(4,1),(5,1)]),
(9,[(3,1),(4,1),(5,1),(6,1),(15,1)]),
(10,[(2,1),(3,1)]),
(12,[(1,1)]),
(13,[(1,1),(5,1)]),
(14,[(2,1),(4,1)]),
(15,[(3,1),(4,1),(7,1),(9,1)]),
(16,[(2,1),(3,1)]),
(18,[(2,1)]),
(19,[(2,1)]),
(20,[(8,1),(9,1)]),
(21,[(3,1),(4,1),(5,1),(6,1),(10,1)]),
(22,[(2,1),(6,1)]),
(23,[(1,1)]),
(30,[(2,1),(3,1)]),
(33,[(2,1),(3,1)]),
(34,[(1,1)]),
(35,[(2,1),(3,1)]),
(40,[(2,1)]),
(42,[(6,1),(17,1)]),
(52,[(3,1)]),
(54,[(1,1)]),
(55,[(2,1)]),
(57,[(3,1)]),
(58,[(3,1)]),
(59,[(5,1)]),
(63,[(1,1)]),
(64,[(1,1),(3,1)]),
(67,[(0,1)]),
(68,[(2,1),(3,1),(7,1)]),
(69,[(6,1),(10,1),(16,1)]),
(70,[(2,1),(4,1),(9,1),(10,1)]),
(71,[(2,1),(10,1),(14,1)]),
(72,[(1,1),(2,1)]),
(73,[(5,1),(11,1),(40,2),(120,2)]),
(74,[(10,1),(13,1),(19,1),(22,1)]),
(75,[(7,1),(8,1),(9,1),(10,1)]),
(76,[(8,1),(13,1),(18,1)]),
(78,[(11,2)]),
(81,[(11,2)]),
(84,[(1,1)]),
(88,[(1,1)]),
(89,[(0,1),(1,1)]),
(92,[(6,1)]),
(93,[(1,1)]),
(94,[(1,1)]),
(96,[(1,1),(5,1),(9,1)]),
(97,[(7,1)]),
(98,[(3,1)]),
(99,[(1,1),(5,1),(7,1)]),
(100,[(3,1),(4,1),(6,1),(7,1),(9,1),(10,1)]),
(101,[(2,1)]),
(102,[(2,1),(7,1),(10,1)]),
(103,[(1,1),(6,1)]),
(104,[(1,1),(3,1),(10,1),(13,1),(19,1),(21,1),(176,2)]),
(105,[(1,1)]),
(106,[(1,1),(8,1)]),
(107,[(2,1),(4,1)]),
(110,[(1,1)]),
(112,[(1,1)]),
(118,[(4,1),(5,1)]),
(119,[(2,1),(3,1)]),
(124,[(5,1)]),
(147,[(3,1)]),
(148,[(3,1)]),
(149,[(1,1),(3,1)]),
(150,[(3,1),(4,1),(11,1)]),
(151,[(2,1),(3,1),(4,1),(8,1)]),
(152,[(2,1),(4,1)]),
(153,[(2,1),(7,1),(10,1)]),
(154,[(1,1),(5,1)]),
(155,[(1,1)]),
(156,[(1,1),(2,1),(4,1),(6,1)]),
(157,[(1,1),(5,1),(10,1),(12,1),(93,2)]),
(159,[(2,1),(4,1)]),
(160,[(11,1),(15,1)]),
(161,[(2,1),(7,1)]),
(164,[(2,1),(3,1)]),
(165,[(1,1),(5,1),(7,1),(11,1)]),
(166,[(25,2)]),
(169,[(1,1),(6,1),(8,1)]),
(170,[(3,1),(7,1)]),
(171,[(3,1)]),
(172,[(3,1)]),
(173,[(2,1)]),
(179,[(1,1)]),
(184,[(4,1)]),
(202,[(2,1),(3,1)]),
(203,[(4,1)]),
(207,[(4,1),(5,1),(6,1),(10,1)]),
(208,[(4,1),(5,1),(6,1),(7,1)]),
(210,[(2,1)]),
(211,[(7,2)]),
(217,[(3,1)]),
(219,[(2,1),(3,1)]),
(221,[(6,1),(12,1),(92,2),(97,2)]),
(222,[(2,1),(3,1)]),
(230,[(4,1)]),
(232,[(7,1)]),
(233,[(2,1)]),
(234,[(1,1)]),
(245,[(2,1)]),
(250,[(3,1)]),
(255,[(1,1)]),
(257,[(2,1)]),
(261,[(1,1)]),
(262,[(1,1)]),
(263,[(3,1)]),
(268,[(4,1)]),
(270,[(2,1),(3,1)]),
(271,[(7,1)]),
(272,[(2,1)]),
(273,[(2,1),(3,1)]),
(275,[(2,1),(3,1)]),
(276,[(4,1)]),
(277,[(1,1),(2,1)]),
(278,[(3,1),(4,1),(5,1)]),
(279,[(2,1),(3,1),(5,1),(6,1)]),
(291,[(4,1)]),
(292,[(7,1)]),
(293,[(1,1),(2,1)]),
(306,[(3,1)]),
(320,[(2,1),(3,1),(4,1)]),
(321,[(2,1),(3,1)]),
(322,[(2,1),(3,1)]),
(327,[(1,1)]),
(328,[(1,1)]),
(337,[(3,1),(4,1),(5,1)]),
(342,[(2,1)])]
def IH (f t:Nat):List (Nat×List (Nat×Nat))->Nat
 | []=>0
 |(k,v)::l=>bif be k f then IG t v else IH f t l
def bI (f:FuncId) (t:Tmp):Nat:=IH f t YU
noncomputable def QS (sp:FuncId->Option (List aj->Option aj)):cw:= {P:=Tryz.prog,hint:=bI,spec:=sp,ch:=fun _=>0,kmax:=fun _=>2 }
theorem aV (sp:FuncId->Option (List aj->Option aj)):(QS sp).P=Tryz.prog:=rfl
theorem cg (sp:FuncId->Option (List aj->Option aj)):(QS sp).hint=bI:=rfl
theorem ei (sp:FuncId->Option (List aj->Option aj)):(QS sp).spec=sp:=rfl
def abo:List Nat:=[0,1,0,7,15,0,32,0,224,480,1023,2047]
def Jc:aC:=
 [ae 2 (e7 24 (aa 0)),
 ae 3 (e7 24 (aa 1)),
 ae 4 (aJ (aE (bK false)))]
def Jd:aC:=
 [ae 6 (bA 24 (aa 2) 0),
 ae 7 (aI 22 (aa 6)),
 ae 8 (aY ⟨cG cW,#[aa 7],#[22]⟩),
 ae 9 (bA 24 (aa 3) 0),
 ae 10 (aI 22 (aa 9)),
 ae 11 (aY ⟨cG cW,#[aa 10],#[22]⟩),
 ae 12 (bh ij 3 (aa 8) (aa 11) 3)]
def abr:aC:=
 [ae 4 (aJ (aE (bK false)))]
def Je:aC:=
 [ae 5 (aJ (aE (bq br 0)))]
def Ds:aC:=
 [ae 13 (ay (aa 5)),
 ae 14 (bA 24 (aa 2) 0),
 ae 15 (aI 22 (aa 14)),
 ae 16 (aY ⟨cG cW,#[aa 15],#[22]⟩),
 ae 17 (bh eh 3 (aa 13) (aa 16) 3)]
def Jg:aC:=
 [ae 20 (bA 24 (aa 2) 0),
 ae 21 (aI 22 (aa 20)),
 ae 22 (ay (aa 5)),
 ae 23 (dn 22 (aa 21) (aa 22)),
 ae 24 (aI 40 (aa 23)),
 ae 25 (bA 24 (aa 3) 0),
 ae 26 (aI 22 (aa 25)),
 ae 27 (ay (aa 5)),
 ae 28 (dn 22 (aa 26) (aa 27)),
 ae 29 (aI 40 (aa 28)),
 ae 30 (aY ⟨bG (bM 33),#[aa 24,aa 29],#[40,40]⟩),
 ae 31 (fM UnOp.not 4 (aa 30))]
def abt:aC:=
 [ae 4 (aJ (aE (bK false)))]
def Jf:aC:=
 [ae 18 (ay (aa 5)),
 ae 19 (bh d8 3 (aa 18) (aE (bq br 1)) 3),
 ae 5 (aJ (aa 19))]
def zh:SC:=
 (.seq (.seq (.region Ds)
 (.cond (aa 17) .skip (.exit 0)))
 (.seq (.block 1 (.seq (.draw Jg abo)
 (.cond (aa 31) (.seq (.region abt)
 .ret) .skip)))
 (.region Jf)))
def Jh:aC:=
 [ae 4 (aJ (aE (bK true)))]
def zg:SC:=
 (.seq (.region Jc)
 (.seq (.seq (.region Jd)
 (.cond (aa 12) (.seq (.region abr)
 .ret) .skip))
 (.seq (.seq (.region Je)
 (.block 0 (.loop zh)))
 (.seq (.region Jh)
 .ret))))
theorem abq:Tryz.prog.funcs[10]? =some Tryz.f10:=by kernel_rfl
theorem abp:(Tryz.f10.body).map cL=some zg:=by kernel_rfl
theorem abv:Tryz.f10.ntmps=32:=by kernel_rfl
theorem abu:Tryz.f10.results.toList=[dF 4]:=by kernel_rfl
theorem YV:bI 10 2=1:=by kernel_rfl
theorem YW:bI 10 3=1:=by kernel_rfl
def adl:List Nat:=[0,1,0,7,15,31,63,0,128,0,896,1920,3968,8064,16383,32767]
def LQ:aC:=
 [ae 2 (e7 24 (aa 0)),
 ae 4 (aJ (aE (bK false)))]
def LR:aC:=
 [ae 9 (bA 24 (aa 2) 0),
 ae 10 (aI 22 (aa 9)),
 ae 11 (aY ⟨cG cW,#[aa 10],#[22]⟩),
 ae 12 (ay (aa 1)),
 ae 13 (bh oh 3 (aa 11) (aa 12) 3)]
def L2:aC:=
 [ae 4 (aJ (aE (bK false)))]
def L4:aC:=
 [ae 5 (aJ (aE (bq br 0)))]
def DJ:aC:=
 [ae 14 (ay (aa 5)),
 ae 15 (bA 24 (aa 2) 0),
 ae 16 (aI 22 (aa 15)),
 ae 17 (aY ⟨cG cW,#[aa 16],#[22]⟩),
 ae 18 (bh eh 3 (aa 14) (aa 17) 3)]
def L7:aC:=
 [ae 21 (bA 24 (aa 2) 0),
 ae 22 (aI 22 (aa 21)),
 ae 23 (ay (aa 5)),
 ae 24 (dn 22 (aa 22) (aa 23)),
 ae 25 (aI 40 (aa 24)),
 ae 6 (eZ 40),
 ⟨none,dD 40 (aa 6) (aa 25),.aw⟩]
def L8:aC:=
 [ae 26 (bA 40 (aa 6) 3),
 ae 27 (aI 37 (aa 26)),
 ae 28 (aY ⟨cG cW,#[aa 27],#[37]⟩),
 ae 29 (bh oh 3 (aa 28) (aE (bq br 12)) 3),
 ae 30 (ay (aa 29)),
 aM 31 (bA 40 (aa 6) 4) 30 false,
 aM 32 (aI 38 (aa 31)) 30 false,
 aM 33 (aY ⟨cG cW,#[aa 32],#[38]⟩) 30 false,
 aM 34 (bh oh 3 (aa 33) (aE (bq br 20)) 3) 30 false,
 ae 35 (cX (aa 30) (aE (bK true)) (aa 34)),
 ae 36 (ay (aa 35)),
 aM 37 (bA 40 (aa 6) 0) 36 false,
 aM 38 (aI 9 (aa 37)) 36 false,
 aM 39 (aY ⟨cG cW,#[aa 38],#[9]⟩) 36 false,
 aM 40 (bh oh 3 (aa 39) (aE (bq br 60)) 3) 36 false,
 ae 41 (cX (aa 36) (aE (bK true)) (aa 40))]
def DK:aC:=
 [ae 4 (aJ (aE (bK false)))]
def L9:aC:=
 [ae 7 (aJ (aE (bq br 0)))]
def DH:aC:=
 [ae 42 (ay (aa 7)),
 ae 43 (bA 40 (aa 6) 3),
 ae 44 (aI 37 (aa 43)),
 ae 45 (aY ⟨cG cW,#[aa 44],#[37]⟩),
 ae 46 (bh eh 3 (aa 42) (aa 45) 3)]
def LU:aC:=
 [ae 49 (bA 40 (aa 6) 3),
 ae 50 (aI 37 (aa 49)),
 ae 51 (ay (aa 7)),
 ae 52 (dn 37 (aa 50) (aa 51)),
 ae 53 (aI 9 (aa 52)),
 ae 54 (aY ⟨cG cW,#[aa 53],#[9]⟩),
 ae 55 (bh oh 3 (aa 54) (aE (bq br 60)) 3)]
def LW:aC:=
 [ae 4 (aJ (aE (bK false)))]
def LS:aC:=
 [ae 47 (ay (aa 7)),
 ae 48 (bh d8 3 (aa 47) (aE (bq br 1)) 3),
 ae 7 (aJ (aa 48))]
def zt:SC:=
 (.seq (.seq (.region DH)
 (.cond (aa 46) .skip (.exit 2)))
 (.seq (.block 3 (.seq (.region LU)
 (.cond (aa 55) (.seq (.region LW)
 .ret) .skip)))
 (.region LS)))
def LX:aC:=
 [ae 8 (aJ (aE (bq br 0)))]
def DI:aC:=
 [ae 56 (ay (aa 8)),
 ae 57 (bA 40 (aa 6) 4),
 ae 58 (aI 38 (aa 57)),
 ae 59 (aY ⟨cG cW,#[aa 58],#[38]⟩),
 ae 60 (bh eh 3 (aa 56) (aa 59) 3)]
def LZ:aC:=
 [ae 63 (bA 40 (aa 6) 4),
 ae 64 (aI 38 (aa 63)),
 ae 65 (ay (aa 8)),
 ae 66 (dn 38 (aa 64) (aa 65)),
 ae 67 (bA 51 (aa 66) 0),
 ae 68 (aI 9 (aa 67)),
 ae 69 (aY ⟨cG cW,#[aa 68],#[9]⟩),
 ae 70 (bA 40 (aa 6) 4),
 ae 71 (aI 38 (aa 70)),
 ae 72 (ay (aa 8)),
 ae 73 (dn 38 (aa 71) (aa 72)),
 ae 74 (bA 51 (aa 73) 1),
 ae 75 (aI 9 (aa 74)),
 ae 76 (aY ⟨cG cW,#[aa 75],#[9]⟩),
 ae 77 (bh d8 3 (aa 69) (aa 76) 3),
 ae 78 (bh oh 3 (aa 77) (aE (bq br 300)) 3)]
def L0:aC:=
 [ae 4 (aJ (aE (bK false)))]
def LY:aC:=
 [ae 61 (ay (aa 8)),
 ae 62 (bh d8 3 (aa 61) (aE (bq br 1)) 3),
 ae 8 (aJ (aa 62))]
def zu:SC:=
 (.seq (.seq (.region DI)
 (.cond (aa 60) .skip (.exit 4)))
 (.seq (.block 5 (.seq (.draw LZ adl)
 (.cond (aa 78) (.seq (.region L0)
 .ret) .skip)))
 (.region LY)))
def L6:aC:=
 [ae 19 (ay (aa 5)),
 ae 20 (bh d8 3 (aa 19) (aE (bq br 1)) 3),
 ae 5 (aJ (aa 20))]
def zw:SC:=
 (.seq (.seq (.region DJ)
 (.cond (aa 18) .skip (.exit 0)))
 (.seq (.block 1 (.seq (.region L7)
 (.seq (.seq (.region L8)
 (.cond (aa 41) (.seq (.region DK)
 .ret) .skip))
 (.seq (.seq (.region L9)
 (.block 2 (.loop zt)))
 (.seq (.region LX)
 (.block 4 (.loop zu)))))))
 (.region L6)))
def L1:aC:=
 [ae 4 (aJ (aE (bK true)))]
def LP:SC:=
 (.seq (.region LQ)
 (.seq (.seq (.region LR)
 (.cond (aa 13) (.seq (.region L2)
 .ret) .skip))
 (.seq (.seq (.region L4)
 (.block 0 (.loop zw)))
 (.seq (.region L1)
 .ret))))
theorem adn:Tryz.prog.funcs[22]? =some Tryz.f22:=by kernel_rfl
theorem adm:(Tryz.f22.body).map cL=some LP:=by kernel_rfl
theorem adp:Tryz.f22.ntmps=79:=by kernel_rfl
theorem ado:Tryz.f22.results.toList=[dF 4]:=by kernel_rfl
theorem Zw:bI 22 2=1:=by kernel_rfl
theorem Zx:bI 22 6=1:=by kernel_rfl
def KI:aC:=
 [ae 1 (e7 24 (aa 0)),
 ae 2 (aJ (aE (bK false)))]
def KJ:aC:=
 [ae 3 (aJ (aE (jh {data:= #[] })))]
def KM:aC:=
 [ae 6 (bA 24 (aa 1) 0),
 ae 7 (aI 22 (aa 6)),
 ae 8 (aY ⟨cG cW,#[aa 7],#[22]⟩),
 ae 9 (ay (aE (bq br 0)))]
def DD:aC:=
 [ae 10 (bh eh 3 (aa 9) (aa 8) 3)]
def KN:aC:=
 [ae 11 (dn 22 (aa 7) (aa 9)),
 ae 12 (aI 40 (aa 11)),
 ae 5 (eZ 40),
 ⟨none,dD 40 (aa 5) (aa 12),.aw⟩]
def KO:aC:=
 [ae 13 (aI 40 (aa 5)),
 ae 14 (aY ⟨bG (bM 36),#[aa 13],#[40]⟩),
 ae 15 (fM UnOp.not 4 (aa 14)),
 ae 16 (ay (aa 15)),
 aM 17 (bA 40 (aa 5) 0) 16 false,
 aM 18 (aI 9 (aa 17)) 16 false,
 aM 19 (ay (aa 3)) 16 false,
 aM 20 (bh BinOp.leq 9 (aa 18) (aa 19) 9) 16 false,
 ae 21 (cX (aa 16) (aE (bK true)) (aa 20))]
def DE:aC:=
 [ae 2 (aJ (aE (bK false)))]
def KP:aC:=
 [ae 22 (bA 40 (aa 5) 0),
 ae 23 (aI 9 (aa 22)),
 ae 3 (aJ (aa 23))]
def KQ:aC:=
 [ae 24 (bh d8 3 (aa 9) (aE (bq br 1)) 3),
 ae 9 (ay (aa 24))]
def zo:SC:=
 (.seq (.region DD)
 (.seq (.cond (aa 10) .skip (.exit 0))
 (.seq (.block 1 (.seq (.region KN)
 (.seq (.seq (.region KO)
 (.cond (aa 21) (.seq (.region DE)
 .ret) .skip))
 (.region KP))))
 (.region KQ))))
def KR:aC:=
 [ae 25 (bA 24 (aa 1) 0),
 ae 26 (aI 22 (aa 25)),
 ae 27 (aY ⟨cG cW,#[aa 26],#[22]⟩),
 ae 28 (bh BinOp.leq 3 (aa 27) (aE (bq br 1000000)) 3),
 ae 2 (aJ (aa 28))]
def KH:SC:=
 (.seq (.region KI)
 (.seq (.region KJ)
 (.seq (.seq (.region KM)
 (.block 0 (.loop zo)))
 (.seq (.region KR)
 .ret))))
theorem acz:Tryz.prog.funcs[13]? =some Tryz.f13:=by kernel_rfl
theorem acy:(Tryz.f13.body).map cL=some KH:=by kernel_rfl
theorem acB:Tryz.f13.ntmps=29:=by kernel_rfl
theorem acA:Tryz.f13.results.toList=[dF 2]:=by kernel_rfl
theorem Zo:bI 13 1=1:=by kernel_rfl
theorem Zp:bI 13 5=1:=by kernel_rfl
def aec:List Nat:=[0,1,0,7,15,0,32,0,224,480,1023]
def aeb:List Nat:=[0,1,0,7,15,0,32,0,224,480,1023]
def Nk:aC:=
 [ae 2 (e7 40 (aa 0)),
 ae 3 (e7 40 (aa 1)),
 ae 4 (aJ (aE (bK false)))]
def Nl:aC:=
 [ae 7 (bA 40 (aa 2) 0),
 ae 8 (aI 9 (aa 7)),
 ae 9 (bA 40 (aa 3) 0),
 ae 10 (aI 9 (aa 9)),
 ae 11 (bh ij 9 (aa 8) (aa 10) 9),
 ae 12 (ay (aa 11)),
 aM 13 (bA 40 (aa 2) 1) 12 false,
 aM 14 (aI 3 (aa 13)) 12 false,
 aM 15 (bA 40 (aa 3) 1) 12 false,
 aM 16 (aI 3 (aa 15)) 12 false,
 aM 17 (bh ij 3 (aa 14) (aa 16) 3) 12 false,
 ae 18 (cX (aa 12) (aE (bK true)) (aa 17)),
 ae 19 (ay (aa 18)),
 aM 20 (bA 40 (aa 2) 2) 19 false,
 aM 21 (aI 36 (aa 20)) 19 false,
 aM 22 (bA 40 (aa 3) 2) 19 false,
 aM 23 (aI 36 (aa 22)) 19 false,
 aM 24 (bh ij 36 (aa 21) (aa 23) 36) 19 false,
 ae 25 (cX (aa 19) (aE (bK true)) (aa 24)),
 ae 26 (ay (aa 25)),
 aM 27 (bA 40 (aa 2) 3) 26 false,
 aM 28 (aI 37 (aa 27)) 26 false,
 aM 29 (aY ⟨cG cW,#[aa 28],#[37]⟩) 26 false,
 aM 30 (bA 40 (aa 3) 3) 26 false,
 aM 31 (aI 37 (aa 30)) 26 false,
 aM 32 (aY ⟨cG cW,#[aa 31],#[37]⟩) 26 false,
 aM 33 (bh ij 3 (aa 29) (aa 32) 3) 26 false,
 ae 34 (cX (aa 26) (aE (bK true)) (aa 33)),
 ae 35 (ay (aa 34)),
 aM 36 (bA 40 (aa 2) 4) 35 false,
 aM 37 (aI 38 (aa 36)) 35 false,
 aM 38 (aY ⟨cG cW,#[aa 37],#[38]⟩) 35 false,
 aM 39 (bA 40 (aa 3) 4) 35 false,
 aM 40 (aI 38 (aa 39)) 35 false,
 aM 41 (aY ⟨cG cW,#[aa 40],#[38]⟩) 35 false,
 aM 42 (bh ij 3 (aa 38) (aa 41) 3) 35 false,
 ae 43 (cX (aa 35) (aE (bK true)) (aa 42))]
def aeg:aC:=
 [ae 4 (aJ (aE (bK false)))]
def Nq:aC:=
 [ae 5 (aJ (aE (bq br 0)))]
def DZ:aC:=
 [ae 44 (ay (aa 5)),
 ae 45 (bA 40 (aa 2) 3),
 ae 46 (aI 37 (aa 45)),
 ae 47 (aY ⟨cG cW,#[aa 46],#[37]⟩),
 ae 48 (bh eh 3 (aa 44) (aa 47) 3)]
def Ns:aC:=
 [ae 51 (bA 40 (aa 2) 3),
 ae 52 (aI 37 (aa 51)),
 ae 53 (ay (aa 5)),
 ae 54 (dn 37 (aa 52) (aa 53)),
 ae 55 (aI 9 (aa 54)),
 ae 56 (bA 40 (aa 3) 3),
 ae 57 (aI 37 (aa 56)),
 ae 58 (ay (aa 5)),
 ae 59 (dn 37 (aa 57) (aa 58)),
 ae 60 (aI 9 (aa 59)),
 ae 61 (bh ij 9 (aa 55) (aa 60) 9)]
def aeh:aC:=
 [ae 4 (aJ (aE (bK false)))]
def Nr:aC:=
 [ae 49 (ay (aa 5)),
 ae 50 (bh d8 3 (aa 49) (aE (bq br 1)) 3),
 ae 5 (aJ (aa 50))]
def zA:SC:=
 (.seq (.seq (.region DZ)
 (.cond (aa 48) .skip (.exit 0)))
 (.seq (.block 1 (.seq (.draw Ns aec)
 (.cond (aa 61) (.seq (.region aeh)
 .ret) .skip)))
 (.region Nr)))
def Nt:aC:=
 [ae 6 (aJ (aE (bq br 0)))]
def D0:aC:=
 [ae 62 (ay (aa 6)),
 ae 63 (bA 40 (aa 2) 4),
 ae 64 (aI 38 (aa 63)),
 ae 65 (aY ⟨cG cW,#[aa 64],#[38]⟩),
 ae 66 (bh eh 3 (aa 62) (aa 65) 3)]
def Nn:aC:=
 [ae 69 (bA 40 (aa 2) 4),
 ae 70 (aI 38 (aa 69)),
 ae 71 (ay (aa 6)),
 ae 72 (dn 38 (aa 70) (aa 71)),
 ae 73 (aI 51 (aa 72)),
 ae 74 (bA 40 (aa 3) 4),
 ae 75 (aI 38 (aa 74)),
 ae 76 (ay (aa 6)),
 ae 77 (dn 38 (aa 75) (aa 76)),
 ae 78 (aI 51 (aa 77)),
 ae 79 (bh ij 51 (aa 73) (aa 78) 51)]
def aef:aC:=
 [ae 4 (aJ (aE (bK false)))]
def Nm:aC:=
 [ae 67 (ay (aa 6)),
 ae 68 (bh d8 3 (aa 67) (aE (bq br 1)) 3),
 ae 6 (aJ (aa 68))]
def zB:SC:=
 (.seq (.seq (.region D0)
 (.cond (aa 66) .skip (.exit 2)))
 (.seq (.block 3 (.seq (.draw Nn aeb)
 (.cond (aa 79) (.seq (.region aef)
 .ret) .skip)))
 (.region Nm)))
def Np:aC:=
 [ae 4 (aJ (aE (bK true)))]
def Nj:SC:=
 (.seq (.region Nk)
 (.seq (.seq (.region Nl)
 (.cond (aa 43) (.seq (.region aeg)
 .ret) .skip))
 (.seq (.seq (.region Nq)
 (.block 0 (.loop zA)))
 (.seq (.seq (.region Nt)
 (.block 2 (.loop zB)))
 (.seq (.region Np)
 .ret)))))
theorem aee:Tryz.prog.funcs[33]? =some Tryz.f33:=by kernel_rfl
theorem aed:(Tryz.f33.body).map cL=some Nj:=by kernel_rfl
theorem aej:Tryz.f33.ntmps=80:=by kernel_rfl
theorem aei:Tryz.f33.results.toList=[dF 4]:=by kernel_rfl
theorem ZK:bI 33 2=1:=by kernel_rfl
theorem ZL:bI 33 3=1:=by kernel_rfl
def aek:List Nat:=[0,1,3,7,15,31,63,127,255,511,1023,2047,4095,8191,16383,32767,65535,131071,262143,524287,131071,1179647,3276799,8388607,16777215,33554431,67108863,134217727,268435455,536870911,1073741823]
def Nv:aC:=
 [ae 1 (e7 40 (aa 0)),
 ae 2 (aJ (aE (bK false)))]
def Nw:aC:=
 [ae 6 (bA 40 (aa 1) 1),
 ae 7 (aI 3 (aa 6)),
 ae 8 (aY ⟨bG (bM 57),#[aa 7],#[3]⟩),
 ae 9 (bh fL 9 (aa 8) (aE (jh {data:= #[] })) 9),
 ae 10 (ay (aa 9)),
 aM 11 (bA 40 (aa 1) 0) 10 false,
 aM 12 (aI 9 (aa 11)) 10 false,
 aM 13 (aY ⟨bG (bM 58),#[aa 12],#[9]⟩) 10 false,
 aM 14 (fM UnOp.not 4 (aa 13)) 10 false,
 ae 15 (cX (aa 10) (aE (bK true)) (aa 14)),
 ae 16 (ay (aa 15)),
 aM 17 (bA 40 (aa 1) 4) 16 false,
 aM 18 (aI 38 (aa 17)) 16 false,
 aM 19 (aY ⟨bG (bM 59),#[aa 18],#[38]⟩) 16 false,
 aM 20 (fM UnOp.not 4 (aa 19)) 16 false,
 ae 21 (cX (aa 16) (aE (bK true)) (aa 20)),
 ae 22 (ay (aa 21)),
 aM 23 (bA 40 (aa 1) 3) 22 false,
 aM 24 (aI 37 (aa 23)) 22 false,
 aM 25 (aY ⟨cG cW,#[aa 24],#[37]⟩) 22 false,
 aM 26 (bA 40 (aa 1) 1) 22 false,
 aM 27 (aI 3 (aa 26)) 22 false,
 aM 28 (aY ⟨bG (bM 60),#[aa 27],#[3]⟩) 22 false,
 aM 29 (bh eh 3 (aa 25) (aa 28) 3) 22 false,
 ae 30 (cX (aa 22) (aE (bK true)) (aa 29)),
 ae 31 (ay (aa 30)),
 aM 32 (bA 40 (aa 1) 3) 31 false,
 aM 33 (aI 37 (aa 32)) 31 false,
 aM 34 (aY ⟨cG cW,#[aa 33],#[37]⟩) 31 false,
 aM 35 (bh oh 3 (aa 34) (aE (bq br 2000)) 3) 31 false,
 ae 36 (cX (aa 31) (aE (bK true)) (aa 35))]
def D1:aC:=
 [ae 2 (aJ (aE (bK false)))]
def NB:aC:=
 [ae 37 (Op.makeMap 109 none),
 ae 3 (eZ 109),
 ⟨none,dD 109 (aa 3) (aa 37),.aw⟩]
def NC:aC:=
 [ae 4 (eZ 9),
 ⟨none,dD 9 (aa 4) (aE (jh {data:= #[] })),.aw⟩]
def ND:aC:=
 [ae 38 (Op.makeFunc (Fn.func 61) #[] #[aa 1,aa 4,aa 3]),
 ae 5 (aJ (aa 38))]
def NF:aC:=
 [ae 39 (bA 40 (aa 1) 3),
 ae 40 (aI 37 (aa 39)),
 ae 41 (ay (aa 5)),
 ae 42 (aY ⟨bG (bM 62),#[aa 40,aa 41],#[37,101]⟩)]
def NG:aC:=
 [ae 2 (aJ (aE (bK false)))]
def NH:aC:=
 [ae 43 (bA 40 (aa 1) 1),
 ae 44 (aI 3 (aa 43))]
def NI:aC:=
 [ae 46 (bh fL 3 (aa 44) (aE (bq br 1)) 3),
 ae 45 (aJ (aa 46))]
def Nx:aC:=
 [ae 47 (bA 40 (aa 1) 3),
 ae 48 (aI 37 (aa 47)),
 ae 49 (aY ⟨cG cW,#[aa 48],#[37]⟩),
 ae 50 (bh fL 3 (aa 49) (aE (bq br 0)) 3),
 ae 51 (ay (aa 50)),
 aM 52 (bA 40 (aa 1) 2) 51 true,
 aM 53 (aI 36 (aa 52)) 51 true,
 aM 54 (aY ⟨bG (bM 63),#[aa 53],#[36]⟩) 51 true,
 ae 55 (cX (aa 51) (aa 54) (aE (bK false))),
 ae 2 (aJ (aa 55))]
def Ny:aC:=
 [ae 57 (bh fL 3 (aa 44) (aE (bq br 5)) 3),
 ae 56 (aJ (aa 57))]
def Nz:aC:=
 [ae 58 (bA 40 (aa 1) 3),
 ae 59 (aI 37 (aa 58)),
 ae 60 (aY ⟨cG cW,#[aa 59],#[37]⟩),
 ae 61 (bh fL 3 (aa 60) (aE (bq br 3)) 3),
 ae 62 (ay (aa 61)),
 aM 63 (bA 40 (aa 1) 2) 62 true,
 aM 64 (aI 36 (aa 63)) 62 true,
 aM 65 (kb 36 #[]) 62 true,
 aM 66 (bh fL 36 (aa 64) (aa 65) 36) 62 true,
 ae 67 (cX (aa 62) (aa 66) (aE (bK false))),
 ae 2 (aJ (aa 67))]
def NA:aC:=
 [ae 68 (bA 40 (aa 1) 2),
 ae 69 (aI 36 (aa 68)),
 ae 70 (kb 36 #[]),
 ae 71 (bh fL 36 (aa 69) (aa 70) 36),
 ae 2 (aJ (aa 71))]
def Nu:SC:=
 (.seq (.region Nv)
 (.seq (.seq (.draw Nw aek)
 (.cond (aa 36) (.seq (.region D1)
 .ret) .skip))
 (.seq (.region NB)
 (.seq (.region NC)
 (.seq (.region ND)
 (.seq (.seq (.region NF)
 (.cond (aa 42) (.seq (.region NG)
 .ret) .skip))
 (.seq (.seq (.region NH)
 (.block 0 (.seq (.region NI)
 (.cond (aa 45) (.seq (.region Nx)
 .ret) (.seq (.region Ny)
 (.cond (aa 56) (.seq (.region Nz)
 .ret) .skip))))))
 (.seq (.region NA)
 .ret))))))))
theorem aem:Tryz.prog.funcs[36]? =some Tryz.f36:=by kernel_rfl
theorem ael:(Tryz.f36.body).map cL=some Nu:=by kernel_rfl
theorem aeo:Tryz.f36.ntmps=72:=by kernel_rfl
theorem aen:Tryz.f36.results.toList=[dF 2]:=by kernel_rfl
theorem ZM:bI 36 1=0:=by kernel_rfl
theorem ZN:bI 36 3=0:=by kernel_rfl
theorem ZO:bI 36 4=0:=by kernel_rfl
def OY:aC:=
 [ae 2 (aJ (aE (jh {data:= #[] })))]
def OZ:aC:=
 [ae 4 (kb 150 #[(1,aE (jh {data:= #[110,111,100,101] })),(2,aE (jh {data:= #[119,97,121] })),(3,aE (jh {data:= #[97,114,101,97] })),(4,aE (jh {data:= #[114,111,117,116,101] })),(5,aE (jh {data:= #[116,117,114,110] }))]),
 ae 3 (eZ 150),
 ⟨none,dD 150 (aa 3) (aa 4),.aw⟩]
def O0:aC:=
 [ae 5 (ay (aa 0)),
 ae 6 (bh eh 3 (aa 5) (aE (bq br 0)) 3),
 ae 7 (ay (aa 6)),
 aM 8 (ay (aa 0)) 7 false,
 aM 9 (bh qI 3 (aa 8) (aE (bq br 6)) 3) 7 false,
 ae 10 (cX (aa 7) (aE (bK true)) (aa 9))]
def Ea:aC:=
 [ae 2 (aJ (aE (jh {data:= #[] })))]
def afr:aC:=
 [ae 11 (ay (aa 0)),
 ae 12 (dn 150 (aa 3) (aa 11)),
 ae 13 (aI 9 (aa 12)),
 ae 2 (aJ (aa 13))]
def OX:SC:=
 (.seq (.region OY)
 (.seq (.region OZ)
 (.seq (.seq (.region O0)
 (.cond (aa 10) (.seq (.region Ea)
 .ret) .skip))
 (.seq (.region afr)
 .ret))))
theorem afq:Tryz.prog.funcs[57]? =some Tryz.f57:=by kernel_rfl
theorem afp:(Tryz.f57.body).map cL=some OX:=by kernel_rfl
theorem aft:Tryz.f57.ntmps=14:=by kernel_rfl
theorem afs:Tryz.f57.results.toList=[dF 2]:=by kernel_rfl
theorem Z3:bI 57 3=1:=by kernel_rfl
def O2:aC:=
 [ae 2 (aJ (aE (bK false)))]
def O3:aC:=
 [ae 6 (aY ⟨bG (bM 89),#[],#[]⟩),
 ae 3 (eZ 151),
 ⟨none,dD 151 (aa 3) (aa 6),.aw⟩]
def O4:aC:=
 [ae 7 (ay (aa 0)),
 ae 8 (aY ⟨cG cW,#[aa 7],#[9]⟩),
 ae 9 (ay (aE (bq br 0)))]
def Eb:aC:=
 [ae 10 (bh eh 3 (aa 9) (aa 8) 3)]
def O5:aC:=
 [ae 11 (ay (aa 9)),
 ae 4 (aJ (aa 11))]
def O6:aC:=
 [ae 12 (ay (aa 0)),
 ae 13 (ay (aa 4)),
 ae 14 (Op.index 9 (aa 12) (aa 13)),
 ae 15 (dn 151 (aa 3) (aa 14)),
 ae 16 (aI 5 (aa 15)),
 ae 5 (aJ (aa 16))]
def O7:aC:=
 [ae 17 (ay (aa 5)),
 ae 18 (bh ij 5 (aa 17) (aE (bq IntKind.u8 3)) 5),
 ae 19 (ay (aa 18)),
 aM 20 (ay (aa 4)) 19 true,
 aM 21 (bh fL 3 (aa 20) (aE (bq br 0)) 3) 19 true,
 aM 22 (ay (aa 21)) 19 true,
 aM 23 (ay (aa 5)) 22 false,
 aM 24 (bh ij 5 (aa 23) (aE (bq IntKind.u8 4)) 5) 22 false,
 aM 25 (ay (aa 24)) 22 false,
 aM 26 (ay (aa 5)) 25 true,
 aM 27 (bh ij 5 (aa 26) (aE (bq IntKind.u8 5)) 5) 25 true,
 aM 28 (cX (aa 25) (aa 27) (aE (bK false))) 22 false,
 aM 29 (cX (aa 22) (aE (bK true)) (aa 28)) 19 true,
 ae 30 (cX (aa 19) (aa 29) (aE (bK false)))]
def Ec:aC:=
 [ae 2 (aJ (aE (bK false)))]
def zP:aC:=
 [ae 31 (bh d8 3 (aa 9) (aE (bq br 1)) 3),
 ae 9 (ay (aa 31))]
def zO:SC:=
 (.seq (.region Eb)
 (.seq (.cond (aa 10) .skip (.exit 0))
 (.seq (.block 1 (.seq (.region O5)
 (.seq (.region O6)
 (.seq (.region O7)
 (.cond (aa 30) (.seq (.region Ec)
 .ret) .skip)))))
 (.region zP))))
def O8:aC:=
 [ae 32 (ay (aa 0)),
 ae 33 (bh ij 9 (aa 32) (aE (jh {data:= #[] })) 9),
 ae 34 (ay (aa 33)),
 aM 35 (ay (aa 0)) 34 true,
 aM 36 (aY ⟨cG cW,#[aa 35],#[9]⟩) 34 true,
 aM 37 (bh BinOp.leq 3 (aa 36) (aE (bq br 24)) 3) 34 true,
 ae 38 (cX (aa 34) (aa 37) (aE (bK false))),
 ae 2 (aJ (aa 38))]
def O1:SC:=
 (.seq (.region O2)
 (.seq (.region O3)
 (.seq (.seq (.region O4)
 (.block 0 (.loop zO)))
 (.seq (.region O8)
 .ret))))
theorem afv:Tryz.prog.funcs[58]? =some Tryz.f58:=by kernel_rfl
theorem afu:(Tryz.f58.body).map cL=some O1:=by kernel_rfl
theorem afx:Tryz.f58.ntmps=39:=by kernel_rfl
theorem afw:Tryz.f58.results.toList=[dF 2]:=by kernel_rfl
theorem Z4:bI 58 3=1:=by kernel_rfl
def Pa:aC:=
 [ae 2 (aJ (aE (bK false)))]
def Pb:aC:=
 [ae 3 (aJ (aE (jh {data:= #[] })))]
def Pc:aC:=
 [ae 6 (ay (aa 0)),
 ae 7 (aY ⟨cG cW,#[aa 6],#[38]⟩),
 ae 8 (ay (aE (bq br 0)))]
def Ed:aC:=
 [ae 9 (bh eh 3 (aa 8) (aa 7) 3)]
def Pd:aC:=
 [ae 10 (dn 38 (aa 6) (aa 8)),
 ae 11 (aI 51 (aa 10)),
 ae 5 (eZ 51),
 ⟨none,dD 51 (aa 5) (aa 11),.aw⟩]
def Pe:aC:=
 [ae 12 (bA 51 (aa 5) 0),
 ae 13 (aI 9 (aa 12)),
 ae 14 (aY ⟨bG (bM 58),#[aa 13],#[9]⟩),
 ae 15 (fM UnOp.not 4 (aa 14)),
 ae 16 (ay (aa 15)),
 aM 17 (bA 51 (aa 5) 0) 16 false,
 aM 18 (aI 9 (aa 17)) 16 false,
 aM 19 (ay (aa 3)) 16 false,
 aM 20 (bh BinOp.leq 9 (aa 18) (aa 19) 9) 16 false,
 ae 21 (cX (aa 16) (aE (bK true)) (aa 20)),
 ae 22 (ay (aa 21)),
 aM 23 (bA 51 (aa 5) 1) 22 false,
 aM 24 (aI 9 (aa 23)) 22 false,
 aM 25 (bh fL 9 (aa 24) (aE (jh {data:= #[] })) 9) 22 false,
 ae 26 (cX (aa 22) (aE (bK true)) (aa 25)),
 ae 27 (ay (aa 26)),
 aM 28 (bA 51 (aa 5) 1) 27 false,
 aM 29 (aI 9 (aa 28)) 27 false,
 aM 30 (aY ⟨cG cW,#[aa 29],#[9]⟩) 27 false,
 aM 31 (bh oh 3 (aa 30) (aE (bq br 200)) 3) 27 false,
 ae 32 (cX (aa 27) (aE (bK true)) (aa 31))]
def Ee:aC:=
 [ae 2 (aJ (aE (bK false)))]
def Pf:aC:=
 [ae 33 (bA 51 (aa 5) 0),
 ae 34 (aI 9 (aa 33)),
 ae 3 (aJ (aa 34))]
def Pg:aC:=
 [ae 35 (bh d8 3 (aa 8) (aE (bq br 1)) 3),
 ae 8 (ay (aa 35))]
def zQ:SC:=
 (.seq (.region Ed)
 (.seq (.cond (aa 9) .skip (.exit 0))
 (.seq (.block 1 (.seq (.region Pd)
 (.seq (.seq (.region Pe)
 (.cond (aa 32) (.seq (.region Ee)
 .ret) .skip))
 (.region Pf))))
 (.region Pg))))
def Ph:aC:=
 [ae 36 (ay (aa 0)),
 ae 37 (aY ⟨cG cW,#[aa 36],#[38]⟩),
 ae 38 (bh BinOp.leq 3 (aa 37) (aE (bq br 60)) 3),
 ae 2 (aJ (aa 38))]
def O9:SC:=
 (.seq (.region Pa)
 (.seq (.region Pb)
 (.seq (.seq (.region Pc)
 (.block 0 (.loop zQ)))
 (.seq (.region Ph)
 .ret))))
theorem afz:Tryz.prog.funcs[59]? =some Tryz.f59:=by kernel_rfl
theorem afy:(Tryz.f59.body).map cL=some O9:=by kernel_rfl
theorem afB:Tryz.f59.ntmps=39:=by kernel_rfl
theorem afA:Tryz.f59.results.toList=[dF 2]:=by kernel_rfl
theorem Z5:bI 59 5=1:=by kernel_rfl
theorem IK:bI 59 30=0:=by kernel_rfl
def Pk:aC:=
 [ae 5 (aJ (aE (bK false)))]
def Pl:aC:=
 [ae 7 (bA 40 (aa 1) 1),
 ae 8 (aI 3 (aa 7)),
 ae 9 (bh fL 3 (aa 8) (aE (bq br 2)) 3),
 ae 10 (ay (aa 9)),
 aM 11 (ay (aa 0)) 10 true,
 aM 12 (aI 9 (aa 2)) 10 true,
 aM 13 (bh fL 9 (aa 11) (aa 12) 9) 10 true,
 ae 14 (cX (aa 10) (aa 13) (aE (bK false))),
 ae 15 (ay (aa 14)),
 aM 16 (bA 40 (aa 1) 1) 15 false,
 aM 17 (aI 3 (aa 16)) 15 false,
 aM 18 (bh fL 3 (aa 17) (aE (bq br 3)) 3) 15 false,
 aM 19 (ay (aa 18)) 15 false,
 aM 20 (aI 109 (aa 3)) 19 true,
 aM 21 (ay (aa 0)) 19 true,
 aM 22 (nu 109 (aa 20) (aa 21) false) 19 true,
 aM 23 (cX (aa 19) (aa 22) (aE (bK false))) 15 false,
 ae 24 (cX (aa 15) (aE (bK true)) (aa 23)),
 ae 6 (aJ (aa 24))]
def Ef:aC:=
 [ae 25 (aI 109 (aa 3)),
 ae 26 (ay (aa 0)),
 ae 27 (ay (aa 0)),
 ⟨none,uH 109 (aa 25) (aa 26) (aE (bK true)),.aw⟩,
 ⟨none,dD 9 (aa 2) (aa 27),.aw⟩]
def Eg:aC:=
 [ae 28 (ay (aa 6)),
 ae 29 (ay (aa 28)),
 aM 30 (ay (aa 0)) 29 false,
 aM 31 (aY ⟨bG (bM 58),#[aa 30],#[9]⟩) 29 false,
 aM 32 (fM UnOp.not 4 (aa 31)) 29 false,
 ae 33 (cX (aa 29) (aE (bK true)) (aa 32)),
 ae 5 (aJ (aa 33))]
def Pj:SC:=
 (.seq (.region Pk)
 (.seq (.region Pl)
 (.seq (.region Ef)
 (.seq (.region Eg)
 .ret))))
theorem afX:Tryz.prog.funcs[61]? =some Tryz.f61:=by kernel_rfl
theorem afW:(Tryz.f61.body).map cL=some Pj:=by kernel_rfl
theorem afZ:Tryz.f61.ntmps=34:=by kernel_rfl
theorem afY:Tryz.f61.results.toList=[dF 5]:=by kernel_rfl
def Pn:aC:=
 [ae 4 (aJ (aE (bK false)))]
def Po:aC:=
 [ae 5 (ay (aa 0)),
 ae 6 (ay (aa 1)),
 ae 7 (aY ⟨bG (bM 90),#[aa 5,aa 6],#[37,101]⟩),
 ae 8 (bh qI 3 (aa 7) (aE (bq br 0)) 3),
 ae 4 (aJ (aa 8))]
def Pm:SC:=
 (.seq (.region Pn)
 (.seq (.region Po)
 .ret))
theorem af3:Tryz.prog.funcs[62]? =some Tryz.f62:=by kernel_rfl
theorem af0:(Tryz.f62.body).map cL=some Pm:=by kernel_rfl
theorem af5:Tryz.f62.ntmps=9:=by kernel_rfl
theorem af4:Tryz.f62.results.toList=[dF 4]:=by kernel_rfl
def Pq:aC:=
 [ae 1 (e7 36 (aa 0)),
 ae 2 (aJ (aE (bK false)))]
def Pr:aC:=
 [ae 3 (bA 36 (aa 1) 0),
 ae 4 (aI 3 (aa 3)),
 ae 5 (bh qI 3 (aa 4) (aE (bq br 0)) 3),
 ae 6 (ay (aa 5)),
 aM 7 (bA 36 (aa 1) 0) 6 true,
 aM 8 (aI 3 (aa 7)) 6 true,
 aM 9 (bh eh 3 (aa 8) (aE (bq br 1048576)) 3) 6 true,
 ae 10 (cX (aa 6) (aa 9) (aE (bK false))),
 ae 11 (ay (aa 10)),
 aM 12 (bA 36 (aa 1) 1) 11 true,
 aM 13 (aI 3 (aa 12)) 11 true,
 aM 14 (bh qI 3 (aa 13) (aE (bq br 0)) 3) 11 true,
 ae 15 (cX (aa 11) (aa 14) (aE (bK false))),
 ae 16 (ay (aa 15)),
 aM 17 (bA 36 (aa 1) 1) 16 true,
 aM 18 (aI 3 (aa 17)) 16 true,
 aM 19 (bh eh 3 (aa 18) (aE (bq br 1048576)) 3) 16 true,
 ae 20 (cX (aa 16) (aa 19) (aE (bK false))),
 ae 2 (aJ (aa 20))]
def Pp:SC:=
 (.seq (.region Pq)
 (.seq (.region Pr)
 .ret))
theorem af7:Tryz.prog.funcs[63]? =some Tryz.f63:=by kernel_rfl
theorem af6:(Tryz.f63.body).map cL=some Pp:=by kernel_rfl
theorem af9:Tryz.f63.ntmps=21:=by kernel_rfl
theorem af8:Tryz.f63.results.toList=[dF 2]:=by kernel_rfl
theorem Z6:bI 63 1=1:=by kernel_rfl
def QI:aC:=
 [ae 4 (aJ (aE (bq br 0)))]
def QJ:aC:=
 [ae 6 (ay (aa 0)),
 ae 7 (aY ⟨cG cW,#[aa 6],#[37]⟩),
 ae 8 (ay (aE (bq br 0)))]
def EK:aC:=
 [ae 9 (bh eh 3 (aa 8) (aa 7) 3)]
def QK:aC:=
 [ae 10 (ay (aa 8)),
 ae 5 (aJ (aa 10))]
def QL:aC:=
 [ae 11 (ay (aa 1)),
 ae 12 (ay (aa 0)),
 ae 13 (ay (aa 5)),
 ae 14 (dn 37 (aa 12) (aa 13)),
 ae 15 (aI 9 (aa 14)),
 ae 16 (aY ⟨bG (aa 11),#[aa 15],#[9]⟩)]
def QN:aC:=
 [ae 17 (ay (aa 5)),
 ae 4 (aJ (aa 17))]
def QO:aC:=
 [ae 18 (bh d8 3 (aa 8) (aE (bq br 1)) 3),
 ae 8 (ay (aa 18))]
def zY:SC:=
 (.seq (.region EK)
 (.seq (.cond (aa 9) .skip (.exit 0))
 (.seq (.block 1 (.seq (.region QK)
 (.seq (.region QL)
 (.cond (aa 16) (.seq (.region QN)
 .ret) .skip))))
 (.region QO))))
def QP:aC:=
 [ae 4 (aJ (aE (bq br (-1))))]
def QG:SC:=
 (.seq (.region QI)
 (.seq (.seq (.region QJ)
 (.block 0 (.loop zY)))
 (.seq (.region QP)
 .ret)))
theorem ahc:Tryz.prog.funcs[90]? =some Tryz.f90:=by kernel_rfl
theorem ahb:(Tryz.f90.body).map cL=some QG:=by kernel_rfl
theorem ahe:Tryz.f90.ntmps=19:=by kernel_rfl
theorem ahd:Tryz.f90.results.toList=[dF 4]:=by kernel_rfl
def KT:aC:=
 [ae 2 (e7 40 (aa 0)),
 ae 3 (e7 40 (aa 1)),
 ae 4 (aJ (aE (bK false)))]
def KU:aC:=
 [ae 5 (bA 40 (aa 2) 0),
 ae 6 (aI 9 (aa 5)),
 ae 7 (bA 40 (aa 3) 0),
 ae 8 (aI 9 (aa 7)),
 ae 9 (bh fL 9 (aa 6) (aa 8) 9),
 ae 10 (ay (aa 9)),
 aM 11 (bA 40 (aa 2) 1) 10 true,
 aM 12 (aI 3 (aa 11)) 10 true,
 aM 13 (bA 40 (aa 3) 1) 10 true,
 aM 14 (aI 3 (aa 13)) 10 true,
 aM 15 (bh fL 3 (aa 12) (aa 14) 3) 10 true,
 ae 16 (cX (aa 10) (aa 15) (aE (bK false))),
 ae 17 (ay (aa 16)),
 aM 18 (bA 40 (aa 2) 2) 17 true,
 aM 19 (aI 36 (aa 18)) 17 true,
 aM 20 (bA 40 (aa 3) 2) 17 true,
 aM 21 (aI 36 (aa 20)) 17 true,
 aM 22 (bh fL 36 (aa 19) (aa 21) 36) 17 true,
 ae 23 (cX (aa 17) (aa 22) (aE (bK false))),
 ae 24 (ay (aa 23)),
 aM 25 (bA 40 (aa 2) 3) 24 true,
 aM 26 (aI 37 (aa 25)) 24 true,
 aM 27 (bA 40 (aa 3) 3) 24 true,
 aM 28 (aI 37 (aa 27)) 24 true,
 aM 29 (aY ⟨bG (bM 37),#[aa 26,aa 28],#[37,37]⟩) 24 true,
 ae 30 (cX (aa 24) (aa 29) (aE (bK false))),
 ae 31 (ay (aa 30)),
 aM 32 (bA 40 (aa 2) 4) 31 true,
 aM 33 (aI 38 (aa 32)) 31 true,
 aM 34 (bA 40 (aa 3) 4) 31 true,
 aM 35 (aI 38 (aa 34)) 31 true,
 aM 36 (aY ⟨bG (bM 38),#[aa 33,aa 35],#[38,38]⟩) 31 true,
 ae 37 (cX (aa 31) (aa 36) (aE (bK false))),
 ae 4 (aJ (aa 37))]
def KS:SC:=
 (.seq (.region KT)
 (.seq (.region KU)
 .ret))
theorem acD:Tryz.prog.funcs[16]? =some Tryz.f16:=by kernel_rfl
theorem acC:(Tryz.f16.body).map cL=some KS:=by kernel_rfl
theorem acF:Tryz.f16.ntmps=38:=by kernel_rfl
theorem acE:Tryz.f16.results.toList=[dF 4]:=by kernel_rfl
theorem Zq:bI 16 2=1:=by kernel_rfl
theorem Zr:bI 16 3=1:=by kernel_rfl
def aep:List Nat:=[0,0,3,7,0,0,48,112,255]
def NK:aC:=
 [ae 4 (aJ (aE (bK false)))]
def NL:aC:=
 [ae 6 (ay (aa 0)),
 ae 7 (aY ⟨cG cW,#[aa 6],#[37]⟩),
 ae 8 (ay (aa 1)),
 ae 9 (aY ⟨cG cW,#[aa 8],#[37]⟩),
 ae 10 (bh ij 3 (aa 7) (aa 9) 3)]
def NM:aC:=
 [ae 4 (aJ (aE (bK false)))]
def NN:aC:=
 [ae 11 (ay (aa 0)),
 ae 12 (aY ⟨cG cW,#[aa 11],#[37]⟩),
 ae 13 (ay (aE (bq br 0)))]
def D2:aC:=
 [ae 14 (bh eh 3 (aa 13) (aa 12) 3)]
def NP:aC:=
 [ae 15 (ay (aa 13)),
 ae 5 (aJ (aa 15))]
def NQ:aC:=
 [ae 16 (ay (aa 0)),
 ae 17 (ay (aa 5)),
 ae 18 (dn 37 (aa 16) (aa 17)),
 ae 19 (aI 9 (aa 18)),
 ae 20 (ay (aa 1)),
 ae 21 (ay (aa 5)),
 ae 22 (dn 37 (aa 20) (aa 21)),
 ae 23 (aI 9 (aa 22)),
 ae 24 (bh ij 9 (aa 19) (aa 23) 9)]
def NR:aC:=
 [ae 4 (aJ (aE (bK false)))]
def NS:aC:=
 [ae 25 (bh d8 3 (aa 13) (aE (bq br 1)) 3),
 ae 13 (ay (aa 25))]
def zC:SC:=
 (.seq (.region D2)
 (.seq (.cond (aa 14) .skip (.exit 0))
 (.seq (.block 1 (.seq (.region NP)
 (.seq (.draw NQ aep)
 (.cond (aa 24) (.seq (.region NR)
 .ret) .skip))))
 (.region NS))))
def NT:aC:=
 [ae 4 (aJ (aE (bK true)))]
def NJ:SC:=
 (.seq (.region NK)
 (.seq (.seq (.region NL)
 (.cond (aa 10) (.seq (.region NM)
 .ret) .skip))
 (.seq (.seq (.region NN)
 (.block 0 (.loop zC)))
 (.seq (.region NT)
 .ret))))
theorem aer:Tryz.prog.funcs[37]? =some Tryz.f37:=by kernel_rfl
theorem aeq:(Tryz.f37.body).map cL=some NJ:=by kernel_rfl
theorem aet:Tryz.f37.ntmps=26:=by kernel_rfl
theorem aes:Tryz.f37.results.toList=[dF 4]:=by kernel_rfl
theorem ZQ:bI 37 7=0:=by kernel_rfl
theorem ZR:bI 37 9=0:=by kernel_rfl
theorem ZP:bI 37 12=0:=by kernel_rfl
def aeu:List Nat:=[0,0,3,7,0,0,48,112,255]
def NV:aC:=
 [ae 4 (aJ (aE (bK false)))]
def NW:aC:=
 [ae 6 (ay (aa 0)),
 ae 7 (aY ⟨cG cW,#[aa 6],#[38]⟩),
 ae 8 (ay (aa 1)),
 ae 9 (aY ⟨cG cW,#[aa 8],#[38]⟩),
 ae 10 (bh ij 3 (aa 7) (aa 9) 3)]
def NX:aC:=
 [ae 4 (aJ (aE (bK false)))]
def NY:aC:=
 [ae 11 (ay (aa 0)),
 ae 12 (aY ⟨cG cW,#[aa 11],#[38]⟩),
 ae 13 (ay (aE (bq br 0)))]
def D3:aC:=
 [ae 14 (bh eh 3 (aa 13) (aa 12) 3)]
def NZ:aC:=
 [ae 15 (ay (aa 13)),
 ae 5 (aJ (aa 15))]
def N0:aC:=
 [ae 16 (ay (aa 0)),
 ae 17 (ay (aa 5)),
 ae 18 (dn 38 (aa 16) (aa 17)),
 ae 19 (aI 51 (aa 18)),
 ae 20 (ay (aa 1)),
 ae 21 (ay (aa 5)),
 ae 22 (dn 38 (aa 20) (aa 21)),
 ae 23 (aI 51 (aa 22)),
 ae 24 (bh ij 51 (aa 19) (aa 23) 51)]
def N4:aC:=
 [ae 4 (aJ (aE (bK false)))]
def N5:aC:=
 [ae 25 (bh d8 3 (aa 13) (aE (bq br 1)) 3),
 ae 13 (ay (aa 25))]
def zD:SC:=
 (.seq (.region D3)
 (.seq (.cond (aa 14) .skip (.exit 0))
 (.seq (.block 1 (.seq (.region NZ)
 (.seq (.draw N0 aeu)
 (.cond (aa 24) (.seq (.region N4)
 .ret) .skip))))
 (.region N5))))
def N6:aC:=
 [ae 4 (aJ (aE (bK true)))]
def NU:SC:=
 (.seq (.region NV)
 (.seq (.seq (.region NW)
 (.cond (aa 10) (.seq (.region NX)
 .ret) .skip))
 (.seq (.seq (.region NY)
 (.block 0 (.loop zD)))
 (.seq (.region N6)
 .ret))))
theorem aew:Tryz.prog.funcs[38]? =some Tryz.f38:=by kernel_rfl
theorem aev:(Tryz.f38.body).map cL=some NU:=by kernel_rfl
theorem aey:Tryz.f38.ntmps=26:=by kernel_rfl
theorem aex:Tryz.f38.results.toList=[dF 4]:=by kernel_rfl
theorem ZT:bI 38 7=0:=by kernel_rfl
theorem ZU:bI 38 9=0:=by kernel_rfl
theorem ZS:bI 38 12=0:=by kernel_rfl
def Ml:aC:=
 [ae 1 (e7 24 (aa 0)),
 ae 2 (aJ (aE (Value.map none)))]
def Mm:aC:=
 [ae 6 (bA 24 (aa 1) 0),
 ae 7 (aI 22 (aa 6)),
 ae 8 (aY ⟨cG cW,#[aa 7],#[22]⟩),
 ae 9 (Op.makeMap 61 (some (aa 8))),
 ae 3 (aJ (aa 9))]
def Mn:aC:=
 [ae 10 (bA 24 (aa 1) 0),
 ae 11 (aI 22 (aa 10)),
 ae 12 (aY ⟨cG cW,#[aa 11],#[22]⟩),
 ae 13 (ay (aE (bq br 0)))]
def DM:aC:=
 [ae 14 (bh eh 3 (aa 13) (aa 12) 3)]
def Mo:aC:=
 [ae 15 (dn 22 (aa 11) (aa 13)),
 ae 16 (aI 40 (aa 15)),
 ae 5 (eZ 40),
 ⟨none,dD 40 (aa 5) (aa 16),.aw⟩]
def Mp:aC:=
 [ae 17 (ay (aa 3)),
 ae 18 (bA 40 (aa 5) 0),
 ae 19 (aI 9 (aa 18)),
 ⟨none,uH 61 (aa 17) (aa 19) (aa 5),.aw⟩]
def Mq:aC:=
 [ae 20 (bh d8 3 (aa 13) (aE (bq br 1)) 3),
 ae 13 (ay (aa 20))]
def vr:SC:=
 (.seq (.region DM)
 (.seq (.cond (aa 14) .skip (.exit 0))
 (.seq (.block 1 (.seq (.region Mo)
 (.region Mp)))
 (.region Mq))))
def Mr:aC:=
 [ae 21 (ay (aa 3)),
 ae 2 (aJ (aa 21))]
def Ma:SC:=
 (.seq (.region Ml)
 (.seq (.region Mm)
 (.seq (.seq (.region Mn)
 (.block 0 (.loop vr)))
 (.seq (.region Mr)
 .ret))))
theorem adv:Tryz.prog.funcs[23]? =some Tryz.f23:=by kernel_rfl
theorem adu:(Tryz.f23.body).map cL=some Ma:=by kernel_rfl
theorem adx:Tryz.f23.ntmps=22:=by kernel_rfl
theorem adw:Tryz.f23.results.toList=[dF 2]:=by kernel_rfl
theorem Zz:bI 23 1=1:=by kernel_rfl
theorem ZB:bI 23 5=0:=by kernel_rfl
theorem ZC:bI 23 8=0:=by kernel_rfl
theorem ZA:bI 23 12=0:=by kernel_rfl
def ady:List Nat:=[0,1,3,7,0,31,0,64,192,448,0,1984,0,4096,12288,28672,0,126976,63,266239,1048575]
def Mt:List Nat:=[0,1,3,7,15,31,63,127,255,511,1023,2047,4095,8191,16383,2047,34815,100351,231423,524287,1048575,2097151,4194303,8388607,16777215,33554431,4194303,71303167,205520895,473956351,1073741823,2147483647,4294967295]
def Mu:aC:=
 [ae 4 (aJ (aE (lY none)))]
def Mv:aC:=
 [ae 8 (ay (aa 0)),
 ae 9 (dE (aa 8)),
 ae 10 (bA 65 (aa 9) 0),
 ae 11 (aI 61 (aa 10)),
 ae 12 (ay (aa 1)),
 ae 13 (nu 61 (aa 11) (aa 12) false),
 ae 14 (ay (aa 0)),
 ae 15 (dE (aa 14)),
 ae 16 (bA 65 (aa 15) 1),
 ae 17 (aI 61 (aa 16)),
 ae 18 (ay (aa 1)),
 ae 19 (nu 61 (aa 17) (aa 18) false),
 ae 20 (ay (aa 0)),
 ae 21 (dE (aa 20)),
 ae 22 (bA 65 (aa 21) 2),
 ae 23 (aI 61 (aa 22)),
 ae 24 (ay (aa 1)),
 ae 25 (nu 61 (aa 23) (aa 24) false),
 ae 5 (aJ (aa 13)),
 ae 6 (aJ (aa 19)),
 ae 7 (aJ (aa 25))]
def Mw:aC:=
 [ae 27 (ay (aa 6)),
 ae 28 (ay (aa 7)),
 ae 29 (aY ⟨bG (bM 43),#[aa 27,aa 28],#[67,67]⟩),
 ae 26 (aJ (aa 29))]
def Mx:aC:=
 [ae 30 (ay (aa 7)),
 ae 31 (ay (aa 5)),
 ae 32 (aY ⟨bG (bM 43),#[aa 30,aa 31],#[67,67]⟩),
 ae 26 (aJ (aa 32))]
def DP:aC:=
 [ae 33 (ay (aa 6)),
 ae 4 (aJ (aa 33))]
def My:aC:=
 [ae 35 (ay (aa 6)),
 ae 36 (ay (aa 5)),
 ae 37 (aY ⟨bG (bM 43),#[aa 35,aa 36],#[67,67]⟩),
 ae 34 (aJ (aa 37))]
def Mz:aC:=
 [ae 38 (ay (aa 7)),
 ae 4 (aJ (aa 38))]
def DQ:aC:=
 [ae 40 (ay (aa 6)),
 ae 41 (bh ij 67 (aa 40) (aE (lY none)) 67),
 ae 42 (ay (aa 41)),
 aM 43 (ay (aa 7)) 42 true,
 aM 44 (bh ij 67 (aa 43) (aE (lY none)) 67) 42 true,
 ae 45 (cX (aa 42) (aa 44) (aE (bK false))),
 ae 46 (ay (aa 45)),
 aM 47 (ay (aa 5)) 46 true,
 aM 48 (bh ij 67 (aa 47) (aE (lY none)) 67) 46 true,
 ae 49 (cX (aa 46) (aa 48) (aE (bK false))),
 ae 50 (ay (aa 49)),
 aM 51 (ay (aa 6)) 50 true,
 aM 52 (dE (aa 51)) 50 true,
 aM 53 (bA 40 (aa 52) 1) 50 true,
 aM 54 (aI 3 (aa 53)) 50 true,
 aM 55 (ay (aa 5)) 50 true,
 aM 56 (dE (aa 55)) 50 true,
 aM 57 (bA 40 (aa 56) 1) 50 true,
 aM 58 (aI 3 (aa 57)) 50 true,
 aM 59 (bh fL 3 (aa 54) (aa 58) 3) 50 true,
 ae 60 (cX (aa 50) (aa 59) (aE (bK false))),
 ae 61 (ay (aa 60)),
 aM 62 (ay (aa 7)) 61 true,
 aM 63 (dE (aa 62)) 61 true,
 aM 64 (bA 40 (aa 63) 1) 61 true,
 aM 65 (aI 3 (aa 64)) 61 true,
 aM 66 (ay (aa 5)) 61 true,
 aM 67 (dE (aa 66)) 61 true,
 aM 68 (bA 40 (aa 67) 1) 61 true,
 aM 69 (aI 3 (aa 68)) 61 true,
 aM 70 (bh fL 3 (aa 65) (aa 69) 3) 61 true,
 ae 71 (cX (aa 61) (aa 70) (aE (bK false))),
 ae 39 (aJ (aa 71))]
def DR:aC:=
 [ae 72 (ay (aa 0)),
 ae 73 (ay (aa 5)),
 ae 74 (ay (aa 6)),
 ae 75 (ay (aa 7)),
 ae 76 (aY ⟨bG (bM 44),#[aa 72,aa 73,aa 74,aa 75],#[60,67,67,67]⟩),
 ae 4 (aJ (aa 76))]
def DS:aC:=
 [ae 77 (ay (aa 0)),
 ae 78 (ay (aa 1)),
 ae 79 (aY {callee:=bG (bM 45),args:= #[aa 77,aa 78,aE (jh {data:= #[111,98,106,101,99,116] })],argTypes:= #[60,9,9] })]
def DN:aC:=
 [ae 80 (ay (aa 6)),
 ae 81 (ay (aa 7)),
 ae 82 (aY ⟨bG (bM 46),#[aa 80,aa 81],#[67,67]⟩),
 ae 4 (aJ (aa 82))]
def Ms:SC:=
 (.seq (.region Mu)
 (.seq (.draw Mv ady)
 (.seq (.block 0 (.seq (.seq (.region Mw)
 (.cond (aa 26) .skip (.region Mx)))
 (.cond (aa 26) (.seq (.region DP)
 .ret) (.seq (.region My)
 (.cond (aa 34) (.seq (.region Mz)
 .ret) (.seq (.draw DQ Mt)
 (.cond (aa 39) (.seq (.region DR)
 .ret) .skip)))))))
 (.seq (.region DS)
 (.seq (.region DN)
 .ret)))))
theorem adA:Tryz.prog.funcs[24]? =some Tryz.f24:=by kernel_rfl
theorem adz:(Tryz.f24.body).map cL=some Ms:=by kernel_rfl
theorem adC:Tryz.f24.ntmps=83:=by kernel_rfl
theorem adB:Tryz.f24.results.toList=[dF 4]:=by kernel_rfl
def aeF:List Nat:=[0,1,3,0,8,24,63,127]
def Og:aC:=
 [ae 4 (aJ (aE (bK false)))]
def Oh:aC:=
 [ae 5 (ay (aa 0)),
 ae 6 (bh fL 67 (aa 5) (aE (lY none)) 67),
 ae 7 (ay (aa 6)),
 aM 8 (ay (aa 1)) 7 false,
 aM 9 (bh fL 67 (aa 8) (aE (lY none)) 67) 7 false,
 ae 10 (cX (aa 7) (aE (bK true)) (aa 9))]
def zF:aC:=
 [ae 11 (ay (aa 0)),
 ae 12 (ay (aa 1)),
 ae 13 (bh fL 67 (aa 11) (aa 12) 67),
 ae 4 (aJ (aa 13))]
def Oi:aC:=
 [ae 14 (ay (aa 0)),
 ae 15 (dE (aa 14)),
 ae 16 (aI 40 (aa 15)),
 ae 17 (ay (aa 1)),
 ae 18 (dE (aa 17)),
 ae 19 (aI 40 (aa 18)),
 ae 20 (aY ⟨bG (bM 16),#[aa 16,aa 19],#[40,40]⟩),
 ae 4 (aJ (aa 20))]
def Oe:SC:=
 (.seq (.region Og)
 (.seq (.seq (.region Oh)
 (.cond (aa 10) (.seq (.region zF)
 .ret) .skip))
 (.seq (.draw Oi aeF)
 .ret)))
theorem aeH:Tryz.prog.funcs[43]? =some Tryz.f43:=by kernel_rfl
theorem aeG:(Tryz.f43.body).map cL=some Oe:=by kernel_rfl
theorem aeJ:Tryz.f43.ntmps=21:=by kernel_rfl
theorem aeI:Tryz.f43.results.toList=[dF 4]:=by kernel_rfl
def OA:aC:=
 [ae 6 (ay (aa 0)),
 ae 7 (dE (aa 6)),
 ae 8 (bA 65 (aa 7) 4),
 ae 9 (aI 63 (aa 8)),
 ae 10 (ay (aa 1)),
 ae 11 (ay (aa 2)),
 ae 12 (kb 31 #[(0,aa 10),(1,aa 11)]),
 ⟨none,uH 63 (aa 9) (aa 12) (aE (bK true)),.aw⟩]
def Oz:SC:=
 (.region OA)
theorem aeQ:Tryz.prog.funcs[45]? =some Tryz.f45:=by kernel_rfl
theorem aeP:(Tryz.f45.body).map cL=some Oz:=by kernel_rfl
theorem aeS:Tryz.f45.ntmps=13:=by kernel_rfl
theorem aeR:Tryz.f45.results.toList=[]:=by kernel_rfl
def OC:aC:=
 [ae 4 (aJ (aE (lY none)))]
def zL:aC:=
 [ae 5 (ay (aa 0)),
 ae 6 (bh fL 67 (aa 5) (aE (lY none)) 67),
 ae 7 (ay (aa 6)),
 aM 8 (ay (aa 1)) 7 false,
 aM 9 (bh ij 67 (aa 8) (aE (lY none)) 67) 7 false,
 aM 10 (ay (aa 9)) 7 false,
 aM 11 (ay (aa 1)) 10 true,
 aM 12 (ay (aa 0)) 10 true,
 aM 13 (aY ⟨bG (bM 77),#[aa 11,aa 12],#[67,67]⟩) 10 true,
 aM 14 (bh eh 3 (aa 13) (aE (bq br 0)) 3) 10 true,
 aM 15 (cX (aa 10) (aa 14) (aE (bK false))) 7 false,
 ae 16 (cX (aa 7) (aE (bK true)) (aa 15))]
def D8:aC:=
 [ae 17 (ay (aa 1)),
 ae 4 (aJ (aa 17))]
def D9:aC:=
 [ae 18 (ay (aa 0)),
 ae 4 (aJ (aa 18))]
def OB:SC:=
 (.seq (.region OC)
 (.seq (.seq (.region zL)
 (.cond (aa 16) (.seq (.region D8)
 .ret) .skip))
 (.seq (.region D9)
 .ret)))
theorem aeU:Tryz.prog.funcs[46]? =some Tryz.f46:=by kernel_rfl
theorem aeT:(Tryz.f46.body).map cL=some OB:=by kernel_rfl
theorem aeW:Tryz.f46.ntmps=19:=by kernel_rfl
theorem aeV:Tryz.f46.results.toList=[dF 4]:=by kernel_rfl
def MJ:List Nat:=[0,1,3,7,0,31,0,64,192,448,0,1984,4095,8191]
def MM:aC:=
 [ae 7 (ay (aa 1)),
 ae 8 (dE (aa 7)),
 ae 9 (bA 40 (aa 8) 3),
 ae 10 (aI 37 (aa 9)),
 ae 11 (aY ⟨cG cW,#[aa 10],#[37]⟩),
 ae 12 (ay (aE (bq br 0)))]
def DT:aC:=
 [ae 13 (bh eh 3 (aa 12) (aa 11) 3)]
def MN:aC:=
 [ae 14 (dn 37 (aa 10) (aa 12)),
 ae 15 (aI 9 (aa 14)),
 ae 5 (aJ (aa 15))]
def MO:aC:=
 [ae 16 (ay (aa 0)),
 ae 17 (dE (aa 16)),
 ae 18 (bA 65 (aa 17) 3),
 ae 19 (aI 61 (aa 18)),
 ae 20 (ay (aa 5)),
 ae 21 (nu 61 (aa 19) (aa 20) false),
 ae 22 (bh ij 67 (aa 21) (aE (lY none)) 67)]
def MP:aC:=
 [ae 23 (ay (aa 0)),
 ae 24 (dE (aa 23)),
 ae 25 (bA 65 (aa 24) 0),
 ae 26 (aI 61 (aa 25)),
 ae 27 (ay (aa 5)),
 ae 28 (nu 61 (aa 26) (aa 27) false),
 ae 6 (aJ (aa 28))]
def MQ:aC:=
 [ae 29 (ay (aa 6)),
 ae 30 (bh fL 67 (aa 29) (aE (lY none)) 67)]
def vu:aC:=
 [ae 31 (ay (aa 0)),
 ae 32 (dE (aa 31)),
 ae 33 (bA 65 (aa 32) 1),
 ae 34 (aI 61 (aa 33)),
 ae 35 (ay (aa 5)),
 ae 36 (nu 61 (aa 34) (aa 35) false),
 ae 37 (ay (aa 0)),
 ae 38 (dE (aa 37)),
 ae 39 (bA 65 (aa 38) 2),
 ae 40 (aI 61 (aa 39)),
 ae 41 (ay (aa 5)),
 ae 42 (nu 61 (aa 40) (aa 41) false),
 ae 43 (aY ⟨bG (bM 46),#[aa 36,aa 42],#[67,67]⟩),
 ae 6 (aJ (aa 43))]
def DV:aC:=
 [ae 44 (ay (aa 6)),
 ae 45 (bh ij 67 (aa 44) (aE (lY none)) 67)]
def DW:aC:=
 [ae 46 (ay (aa 0)),
 ae 47 (dE (aa 46)),
 ae 48 (bA 65 (aa 47) 3),
 ae 49 (aI 61 (aa 48)),
 ae 50 (ay (aa 5)),
 ae 51 (ay (aa 6)),
 ⟨none,uH 61 (aa 49) (aa 50) (aa 51),.aw⟩]
def DX:aC:=
 [ae 52 (ay (aa 0)),
 ae 53 (ay (aa 5)),
 ae 54 (aY {callee:=bG (bM 45),args:= #[aa 52,aa 53,aE (jh {data:= #[111,98,106,101,99,116] })],argTypes:= #[60,9,9] })]
def DU:aC:=
 [ae 55 (ay (aa 0)),
 ae 56 (ay (aa 6)),
 ae 57 (aY ⟨bG (bM 27),#[aa 55,aa 56],#[60,67]⟩)]
def zy:aC:=
 [ae 58 (bh d8 3 (aa 12) (aE (bq br 1)) 3),
 ae 12 (ay (aa 58))]
def xr:SC:=
 (.seq (.region DT)
 (.seq (.cond (aa 13) .skip (.exit 0))
 (.seq (.block 1 (.seq (.region MN)
 (.seq (.seq (.region MO)
 (.cond (aa 22) (.exit 1) .skip))
 (.seq (.region MP)
 (.seq (.seq (.region MQ)
 (.cond (aa 30) (.draw vu MJ) .skip))
 (.seq (.region DV)
 (.cond (aa 45) (.seq (.region DW)
 (.seq (.region DX)
 (.region DU))) .skip)))))))
 (.region zy))))
def MI:SC:=
 (.seq (.region MM)
 (.block 0 (.loop xr)))
theorem adN:Tryz.prog.funcs[27]? =some Tryz.f27:=by kernel_rfl
theorem adM:(Tryz.f27.body).map cL=some MI:=by kernel_rfl
theorem adP:Tryz.f27.ntmps=59:=by kernel_rfl
theorem adO:Tryz.f27.results.toList=[]:=by kernel_rfl
theorem ZE:bI 27 11=0:=by kernel_rfl
def EL:List Nat:=[0,1,0,7,0,31,0,0,255,511,1023]
def ahg:List Nat:=[0,1,3,7,0,16,48,112,0,256,768,1792,4095,8191,0]
def ahf:List Nat:=[0,1,0,4,12,28,0,124,252,508,1020,2047,4095,8191]
def EM:aC:=
 [ae 3 (e7 24 (aa 0)),
 ae 4 (e7 24 (aa 1)),
 ae 5 (e7 24 (aa 2)),
 ae 6 (eZ 24),
 ae 7 (aJ (aE (iM none 0 0)))]
def EN:aC:=
 [ae 19 (aI 24 (aa 3)),
 ae 20 (aY ⟨bG (bM 13),#[aa 19],#[24]⟩),
 ae 21 (fM UnOp.not 4 (aa 20)),
 ae 22 (ay (aa 21)),
 aM 23 (aI 24 (aa 4)) 22 false,
 aM 24 (aY ⟨bG (bM 13),#[aa 23],#[24]⟩) 22 false,
 aM 25 (fM UnOp.not 4 (aa 24)) 22 false,
 ae 26 (cX (aa 22) (aE (bK true)) (aa 25)),
 ae 27 (ay (aa 26)),
 aM 28 (aI 24 (aa 5)) 27 false,
 aM 29 (aY ⟨bG (bM 13),#[aa 28],#[24]⟩) 27 false,
 aM 30 (fM UnOp.not 4 (aa 29)) 27 false,
 ae 31 (cX (aa 27) (aE (bK true)) (aa 30))]
def EP:aC:=
 [ae 32 (kb 24 #[]),
 ⟨none,dD 24 (aa 6) (aa 32),.aw⟩,
 ae 7 (aJ (aE (iM none 0 0)))]
def ET:aC:=
 [ae 33 (aI 24 (aa 3)),
 ae 34 (aY ⟨bG (bM 23),#[aa 33],#[24]⟩),
 ae 35 (aI 24 (aa 4)),
 ae 36 (aY ⟨bG (bM 23),#[aa 35],#[24]⟩),
 ae 37 (aI 24 (aa 5)),
 ae 38 (aY ⟨bG (bM 23),#[aa 37],#[24]⟩),
 ae 39 (Op.makeMap 61 none),
 ae 40 (Op.makeMap 63 none),
 ae 41 (kb 65 #[(0,aa 34),(1,aa 36),(2,aa 38),(3,aa 39),(4,aa 40)]),
 ae 42 (e7 65 (aa 41)),
 ae 8 (aJ (aa 42))]
def Rc:aC:=
 [ae 43 (ay (aa 8)),
 ae 44 (dE (aa 43)),
 ae 45 (bA 65 (aa 44) 0),
 ae 46 (aI 61 (aa 45)),
 ae 47 (ay (aa 8)),
 ae 48 (dE (aa 47)),
 ae 49 (bA 65 (aa 48) 1),
 ae 50 (aI 61 (aa 49)),
 ae 51 (ay (aa 8)),
 ae 52 (dE (aa 51)),
 ae 53 (bA 65 (aa 52) 2),
 ae 54 (aI 61 (aa 53)),
 ae 55 (kE 66 3 #[(0,aa 46),(1,aa 50),(2,aa 54)]),
 ae 56 (aY ⟨cG cW,#[aa 55],#[66]⟩),
 ae 57 (ay (aE (bq br 0)))]
def EU:aC:=
 [ae 58 (bh eh 3 (aa 57) (aa 56) 3)]
def Re:aC:=
 [ae 59 (dn 66 (aa 55) (aa 57)),
 ae 60 (aI 61 (aa 59)),
 ae 10 (aJ (aa 60))]
def Rf:aC:=
 [ae 61 (ay (aa 10)),
 ae 62 (Op.range 61 (aa 61))]
def EV:aC:=
 [ae 63 (Op.next (aa 62) false),
 ae 64 (fe (aa 63) 0)]
def Rg:aC:=
 [ae 65 (Op.entry (aa 62)),
 ae 66 (fe (aa 65) 0),
 ae 11 (aJ (aa 66))]
def QU:aC:=
 [ae 67 (ay (aa 8)),
 ae 68 (ay (aa 11)),
 ae 69 (aY ⟨bG (bM 24),#[aa 67,aa 68],#[60,9]⟩),
 ae 12 (aJ (aa 69))]
def QV:aC:=
 [ae 70 (ay (aa 12)),
 ae 71 (bh ij 67 (aa 70) (aE (lY none)) 67)]
def QW:aC:=
 [ae 72 (ay (aa 8)),
 ae 73 (dE (aa 72)),
 ae 74 (bA 65 (aa 73) 3),
 ae 75 (aI 61 (aa 74)),
 ae 76 (ay (aa 11)),
 ae 77 (ay (aa 12)),
 ⟨none,uH 61 (aa 75) (aa 76) (aa 77),.aw⟩]
def xC:SC:=
 (.seq (.region EV)
 (.seq (.cond (aa 64) .skip (.exit 2))
 (.block 3 (.seq (.region Rg)
 (.seq (.region QU)
 (.seq (.region QV)
 (.cond (aa 71) (.region QW) .skip)))))))
def QX:aC:=
 [ae 78 (bh d8 3 (aa 57) (aE (bq br 1)) 3),
 ae 57 (ay (aa 78))]
def zZ:SC:=
 (.seq (.region EU)
 (.seq (.cond (aa 58) .skip (.exit 0))
 (.seq (.block 1 (.seq (.region Re)
 (.seq (.region Rf)
 (.block 2 (.loop xC)))))
 (.region QX))))
def QY:aC:=
 [ae 79 (ay (aa 8)),
 ae 80 (dE (aa 79)),
 ae 81 (bA 65 (aa 80) 3),
 ae 82 (aI 61 (aa 81)),
 ae 83 (aY ⟨bG (bM 26),#[aa 82],#[61]⟩),
 ae 84 (aY ⟨bG (bM 25),#[aa 83],#[71]⟩),
 ae 85 (aY ⟨cG cW,#[aa 84],#[37]⟩),
 ae 86 (ay (aE (bq br 0)))]
def EO:aC:=
 [ae 87 (bh eh 3 (aa 86) (aa 85) 3)]
def QZ:aC:=
 [ae 88 (dn 37 (aa 84) (aa 86)),
 ae 89 (aI 9 (aa 88)),
 ae 14 (aJ (aa 89))]
def Q0:aC:=
 [ae 90 (ay (aa 8)),
 ae 91 (ay (aa 8)),
 ae 92 (dE (aa 91)),
 ae 93 (bA 65 (aa 92) 3),
 ae 94 (aI 61 (aa 93)),
 ae 95 (ay (aa 14)),
 ae 96 (nu 61 (aa 94) (aa 95) false),
 ae 97 (aY ⟨bG (bM 27),#[aa 90,aa 96],#[60,67]⟩)]
def Q5:aC:=
 [ae 98 (bh d8 3 (aa 86) (aE (bq br 1)) 3),
 ae 86 (ay (aa 98))]
def z6:SC:=
 (.seq (.region EO)
 (.seq (.cond (aa 87) .skip (.exit 4))
 (.seq (.block 5 (.seq (.region QZ)
 (.region Q0)))
 (.region Q5))))
def Q6:aC:=
 [ae 15 (eZ 24)]
def Q7:aC:=
 [ae 99 (ay (aa 8)),
 ae 100 (dE (aa 99)),
 ae 101 (bA 65 (aa 100) 3),
 ae 102 (aI 61 (aa 101)),
 ae 103 (aY ⟨bG (bM 26),#[aa 102],#[61]⟩),
 ae 104 (aY ⟨bG (bM 25),#[aa 103],#[71]⟩),
 ae 105 (aY ⟨cG cW,#[aa 104],#[37]⟩),
 ae 106 (ay (aE (bq br 0)))]
def ER:aC:=
 [ae 107 (bh eh 3 (aa 106) (aa 105) 3)]
def Q8:aC:=
 [ae 108 (dn 37 (aa 104) (aa 106)),
 ae 109 (aI 9 (aa 108)),
 ae 17 (aJ (aa 109))]
def tT:aC:=
 [ae 110 (bA 24 (aa 15) 0),
 ae 111 (aI 22 (aa 110)),
 ae 112 (ay (aa 8)),
 ae 113 (dE (aa 112)),
 ae 114 (bA 65 (aa 113) 3),
 ae 115 (aI 61 (aa 114)),
 ae 116 (ay (aa 17)),
 ae 117 (nu 61 (aa 115) (aa 116) false),
 ae 118 (dE (aa 117)),
 ae 119 (aI 40 (aa 118)),
 ae 120 (kE 22 1 #[(0,aa 119)]),
 ae 121 (aY ⟨cG nm,#[aa 111,aa 120],#[22,22]⟩),
 ae 122 (bA 24 (aa 15) 0),
 ⟨none,dD 22 (aa 122) (aa 121),.aw⟩]
def Q9:aC:=
 [ae 123 (bh d8 3 (aa 106) (aE (bq br 1)) 3),
 ae 106 (ay (aa 123))]
def z7:SC:=
 (.seq (.region ER)
 (.seq (.cond (aa 107) .skip (.exit 6))
 (.seq (.block 7 (.seq (.region Q8)
 (.draw tT ahf)))
 (.region Q9))))
def Ra:aC:=
 [ae 124 (ay (aa 8)),
 ae 125 (dE (aa 124)),
 ae 126 (bA 65 (aa 125) 4),
 ae 127 (aI 63 (aa 126)),
 ae 128 (aY ⟨bG (bM 29),#[aa 127],#[63]⟩),
 ae 129 (aY ⟨bG (bM 28),#[aa 128,bM 30],#[76,80]⟩),
 ae 18 (aJ (aa 129))]
def Rb:aC:=
 [ae 130 (aI 24 (aa 15)),
 ae 131 (ay (aa 18)),
 ⟨none,dD 24 (aa 6) (aa 130),.aw⟩,
 ae 7 (aJ (aa 131))]
def k9:SC:=
 (.seq (.region EM)
 (.seq (.seq (.region EN)
 (.cond (aa 31) (.seq (.region EP)
 .ret) .skip))
 (.seq (.draw ET EL)
 (.seq (.seq (.draw Rc ahg)
 (.block 0 (.loop zZ)))
 (.seq (.seq (.region QY)
 (.block 4 (.loop z6)))
 (.seq (.region Q6)
 (.seq (.seq (.region Q7)
 (.block 6 (.loop z7)))
 (.seq (.region Ra)
 (.seq (.region Rb)
 .ret)))))))))
theorem QR:Tryz.prog.funcs[9]? =some Tryz.f9:=by kernel_rfl
theorem QQ:(Tryz.f9.body).map cL=some k9:=by kernel_rfl
theorem Ri:Tryz.f9.ntmps=132:=by kernel_rfl
theorem Rh:Tryz.f9.results.toList=[ResultVar.cell 6 24,dF 7]:=by kernel_rfl
theorem IT:bI 9 3=1:=by kernel_rfl
theorem IU:bI 9 4=1:=by kernel_rfl
theorem IV:bI 9 5=1:=by kernel_rfl
theorem IW:bI 9 6=1:=by kernel_rfl
theorem aaU:bI 9 15=1:=by kernel_rfl
theorem aaV:bI 9 42=0:=by kernel_rfl
theorem aaW:bI 9 55=0:=by kernel_rfl
theorem aaX:bI 9 56=0:=by kernel_rfl
theorem aaY:bI 9 85=0:=by kernel_rfl
theorem aaR:bI 9 105=0:=by kernel_rfl
theorem aaS:bI 9 120=0:=by kernel_rfl
theorem aaT:bI 9 121=0:=by kernel_rfl
def adY:List Nat:=[0,1,0,4,15,0,32,0,128,511,1023,2047,4095]
def M3:aC:=
 [ae 2 (e7 31 (aa 0)),
 ae 3 (e7 31 (aa 1)),
 ae 4 (aJ (aE (bq br 0)))]
def M4:aC:=
 [ae 5 (bA 31 (aa 2) 0),
 ae 6 (aI 9 (aa 5)),
 ae 7 (bA 31 (aa 3) 0),
 ae 8 (aI 9 (aa 7)),
 ae 9 (aY ⟨bG (bM 32),#[aa 6,aa 8],#[9,9]⟩),
 ae 10 (bA 31 (aa 2) 1),
 ae 11 (aI 9 (aa 10)),
 ae 12 (bA 31 (aa 3) 1),
 ae 13 (aI 9 (aa 12)),
 ae 14 (aY ⟨bG (bM 32),#[aa 11,aa 13],#[9,9]⟩),
 ae 15 (kE 55 2 #[(0,aa 9),(1,aa 14)]),
 ae 16 (aY ⟨bG (bM 31),#[aa 15],#[55]⟩),
 ae 4 (aJ (aa 16))]
def MZ:SC:=
 (.seq (.region M3)
 (.seq (.draw M4 adY)
 .ret))
theorem ad0:Tryz.prog.funcs[30]? =some Tryz.f30:=by kernel_rfl
theorem adZ:(Tryz.f30.body).map cL=some MZ:=by kernel_rfl
theorem ad2:Tryz.f30.ntmps=17:=by kernel_rfl
theorem ad1:Tryz.f30.results.toList=[dF 4]:=by kernel_rfl
theorem ZH:bI 30 2=1:=by kernel_rfl
theorem ZI:bI 30 3=1:=by kernel_rfl
theorem ZG:bI 30 15=0:=by kernel_rfl
def MG:aC:=
 [ae 1 (e7 61 (aa 0)),
 ae 2 (aJ (aE Value.nilFunc))]
def MH:aC:=
 [ae 3 (Op.makeFunc (Fn.func 49) #[] #[aa 1]),
 ae 2 (aJ (aa 3))]
def MF:SC:=
 (.seq (.region MG)
 (.seq (.region MH)
 .ret))
theorem adJ:Tryz.prog.funcs[26]? =some Tryz.f26:=by kernel_rfl
theorem adI:(Tryz.f26.body).map cL=some MF:=by kernel_rfl
theorem adL:Tryz.f26.ntmps=4:=by kernel_rfl
theorem adK:Tryz.f26.results.toList=[dF 2]:=by kernel_rfl
theorem ZD:bI 26 1=0:=by kernel_rfl
def ae5:aC:=
 [ae 2 (e7 24 (aa 0)),
 ae 3 (e7 24 (aa 1)),
 ae 4 (aJ (aE (bK false)))]
def ae6:aC:=
 [ae 12 (aY ⟨bG (bM 7),#[],#[]⟩),
 ae 5 (aJ (aa 12))]
def ae7:aC:=
 [ae 13 (aI 24 (aa 2)),
 ae 14 (aI 24 (aa 3)),
 ae 15 (aI 24 (aa 2)),
 ae 16 (aY ⟨bG (bM 8),#[aa 13,aa 14,aa 15],#[24,24,24]⟩),
 ae 17 (fM UnOp.not 4 (aa 16)),
 ae 18 (ay (aa 17)),
 aM 19 (aI 24 (aa 3)) 18 false,
 aM 20 (aY ⟨bG (bM 12),#[aa 19],#[24]⟩) 18 false,
 aM 21 (fM UnOp.not 4 (aa 20)) 18 false,
 ae 22 (cX (aa 18) (aE (bK true)) (aa 21)),
 ae 23 (ay (aa 22)),
 aM 24 (aI 24 (aa 2)) 23 false,
 aM 25 (aY ⟨bG (bM 13),#[aa 24],#[24]⟩) 23 false,
 aM 26 (fM UnOp.not 4 (aa 25)) 23 false,
 ae 27 (cX (aa 23) (aE (bK true)) (aa 26))]
def ae8:aC:=
 [ae 28 (ay (aa 5)),
 ae 4 (aJ (aa 28))]
def ae9:aC:=
 [ae 30 (aI 24 (aa 2)),
 ae 31 (aI 24 (aa 3)),
 ae 32 (aI 24 (aa 2)),
 ae 33 (aY ⟨bG (bM 9),#[aa 30,aa 31,aa 32],#[24,24,24]⟩),
 ae 29 (ay (aa 33)),
 ae 34 (fe (aa 29) 0),
 ae 35 (fe (aa 29) 1),
 ae 6 (eZ 24),
 ⟨none,dD 24 (aa 6) (aa 34),.aw⟩,
 ae 7 (aJ (aa 35))]
def afa:aC:=
 [ae 37 (aI 24 (aa 2)),
 ae 38 (aI 24 (aa 2)),
 ae 39 (aI 24 (aa 3)),
 ae 40 (aY ⟨bG (bM 9),#[aa 37,aa 38,aa 39],#[24,24,24]⟩),
 ae 36 (ay (aa 40)),
 ae 41 (fe (aa 36) 0),
 ae 42 (fe (aa 36) 1),
 ae 8 (eZ 24),
 ⟨none,dD 24 (aa 8) (aa 41),.aw⟩,
 ae 9 (aJ (aa 42))]
def afb:aC:=
 [ae 44 (aI 24 (aa 2)),
 ae 45 (aI 24 (aa 3)),
 ae 46 (aI 24 (aa 3)),
 ae 47 (aY ⟨bG (bM 9),#[aa 44,aa 45,aa 46],#[24,24,24]⟩),
 ae 43 (ay (aa 47)),
 ae 48 (fe (aa 43) 0),
 ae 49 (fe (aa 43) 1),
 ae 10 (eZ 24),
 ⟨none,dD 24 (aa 10) (aa 48),.aw⟩,
 ae 11 (aJ (aa 49))]
def afc:aC:=
 [ae 50 (ay (aa 5)),
 ae 51 (ay (aa 50)),
 aM 52 (aI 24 (aa 6)) 51 true,
 aM 53 (aI 24 (aa 3)) 51 true,
 aM 54 (aY ⟨bG (bM 10),#[aa 52,aa 53],#[24,24]⟩) 51 true,
 ae 55 (cX (aa 51) (aa 54) (aE (bK false))),
 ae 56 (ay (aa 55)),
 aM 57 (ay (aa 7)) 56 true,
 aM 58 (aY ⟨cG cW,#[aa 57],#[27]⟩) 56 true,
 aM 59 (bh fL 3 (aa 58) (aE (bq br 0)) 3) 56 true,
 ae 60 (cX (aa 56) (aa 59) (aE (bK false))),
 ae 61 (ay (aa 60)),
 aM 62 (aI 24 (aa 8)) 61 true,
 aM 63 (aI 24 (aa 3)) 61 true,
 aM 64 (aY ⟨bG (bM 10),#[aa 62,aa 63],#[24,24]⟩) 61 true,
 ae 65 (cX (aa 61) (aa 64) (aE (bK false))),
 ae 66 (ay (aa 65)),
 aM 67 (ay (aa 9)) 66 true,
 aM 68 (aY ⟨cG cW,#[aa 67],#[27]⟩) 66 true,
 aM 69 (bh fL 3 (aa 68) (aE (bq br 0)) 3) 66 true,
 ae 70 (cX (aa 66) (aa 69) (aE (bK false))),
 ae 71 (ay (aa 70)),
 aM 72 (aI 24 (aa 10)) 71 true,
 aM 73 (aI 24 (aa 3)) 71 true,
 aM 74 (aY ⟨bG (bM 10),#[aa 72,aa 73],#[24,24]⟩) 71 true,
 ae 75 (cX (aa 71) (aa 74) (aE (bK false))),
 ae 76 (ay (aa 75)),
 aM 77 (ay (aa 11)) 76 true,
 aM 78 (aY ⟨cG cW,#[aa 77],#[27]⟩) 76 true,
 aM 79 (bh fL 3 (aa 78) (aE (bq br 0)) 3) 76 true,
 ae 80 (cX (aa 76) (aa 79) (aE (bK false))),
 ae 4 (aJ (aa 80))]
def k4:SC:=
 (.seq (.region ae5)
 (.seq (.region ae6)
 (.seq (.seq (.region ae7)
 (.cond (aa 27) (.seq (.region ae8)
 .ret) .skip))
 (.seq (.region ae9)
 (.seq (.region afa)
 (.seq (.region afb)
 (.seq (.region afc)
 .ret)))))))
def QE:aC:=
 [ae 3 (e7 24 (aa 0)),
 ae 4 (e7 24 (aa 1)),
 ae 5 (e7 24 (aa 2)),
 ae 6 (aJ (aE (bK false)))]
def QF:aC:=
 [ae 7 (aI 24 (aa 3)),
 ae 8 (aY ⟨bG (bM 22),#[aa 7,aE (bq br 20)],#[24,3]⟩),
 ae 9 (ay (aa 8)),
 aM 10 (aI 24 (aa 4)) 9 true,
 aM 11 (aY ⟨bG (bM 22),#[aa 10,aE (bq br 20)],#[24,3]⟩) 9 true,
 ae 12 (cX (aa 9) (aa 11) (aE (bK false))),
 ae 13 (ay (aa 12)),
 aM 14 (aI 24 (aa 5)) 13 true,
 aM 15 (aY ⟨bG (bM 22),#[aa 14,aE (bq br 20)],#[24,3]⟩) 13 true,
 ae 16 (cX (aa 13) (aa 15) (aE (bK false))),
 ae 6 (aJ (aa 16))]
def k8:SC:=
 (.seq (.region QE)
 (.seq (.region QF)
 .ret))
theorem ag8:Tryz.prog.funcs[8]? =some Tryz.f8:=by kernel_rfl
theorem ag7:(Tryz.f8.body).map cL=some k8:=by kernel_rfl
theorem aha:Tryz.f8.ntmps=17:=by kernel_rfl
theorem ag9:Tryz.f8.results.toList=[dF 6]:=by kernel_rfl
theorem aaO:bI 8 3=1:=by kernel_rfl
theorem aaP:bI 8 4=1:=by kernel_rfl
theorem aaQ:bI 8 5=1:=by kernel_rfl
def MX:aC:=
 [ae 1 (e7 63 (aa 0)),
 ae 2 (aJ (aE Value.nilFunc))]
def MY:aC:=
 [ae 3 (Op.makeFunc (Fn.func 52) #[] #[aa 1]),
 ae 2 (aJ (aa 3))]
def MW:SC:=
 (.seq (.region MX)
 (.seq (.region MY)
 .ret))
theorem adV:Tryz.prog.funcs[29]? =some Tryz.f29:=by kernel_rfl
theorem adU:(Tryz.f29.body).map cL=some MW:=by kernel_rfl
theorem adX:Tryz.f29.ntmps=4:=by kernel_rfl
theorem adW:Tryz.f29.results.toList=[dF 2]:=by kernel_rfl
theorem ZF:bI 29 1=0:=by kernel_rfl
def M6:aC:=
 [ae 2 (aJ (aE (bq br 0)))]
def M7:aC:=
 [ae 3 (aJ (aE (bq br 0)))]
def M8:aC:=
 [ae 6 (ay (aa 0)),
 ae 7 (aY ⟨cG cW,#[aa 6],#[55]⟩),
 ae 8 (ay (aE (bq br 0)))]
def DY:aC:=
 [ae 9 (bh eh 3 (aa 8) (aa 7) 3)]
def M9:aC:=
 [ae 10 (dn 55 (aa 6) (aa 8)),
 ae 11 (aI 3 (aa 10)),
 ae 5 (aJ (aa 11))]
def Na:aC:=
 [ae 12 (ay (aa 5)),
 ae 13 (ay (aa 3)),
 ae 14 (bh ij 3 (aa 12) (aa 13) 3)]
def Nb:aC:=
 [ae 15 (ay (aa 5)),
 ae 2 (aJ (aa 15))]
def Nc:aC:=
 [ae 16 (bh d8 3 (aa 8) (aE (bq br 1)) 3),
 ae 8 (ay (aa 16))]
def zz:SC:=
 (.seq (.region DY)
 (.seq (.cond (aa 9) .skip (.exit 0))
 (.seq (.block 1 (.seq (.region M9)
 (.seq (.region Na)
 (.cond (aa 14) (.seq (.region Nb)
 .ret) .skip))))
 (.region Nc))))
def Nf:aC:=
 [ae 17 (ay (aa 3)),
 ae 2 (aJ (aa 17))]
def M5:SC:=
 (.seq (.region M6)
 (.seq (.region M7)
 (.seq (.seq (.region M8)
 (.block 0 (.loop zz)))
 (.seq (.region Nf)
 .ret))))
theorem ad4:Tryz.prog.funcs[31]? =some Tryz.f31:=by kernel_rfl
theorem ad3:(Tryz.f31.body).map cL=some M5:=by kernel_rfl
theorem ad6:Tryz.f31.ntmps=18:=by kernel_rfl
theorem ad5:Tryz.f31.results.toList=[dF 2]:=by kernel_rfl
theorem ZJ:bI 31 7=0:=by kernel_rfl
def Kb:aC:=
 [ae 4 (aJ (aE (bq br 0)))]
def Kc:aC:=
 [ae 7 (ay (aa 0)),
 ae 8 (aY ⟨bG (bM 187),#[aa 7],#[3]⟩),
 ae 5 (aJ (aa 8))]
def Kh:aC:=
 [ae 9 (ay (aa 1)),
 ae 10 (aY ⟨bG (bM 187),#[aa 9],#[3]⟩),
 ae 6 (aJ (aa 10))]
def Ki:aC:=
 [ae 11 (ay (aa 5))]
def ack:aC:=
 [ae 12 (ay (aa 6))]
def acl:aC:=
 [ae 4 (aJ (aE (bq br 0)))]
def acm:aC:=
 [ae 4 (aJ (aE (bq br (-1))))]
def Kj:aC:=
 [ae 13 (ay (aa 6))]
def acn:aC:=
 [ae 4 (aJ (aE (bq br 1)))]
def Kk:aC:=
 [ae 14 (ay (aa 0)),
 ae 15 (ay (aa 1)),
 ae 16 (bh eh 3 (aa 14) (aa 15) 3)]
def Kd:aC:=
 [ae 4 (aJ (aE (bq br (-1))))]
def Ke:aC:=
 [ae 17 (ay (aa 0)),
 ae 18 (ay (aa 1)),
 ae 19 (bh oh 3 (aa 17) (aa 18) 3)]
def Kf:aC:=
 [ae 4 (aJ (aE (bq br 1)))]
def Kg:aC:=
 [ae 4 (aJ (aE (bq br 0)))]
def Ka:SC:=
 (.seq (.region Kb)
 (.seq (.region Kc)
 (.seq (.region Kh)
 (.seq (.seq (.region Ki)
 (.cond (aa 11) (.seq (.seq (.region ack)
 (.cond (aa 12) (.seq (.region acl)
 .ret) .skip))
 (.seq (.region acm)
 .ret)) .skip))
 (.seq (.seq (.region Kj)
 (.cond (aa 13) (.seq (.region acn)
 .ret) .skip))
 (.seq (.seq (.region Kk)
 (.cond (aa 16) (.seq (.region Kd)
 .ret) .skip))
 (.seq (.seq (.region Ke)
 (.cond (aa 19) (.seq (.region Kf)
 .ret) .skip))
 (.seq (.region Kg)
 .ret))))))))
theorem acj:Tryz.prog.funcs[122]? =some Tryz.f122:=by kernel_rfl
theorem aci:(Tryz.f122.body).map cL=some Ka:=by kernel_rfl
theorem acp:Tryz.f122.ntmps=20:=by kernel_rfl
theorem aco:Tryz.f122.results.toList=[dF 4]:=by kernel_rfl
def Lx:aC:=
 [ae 2 (aJ (aE (bK false)))]
def Ly:aC:=
 [ae 3 (ay (aa 0)),
 ae 4 (ay (aa 0)),
 ae 5 (bh ij 3 (aa 3) (aa 4) 3),
 ae 2 (aJ (aa 5))]
def Lw:SC:=
 (.seq (.region Lx)
 (.seq (.region Ly)
 .ret))
theorem ac5:Tryz.prog.funcs[187]? =some Tryz.f187:=by kernel_rfl
theorem ac4:(Tryz.f187.body).map cL=some Lw:=by kernel_rfl
theorem ac7:Tryz.f187.ntmps=6:=by kernel_rfl
theorem ac6:Tryz.f187.results.toList=[dF 2]:=by kernel_rfl
def JW:aC:=
 [ae 2 (e7 36 (aa 0)),
 ae 3 (e7 36 (aa 1)),
 ae 4 (aJ (aE (bq br 0)))]
def JX:aC:=
 [ae 5 (bA 36 (aa 2) 0),
 ae 6 (aI 3 (aa 5)),
 ae 7 (bA 36 (aa 3) 0),
 ae 8 (aI 3 (aa 7)),
 ae 9 (kb 254 #[(0,aa 6),(1,aa 8)]),
 ae 10 (bA 36 (aa 2) 1),
 ae 11 (aI 3 (aa 10)),
 ae 12 (bA 36 (aa 3) 1),
 ae 13 (aI 3 (aa 12)),
 ae 14 (kb 254 #[(0,aa 11),(1,aa 13)]),
 ae 15 (kE 349 2 #[(0,aa 9),(1,aa 14)]),
 ae 16 (aY ⟨bG (bM 184),#[aa 15],#[349]⟩),
 ae 4 (aJ (aa 16))]
def JV:SC:=
 (.seq (.region JW)
 (.seq (.region JX)
 .ret))
theorem abZ:Tryz.prog.funcs[119]? =some Tryz.f119:=by kernel_rfl
theorem abY:(Tryz.f119.body).map cL=some JV:=by kernel_rfl
theorem ab1:Tryz.f119.ntmps=17:=by kernel_rfl
theorem ab0:Tryz.f119.results.toList=[dF 4]:=by kernel_rfl
theorem Zc:bI 119 2=1:=by kernel_rfl
theorem Zd:bI 119 3=1:=by kernel_rfl
theorem Zb:bI 119 15=0:=by kernel_rfl
def K9:aC:=
 [ae 2 (aJ (aE (bq br 0)))]
def La:aC:=
 [ae 6 (ay (aa 0)),
 ae 7 (aY ⟨cG cW,#[aa 6],#[349]⟩),
 ae 8 (ay (aE (bq br 0)))]
def DF:aC:=
 [ae 9 (bh eh 3 (aa 8) (aa 7) 3)]
def Lb:aC:=
 [ae 10 (dn 349 (aa 6) (aa 8)),
 ae 11 (aI 254 (aa 10)),
 ae 4 (eZ 254),
 ⟨none,dD 254 (aa 4) (aa 11),.aw⟩]
def Lc:aC:=
 [ae 12 (dn 254 (aa 4) (aE (bq br 0))),
 ae 13 (aI 3 (aa 12)),
 ae 14 (dn 254 (aa 4) (aE (bq br 1))),
 ae 15 (aI 3 (aa 14)),
 ae 16 (aY ⟨bG (bM 122),#[aa 13,aa 15],#[3,3]⟩),
 ae 5 (aJ (aa 16))]
def Ld:aC:=
 [ae 17 (ay (aa 5)),
 ae 18 (bh ij 3 (aa 17) (aE (bq br 0)) 3)]
def Lf:aC:=
 [ae 19 (ay (aa 5)),
 ae 2 (aJ (aa 19))]
def Lg:aC:=
 [ae 20 (bh d8 3 (aa 8) (aE (bq br 1)) 3),
 ae 8 (ay (aa 20))]
def zp:SC:=
 (.seq (.region DF)
 (.seq (.cond (aa 9) .skip (.exit 0))
 (.seq (.block 1 (.seq (.region Lb)
 (.seq (.region Lc)
 (.seq (.region Ld)
 (.cond (aa 18) (.seq (.region Lf)
 .ret) .skip)))))
 (.region Lg))))
def Lh:aC:=
 [ae 2 (aJ (aE (bq br 0)))]
def K8:SC:=
 (.seq (.region K9)
 (.seq (.seq (.region La)
 (.block 0 (.loop zp)))
 (.seq (.region Lh)
 .ret)))
theorem acT:Tryz.prog.funcs[184]? =some Tryz.f184:=by kernel_rfl
theorem acS:(Tryz.f184.body).map cL=some K8:=by kernel_rfl
theorem acV:Tryz.f184.ntmps=21:=by kernel_rfl
theorem acU:Tryz.f184.results.toList=[dF 2]:=by kernel_rfl
theorem Zt:bI 184 4=1:=by kernel_rfl
theorem Zu:bI 184 7=0:=by kernel_rfl
def Es:aC:=
 [ae 7 (e7 36 (aa 2)),
 ae 8 (e7 36 (aa 3)),
 ae 9 (e7 36 (aa 4)),
 ae 10 (eZ 36)]
def Et:aC:=
 [ae 12 (aI 36 (aa 8)),
 ae 13 (aI 36 (aa 9)),
 ae 14 (bh fL 36 (aa 12) (aa 13) 36),
 ae 11 (aJ (aa 14))]
def Eu:aC:=
 [ae 15 (aI 36 (aa 9)),
 ae 16 (aI 36 (aa 7)),
 ae 17 (bh fL 36 (aa 15) (aa 16) 36),
 ae 11 (aJ (aa 17))]
def Ev:aC:=
 [ae 18 (aI 36 (aa 8)),
 ⟨none,dD 36 (aa 10) (aa 18),.aw⟩]
def Ew:aC:=
 [ae 20 (aI 36 (aa 8)),
 ae 21 (aI 36 (aa 7)),
 ae 22 (bh fL 36 (aa 20) (aa 21) 36),
 ae 19 (aJ (aa 22))]
def PU:aC:=
 [ae 23 (aI 36 (aa 9)),
 ⟨none,dD 36 (aa 10) (aa 23),.aw⟩]
def PW:aC:=
 [ae 24 (ay (aa 0)),
 ae 25 (ay (aa 1)),
 ae 26 (aY {callee:=bG (bM 45),args:= #[aa 24,aa 25,aE (jh {data:= #[97,116] })],argTypes:= #[60,9,9] })]
def PX:aC:=
 [ae 27 (aI 36 (aa 8)),
 ae 28 (aI 36 (aa 9)),
 ae 29 (kE 192 2 #[(0,aa 27),(1,aa 28)]),
 ae 30 (aY ⟨bG (bM 118),#[aa 29,bM 119],#[192,193]⟩),
 ⟨none,dD 36 (aa 10) (aa 30),.aw⟩]
def Er:SC:=
 (.seq (.region Es)
 (.seq (.block 0 (.seq (.seq (.region Et)
 (.cond (aa 11) .skip (.region Eu)))
 (.cond (aa 11) (.seq (.region Ev)
 .ret) (.seq (.region Ew)
 (.cond (aa 19) (.seq (.region PU)
 .ret) .skip)))))
 (.seq (.region PW)
 (.seq (.region PX)
 .ret))))
theorem PT:Tryz.prog.funcs[75]? =some Tryz.f75:=by kernel_rfl
theorem PS:(Tryz.f75.body).map cL=some Er:=by kernel_rfl
theorem PZ:Tryz.f75.ntmps=31:=by kernel_rfl
theorem PY:Tryz.f75.results.toList=[ResultVar.cell 10 36]:=by kernel_rfl
theorem IM:bI 75 7=1:=by kernel_rfl
theorem IP:bI 75 8=1:=by kernel_rfl
theorem IQ:bI 75 9=1:=by kernel_rfl
theorem IL:bI 75 10=1:=by kernel_rfl
theorem aat:bI 75 29=0:=by kernel_rfl
def abR:List Nat:=[0,0,0,6,14,0,63,127]
def JP:aC:=
 [ae 4 (eZ 36)]
def JQ:aC:=
 [ae 7 (ay (aa 0)),
 ae 8 (aY ⟨cG cW,#[aa 7],#[192]⟩),
 ae 9 (bh eh 3 (aa 8) (aE (bq br 1)) 3)]
def abV:aC:=
 [ae 10 (Op.makeInterface 9 (aE (jh {data:= #[115,108,105,99,101,115,46,77,105,110,70,117,110,99,58,32,101,109,112,116,121,32,108,105,115,116] }))),
 ⟨none,Op.panic (aa 10),.aw⟩]
def JR:aC:=
 [ae 11 (ay (aa 0)),
 ae 12 (dn 192 (aa 11) (aE (bq br 0))),
 ae 13 (aI 36 (aa 12)),
 ae 5 (eZ 36),
 ⟨none,dD 36 (aa 5) (aa 13),.aw⟩]
def JS:aC:=
 [ae 6 (aJ (aE (bq br 1)))]
def zk:aC:=
 [ae 14 (ay (aa 6)),
 ae 15 (ay (aa 0)),
 ae 16 (aY ⟨cG cW,#[aa 15],#[192]⟩),
 ae 17 (bh eh 3 (aa 14) (aa 16) 3)]
def JT:aC:=
 [ae 20 (ay (aa 1)),
 ae 21 (ay (aa 0)),
 ae 22 (ay (aa 6)),
 ae 23 (dn 192 (aa 21) (aa 22)),
 ae 24 (aI 36 (aa 23)),
 ae 25 (aI 36 (aa 5)),
 ae 26 (aY ⟨bG (aa 20),#[aa 24,aa 25],#[36,36]⟩),
 ae 27 (bh eh 3 (aa 26) (aE (bq br 0)) 3)]
def JU:aC:=
 [ae 28 (ay (aa 0)),
 ae 29 (ay (aa 6)),
 ae 30 (dn 192 (aa 28) (aa 29)),
 ae 31 (aI 36 (aa 30)),
 ⟨none,dD 36 (aa 5) (aa 31),.aw⟩]
def Dy:aC:=
 [ae 18 (ay (aa 6)),
 ae 19 (bh d8 3 (aa 18) (aE (bq br 1)) 3),
 ae 6 (aJ (aa 19))]
def zj:SC:=
 (.seq (.seq (.region zk)
 (.cond (aa 17) .skip (.exit 0)))
 (.seq (.block 1 (.seq (.draw JT abR)
 (.cond (aa 27) (.region JU) .skip)))
 (.region Dy)))
def Dz:aC:=
 [ae 32 (aI 36 (aa 5)),
 ⟨none,dD 36 (aa 4) (aa 32),.aw⟩]
def JO:SC:=
 (.seq (.region JP)
 (.seq (.seq (.region JQ)
 (.cond (aa 9) (.region abV) .skip))
 (.seq (.region JR)
 (.seq (.seq (.region JS)
 (.block 0 (.loop zj)))
 (.seq (.region Dz)
 .ret)))))
theorem abU:Tryz.prog.funcs[118]? =some Tryz.f118:=by kernel_rfl
theorem abT:(Tryz.f118.body).map cL=some JO:=by kernel_rfl
theorem abX:Tryz.f118.ntmps=33:=by kernel_rfl
theorem abW:Tryz.f118.results.toList=[ResultVar.cell 4 36]:=by kernel_rfl
theorem Y8:bI 118 4=1:=by kernel_rfl
theorem Y9:bI 118 5=1:=by kernel_rfl
theorem Za:bI 118 8=0:=by kernel_rfl
theorem Dd:bI 118 16=0:=by kernel_rfl
def agM:List Nat:=[0,1,3,7,0,16,48,112,255,0,512,1536,3584,0,8192,24576,57344,131071,0,262144,786432,1835008,0,4194304,12582912,29360128,67108863,0,134217728,402653184,939524096,2147483647,0,4294967296,12884901888,30064771072,68719476735,137438953471,274877906943,549755813887,1099511627775]
def Qm:aC:=
 [ae 4 (aJ (aE (bq br 0)))]
def Qn:aC:=
 [ae 5 (ay (aa 0)),
 ae 6 (dE (aa 5)),
 ae 7 (bA 40 (aa 6) 1),
 ae 8 (aI 3 (aa 7)),
 ae 9 (ay (aa 1)),
 ae 10 (dE (aa 9)),
 ae 11 (bA 40 (aa 10) 1),
 ae 12 (aI 3 (aa 11)),
 ae 13 (aY ⟨bG (bM 122),#[aa 8,aa 12],#[3,3]⟩),
 ae 14 (ay (aa 0)),
 ae 15 (dE (aa 14)),
 ae 16 (bA 40 (aa 15) 2),
 ae 17 (aI 36 (aa 16)),
 ae 18 (ay (aa 1)),
 ae 19 (dE (aa 18)),
 ae 20 (bA 40 (aa 19) 2),
 ae 21 (aI 36 (aa 20)),
 ae 22 (aY ⟨bG (bM 119),#[aa 17,aa 21],#[36,36]⟩),
 ae 23 (ay (aa 0)),
 ae 24 (dE (aa 23)),
 ae 25 (bA 40 (aa 24) 3),
 ae 26 (aI 37 (aa 25)),
 ae 27 (ay (aa 1)),
 ae 28 (dE (aa 27)),
 ae 29 (bA 40 (aa 28) 3),
 ae 30 (aI 37 (aa 29)),
 ae 31 (aY ⟨bG (bM 123),#[aa 26,aa 30],#[37,37]⟩),
 ae 32 (ay (aa 0)),
 ae 33 (dE (aa 32)),
 ae 34 (bA 40 (aa 33) 4),
 ae 35 (aI 38 (aa 34)),
 ae 36 (aY ⟨bG (bM 124),#[aa 35],#[38]⟩),
 ae 37 (ay (aa 1)),
 ae 38 (dE (aa 37)),
 ae 39 (bA 40 (aa 38) 4),
 ae 40 (aI 38 (aa 39)),
 ae 41 (aY ⟨bG (bM 124),#[aa 40],#[38]⟩),
 ae 42 (aY ⟨bG (bM 123),#[aa 36,aa 41],#[37,37]⟩),
 ae 43 (kE 55 4 #[(0,aa 13),(1,aa 22),(2,aa 31),(3,aa 42)]),
 ae 44 (aY ⟨bG (bM 31),#[aa 43],#[55]⟩),
 ae 4 (aJ (aa 44))]
def Ql:SC:=
 (.seq (.region Qm)
 (.seq (.draw Qn agM)
 .ret))
theorem agO:Tryz.prog.funcs[77]? =some Tryz.f77:=by kernel_rfl
theorem agN:(Tryz.f77.body).map cL=some Ql:=by kernel_rfl
theorem agQ:Tryz.f77.ntmps=45:=by kernel_rfl
theorem agP:Tryz.f77.results.toList=[dF 4]:=by kernel_rfl
theorem aaG:bI 77 43=0:=by kernel_rfl
def Km:aC:=
 [ae 4 (aJ (aE (bq br 0)))]
def Kn:aC:=
 [ae 9 (ay (aa 0)),
 ae 10 (aY ⟨cG cW,#[aa 9],#[37]⟩),
 ae 11 (ay (aE (bq br 0)))]
def DB:aC:=
 [ae 12 (bh eh 3 (aa 11) (aa 10) 3)]
def Ks:aC:=
 [ae 13 (ay (aa 11)),
 ae 14 (dn 37 (aa 9) (aa 11)),
 ae 15 (aI 9 (aa 14)),
 ae 5 (aJ (aa 13)),
 ae 6 (aJ (aa 15))]
def Kt:aC:=
 [ae 16 (ay (aa 5)),
 ae 17 (ay (aa 1)),
 ae 18 (aY ⟨cG cW,#[aa 17],#[37]⟩),
 ae 19 (bh qI 3 (aa 16) (aa 18) 3)]
def Ku:aC:=
 [ae 4 (aJ (aE (bq br 1)))]
def Kv:aC:=
 [ae 20 (ay (aa 1)),
 ae 21 (ay (aa 5)),
 ae 22 (dn 37 (aa 20) (aa 21)),
 ae 23 (aI 9 (aa 22)),
 ae 7 (aJ (aa 23))]
def Kw:aC:=
 [ae 24 (ay (aa 6)),
 ae 25 (ay (aa 7)),
 ae 26 (aY ⟨bG (bM 188),#[aa 24,aa 25],#[9,9]⟩),
 ae 8 (aJ (aa 26))]
def Kx:aC:=
 [ae 27 (ay (aa 8)),
 ae 28 (bh ij 3 (aa 27) (aE (bq br 0)) 3)]
def Ky:aC:=
 [ae 29 (ay (aa 8)),
 ae 4 (aJ (aa 29))]
def Ko:aC:=
 [ae 30 (bh d8 3 (aa 11) (aE (bq br 1)) 3),
 ae 11 (ay (aa 30))]
def zm:SC:=
 (.seq (.region DB)
 (.seq (.cond (aa 12) .skip (.exit 0))
 (.seq (.block 1 (.seq (.region Ks)
 (.seq (.seq (.region Kt)
 (.cond (aa 19) (.seq (.region Ku)
 .ret) .skip))
 (.seq (.region Kv)
 (.seq (.region Kw)
 (.seq (.region Kx)
 (.cond (aa 28) (.seq (.region Ky)
 .ret) .skip)))))))
 (.region Ko))))
def Kp:aC:=
 [ae 31 (ay (aa 0)),
 ae 32 (aY ⟨cG cW,#[aa 31],#[37]⟩),
 ae 33 (ay (aa 1)),
 ae 34 (aY ⟨cG cW,#[aa 33],#[37]⟩),
 ae 35 (bh eh 3 (aa 32) (aa 34) 3)]
def Kq:aC:=
 [ae 4 (aJ (aE (bq br (-1))))]
def Kr:aC:=
 [ae 4 (aJ (aE (bq br 0)))]
def Kl:SC:=
 (.seq (.region Km)
 (.seq (.seq (.region Kn)
 (.block 0 (.loop zm)))
 (.seq (.seq (.region Kp)
 (.cond (aa 35) (.seq (.region Kq)
 .ret) .skip))
 (.seq (.region Kr)
 .ret))))
theorem acr:Tryz.prog.funcs[123]? =some Tryz.f123:=by kernel_rfl
theorem acq:(Tryz.f123.body).map cL=some Kl:=by kernel_rfl
theorem act:Tryz.f123.ntmps=36:=by kernel_rfl
theorem acs:Tryz.f123.results.toList=[dF 4]:=by kernel_rfl
theorem Zh:bI 123 10=0:=by kernel_rfl
theorem Zi:bI 123 32=0:=by kernel_rfl
theorem Zj:bI 123 34=0:=by kernel_rfl
def LA:aC:=
 [ae 4 (aJ (aE (bq br 0)))]
def LC:aC:=
 [ae 7 (ay (aa 0)),
 ae 8 (aY ⟨bG (bM 194),#[aa 7],#[9]⟩),
 ae 5 (aJ (aa 8))]
def LI:aC:=
 [ae 9 (ay (aa 1)),
 ae 10 (aY ⟨bG (bM 194),#[aa 9],#[9]⟩),
 ae 6 (aJ (aa 10))]
def LJ:aC:=
 [ae 11 (ay (aa 5))]
def ada:aC:=
 [ae 12 (ay (aa 6))]
def adb:aC:=
 [ae 4 (aJ (aE (bq br 0)))]
def adc:aC:=
 [ae 4 (aJ (aE (bq br (-1))))]
def LK:aC:=
 [ae 13 (ay (aa 6))]
def ade:aC:=
 [ae 4 (aJ (aE (bq br 1)))]
def LL:aC:=
 [ae 14 (ay (aa 0)),
 ae 15 (ay (aa 1)),
 ae 16 (bh eh 9 (aa 14) (aa 15) 9)]
def LD:aC:=
 [ae 4 (aJ (aE (bq br (-1))))]
def LF:aC:=
 [ae 17 (ay (aa 0)),
 ae 18 (ay (aa 1)),
 ae 19 (bh oh 9 (aa 17) (aa 18) 9)]
def LG:aC:=
 [ae 4 (aJ (aE (bq br 1)))]
def LH:aC:=
 [ae 4 (aJ (aE (bq br 0)))]
def Lz:SC:=
 (.seq (.region LA)
 (.seq (.region LC)
 (.seq (.region LI)
 (.seq (.seq (.region LJ)
 (.cond (aa 11) (.seq (.seq (.region ada)
 (.cond (aa 12) (.seq (.region adb)
 .ret) .skip))
 (.seq (.region adc)
 .ret)) .skip))
 (.seq (.seq (.region LK)
 (.cond (aa 13) (.seq (.region ade)
 .ret) .skip))
 (.seq (.seq (.region LL)
 (.cond (aa 16) (.seq (.region LD)
 .ret) .skip))
 (.seq (.seq (.region LF)
 (.cond (aa 19) (.seq (.region LG)
 .ret) .skip))
 (.seq (.region LH)
 .ret))))))))
theorem ac9:Tryz.prog.funcs[188]? =some Tryz.f188:=by kernel_rfl
theorem ac8:(Tryz.f188.body).map cL=some Lz:=by kernel_rfl
theorem adg:Tryz.f188.ntmps=20:=by kernel_rfl
theorem adf:Tryz.f188.results.toList=[dF 4]:=by kernel_rfl
def LN:aC:=
 [ae 2 (aJ (aE (bK false)))]
def LO:aC:=
 [ae 3 (ay (aa 0)),
 ae 4 (ay (aa 0)),
 ae 5 (bh ij 9 (aa 3) (aa 4) 9),
 ae 2 (aJ (aa 5))]
def LM:SC:=
 (.seq (.region LN)
 (.seq (.region LO)
 .ret))
theorem adi:Tryz.prog.funcs[194]? =some Tryz.f194:=by kernel_rfl
theorem adh:(Tryz.f194.body).map cL=some LM:=by kernel_rfl
theorem adk:Tryz.f194.ntmps=6:=by kernel_rfl
theorem adj:Tryz.f194.results.toList=[dF 2]:=by kernel_rfl
def KA:aC:=
 [ae 2 (aJ (aE (iM none 0 0)))]
def KB:aC:=
 [ae 3 (aJ (aE (iM none 0 0)))]
def KC:aC:=
 [ae 6 (ay (aa 0)),
 ae 7 (aY ⟨cG cW,#[aa 6],#[38]⟩),
 ae 8 (ay (aE (bq br 0)))]
def DC:aC:=
 [ae 9 (bh eh 3 (aa 8) (aa 7) 3)]
def KD:aC:=
 [ae 10 (dn 38 (aa 6) (aa 8)),
 ae 11 (aI 51 (aa 10)),
 ae 5 (eZ 51),
 ⟨none,dD 51 (aa 5) (aa 11),.aw⟩]
def KE:aC:=
 [ae 12 (ay (aa 3)),
 ae 13 (bA 51 (aa 5) 0),
 ae 14 (aI 9 (aa 13)),
 ae 15 (bA 51 (aa 5) 1),
 ae 16 (aI 9 (aa 15)),
 ae 17 (kE 37 2 #[(0,aa 14),(1,aa 16)]),
 ae 18 (aY ⟨cG nm,#[aa 12,aa 17],#[37,37]⟩),
 ae 3 (aJ (aa 18))]
def KF:aC:=
 [ae 19 (bh d8 3 (aa 8) (aE (bq br 1)) 3),
 ae 8 (ay (aa 19))]
def zn:SC:=
 (.seq (.region DC)
 (.seq (.cond (aa 9) .skip (.exit 0))
 (.seq (.block 1 (.seq (.region KD)
 (.region KE)))
 (.region KF))))
def KG:aC:=
 [ae 20 (ay (aa 3)),
 ae 2 (aJ (aa 20))]
def Kz:SC:=
 (.seq (.region KA)
 (.seq (.region KB)
 (.seq (.seq (.region KC)
 (.block 0 (.loop zn)))
 (.seq (.region KG)
 .ret))))
theorem acv:Tryz.prog.funcs[124]? =some Tryz.f124:=by kernel_rfl
theorem acu:(Tryz.f124.body).map cL=some Kz:=by kernel_rfl
theorem acx:Tryz.f124.ntmps=21:=by kernel_rfl
theorem acw:Tryz.f124.results.toList=[dF 2]:=by kernel_rfl
theorem Zm:bI 124 5=1:=by kernel_rfl
theorem Zn:bI 124 7=0:=by kernel_rfl
theorem Zk:bI 124 17=0:=by kernel_rfl
theorem Zl:bI 124 18=0:=by kernel_rfl
def J8:aC:=
 [ae 4 (aJ (aE (bK false)))]
def J9:aC:=
 [ae 5 (ay (aa 0)),
 ae 6 (ay (aa 1)),
 ae 7 (aY ⟨bG (bM 186),#[aa 5,aa 6],#[37,9]⟩),
 ae 8 (bh qI 3 (aa 7) (aE (bq br 0)) 3),
 ae 4 (aJ (aa 8))]
def J7:SC:=
 (.seq (.region J8)
 (.seq (.region J9)
 .ret))
theorem acf:Tryz.prog.funcs[121]? =some Tryz.f121:=by kernel_rfl
theorem ace:(Tryz.f121.body).map cL=some J7:=by kernel_rfl
theorem ach:Tryz.f121.ntmps=9:=by kernel_rfl
theorem acg:Tryz.f121.results.toList=[dF 4]:=by kernel_rfl
def Ln:aC:=
 [ae 4 (aJ (aE (bq br 0)))]
def Lp:aC:=
 [ae 6 (ay (aa 0)),
 ae 7 (aY ⟨cG cW,#[aa 6],#[37]⟩),
 ae 8 (ay (aE (bq br 0)))]
def DG:aC:=
 [ae 9 (bh eh 3 (aa 8) (aa 7) 3)]
def Lq:aC:=
 [ae 10 (ay (aa 8)),
 ae 5 (aJ (aa 10))]
def Lr:aC:=
 [ae 11 (ay (aa 1)),
 ae 12 (ay (aa 0)),
 ae 13 (ay (aa 5)),
 ae 14 (dn 37 (aa 12) (aa 13)),
 ae 15 (aI 9 (aa 14)),
 ae 16 (bh fL 9 (aa 11) (aa 15) 9)]
def Ls:aC:=
 [ae 17 (ay (aa 5)),
 ae 4 (aJ (aa 17))]
def Lu:aC:=
 [ae 18 (bh d8 3 (aa 8) (aE (bq br 1)) 3),
 ae 8 (ay (aa 18))]
def zr:SC:=
 (.seq (.region DG)
 (.seq (.cond (aa 9) .skip (.exit 0))
 (.seq (.block 1 (.seq (.region Lq)
 (.seq (.region Lr)
 (.cond (aa 16) (.seq (.region Ls)
 .ret) .skip))))
 (.region Lu))))
def Lv:aC:=
 [ae 4 (aJ (aE (bq br (-1))))]
def Lm:SC:=
 (.seq (.region Ln)
 (.seq (.seq (.region Lp)
 (.block 0 (.loop zr)))
 (.seq (.region Lv)
 .ret)))
theorem ac1:Tryz.prog.funcs[186]? =some Tryz.f186:=by kernel_rfl
theorem ac0:(Tryz.f186.body).map cL=some Lm:=by kernel_rfl
theorem ac3:Tryz.f186.ntmps=19:=by kernel_rfl
theorem ac2:Tryz.f186.results.toList=[dF 4]:=by kernel_rfl
theorem Zv:bI 186 7=0:=by kernel_rfl
def Nh:aC:=
 [ae 4 (aJ (aE (bq br 0)))]
def Ni:aC:=
 [ae 5 (ay (aa 0)),
 ae 6 (ay (aa 1)),
 ae 7 (aY ⟨bG (bM 53),#[aa 5,aa 6],#[9,9]⟩),
 ae 4 (aJ (aa 7))]
def Ng:SC:=
 (.seq (.region Nh)
 (.seq (.region Ni)
 .ret))
theorem ad8:Tryz.prog.funcs[32]? =some Tryz.f32:=by kernel_rfl
theorem ad7:(Tryz.f32.body).map cL=some Ng:=by kernel_rfl
theorem aea:Tryz.f32.ntmps=8:=by kernel_rfl
theorem ad9:Tryz.f32.results.toList=[dF 4]:=by kernel_rfl
def OV:aC:=
 [ae 4 (aJ (aE (bq br 0)))]
def OW:aC:=
 [ae 5 (ay (aa 0)),
 ae 6 (ay (aa 1)),
 ae 7 (aY ⟨bG (bM 83),#[aa 5,aa 6],#[9,9]⟩),
 ae 4 (aJ (aa 7))]
def OU:SC:=
 (.seq (.region OV)
 (.seq (.region OW)
 .ret))
theorem afm:Tryz.prog.funcs[53]? =some Tryz.f53:=by kernel_rfl
theorem afl:(Tryz.f53.body).map cL=some OU:=by kernel_rfl
theorem afo:Tryz.f53.ntmps=8:=by kernel_rfl
theorem afn:Tryz.f53.results.toList=[dF 4]:=by kernel_rfl
def Eh:List Nat:=[0,0,2,0,8,30,62,127,0,0,512,0,2048,7680,15872,32767,0,0,131072,0,524288,1966080,4063232,8388607,16777215,33554431,67108863,67108863,134217727,536870911]
def Pt:aC:=
 [ae 6 (aJ (aE (iM none 0 0))),
 ae 7 (aJ (aE (bK false)))]
def Pu:aC:=
 [ae 25 (ay (aa 0)),
 ae 26 (ay (aa 1)),
 ae 27 (ay (aa 2)),
 ae 28 (kE 286 3 #[(0,aa 25),(1,aa 26),(2,aa 27)]),
 ae 29 (aY ⟨bG (bM 114),#[aa 28],#[286]⟩),
 ae 30 (fM UnOp.not 4 (aa 29))]
def PC:aC:=
 [ae 6 (aJ (aE (iM none 0 0))),
 ae 7 (aJ (aE (bK false)))]
def PL:aC:=
 [ae 31 (Op.makeMap 178 none),
 ae 8 (aJ (aa 31))]
def PN:aC:=
 [ae 32 (ay (aa 0)),
 ae 33 (ay (aa 2)),
 ae 34 (aY ⟨bG (bM 115),#[aa 32,aa 33],#[37,37]⟩),
 ae 35 (aY ⟨cG cW,#[aa 34],#[180]⟩),
 ae 36 (ay (aE (bq br 0)))]
def Ep:aC:=
 [ae 37 (bh eh 3 (aa 36) (aa 35) 3)]
def PO:aC:=
 [ae 38 (dn 180 (aa 34) (aa 36)),
 ae 39 (aI 183 (aa 38)),
 ae 10 (eZ 183),
 ⟨none,dD 183 (aa 10) (aa 39),.aw⟩]
def PP:aC:=
 [ae 40 (ay (aa 8)),
 ae 41 (bA 183 (aa 10) 0),
 ae 42 (aI 3 (aa 41)),
 ae 43 (bA 183 (aa 10) 1),
 ae 44 (aI 3 (aa 43)),
 ⟨none,uH 178 (aa 40) (aa 42) (aa 44),.aw⟩]
def PQ:aC:=
 [ae 45 (bh d8 3 (aa 36) (aE (bq br 1)) 3),
 ae 36 (ay (aa 45))]
def zR:SC:=
 (.seq (.region Ep)
 (.seq (.cond (aa 37) .skip (.exit 0))
 (.seq (.block 1 (.seq (.region PO)
 (.region PP)))
 (.region PQ))))
def PR:aC:=
 [ae 11 (aJ (aE (iM none 0 0)))]
def Pv:aC:=
 [ae 46 (ay (aa 0)),
 ae 47 (ay (aa 1)),
 ae 48 (aY ⟨bG (bM 115),#[aa 46,aa 47],#[37,37]⟩),
 ae 49 (aY ⟨cG cW,#[aa 48],#[180]⟩),
 ae 50 (ay (aE (bq br 0)))]
def Ei:aC:=
 [ae 51 (bh eh 3 (aa 50) (aa 49) 3)]
def Pw:aC:=
 [ae 52 (dn 180 (aa 48) (aa 50)),
 ae 53 (aI 183 (aa 52)),
 ae 13 (eZ 183),
 ⟨none,dD 183 (aa 13) (aa 53),.aw⟩]
def Px:aC:=
 [ae 55 (ay (aa 8)),
 ae 56 (bA 183 (aa 13) 0),
 ae 57 (aI 3 (aa 56)),
 ae 58 (nu 178 (aa 55) (aa 57) true),
 ae 54 (ay (aa 58)),
 ae 59 (fe (aa 54) 0),
 ae 60 (fe (aa 54) 1),
 ae 14 (aJ (aa 59)),
 ae 15 (aJ (aa 60))]
def Ej:aC:=
 [ae 61 (ay (aa 15))]
def Py:aC:=
 [ae 62 (ay (aa 11)),
 ae 63 (bA 183 (aa 13) 0),
 ae 64 (aI 3 (aa 63)),
 ae 65 (bA 183 (aa 13) 1),
 ae 66 (aI 3 (aa 65)),
 ae 67 (ay (aa 14)),
 ae 68 (kb 186 #[(0,aa 64),(1,aa 66),(2,aa 67)]),
 ae 69 (kE 184 1 #[(0,aa 68)]),
 ae 70 (aY ⟨cG nm,#[aa 62,aa 69],#[184,184]⟩),
 ae 11 (aJ (aa 70))]
def Ek:aC:=
 [ae 71 (bh d8 3 (aa 50) (aE (bq br 1)) 3),
 ae 50 (ay (aa 71))]
def zS:SC:=
 (.seq (.region Ei)
 (.seq (.cond (aa 51) .skip (.exit 2))
 (.seq (.block 3 (.seq (.region Pw)
 (.seq (.region Px)
 (.seq (.region Ej)
 (.cond (aa 61) (.region Py) .skip)))))
 (.region Ek))))
def Pz:aC:=
 [ae 72 (ay (aa 11)),
 ae 73 (ay (aa 0)),
 ae 74 (aY ⟨cG cW,#[aa 73],#[37]⟩),
 ae 75 (ay (aa 1)),
 ae 76 (aY ⟨cG cW,#[aa 75],#[37]⟩),
 ae 77 (ay (aa 2)),
 ae 78 (aY ⟨cG cW,#[aa 77],#[37]⟩),
 ae 79 (kb 186 #[(0,aa 74),(1,aa 76),(2,aa 78)]),
 ae 80 (kE 184 1 #[(0,aa 79)]),
 ae 81 (aY ⟨cG nm,#[aa 72,aa 80],#[184,184]⟩),
 ae 11 (aJ (aa 81))]
def PA:aC:=
 [ae 82 (ay (aa 0)),
 ae 83 (kb 189 #[(0,aa 82)]),
 ae 84 (e7 189 (aa 83)),
 ae 85 (ay (aa 1)),
 ae 86 (kb 189 #[(0,aa 85)]),
 ae 87 (e7 189 (aa 86)),
 ae 88 (ay (aa 2)),
 ae 89 (kb 189 #[(0,aa 88)]),
 ae 90 (e7 189 (aa 89)),
 ae 16 (aJ (aa 84)),
 ae 17 (aJ (aa 87)),
 ae 18 (aJ (aa 90))]
def PB:aC:=
 [ae 91 (kb 186 #[(0,aE (bq br (-1))),(1,aE (bq br (-1))),(2,aE (bq br (-1)))]),
 ae 19 (eZ 186),
 ⟨none,dD 186 (aa 19) (aa 91),.aw⟩]
def PD:aC:=
 [ae 20 (aJ (aE (iM none 0 0)))]
def PE:aC:=
 [ae 92 (ay (aa 11)),
 ae 93 (aY ⟨cG cW,#[aa 92],#[184]⟩),
 ae 94 (ay (aE (bq br 0)))]
def El:aC:=
 [ae 95 (bh eh 3 (aa 94) (aa 93) 3)]
def PF:aC:=
 [ae 96 (dn 184 (aa 92) (aa 94)),
 ae 97 (aI 186 (aa 96)),
 ae 22 (eZ 186),
 ⟨none,dD 186 (aa 22) (aa 97),.aw⟩]
def m7:aC:=
 [ae 99 (ay (aa 16)),
 ae 100 (bA 186 (aa 22) 0),
 ae 101 (aI 3 (aa 100)),
 ae 102 (bA 186 (aa 19) 0),
 ae 103 (aI 3 (aa 102)),
 ae 104 (bh ol 3 (aa 101) (aa 103) 3),
 ae 105 (bh ol 3 (aa 104) (aE (bq br 1)) 3),
 ae 106 (aY ⟨bG (bM 117),#[aa 99,aa 105],#[187,3]⟩),
 ae 107 (ay (aa 17)),
 ae 108 (bA 186 (aa 22) 1),
 ae 109 (aI 3 (aa 108)),
 ae 110 (bA 186 (aa 19) 1),
 ae 111 (aI 3 (aa 110)),
 ae 112 (bh ol 3 (aa 109) (aa 111) 3),
 ae 113 (bh ol 3 (aa 112) (aE (bq br 1)) 3),
 ae 114 (aY ⟨bG (bM 117),#[aa 107,aa 113],#[187,3]⟩),
 ae 115 (ay (aa 18)),
 ae 116 (bA 186 (aa 22) 2),
 ae 117 (aI 3 (aa 116)),
 ae 118 (bA 186 (aa 19) 2),
 ae 119 (aI 3 (aa 118)),
 ae 120 (bh ol 3 (aa 117) (aa 119) 3),
 ae 121 (bh ol 3 (aa 120) (aE (bq br 1)) 3),
 ae 122 (aY ⟨bG (bM 117),#[aa 115,aa 121],#[187,3]⟩),
 ae 123 (aY ⟨bG (bM 116),#[aa 106,aa 114,aa 122],#[37,37,37]⟩),
 ae 98 (ay (aa 123)),
 ae 124 (fe (aa 98) 0),
 ae 125 (fe (aa 98) 1),
 ae 23 (aJ (aa 124)),
 ae 24 (aJ (aa 125))]
def Em:aC:=
 [ae 126 (ay (aa 24)),
 ae 127 (fM UnOp.not 4 (aa 126))]
def PG:aC:=
 [ae 6 (aJ (aE (iM none 0 0))),
 ae 7 (aJ (aE (bK false)))]
def PH:aC:=
 [ae 128 (ay (aa 20)),
 ae 129 (ay (aa 23)),
 ae 130 (aY ⟨cG nm,#[aa 128,aa 129],#[37,37]⟩),
 ae 20 (aJ (aa 130))]
def PJ:aC:=
 [ae 131 (bA 186 (aa 22) 0),
 ae 132 (aI 3 (aa 131)),
 ae 133 (ay (aa 0)),
 ae 134 (aY ⟨cG cW,#[aa 133],#[37]⟩),
 ae 135 (bh eh 3 (aa 132) (aa 134) 3)]
def PK:aC:=
 [ae 136 (ay (aa 20)),
 ae 137 (ay (aa 0)),
 ae 138 (bA 186 (aa 22) 0),
 ae 139 (aI 3 (aa 138)),
 ae 140 (dn 37 (aa 137) (aa 139)),
 ae 141 (aI 9 (aa 140)),
 ae 142 (kE 37 1 #[(0,aa 141)]),
 ae 143 (aY ⟨cG nm,#[aa 136,aa 142],#[37,37]⟩),
 ae 20 (aJ (aa 143))]
def En:aC:=
 [ae 144 (aI 186 (aa 22)),
 ⟨none,dD 186 (aa 19) (aa 144),.aw⟩]
def Eo:aC:=
 [ae 145 (bh d8 3 (aa 94) (aE (bq br 1)) 3),
 ae 94 (ay (aa 145))]
def xw:SC:=
 (.seq (.region El)
 (.seq (.cond (aa 95) .skip (.exit 4))
 (.seq (.block 5 (.seq (.region PF)
 (.seq (.draw m7 Eh)
 (.seq (.seq (.region Em)
 (.cond (aa 127) (.seq (.region PG)
 .ret) .skip))
 (.seq (.region PH)
 (.seq (.seq (.region PJ)
 (.cond (aa 135) (.region PK) .skip))
 (.region En)))))))
 (.region Eo))))
def PM:aC:=
 [ae 146 (ay (aa 20)),
 ae 6 (aJ (aa 146)),
 ae 7 (aJ (aE (bK true)))]
def Ps:SC:=
 (.seq (.region Pt)
 (.seq (.seq (.region Pu)
 (.cond (aa 30) (.seq (.region PC)
 .ret) .skip))
 (.seq (.region PL)
 (.seq (.seq (.region PN)
 (.block 0 (.loop zR)))
 (.seq (.region PR)
 (.seq (.seq (.region Pv)
 (.block 2 (.loop zS)))
 (.seq (.region Pz)
 (.seq (.region PA)
 (.seq (.region PB)
 (.seq (.region PD)
 (.seq (.seq (.region PE)
 (.block 4 (.loop xw)))
 (.seq (.region PM)
 .ret))))))))))))
theorem agD:Tryz.prog.funcs[74]? =some Tryz.f74:=by kernel_rfl
theorem agC:(Tryz.f74.body).map cL=some Ps:=by kernel_rfl
theorem agF:Tryz.f74.ntmps=147:=by kernel_rfl
theorem agE:Tryz.f74.results.toList=[dF 6,dF 7]:=by kernel_rfl
theorem Z7:bI 74 10=1:=by kernel_rfl
theorem Z8:bI 74 13=1:=by kernel_rfl
theorem aad:bI 74 19=1:=by kernel_rfl
theorem aae:bI 74 22=1:=by kernel_rfl
theorem aaf:bI 74 28=0:=by kernel_rfl
theorem aag:bI 74 35=0:=by kernel_rfl
theorem aah:bI 74 49=0:=by kernel_rfl
theorem aai:bI 74 69=0:=by kernel_rfl
theorem aaj:bI 74 70=0:=by kernel_rfl
theorem aak:bI 74 74=0:=by kernel_rfl
theorem aal:bI 74 76=0:=by kernel_rfl
theorem aam:bI 74 78=0:=by kernel_rfl
theorem aan:bI 74 80=0:=by kernel_rfl
theorem aao:bI 74 81=0:=by kernel_rfl
theorem aap:bI 74 84=0:=by kernel_rfl
theorem aaq:bI 74 87=0:=by kernel_rfl
theorem aar:bI 74 90=0:=by kernel_rfl
theorem aas:bI 74 93=0:=by kernel_rfl
theorem Z9:bI 74 130=0:=by kernel_rfl
theorem aaa:bI 74 134=0:=by kernel_rfl
theorem aab:bI 74 142=0:=by kernel_rfl
theorem aac:bI 74 143=0:=by kernel_rfl
def Jj:aC:=
 [ae 2 (aJ (aE (bK false)))]
def Jk:aC:=
 [ae 3 (ay (aa 0)),
 ae 4 (aY ⟨bG (bM 181),#[aa 3,bM 182],#[286,288]⟩),
 ae 5 (fM UnOp.not 4 (aa 4)),
 ae 2 (aJ (aa 5))]
def Ji:SC:=
 (.seq (.region Jj)
 (.seq (.region Jk)
 .ret))
theorem abx:Tryz.prog.funcs[114]? =some Tryz.f114:=by kernel_rfl
theorem abw:(Tryz.f114.body).map cL=some Ji:=by kernel_rfl
theorem abz:Tryz.f114.ntmps=6:=by kernel_rfl
theorem aby:Tryz.f114.results.toList=[dF 2]:=by kernel_rfl
def abA:List Nat:=[0,0,3,7,0,0,48,112,255]
def abB:List Nat:=[0,0,0,7,0,0,32,0,255,511,1023,0,0,0,8192,31231,63999,129535,262143,524287,1048575]
def abC:List Nat:=[0,0,3,7,0,0,48,112,255,511]
def abD:List Nat:=[0,0,2,0,15,31,63,0,0,0,927,1951,3999,8191,16383]
def Jm:aC:=
 [ae 4 (aJ (aE (iM none 0 0)))]
def Jn:aC:=
 [ae 13 (ay (aa 1)),
 ae 14 (aY ⟨cG cW,#[aa 13],#[37]⟩),
 ae 15 (bh d8 3 (aa 14) (aE (bq br 1)) 3),
 ae 5 (eZ 3),
 ⟨none,dD 3 (aa 5) (aa 15),.aw⟩]
def Jw:aC:=
 [ae 16 (ay (aa 0)),
 ae 17 (aY ⟨cG cW,#[aa 16],#[37]⟩),
 ae 18 (bh d8 3 (aa 17) (aE (bq br 1)) 3),
 ae 19 (aI 3 (aa 5)),
 ae 20 (bh BinOp.mul 3 (aa 18) (aa 19) 3),
 ae 21 (Op.makeSlice 289 (aa 20) (aa 20)),
 ae 6 (eZ 289),
 ⟨none,dD 289 (aa 6) (aa 21),.aw⟩]
def Jz:aC:=
 [ae 22 (Op.makeFunc (Fn.func 183) #[] #[aa 6,aa 5]),
 ae 7 (aJ (aa 22))]
def JA:aC:=
 [ae 23 (ay (aa 0)),
 ae 24 (aY ⟨cG cW,#[aa 23],#[37]⟩),
 ae 25 (bh ol 3 (aa 24) (aE (bq br 1)) 3),
 ae 8 (aJ (aa 25))]
def Du:aC:=
 [ae 26 (ay (aa 8)),
 ae 27 (bh qI 3 (aa 26) (aE (bq br 0)) 3)]
def JC:aC:=
 [ae 30 (ay (aa 1)),
 ae 31 (aY ⟨cG cW,#[aa 30],#[37]⟩),
 ae 32 (bh ol 3 (aa 31) (aE (bq br 1)) 3),
 ae 9 (aJ (aa 32))]
def Dv:aC:=
 [ae 33 (ay (aa 9)),
 ae 34 (bh qI 3 (aa 33) (aE (bq br 0)) 3)]
def Jo:aC:=
 [ae 37 (ay (aa 0)),
 ae 38 (ay (aa 8)),
 ae 39 (dn 37 (aa 37) (aa 38)),
 ae 40 (aI 9 (aa 39)),
 ae 41 (ay (aa 1)),
 ae 42 (ay (aa 9)),
 ae 43 (dn 37 (aa 41) (aa 42)),
 ae 44 (aI 9 (aa 43)),
 ae 45 (bh fL 9 (aa 40) (aa 44) 9)]
def Jp:aC:=
 [ae 46 (ay (aa 7)),
 ae 47 (ay (aa 8)),
 ae 48 (ay (aa 9)),
 ae 49 (aY ⟨bG (aa 46),#[aa 47,aa 48],#[3,3]⟩),
 ae 50 (ay (aa 7)),
 ae 51 (ay (aa 8)),
 ae 52 (bh d8 3 (aa 51) (aE (bq br 1)) 3),
 ae 53 (ay (aa 9)),
 ae 54 (bh d8 3 (aa 53) (aE (bq br 1)) 3),
 ae 55 (aY ⟨bG (aa 50),#[aa 52,aa 54],#[3,3]⟩),
 ae 56 (dE (aa 55)),
 ae 57 (aI 21 (aa 56)),
 ae 58 (bh d8 21 (aa 57) (aE (bq IntKind.i32 1)) 21),
 ae 59 (dE (aa 49)),
 ⟨none,dD 21 (aa 59) (aa 58),.aw⟩]
def mZ:aC:=
 [ae 60 (ay (aa 7)),
 ae 61 (ay (aa 8)),
 ae 62 (ay (aa 9)),
 ae 63 (aY ⟨bG (aa 60),#[aa 61,aa 62],#[3,3]⟩),
 ae 64 (ay (aa 7)),
 ae 65 (ay (aa 8)),
 ae 66 (bh d8 3 (aa 65) (aE (bq br 1)) 3),
 ae 67 (ay (aa 9)),
 ae 68 (aY ⟨bG (aa 64),#[aa 66,aa 67],#[3,3]⟩),
 ae 69 (dE (aa 68)),
 ae 70 (aI 21 (aa 69)),
 ae 71 (ay (aa 7)),
 ae 72 (ay (aa 8)),
 ae 73 (ay (aa 9)),
 ae 74 (bh d8 3 (aa 73) (aE (bq br 1)) 3),
 ae 75 (aY ⟨bG (aa 71),#[aa 72,aa 74],#[3,3]⟩),
 ae 76 (dE (aa 75)),
 ae 77 (aI 21 (aa 76)),
 ae 78 (aY ⟨cG Builtin.max,#[aa 70,aa 77],#[21,21]⟩),
 ae 79 (dE (aa 63)),
 ⟨none,dD 21 (aa 79) (aa 78),.aw⟩]
def Dw:aC:=
 [ae 35 (ay (aa 9)),
 ae 36 (bh ol 3 (aa 35) (aE (bq br 1)) 3),
 ae 9 (aJ (aa 36))]
def xo:SC:=
 (.seq (.seq (.region Dv)
 (.cond (aa 34) .skip (.exit 2)))
 (.seq (.block 3 (.seq (.draw Jo abA)
 (.cond (aa 45) (.region Jp) (.draw mZ abB))))
 (.region Dw)))
def JB:aC:=
 [ae 28 (ay (aa 8)),
 ae 29 (bh ol 3 (aa 28) (aE (bq br 1)) 3),
 ae 8 (aJ (aa 29))]
def zi:SC:=
 (.seq (.seq (.region Du)
 (.cond (aa 27) .skip (.exit 0)))
 (.seq (.block 1 (.seq (.region JC)
 (.block 2 (.loop xo))))
 (.region JB)))
def Jq:aC:=
 [ae 10 (aJ (aE (iM none 0 0)))]
def Jr:aC:=
 [ae 11 (aJ (aE (bq br 0))),
 ae 12 (aJ (aE (bq br 0)))]
def Dt:aC:=
 [ae 80 (ay (aa 11)),
 ae 81 (ay (aa 0)),
 ae 82 (aY ⟨cG cW,#[aa 81],#[37]⟩),
 ae 83 (bh eh 3 (aa 80) (aa 82) 3),
 ae 84 (ay (aa 83)),
 aM 85 (ay (aa 12)) 84 true,
 aM 86 (ay (aa 1)) 84 true,
 aM 87 (aY ⟨cG cW,#[aa 86],#[37]⟩) 84 true,
 aM 88 (bh eh 3 (aa 85) (aa 87) 3) 84 true,
 ae 89 (cX (aa 84) (aa 88) (aE (bK false)))]
def Jt:aC:=
 [ae 93 (ay (aa 0)),
 ae 94 (ay (aa 11)),
 ae 95 (dn 37 (aa 93) (aa 94)),
 ae 96 (aI 9 (aa 95)),
 ae 97 (ay (aa 1)),
 ae 98 (ay (aa 12)),
 ae 99 (dn 37 (aa 97) (aa 98)),
 ae 100 (aI 9 (aa 99)),
 ae 101 (bh fL 9 (aa 96) (aa 100) 9),
 ae 92 (aJ (aa 101))]
def Ju:aC:=
 [ae 102 (ay (aa 10)),
 ae 103 (ay (aa 11)),
 ae 104 (ay (aa 12)),
 ae 105 (kb 183 #[(0,aa 103),(1,aa 104)]),
 ae 106 (kE 180 1 #[(0,aa 105)]),
 ae 107 (aY ⟨cG nm,#[aa 102,aa 106],#[180,180]⟩),
 ae 10 (aJ (aa 107))]
def Jv:aC:=
 [ae 108 (ay (aa 11)),
 ae 109 (bh d8 3 (aa 108) (aE (bq br 1)) 3),
 ae 110 (ay (aa 12)),
 ae 111 (bh d8 3 (aa 110) (aE (bq br 1)) 3),
 ae 11 (aJ (aa 109)),
 ae 12 (aJ (aa 111))]
def qp:aC:=
 [ae 113 (ay (aa 7)),
 ae 114 (ay (aa 11)),
 ae 115 (bh d8 3 (aa 114) (aE (bq br 1)) 3),
 ae 116 (ay (aa 12)),
 ae 117 (aY ⟨bG (aa 113),#[aa 115,aa 116],#[3,3]⟩),
 ae 118 (dE (aa 117)),
 ae 119 (aI 21 (aa 118)),
 ae 120 (ay (aa 7)),
 ae 121 (ay (aa 11)),
 ae 122 (ay (aa 12)),
 ae 123 (aY ⟨bG (aa 120),#[aa 121,aa 122],#[3,3]⟩),
 ae 124 (dE (aa 123)),
 ae 125 (aI 21 (aa 124)),
 ae 126 (bh fL 21 (aa 119) (aa 125) 21),
 ae 112 (aJ (aa 126))]
def Jx:aC:=
 [ae 127 (ay (aa 11)),
 ae 128 (bh d8 3 (aa 127) (aE (bq br 1)) 3),
 ae 11 (aJ (aa 128))]
def Js:aC:=
 [ae 90 (ay (aa 12)),
 ae 91 (bh d8 3 (aa 90) (aE (bq br 1)) 3),
 ae 12 (aJ (aa 91))]
def xp:SC:=
 (.seq (.seq (.region Dt)
 (.cond (aa 89) .skip (.exit 4)))
 (.block 5 (.block 6 (.seq (.draw Jt abC)
 (.cond (aa 92) (.seq (.region Ju)
 (.region Jv)) (.seq (.draw qp abD)
 (.cond (aa 112) (.region Jx) (.region Js))))))))
def Jy:aC:=
 [ae 129 (ay (aa 10)),
 ae 4 (aJ (aa 129))]
def Jl:SC:=
 (.seq (.region Jm)
 (.seq (.region Jn)
 (.seq (.region Jw)
 (.seq (.region Jz)
 (.seq (.seq (.region JA)
 (.block 0 (.loop zi)))
 (.seq (.region Jq)
 (.seq (.seq (.region Jr)
 (.block 4 (.loop xp)))
 (.seq (.region Jy)
 .ret))))))))
theorem abF:Tryz.prog.funcs[115]? =some Tryz.f115:=by kernel_rfl
theorem abE:(Tryz.f115.body).map cL=some Jl:=by kernel_rfl
theorem abH:Tryz.f115.ntmps=130:=by kernel_rfl
theorem abG:Tryz.f115.results.toList=[dF 4]:=by kernel_rfl
theorem Y4:bI 115 5=0:=by kernel_rfl
theorem Y5:bI 115 6=0:=by kernel_rfl
theorem YZ:bI 115 14=0:=by kernel_rfl
theorem Y0:bI 115 17=0:=by kernel_rfl
theorem Y1:bI 115 21=0:=by kernel_rfl
theorem Y2:bI 115 24=0:=by kernel_rfl
theorem Y3:bI 115 31=0:=by kernel_rfl
theorem Dc:bI 115 82=0:=by kernel_rfl
theorem II:bI 115 87=0:=by kernel_rfl
theorem YX:bI 115 106=0:=by kernel_rfl
theorem YY:bI 115 107=0:=by kernel_rfl
def JE:aC:=
 [ae 6 (aJ (aE (iM none 0 0))),
 ae 7 (aJ (aE (bK false)))]
def JF:aC:=
 [ae 9 (ay (aa 1)),
 ae 10 (ay (aa 0)),
 ae 11 (aY ⟨bG (bM 37),#[aa 9,aa 10],#[37,37]⟩),
 ae 8 (aJ (aa 11))]
def JG:aC:=
 [ae 12 (ay (aa 2)),
 ae 6 (aJ (aa 12)),
 ae 7 (aJ (aE (bK true)))]
def JH:aC:=
 [ae 14 (ay (aa 2)),
 ae 15 (ay (aa 0)),
 ae 16 (aY ⟨bG (bM 37),#[aa 14,aa 15],#[37,37]⟩),
 ae 13 (aJ (aa 16))]
def JI:aC:=
 [ae 17 (ay (aa 2)),
 ae 18 (ay (aa 1)),
 ae 19 (aY ⟨bG (bM 37),#[aa 17,aa 18],#[37,37]⟩),
 ae 13 (aJ (aa 19))]
def Dx:aC:=
 [ae 20 (ay (aa 1)),
 ae 6 (aJ (aa 20)),
 ae 7 (aJ (aE (bK true)))]
def JJ:aC:=
 [ae 6 (aJ (aE (iM none 0 0))),
 ae 7 (aJ (aE (bK false)))]
def JD:SC:=
 (.seq (.region JE)
 (.seq (.block 0 (.seq (.region JF)
 (.cond (aa 8) (.seq (.region JG)
 .ret) (.seq (.seq (.region JH)
 (.cond (aa 13) .skip (.region JI)))
 (.cond (aa 13) (.seq (.region Dx)
 .ret) .skip)))))
 (.seq (.region JJ)
 .ret)))
theorem abJ:Tryz.prog.funcs[116]? =some Tryz.f116:=by kernel_rfl
theorem abI:(Tryz.f116.body).map cL=some JD:=by kernel_rfl
theorem abL:Tryz.f116.ntmps=21:=by kernel_rfl
theorem abK:Tryz.f116.results.toList=[dF 6,dF 7]:=by kernel_rfl
def abM:List Nat:=[0,0,2,6,14,0,32,0,128,384,896,1920,4064,8190,16383,32767,65535]
def JL:aC:=
 [ae 4 (aJ (aE (iM none 0 0)))]
def JM:aC:=
 [ae 6 (ay (aa 0)),
 ae 7 (dE (aa 6)),
 ae 8 (bA 189 (aa 7) 0),
 ae 9 (aI 37 (aa 8)),
 ae 10 (ay (aa 1)),
 ae 11 (ay (aa 1)),
 ae 12 (Op.slice 37 (aa 9) none (some (aa 10)) (some (aa 11))),
 ae 5 (aJ (aa 12))]
def tR:aC:=
 [ae 13 (ay (aa 0)),
 ae 14 (ay (aa 0)),
 ae 15 (dE (aa 14)),
 ae 16 (bA 189 (aa 15) 0),
 ae 17 (aI 37 (aa 16)),
 ae 18 (ay (aa 1)),
 ae 19 (bh d8 3 (aa 18) (aE (bq br 1)) 3),
 ae 20 (ay (aa 0)),
 ae 21 (dE (aa 20)),
 ae 22 (bA 189 (aa 21) 0),
 ae 23 (aI 37 (aa 22)),
 ae 24 (aY ⟨cG cW,#[aa 23],#[37]⟩),
 ae 25 (aY ⟨cG Builtin.min,#[aa 19,aa 24],#[3,3]⟩),
 ae 26 (Op.slice 37 (aa 17) (some (aa 25)) none none),
 ae 27 (dE (aa 13)),
 ae 28 (bA 189 (aa 27) 0),
 ⟨none,dD 37 (aa 28) (aa 26),.aw⟩]
def JN:aC:=
 [ae 29 (ay (aa 5)),
 ae 4 (aJ (aa 29))]
def JK:SC:=
 (.seq (.region JL)
 (.seq (.region JM)
 (.seq (.draw tR abM)
 (.seq (.region JN)
 .ret))))
theorem abO:Tryz.prog.funcs[117]? =some Tryz.f117:=by kernel_rfl
theorem abN:(Tryz.f117.body).map cL=some JK:=by kernel_rfl
theorem abQ:Tryz.f117.ntmps=30:=by kernel_rfl
theorem abP:Tryz.f117.results.toList=[dF 4]:=by kernel_rfl
theorem Y6:bI 117 24=0:=by kernel_rfl
theorem Y7:bI 117 25=0:=by kernel_rfl
def KW:aC:=
 [ae 4 (aJ (aE (bK false)))]
def KX:aC:=
 [ae 5 (ay (aa 0)),
 ae 6 (ay (aa 1)),
 ae 7 (aY ⟨bG (bM 238),#[aa 5,aa 6],#[286,288]⟩),
 ae 8 (bh qI 3 (aa 7) (aE (bq br 0)) 3),
 ae 4 (aJ (aa 8))]
def KV:SC:=
 (.seq (.region KW)
 (.seq (.region KX)
 .ret))
theorem acH:Tryz.prog.funcs[181]? =some Tryz.f181:=by kernel_rfl
theorem acG:(Tryz.f181.body).map cL=some KV:=by kernel_rfl
theorem acJ:Tryz.f181.ntmps=9:=by kernel_rfl
theorem acI:Tryz.f181.results.toList=[dF 4]:=by kernel_rfl
def K0:aC:=
 [ae 2 (aJ (aE (bK false)))]
def K1:aC:=
 [ae 3 (ay (aa 0)),
 ae 4 (aY ⟨cG cW,#[aa 3],#[37]⟩),
 ae 5 (bh oh 3 (aa 4) (aE (bq br 2000)) 3),
 ae 2 (aJ (aa 5))]
def KZ:SC:=
 (.seq (.region K0)
 (.seq (.region K1)
 .ret))
theorem acL:Tryz.prog.funcs[182]? =some Tryz.f182:=by kernel_rfl
theorem acK:(Tryz.f182.body).map cL=some KZ:=by kernel_rfl
theorem acN:Tryz.f182.ntmps=6:=by kernel_rfl
theorem acM:Tryz.f182.results.toList=[dF 2]:=by kernel_rfl
theorem Zs:bI 182 4=0:=by kernel_rfl
def K6:aC:=
 [ae 6 (aJ (aE (lY none)))]
def K7:aC:=
 [ae 7 (aI 289 (aa 2)),
 ae 8 (ay (aa 0)),
 ae 9 (aI 3 (aa 3)),
 ae 10 (bh BinOp.mul 3 (aa 8) (aa 9) 3),
 ae 11 (ay (aa 1)),
 ae 12 (bh d8 3 (aa 10) (aa 11) 3),
 ae 13 (dn 289 (aa 7) (aa 12)),
 ae 6 (aJ (aa 13))]
def K4:SC:=
 (.seq (.region K6)
 (.seq (.region K7)
 .ret))
theorem acP:Tryz.prog.funcs[183]? =some Tryz.f183:=by kernel_rfl
theorem acO:(Tryz.f183.body).map cL=some K4:=by kernel_rfl
theorem acR:Tryz.f183.ntmps=14:=by kernel_rfl
theorem acQ:Tryz.f183.results.toList=[dF 6]:=by kernel_rfl
def Mc:aC:=
 [ae 4 (aJ (aE (bq br 0)))]
def Md:aC:=
 [ae 6 (ay (aa 0)),
 ae 7 (aY ⟨cG cW,#[aa 6],#[286]⟩),
 ae 8 (ay (aE (bq br 0)))]
def DL:aC:=
 [ae 9 (bh eh 3 (aa 8) (aa 7) 3)]
def Me:aC:=
 [ae 10 (ay (aa 8)),
 ae 5 (aJ (aa 10))]
def Mf:aC:=
 [ae 11 (ay (aa 1)),
 ae 12 (ay (aa 0)),
 ae 13 (ay (aa 5)),
 ae 14 (dn 286 (aa 12) (aa 13)),
 ae 15 (aI 37 (aa 14)),
 ae 16 (aY ⟨bG (aa 11),#[aa 15],#[37]⟩)]
def Mh:aC:=
 [ae 17 (ay (aa 5)),
 ae 4 (aJ (aa 17))]
def Mi:aC:=
 [ae 18 (bh d8 3 (aa 8) (aE (bq br 1)) 3),
 ae 8 (ay (aa 18))]
def zx:SC:=
 (.seq (.region DL)
 (.seq (.cond (aa 9) .skip (.exit 0))
 (.seq (.block 1 (.seq (.region Me)
 (.seq (.region Mf)
 (.cond (aa 16) (.seq (.region Mh)
 .ret) .skip))))
 (.region Mi))))
def Mj:aC:=
 [ae 4 (aJ (aE (bq br (-1))))]
def Mb:SC:=
 (.seq (.region Mc)
 (.seq (.seq (.region Md)
 (.block 0 (.loop zx)))
 (.seq (.region Mj)
 .ret)))
theorem adr:Tryz.prog.funcs[238]? =some Tryz.f238:=by kernel_rfl
theorem adq:(Tryz.f238.body).map cL=some Mb:=by kernel_rfl
theorem adt:Tryz.f238.ntmps=19:=by kernel_rfl
theorem ads:Tryz.f238.results.toList=[dF 4]:=by kernel_rfl
theorem Zy:bI 238 7=0:=by kernel_rfl
def agG:List Nat:=[0,0,2,7,0,0,32,15,255,511]
def P3:aC:=
 [ae 6 (aJ (aE (iM none 0 0))),
 ae 7 (aJ (aE (iM none 0 0)))]
def P4:aC:=
 [ae 20 (ay (aa 0)),
 ae 21 (ay (aa 1)),
 ae 22 (ay (aa 2)),
 ae 23 (kb 194 #[(0,aa 20),(1,aa 21),(2,aa 22)]),
 ae 8 (eZ 194),
 ⟨none,dD 194 (aa 8) (aa 23),.aw⟩]
def Qc:aC:=
 [ae 24 (Op.makeMap 195 none),
 ae 9 (aJ (aa 24))]
def Qg:aC:=
 [ae 25 (aI 194 (aa 8)),
 ae 26 (ay (aE (bq br 0)))]
def EH:aC:=
 [ae 27 (bh eh 3 (aa 26) (aE (bq br 3)) 3)]
def Qi:aC:=
 [ae 28 (ay (aa 26)),
 ae 29 (Op.index 194 (aa 25) (aa 26)),
 ae 10 (aJ (aa 28)),
 ae 11 (aJ (aa 29))]
def Qj:aC:=
 [ae 30 (ay (aa 11)),
 ae 31 (aY ⟨bG (bM 59),#[aa 30],#[38]⟩),
 ae 32 (fM UnOp.not 4 (aa 31))]
def agJ:aC:=
 [ae 6 (aJ (aE (iM none 0 0))),
 ae 7 (aJ (aE (iM none 0 0)))]
def Qk:aC:=
 [ae 33 (ay (aa 11)),
 ae 34 (aY ⟨cG cW,#[aa 33],#[38]⟩),
 ae 35 (ay (aE (bq br 0)))]
def EJ:aC:=
 [ae 36 (bh eh 3 (aa 35) (aa 34) 3)]
def P5:aC:=
 [ae 37 (dn 38 (aa 33) (aa 35)),
 ae 38 (aI 51 (aa 37)),
 ae 13 (eZ 51),
 ⟨none,dD 51 (aa 13) (aa 38),.aw⟩]
def P6:aC:=
 [ae 39 (ay (aa 9)),
 ae 40 (bA 51 (aa 13) 0),
 ae 41 (aI 9 (aa 40)),
 ae 42 (nu 195 (aa 39) (aa 41) false),
 ae 43 (bh fL 196 (aa 42) (aE (lY none)) 196)]
def P7:aC:=
 [ae 44 (ay (aa 9)),
 ae 45 (bA 51 (aa 13) 0),
 ae 46 (aI 9 (aa 45)),
 ae 47 (eZ 197),
 ⟨none,uH 195 (aa 44) (aa 46) (aa 47),.aw⟩]
def pA:aC:=
 [ae 48 (ay (aa 9)),
 ae 49 (bA 51 (aa 13) 0),
 ae 50 (aI 9 (aa 49)),
 ae 51 (nu 195 (aa 48) (aa 50) false),
 ae 52 (ay (aa 10)),
 ae 53 (bA 51 (aa 13) 1),
 ae 54 (aI 9 (aa 53)),
 ae 55 (dE (aa 51)),
 ae 56 (dn 197 (aa 55) (aa 52)),
 ⟨none,dD 9 (aa 56) (aa 54),.aw⟩]
def Ey:aC:=
 [ae 57 (bh d8 3 (aa 35) (aE (bq br 1)) 3),
 ae 35 (ay (aa 57))]
def xy:SC:=
 (.seq (.region EJ)
 (.seq (.cond (aa 36) .skip (.exit 2))
 (.seq (.block 3 (.seq (.region P5)
 (.seq (.seq (.region P6)
 (.cond (aa 43) (.region P7) .skip))
 (.draw pA agG))))
 (.region Ey))))
def P8:aC:=
 [ae 58 (bh d8 3 (aa 26) (aE (bq br 1)) 3),
 ae 26 (ay (aa 58))]
def vz:SC:=
 (.seq (.region EH)
 (.seq (.cond (aa 27) .skip (.exit 0))
 (.seq (.block 1 (.seq (.region Qi)
 (.seq (.seq (.region Qj)
 (.cond (aa 32) (.seq (.region agJ)
 .ret) .skip))
 (.seq (.region Qk)
 (.block 2 (.loop xy))))))
 (.region P8))))
def P9:aC:=
 [ae 14 (aJ (aE (iM none 0 0)))]
def Qa:aC:=
 [ae 15 (aJ (aE (iM none 0 0)))]
def Qb:aC:=
 [ae 59 (ay (aa 9)),
 ae 60 (aY ⟨bG (bM 120),#[aa 59],#[195]⟩),
 ae 61 (aY ⟨bG (bM 25),#[aa 60],#[71]⟩),
 ae 62 (aY ⟨cG cW,#[aa 61],#[37]⟩),
 ae 63 (ay (aE (bq br 0)))]
def zT:aC:=
 [ae 64 (bh eh 3 (aa 63) (aa 62) 3)]
def Qd:aC:=
 [ae 65 (dn 37 (aa 61) (aa 63)),
 ae 66 (aI 9 (aa 65)),
 ae 17 (aJ (aa 66))]
def Qe:aC:=
 [ae 67 (ay (aa 9)),
 ae 68 (ay (aa 17)),
 ae 69 (nu 195 (aa 67) (aa 68) false),
 ae 70 (dE (aa 69)),
 ae 71 (aI 197 (aa 70)),
 ae 18 (eZ 197),
 ⟨none,dD 197 (aa 18) (aa 71),.aw⟩]
def Qf:aC:=
 [ae 72 (dn 197 (aa 18) (aE (bq br 0))),
 ae 73 (aI 9 (aa 72)),
 ae 19 (aJ (aa 73))]
def Ez:aC:=
 [ae 79 (aI 197 (aa 18)),
 ae 80 (dn 197 (aa 18) (aE (bq br 0))),
 ae 81 (aI 9 (aa 80)),
 ae 82 (dn 197 (aa 18) (aE (bq br 1))),
 ae 83 (aI 9 (aa 82)),
 ae 84 (dn 197 (aa 18) (aE (bq br 1))),
 ae 85 (aI 9 (aa 84)),
 ae 86 (kb 197 #[(0,aa 81),(1,aa 83),(2,aa 85)]),
 ae 87 (bh fL 197 (aa 79) (aa 86) 197),
 ae 78 (aJ (aa 87))]
def EA:aC:=
 [ae 88 (aI 197 (aa 18)),
 ae 89 (dn 197 (aa 18) (aE (bq br 0))),
 ae 90 (aI 9 (aa 89)),
 ae 91 (dn 197 (aa 18) (aE (bq br 1))),
 ae 92 (aI 9 (aa 91)),
 ae 93 (dn 197 (aa 18) (aE (bq br 0))),
 ae 94 (aI 9 (aa 93)),
 ae 95 (kb 197 #[(0,aa 90),(1,aa 92),(2,aa 94)]),
 ae 96 (bh fL 197 (aa 88) (aa 95) 197),
 ae 78 (aJ (aa 96))]
def zV:aC:=
 [ae 97 (dn 197 (aa 18) (aE (bq br 1))),
 ae 98 (aI 9 (aa 97)),
 ae 19 (aJ (aa 98))]
def zW:aC:=
 [ae 100 (aI 197 (aa 18)),
 ae 101 (dn 197 (aa 18) (aE (bq br 0))),
 ae 102 (aI 9 (aa 101)),
 ae 103 (dn 197 (aa 18) (aE (bq br 0))),
 ae 104 (aI 9 (aa 103)),
 ae 105 (dn 197 (aa 18) (aE (bq br 2))),
 ae 106 (aI 9 (aa 105)),
 ae 107 (kb 197 #[(0,aa 102),(1,aa 104),(2,aa 106)]),
 ae 108 (bh fL 197 (aa 100) (aa 107) 197),
 ae 99 (aJ (aa 108))]
def zX:aC:=
 [ae 109 (dn 197 (aa 18) (aE (bq br 2))),
 ae 110 (aI 9 (aa 109)),
 ae 19 (aJ (aa 110))]
def zU:aC:=
 [ae 74 (ay (aa 15)),
 ae 75 (ay (aa 17)),
 ae 76 (kE 37 1 #[(0,aa 75)]),
 ae 77 (aY ⟨cG nm,#[aa 74,aa 76],#[37,37]⟩),
 ae 15 (aJ (aa 77))]
def EB:aC:=
 [ae 112 (ay (aa 19)),
 ae 113 (bh fL 9 (aa 112) (aE (jh {data:= #[] })) 9),
 ae 111 (aJ (aa 113))]
def EC:aC:=
 [ae 115 (ay (aa 14)),
 ae 116 (aY ⟨cG cW,#[aa 115],#[38]⟩),
 ae 117 (bh eh 3 (aa 116) (aE (bq br 60)) 3),
 ae 114 (aJ (aa 117))]
def ED:aC:=
 [ae 118 (ay (aa 14)),
 ae 119 (ay (aa 17)),
 ae 120 (ay (aa 19)),
 ae 121 (kb 51 #[(0,aa 119),(1,aa 120)]),
 ae 122 (kE 38 1 #[(0,aa 121)]),
 ae 123 (aY ⟨cG nm,#[aa 118,aa 122],#[38,38]⟩),
 ae 14 (aJ (aa 123))]
def EE:aC:=
 [ae 125 (ay (aa 15)),
 ae 126 (ay (aa 17)),
 ae 127 (aY ⟨bG (bM 121),#[aa 125,aa 126],#[37,9]⟩),
 ae 128 (fM UnOp.not 4 (aa 127)),
 ae 124 (aJ (aa 128))]
def EF:aC:=
 [ae 129 (ay (aa 15)),
 ae 130 (ay (aa 17)),
 ae 131 (kE 37 1 #[(0,aa 130)]),
 ae 132 (aY ⟨cG nm,#[aa 129,aa 131],#[37,37]⟩),
 ae 15 (aJ (aa 132))]
def Qh:aC:=
 [ae 133 (bh d8 3 (aa 63) (aE (bq br 1)) 3),
 ae 63 (ay (aa 133))]
def xz:SC:=
 (.seq (.region zT)
 (.seq (.cond (aa 64) .skip (.exit 4))
 (.seq (.block 5 (.seq (.region Qd)
 (.seq (.region Qe)
 (.seq (.region Qf)
 (.seq (.block 6 (.seq (.seq (.region Ez)
 (.cond (aa 78) .skip (.region EA)))
 (.cond (aa 78) (.region zV) (.seq (.region zW)
 (.cond (aa 99) (.region zX) (.region zU))))))
 (.block 7 (.seq (.region EB)
 (.cond (aa 111) .skip (.seq (.region EC)
 (.cond (aa 114) (.region ED) (.seq (.region EE)
 (.cond (aa 124) (.region EF) .skip))))))))))))
 (.region Qh))))
def EG:aC:=
 [ae 134 (ay (aa 14)),
 ae 135 (ay (aa 15)),
 ae 6 (aJ (aa 134)),
 ae 7 (aJ (aa 135))]
def P0:SC:=
 (.seq (.region P3)
 (.seq (.region P4)
 (.seq (.region Qc)
 (.seq (.seq (.region Qg)
 (.block 0 (.loop vz)))
 (.seq (.region P9)
 (.seq (.region Qa)
 (.seq (.seq (.region Qb)
 (.block 4 (.loop xz)))
 (.seq (.region EG)
 .ret))))))))
theorem agI:Tryz.prog.funcs[76]? =some Tryz.f76:=by kernel_rfl
theorem agH:(Tryz.f76.body).map cL=some P0:=by kernel_rfl
theorem agL:Tryz.f76.ntmps=136:=by kernel_rfl
theorem agK:Tryz.f76.results.toList=[dF 6,dF 7]:=by kernel_rfl
theorem aaF:bI 76 8=1:=by kernel_rfl
theorem aax:bI 76 13=1:=by kernel_rfl
theorem aaA:bI 76 18=1:=by kernel_rfl
theorem aaB:bI 76 34=0:=by kernel_rfl
theorem aaC:bI 76 47=0:=by kernel_rfl
theorem IR:bI 76 62=0:=by kernel_rfl
theorem aaD:bI 76 76=0:=by kernel_rfl
theorem aaE:bI 76 77=0:=by kernel_rfl
theorem aau:bI 76 116=0:=by kernel_rfl
theorem aav:bI 76 122=0:=by kernel_rfl
theorem aaw:bI 76 123=0:=by kernel_rfl
theorem aay:bI 76 131=0:=by kernel_rfl
theorem aaz:bI 76 132=0:=by kernel_rfl
def Ol:List Nat:=[0,1,3,7,0,16,48,112,0,256,768,1792,4095,8191,16383,16383,32767,131071]
def Om:List Nat:=[0,0,2,6,14,0,32,96,224,0,512,1536,3584,0,8192,24576,57344,131071,262143,524287]
def aeK:List Nat:=[0,1,3,7,0,16,48,112,0,256,768,1792,4095,8191,16383,16383,32767,131071]
def On:aC:=
 [ae 8 (aJ (aE (lY none)))]
def Oo:aC:=
 [ae 16 (ay (aa 1)),
 ae 17 (dE (aa 16)),
 ae 18 (aI 40 (aa 17)),
 ae 9 (eZ 40),
 ⟨none,dD 40 (aa 9) (aa 18),.aw⟩]
def D7:aC:=
 [ae 20 (ay (aa 1)),
 ae 21 (dE (aa 20)),
 ae 22 (bA 40 (aa 21) 3),
 ae 23 (aI 37 (aa 22)),
 ae 24 (ay (aa 2)),
 ae 25 (dE (aa 24)),
 ae 26 (bA 40 (aa 25) 3),
 ae 27 (aI 37 (aa 26)),
 ae 28 (ay (aa 3)),
 ae 29 (dE (aa 28)),
 ae 30 (bA 40 (aa 29) 3),
 ae 31 (aI 37 (aa 30)),
 ae 32 (aY ⟨bG (bM 74),#[aa 23,aa 27,aa 31],#[37,37,37]⟩),
 ae 19 (ay (aa 32)),
 ae 33 (fe (aa 19) 0),
 ae 34 (fe (aa 19) 1),
 ae 10 (aJ (aa 33)),
 ae 11 (aJ (aa 34))]
def zH:aC:=
 [ae 35 (ay (aa 10)),
 ae 36 (bA 40 (aa 9) 3),
 ⟨none,dD 37 (aa 36) (aa 35),.aw⟩]
def zI:aC:=
 [ae 37 (ay (aa 11)),
 ae 38 (fM UnOp.not 4 (aa 37)),
 ae 39 (ay (aa 38)),
 aM 40 (aI 40 (aa 9)) 39 false,
 aM 41 (aY ⟨bG (bM 36),#[aa 40],#[40]⟩) 39 false,
 aM 42 (fM UnOp.not 4 (aa 41)) 39 false,
 ae 43 (cX (aa 39) (aE (bK true)) (aa 42))]
def zJ:aC:=
 [ae 44 (ay (aa 0)),
 ae 45 (ay (aa 1)),
 ae 46 (dE (aa 45)),
 ae 47 (bA 40 (aa 46) 0),
 ae 48 (aI 9 (aa 47)),
 ae 49 (aY {callee:=bG (bM 45),args:= #[aa 44,aa 48,aE (jh {data:= #[114,101,102,115] })],argTypes:= #[60,9,9] })]
def zK:aC:=
 [ae 50 (ay (aa 1)),
 ae 51 (dE (aa 50)),
 ae 52 (bA 40 (aa 51) 3),
 ae 53 (aI 37 (aa 52)),
 ae 54 (bA 40 (aa 9) 3),
 ⟨none,dD 37 (aa 54) (aa 53),.aw⟩]
def vw:aC:=
 [ae 55 (ay (aa 0)),
 ae 56 (ay (aa 1)),
 ae 57 (dE (aa 56)),
 ae 58 (bA 40 (aa 57) 0),
 ae 59 (aI 9 (aa 58)),
 ae 60 (ay (aa 1)),
 ae 61 (dE (aa 60)),
 ae 62 (bA 40 (aa 61) 2),
 ae 63 (aI 36 (aa 62)),
 ae 64 (ay (aa 2)),
 ae 65 (dE (aa 64)),
 ae 66 (bA 40 (aa 65) 2),
 ae 67 (aI 36 (aa 66)),
 ae 68 (ay (aa 3)),
 ae 69 (dE (aa 68)),
 ae 70 (bA 40 (aa 69) 2),
 ae 71 (aI 36 (aa 70)),
 ae 72 (aY ⟨bG (bM 75),#[aa 55,aa 59,aa 63,aa 67,aa 71],#[60,9,36,36,36]⟩),
 ae 73 (bA 40 (aa 9) 2),
 ⟨none,dD 36 (aa 73) (aa 72),.aw⟩]
def Ox:aC:=
 [ae 75 (ay (aa 1)),
 ae 76 (dE (aa 75)),
 ae 77 (bA 40 (aa 76) 4),
 ae 78 (aI 38 (aa 77)),
 ae 79 (ay (aa 2)),
 ae 80 (dE (aa 79)),
 ae 81 (bA 40 (aa 80) 4),
 ae 82 (aI 38 (aa 81)),
 ae 83 (ay (aa 3)),
 ae 84 (dE (aa 83)),
 ae 85 (bA 40 (aa 84) 4),
 ae 86 (aI 38 (aa 85)),
 ae 87 (aY ⟨bG (bM 76),#[aa 78,aa 82,aa 86],#[38,38,38]⟩),
 ae 74 (ay (aa 87)),
 ae 88 (fe (aa 74) 0),
 ae 89 (fe (aa 74) 1),
 ae 12 (aJ (aa 88)),
 ae 13 (aJ (aa 89))]
def Oy:aC:=
 [ae 90 (ay (aa 12)),
 ae 91 (bA 40 (aa 9) 4),
 ⟨none,dD 38 (aa 91) (aa 90),.aw⟩]
def Oq:aC:=
 [ae 92 (ay (aa 13)),
 ae 93 (aY ⟨cG cW,#[aa 92],#[37]⟩),
 ae 94 (ay (aE (bq br 0)))]
def D6:aC:=
 [ae 95 (bh eh 3 (aa 94) (aa 93) 3)]
def Ot:aC:=
 [ae 96 (dn 37 (aa 92) (aa 94)),
 ae 97 (aI 9 (aa 96)),
 ae 15 (aJ (aa 97))]
def Ou:aC:=
 [ae 98 (ay (aa 0)),
 ae 99 (ay (aa 1)),
 ae 100 (dE (aa 99)),
 ae 101 (bA 40 (aa 100) 0),
 ae 102 (aI 9 (aa 101)),
 ae 103 (ay (aa 15)),
 ae 104 (bh d8 9 (aE (jh {data:= #[116,97,103,32] })) (aa 103) 9),
 ae 105 (aY ⟨bG (bM 45),#[aa 98,aa 102,aa 104],#[60,9,9]⟩)]
def Ov:aC:=
 [ae 106 (bh d8 3 (aa 94) (aE (bq br 1)) 3),
 ae 94 (ay (aa 106))]
def zG:SC:=
 (.seq (.region D6)
 (.seq (.cond (aa 95) .skip (.exit 0))
 (.seq (.block 1 (.seq (.region Ot)
 (.region Ou)))
 (.region Ov))))
def Ow:aC:=
 [ae 8 (aJ (aa 9))]
def Oj:SC:=
 (.seq (.region On)
 (.seq (.region Oo)
 (.seq (.draw D7 Ol)
 (.seq (.region zH)
 (.seq (.seq (.region zI)
 (.cond (aa 43) (.seq (.region zJ)
 (.region zK)) .skip))
 (.seq (.draw vw Om)
 (.seq (.draw Ox aeK)
 (.seq (.region Oy)
 (.seq (.seq (.region Oq)
 (.block 0 (.loop zG)))
 (.seq (.region Ow)
 .ret))))))))))
theorem aeM:Tryz.prog.funcs[44]? =some Tryz.f44:=by kernel_rfl
theorem aeL:(Tryz.f44.body).map cL=some Oj:=by kernel_rfl
theorem aeO:Tryz.f44.ntmps=107:=by kernel_rfl
theorem aeN:Tryz.f44.results.toList=[dF 8]:=by kernel_rfl
theorem Z0:bI 44 9=0:=by kernel_rfl
theorem Z1:bI 44 93=0:=by kernel_rfl
def aez:List Nat:=[0,0,2,7,15,31,0,0,192,448,960,2047,4095,8191,8191,24575,65535,131071,262143,8191,8191,1581055,3678207,7872511,16777215,33554431,67108863,67108863,201326591,536870911,1073741823,2147483647,67108863,67108863,12952010751,30131879935,64491618303,137438953471,274877906943,549755813887]
def N7:aC:=
 [ae 3 (e7 24 (aa 0)),
 ae 4 (e7 24 (aa 1)),
 ae 5 (e7 24 (aa 2)),
 ae 6 (aJ (aE (bK false)))]
def N8:aC:=
 [ae 13 (aY ⟨bG (bM 7),#[],#[]⟩),
 ae 7 (aJ (aa 13))]
def N9:aC:=
 [ae 14 (aI 24 (aa 3)),
 ae 15 (aI 24 (aa 4)),
 ae 16 (aI 24 (aa 5)),
 ae 17 (aY ⟨bG (bM 8),#[aa 14,aa 15,aa 16],#[24,24,24]⟩),
 ae 18 (fM UnOp.not 4 (aa 17))]
def Oa:aC:=
 [ae 19 (ay (aa 7)),
 ae 6 (aJ (aa 19))]
def Ob:aC:=
 [ae 21 (aI 24 (aa 3)),
 ae 22 (aI 24 (aa 4)),
 ae 23 (aI 24 (aa 5)),
 ae 24 (aY ⟨bG (bM 9),#[aa 21,aa 22,aa 23],#[24,24,24]⟩),
 ae 20 (ay (aa 24)),
 ae 25 (fe (aa 20) 0),
 ae 26 (fe (aa 20) 1),
 ae 8 (eZ 24),
 ⟨none,dD 24 (aa 8) (aa 25),.aw⟩,
 ae 9 (aJ (aa 26))]
def Oc:aC:=
 [ae 28 (aI 24 (aa 3)),
 ae 29 (aI 24 (aa 5)),
 ae 30 (aI 24 (aa 4)),
 ae 31 (aY ⟨bG (bM 9),#[aa 28,aa 29,aa 30],#[24,24,24]⟩),
 ae 27 (ay (aa 31)),
 ae 32 (fe (aa 27) 0),
 ae 33 (fe (aa 27) 1),
 ae 10 (eZ 24),
 ⟨none,dD 24 (aa 10) (aa 32),.aw⟩,
 ae 11 (aJ (aa 33))]
def D4:aC:=
 [ae 12 (aJ (aE (bq br 1)))]
def zE:aC:=
 [ae 34 (ay (aa 12)),
 ae 35 (ay (aa 9)),
 ae 36 (aY ⟨cG cW,#[aa 35],#[27]⟩),
 ae 37 (bh eh 3 (aa 34) (aa 36) 3)]
def Od:aC:=
 [ae 40 (ay (aa 9)),
 ae 41 (ay (aa 12)),
 ae 42 (bh ol 3 (aa 41) (aE (bq br 1)) 3),
 ae 43 (dn 27 (aa 40) (aa 42)),
 ae 44 (bA 31 (aa 43) 0),
 ae 45 (aI 9 (aa 44)),
 ae 46 (ay (aa 9)),
 ae 47 (ay (aa 12)),
 ae 48 (dn 27 (aa 46) (aa 47)),
 ae 49 (bA 31 (aa 48) 0),
 ae 50 (aI 9 (aa 49)),
 ae 51 (bh oh 9 (aa 45) (aa 50) 9),
 ae 52 (ay (aa 51)),
 aM 53 (ay (aa 9)) 52 false,
 aM 54 (ay (aa 12)) 52 false,
 aM 55 (bh ol 3 (aa 54) (aE (bq br 1)) 3) 52 false,
 aM 56 (dn 27 (aa 53) (aa 55)) 52 false,
 aM 57 (bA 31 (aa 56) 0) 52 false,
 aM 58 (aI 9 (aa 57)) 52 false,
 aM 59 (ay (aa 9)) 52 false,
 aM 60 (ay (aa 12)) 52 false,
 aM 61 (dn 27 (aa 59) (aa 60)) 52 false,
 aM 62 (bA 31 (aa 61) 0) 52 false,
 aM 63 (aI 9 (aa 62)) 52 false,
 aM 64 (bh fL 9 (aa 58) (aa 63) 9) 52 false,
 aM 65 (ay (aa 64)) 52 false,
 aM 66 (ay (aa 9)) 65 true,
 aM 67 (ay (aa 12)) 65 true,
 aM 68 (bh ol 3 (aa 67) (aE (bq br 1)) 3) 65 true,
 aM 69 (dn 27 (aa 66) (aa 68)) 65 true,
 aM 70 (bA 31 (aa 69) 1) 65 true,
 aM 71 (aI 9 (aa 70)) 65 true,
 aM 72 (ay (aa 9)) 65 true,
 aM 73 (ay (aa 12)) 65 true,
 aM 74 (dn 27 (aa 72) (aa 73)) 65 true,
 aM 75 (bA 31 (aa 74) 1) 65 true,
 aM 76 (aI 9 (aa 75)) 65 true,
 aM 77 (bh qI 9 (aa 71) (aa 76) 9) 65 true,
 aM 78 (cX (aa 65) (aa 77) (aE (bK false))) 52 false,
 ae 79 (cX (aa 52) (aE (bK true)) (aa 78))]
def aeC:aC:=
 [ae 6 (aJ (aE (bK false)))]
def D5:aC:=
 [ae 38 (ay (aa 12)),
 ae 39 (bh d8 3 (aa 38) (aE (bq br 1)) 3),
 ae 12 (aJ (aa 39))]
def vv:SC:=
 (.seq (.seq (.region zE)
 (.cond (aa 37) .skip (.exit 0)))
 (.seq (.block 1 (.seq (.draw Od aez)
 (.cond (aa 79) (.seq (.region aeC)
 .ret) .skip)))
 (.region D5)))
def tS:aC:=
 [ae 80 (ay (aa 7)),
 ae 81 (ay (aa 80)),
 aM 82 (aI 24 (aa 8)) 81 true,
 aM 83 (aI 24 (aa 10)) 81 true,
 aM 84 (aY ⟨bG (bM 10),#[aa 82,aa 83],#[24,24]⟩) 81 true,
 ae 85 (cX (aa 81) (aa 84) (aE (bK false))),
 ae 86 (ay (aa 85)),
 aM 87 (ay (aa 9)) 86 true,
 aM 88 (ay (aa 11)) 86 true,
 aM 89 (aY ⟨bG (bM 11),#[aa 87,aa 88],#[27,27]⟩) 86 true,
 ae 90 (cX (aa 86) (aa 89) (aE (bK false))),
 ae 6 (aJ (aa 90))]
def k3:SC:=
 (.seq (.region N7)
 (.seq (.region N8)
 (.seq (.seq (.region N9)
 (.cond (aa 18) (.seq (.region Oa)
 .ret) .skip))
 (.seq (.region Ob)
 (.seq (.region Oc)
 (.seq (.seq (.region D4)
 (.block 0 (.loop vv)))
 (.seq (.region tS)
 .ret)))))))
theorem aeB:Tryz.prog.funcs[3]? =some Tryz.f3:=by kernel_rfl
theorem aeA:(Tryz.f3.body).map cL=some k3:=by kernel_rfl
theorem aeE:Tryz.f3.ntmps=91:=by kernel_rfl
theorem aeD:Tryz.f3.results.toList=[dF 6]:=by kernel_rfl
theorem ZW:bI 3 3=1:=by kernel_rfl
theorem ZX:bI 3 4=1:=by kernel_rfl
theorem ZY:bI 3 5=1:=by kernel_rfl
theorem ZZ:bI 3 8=1:=by kernel_rfl
theorem ZV:bI 3 10=1:=by kernel_rfl
theorem De:bI 3 36=0:=by kernel_rfl
def afC:aC:=
 [ae 4 (e7 24 (aa 0)),
 ae 5 (e7 24 (aa 1)),
 ae 6 (e7 24 (aa 2)),
 ae 8 (aJ (aE (bK false)))]
def afD:aC:=
 [ae 23 (aY ⟨bG (bM 7),#[],#[]⟩),
 ae 9 (aJ (aa 23))]
def afO:aC:=
 [ae 24 (aI 24 (aa 4)),
 ae 25 (aI 24 (aa 5)),
 ae 26 (aI 24 (aa 6)),
 ae 27 (aY ⟨bG (bM 8),#[aa 24,aa 25,aa 26],#[24,24,24]⟩),
 ae 28 (fM UnOp.not 4 (aa 27)),
 ae 29 (ay (aa 28)),
 aM 30 (aI 24 (aa 4)) 29 false,
 aM 31 (aY ⟨bG (bM 13),#[aa 30],#[24]⟩) 29 false,
 aM 32 (fM UnOp.not 4 (aa 31)) 29 false,
 ae 33 (cX (aa 29) (aE (bK true)) (aa 32)),
 ae 34 (ay (aa 33)),
 aM 35 (aI 24 (aa 5)) 34 false,
 aM 36 (aY ⟨bG (bM 13),#[aa 35],#[24]⟩) 34 false,
 aM 37 (fM UnOp.not 4 (aa 36)) 34 false,
 ae 38 (cX (aa 34) (aE (bK true)) (aa 37)),
 ae 39 (ay (aa 38)),
 aM 40 (aI 24 (aa 6)) 39 false,
 aM 41 (aY ⟨bG (bM 13),#[aa 40],#[24]⟩) 39 false,
 aM 42 (fM UnOp.not 4 (aa 41)) 39 false,
 ae 43 (cX (aa 39) (aE (bK true)) (aa 42)),
 ae 44 (ay (aa 43)),
 aM 45 (ay (aa 3)) 44 false,
 aM 46 (aY ⟨cG cW,#[aa 45],#[9]⟩) 44 false,
 aM 47 (bh oh 3 (aa 46) (aE (bq br 60)) 3) 44 false,
 ae 48 (cX (aa 44) (aE (bK true)) (aa 47))]
def afP:aC:=
 [ae 49 (ay (aa 9)),
 ae 8 (aJ (aa 49))]
def afQ:aC:=
 [ae 51 (aI 24 (aa 4)),
 ae 52 (aI 24 (aa 5)),
 ae 53 (aI 24 (aa 6)),
 ae 54 (aY ⟨bG (bM 9),#[aa 51,aa 52,aa 53],#[24,24,24]⟩),
 ae 50 (ay (aa 54)),
 ae 55 (fe (aa 50) 0),
 ae 56 (fe (aa 50) 1),
 ae 10 (eZ 24),
 ⟨none,dD 24 (aa 10) (aa 55),.aw⟩,
 ae 11 (aJ (aa 56))]
def afR:aC:=
 [ae 58 (aI 24 (aa 10)),
 ae 59 (ay (aa 3)),
 ae 60 (aY ⟨bG (bM 14),#[aa 58,aa 59],#[24,9]⟩),
 ae 57 (ay (aa 60)),
 ae 61 (fe (aa 57) 0),
 ae 62 (fe (aa 57) 1),
 ae 12 (eZ 40),
 ⟨none,dD 40 (aa 12) (aa 61),.aw⟩,
 ae 13 (aJ (aa 62))]
def afS:aC:=
 [ae 64 (aI 24 (aa 4)),
 ae 65 (ay (aa 3)),
 ae 66 (aY ⟨bG (bM 14),#[aa 64,aa 65],#[24,9]⟩),
 ae 63 (ay (aa 66)),
 ae 67 (fe (aa 63) 0),
 ae 68 (fe (aa 63) 1),
 ae 14 (eZ 40),
 ⟨none,dD 40 (aa 14) (aa 67),.aw⟩,
 ae 15 (aJ (aa 68))]
def afT:aC:=
 [ae 70 (aI 24 (aa 5)),
 ae 71 (ay (aa 3)),
 ae 72 (aY ⟨bG (bM 14),#[aa 70,aa 71],#[24,9]⟩),
 ae 69 (ay (aa 72)),
 ae 73 (fe (aa 69) 0),
 ae 74 (fe (aa 69) 1),
 ae 16 (eZ 40),
 ⟨none,dD 40 (aa 16) (aa 73),.aw⟩,
 ae 17 (aJ (aa 74))]
def afU:aC:=
 [ae 76 (aI 24 (aa 6)),
 ae 77 (ay (aa 3)),
 ae 78 (aY ⟨bG (bM 14),#[aa 76,aa 77],#[24,9]⟩),
 ae 75 (ay (aa 78)),
 ae 79 (fe (aa 75) 0),
 ae 80 (fe (aa 75) 1),
 ae 18 (eZ 40),
 ⟨none,dD 40 (aa 18) (aa 79),.aw⟩,
 ae 19 (aJ (aa 80))]
def afV:aC:=
 [ae 81 (ay (aa 13)),
 ae 82 (ay (aa 81)),
 aM 83 (ay (aa 15)) 82 true,
 aM 84 (fM UnOp.not 4 (aa 83)) 82 true,
 ae 85 (cX (aa 82) (aa 84) (aE (bK false))),
 ae 86 (ay (aa 85)),
 aM 87 (ay (aa 17)) 86 true,
 aM 88 (fM UnOp.not 4 (aa 87)) 86 true,
 ae 89 (cX (aa 86) (aa 88) (aE (bK false))),
 ae 90 (ay (aa 89)),
 aM 91 (ay (aa 19)) 90 true,
 aM 92 (fM UnOp.not 4 (aa 91)) 90 true,
 ae 93 (cX (aa 90) (aa 92) (aE (bK false)))]
def afE:aC:=
 [ae 8 (aJ (aE (bK false)))]
def afF:aC:=
 [ae 94 (aI 24 (aa 5)),
 ae 20 (eZ 24),
 ⟨none,dD 24 (aa 20) (aa 94),.aw⟩]
def afG:aC:=
 [ae 95 (aI 24 (aa 5)),
 ae 96 (aI 24 (aa 4)),
 ae 97 (ay (aa 3)),
 ae 98 (aY ⟨bG (bM 15),#[aa 95,aa 96,aa 97],#[24,24,9]⟩)]
def afH:aC:=
 [ae 99 (aI 24 (aa 6)),
 ⟨none,dD 24 (aa 20) (aa 99),.aw⟩]
def afI:aC:=
 [ae 100 (aI 24 (aa 5)),
 ae 101 (aI 24 (aa 4)),
 ae 102 (ay (aa 3)),
 ae 103 (aY ⟨bG (bM 15),#[aa 100,aa 101,aa 102],#[24,24,9]⟩),
 ae 104 (fM UnOp.not 4 (aa 103)),
 ae 105 (ay (aa 104)),
 aM 106 (aI 24 (aa 6)) 105 true,
 aM 107 (aI 24 (aa 4)) 105 true,
 aM 108 (ay (aa 3)) 105 true,
 aM 109 (aY ⟨bG (bM 15),#[aa 106,aa 107,aa 108],#[24,24,9]⟩) 105 true,
 aM 110 (fM UnOp.not 4 (aa 109)) 105 true,
 ae 111 (cX (aa 105) (aa 110) (aE (bK false))),
 ae 112 (ay (aa 111)),
 aM 113 (aI 24 (aa 5)) 112 true,
 aM 114 (aI 24 (aa 6)) 112 true,
 aM 115 (ay (aa 3)) 112 true,
 aM 116 (aY ⟨bG (bM 15),#[aa 113,aa 114,aa 115],#[24,24,9]⟩) 112 true,
 aM 117 (fM UnOp.not 4 (aa 116)) 112 true,
 ae 118 (cX (aa 112) (aa 117) (aE (bK false)))]
def afJ:aC:=
 [ae 119 (ay (aa 9)),
 ae 120 (ay (aa 119)),
 aM 121 (ay (aa 13)) 120 true,
 ae 122 (cX (aa 120) (aa 121) (aE (bK false))),
 ae 8 (aJ (aa 122))]
def afK:aC:=
 [ae 124 (aI 24 (aa 20)),
 ae 125 (ay (aa 3)),
 ae 126 (aY ⟨bG (bM 14),#[aa 124,aa 125],#[24,9]⟩),
 ae 123 (ay (aa 126)),
 ae 127 (fe (aa 123) 0),
 ae 128 (fe (aa 123) 1),
 ae 21 (eZ 40),
 ⟨none,dD 40 (aa 21) (aa 127),.aw⟩,
 ae 22 (aJ (aa 128))]
def afL:aC:=
 [ae 129 (ay (aa 22)),
 ae 130 (ay (aa 129)),
 aM 131 (ay (aa 13)) 130 false,
 aM 132 (fM UnOp.not 4 (aa 131)) 130 false,
 ae 133 (cX (aa 130) (aE (bK true)) (aa 132))]
def afM:aC:=
 [ae 134 (ay (aa 9)),
 ae 135 (ay (aa 134)),
 aM 136 (ay (aa 13)) 135 true,
 aM 137 (ay (aa 22)) 135 true,
 aM 138 (bh fL 4 (aa 136) (aa 137) 4) 135 true,
 ae 139 (cX (aa 135) (aa 138) (aE (bK false))),
 ae 140 (ay (aa 139)),
 aM 141 (aI 40 (aa 12)) 140 true,
 aM 142 (aI 40 (aa 21)) 140 true,
 aM 143 (aY ⟨bG (bM 16),#[aa 141,aa 142],#[40,40]⟩) 140 true,
 ae 144 (cX (aa 140) (aa 143) (aE (bK false))),
 ae 145 (ay (aa 144)),
 aM 146 (ay (aa 11)) 145 true,
 aM 147 (ay (aa 3)) 145 true,
 aM 148 (aY {callee:=bG (bM 17),args:= #[aa 146,aa 147,aE (jh {data:= #[] })],argTypes:= #[27,9,9] }) 145 true,
 aM 149 (fM UnOp.not 4 (aa 148)) 145 true,
 ae 150 (cX (aa 145) (aa 149) (aE (bK false))),
 ae 8 (aJ (aa 150))]
def afN:aC:=
 [ae 151 (ay (aa 9)),
 ae 152 (ay (aa 151)),
 aM 153 (ay (aa 11)) 152 true,
 aM 154 (ay (aa 3)) 152 true,
 aM 155 (aY {callee:=bG (bM 17),args:= #[aa 153,aa 154,aE (jh {data:= #[111,98,106,101,99,116] })],argTypes:= #[27,9,9] }) 152 true,
 ae 156 (cX (aa 152) (aa 155) (aE (bK false))),
 ae 157 (ay (aa 156)),
 aM 158 (aI 24 (aa 10)) 157 true,
 aM 159 (aI 24 (aa 4)) 157 true,
 aM 160 (ay (aa 3)) 157 true,
 aM 161 (aY ⟨bG (bM 15),#[aa 158,aa 159,aa 160],#[24,24,9]⟩) 157 true,
 aM 162 (ay (aa 161)) 157 true,
 aM 163 (aI 24 (aa 10)) 162 false,
 aM 164 (aI 24 (aa 5)) 162 false,
 aM 165 (ay (aa 3)) 162 false,
 aM 166 (aY ⟨bG (bM 15),#[aa 163,aa 164,aa 165],#[24,24,9]⟩) 162 false,
 aM 167 (cX (aa 162) (aE (bK true)) (aa 166)) 157 true,
 aM 168 (ay (aa 167)) 157 true,
 aM 169 (aI 24 (aa 10)) 168 false,
 aM 170 (aI 24 (aa 6)) 168 false,
 aM 171 (ay (aa 3)) 168 false,
 aM 172 (aY ⟨bG (bM 15),#[aa 169,aa 170,aa 171],#[24,24,9]⟩) 168 false,
 aM 173 (cX (aa 168) (aE (bK true)) (aa 172)) 157 true,
 ae 174 (cX (aa 157) (aa 173) (aE (bK false))),
 ae 8 (aJ (aa 174))]
def k5:SC:=
 (.seq (.region afC)
 (.seq (.region afD)
 (.seq (.seq (.region afO)
 (.cond (aa 48) (.seq (.region afP)
 .ret) .skip))
 (.seq (.region afQ)
 (.seq (.region afR)
 (.seq (.region afS)
 (.seq (.region afT)
 (.seq (.region afU)
 (.seq (.seq (.region afV)
 (.cond (aa 93) (.seq (.region afE)
 .ret) .skip))
 (.seq (.region afF)
 (.seq (.seq (.region afG)
 (.cond (aa 98) (.region afH) .skip))
 (.seq (.seq (.region afI)
 (.cond (aa 118) (.seq (.region afJ)
 .ret) .skip))
 (.seq (.region afK)
 (.seq (.seq (.region afL)
 (.cond (aa 133) (.seq (.region afM)
 .ret) .skip))
 (.seq (.region afN)
 .ret)))))))))))))))
def aga:List Nat:=[0,0,2,0,14,30,62,0,254,510,1023,2047]
def age:aC:=
 [ae 3 (e7 24 (aa 0)),
 ae 4 (e7 24 (aa 1)),
 ae 5 (e7 24 (aa 2)),
 ae 6 (aJ (aE (bK false)))]
def agf:aC:=
 [ae 19 (aY ⟨bG (bM 7),#[],#[]⟩),
 ae 7 (aJ (aa 19))]
def agr:aC:=
 [ae 20 (aI 24 (aa 3)),
 ae 21 (aI 24 (aa 4)),
 ae 22 (aI 24 (aa 5)),
 ae 23 (aY ⟨bG (bM 8),#[aa 20,aa 21,aa 22],#[24,24,24]⟩),
 ae 24 (fM UnOp.not 4 (aa 23)),
 ae 25 (ay (aa 24)),
 aM 26 (aI 24 (aa 3)) 25 false,
 aM 27 (aY ⟨bG (bM 12),#[aa 26],#[24]⟩) 25 false,
 aM 28 (fM UnOp.not 4 (aa 27)) 25 false,
 ae 29 (cX (aa 25) (aE (bK true)) (aa 28)),
 ae 30 (ay (aa 29)),
 aM 31 (aI 24 (aa 4)) 30 false,
 aM 32 (aY ⟨bG (bM 12),#[aa 31],#[24]⟩) 30 false,
 aM 33 (fM UnOp.not 4 (aa 32)) 30 false,
 ae 34 (cX (aa 30) (aE (bK true)) (aa 33)),
 ae 35 (ay (aa 34)),
 aM 36 (aI 24 (aa 5)) 35 false,
 aM 37 (aY ⟨bG (bM 12),#[aa 36],#[24]⟩) 35 false,
 aM 38 (fM UnOp.not 4 (aa 37)) 35 false,
 ae 39 (cX (aa 35) (aE (bK true)) (aa 38))]
def agv:aC:=
 [ae 40 (ay (aa 7)),
 ae 6 (aJ (aa 40))]
def agw:aC:=
 [ae 42 (aI 24 (aa 3)),
 ae 43 (aI 24 (aa 4)),
 ae 44 (aI 24 (aa 5)),
 ae 45 (aY ⟨bG (bM 9),#[aa 42,aa 43,aa 44],#[24,24,24]⟩),
 ae 41 (ay (aa 45)),
 ae 46 (fe (aa 41) 0),
 ae 47 (fe (aa 41) 1),
 ae 8 (eZ 24),
 ⟨none,dD 24 (aa 8) (aa 46),.aw⟩,
 ae 9 (aJ (aa 47))]
def agx:aC:=
 [ae 10 (aJ (aE (bq br 0)))]
def agy:aC:=
 [ae 48 (ay (aa 10)),
 ae 49 (bA 24 (aa 8) 0),
 ae 50 (aI 22 (aa 49)),
 ae 51 (aY ⟨cG cW,#[aa 50],#[22]⟩),
 ae 52 (bh eh 3 (aa 48) (aa 51) 3)]
def agA:aC:=
 [ae 11 (aJ (aE (bq br 0)))]
def agB:aC:=
 [ae 55 (ay (aa 11)),
 ae 56 (bA 24 (aa 8) 0),
 ae 57 (aI 22 (aa 56)),
 ae 58 (ay (aa 10)),
 ae 59 (dn 22 (aa 57) (aa 58)),
 ae 60 (bA 40 (aa 59) 3),
 ae 61 (aI 37 (aa 60)),
 ae 62 (aY ⟨cG cW,#[aa 61],#[37]⟩),
 ae 63 (bh eh 3 (aa 55) (aa 62) 3)]
def agi:aC:=
 [ae 66 (aI 24 (aa 8)),
 ae 67 (bA 24 (aa 8) 0),
 ae 68 (aI 22 (aa 67)),
 ae 69 (ay (aa 10)),
 ae 70 (dn 22 (aa 68) (aa 69)),
 ae 71 (bA 40 (aa 70) 3),
 ae 72 (aI 37 (aa 71)),
 ae 73 (ay (aa 11)),
 ae 74 (dn 37 (aa 72) (aa 73)),
 ae 75 (aI 9 (aa 74)),
 ae 76 (aY ⟨bG (bM 18),#[aa 66,aa 75],#[24,9]⟩),
 ae 77 (bh eh 3 (aa 76) (aE (bq br 0)) 3)]
def agj:aC:=
 [ae 6 (aJ (aE (bK false)))]
def agh:aC:=
 [ae 64 (ay (aa 11)),
 ae 65 (bh d8 3 (aa 64) (aE (bq br 1)) 3),
 ae 11 (aJ (aa 65))]
def agb:SC:=
 (.seq (.seq (.region agB)
 (.cond (aa 63) .skip (.exit 2)))
 (.seq (.block 3 (.seq (.draw agi aga)
 (.cond (aa 77) (.seq (.region agj)
 .ret) .skip)))
 (.region agh)))
def agz:aC:=
 [ae 53 (ay (aa 10)),
 ae 54 (bh d8 3 (aa 53) (aE (bq br 1)) 3),
 ae 10 (aJ (aa 54))]
def agc:SC:=
 (.seq (.seq (.region agy)
 (.cond (aa 52) .skip (.exit 0)))
 (.seq (.block 1 (.seq (.region agA)
 (.block 2 (.loop agb))))
 (.region agz)))
def agk:aC:=
 [ae 12 (aJ (aE (bq br 0)))]
def agl:aC:=
 [ae 78 (ay (aa 12)),
 ae 79 (ay (aa 9)),
 ae 80 (aY ⟨cG cW,#[aa 79],#[27]⟩),
 ae 81 (bh eh 3 (aa 78) (aa 80) 3)]
def agn:aC:=
 [ae 84 (ay (aa 9)),
 ae 85 (ay (aa 12)),
 ae 86 (dn 27 (aa 84) (aa 85)),
 ae 87 (bA 31 (aa 86) 0),
 ae 88 (aI 9 (aa 87)),
 ae 13 (aJ (aa 88))]
def ago:aC:=
 [ae 90 (aI 24 (aa 4)),
 ae 91 (ay (aa 13)),
 ae 92 (aY ⟨bG (bM 14),#[aa 90,aa 91],#[24,9]⟩),
 ae 89 (ay (aa 92)),
 ae 93 (fe (aa 89) 0),
 ae 94 (fe (aa 89) 1),
 ae 14 (eZ 40),
 ⟨none,dD 40 (aa 14) (aa 93),.aw⟩,
 ae 15 (aJ (aa 94))]
def agp:aC:=
 [ae 96 (aI 24 (aa 5)),
 ae 97 (ay (aa 13)),
 ae 98 (aY ⟨bG (bM 14),#[aa 96,aa 97],#[24,9]⟩),
 ae 95 (ay (aa 98)),
 ae 99 (fe (aa 95) 0),
 ae 100 (fe (aa 95) 1),
 ae 16 (eZ 40),
 ⟨none,dD 40 (aa 16) (aa 99),.aw⟩,
 ae 17 (aJ (aa 100))]
def agq:aC:=
 [ae 101 (aI 24 (aa 4)),
 ae 102 (aI 24 (aa 3)),
 ae 103 (ay (aa 13)),
 ae 104 (aY ⟨bG (bM 15),#[aa 101,aa 102,aa 103],#[24,24,9]⟩),
 ae 105 (ay (aa 104)),
 aM 106 (aI 24 (aa 5)) 105 false,
 aM 107 (aI 24 (aa 3)) 105 false,
 aM 108 (ay (aa 13)) 105 false,
 aM 109 (aY ⟨bG (bM 15),#[aa 106,aa 107,aa 108],#[24,24,9]⟩) 105 false,
 ae 110 (cX (aa 105) (aE (bK true)) (aa 109)),
 ae 111 (ay (aa 110)),
 aM 112 (aI 24 (aa 4)) 111 false,
 aM 113 (aI 24 (aa 5)) 111 false,
 aM 114 (ay (aa 13)) 111 false,
 aM 115 (aY ⟨bG (bM 15),#[aa 112,aa 113,aa 114],#[24,24,9]⟩) 111 false,
 ae 116 (cX (aa 111) (aE (bK true)) (aa 115)),
 ae 18 (aJ (aa 116))]
def ags:aC:=
 [ae 117 (ay (aa 18)),
 ae 118 (ay (aa 117)),
 aM 119 (ay (aa 15)) 118 true,
 aM 120 (ay (aa 119)) 118 true,
 aM 121 (ay (aa 17)) 120 true,
 aM 122 (cX (aa 120) (aa 121) (aE (bK false))) 118 true,
 aM 123 (ay (aa 122)) 118 true,
 aM 124 (ay (aa 9)) 123 false,
 aM 125 (ay (aa 12)) 123 false,
 aM 126 (dn 27 (aa 124) (aa 125)) 123 false,
 aM 127 (bA 31 (aa 126) 1) 123 false,
 aM 128 (aI 9 (aa 127)) 123 false,
 aM 129 (bh ij 9 (aa 128) (aE (jh {data:= #[111,98,106,101,99,116] })) 9) 123 false,
 aM 130 (cX (aa 123) (aE (bK true)) (aa 129)) 118 true,
 ae 131 (cX (aa 118) (aa 130) (aE (bK false)))]
def agt:aC:=
 [ae 6 (aJ (aE (bK false)))]
def agm:aC:=
 [ae 82 (ay (aa 12)),
 ae 83 (bh d8 3 (aa 82) (aE (bq br 1)) 3),
 ae 12 (aJ (aa 83))]
def agd:SC:=
 (.seq (.seq (.region agl)
 (.cond (aa 81) .skip (.exit 4)))
 (.seq (.block 5 (.seq (.region agn)
 (.seq (.region ago)
 (.seq (.region agp)
 (.seq (.region agq)
 (.seq (.region ags)
 (.cond (aa 131) (.seq (.region agt)
 .ret) .skip)))))))
 (.region agm)))
def agu:aC:=
 [ae 132 (ay (aa 7)),
 ae 133 (ay (aa 132)),
 aM 134 (aI 24 (aa 8)) 133 true,
 aM 135 (aY ⟨bG (bM 13),#[aa 134],#[24]⟩) 133 true,
 ae 136 (cX (aa 133) (aa 135) (aE (bK false))),
 ae 6 (aJ (aa 136))]
def k6:SC:=
 (.seq (.region age)
 (.seq (.region agf)
 (.seq (.seq (.region agr)
 (.cond (aa 39) (.seq (.region agv)
 .ret) .skip))
 (.seq (.region agw)
 (.seq (.seq (.region agx)
 (.block 0 (.loop agc)))
 (.seq (.seq (.region agk)
 (.block 4 (.loop agd)))
 (.seq (.region agu)
 .ret)))))))
theorem VH (ps:List (Nat×Operand)) (e:bj):gm Tryz.prog 24 ps e=(eY Tryz.prog 24).bind fun z=>(dQ (fun i=>([(0,1)]:List (Nat×Nat))[i]?) e z.cells ps).bind fun c=>some (.agg c):=by kernel_rfl
theorem VJ (ps:List (Nat×Operand)) (e:bj):gm Tryz.prog 31 ps e=(eY Tryz.prog 31).bind fun z=>(dQ (fun i=>([(0,1),(1,1)]:List (Nat×Nat))[i]?) e z.cells ps).bind fun c=>some (.agg c):=by kernel_rfl
theorem Hk (ps:List (Nat×Operand)) (e:bj):gm Tryz.prog 36 ps e=(eY Tryz.prog 36).bind fun z=>(dQ (fun i=>([(0,1),(1,1)]:List (Nat×Nat))[i]?) e z.cells ps).bind fun c=>some (.agg c):=by kernel_rfl
theorem VK (ps:List (Nat×Operand)) (e:bj):gm Tryz.prog 51 ps e=(eY Tryz.prog 51).bind fun z=>(dQ (fun i=>([(0,1),(1,1)]:List (Nat×Nat))[i]?) e z.cells ps).bind fun c=>some (.agg c):=by kernel_rfl
theorem VM (ps:List (Nat×Operand)) (e:bj):gm Tryz.prog 65 ps e=(eY Tryz.prog 65).bind fun z=>(dQ (fun i=>([(0,1),(1,1),(2,1),(3,1),(4,1)]:List (Nat×Nat))[i]?) e z.cells ps).bind fun c=>some (.agg c):=by kernel_rfl
theorem VD (ps:List (Nat×Operand)) (e:bj):gm Tryz.prog 150 ps e=(eY Tryz.prog 150).bind fun z=>(dQ (fun i=>some (i*1,1)) e z.cells ps).bind fun c=>some (.agg c):=by kernel_rfl
theorem VE (ps:List (Nat×Operand)) (e:bj):gm Tryz.prog 183 ps e=(eY Tryz.prog 183).bind fun z=>(dQ (fun i=>([(0,1),(1,1)]:List (Nat×Nat))[i]?) e z.cells ps).bind fun c=>some (.agg c):=by kernel_rfl
theorem BU (ps:List (Nat×Operand)) (e:bj):gm Tryz.prog 186 ps e=(eY Tryz.prog 186).bind fun z=>(dQ (fun i=>([(0,1),(1,1),(2,1)]:List (Nat×Nat))[i]?) e z.cells ps).bind fun c=>some (.agg c):=by kernel_rfl
theorem BV (ps:List (Nat×Operand)) (e:bj):gm Tryz.prog 189 ps e=(eY Tryz.prog 189).bind fun z=>(dQ (fun i=>([(0,1)]:List (Nat×Nat))[i]?) e z.cells ps).bind fun c=>some (.agg c):=by kernel_rfl
theorem VF (ps:List (Nat×Operand)) (e:bj):gm Tryz.prog 194 ps e=(eY Tryz.prog 194).bind fun z=>(dQ (fun i=>some (i*1,1)) e z.cells ps).bind fun c=>some (.agg c):=by kernel_rfl
theorem VG (ps:List (Nat×Operand)) (e:bj):gm Tryz.prog 197 ps e=(eY Tryz.prog 197).bind fun z=>(dQ (fun i=>some (i*1,1)) e z.cells ps).bind fun c=>some (.agg c):=by kernel_rfl
theorem VI (ps:List (Nat×Operand)) (e:bj):gm Tryz.prog 254 ps e=(eY Tryz.prog 254).bind fun z=>(dQ (fun i=>some (i*1,1)) e z.cells ps).bind fun c=>some (.agg c):=by kernel_rfl
theorem fJ (cs:List aj) (off:Nat):fg Tryz.prog 3 cs off=(cs.drop off).head?:=by kernel_rfl
theorem akh (cs:List aj) (off:Nat):fg Tryz.prog 5 cs off=(cs.drop off).head?:=by kernel_rfl
theorem dH (cs:List aj) (off:Nat):fg Tryz.prog 9 cs off=(cs.drop off).head?:=by kernel_rfl
theorem x6 (cs:List aj) (off:Nat):fg Tryz.prog 21 cs off=(cs.drop off).head?:=by kernel_rfl
theorem oc (cs:List aj) (off:Nat):fg Tryz.prog 22 cs off=(cs.drop off).head?:=by kernel_rfl
theorem li (cs:List aj) (off:Nat):fg Tryz.prog 24 cs off=(cut cs off 1).bind fun r=>some (.agg r):=by kernel_rfl
theorem jf (cs:List aj) (off:Nat):fg Tryz.prog 36 cs off=(cut cs off 2).bind fun r=>some (.agg r):=by kernel_rfl
theorem ic (cs:List aj) (off:Nat):fg Tryz.prog 37 cs off=(cs.drop off).head?:=by kernel_rfl
theorem kR (cs:List aj) (off:Nat):fg Tryz.prog 38 cs off=(cs.drop off).head?:=by kernel_rfl
theorem pR (cs:List aj) (off:Nat):fg Tryz.prog 40 cs off=(cut cs off 6).bind fun r=>some (.agg r):=by kernel_rfl
theorem x7 (cs:List aj) (off:Nat):fg Tryz.prog 51 cs off=(cut cs off 2).bind fun r=>some (.agg r):=by kernel_rfl
theorem nc (cs:List aj) (off:Nat):fg Tryz.prog 61 cs off=(cs.drop off).head?:=by kernel_rfl
theorem FN (cs:List aj) (off:Nat):fg Tryz.prog 63 cs off=(cs.drop off).head?:=by kernel_rfl
theorem FL (cs:List aj) (off:Nat):fg Tryz.prog 109 cs off=(cs.drop off).head?:=by kernel_rfl
theorem SX (cs:List aj) (off:Nat):fg Tryz.prog 183 cs off=(cut cs off 2).bind fun r=>some (.agg r):=by kernel_rfl
theorem SY (cs:List aj) (off:Nat):fg Tryz.prog 186 cs off=(cut cs off 3).bind fun r=>some (.agg r):=by kernel_rfl
theorem akd (cs:List aj) (off:Nat):fg Tryz.prog 194 cs off=(cut cs off 3).bind fun r=>some (.agg r):=by kernel_rfl
theorem AK (cs:List aj) (off:Nat):fg Tryz.prog 197 cs off=(cut cs off 3).bind fun r=>some (.agg r):=by kernel_rfl
theorem akf (cs:List aj) (off:Nat):fg Tryz.prog 254 cs off=(cut cs off 2).bind fun r=>some (.agg r):=by kernel_rfl
theorem akg (cs:List aj) (off:Nat):fg Tryz.prog 289 cs off=(cs.drop off).head?:=by kernel_rfl
theorem alF:fu Tryz.prog 3=some 1:=by kernel_rfl
theorem Gl:fu Tryz.prog 9=some 1:=by kernel_rfl
theorem TS:fu Tryz.prog 21=some 1:=by kernel_rfl
theorem alB:fu Tryz.prog 22=some 1:=by kernel_rfl
theorem A5:fu Tryz.prog 24=some 1:=by kernel_rfl
theorem ru:fu Tryz.prog 36=some 2:=by kernel_rfl
theorem yk:fu Tryz.prog 37=some 1:=by kernel_rfl
theorem alG:fu Tryz.prog 38=some 1:=by kernel_rfl
theorem A6:fu Tryz.prog 40=some 6:=by kernel_rfl
theorem Gk:fu Tryz.prog 51=some 2:=by kernel_rfl
theorem alw:fu Tryz.prog 109=some 1:=by kernel_rfl
theorem alx:fu Tryz.prog 150=some 6:=by kernel_rfl
theorem aly:fu Tryz.prog 151=some 256:=by kernel_rfl
theorem TR:fu Tryz.prog 183=some 2:=by kernel_rfl
theorem Gj:fu Tryz.prog 186=some 3:=by kernel_rfl
theorem alz:fu Tryz.prog 194=some 3:=by kernel_rfl
theorem alA:fu Tryz.prog 197=some 3:=by kernel_rfl
theorem alC:fu Tryz.prog 254=some 2:=by kernel_rfl
theorem alE:fu Tryz.prog 289=some 1:=by kernel_rfl
theorem amE:eY Tryz.prog 3=some (.int .i64 (0)):=by kernel_rfl
theorem amG:eY Tryz.prog 4=some (.bool false):=by kernel_rfl
theorem amJ:eY Tryz.prog 9=some (.str []):=by kernel_rfl
theorem wt:eY Tryz.prog 24=some (.agg [.nils]):=by kernel_rfl
theorem GF:eY Tryz.prog 31=some (.agg [(.str []),(.str [])]):=by kernel_rfl
theorem wu:eY Tryz.prog 36=some (.agg [(.int .i64 (0)),(.int .i64 (0))]):=by kernel_rfl
theorem Bh:eY Tryz.prog 40=some (.agg [(.str []),(.int .i64 (0)),(.int .i64 (0)),(.int .i64 (0)),.nils,.nils]):=by kernel_rfl
theorem Bi:eY Tryz.prog 51=some (.agg [(.str []),(.str [])]):=by kernel_rfl
theorem amH:eY Tryz.prog 65=some (.agg [.nilm,.nilm,.nilm,.nilm,.nilm]):=by kernel_rfl
theorem amI:eY Tryz.prog 67=some .nilp:=by kernel_rfl
theorem amA:eY Tryz.prog 109=some .nilm:=by kernel_rfl
theorem amB:eY Tryz.prog 150=some (.agg [(.str []),(.str []),(.str []),(.str []),(.str []),(.str [])]):=by kernel_rfl
theorem GB:eY Tryz.prog 183=some (.agg [(.int .i64 (0)),(.int .i64 (0))]):=by kernel_rfl
theorem yx:eY Tryz.prog 186=some (.agg [(.int .i64 (0)),(.int .i64 (0)),(.int .i64 (0))]):=by kernel_rfl
theorem GC:eY Tryz.prog 189=some (.agg [.nils]):=by kernel_rfl
theorem Ux:eY Tryz.prog 194=some (.agg [.nils,.nils,.nils]):=by kernel_rfl
theorem amC:eY Tryz.prog 196=some .nilp:=by kernel_rfl
theorem GD:eY Tryz.prog 197=some (.agg [(.str []),(.str []),(.str [])]):=by kernel_rfl
theorem Uy:eY Tryz.prog 254=some (.agg [(.int .i64 (0)),(.int .i64 (0))]):=by kernel_rfl
theorem amD:eY Tryz.prog 289=some .nils:=by kernel_rfl
theorem mU (lc:Ag.Loc) (l g o:Nat):fE Tryz.prog lc 24 (.lref l g o) 0=bif be (lc.gen l) g then some (.lref l g (o+0)) else none:=by kernel_rfl
theorem XL (lc:Ag.Loc) (l g o:Nat):fE Tryz.prog lc 31 (.lref l g o) 0=bif be (lc.gen l) g then some (.lref l g (o+0)) else none:=by kernel_rfl
theorem H7 (lc:Ag.Loc) (cs:List aj):fE Tryz.prog lc 31 (.ro cs) 0=some (.ro (cs.drop 0)):=by kernel_rfl
theorem XM (lc:Ag.Loc) (l g o:Nat):fE Tryz.prog lc 31 (.lref l g o) 1=bif be (lc.gen l) g then some (.lref l g (o+1)) else none:=by kernel_rfl
theorem XN (lc:Ag.Loc) (cs:List aj):fE Tryz.prog lc 31 (.ro cs) 1=some (.ro (cs.drop 1)):=by kernel_rfl
theorem xa (lc:Ag.Loc) (l g o:Nat):fE Tryz.prog lc 36 (.lref l g o) 0=bif be (lc.gen l) g then some (.lref l g (o+0)) else none:=by kernel_rfl
theorem Cz (lc:Ag.Loc) (l g o:Nat):fE Tryz.prog lc 36 (.lref l g o) 1=bif be (lc.gen l) g then some (.lref l g (o+1)) else none:=by kernel_rfl
theorem pq (lc:Ag.Loc) (l g o:Nat):fE Tryz.prog lc 40 (.lref l g o) 0=bif be (lc.gen l) g then some (.lref l g (o+0)) else none:=by kernel_rfl
theorem qZ (lc:Ag.Loc) (m o:Nat):fE Tryz.prog lc 40 (.ptr m o) 0=some (.ptr m (o+0)):=by kernel_rfl
theorem xb (lc:Ag.Loc) (l g o:Nat):fE Tryz.prog lc 40 (.lref l g o) 1=bif be (lc.gen l) g then some (.lref l g (o+1)) else none:=by kernel_rfl
theorem lI (lc:Ag.Loc) (m o:Nat):fE Tryz.prog lc 40 (.ptr m o) 1=some (.ptr m (o+1)):=by kernel_rfl
theorem yY (lc:Ag.Loc) (l g o:Nat):fE Tryz.prog lc 40 (.lref l g o) 2=bif be (lc.gen l) g then some (.lref l g (o+2)) else none:=by kernel_rfl
theorem vg (lc:Ag.Loc) (m o:Nat):fE Tryz.prog lc 40 (.ptr m o) 2=some (.ptr m (o+2)):=by kernel_rfl
theorem nU (lc:Ag.Loc) (l g o:Nat):fE Tryz.prog lc 40 (.lref l g o) 3=bif be (lc.gen l) g then some (.lref l g (o+4)) else none:=by kernel_rfl
theorem ma (lc:Ag.Loc) (m o:Nat):fE Tryz.prog lc 40 (.ptr m o) 3=some (.ptr m (o+4)):=by kernel_rfl
theorem pu (lc:Ag.Loc) (l g o:Nat):fE Tryz.prog lc 40 (.lref l g o) 4=bif be (lc.gen l) g then some (.lref l g (o+5)) else none:=by kernel_rfl
theorem tJ (lc:Ag.Loc) (m o:Nat):fE Tryz.prog lc 40 (.ptr m o) 4=some (.ptr m (o+5)):=by kernel_rfl
theorem oN (lc:Ag.Loc) (l g o:Nat):fE Tryz.prog lc 51 (.lref l g o) 0=bif be (lc.gen l) g then some (.lref l g (o+0)) else none:=by kernel_rfl
theorem XO (lc:Ag.Loc) (cs:List aj):fE Tryz.prog lc 51 (.ro cs) 0=some (.ro (cs.drop 0)):=by kernel_rfl
theorem vh (lc:Ag.Loc) (l g o:Nat):fE Tryz.prog lc 51 (.lref l g o) 1=bif be (lc.gen l) g then some (.lref l g (o+1)) else none:=by kernel_rfl
theorem XP (lc:Ag.Loc) (cs:List aj):fE Tryz.prog lc 51 (.ro cs) 1=some (.ro (cs.drop 1)):=by kernel_rfl
theorem CA (lc:Ag.Loc) (m o:Nat):fE Tryz.prog lc 65 (.ptr m o) 0=some (.ptr m (o+0)):=by kernel_rfl
theorem CB (lc:Ag.Loc) (m o:Nat):fE Tryz.prog lc 65 (.ptr m o) 1=some (.ptr m (o+1)):=by kernel_rfl
theorem CC (lc:Ag.Loc) (m o:Nat):fE Tryz.prog lc 65 (.ptr m o) 2=some (.ptr m (o+2)):=by kernel_rfl
theorem se (lc:Ag.Loc) (m o:Nat):fE Tryz.prog lc 65 (.ptr m o) 3=some (.ptr m (o+3)):=by kernel_rfl
theorem H8 (lc:Ag.Loc) (m o:Nat):fE Tryz.prog lc 65 (.ptr m o) 4=some (.ptr m (o+4)):=by kernel_rfl
theorem yX (lc:Ag.Loc) (l g o:Nat):fE Tryz.prog lc 183 (.lref l g o) 0=bif be (lc.gen l) g then some (.lref l g (o+0)) else none:=by kernel_rfl
theorem H6 (lc:Ag.Loc) (l g o:Nat):fE Tryz.prog lc 183 (.lref l g o) 1=bif be (lc.gen l) g then some (.lref l g (o+1)) else none:=by kernel_rfl
theorem Cx (lc:Ag.Loc) (l g o:Nat):fE Tryz.prog lc 186 (.lref l g o) 0=bif be (lc.gen l) g then some (.lref l g (o+0)) else none:=by kernel_rfl
theorem XJ (lc:Ag.Loc) (l g o:Nat):fE Tryz.prog lc 186 (.lref l g o) 1=bif be (lc.gen l) g then some (.lref l g (o+1)) else none:=by kernel_rfl
theorem XK (lc:Ag.Loc) (l g o:Nat):fE Tryz.prog lc 186 (.lref l g o) 2=bif be (lc.gen l) g then some (.lref l g (o+2)) else none:=by kernel_rfl
theorem Cy (lc:Ag.Loc) (m o:Nat):fE Tryz.prog lc 189 (.ptr m o) 0=some (.ptr m (o+0)):=by kernel_rfl
theorem xk (lc:Ag.Loc) (n:Nat) (xs:List aj) (r:fD) (i:aj):iH Tryz.prog lc 22 (.list n xs r) i=(fF i).bind fun i=>bif be n 6&&bT i xs.length then some (.ro (iJ xs i).cells) else none:=by kernel_rfl
theorem zd (lc:Ag.Loc) (n:Nat) (xs:List aj) (r:fD) (i:aj):iH Tryz.prog lc 27 (.list n xs r) i=(fF i).bind fun i=>bif be n 2&&bT i xs.length then some (.ro (iJ xs i).cells) else none:=by kernel_rfl
theorem lJ (lc:Ag.Loc) (n:Nat) (xs:List aj) (r:fD) (i:aj):iH Tryz.prog lc 37 (.list n xs r) i=(fF i).bind fun i=>bif be n 1&&bT i xs.length then some (.ro (iJ xs i).cells) else none:=by kernel_rfl
theorem I1 (lc:Ag.Loc) (n m o l c:Nat) (i:aj):iH Tryz.prog lc 37 (.arr n m o l c) i=(fF i).bind fun i=>bif be n 1&&bT i l then some (.ptr m (o+i*1)) else none:=by kernel_rfl
theorem si (lc:Ag.Loc) (n:Nat) (xs:List aj) (r:fD) (i:aj):iH Tryz.prog lc 38 (.list n xs r) i=(fF i).bind fun i=>bif be n 2&&bT i xs.length then some (.ro (iJ xs i).cells) else none:=by kernel_rfl
theorem aa5 (lc:Ag.Loc) (n:Nat) (xs:List aj) (r:fD) (i:aj):iH Tryz.prog lc 55 (.list n xs r) i=(fF i).bind fun i=>bif be n 1&&bT i xs.length then some (.ro (iJ xs i).cells) else none:=by kernel_rfl
theorem aa6 (lc:Ag.Loc) (n:Nat) (xs:List aj) (r:fD) (i:aj):iH Tryz.prog lc 66 (.list n xs r) i=(fF i).bind fun i=>bif be n 1&&bT i xs.length then some (.ro (iJ xs i).cells) else none:=by kernel_rfl
theorem aaZ (lc:Ag.Loc) (l g o:Nat) (i:aj):iH Tryz.prog lc 151 (.lref l g o) i=(fF i).bind fun i=>bif bT i 256 then bif be (lc.gen l) g then some (.lref l g (o+i*1)) else none else none:=by kernel_rfl
theorem IX (lc:Ag.Loc) (n:Nat) (xs:List aj) (r:fD) (i:aj):iH Tryz.prog lc 180 (.list n xs r) i=(fF i).bind fun i=>bif be n 2&&bT i xs.length then some (.ro (iJ xs i).cells) else none:=by kernel_rfl
theorem aa0 (lc:Ag.Loc) (n:Nat) (xs:List aj) (r:fD) (i:aj):iH Tryz.prog lc 184 (.list n xs r) i=(fF i).bind fun i=>bif be n 3&&bT i xs.length then some (.ro (iJ xs i).cells) else none:=by kernel_rfl
theorem Df (lc:Ag.Loc) (n:Nat) (xs:List aj) (r:fD) (i:aj):iH Tryz.prog lc 192 (.list n xs r) i=(fF i).bind fun i=>bif be n 2&&bT i xs.length then some (.ro (iJ xs i).cells) else none:=by kernel_rfl
theorem Dh (lc:Ag.Loc) (l g o:Nat) (i:aj):iH Tryz.prog lc 197 (.lref l g o) i=(fF i).bind fun i=>bif bT i 3 then bif be (lc.gen l) g then some (.lref l g (o+i*1)) else none else none:=by kernel_rfl
theorem aa1 (lc:Ag.Loc) (l g o:Nat) (i:aj):iH Tryz.prog lc 254 (.lref l g o) i=(fF i).bind fun i=>bif bT i 2 then bif be (lc.gen l) g then some (.lref l g (o+i*1)) else none else none:=by kernel_rfl
theorem aa2 (lc:Ag.Loc) (n:Nat) (xs:List aj) (r:fD) (i:aj):iH Tryz.prog lc 286 (.list n xs r) i=(fF i).bind fun i=>bif be n 1&&bT i xs.length then some (.ro (iJ xs i).cells) else none:=by kernel_rfl
theorem aa3 (lc:Ag.Loc) (n m o l c:Nat) (i:aj):iH Tryz.prog lc 289 (.arr n m o l c) i=(fF i).bind fun i=>bif be n 1&&bT i l then some (.ptr m (o+i*1)) else none:=by kernel_rfl
theorem aa4 (lc:Ag.Loc) (n:Nat) (xs:List aj) (r:fD) (i:aj):iH Tryz.prog lc 349 (.list n xs r) i=(fF i).bind fun i=>bif be n 2&&bT i xs.length then some (.ro (iJ xs i).cells) else none:=by kernel_rfl
theorem abn (s:List UInt8) (i:aj):qn Tryz.prog 9 (.str s) i=(fF i).bind fun i=>match s.drop i with|b::_=>some (.int .u8 b.toNat)| []=>none:=by kernel_rfl
theorem abm (cs:List aj) (i:aj):qn Tryz.prog 194 (.agg cs) i=(fF i).bind fun i=>bif bT i 3 then fg Tryz.prog 38 cs (i*1) else none:=by kernel_rfl
theorem sw (mk:bn) (b:List UInt8) (s:St):gW Tryz.prog mk 9 (.str b) s=some (.int .i64 b.length):=by kernel_rfl
theorem tW (mk:bn) (s:St):gW Tryz.prog mk 22 .nils s=some (.int .i64 (0:Nat)):=by kernel_rfl
theorem tU (mk:bn) (n:Nat) (xs:List aj) (r:fD) (s:St):gW Tryz.prog mk 22 (.list n xs r) s=some (.int .i64 xs.length):=by kernel_rfl
theorem xH (mk:bn) (s:St):gW Tryz.prog mk 27 .nils s=some (.int .i64 (0:Nat)):=by kernel_rfl
theorem xG (mk:bn) (n:Nat) (xs:List aj) (r:fD) (s:St):gW Tryz.prog mk 27 (.list n xs r) s=some (.int .i64 xs.length):=by kernel_rfl
theorem iI (mk:bn) (s:St):gW Tryz.prog mk 37 .nils s=some (.int .i64 (0:Nat)):=by kernel_rfl
theorem iW (mk:bn) (n:Nat) (xs:List aj) (r:fD) (s:St):gW Tryz.prog mk 37 (.list n xs r) s=some (.int .i64 xs.length):=by kernel_rfl
theorem pD (mk:bn) (s:St):gW Tryz.prog mk 38 .nils s=some (.int .i64 (0:Nat)):=by kernel_rfl
theorem pC (mk:bn) (n:Nat) (xs:List aj) (r:fD) (s:St):gW Tryz.prog mk 38 (.list n xs r) s=some (.int .i64 xs.length):=by kernel_rfl
theorem ahL (mk:bn) (s:St):gW Tryz.prog mk 55 .nils s=some (.int .i64 (0:Nat)):=by kernel_rfl
theorem ahK (mk:bn) (n:Nat) (xs:List aj) (r:fD) (s:St):gW Tryz.prog mk 55 (.list n xs r) s=some (.int .i64 xs.length):=by kernel_rfl
theorem ahM (mk:bn) (n:Nat) (xs:List aj) (r:fD) (s:St):gW Tryz.prog mk 66 (.list n xs r) s=some (.int .i64 xs.length):=by kernel_rfl
theorem RD (mk:bn) (s:St):gW Tryz.prog mk 180 .nils s=some (.int .i64 (0:Nat)):=by kernel_rfl
theorem RC (mk:bn) (n:Nat) (xs:List aj) (r:fD) (s:St):gW Tryz.prog mk 180 (.list n xs r) s=some (.int .i64 xs.length):=by kernel_rfl
theorem ahG (mk:bn) (s:St):gW Tryz.prog mk 184 .nils s=some (.int .i64 (0:Nat)):=by kernel_rfl
theorem ahF (mk:bn) (n:Nat) (xs:List aj) (r:fD) (s:St):gW Tryz.prog mk 184 (.list n xs r) s=some (.int .i64 xs.length):=by kernel_rfl
theorem Ad (mk:bn) (n:Nat) (xs:List aj) (r:fD) (s:St):gW Tryz.prog mk 192 (.list n xs r) s=some (.int .i64 xs.length):=by kernel_rfl
theorem ahH (mk:bn) (n:Nat) (xs:List aj) (r:fD) (s:St):gW Tryz.prog mk 286 (.list n xs r) s=some (.int .i64 xs.length):=by kernel_rfl
theorem ahJ (mk:bn) (s:St):gW Tryz.prog mk 349 .nils s=some (.int .i64 (0:Nat)):=by kernel_rfl
theorem ahI (mk:bn) (n:Nat) (xs:List aj) (r:fD) (s:St):gW Tryz.prog mk 349 (.list n xs r) s=some (.int .i64 xs.length):=by kernel_rfl
theorem HR:jp Tryz.prog 22=some ⟨6,88,true,(.agg [(.str []),(.int .i64 (0)),(.int .i64 (0)),(.int .i64 (0)),.nils,.nils])⟩:=by kernel_rfl
theorem abj:lK Tryz.prog 22=true:=by kernel_rfl
theorem qj:jp Tryz.prog 37=some ⟨1,16,false,(.str [])⟩:=by kernel_rfl
theorem vq:lK Tryz.prog 37=true:=by kernel_rfl
theorem HV:jp Tryz.prog 38=some ⟨2,32,true,(.agg [(.str []),(.str [])])⟩:=by kernel_rfl
theorem abl:lK Tryz.prog 38=true:=by kernel_rfl
theorem HW:jp Tryz.prog 55=some ⟨1,8,false,(.int .i64 (0))⟩:=by kernel_rfl
theorem Xj:jp Tryz.prog 66=some ⟨1,8,false,.nilm⟩:=by kernel_rfl
theorem HQ:jp Tryz.prog 180=some ⟨2,16,true,(.agg [(.int .i64 (0)),(.int .i64 (0))])⟩:=by kernel_rfl
theorem abi:lK Tryz.prog 180=true:=by kernel_rfl
theorem Co:jp Tryz.prog 184=some ⟨3,24,true,(.agg [(.int .i64 (0)),(.int .i64 (0)),(.int .i64 (0))])⟩:=by kernel_rfl
theorem Ja:lK Tryz.prog 184=true:=by kernel_rfl
theorem Xf:jp Tryz.prog 192=some ⟨2,16,true,(.agg [(.int .i64 (0)),(.int .i64 (0))])⟩:=by kernel_rfl
theorem Xg:jp Tryz.prog 286=some ⟨1,24,false,.nils⟩:=by kernel_rfl
theorem Xh:jp Tryz.prog 289=some ⟨1,4,false,(.int .i32 (0))⟩:=by kernel_rfl
theorem Xi:jp Tryz.prog 349=some ⟨2,16,true,(.agg [(.int .i64 (0)),(.int .i64 (0))])⟩:=by kernel_rfl
theorem Ap (k:List UInt8):nW Tryz.prog 61 (.str k)=some (9,67):=by kernel_rfl
theorem sd (a b:List UInt8):ki Tryz.prog 8 9 (.str a) (.str b)=some (a==b):=by kernel_rfl
theorem R9 (k:List UInt8):nW Tryz.prog 109 (.str k)=some (9,4):=by kernel_rfl
theorem Sa (k:List UInt8):nW Tryz.prog 195 (.str k)=some (9,196):=by kernel_rfl
def MB:aC:=
 [ae 2 (aJ (aE (iM none 0 0)))]
def MC:aC:=
 [ae 4 (ay (aa 0)),
 ae 5 (aY ⟨bG (bM 47),#[aa 4],#[71]⟩),
 ae 3 (aJ (aa 5))]
def MD:aC:=
 [ae 6 (ay (aa 3)),
 ae 7 (aY ⟨bG (bM 48),#[aa 6],#[37]⟩)]
def ME:aC:=
 [ae 8 (ay (aa 3)),
 ae 2 (aJ (aa 8))]
def MA:SC:=
 (.seq (.region MB)
 (.seq (.region MC)
 (.seq (.region MD)
 (.seq (.region ME)
 .ret))))
theorem adF:Tryz.prog.funcs[25]? =some Tryz.f25:=by kernel_rfl
theorem adE:(Tryz.f25.body).map cL=some MA:=by kernel_rfl
theorem adH:Tryz.f25.ntmps=9:=by kernel_rfl
theorem adG:Tryz.f25.results.toList=[dF 2]:=by kernel_rfl
def MS:aC:=
 [ae 4 (aJ (aE (iM none 0 0)))]
def MT:aC:=
 [ae 6 (ay (aa 0)),
 ae 7 (aY ⟨bG (bM 50),#[aa 6],#[76]⟩),
 ae 5 (aJ (aa 7))]
def MU:aC:=
 [ae 8 (ay (aa 5)),
 ae 9 (ay (aa 1)),
 ae 10 (aY ⟨bG (bM 51),#[aa 8,aa 9],#[27,80]⟩)]
def MV:aC:=
 [ae 11 (ay (aa 5)),
 ae 4 (aJ (aa 11))]
def MR:SC:=
 (.seq (.region MS)
 (.seq (.region MT)
 (.seq (.region MU)
 (.seq (.region MV)
 .ret))))
theorem adR:Tryz.prog.funcs[28]? =some Tryz.f28:=by kernel_rfl
theorem adQ:(Tryz.f28.body).map cL=some MR:=by kernel_rfl
theorem adT:Tryz.f28.ntmps=12:=by kernel_rfl
theorem adS:Tryz.f28.results.toList=[dF 4]:=by kernel_rfl
def OE:aC:=
 [ae 2 (aJ (aE (iM none 0 0)))]
def OG:aC:=
 [ae 3 (ay (aa 0)),
 ae 4 (aY ⟨bG (bM 78),#[aE (iM none 0 0),aa 3],#[37,71]⟩),
 ae 2 (aJ (aa 4))]
def OD:SC:=
 (.seq (.region OE)
 (.seq (.region OG)
 .ret))
theorem aeY:Tryz.prog.funcs[47]? =some Tryz.f47:=by kernel_rfl
theorem aeX:(Tryz.f47.body).map cL=some OD:=by kernel_rfl
theorem ae0:Tryz.f47.ntmps=5:=by kernel_rfl
theorem aeZ:Tryz.f47.results.toList=[dF 2]:=by kernel_rfl
def OI:aC:=
 [ae 4 (aI 61 (aa 1)),
 ae 5 (Op.range 61 (aa 4))]
def zM:aC:=
 [ae 6 (Op.next (aa 5) false),
 ae 7 (fe (aa 6) 0)]
def OJ:aC:=
 [ae 8 (Op.entry (aa 5)),
 ae 9 (fe (aa 8) 0),
 ae 3 (aJ (aa 9))]
def OL:aC:=
 [ae 10 (ay (aa 0)),
 ae 11 (ay (aa 3)),
 ae 12 (aY ⟨bG (aa 10),#[aa 11],#[9]⟩),
 ae 13 (fM UnOp.not 4 (aa 12))]
def xt:SC:=
 (.seq (.region zM)
 (.seq (.cond (aa 7) .skip (.exit 0))
 (.block 1 (.seq (.region OJ)
 (.seq (.region OL)
 (.cond (aa 13) .ret .skip))))))
def OH:SC:=
 (.seq (.region OI)
 (.block 0 (.loop xt)))
theorem ae2:Tryz.prog.funcs[49]? =some Tryz.f49:=by kernel_rfl
theorem ae1:(Tryz.f49.body).map cL=some OH:=by kernel_rfl
theorem ae4:Tryz.f49.ntmps=14:=by kernel_rfl
theorem ae3:Tryz.f49.results.toList=[]:=by kernel_rfl
def ON:aC:=
 [ae 2 (aJ (aE (iM none 0 0)))]
def OO:aC:=
 [ae 3 (ay (aa 0)),
 ae 4 (aY ⟨bG (bM 81),#[aE (iM none 0 0),aa 3],#[27,76]⟩),
 ae 2 (aJ (aa 4))]
def OM:SC:=
 (.seq (.region ON)
 (.seq (.region OO)
 .ret))
theorem afe:Tryz.prog.funcs[50]? =some Tryz.f50:=by kernel_rfl
theorem afd:(Tryz.f50.body).map cL=some OM:=by kernel_rfl
theorem afg:Tryz.f50.ntmps=5:=by kernel_rfl
theorem aff:Tryz.f50.results.toList=[dF 2]:=by kernel_rfl
def OQ:aC:=
 [ae 4 (aI 63 (aa 1)),
 ae 5 (Op.range 63 (aa 4))]
def zN:aC:=
 [ae 6 (Op.next (aa 5) false),
 ae 7 (fe (aa 6) 0)]
def OS:aC:=
 [ae 8 (Op.entry (aa 5)),
 ae 9 (fe (aa 8) 0),
 ae 3 (eZ 31),
 ⟨none,dD 31 (aa 3) (aa 9),.aw⟩]
def OT:aC:=
 [ae 10 (ay (aa 0)),
 ae 11 (aI 31 (aa 3)),
 ae 12 (aY ⟨bG (aa 10),#[aa 11],#[31]⟩),
 ae 13 (fM UnOp.not 4 (aa 12))]
def xu:SC:=
 (.seq (.region zN)
 (.seq (.cond (aa 7) .skip (.exit 0))
 (.block 1 (.seq (.region OS)
 (.seq (.region OT)
 (.cond (aa 13) .ret .skip))))))
def OP:SC:=
 (.seq (.region OQ)
 (.block 0 (.loop xu)))
theorem afi:Tryz.prog.funcs[52]? =some Tryz.f52:=by kernel_rfl
theorem afh:(Tryz.f52.body).map cL=some OP:=by kernel_rfl
theorem afk:Tryz.f52.ntmps=14:=by kernel_rfl
theorem afj:Tryz.f52.results.toList=[]:=by kernel_rfl
theorem Z2:bI 52 3=1:=by kernel_rfl
def Qr:aC:=
 [ae 2 (e7 37 (aa 0)),
 ae 4 (aJ (aE (iM none 0 0)))]
def Qs:aC:=
 [ae 6 (ay (aa 1))]
def Qt:aC:=
 [ae 5 (aJ (aa 7))]
def Qu:aC:=
 [ae 8 (aI 37 (aa 2)),
 ae 9 (ay (aa 5)),
 ae 10 (kE 37 1 #[(0,aa 9)]),
 ae 11 (aY ⟨cG nm,#[aa 8,aa 10],#[37,37]⟩),
 ⟨none,dD 37 (aa 2) (aa 11),.aw⟩]
def sl:Code:=
 (Code.region 2 #[{dst:=some 5,op:=aJ (aa 7),type:=9,pos:= "iter.go:51",after:= #[],guard:=none }] false)
def sm:Code:=
 (Code.block 1 (Code.region 3 #[{dst:=some 8,op:=aI 37 (aa 2),type:=37,pos:= "iter.go:52",after:= #[],guard:=none }, {dst:=some 9,op:=ay (aa 5),type:=9,pos:= "iter.go:52",after:= #[],guard:=none }, {dst:=some 10,op:=kE 37 1 #[(0,aa 9)],type:=37,pos:= "iter.go:52",after:= #[{on:=1,ground:=Ground.data }],guard:=none }, {dst:=some 11,op:=aY ⟨cG nm,#[aa 8,aa 10],#[37,37]⟩,type:=37,pos:= "iter.go:52",after:= #[{on:=0,ground:=Ground.data }, {on:=2,ground:=Ground.data }],guard:=none }, {dst:=none,op:=dD 37 (aa 2) (aa 11),type:=0,pos:= "iter.go:52",after:= #[{on:=3,ground:=Ground.data }, {on:=3,ground:=Ground.chain }, {on:=0,ground:=Ground.phase }, {on:=1,ground:=Ground.phase }, {on:=2,ground:=Ground.phase }, {on:=3,ground:=Ground.phase }],guard:=none }] false))
def Qp:SC:=
 (.region Qt)
def Qq:SC:=
 (.block 1 (.region Qu))
def Qv:aC:=
 [ae 12 (aI 37 (aa 2)),
 ae 4 (aJ (aa 12))]
def Qo:SC:=
 (.seq (.region Qr)
 (.seq (.seq (.region Qs)
 (.block 0 (.rfun (aa 6) [7] sl sm)))
 (.seq (.region Qv)
 .ret)))
theorem agS:cL sl=Qp:=by kernel_rfl
theorem agT:cL sm=Qq:=by kernel_rfl
theorem agU:(fq sl&&fq sm)=true:=by kernel_rfl
theorem agV:Tryz.prog.funcs[78]? =some Tryz.f78:=by kernel_rfl
theorem agR:(Tryz.f78.body).map cL=some Qo:=by kernel_rfl
theorem agX:Tryz.f78.ntmps=13:=by kernel_rfl
theorem agW:Tryz.f78.results.toList=[dF 4]:=by kernel_rfl
theorem aaJ:bI 78 2=0:=by kernel_rfl
theorem aaH:bI 78 10=0:=by kernel_rfl
theorem aaI:bI 78 11=2:=by kernel_rfl
def Qz:aC:=
 [ae 2 (e7 27 (aa 0)),
 ae 4 (aJ (aE (iM none 0 0)))]
def QA:aC:=
 [ae 6 (ay (aa 1))]
def QB:aC:=
 [ae 5 (eZ 31),
 ⟨none,dD 31 (aa 5) (aa 7),.aw⟩]
def QC:aC:=
 [ae 8 (aI 27 (aa 2)),
 ae 9 (aI 31 (aa 5)),
 ae 10 (kE 27 1 #[(0,aa 9)]),
 ae 11 (aY ⟨cG nm,#[aa 8,aa 10],#[27,27]⟩),
 ⟨none,dD 27 (aa 2) (aa 11),.aw⟩]
def sn:Code:=
 (Code.region 2 #[{dst:=some 5,op:=eZ 31,type:=0,pos:= "iter.go:51",after:= #[],guard:=none }, {dst:=none,op:=dD 31 (aa 5) (aa 7),type:=0,pos:= "iter.go:51",after:= #[{on:=0,ground:=Ground.data }, {on:=0,ground:=Ground.phase }],guard:=none }] false)
def sq:Code:=
 (Code.block 1 (Code.region 3 #[{dst:=some 8,op:=aI 27 (aa 2),type:=27,pos:= "iter.go:52",after:= #[],guard:=none }, {dst:=some 9,op:=aI 31 (aa 5),type:=31,pos:= "iter.go:52",after:= #[],guard:=none }, {dst:=some 10,op:=kE 27 1 #[(0,aa 9)],type:=27,pos:= "iter.go:52",after:= #[{on:=1,ground:=Ground.data }],guard:=none }, {dst:=some 11,op:=aY ⟨cG nm,#[aa 8,aa 10],#[27,27]⟩,type:=27,pos:= "iter.go:52",after:= #[{on:=0,ground:=Ground.data }, {on:=2,ground:=Ground.data }],guard:=none }, {dst:=none,op:=dD 27 (aa 2) (aa 11),type:=0,pos:= "iter.go:52",after:= #[{on:=3,ground:=Ground.data }, {on:=3,ground:=Ground.chain }, {on:=0,ground:=Ground.phase }, {on:=1,ground:=Ground.phase }, {on:=2,ground:=Ground.phase }, {on:=3,ground:=Ground.phase }],guard:=none }] false))
def Qx:SC:=
 (.region QB)
def Qy:SC:=
 (.block 1 (.region QC))
def QD:aC:=
 [ae 12 (aI 27 (aa 2)),
 ae 4 (aJ (aa 12))]
def Qw:SC:=
 (.seq (.region Qz)
 (.seq (.seq (.region QA)
 (.block 0 (.rfun (aa 6) [7] sn sq)))
 (.seq (.region QD)
 .ret)))
theorem agZ:cL sn=Qx:=by kernel_rfl
theorem ag0:cL sq=Qy:=by kernel_rfl
theorem ag3:(fq sn&&fq sq)=true:=by kernel_rfl
theorem ag4:Tryz.prog.funcs[81]? =some Tryz.f81:=by kernel_rfl
theorem agY:(Tryz.f81.body).map cL=some Qw:=by kernel_rfl
theorem ag6:Tryz.f81.ntmps=13:=by kernel_rfl
theorem ag5:Tryz.f81.results.toList=[dF 4]:=by kernel_rfl
theorem aaM:bI 81 2=0:=by kernel_rfl
theorem aaN:bI 81 5=0:=by kernel_rfl
theorem aaK:bI 81 10=0:=by kernel_rfl
theorem aaL:bI 81 11=2:=by kernel_rfl
def Lj:aC:=
 [ae 4 (aI 195 (aa 1)),
 ae 5 (Op.range 195 (aa 4))]
def zq:aC:=
 [ae 6 (Op.next (aa 5) false),
 ae 7 (fe (aa 6) 0)]
def Lk:aC:=
 [ae 8 (Op.entry (aa 5)),
 ae 9 (fe (aa 8) 0),
 ae 3 (aJ (aa 9))]
def Ll:aC:=
 [ae 10 (ay (aa 0)),
 ae 11 (ay (aa 3)),
 ae 12 (aY ⟨bG (aa 10),#[aa 11],#[9]⟩),
 ae 13 (fM UnOp.not 4 (aa 12))]
def xq:SC:=
 (.seq (.region zq)
 (.seq (.cond (aa 7) .skip (.exit 0))
 (.block 1 (.seq (.region Lk)
 (.seq (.region Ll)
 (.cond (aa 13) .ret .skip))))))
def Li:SC:=
 (.seq (.region Lj)
 (.block 0 (.loop xq)))
theorem acX:Tryz.prog.funcs[185]? =some Tryz.f185:=by kernel_rfl
theorem acW:(Tryz.f185.body).map cL=some Li:=by kernel_rfl
theorem acZ:Tryz.f185.ntmps=14:=by kernel_rfl
theorem acY:Tryz.f185.results.toList=[]:=by kernel_rfl
def J5:aC:=
 [ae 1 (e7 195 (aa 0)),
 ae 2 (aJ (aE Value.nilFunc))]
def J6:aC:=
 [ae 3 (Op.makeFunc (Fn.func 185) #[] #[aa 1]),
 ae 2 (aJ (aa 3))]
def J4:SC:=
 (.seq (.region J5)
 (.seq (.region J6)
 .ret))
theorem aca:Tryz.prog.funcs[120]? =some Tryz.f120:=by kernel_rfl
theorem ab9:(Tryz.f120.body).map cL=some J4:=by kernel_rfl
theorem acd:Tryz.f120.ntmps=4:=by kernel_rfl
theorem acb:Tryz.f120.results.toList=[dF 2]:=by kernel_rfl
theorem Zg:bI 120 1=0:=by kernel_rfl
theorem SZ (cs:List aj) (off:Nat):fg Tryz.prog 27 cs off=(cs.drop off).head?:=by kernel_rfl
theorem FM (cs:List aj) (off:Nat):fg Tryz.prog 31 cs off=(cut cs off 2).bind fun r=>some (.agg r):=by kernel_rfl
theorem ake (cs:List aj) (off:Nat):fg Tryz.prog 195 cs off=(cs.drop off).head?:=by kernel_rfl
theorem alD:fu Tryz.prog 27=some 1:=by kernel_rfl
theorem TT:fu Tryz.prog 31=some 2:=by kernel_rfl
theorem HU:jp Tryz.prog 27=some ⟨2,32,true,(.agg [(.str []),(.str [])])⟩:=by kernel_rfl
theorem abk:lK Tryz.prog 27=true:=by kernel_rfl
abbrev Sp:=List aj->Option aj
abbrev eV:=List (Nat×Sp)
def fv (f:Nat):eV->Option Sp
 | []=>none
 |(k,v)::l=>bif be k f then some v else fv f l
noncomputable def QT (t:eV):cw:=QS fun f=>fv f t
def fT (t:eV):Prop:= ∀p∈t,eN Tryz.prog p.1 p.2
theorem A9 {f:Nat} {sp:Sp}: ∀ {t:eV},fv f t=some sp->(f,sp)∈t
 | [],h=>by cases h
 |(k,v)::l,h=>by
  simp only[fv] at h
  cases hk:be k f with
  |true=>
   rw[hk] at h
   injection h with h;subst h
   have:=ik hk
   subst this
   exact List.mem_cons_self
  |false=>
   rw[hk] at h
   exact List.mem_cons_of_mem _ (A9 h)
theorem Fp:Tryz.prog.funcs.toList.all (fun fn=> !(fn.name== "runtime.NumGoroutine"))=true:=by kernel_rfl
theorem Fh:Tryz.prog.follows .mixedOrders=true:=by kernel_rfl
theorem gK {t:eV} (h:fT t):Good (QT t) where
 mixed:=Fh
 spec f sp hsp args v hv G hp w xs wr hx:=h _ (A9 hsp) args v hv G hp w xs wr hx
 specH f sp h:=by cases h
 names f fn hf:=by
  have hf:Tryz.prog.funcs[f]? =some fn:=hf
  have:=List.all_eq_true.1 Fp fn (by
   rw[<-Array.getElem?_toList] at hf
   exact List.mem_of_getElem? hf)
  simpa using this
theorem fT.nil:fT []:=fun _ h=>by cases h
theorem fT.cons {f:Nat} {sp:Sp} {t:eV} (h:eN Tryz.prog f sp) (ht:fT t):fT ((f,sp)::t):=by
 intro p hp
 rcases List.mem_cons.1 hp with rfl|hp
 ·exact h
 ·exact ht p hp
def xl (c:Nat):List UInt8->Nat->Int
 | [],_=> -1
 |b::l,i=>bif be b.toNat c then(i:Int) else xl c l (i+1)
def F8:Sp
 | [.str s,.int .u8 (.ofNat c)]=>bif bT c 256 then some (.int .i64 (xl c s 0)) else none
 |_=>none
theorem I3 (c:Nat) (hc:c<256): ∀(l:List UInt8) (i:Nat),xl c l i=match(List.range l.length).find? (fun j=>l[j]! ==c.toUInt8) with|some j=>((i+j:Nat):Int)|none=> -1
 | [],i=>rfl
 |b::l,i=>by
  rw[xl,List.length_cons,List.range_succ_eq_map,List.find?_cons]
  have hb:((b::l)[0]! ==c.toUInt8)=be b.toNat c:=by
   show(b==c.toUInt8)=_
   cases h:be b.toNat c with
   |true=>
    have:=ik h
    subst this
    simp
   |false=>
    have:=Nat.ne_of_beq_eq_false h
    apply beq_eq_false_iff_ne.2
    intro e
    apply this
    rw[e]
    simp[Nat.mod_eq_of_lt hc]
  rw[hb]
  cases h:be b.toNat c with
  |true=>simp
  |false=>
   simp only[cF]
   rw[I3 c hc l (i+1),List.find?_map]
   have hf:((fun j=>(b::l)[j]! ==c.toUInt8) ∘ Nat.succ)=fun j=>l[j]! ==c.toUInt8:=by
    funext j
    simp[Function.comp]
   rw[hf]
   cases (List.range l.length).find? (fun j=>l[j]! ==c.toUInt8) with
   |none=>rfl
   |some j=>simp only[Option.map_some];show((i+1+j:Nat):Int)=((i+(j+1):Nat):Int);congr 1;omega
theorem alo:eN Tryz.prog 241 F8:=by
 intro args v hv G h w xs wr hx
 unfold F8 at hv
 split at hv
 ·rename_i s c
  obtain⟨hc,hv⟩:=bX hv
  injection hv with hv;subst hv
  have hc:c<256:=Nat.le_of_ble_eq_true hc
  cases hx with
  |cons a b=>
   cases b with
   |cons b d=>
    cases d
    cases a
    cases b
    refine .inl ⟨.int .i64 (firstIdx ⟨⟨s⟩⟩ c.toUInt8),w,?_,G,wr,.refl,?_⟩
    ·have:=run_callFunc_extern (P:=Tryz.prog) (f:=241) (fn:=Tryz.f241) (e:=Extern.BytealgIndexByte.indexByte) (by kernel_rfl) (by kernel_rfl) (by kernel_rfl) (by kernel_rfl) (by kernel_rfl) #[.string ⟨⟨s⟩⟩,.int .u8 (.ofNat c)] w
     rw[show(⟨[jh ⟨⟨s⟩⟩,.int .u8 (.ofNat c)]⟩:Array Value)= #[.string ⟨⟨s⟩⟩,.int .u8 (.ofNat c)] from rfl,this,run_indexByte_string]
     rfl
    ·have:firstIdx ⟨⟨s⟩⟩ c.toUInt8=xl c s 0:=by
      rw[I3 c hc]
      unfold firstIdx
      have h1:(⟨⟨s⟩⟩:ByteArray).size=s.length:=rfl
      rw[h1]
      have h2:(fun i=>(⟨⟨s⟩⟩:ByteArray)[i]! ==c.toUInt8)=fun(j:Nat)=>s[j]! ==c.toUInt8:=by
       funext i
       congr 1
       by_cases hi:i<s.length
       ·rw[getElem!_pos (⟨⟨s⟩⟩:ByteArray) i hi,getElem!_pos s i hi];rfl
       ·rw[getElem!_neg (⟨⟨s⟩⟩:ByteArray) i hi,getElem!_neg s i hi]
      rw[h2]
      cases (List.range s.length).find? (fun(j:Nat)=>s[j]! ==c.toUInt8)<;>simp
     rw[this]
     exact .int _ _
 ·cases hv
abbrev ar:=List UInt8
def xE (b:Nat):Bool:=(cy 97 b&&cy b 122)||(cy 65 b&&cy b 90)
def wZ (b:Nat):Bool:=cy 48 b&&cy b 57
def xN (b:Nat):List Nat->Bool
 | []=>false
 |x::l=>be b x||xN b l
def rY (b:Nat):Nat:=
 bif xE b then 3 else bif wZ b then 4 else bif xN b [32,9,10] then 1 else bif xN b [59,44,46,58,40,41,123,125,91,93,61,60,62,47,45] then 6
 else bif be b 35 then 2 else bif be b 95 then 5 else bif be b 34 then 7 else 0
def ph:Nat->Nat->List aj
 |0,_=>[]
 |k+1,i=>.int .u8 (rY i:Nat)::ph k (i+1)
def Hz:aj:=.agg (ph 256 0)
def A1:Sp
 | []=>some Hz
 |_=>none
def T1:eV:=[(241,F8)]
theorem GR:fT T1:=.cons alo .nil
noncomputable def l9 (t:eV) (n f:Nat) (args:List aj):Option (aj×Nat):=((cN (QT t) n).call f args [] s0).bind fun x=>(dh x.2.heap 12 x.1).bind fun u=>some (u,x.2.ci)
theorem oe {t:eV} (ht:fT t) {n f:Nat} {args:List aj} {u:aj} (h:l9 t n f args=some (u,0)) {args':List aj} (ha:ef args'=args) (hp:jT args'=true) (G:Gh) (hh:bv bH) (w:World) (xs:List Value) (wr:WR G hh w) (hx:cp G args' xs):
 kF Tryz.prog f ⟨xs⟩ w fun y w'=> ∃G',WR G' hh w'/\dr G hh w G' hh w' 0 0/\VR G' u y:=by
 simp only[l9,Option.bind_eq_some_iff,Option.some.injEq,Prod.mk.injEq] at h
 obtain⟨⟨v,s'⟩,h1,u',h2,rfl,h3⟩:=h
 exact gS (Q:=QT t) (gK ht) (fun _=>Nat.zero_lt_succ 1) hp ⟨n,by rw[ha];exact h1⟩ h3 ⟨12,h2⟩ G hh w xs wr hx
theorem XI:l9 T1 3000 89 []=some (Hz,0):=by kernel_rfl
theorem aln:eN Tryz.prog 89 A1:=by
 intro args v hv G h w xs wr hx
 cases args with
 |nil=>
  injection hv with hv;subst hv
  exact oe GR XI rfl rfl G h w xs wr hx
 |cons _ _=>cases hv
theorem HD: ∀k i,(ph k i).length=k
 |0,_=>rfl
 |k+1,i=>by simp[ph,HD k (i+1)]
theorem HC: ∀(k i j:Nat),j<k->((ph k i).drop j).head?=some (.int .u8 (rY (i+j):Nat))
 |0,_,_,h=>by omega
 |k+1,i,0,_=>by simp[ph]
 |k+1,i,j+1,h=>by
  simp only[ph,List.drop_succ_cons]
  rw[HC k (i+1) j (by omega),show i+1+j=i+(j+1) by omega]
end Go.Proofs.YtbfmdojdemckbaaGreat
