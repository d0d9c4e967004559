/- The program as the evaluator takes it; codes of its functions; tables of contracts. -/
import Derived.Test.YtbfmdojdemckbaaGreatAg3
import Derived.Test.YtbfmdojdemckbaaGreatProg
import Derived.KernelRfl
import Derived.Laws.Externs
open Go.BinOp renaming add→ei,eql→eI,geq→lN,gtr→j1,lss→dS,neq→jd,sub→mT
open Go.Builtin renaming append→n9,len→dh
open Go.Callee renaming builtin→cO,value→bI
open Go.IntKind renaming i64→bj
open Nat renaming beq→bo,ble→cK,blt→cg,eq_of_beq_eq_true→iI
open Go.Op renaming alloc→fu,assign→aJ,binOp→bf,box→ew,buildSlice→kG,build→j3,call→be,extract→fg,fieldAddr→bA,indexAddr→dn,load→aK,lookup→nJ,mapUpdate→uf,move→ax,nilCheck→dV,pick→cS,store→dN,unOp→fH
open Go.Operand renaming const→aE,func→bM,tmp→aa
open Go.ResultVar renaming tmp→dE
open Go.Value renaming bool→bC,int→bg,pointer→mU,slice→i8,string→fX
namespace Go.Proofs.YtbfmdojdemckbaaGreat
open Go.Ag
def JA (n:Nat):List (Nat×Nat)->Nat
 | []=>0
 |(k,v)::l=>bif bo k n then v else JA n l
def abg:List (Nat×List (Nat×Nat)):=[
(3,[(3,1),(4,1),(5,1),(8,1),(10,1)]),
(4,[(2,1),(3,1),(6,1),(8,1),(10,1)]),
(5,[(4,1),(5,1),(6,1),(10,1),(12,1),(14,1),(16,1),(18,1),(20,1),(21,1)]),
(6,[(3,1),(4,1),(5,1),(8,1),(14,1),(16,1)]),
(7,[(1,1),(2,1),(4,1),(6,1),(8,1),(9,1),(10,1),(11,1),(12,1),(16,1)]),
(8,[(3,1),(4,1),(5,1)]),
(9,[(3,1),(4,1),(5,1),(6,1),(15,1)]),
(10,[(2,1),(3,1)]),
(12,[(1,1)]),
(13,[(1,1),(5,1)]),
(14,[(2,1),(4,1)]),
(15,[(3,1),(4,1),(7,1),(9,1)]),
(16,[(2,1),(3,1)]),
(18,[(2,1)]),
(19,[(2,1)]),
(20,[(8,1),(9,1)]),
(21,[(3,1),(4,1),(5,1),(6,1),(10,1)]),
(22,[(2,1),(6,1)]),
(23,[(1,1)]),
(30,[(2,1),(3,1)]),
(33,[(2,1),(3,1)]),
(34,[(1,1)]),
(35,[(2,1),(3,1)]),
(40,[(2,1)]),
(42,[(6,1),(17,1)]),
(52,[(3,1)]),
(54,[(1,1)]),
(55,[(2,1)]),
(57,[(3,1)]),
(58,[(3,1)]),
(59,[(5,1)]),
(63,[(1,1)]),
(64,[(1,1),(3,1)]),
(67,[(0,1)]),
(68,[(2,1),(3,1),(7,1)]),
(69,[(6,1),(10,1),(16,1)]),
(70,[(2,1),(4,1),(9,1),(10,1)]),
(71,[(2,1),(10,1),(14,1)]),
(72,[(1,1),(2,1)]),
(73,[(5,1),(11,1),(40,2),(120,2)]),
(74,[(10,1),(13,1),(19,1),(22,1)]),
(75,[(7,1),(8,1),(9,1),(10,1)]),
(76,[(8,1),(13,1),(18,1)]),
(78,[(11,2)]),
(81,[(11,2)]),
(84,[(1,1)]),
(88,[(1,1)]),
(89,[(0,1),(1,1)]),
(92,[(6,1)]),
(93,[(1,1)]),
(94,[(1,1)]),
(96,[(1,1),(5,1),(9,1)]),
(97,[(7,1)]),
(98,[(3,1)]),
(99,[(1,1),(5,1),(7,1)]),
(100,[(3,1),(4,1),(6,1),(7,1),(9,1),(10,1)]),
(101,[(2,1)]),
(102,[(2,1),(7,1),(10,1)]),
(103,[(1,1),(6,1)]),
(104,[(1,1),(3,1),(10,1),(13,1),(19,1),(21,1),(176,2)]),
(105,[(1,1)]),
(106,[(1,1),(8,1)]),
(107,[(2,1),(4,1)]),
(110,[(1,1)]),
(112,[(1,1)]),
(118,[(4,1),(5,1)]),
(119,[(2,1),(3,1)]),
(124,[(5,1)]),
(147,[(3,1)]),
(148,[(3,1)]),
(149,[(1,1),(3,1)]),
(150,[(3,1),(4,1),(11,1)]),
(151,[(2,1),(3,1),(4,1),(8,1)]),
(152,[(2,1),(4,1)]),
(153,[(2,1),(7,1),(10,1)]),
(154,[(1,1),(5,1)]),
(155,[(1,1)]),
(156,[(1,1),(2,1),(4,1),(6,1)]),
(157,[(1,1),(5,1),(10,1),(12,1),(93,2)]),
(159,[(2,1),(4,1)]),
(160,[(11,1),(15,1)]),
(161,[(2,1),(7,1)]),
(164,[(2,1),(3,1)]),
(165,[(1,1),(5,1),(7,1),(11,1)]),
(166,[(25,2)]),
(169,[(1,1),(6,1),(8,1)]),
(170,[(3,1),(7,1)]),
(171,[(3,1)]),
(172,[(3,1)]),
(173,[(2,1)]),
(179,[(1,1)]),
(184,[(4,1)]),
(202,[(2,1),(3,1)]),
(203,[(4,1)]),
(207,[(4,1),(5,1),(6,1),(10,1)]),
(208,[(4,1),(5,1),(6,1),(7,1)]),
(210,[(2,1)]),
(211,[(7,2)]),
(217,[(3,1)]),
(219,[(2,1),(3,1)]),
(221,[(6,1),(12,1),(92,2),(97,2)]),
(222,[(2,1),(3,1)]),
(230,[(4,1)]),
(232,[(7,1)]),
(233,[(2,1)]),
(234,[(1,1)]),
(245,[(2,1)]),
(250,[(3,1)]),
(255,[(1,1)]),
(257,[(2,1)]),
(261,[(1,1)]),
(262,[(1,1)]),
(263,[(3,1)]),
(268,[(4,1)]),
(270,[(2,1),(3,1)]),
(271,[(7,1)]),
(272,[(2,1)]),
(273,[(2,1),(3,1)]),
(275,[(2,1),(3,1)]),
(276,[(4,1)]),
(277,[(1,1),(2,1)]),
(278,[(3,1),(4,1),(5,1)]),
(279,[(2,1),(3,1),(5,1),(6,1)]),
(291,[(4,1)]),
(292,[(7,1)]),
(293,[(1,1),(2,1)]),
(306,[(3,1)]),
(320,[(2,1),(3,1),(4,1)]),
(321,[(2,1),(3,1)]),
(322,[(2,1),(3,1)]),
(327,[(1,1)]),
(328,[(1,1)]),
(337,[(3,1),(4,1),(5,1)]),
(342,[(2,1)])]
def JB (f t:Nat):List (Nat×List (Nat×Nat))->Nat
 | []=>0
 |(k,v)::l=>bif bo k f then JA t v else JB f t l
def bL (f:FuncId) (t:Tmp):Nat:=JB f t abg
noncomputable def QS (sp:FuncId->Option (List aj->Option aj)):cI:= {P:=Tryz.prog,hint:=bL,spec:=sp,ch:=fun _=>0,kmax:=fun _=>2 }
theorem aP (sp:FuncId->Option (List aj->Option aj)):(QS sp).P=Tryz.prog:=rfl
theorem bW (sp:FuncId->Option (List aj->Option aj)):(QS sp).hint=bL:=rfl
theorem dq (sp:FuncId->Option (List aj->Option aj)):(QS sp).spec=sp:=rfl
def ad8:List Nat:=[0,1,0,7,15,0,32,0,224,480,1023,2047]
def aea:aC:=
 [ae 2 (ew 24 (aa 0)),
 ae 3 (ew 24 (aa 1)),
 ae 4 (aJ (aE (bC false)))]
def aeb:aC:=
 [ae 6 (bA 24 (aa 2) 0),
 ae 7 (aK 22 (aa 6)),
 ae 8 (be ⟨cO dh,#[aa 7],#[22]⟩),
 ae 9 (bA 24 (aa 3) 0),
 ae 10 (aK 22 (aa 9)),
 ae 11 (be ⟨cO dh,#[aa 10],#[22]⟩),
 ae 12 (bf jd 3 (aa 8) (aa 11) 3)]
def aec:aC:=
 [ae 4 (aJ (aE (bC false)))]
def aed:aC:=
 [ae 5 (aJ (aE (bg bj 0)))]
def aee:aC:=
 [ae 13 (ax (aa 5)),
 ae 14 (bA 24 (aa 2) 0),
 ae 15 (aK 22 (aa 14)),
 ae 16 (be ⟨cO dh,#[aa 15],#[22]⟩),
 ae 17 (bf dS 3 (aa 13) (aa 16) 3)]
def aeg:aC:=
 [ae 20 (bA 24 (aa 2) 0),
 ae 21 (aK 22 (aa 20)),
 ae 22 (ax (aa 5)),
 ae 23 (dn 22 (aa 21) (aa 22)),
 ae 24 (aK 40 (aa 23)),
 ae 25 (bA 24 (aa 3) 0),
 ae 26 (aK 22 (aa 25)),
 ae 27 (ax (aa 5)),
 ae 28 (dn 22 (aa 26) (aa 27)),
 ae 29 (aK 40 (aa 28)),
 ae 30 (be ⟨bI (bM 33),#[aa 24,aa 29],#[40,40]⟩),
 ae 31 (fH UnOp.not 4 (aa 30))]
def aeh:aC:=
 [ae 4 (aJ (aE (bC false)))]
def aef:aC:=
 [ae 18 (ax (aa 5)),
 ae 19 (bf ei 3 (aa 18) (aE (bg bj 1)) 3),
 ae 5 (aJ (aa 19))]
def ad9:SC:=
 (.seq (.seq (.region aee)
 (.cond (aa 17) .skip (.exit 0)))
 (.seq (.block 1 (.seq (.draw aeg ad8)
 (.cond (aa 31) (.seq (.region aeh)
 .ret) .skip)))
 (.region aef)))
def aei:aC:=
 [ae 4 (aJ (aE (bC true)))]
def J2:SC:=
 (.seq (.region aea)
 (.seq (.seq (.region aeb)
 (.cond (aa 12) (.seq (.region aec)
 .ret) .skip))
 (.seq (.seq (.region aed)
 (.block 0 (.loop ad9)))
 (.seq (.region aei)
 .ret))))
def agi:List Nat:=[0,1,0,7,15,31,63,0,128,0,896,1920,3968,8064,16383,32767]
def MZ:aC:=
 [ae 2 (ew 24 (aa 0)),
 ae 4 (aJ (aE (bC false)))]
def M3:aC:=
 [ae 9 (bA 24 (aa 2) 0),
 ae 10 (aK 22 (aa 9)),
 ae 11 (be ⟨cO dh,#[aa 10],#[22]⟩),
 ae 12 (ax (aa 1)),
 ae 13 (bf j1 3 (aa 11) (aa 12) 3)]
def Nc:aC:=
 [ae 4 (aJ (aE (bC false)))]
def Nf:aC:=
 [ae 5 (aJ (aE (bg bj 0)))]
def El:aC:=
 [ae 14 (ax (aa 5)),
 ae 15 (bA 24 (aa 2) 0),
 ae 16 (aK 22 (aa 15)),
 ae 17 (be ⟨cO dh,#[aa 16],#[22]⟩),
 ae 18 (bf dS 3 (aa 14) (aa 17) 3)]
def Nh:aC:=
 [ae 21 (bA 24 (aa 2) 0),
 ae 22 (aK 22 (aa 21)),
 ae 23 (ax (aa 5)),
 ae 24 (dn 22 (aa 22) (aa 23)),
 ae 25 (aK 40 (aa 24)),
 ae 6 (fu 40),
 ⟨none,dN 40 (aa 6) (aa 25),.aw⟩]
def Ni:aC:=
 [ae 26 (bA 40 (aa 6) 3),
 ae 27 (aK 37 (aa 26)),
 ae 28 (be ⟨cO dh,#[aa 27],#[37]⟩),
 ae 29 (bf j1 3 (aa 28) (aE (bg bj 12)) 3),
 ae 30 (ax (aa 29)),
 aI 31 (bA 40 (aa 6) 4) 30 false,
 aI 32 (aK 38 (aa 31)) 30 false,
 aI 33 (be ⟨cO dh,#[aa 32],#[38]⟩) 30 false,
 aI 34 (bf j1 3 (aa 33) (aE (bg bj 20)) 3) 30 false,
 ae 35 (cS (aa 30) (aE (bC true)) (aa 34)),
 ae 36 (ax (aa 35)),
 aI 37 (bA 40 (aa 6) 0) 36 false,
 aI 38 (aK 9 (aa 37)) 36 false,
 aI 39 (be ⟨cO dh,#[aa 38],#[9]⟩) 36 false,
 aI 40 (bf j1 3 (aa 39) (aE (bg bj 60)) 3) 36 false,
 ae 41 (cS (aa 36) (aE (bC true)) (aa 40))]
def Em:aC:=
 [ae 4 (aJ (aE (bC false)))]
def Nj:aC:=
 [ae 7 (aJ (aE (bg bj 0)))]
def Ej:aC:=
 [ae 42 (ax (aa 7)),
 ae 43 (bA 40 (aa 6) 3),
 ae 44 (aK 37 (aa 43)),
 ae 45 (be ⟨cO dh,#[aa 44],#[37]⟩),
 ae 46 (bf dS 3 (aa 42) (aa 45) 3)]
def M5:aC:=
 [ae 49 (bA 40 (aa 6) 3),
 ae 50 (aK 37 (aa 49)),
 ae 51 (ax (aa 7)),
 ae 52 (dn 37 (aa 50) (aa 51)),
 ae 53 (aK 9 (aa 52)),
 ae 54 (be ⟨cO dh,#[aa 53],#[9]⟩),
 ae 55 (bf j1 3 (aa 54) (aE (bg bj 60)) 3)]
def M6:aC:=
 [ae 4 (aJ (aE (bC false)))]
def M4:aC:=
 [ae 47 (ax (aa 7)),
 ae 48 (bf ei 3 (aa 47) (aE (bg bj 1)) 3),
 ae 7 (aJ (aa 48))]
def zT:SC:=
 (.seq (.seq (.region Ej)
 (.cond (aa 46) .skip (.exit 2)))
 (.seq (.block 3 (.seq (.region M5)
 (.cond (aa 55) (.seq (.region M6)
 .ret) .skip)))
 (.region M4)))
def M7:aC:=
 [ae 8 (aJ (aE (bg bj 0)))]
def Ek:aC:=
 [ae 56 (ax (aa 8)),
 ae 57 (bA 40 (aa 6) 4),
 ae 58 (aK 38 (aa 57)),
 ae 59 (be ⟨cO dh,#[aa 58],#[38]⟩),
 ae 60 (bf dS 3 (aa 56) (aa 59) 3)]
def M9:aC:=
 [ae 63 (bA 40 (aa 6) 4),
 ae 64 (aK 38 (aa 63)),
 ae 65 (ax (aa 8)),
 ae 66 (dn 38 (aa 64) (aa 65)),
 ae 67 (bA 51 (aa 66) 0),
 ae 68 (aK 9 (aa 67)),
 ae 69 (be ⟨cO dh,#[aa 68],#[9]⟩),
 ae 70 (bA 40 (aa 6) 4),
 ae 71 (aK 38 (aa 70)),
 ae 72 (ax (aa 8)),
 ae 73 (dn 38 (aa 71) (aa 72)),
 ae 74 (bA 51 (aa 73) 1),
 ae 75 (aK 9 (aa 74)),
 ae 76 (be ⟨cO dh,#[aa 75],#[9]⟩),
 ae 77 (bf ei 3 (aa 69) (aa 76) 3),
 ae 78 (bf j1 3 (aa 77) (aE (bg bj 300)) 3)]
def Na:aC:=
 [ae 4 (aJ (aE (bC false)))]
def M8:aC:=
 [ae 61 (ax (aa 8)),
 ae 62 (bf ei 3 (aa 61) (aE (bg bj 1)) 3),
 ae 8 (aJ (aa 62))]
def zU:SC:=
 (.seq (.seq (.region Ek)
 (.cond (aa 60) .skip (.exit 4)))
 (.seq (.block 5 (.seq (.draw M9 agi)
 (.cond (aa 78) (.seq (.region Na)
 .ret) .skip)))
 (.region M8)))
def Ng:aC:=
 [ae 19 (ax (aa 5)),
 ae 20 (bf ei 3 (aa 19) (aE (bg bj 1)) 3),
 ae 5 (aJ (aa 20))]
def zV:SC:=
 (.seq (.seq (.region El)
 (.cond (aa 18) .skip (.exit 0)))
 (.seq (.block 1 (.seq (.region Nh)
 (.seq (.seq (.region Ni)
 (.cond (aa 41) (.seq (.region Em)
 .ret) .skip))
 (.seq (.seq (.region Nj)
 (.block 2 (.loop zT)))
 (.seq (.region M7)
 (.block 4 (.loop zU)))))))
 (.region Ng)))
def Nb:aC:=
 [ae 4 (aJ (aE (bC true)))]
def MY:SC:=
 (.seq (.region MZ)
 (.seq (.seq (.region M3)
 (.cond (aa 13) (.seq (.region Nc)
 .ret) .skip))
 (.seq (.seq (.region Nf)
 (.block 0 (.loop zV)))
 (.seq (.region Nb)
 .ret))))
theorem agk:Tryz.prog.funcs[22]? =some Tryz.f22:=by kernel_rfl
theorem agj:(Tryz.f22.body).map cL=some MY:=by kernel_rfl
theorem agm:Tryz.f22.ntmps=79:=by kernel_rfl
theorem agl:Tryz.f22.results.toList=[dE 4]:=by kernel_rfl
theorem ab0:bL 22 2=1:=by kernel_rfl
theorem ab1:bL 22 6=1:=by kernel_rfl
def LH:aC:=
 [ae 1 (ew 24 (aa 0)),
 ae 2 (aJ (aE (bC false)))]
def LI:aC:=
 [ae 3 (aJ (aE (fX {data:= #[] })))]
def LJ:aC:=
 [ae 6 (bA 24 (aa 1) 0),
 ae 7 (aK 22 (aa 6)),
 ae 8 (be ⟨cO dh,#[aa 7],#[22]⟩),
 ae 9 (ax (aE (bg bj 0)))]
def Ef:aC:=
 [ae 10 (bf dS 3 (aa 9) (aa 8) 3)]
def LK:aC:=
 [ae 11 (dn 22 (aa 7) (aa 9)),
 ae 12 (aK 40 (aa 11)),
 ae 5 (fu 40),
 ⟨none,dN 40 (aa 5) (aa 12),.aw⟩]
def LL:aC:=
 [ae 13 (aK 40 (aa 5)),
 ae 14 (be ⟨bI (bM 36),#[aa 13],#[40]⟩),
 ae 15 (fH UnOp.not 4 (aa 14)),
 ae 16 (ax (aa 15)),
 aI 17 (bA 40 (aa 5) 0) 16 false,
 aI 18 (aK 9 (aa 17)) 16 false,
 aI 19 (ax (aa 3)) 16 false,
 aI 20 (bf BinOp.leq 9 (aa 18) (aa 19) 9) 16 false,
 ae 21 (cS (aa 16) (aE (bC true)) (aa 20))]
def Eg:aC:=
 [ae 2 (aJ (aE (bC false)))]
def LM:aC:=
 [ae 22 (bA 40 (aa 5) 0),
 ae 23 (aK 9 (aa 22)),
 ae 3 (aJ (aa 23))]
def LN:aC:=
 [ae 24 (bf ei 3 (aa 9) (aE (bg bj 1)) 3),
 ae 9 (ax (aa 24))]
def zP:SC:=
 (.seq (.region Ef)
 (.seq (.cond (aa 10) .skip (.exit 0))
 (.seq (.block 1 (.seq (.region LK)
 (.seq (.seq (.region LL)
 (.cond (aa 21) (.seq (.region Eg)
 .ret) .skip))
 (.region LM))))
 (.region LN))))
def LO:aC:=
 [ae 25 (bA 24 (aa 1) 0),
 ae 26 (aK 22 (aa 25)),
 ae 27 (be ⟨cO dh,#[aa 26],#[22]⟩),
 ae 28 (bf BinOp.leq 3 (aa 27) (aE (bg bj 1000000)) 3),
 ae 2 (aJ (aa 28))]
def LG:SC:=
 (.seq (.region LH)
 (.seq (.region LI)
 (.seq (.seq (.region LJ)
 (.block 0 (.loop zP)))
 (.seq (.region LO)
 .ret))))
theorem afi:Tryz.prog.funcs[13]? =some Tryz.f13:=by kernel_rfl
theorem afh:(Tryz.f13.body).map cL=some LG:=by kernel_rfl
theorem afk:Tryz.f13.ntmps=29:=by kernel_rfl
theorem afj:Tryz.f13.results.toList=[dE 2]:=by kernel_rfl
theorem abI:bL 13 1=1:=by kernel_rfl
theorem abJ:bL 13 5=1:=by kernel_rfl
def ahk:List Nat:=[0,1,3,7,15,31,63,127,255,511,1023,2047,4095,8191,16383,32767,65535,131071,262143,524287,131071,1179647,3276799,8388607,16777215,33554431,67108863,134217727,268435455,536870911,1073741823]
def OP:aC:=
 [ae 1 (ew 40 (aa 0)),
 ae 2 (aJ (aE (bC false)))]
def OQ:aC:=
 [ae 6 (bA 40 (aa 1) 1),
 ae 7 (aK 3 (aa 6)),
 ae 8 (be ⟨bI (bM 57),#[aa 7],#[3]⟩),
 ae 9 (bf eI 9 (aa 8) (aE (fX {data:= #[] })) 9),
 ae 10 (ax (aa 9)),
 aI 11 (bA 40 (aa 1) 0) 10 false,
 aI 12 (aK 9 (aa 11)) 10 false,
 aI 13 (be ⟨bI (bM 58),#[aa 12],#[9]⟩) 10 false,
 aI 14 (fH UnOp.not 4 (aa 13)) 10 false,
 ae 15 (cS (aa 10) (aE (bC true)) (aa 14)),
 ae 16 (ax (aa 15)),
 aI 17 (bA 40 (aa 1) 4) 16 false,
 aI 18 (aK 38 (aa 17)) 16 false,
 aI 19 (be ⟨bI (bM 59),#[aa 18],#[38]⟩) 16 false,
 aI 20 (fH UnOp.not 4 (aa 19)) 16 false,
 ae 21 (cS (aa 16) (aE (bC true)) (aa 20)),
 ae 22 (ax (aa 21)),
 aI 23 (bA 40 (aa 1) 3) 22 false,
 aI 24 (aK 37 (aa 23)) 22 false,
 aI 25 (be ⟨cO dh,#[aa 24],#[37]⟩) 22 false,
 aI 26 (bA 40 (aa 1) 1) 22 false,
 aI 27 (aK 3 (aa 26)) 22 false,
 aI 28 (be ⟨bI (bM 60),#[aa 27],#[3]⟩) 22 false,
 aI 29 (bf dS 3 (aa 25) (aa 28) 3) 22 false,
 ae 30 (cS (aa 22) (aE (bC true)) (aa 29)),
 ae 31 (ax (aa 30)),
 aI 32 (bA 40 (aa 1) 3) 31 false,
 aI 33 (aK 37 (aa 32)) 31 false,
 aI 34 (be ⟨cO dh,#[aa 33],#[37]⟩) 31 false,
 aI 35 (bf j1 3 (aa 34) (aE (bg bj 2000)) 3) 31 false,
 ae 36 (cS (aa 31) (aE (bC true)) (aa 35))]
def EG:aC:=
 [ae 2 (aJ (aE (bC false)))]
def OW:aC:=
 [ae 37 (Op.makeMap 109 none),
 ae 3 (fu 109),
 ⟨none,dN 109 (aa 3) (aa 37),.aw⟩]
def OX:aC:=
 [ae 4 (fu 9),
 ⟨none,dN 9 (aa 4) (aE (fX {data:= #[] })),.aw⟩]
def OY:aC:=
 [ae 38 (Op.makeFunc (Fn.func 61) #[] #[aa 1,aa 4,aa 3]),
 ae 5 (aJ (aa 38))]
def OZ:aC:=
 [ae 39 (bA 40 (aa 1) 3),
 ae 40 (aK 37 (aa 39)),
 ae 41 (ax (aa 5)),
 ae 42 (be ⟨bI (bM 62),#[aa 40,aa 41],#[37,101]⟩)]
def O0:aC:=
 [ae 2 (aJ (aE (bC false)))]
def O1:aC:=
 [ae 43 (bA 40 (aa 1) 1),
 ae 44 (aK 3 (aa 43))]
def O2:aC:=
 [ae 46 (bf eI 3 (aa 44) (aE (bg bj 1)) 3),
 ae 45 (aJ (aa 46))]
def OS:aC:=
 [ae 47 (bA 40 (aa 1) 3),
 ae 48 (aK 37 (aa 47)),
 ae 49 (be ⟨cO dh,#[aa 48],#[37]⟩),
 ae 50 (bf eI 3 (aa 49) (aE (bg bj 0)) 3),
 ae 51 (ax (aa 50)),
 aI 52 (bA 40 (aa 1) 2) 51 true,
 aI 53 (aK 36 (aa 52)) 51 true,
 aI 54 (be ⟨bI (bM 63),#[aa 53],#[36]⟩) 51 true,
 ae 55 (cS (aa 51) (aa 54) (aE (bC false))),
 ae 2 (aJ (aa 55))]
def OT:aC:=
 [ae 57 (bf eI 3 (aa 44) (aE (bg bj 5)) 3),
 ae 56 (aJ (aa 57))]
def OU:aC:=
 [ae 58 (bA 40 (aa 1) 3),
 ae 59 (aK 37 (aa 58)),
 ae 60 (be ⟨cO dh,#[aa 59],#[37]⟩),
 ae 61 (bf eI 3 (aa 60) (aE (bg bj 3)) 3),
 ae 62 (ax (aa 61)),
 aI 63 (bA 40 (aa 1) 2) 62 true,
 aI 64 (aK 36 (aa 63)) 62 true,
 aI 65 (j3 36 #[]) 62 true,
 aI 66 (bf eI 36 (aa 64) (aa 65) 36) 62 true,
 ae 67 (cS (aa 62) (aa 66) (aE (bC false))),
 ae 2 (aJ (aa 67))]
def OV:aC:=
 [ae 68 (bA 40 (aa 1) 2),
 ae 69 (aK 36 (aa 68)),
 ae 70 (j3 36 #[]),
 ae 71 (bf eI 36 (aa 69) (aa 70) 36),
 ae 2 (aJ (aa 71))]
def OO:SC:=
 (.seq (.region OP)
 (.seq (.seq (.draw OQ ahk)
 (.cond (aa 36) (.seq (.region EG)
 .ret) .skip))
 (.seq (.region OW)
 (.seq (.region OX)
 (.seq (.region OY)
 (.seq (.seq (.region OZ)
 (.cond (aa 42) (.seq (.region O0)
 .ret) .skip))
 (.seq (.seq (.region O1)
 (.block 0 (.seq (.region O2)
 (.cond (aa 45) (.seq (.region OS)
 .ret) (.seq (.region OT)
 (.cond (aa 56) (.seq (.region OU)
 .ret) .skip))))))
 (.seq (.region OV)
 .ret))))))))
theorem ahm:Tryz.prog.funcs[36]? =some Tryz.f36:=by kernel_rfl
theorem ahl:(Tryz.f36.body).map cL=some OO:=by kernel_rfl
theorem aho:Tryz.f36.ntmps=72:=by kernel_rfl
theorem ahn:Tryz.f36.results.toList=[dE 2]:=by kernel_rfl
theorem aci:bL 36 1=0:=by kernel_rfl
theorem acj:bL 36 3=0:=by kernel_rfl
theorem ack:bL 36 4=0:=by kernel_rfl
def Qr:aC:=
 [ae 2 (aJ (aE (fX {data:= #[] })))]
def Qs:aC:=
 [ae 4 (j3 150 #[(1,aE (fX {data:= #[110,111,100,101] })),(2,aE (fX {data:= #[119,97,121] })),(3,aE (fX {data:= #[97,114,101,97] })),(4,aE (fX {data:= #[114,111,117,116,101] })),(5,aE (fX {data:= #[116,117,114,110] }))]),
 ae 3 (fu 150),
 ⟨none,dN 150 (aa 3) (aa 4),.aw⟩]
def Qt:aC:=
 [ae 5 (ax (aa 0)),
 ae 6 (bf dS 3 (aa 5) (aE (bg bj 0)) 3),
 ae 7 (ax (aa 6)),
 aI 8 (ax (aa 0)) 7 false,
 aI 9 (bf lN 3 (aa 8) (aE (bg bj 6)) 3) 7 false,
 ae 10 (cS (aa 7) (aE (bC true)) (aa 9))]
def EW:aC:=
 [ae 2 (aJ (aE (fX {data:= #[] })))]
def aiT:aC:=
 [ae 11 (ax (aa 0)),
 ae 12 (dn 150 (aa 3) (aa 11)),
 ae 13 (aK 9 (aa 12)),
 ae 2 (aJ (aa 13))]
def Qq:SC:=
 (.seq (.region Qr)
 (.seq (.region Qs)
 (.seq (.seq (.region Qt)
 (.cond (aa 10) (.seq (.region EW)
 .ret) .skip))
 (.seq (.region aiT)
 .ret))))
theorem aiS:Tryz.prog.funcs[57]? =some Tryz.f57:=by kernel_rfl
theorem aiR:(Tryz.f57.body).map cL=some Qq:=by kernel_rfl
theorem aiV:Tryz.f57.ntmps=14:=by kernel_rfl
theorem aiU:Tryz.f57.results.toList=[dE 2]:=by kernel_rfl
theorem acy:bL 57 3=1:=by kernel_rfl
def Qv:aC:=
 [ae 2 (aJ (aE (bC false)))]
def Qw:aC:=
 [ae 6 (be ⟨bI (bM 89),#[],#[]⟩),
 ae 3 (fu 151),
 ⟨none,dN 151 (aa 3) (aa 6),.aw⟩]
def Qx:aC:=
 [ae 7 (ax (aa 0)),
 ae 8 (be ⟨cO dh,#[aa 7],#[9]⟩),
 ae 9 (ax (aE (bg bj 0)))]
def EX:aC:=
 [ae 10 (bf dS 3 (aa 9) (aa 8) 3)]
def Qy:aC:=
 [ae 11 (ax (aa 9)),
 ae 4 (aJ (aa 11))]
def Qz:aC:=
 [ae 12 (ax (aa 0)),
 ae 13 (ax (aa 4)),
 ae 14 (Op.index 9 (aa 12) (aa 13)),
 ae 15 (dn 151 (aa 3) (aa 14)),
 ae 16 (aK 5 (aa 15)),
 ae 5 (aJ (aa 16))]
def QA:aC:=
 [ae 17 (ax (aa 5)),
 ae 18 (bf jd 5 (aa 17) (aE (bg IntKind.u8 3)) 5),
 ae 19 (ax (aa 18)),
 aI 20 (ax (aa 4)) 19 true,
 aI 21 (bf eI 3 (aa 20) (aE (bg bj 0)) 3) 19 true,
 aI 22 (ax (aa 21)) 19 true,
 aI 23 (ax (aa 5)) 22 false,
 aI 24 (bf jd 5 (aa 23) (aE (bg IntKind.u8 4)) 5) 22 false,
 aI 25 (ax (aa 24)) 22 false,
 aI 26 (ax (aa 5)) 25 true,
 aI 27 (bf jd 5 (aa 26) (aE (bg IntKind.u8 5)) 5) 25 true,
 aI 28 (cS (aa 25) (aa 27) (aE (bC false))) 22 false,
 aI 29 (cS (aa 22) (aE (bC true)) (aa 28)) 19 true,
 ae 30 (cS (aa 19) (aa 29) (aE (bC false)))]
def EY:aC:=
 [ae 2 (aJ (aE (bC false)))]
def Ao:aC:=
 [ae 31 (bf ei 3 (aa 9) (aE (bg bj 1)) 3),
 ae 9 (ax (aa 31))]
def An:SC:=
 (.seq (.region EX)
 (.seq (.cond (aa 10) .skip (.exit 0))
 (.seq (.block 1 (.seq (.region Qy)
 (.seq (.region Qz)
 (.seq (.region QA)
 (.cond (aa 30) (.seq (.region EY)
 .ret) .skip)))))
 (.region Ao))))
def QB:aC:=
 [ae 32 (ax (aa 0)),
 ae 33 (bf jd 9 (aa 32) (aE (fX {data:= #[] })) 9),
 ae 34 (ax (aa 33)),
 aI 35 (ax (aa 0)) 34 true,
 aI 36 (be ⟨cO dh,#[aa 35],#[9]⟩) 34 true,
 aI 37 (bf BinOp.leq 3 (aa 36) (aE (bg bj 24)) 3) 34 true,
 ae 38 (cS (aa 34) (aa 37) (aE (bC false))),
 ae 2 (aJ (aa 38))]
def Qu:SC:=
 (.seq (.region Qv)
 (.seq (.region Qw)
 (.seq (.seq (.region Qx)
 (.block 0 (.loop An)))
 (.seq (.region QB)
 .ret))))
theorem aiX:Tryz.prog.funcs[58]? =some Tryz.f58:=by kernel_rfl
theorem aiW:(Tryz.f58.body).map cL=some Qu:=by kernel_rfl
theorem aiZ:Tryz.f58.ntmps=39:=by kernel_rfl
theorem aiY:Tryz.f58.results.toList=[dE 2]:=by kernel_rfl
theorem acz:bL 58 3=1:=by kernel_rfl
def QD:aC:=
 [ae 2 (aJ (aE (bC false)))]
def QE:aC:=
 [ae 3 (aJ (aE (fX {data:= #[] })))]
def QF:aC:=
 [ae 6 (ax (aa 0)),
 ae 7 (be ⟨cO dh,#[aa 6],#[38]⟩),
 ae 8 (ax (aE (bg bj 0)))]
def EZ:aC:=
 [ae 9 (bf dS 3 (aa 8) (aa 7) 3)]
def QG:aC:=
 [ae 10 (dn 38 (aa 6) (aa 8)),
 ae 11 (aK 51 (aa 10)),
 ae 5 (fu 51),
 ⟨none,dN 51 (aa 5) (aa 11),.aw⟩]
def QI:aC:=
 [ae 12 (bA 51 (aa 5) 0),
 ae 13 (aK 9 (aa 12)),
 ae 14 (be ⟨bI (bM 58),#[aa 13],#[9]⟩),
 ae 15 (fH UnOp.not 4 (aa 14)),
 ae 16 (ax (aa 15)),
 aI 17 (bA 51 (aa 5) 0) 16 false,
 aI 18 (aK 9 (aa 17)) 16 false,
 aI 19 (ax (aa 3)) 16 false,
 aI 20 (bf BinOp.leq 9 (aa 18) (aa 19) 9) 16 false,
 ae 21 (cS (aa 16) (aE (bC true)) (aa 20)),
 ae 22 (ax (aa 21)),
 aI 23 (bA 51 (aa 5) 1) 22 false,
 aI 24 (aK 9 (aa 23)) 22 false,
 aI 25 (bf eI 9 (aa 24) (aE (fX {data:= #[] })) 9) 22 false,
 ae 26 (cS (aa 22) (aE (bC true)) (aa 25)),
 ae 27 (ax (aa 26)),
 aI 28 (bA 51 (aa 5) 1) 27 false,
 aI 29 (aK 9 (aa 28)) 27 false,
 aI 30 (be ⟨cO dh,#[aa 29],#[9]⟩) 27 false,
 aI 31 (bf j1 3 (aa 30) (aE (bg bj 200)) 3) 27 false,
 ae 32 (cS (aa 27) (aE (bC true)) (aa 31))]
def E0:aC:=
 [ae 2 (aJ (aE (bC false)))]
def QJ:aC:=
 [ae 33 (bA 51 (aa 5) 0),
 ae 34 (aK 9 (aa 33)),
 ae 3 (aJ (aa 34))]
def QK:aC:=
 [ae 35 (bf ei 3 (aa 8) (aE (bg bj 1)) 3),
 ae 8 (ax (aa 35))]
def Ap:SC:=
 (.seq (.region EZ)
 (.seq (.cond (aa 9) .skip (.exit 0))
 (.seq (.block 1 (.seq (.region QG)
 (.seq (.seq (.region QI)
 (.cond (aa 32) (.seq (.region E0)
 .ret) .skip))
 (.region QJ))))
 (.region QK))))
def QL:aC:=
 [ae 36 (ax (aa 0)),
 ae 37 (be ⟨cO dh,#[aa 36],#[38]⟩),
 ae 38 (bf BinOp.leq 3 (aa 37) (aE (bg bj 60)) 3),
 ae 2 (aJ (aa 38))]
def QC:SC:=
 (.seq (.region QD)
 (.seq (.region QE)
 (.seq (.seq (.region QF)
 (.block 0 (.loop Ap)))
 (.seq (.region QL)
 .ret))))
theorem ai1:Tryz.prog.funcs[59]? =some Tryz.f59:=by kernel_rfl
theorem ai0:(Tryz.f59.body).map cL=some QC:=by kernel_rfl
theorem ai3:Tryz.f59.ntmps=39:=by kernel_rfl
theorem ai2:Tryz.f59.results.toList=[dE 2]:=by kernel_rfl
theorem acA:bL 59 5=1:=by kernel_rfl
theorem JD:bL 59 30=0:=by kernel_rfl
def QO:aC:=
 [ae 5 (aJ (aE (bC false)))]
def QP:aC:=
 [ae 7 (bA 40 (aa 1) 1),
 ae 8 (aK 3 (aa 7)),
 ae 9 (bf eI 3 (aa 8) (aE (bg bj 2)) 3),
 ae 10 (ax (aa 9)),
 aI 11 (ax (aa 0)) 10 true,
 aI 12 (aK 9 (aa 2)) 10 true,
 aI 13 (bf eI 9 (aa 11) (aa 12) 9) 10 true,
 ae 14 (cS (aa 10) (aa 13) (aE (bC false))),
 ae 15 (ax (aa 14)),
 aI 16 (bA 40 (aa 1) 1) 15 false,
 aI 17 (aK 3 (aa 16)) 15 false,
 aI 18 (bf eI 3 (aa 17) (aE (bg bj 3)) 3) 15 false,
 aI 19 (ax (aa 18)) 15 false,
 aI 20 (aK 109 (aa 3)) 19 true,
 aI 21 (ax (aa 0)) 19 true,
 aI 22 (nJ 109 (aa 20) (aa 21) false) 19 true,
 aI 23 (cS (aa 19) (aa 22) (aE (bC false))) 15 false,
 ae 24 (cS (aa 15) (aE (bC true)) (aa 23)),
 ae 6 (aJ (aa 24))]
def E3:aC:=
 [ae 25 (aK 109 (aa 3)),
 ae 26 (ax (aa 0)),
 ae 27 (ax (aa 0)),
 ⟨none,uf 109 (aa 25) (aa 26) (aE (bC true)),.aw⟩,
 ⟨none,dN 9 (aa 2) (aa 27),.aw⟩]
def E4:aC:=
 [ae 28 (ax (aa 6)),
 ae 29 (ax (aa 28)),
 aI 30 (ax (aa 0)) 29 false,
 aI 31 (be ⟨bI (bM 58),#[aa 30],#[9]⟩) 29 false,
 aI 32 (fH UnOp.not 4 (aa 31)) 29 false,
 ae 33 (cS (aa 29) (aE (bC true)) (aa 32)),
 ae 5 (aJ (aa 33))]
def QN:SC:=
 (.seq (.region QO)
 (.seq (.region QP)
 (.seq (.region E3)
 (.seq (.region E4)
 .ret))))
theorem ajp:Tryz.prog.funcs[61]? =some Tryz.f61:=by kernel_rfl
theorem ajo:(Tryz.f61.body).map cL=some QN:=by kernel_rfl
theorem ajr:Tryz.f61.ntmps=34:=by kernel_rfl
theorem ajq:Tryz.f61.results.toList=[dE 5]:=by kernel_rfl
def QR:aC:=
 [ae 4 (aJ (aE (bC false)))]
def QU:aC:=
 [ae 5 (ax (aa 0)),
 ae 6 (ax (aa 1)),
 ae 7 (be ⟨bI (bM 90),#[aa 5,aa 6],#[37,101]⟩),
 ae 8 (bf lN 3 (aa 7) (aE (bg bj 0)) 3),
 ae 4 (aJ (aa 8))]
def QQ:SC:=
 (.seq (.region QR)
 (.seq (.region QU)
 .ret))
theorem ajt:Tryz.prog.funcs[62]? =some Tryz.f62:=by kernel_rfl
theorem ajs:(Tryz.f62.body).map cL=some QQ:=by kernel_rfl
theorem ajv:Tryz.f62.ntmps=9:=by kernel_rfl
theorem aju:Tryz.f62.results.toList=[dE 4]:=by kernel_rfl
def QW:aC:=
 [ae 1 (ew 36 (aa 0)),
 ae 2 (aJ (aE (bC false)))]
def QX:aC:=
 [ae 3 (bA 36 (aa 1) 0),
 ae 4 (aK 3 (aa 3)),
 ae 5 (bf lN 3 (aa 4) (aE (bg bj 0)) 3),
 ae 6 (ax (aa 5)),
 aI 7 (bA 36 (aa 1) 0) 6 true,
 aI 8 (aK 3 (aa 7)) 6 true,
 aI 9 (bf dS 3 (aa 8) (aE (bg bj 1048576)) 3) 6 true,
 ae 10 (cS (aa 6) (aa 9) (aE (bC false))),
 ae 11 (ax (aa 10)),
 aI 12 (bA 36 (aa 1) 1) 11 true,
 aI 13 (aK 3 (aa 12)) 11 true,
 aI 14 (bf lN 3 (aa 13) (aE (bg bj 0)) 3) 11 true,
 ae 15 (cS (aa 11) (aa 14) (aE (bC false))),
 ae 16 (ax (aa 15)),
 aI 17 (bA 36 (aa 1) 1) 16 true,
 aI 18 (aK 3 (aa 17)) 16 true,
 aI 19 (bf dS 3 (aa 18) (aE (bg bj 1048576)) 3) 16 true,
 ae 20 (cS (aa 16) (aa 19) (aE (bC false))),
 ae 2 (aJ (aa 20))]
def QV:SC:=
 (.seq (.region QW)
 (.seq (.region QX)
 .ret))
theorem ajx:Tryz.prog.funcs[63]? =some Tryz.f63:=by kernel_rfl
theorem ajw:(Tryz.f63.body).map cL=some QV:=by kernel_rfl
theorem ajz:Tryz.f63.ntmps=21:=by kernel_rfl
theorem ajy:Tryz.f63.results.toList=[dE 2]:=by kernel_rfl
theorem acB:bL 63 1=1:=by kernel_rfl
def Tp:aC:=
 [ae 4 (aJ (aE (bg bj 0)))]
def Tq:aC:=
 [ae 6 (ax (aa 0)),
 ae 7 (be ⟨cO dh,#[aa 6],#[37]⟩),
 ae 8 (ax (aE (bg bj 0)))]
def FN:aC:=
 [ae 9 (bf dS 3 (aa 8) (aa 7) 3)]
def Tr:aC:=
 [ae 10 (ax (aa 8)),
 ae 5 (aJ (aa 10))]
def Ts:aC:=
 [ae 11 (ax (aa 1)),
 ae 12 (ax (aa 0)),
 ae 13 (ax (aa 5)),
 ae 14 (dn 37 (aa 12) (aa 13)),
 ae 15 (aK 9 (aa 14)),
 ae 16 (be ⟨bI (aa 11),#[aa 15],#[9]⟩)]
def Tt:aC:=
 [ae 17 (ax (aa 5)),
 ae 4 (aJ (aa 17))]
def Tu:aC:=
 [ae 18 (bf ei 3 (aa 8) (aE (bg bj 1)) 3),
 ae 8 (ax (aa 18))]
def AH:SC:=
 (.seq (.region FN)
 (.seq (.cond (aa 9) .skip (.exit 0))
 (.seq (.block 1 (.seq (.region Tr)
 (.seq (.region Ts)
 (.cond (aa 16) (.seq (.region Tt)
 .ret) .skip))))
 (.region Tu))))
def Tv:aC:=
 [ae 4 (aJ (aE (bg bj (-1))))]
def Tn:SC:=
 (.seq (.region Tp)
 (.seq (.seq (.region Tq)
 (.block 0 (.loop AH)))
 (.seq (.region Tv)
 .ret)))
theorem akB:Tryz.prog.funcs[90]? =some Tryz.f90:=by kernel_rfl
theorem akA:(Tryz.f90.body).map cL=some Tn:=by kernel_rfl
theorem akD:Tryz.f90.ntmps=19:=by kernel_rfl
theorem akC:Tryz.f90.results.toList=[dE 4]:=by kernel_rfl
def ag9:List Nat:=[0,1,0,7,15,31,63,127,255,511,1023,2047,4095,2047,10239,32767,65535,131071,2047,264191,2047,1837055,3934207,8128511,16777215,33554431,67108863]
def Ow:aC:=
 [ae 1 (ew 24 (aa 0)),
 ae 2 (aJ (aE (bC false)))]
def Ox:aC:=
 [ae 4 (bA 24 (aa 1) 0),
 ae 5 (aK 22 (aa 4)),
 ae 6 (be ⟨cO dh,#[aa 5],#[22]⟩),
 ae 7 (bf j1 3 (aa 6) (aE (bg bj 1000000)) 3)]
def Oy:aC:=
 [ae 2 (aJ (aE (bC false)))]
def Oz:aC:=
 [ae 3 (aJ (aE (bg bj 0)))]
def EC:aC:=
 [ae 8 (ax (aa 3)),
 ae 9 (bA 24 (aa 1) 0),
 ae 10 (aK 22 (aa 9)),
 ae 11 (be ⟨cO dh,#[aa 10],#[22]⟩),
 ae 12 (bf dS 3 (aa 8) (aa 11) 3)]
def OA:aC:=
 [ae 15 (bA 24 (aa 1) 0),
 ae 16 (aK 22 (aa 15)),
 ae 17 (ax (aa 3)),
 ae 18 (dn 22 (aa 16) (aa 17)),
 ae 19 (aK 40 (aa 18)),
 ae 20 (be ⟨bI (bM 54),#[aa 19],#[40]⟩),
 ae 21 (fH UnOp.not 4 (aa 20)),
 ae 22 (ax (aa 21)),
 aI 23 (ax (aa 3)) 22 false,
 aI 24 (bf j1 3 (aa 23) (aE (bg bj 0)) 3) 22 false,
 aI 25 (ax (aa 24)) 22 false,
 aI 26 (bA 24 (aa 1) 0) 25 true,
 aI 27 (aK 22 (aa 26)) 25 true,
 aI 28 (ax (aa 3)) 25 true,
 aI 29 (bf mT 3 (aa 28) (aE (bg bj 1)) 3) 25 true,
 aI 30 (dn 22 (aa 27) (aa 29)) 25 true,
 aI 31 (bA 40 (aa 30) 0) 25 true,
 aI 32 (aK 9 (aa 31)) 25 true,
 aI 33 (bA 24 (aa 1) 0) 25 true,
 aI 34 (aK 22 (aa 33)) 25 true,
 aI 35 (ax (aa 3)) 25 true,
 aI 36 (dn 22 (aa 34) (aa 35)) 25 true,
 aI 37 (bA 40 (aa 36) 0) 25 true,
 aI 38 (aK 9 (aa 37)) 25 true,
 aI 39 (bf lN 9 (aa 32) (aa 38) 9) 25 true,
 aI 40 (cS (aa 25) (aa 39) (aE (bC false))) 22 false,
 ae 41 (cS (aa 22) (aE (bC true)) (aa 40))]
def EE:aC:=
 [ae 2 (aJ (aE (bC false)))]
def ED:aC:=
 [ae 13 (ax (aa 3)),
 ae 14 (bf ei 3 (aa 13) (aE (bg bj 1)) 3),
 ae 3 (aJ (aa 14))]
def zZ:SC:=
 (.seq (.seq (.region EC)
 (.cond (aa 12) .skip (.exit 0)))
 (.seq (.block 1 (.seq (.draw OA ag9)
 (.cond (aa 41) (.seq (.region EE)
 .ret) .skip)))
 (.region ED)))
def OB:aC:=
 [ae 2 (aJ (aE (bC true)))]
def Ov:SC:=
 (.seq (.region Ow)
 (.seq (.seq (.region Ox)
 (.cond (aa 7) (.seq (.region Oy)
 .ret) .skip))
 (.seq (.seq (.region Oz)
 (.block 0 (.loop zZ)))
 (.seq (.region OB)
 .ret))))
theorem ahb:Tryz.prog.funcs[34]? =some Tryz.f34:=by kernel_rfl
theorem aha:(Tryz.f34.body).map cL=some Ov:=by kernel_rfl
theorem ahd:Tryz.f34.ntmps=42:=by kernel_rfl
theorem ahc:Tryz.f34.results.toList=[dE 2]:=by kernel_rfl
theorem acf:bL 34 1=1:=by kernel_rfl
def Qd:aC:=
 [ae 1 (ew 40 (aa 0)),
 ae 2 (aJ (aE (bC false)))]
def Qe:aC:=
 [ae 4 (bA 40 (aa 1) 2),
 ae 5 (aK 36 (aa 4)),
 ae 6 (be ⟨bI (bM 84),#[aa 5],#[36]⟩),
 ae 3 (aJ (aa 6))]
def EP:aC:=
 [ae 7 (bA 40 (aa 1) 1),
 ae 8 (aK 3 (aa 7)),
 ae 9 (bf jd 3 (aa 8) (aE (bg bj 1)) 3)]
def Qf:aC:=
 [ae 10 (bA 40 (aa 1) 2),
 ae 11 (aK 36 (aa 10)),
 ae 12 (j3 36 #[]),
 ae 13 (bf eI 36 (aa 11) (aa 12) 36),
 ae 3 (aJ (aa 13))]
def ER:aC:=
 [ae 14 (bA 40 (aa 1) 0),
 ae 15 (aK 9 (aa 14)),
 ae 16 (be ⟨bI (bM 85),#[aa 15],#[9]⟩),
 ae 17 (ax (aa 16)),
 aI 18 (bA 40 (aa 1) 1) 17 true,
 aI 19 (aK 3 (aa 18)) 17 true,
 aI 20 (be ⟨bI (bM 86),#[aa 19],#[3]⟩) 17 true,
 aI 21 (bf jd 9 (aa 20) (aE (fX {data:= #[] })) 9) 17 true,
 ae 22 (cS (aa 17) (aa 21) (aE (bC false))),
 ae 23 (ax (aa 22)),
 aI 24 (ax (aa 3)) 23 true,
 ae 25 (cS (aa 23) (aa 24) (aE (bC false))),
 ae 26 (ax (aa 25)),
 aI 27 (bA 40 (aa 1) 4) 26 true,
 aI 28 (aK 38 (aa 27)) 26 true,
 aI 29 (be ⟨bI (bM 87),#[aa 28],#[38]⟩) 26 true,
 ae 30 (cS (aa 26) (aa 29) (aE (bC false))),
 ae 31 (ax (aa 30)),
 aI 32 (aK 40 (aa 1)) 31 true,
 aI 33 (be ⟨bI (bM 88),#[aa 32],#[40]⟩) 31 true,
 ae 34 (cS (aa 31) (aa 33) (aE (bC false))),
 ae 2 (aJ (aa 34))]
def Qc:SC:=
 (.seq (.region Qd)
 (.seq (.region Qe)
 (.seq (.seq (.region EP)
 (.cond (aa 9) (.region Qf) .skip))
 (.seq (.region ER)
 .ret))))
theorem aiG:Tryz.prog.funcs[54]? =some Tryz.f54:=by kernel_rfl
theorem aiF:(Tryz.f54.body).map cL=some Qc:=by kernel_rfl
theorem aiI:Tryz.f54.ntmps=35:=by kernel_rfl
theorem aiH:Tryz.f54.results.toList=[dE 2]:=by kernel_rfl
theorem acw:bL 54 1=1:=by kernel_rfl
def Sz:aC:=
 [ae 1 (ew 36 (aa 0)),
 ae 2 (aJ (aE (bC false)))]
def SA:aC:=
 [ae 3 (bA 36 (aa 1) 0),
 ae 4 (aK 3 (aa 3)),
 ae 5 (bf lN 3 (aa 4) (aE (bg bj 0)) 3),
 ae 6 (ax (aa 5)),
 aI 7 (bA 36 (aa 1) 0) 6 true,
 aI 8 (aK 3 (aa 7)) 6 true,
 aI 9 (bf dS 3 (aa 8) (aE (bg bj 1048576)) 3) 6 true,
 ae 10 (cS (aa 6) (aa 9) (aE (bC false))),
 ae 11 (ax (aa 10)),
 aI 12 (bA 36 (aa 1) 1) 11 true,
 aI 13 (aK 3 (aa 12)) 11 true,
 aI 14 (bf lN 3 (aa 13) (aE (bg bj 0)) 3) 11 true,
 ae 15 (cS (aa 11) (aa 14) (aE (bC false))),
 ae 16 (ax (aa 15)),
 aI 17 (bA 36 (aa 1) 1) 16 true,
 aI 18 (aK 3 (aa 17)) 16 true,
 aI 19 (bf dS 3 (aa 18) (aE (bg bj 1048576)) 3) 16 true,
 ae 20 (cS (aa 16) (aa 19) (aE (bC false))),
 ae 2 (aJ (aa 20))]
def Sy:SC:=
 (.seq (.region Sz)
 (.seq (.region SA)
 .ret))
theorem aka:Tryz.prog.funcs[84]? =some Tryz.f84:=by kernel_rfl
theorem aj9:(Tryz.f84.body).map cL=some Sy:=by kernel_rfl
theorem akc:Tryz.f84.ntmps=21:=by kernel_rfl
theorem akb:Tryz.f84.results.toList=[dE 2]:=by kernel_rfl
theorem adq:bL 84 1=1:=by kernel_rfl
def SD:aC:=
 [ae 2 (aJ (aE (bC false)))]
def SE:aC:=
 [ae 3 (aJ (aE (bg bj 0)))]
def FF:aC:=
 [ae 4 (ax (aa 3)),
 ae 5 (ax (aa 0)),
 ae 6 (be ⟨cO dh,#[aa 5],#[9]⟩),
 ae 7 (bf dS 3 (aa 4) (aa 6) 3)]
def SH:aC:=
 [ae 10 (ax (aa 0)),
 ae 11 (ax (aa 3)),
 ae 12 (Op.index 9 (aa 10) (aa 11)),
 ae 13 (be ⟨bI (bM 144),#[aa 12],#[5]⟩),
 ae 14 (fH UnOp.not 4 (aa 13))]
def SI:aC:=
 [ae 2 (aJ (aE (bC false)))]
def SF:aC:=
 [ae 8 (ax (aa 3)),
 ae 9 (bf ei 3 (aa 8) (aE (bg bj 1)) 3),
 ae 3 (aJ (aa 9))]
def AE:SC:=
 (.seq (.seq (.region FF)
 (.cond (aa 7) .skip (.exit 0)))
 (.seq (.block 1 (.seq (.region SH)
 (.cond (aa 14) (.seq (.region SI)
 .ret) .skip)))
 (.region SF)))
def SJ:aC:=
 [ae 15 (ax (aa 0)),
 ae 16 (be ⟨cO dh,#[aa 15],#[9]⟩),
 ae 17 (bf j1 3 (aa 16) (aE (bg bj 0)) 3),
 ae 18 (ax (aa 17)),
 aI 19 (ax (aa 0)) 18 true,
 aI 20 (be ⟨cO dh,#[aa 19],#[9]⟩) 18 true,
 aI 21 (bf BinOp.leq 3 (aa 20) (aE (bg bj 24)) 3) 18 true,
 ae 22 (cS (aa 18) (aa 21) (aE (bC false))),
 ae 23 (ax (aa 22)),
 aI 24 (ax (aa 0)) 23 true,
 aI 25 (Op.index 9 (aa 24) (aE (bg bj 0))) 23 true,
 aI 26 (be ⟨bI (bM 145),#[aa 25],#[5]⟩) 23 true,
 ae 27 (cS (aa 23) (aa 26) (aE (bC false))),
 ae 2 (aJ (aa 27))]
def SB:SC:=
 (.seq (.region SD)
 (.seq (.seq (.region SE)
 (.block 0 (.loop AE)))
 (.seq (.region SJ)
 .ret)))
theorem ake:Tryz.prog.funcs[85]? =some Tryz.f85:=by kernel_rfl
theorem akd:(Tryz.f85.body).map cL=some SB:=by kernel_rfl
theorem akg:Tryz.f85.ntmps=28:=by kernel_rfl
theorem akf:Tryz.f85.results.toList=[dE 2]:=by kernel_rfl
def SL:aC:=
 [ae 2 (aJ (aE (fX {data:= #[] })))]
def SM:aC:=
 [ae 4 (kG 37 6 #[(0,aE (fX {data:= #[] })),(1,aE (fX {data:= #[110,111,100,101] })),(2,aE (fX {data:= #[119,97,121] })),(3,aE (fX {data:= #[97,114,101,97] })),(4,aE (fX {data:= #[114,111,117,116,101] })),(5,aE (fX {data:= #[116,117,114,110] }))]),
 ae 3 (aJ (aa 4))]
def SN:aC:=
 [ae 5 (ax (aa 0)),
 ae 6 (bf dS 3 (aa 5) (aE (bg bj 1)) 3),
 ae 7 (ax (aa 6)),
 aI 8 (ax (aa 0)) 7 false,
 aI 9 (bf j1 3 (aa 8) (aE (bg bj 5)) 3) 7 false,
 ae 10 (cS (aa 7) (aE (bC true)) (aa 9))]
def FG:aC:=
 [ae 2 (aJ (aE (fX {data:= #[] })))]
def akj:aC:=
 [ae 11 (ax (aa 3)),
 ae 12 (ax (aa 0)),
 ae 13 (dn 37 (aa 11) (aa 12)),
 ae 14 (aK 9 (aa 13)),
 ae 2 (aJ (aa 14))]
def SK:SC:=
 (.seq (.region SL)
 (.seq (.region SM)
 (.seq (.seq (.region SN)
 (.cond (aa 10) (.seq (.region FG)
 .ret) .skip))
 (.seq (.region akj)
 .ret))))
theorem aki:Tryz.prog.funcs[86]? =some Tryz.f86:=by kernel_rfl
theorem akh:(Tryz.f86.body).map cL=some SK:=by kernel_rfl
theorem akl:Tryz.f86.ntmps=15:=by kernel_rfl
theorem akk:Tryz.f86.results.toList=[dE 2]:=by kernel_rfl
theorem adr:bL 86 4=0:=by kernel_rfl
def akm:List Nat:=[0,0,3,7,15,31,63,127,255,255,1023,2047,4095,8191,16383,32767,65535,131071,131071,524287,1048575,2097151,4194303,8388607,16777215,33554431,67108863,134217727,268435455,536870911,536870911,1610612735,4294967295,8589934591,17179869183,536870911,536870911,103616086015,241055039487,515932946431,1099511627775,2199023255551,4398046511103]
def SP:aC:=
 [ae 2 (aJ (aE (bC false)))]
def SQ:aC:=
 [ae 4 (ax (aa 0)),
 ae 5 (be ⟨cO dh,#[aa 4],#[38]⟩),
 ae 6 (bf j1 3 (aa 5) (aE (bg bj 60)) 3)]
def SR:aC:=
 [ae 2 (aJ (aE (bC false)))]
def SS:aC:=
 [ae 3 (aJ (aE (bg bj 0)))]
def FH:aC:=
 [ae 7 (ax (aa 3)),
 ae 8 (ax (aa 0)),
 ae 9 (be ⟨cO dh,#[aa 8],#[38]⟩),
 ae 10 (bf dS 3 (aa 7) (aa 9) 3)]
def ST:aC:=
 [ae 13 (ax (aa 0)),
 ae 14 (ax (aa 3)),
 ae 15 (dn 38 (aa 13) (aa 14)),
 ae 16 (bA 51 (aa 15) 0),
 ae 17 (aK 9 (aa 16)),
 ae 18 (be ⟨bI (bM 85),#[aa 17],#[9]⟩),
 ae 19 (fH UnOp.not 4 (aa 18)),
 ae 20 (ax (aa 19)),
 aI 21 (ax (aa 0)) 20 false,
 aI 22 (ax (aa 3)) 20 false,
 aI 23 (dn 38 (aa 21) (aa 22)) 20 false,
 aI 24 (bA 51 (aa 23) 1) 20 false,
 aI 25 (aK 9 (aa 24)) 20 false,
 aI 26 (be ⟨cO dh,#[aa 25],#[9]⟩) 20 false,
 aI 27 (bf dS 3 (aa 26) (aE (bg bj 1)) 3) 20 false,
 ae 28 (cS (aa 20) (aE (bC true)) (aa 27)),
 ae 29 (ax (aa 28)),
 aI 30 (ax (aa 0)) 29 false,
 aI 31 (ax (aa 3)) 29 false,
 aI 32 (dn 38 (aa 30) (aa 31)) 29 false,
 aI 33 (bA 51 (aa 32) 1) 29 false,
 aI 34 (aK 9 (aa 33)) 29 false,
 aI 35 (be ⟨cO dh,#[aa 34],#[9]⟩) 29 false,
 aI 36 (bf j1 3 (aa 35) (aE (bg bj 200)) 3) 29 false,
 ae 37 (cS (aa 29) (aE (bC true)) (aa 36)),
 ae 38 (ax (aa 37)),
 aI 39 (ax (aa 3)) 38 false,
 aI 40 (bf j1 3 (aa 39) (aE (bg bj 0)) 3) 38 false,
 aI 41 (ax (aa 40)) 38 false,
 aI 42 (ax (aa 0)) 41 true,
 aI 43 (ax (aa 3)) 41 true,
 aI 44 (bf mT 3 (aa 43) (aE (bg bj 1)) 3) 41 true,
 aI 45 (dn 38 (aa 42) (aa 44)) 41 true,
 aI 46 (bA 51 (aa 45) 0) 41 true,
 aI 47 (aK 9 (aa 46)) 41 true,
 aI 48 (ax (aa 0)) 41 true,
 aI 49 (ax (aa 3)) 41 true,
 aI 50 (dn 38 (aa 48) (aa 49)) 41 true,
 aI 51 (bA 51 (aa 50) 0) 41 true,
 aI 52 (aK 9 (aa 51)) 41 true,
 aI 53 (bf lN 9 (aa 47) (aa 52) 9) 41 true,
 aI 54 (cS (aa 41) (aa 53) (aE (bC false))) 38 false,
 ae 55 (cS (aa 38) (aE (bC true)) (aa 54))]
def FJ:aC:=
 [ae 2 (aJ (aE (bC false)))]
def FI:aC:=
 [ae 11 (ax (aa 3)),
 ae 12 (bf ei 3 (aa 11) (aE (bg bj 1)) 3),
 ae 3 (aJ (aa 12))]
def AF:SC:=
 (.seq (.seq (.region FH)
 (.cond (aa 10) .skip (.exit 0)))
 (.seq (.block 1 (.seq (.draw ST akm)
 (.cond (aa 55) (.seq (.region FJ)
 .ret) .skip)))
 (.region FI)))
def SU:aC:=
 [ae 2 (aJ (aE (bC true)))]
def SO:SC:=
 (.seq (.region SP)
 (.seq (.seq (.region SQ)
 (.cond (aa 6) (.seq (.region SR)
 .ret) .skip))
 (.seq (.seq (.region SS)
 (.block 0 (.loop AF)))
 (.seq (.region SU)
 .ret))))
theorem ako:Tryz.prog.funcs[87]? =some Tryz.f87:=by kernel_rfl
theorem akn:(Tryz.f87.body).map cL=some SO:=by kernel_rfl
theorem akq:Tryz.f87.ntmps=56:=by kernel_rfl
theorem akp:Tryz.f87.results.toList=[dE 2]:=by kernel_rfl
def akr:List Nat:=[0,1,0,7,15,31,63,127,255,511,1023,2047,4095,8191,16383,32767,65535,131071,65535,327679,1048575,2097151,65535,4259839,65535,29425663,62980095,134217727,268435455,536870911,1073741823,2147483647,4294967295,8589934591,17179869183,34359738367,34359738367,103079215103,34359738367,515396075519,1065151889407,2199023255551,4398046511103,8796093022207]
def SW:aC:=
 [ae 1 (ew 40 (aa 0)),
 ae 2 (aJ (aE (bC false)))]
def SX:aC:=
 [ae 6 (bA 40 (aa 1) 3),
 ae 7 (aK 37 (aa 6)),
 ae 8 (be ⟨cO dh,#[aa 7],#[37]⟩),
 ae 3 (aJ (aa 8))]
def S9:aC:=
 [ae 9 (ax (aa 3)),
 ae 10 (bf j1 3 (aa 9) (aE (bg bj 2000)) 3)]
def Tb:aC:=
 [ae 2 (aJ (aE (bC false)))]
def Tc:aC:=
 [ae 11 (Op.makeMap 109 none),
 ae 4 (aJ (aa 11))]
def Td:aC:=
 [ae 5 (aJ (aE (bg bj 0)))]
def FL:aC:=
 [ae 12 (ax (aa 5)),
 ae 13 (ax (aa 3)),
 ae 14 (bf dS 3 (aa 12) (aa 13) 3)]
def Tf:aC:=
 [ae 17 (bA 40 (aa 1) 3),
 ae 18 (aK 37 (aa 17)),
 ae 19 (ax (aa 5)),
 ae 20 (dn 37 (aa 18) (aa 19)),
 ae 21 (aK 9 (aa 20)),
 ae 22 (be ⟨bI (bM 85),#[aa 21],#[9]⟩),
 ae 23 (fH UnOp.not 4 (aa 22)),
 ae 24 (ax (aa 23)),
 aI 25 (bA 40 (aa 1) 1) 24 false,
 aI 26 (aK 3 (aa 25)) 24 false,
 aI 27 (bf eI 3 (aa 26) (aE (bg bj 2)) 3) 24 false,
 aI 28 (ax (aa 27)) 24 false,
 aI 29 (ax (aa 5)) 28 true,
 aI 30 (bf j1 3 (aa 29) (aE (bg bj 0)) 3) 28 true,
 aI 31 (cS (aa 28) (aa 30) (aE (bC false))) 24 false,
 aI 32 (ax (aa 31)) 24 false,
 aI 33 (bA 40 (aa 1) 3) 32 true,
 aI 34 (aK 37 (aa 33)) 32 true,
 aI 35 (ax (aa 5)) 32 true,
 aI 36 (bf mT 3 (aa 35) (aE (bg bj 1)) 3) 32 true,
 aI 37 (dn 37 (aa 34) (aa 36)) 32 true,
 aI 38 (aK 9 (aa 37)) 32 true,
 aI 39 (bA 40 (aa 1) 3) 32 true,
 aI 40 (aK 37 (aa 39)) 32 true,
 aI 41 (ax (aa 5)) 32 true,
 aI 42 (dn 37 (aa 40) (aa 41)) 32 true,
 aI 43 (aK 9 (aa 42)) 32 true,
 aI 44 (bf eI 9 (aa 38) (aa 43) 9) 32 true,
 aI 45 (cS (aa 32) (aa 44) (aE (bC false))) 24 false,
 ae 46 (cS (aa 24) (aE (bC true)) (aa 45)),
 ae 47 (ax (aa 46)),
 aI 48 (bA 40 (aa 1) 1) 47 false,
 aI 49 (aK 3 (aa 48)) 47 false,
 aI 50 (bf eI 3 (aa 49) (aE (bg bj 3)) 3) 47 false,
 aI 51 (ax (aa 50)) 47 false,
 aI 52 (ax (aa 4)) 51 true,
 aI 53 (bA 40 (aa 1) 3) 51 true,
 aI 54 (aK 37 (aa 53)) 51 true,
 aI 55 (ax (aa 5)) 51 true,
 aI 56 (dn 37 (aa 54) (aa 55)) 51 true,
 aI 57 (aK 9 (aa 56)) 51 true,
 aI 58 (nJ 109 (aa 52) (aa 57) false) 51 true,
 aI 59 (cS (aa 51) (aa 58) (aE (bC false))) 47 false,
 ae 60 (cS (aa 47) (aE (bC true)) (aa 59))]
def AG:aC:=
 [ae 2 (aJ (aE (bC false)))]
def FK:aC:=
 [ae 61 (ax (aa 4)),
 ae 62 (bA 40 (aa 1) 3),
 ae 63 (aK 37 (aa 62)),
 ae 64 (ax (aa 5)),
 ae 65 (dn 37 (aa 63) (aa 64)),
 ae 66 (aK 9 (aa 65)),
 ⟨none,uf 109 (aa 61) (aa 66) (aE (bC true)),.aw⟩]
def FM:aC:=
 [ae 15 (ax (aa 5)),
 ae 16 (bf ei 3 (aa 15) (aE (bg bj 1)) 3),
 ae 5 (aJ (aa 16))]
def x9:SC:=
 (.seq (.seq (.region FL)
 (.cond (aa 14) .skip (.exit 0)))
 (.seq (.block 1 (.seq (.seq (.draw Tf akr)
 (.cond (aa 60) (.seq (.region AG)
 .ret) .skip))
 (.region FK)))
 (.region FM)))
def SY:aC:=
 [ae 67 (bA 40 (aa 1) 1),
 ae 68 (aK 3 (aa 67))]
def SZ:aC:=
 [ae 70 (bf eI 3 (aa 68) (aE (bg bj 1)) 3),
 ae 69 (aJ (aa 70))]
def S2:aC:=
 [ae 71 (ax (aa 3)),
 ae 72 (bf eI 3 (aa 71) (aE (bg bj 0)) 3),
 ae 2 (aJ (aa 72))]
def S3:aC:=
 [ae 74 (bf eI 3 (aa 68) (aE (bg bj 2)) 3),
 ae 73 (aJ (aa 74))]
def S4:aC:=
 [ae 75 (ax (aa 3)),
 ae 76 (bf lN 3 (aa 75) (aE (bg bj 2)) 3),
 ae 2 (aJ (aa 76))]
def S5:aC:=
 [ae 78 (bf eI 3 (aa 68) (aE (bg bj 3)) 3),
 ae 77 (aJ (aa 78))]
def S6:aC:=
 [ae 79 (ax (aa 3)),
 ae 80 (bf lN 3 (aa 79) (aE (bg bj 3)) 3),
 ae 2 (aJ (aa 80))]
def S7:aC:=
 [ae 82 (bf eI 3 (aa 68) (aE (bg bj 4)) 3),
 ae 81 (aJ (aa 82))]
def S8:aC:=
 [ae 83 (ax (aa 3)),
 ae 84 (bf lN 3 (aa 83) (aE (bg bj 1)) 3),
 ae 2 (aJ (aa 84))]
def Ta:aC:=
 [ae 85 (ax (aa 3)),
 ae 86 (bf eI 3 (aa 85) (aE (bg bj 3)) 3),
 ae 2 (aJ (aa 86))]
def SV:SC:=
 (.seq (.region SW)
 (.seq (.region SX)
 (.seq (.seq (.region S9)
 (.cond (aa 10) (.seq (.region Tb)
 .ret) .skip))
 (.seq (.region Tc)
 (.seq (.seq (.region Td)
 (.block 0 (.loop x9)))
 (.seq (.seq (.region SY)
 (.block 2 (.seq (.region SZ)
 (.cond (aa 69) (.seq (.region S2)
 .ret) (.seq (.region S3)
 (.cond (aa 73) (.seq (.region S4)
 .ret) (.seq (.region S5)
 (.cond (aa 77) (.seq (.region S6)
 .ret) (.seq (.region S7)
 (.cond (aa 81) (.seq (.region S8)
 .ret) .skip))))))))))
 (.seq (.region Ta)
 .ret)))))))
theorem akt:Tryz.prog.funcs[88]? =some Tryz.f88:=by kernel_rfl
theorem aks:(Tryz.f88.body).map cL=some SV:=by kernel_rfl
theorem akv:Tryz.f88.ntmps=87:=by kernel_rfl
theorem aku:Tryz.f88.results.toList=[dE 2]:=by kernel_rfl
theorem ads:bL 88 1=1:=by kernel_rfl
def ahe:List Nat:=[0,0,2,0,14,30,63,127]
def ahf:List Nat:=[0,1,0,7,15,31,0,64,0,448,1023]
def OD:aC:=
 [ae 2 (ew 24 (aa 0)),
 ae 3 (ew 40 (aa 1)),
 ae 4 (aJ (aE (bg bj 0)))]
def OE:aC:=
 [ae 5 (aJ (aE (bg bj 0)))]
def EF:aC:=
 [ae 7 (ax (aa 5)),
 ae 8 (bA 40 (aa 3) 3),
 ae 9 (aK 37 (aa 8)),
 ae 10 (be ⟨cO dh,#[aa 9],#[37]⟩),
 ae 11 (bf dS 3 (aa 7) (aa 10) 3)]
def OH:aC:=
 [ae 14 (aK 24 (aa 2)),
 ae 15 (bA 40 (aa 3) 3),
 ae 16 (aK 37 (aa 15)),
 ae 17 (ax (aa 5)),
 ae 18 (dn 37 (aa 16) (aa 17)),
 ae 19 (aK 9 (aa 18)),
 ae 20 (be ⟨bI (bM 55),#[aa 14,aa 19],#[24,9]⟩),
 ae 6 (aJ (aa 20))]
def OI:aC:=
 [ae 21 (ax (aa 6)),
 ae 22 (bf dS 3 (aa 21) (aE (bg bj 0)) 3)]
def OJ:aC:=
 [ae 4 (aJ (aE (bg bj 14)))]
def OL:aC:=
 [ae 23 (bA 24 (aa 2) 0),
 ae 24 (aK 22 (aa 23)),
 ae 25 (ax (aa 6)),
 ae 26 (dn 22 (aa 24) (aa 25)),
 ae 27 (bA 40 (aa 26) 1),
 ae 28 (aK 3 (aa 27)),
 ae 29 (bA 40 (aa 3) 1),
 ae 30 (aK 3 (aa 29)),
 ae 31 (ax (aa 5)),
 ae 32 (be ⟨bI (bM 56),#[aa 30,aa 31],#[3,3]⟩),
 ae 33 (bf jd 3 (aa 28) (aa 32) 3)]
def OM:aC:=
 [ae 4 (aJ (aE (bg bj 13)))]
def OG:aC:=
 [ae 12 (ax (aa 5)),
 ae 13 (bf ei 3 (aa 12) (aE (bg bj 1)) 3),
 ae 5 (aJ (aa 13))]
def z6:SC:=
 (.seq (.seq (.region EF)
 (.cond (aa 11) .skip (.exit 0)))
 (.seq (.block 1 (.seq (.draw OH ahe)
 (.seq (.seq (.region OI)
 (.cond (aa 22) (.seq (.region OJ)
 .ret) .skip))
 (.seq (.draw OL ahf)
 (.cond (aa 33) (.seq (.region OM)
 .ret) .skip)))))
 (.region OG)))
def ON:aC:=
 [ae 4 (aJ (aE (bg bj 0)))]
def OC:SC:=
 (.seq (.region OD)
 (.seq (.seq (.region OE)
 (.block 0 (.loop z6)))
 (.seq (.region ON)
 .ret)))
theorem ahh:Tryz.prog.funcs[35]? =some Tryz.f35:=by kernel_rfl
theorem ahg:(Tryz.f35.body).map cL=some OC:=by kernel_rfl
theorem ahj:Tryz.f35.ntmps=34:=by kernel_rfl
theorem ahi:Tryz.f35.results.toList=[dE 4]:=by kernel_rfl
theorem acg:bL 35 2=1:=by kernel_rfl
theorem ach:bL 35 3=1:=by kernel_rfl
def afc:List Nat:=[0,0,2,0,14,30,63,127]
def Lw:aC:=
 [ae 1 (ew 24 (aa 0)),
 ae 2 (aJ (aE (bC false)))]
def Lx:aC:=
 [ae 4 (aK 24 (aa 1)),
 ae 5 (be ⟨bI (bM 34),#[aa 4],#[24]⟩),
 ae 6 (fH UnOp.not 4 (aa 5))]
def Ly:aC:=
 [ae 2 (aJ (aE (bC false)))]
def Lz:aC:=
 [ae 3 (aJ (aE (bg bj 0)))]
def Ee:aC:=
 [ae 7 (ax (aa 3)),
 ae 8 (bA 24 (aa 1) 0),
 ae 9 (aK 22 (aa 8)),
 ae 10 (be ⟨cO dh,#[aa 9],#[22]⟩),
 ae 11 (bf dS 3 (aa 7) (aa 10) 3)]
def LC:aC:=
 [ae 14 (aK 24 (aa 1)),
 ae 15 (bA 24 (aa 1) 0),
 ae 16 (aK 22 (aa 15)),
 ae 17 (ax (aa 3)),
 ae 18 (dn 22 (aa 16) (aa 17)),
 ae 19 (aK 40 (aa 18)),
 ae 20 (be ⟨bI (bM 35),#[aa 14,aa 19],#[24,40]⟩),
 ae 21 (bf jd 81 (aa 20) (aE (bg bj 0)) 81)]
def LD:aC:=
 [ae 2 (aJ (aE (bC false)))]
def LA:aC:=
 [ae 12 (ax (aa 3)),
 ae 13 (bf ei 3 (aa 12) (aE (bg bj 1)) 3),
 ae 3 (aJ (aa 13))]
def zO:SC:=
 (.seq (.seq (.region Ee)
 (.cond (aa 11) .skip (.exit 0)))
 (.seq (.block 1 (.seq (.draw LC afc)
 (.cond (aa 21) (.seq (.region LD)
 .ret) .skip)))
 (.region LA)))
def LF:aC:=
 [ae 2 (aJ (aE (bC true)))]
def KJ:SC:=
 (.seq (.region Lw)
 (.seq (.seq (.region Lx)
 (.cond (aa 6) (.seq (.region Ly)
 .ret) .skip))
 (.seq (.seq (.region Lz)
 (.block 0 (.loop zO)))
 (.seq (.region LF)
 .ret))))
theorem afe:Tryz.prog.funcs[12]? =some Tryz.f12:=by kernel_rfl
theorem afd:(Tryz.f12.body).map cL=some KJ:=by kernel_rfl
theorem afg:Tryz.f12.ntmps=22:=by kernel_rfl
theorem aff:Tryz.f12.results.toList=[dE 2]:=by kernel_rfl
theorem abH:bL 12 1=1:=by kernel_rfl
def Qh:aC:=
 [ae 2 (ew 24 (aa 0)),
 ae 4 (aJ (aE (bg bj 0)))]
def Qi:aC:=
 [ae 5 (aJ (aE (bg bj 0)))]
def ET:aC:=
 [ae 6 (ax (aa 5)),
 ae 7 (bA 24 (aa 2) 0),
 ae 8 (aK 22 (aa 7)),
 ae 9 (be ⟨cO dh,#[aa 8],#[22]⟩),
 ae 10 (bf dS 3 (aa 6) (aa 9) 3)]
def Qk:aC:=
 [ae 13 (bA 24 (aa 2) 0),
 ae 14 (aK 22 (aa 13)),
 ae 15 (ax (aa 5)),
 ae 16 (dn 22 (aa 14) (aa 15)),
 ae 17 (bA 40 (aa 16) 0),
 ae 18 (aK 9 (aa 17)),
 ae 19 (ax (aa 1)),
 ae 20 (bf eI 9 (aa 18) (aa 19) 9)]
def Ql:aC:=
 [ae 21 (ax (aa 5)),
 ae 4 (aJ (aa 21))]
def Qj:aC:=
 [ae 11 (ax (aa 5)),
 ae 12 (bf ei 3 (aa 11) (aE (bg bj 1)) 3),
 ae 5 (aJ (aa 12))]
def Am:SC:=
 (.seq (.seq (.region ET)
 (.cond (aa 10) .skip (.exit 0)))
 (.seq (.block 1 (.seq (.region Qk)
 (.cond (aa 20) (.seq (.region Ql)
 .ret) .skip)))
 (.region Qj)))
def Qm:aC:=
 [ae 4 (aJ (aE (bg bj (-1))))]
def Qg:SC:=
 (.seq (.region Qh)
 (.seq (.seq (.region Qi)
 (.block 0 (.loop Am)))
 (.seq (.region Qm)
 .ret)))
theorem aiK:Tryz.prog.funcs[55]? =some Tryz.f55:=by kernel_rfl
theorem aiJ:(Tryz.f55.body).map cL=some Qg:=by kernel_rfl
theorem aiM:Tryz.f55.ntmps=22:=by kernel_rfl
theorem aiL:Tryz.f55.results.toList=[dE 4]:=by kernel_rfl
theorem acx:bL 55 2=1:=by kernel_rfl
def Qo:aC:=
 [ae 4 (aJ (aE (bg bj 0)))]
def Qp:aC:=
 [ae 5 (ax (aa 0)),
 ae 6 (bf eI 3 (aa 5) (aE (bg bj 4)) 3),
 ae 7 (ax (aa 6)),
 aI 8 (ax (aa 0)) 7 false,
 aI 9 (bf eI 3 (aa 8) (aE (bg bj 5)) 3) 7 false,
 aI 10 (ax (aa 9)) 7 false,
 aI 11 (ax (aa 1)) 10 true,
 aI 12 (bf jd 3 (aa 11) (aE (bg bj 1)) 3) 10 true,
 aI 13 (cS (aa 10) (aa 12) (aE (bC false))) 7 false,
 ae 14 (cS (aa 7) (aE (bC true)) (aa 13))]
def EU:aC:=
 [ae 4 (aJ (aE (bg bj 2)))]
def EV:aC:=
 [ae 4 (aJ (aE (bg bj 1)))]
def Qn:SC:=
 (.seq (.region Qo)
 (.seq (.seq (.region Qp)
 (.cond (aa 14) (.seq (.region EU)
 .ret) .skip))
 (.seq (.region EV)
 .ret)))
theorem aiO:Tryz.prog.funcs[56]? =some Tryz.f56:=by kernel_rfl
theorem aiN:(Tryz.f56.body).map cL=some Qn:=by kernel_rfl
theorem aiQ:Tryz.f56.ntmps=15:=by kernel_rfl
theorem aiP:Tryz.f56.results.toList=[dE 4]:=by kernel_rfl
def L3:aC:=
 [ae 2 (ew 40 (aa 0)),
 ae 3 (ew 40 (aa 1)),
 ae 4 (aJ (aE (bC false)))]
def L4:aC:=
 [ae 5 (bA 40 (aa 2) 0),
 ae 6 (aK 9 (aa 5)),
 ae 7 (bA 40 (aa 3) 0),
 ae 8 (aK 9 (aa 7)),
 ae 9 (bf eI 9 (aa 6) (aa 8) 9),
 ae 10 (ax (aa 9)),
 aI 11 (bA 40 (aa 2) 1) 10 true,
 aI 12 (aK 3 (aa 11)) 10 true,
 aI 13 (bA 40 (aa 3) 1) 10 true,
 aI 14 (aK 3 (aa 13)) 10 true,
 aI 15 (bf eI 3 (aa 12) (aa 14) 3) 10 true,
 ae 16 (cS (aa 10) (aa 15) (aE (bC false))),
 ae 17 (ax (aa 16)),
 aI 18 (bA 40 (aa 2) 2) 17 true,
 aI 19 (aK 36 (aa 18)) 17 true,
 aI 20 (bA 40 (aa 3) 2) 17 true,
 aI 21 (aK 36 (aa 20)) 17 true,
 aI 22 (bf eI 36 (aa 19) (aa 21) 36) 17 true,
 ae 23 (cS (aa 17) (aa 22) (aE (bC false))),
 ae 24 (ax (aa 23)),
 aI 25 (bA 40 (aa 2) 3) 24 true,
 aI 26 (aK 37 (aa 25)) 24 true,
 aI 27 (bA 40 (aa 3) 3) 24 true,
 aI 28 (aK 37 (aa 27)) 24 true,
 aI 29 (be ⟨bI (bM 37),#[aa 26,aa 28],#[37,37]⟩) 24 true,
 ae 30 (cS (aa 24) (aa 29) (aE (bC false))),
 ae 31 (ax (aa 30)),
 aI 32 (bA 40 (aa 2) 4) 31 true,
 aI 33 (aK 38 (aa 32)) 31 true,
 aI 34 (bA 40 (aa 3) 4) 31 true,
 aI 35 (aK 38 (aa 34)) 31 true,
 aI 36 (be ⟨bI (bM 38),#[aa 33,aa 35],#[38,38]⟩) 31 true,
 ae 37 (cS (aa 31) (aa 36) (aE (bC false))),
 ae 4 (aJ (aa 37))]
def L2:SC:=
 (.seq (.region L3)
 (.seq (.region L4)
 .ret))
theorem afu:Tryz.prog.funcs[16]? =some Tryz.f16:=by kernel_rfl
theorem aft:(Tryz.f16.body).map cL=some L2:=by kernel_rfl
theorem afw:Tryz.f16.ntmps=38:=by kernel_rfl
theorem afv:Tryz.f16.results.toList=[dE 4]:=by kernel_rfl
theorem abR:bL 16 2=1:=by kernel_rfl
theorem abT:bL 16 3=1:=by kernel_rfl
def ahp:List Nat:=[0,0,3,7,0,0,48,112,255]
def O4:aC:=
 [ae 4 (aJ (aE (bC false)))]
def O5:aC:=
 [ae 6 (ax (aa 0)),
 ae 7 (be ⟨cO dh,#[aa 6],#[37]⟩),
 ae 8 (ax (aa 1)),
 ae 9 (be ⟨cO dh,#[aa 8],#[37]⟩),
 ae 10 (bf jd 3 (aa 7) (aa 9) 3)]
def O6:aC:=
 [ae 4 (aJ (aE (bC false)))]
def O7:aC:=
 [ae 11 (ax (aa 0)),
 ae 12 (be ⟨cO dh,#[aa 11],#[37]⟩),
 ae 13 (ax (aE (bg bj 0)))]
def EH:aC:=
 [ae 14 (bf dS 3 (aa 13) (aa 12) 3)]
def O8:aC:=
 [ae 15 (ax (aa 13)),
 ae 5 (aJ (aa 15))]
def O9:aC:=
 [ae 16 (ax (aa 0)),
 ae 17 (ax (aa 5)),
 ae 18 (dn 37 (aa 16) (aa 17)),
 ae 19 (aK 9 (aa 18)),
 ae 20 (ax (aa 1)),
 ae 21 (ax (aa 5)),
 ae 22 (dn 37 (aa 20) (aa 21)),
 ae 23 (aK 9 (aa 22)),
 ae 24 (bf jd 9 (aa 19) (aa 23) 9)]
def Pa:aC:=
 [ae 4 (aJ (aE (bC false)))]
def Pb:aC:=
 [ae 25 (bf ei 3 (aa 13) (aE (bg bj 1)) 3),
 ae 13 (ax (aa 25))]
def z7:SC:=
 (.seq (.region EH)
 (.seq (.cond (aa 14) .skip (.exit 0))
 (.seq (.block 1 (.seq (.region O8)
 (.seq (.draw O9 ahp)
 (.cond (aa 24) (.seq (.region Pa)
 .ret) .skip))))
 (.region Pb))))
def Pc:aC:=
 [ae 4 (aJ (aE (bC true)))]
def O3:SC:=
 (.seq (.region O4)
 (.seq (.seq (.region O5)
 (.cond (aa 10) (.seq (.region O6)
 .ret) .skip))
 (.seq (.seq (.region O7)
 (.block 0 (.loop z7)))
 (.seq (.region Pc)
 .ret))))
theorem ahr:Tryz.prog.funcs[37]? =some Tryz.f37:=by kernel_rfl
theorem ahq:(Tryz.f37.body).map cL=some O3:=by kernel_rfl
theorem aht:Tryz.f37.ntmps=26:=by kernel_rfl
theorem ahs:Tryz.f37.results.toList=[dE 4]:=by kernel_rfl
theorem acm:bL 37 7=0:=by kernel_rfl
theorem acn:bL 37 9=0:=by kernel_rfl
theorem acl:bL 37 12=0:=by kernel_rfl
def ahu:List Nat:=[0,0,3,7,0,0,48,112,255]
def Pe:aC:=
 [ae 4 (aJ (aE (bC false)))]
def Pf:aC:=
 [ae 6 (ax (aa 0)),
 ae 7 (be ⟨cO dh,#[aa 6],#[38]⟩),
 ae 8 (ax (aa 1)),
 ae 9 (be ⟨cO dh,#[aa 8],#[38]⟩),
 ae 10 (bf jd 3 (aa 7) (aa 9) 3)]
def Pg:aC:=
 [ae 4 (aJ (aE (bC false)))]
def Ph:aC:=
 [ae 11 (ax (aa 0)),
 ae 12 (be ⟨cO dh,#[aa 11],#[38]⟩),
 ae 13 (ax (aE (bg bj 0)))]
def EJ:aC:=
 [ae 14 (bf dS 3 (aa 13) (aa 12) 3)]
def Pj:aC:=
 [ae 15 (ax (aa 13)),
 ae 5 (aJ (aa 15))]
def Pk:aC:=
 [ae 16 (ax (aa 0)),
 ae 17 (ax (aa 5)),
 ae 18 (dn 38 (aa 16) (aa 17)),
 ae 19 (aK 51 (aa 18)),
 ae 20 (ax (aa 1)),
 ae 21 (ax (aa 5)),
 ae 22 (dn 38 (aa 20) (aa 21)),
 ae 23 (aK 51 (aa 22)),
 ae 24 (bf jd 51 (aa 19) (aa 23) 51)]
def Pl:aC:=
 [ae 4 (aJ (aE (bC false)))]
def Pm:aC:=
 [ae 25 (bf ei 3 (aa 13) (aE (bg bj 1)) 3),
 ae 13 (ax (aa 25))]
def z8:SC:=
 (.seq (.region EJ)
 (.seq (.cond (aa 14) .skip (.exit 0))
 (.seq (.block 1 (.seq (.region Pj)
 (.seq (.draw Pk ahu)
 (.cond (aa 24) (.seq (.region Pl)
 .ret) .skip))))
 (.region Pm))))
def Pn:aC:=
 [ae 4 (aJ (aE (bC true)))]
def Pd:SC:=
 (.seq (.region Pe)
 (.seq (.seq (.region Pf)
 (.cond (aa 10) (.seq (.region Pg)
 .ret) .skip))
 (.seq (.seq (.region Ph)
 (.block 0 (.loop z8)))
 (.seq (.region Pn)
 .ret))))
theorem ahw:Tryz.prog.funcs[38]? =some Tryz.f38:=by kernel_rfl
theorem ahv:(Tryz.f38.body).map cL=some Pd:=by kernel_rfl
theorem ahy:Tryz.f38.ntmps=26:=by kernel_rfl
theorem ahx:Tryz.f38.results.toList=[dE 4]:=by kernel_rfl
theorem acp:bL 38 7=0:=by kernel_rfl
theorem acq:bL 38 9=0:=by kernel_rfl
theorem aco:bL 38 12=0:=by kernel_rfl
def Nu:aC:=
 [ae 1 (ew 24 (aa 0)),
 ae 2 (aJ (aE (Value.map none)))]
def Nv:aC:=
 [ae 6 (bA 24 (aa 1) 0),
 ae 7 (aK 22 (aa 6)),
 ae 8 (be ⟨cO dh,#[aa 7],#[22]⟩),
 ae 9 (Op.makeMap 61 (some (aa 8))),
 ae 3 (aJ (aa 9))]
def Nw:aC:=
 [ae 10 (bA 24 (aa 1) 0),
 ae 11 (aK 22 (aa 10)),
 ae 12 (be ⟨cO dh,#[aa 11],#[22]⟩),
 ae 13 (ax (aE (bg bj 0)))]
def Eo:aC:=
 [ae 14 (bf dS 3 (aa 13) (aa 12) 3)]
def Nx:aC:=
 [ae 15 (dn 22 (aa 11) (aa 13)),
 ae 16 (aK 40 (aa 15)),
 ae 5 (fu 40),
 ⟨none,dN 40 (aa 5) (aa 16),.aw⟩]
def Ny:aC:=
 [ae 17 (ax (aa 3)),
 ae 18 (bA 40 (aa 5) 0),
 ae 19 (aK 9 (aa 18)),
 ⟨none,uf 61 (aa 17) (aa 19) (aa 5),.aw⟩]
def Nz:aC:=
 [ae 20 (bf ei 3 (aa 13) (aE (bg bj 1)) 3),
 ae 13 (ax (aa 20))]
def wl:SC:=
 (.seq (.region Eo)
 (.seq (.cond (aa 14) .skip (.exit 0))
 (.seq (.block 1 (.seq (.region Nx)
 (.region Ny)))
 (.region Nz))))
def NA:aC:=
 [ae 21 (ax (aa 3)),
 ae 2 (aJ (aa 21))]
def Nk:SC:=
 (.seq (.region Nu)
 (.seq (.region Nv)
 (.seq (.seq (.region Nw)
 (.block 0 (.loop wl)))
 (.seq (.region NA)
 .ret))))
theorem ags:Tryz.prog.funcs[23]? =some Tryz.f23:=by kernel_rfl
theorem agr:(Tryz.f23.body).map cL=some Nk:=by kernel_rfl
theorem agu:Tryz.f23.ntmps=22:=by kernel_rfl
theorem agt:Tryz.f23.results.toList=[dE 2]:=by kernel_rfl
theorem ab3:bL 23 1=1:=by kernel_rfl
theorem ab5:bL 23 5=0:=by kernel_rfl
theorem ab6:bL 23 8=0:=by kernel_rfl
theorem ab4:bL 23 12=0:=by kernel_rfl
def agv:List Nat:=[0,1,3,7,0,31,0,64,192,448,0,1984,0,4096,12288,28672,0,126976,63,266239,1048575]
def NC:List Nat:=[0,1,3,7,15,31,63,127,255,511,1023,2047,4095,8191,16383,2047,34815,100351,231423,524287,1048575,2097151,4194303,8388607,16777215,33554431,4194303,71303167,205520895,473956351,1073741823,2147483647,4294967295]
def ND:aC:=
 [ae 4 (aJ (aE (mU none)))]
def NF:aC:=
 [ae 8 (ax (aa 0)),
 ae 9 (dV (aa 8)),
 ae 10 (bA 65 (aa 9) 0),
 ae 11 (aK 61 (aa 10)),
 ae 12 (ax (aa 1)),
 ae 13 (nJ 61 (aa 11) (aa 12) false),
 ae 14 (ax (aa 0)),
 ae 15 (dV (aa 14)),
 ae 16 (bA 65 (aa 15) 1),
 ae 17 (aK 61 (aa 16)),
 ae 18 (ax (aa 1)),
 ae 19 (nJ 61 (aa 17) (aa 18) false),
 ae 20 (ax (aa 0)),
 ae 21 (dV (aa 20)),
 ae 22 (bA 65 (aa 21) 2),
 ae 23 (aK 61 (aa 22)),
 ae 24 (ax (aa 1)),
 ae 25 (nJ 61 (aa 23) (aa 24) false),
 ae 5 (aJ (aa 13)),
 ae 6 (aJ (aa 19)),
 ae 7 (aJ (aa 25))]
def NG:aC:=
 [ae 27 (ax (aa 6)),
 ae 28 (ax (aa 7)),
 ae 29 (be ⟨bI (bM 43),#[aa 27,aa 28],#[67,67]⟩),
 ae 26 (aJ (aa 29))]
def NH:aC:=
 [ae 30 (ax (aa 7)),
 ae 31 (ax (aa 5)),
 ae 32 (be ⟨bI (bM 43),#[aa 30,aa 31],#[67,67]⟩),
 ae 26 (aJ (aa 32))]
def Er:aC:=
 [ae 33 (ax (aa 6)),
 ae 4 (aJ (aa 33))]
def NI:aC:=
 [ae 35 (ax (aa 6)),
 ae 36 (ax (aa 5)),
 ae 37 (be ⟨bI (bM 43),#[aa 35,aa 36],#[67,67]⟩),
 ae 34 (aJ (aa 37))]
def NJ:aC:=
 [ae 38 (ax (aa 7)),
 ae 4 (aJ (aa 38))]
def Es:aC:=
 [ae 40 (ax (aa 6)),
 ae 41 (bf jd 67 (aa 40) (aE (mU none)) 67),
 ae 42 (ax (aa 41)),
 aI 43 (ax (aa 7)) 42 true,
 aI 44 (bf jd 67 (aa 43) (aE (mU none)) 67) 42 true,
 ae 45 (cS (aa 42) (aa 44) (aE (bC false))),
 ae 46 (ax (aa 45)),
 aI 47 (ax (aa 5)) 46 true,
 aI 48 (bf jd 67 (aa 47) (aE (mU none)) 67) 46 true,
 ae 49 (cS (aa 46) (aa 48) (aE (bC false))),
 ae 50 (ax (aa 49)),
 aI 51 (ax (aa 6)) 50 true,
 aI 52 (dV (aa 51)) 50 true,
 aI 53 (bA 40 (aa 52) 1) 50 true,
 aI 54 (aK 3 (aa 53)) 50 true,
 aI 55 (ax (aa 5)) 50 true,
 aI 56 (dV (aa 55)) 50 true,
 aI 57 (bA 40 (aa 56) 1) 50 true,
 aI 58 (aK 3 (aa 57)) 50 true,
 aI 59 (bf eI 3 (aa 54) (aa 58) 3) 50 true,
 ae 60 (cS (aa 50) (aa 59) (aE (bC false))),
 ae 61 (ax (aa 60)),
 aI 62 (ax (aa 7)) 61 true,
 aI 63 (dV (aa 62)) 61 true,
 aI 64 (bA 40 (aa 63) 1) 61 true,
 aI 65 (aK 3 (aa 64)) 61 true,
 aI 66 (ax (aa 5)) 61 true,
 aI 67 (dV (aa 66)) 61 true,
 aI 68 (bA 40 (aa 67) 1) 61 true,
 aI 69 (aK 3 (aa 68)) 61 true,
 aI 70 (bf eI 3 (aa 65) (aa 69) 3) 61 true,
 ae 71 (cS (aa 61) (aa 70) (aE (bC false))),
 ae 39 (aJ (aa 71))]
def Et:aC:=
 [ae 72 (ax (aa 0)),
 ae 73 (ax (aa 5)),
 ae 74 (ax (aa 6)),
 ae 75 (ax (aa 7)),
 ae 76 (be ⟨bI (bM 44),#[aa 72,aa 73,aa 74,aa 75],#[60,67,67,67]⟩),
 ae 4 (aJ (aa 76))]
def Eu:aC:=
 [ae 77 (ax (aa 0)),
 ae 78 (ax (aa 1)),
 ae 79 (be {callee:=bI (bM 45),args:= #[aa 77,aa 78,aE (fX {data:= #[111,98,106,101,99,116] })],argTypes:= #[60,9,9] })]
def Ep:aC:=
 [ae 80 (ax (aa 6)),
 ae 81 (ax (aa 7)),
 ae 82 (be ⟨bI (bM 46),#[aa 80,aa 81],#[67,67]⟩),
 ae 4 (aJ (aa 82))]
def NB:SC:=
 (.seq (.region ND)
 (.seq (.draw NF agv)
 (.seq (.block 0 (.seq (.seq (.region NG)
 (.cond (aa 26) .skip (.region NH)))
 (.cond (aa 26) (.seq (.region Er)
 .ret) (.seq (.region NI)
 (.cond (aa 34) (.seq (.region NJ)
 .ret) (.seq (.draw Es NC)
 (.cond (aa 39) (.seq (.region Et)
 .ret) .skip)))))))
 (.seq (.region Eu)
 (.seq (.region Ep)
 .ret)))))
theorem agx:Tryz.prog.funcs[24]? =some Tryz.f24:=by kernel_rfl
theorem agw:(Tryz.f24.body).map cL=some NB:=by kernel_rfl
theorem agz:Tryz.f24.ntmps=83:=by kernel_rfl
theorem agy:Tryz.f24.results.toList=[dE 4]:=by kernel_rfl
def ahV:List Nat:=[0,1,3,0,8,24,63,127]
def PA:aC:=
 [ae 4 (aJ (aE (bC false)))]
def PB:aC:=
 [ae 5 (ax (aa 0)),
 ae 6 (bf eI 67 (aa 5) (aE (mU none)) 67),
 ae 7 (ax (aa 6)),
 aI 8 (ax (aa 1)) 7 false,
 aI 9 (bf eI 67 (aa 8) (aE (mU none)) 67) 7 false,
 ae 10 (cS (aa 7) (aE (bC true)) (aa 9))]
def Ab:aC:=
 [ae 11 (ax (aa 0)),
 ae 12 (ax (aa 1)),
 ae 13 (bf eI 67 (aa 11) (aa 12) 67),
 ae 4 (aJ (aa 13))]
def PC:aC:=
 [ae 14 (ax (aa 0)),
 ae 15 (dV (aa 14)),
 ae 16 (aK 40 (aa 15)),
 ae 17 (ax (aa 1)),
 ae 18 (dV (aa 17)),
 ae 19 (aK 40 (aa 18)),
 ae 20 (be ⟨bI (bM 16),#[aa 16,aa 19],#[40,40]⟩),
 ae 4 (aJ (aa 20))]
def Pz:SC:=
 (.seq (.region PA)
 (.seq (.seq (.region PB)
 (.cond (aa 10) (.seq (.region Ab)
 .ret) .skip))
 (.seq (.draw PC ahV)
 .ret)))
theorem ahX:Tryz.prog.funcs[43]? =some Tryz.f43:=by kernel_rfl
theorem ahW:(Tryz.f43.body).map cL=some Pz:=by kernel_rfl
theorem ahZ:Tryz.f43.ntmps=21:=by kernel_rfl
theorem ahY:Tryz.f43.results.toList=[dE 4]:=by kernel_rfl
def PR:aC:=
 [ae 6 (ax (aa 0)),
 ae 7 (dV (aa 6)),
 ae 8 (bA 65 (aa 7) 4),
 ae 9 (aK 63 (aa 8)),
 ae 10 (ax (aa 1)),
 ae 11 (ax (aa 2)),
 ae 12 (j3 31 #[(0,aa 10),(1,aa 11)]),
 ⟨none,uf 63 (aa 9) (aa 12) (aE (bC true)),.aw⟩]
def PQ:SC:=
 (.region PR)
theorem ah6:Tryz.prog.funcs[45]? =some Tryz.f45:=by kernel_rfl
theorem ah5:(Tryz.f45.body).map cL=some PQ:=by kernel_rfl
theorem ah8:Tryz.f45.ntmps=13:=by kernel_rfl
theorem ah7:Tryz.f45.results.toList=[]:=by kernel_rfl
def PT:aC:=
 [ae 4 (aJ (aE (mU none)))]
def Ai:aC:=
 [ae 5 (ax (aa 0)),
 ae 6 (bf eI 67 (aa 5) (aE (mU none)) 67),
 ae 7 (ax (aa 6)),
 aI 8 (ax (aa 1)) 7 false,
 aI 9 (bf jd 67 (aa 8) (aE (mU none)) 67) 7 false,
 aI 10 (ax (aa 9)) 7 false,
 aI 11 (ax (aa 1)) 10 true,
 aI 12 (ax (aa 0)) 10 true,
 aI 13 (be ⟨bI (bM 77),#[aa 11,aa 12],#[67,67]⟩) 10 true,
 aI 14 (bf dS 3 (aa 13) (aE (bg bj 0)) 3) 10 true,
 aI 15 (cS (aa 10) (aa 14) (aE (bC false))) 7 false,
 ae 16 (cS (aa 7) (aE (bC true)) (aa 15))]
def EN:aC:=
 [ae 17 (ax (aa 1)),
 ae 4 (aJ (aa 17))]
def EO:aC:=
 [ae 18 (ax (aa 0)),
 ae 4 (aJ (aa 18))]
def PS:SC:=
 (.seq (.region PT)
 (.seq (.seq (.region Ai)
 (.cond (aa 16) (.seq (.region EN)
 .ret) .skip))
 (.seq (.region EO)
 .ret)))
theorem aia:Tryz.prog.funcs[46]? =some Tryz.f46:=by kernel_rfl
theorem ah9:(Tryz.f46.body).map cL=some PS:=by kernel_rfl
theorem aic:Tryz.f46.ntmps=19:=by kernel_rfl
theorem aib:Tryz.f46.results.toList=[dE 4]:=by kernel_rfl
def NU:List Nat:=[0,1,3,7,0,31,0,64,192,448,0,1984,4095,8191]
def NV:aC:=
 [ae 7 (ax (aa 1)),
 ae 8 (dV (aa 7)),
 ae 9 (bA 40 (aa 8) 3),
 ae 10 (aK 37 (aa 9)),
 ae 11 (be ⟨cO dh,#[aa 10],#[37]⟩),
 ae 12 (ax (aE (bg bj 0)))]
def Ev:aC:=
 [ae 13 (bf dS 3 (aa 12) (aa 11) 3)]
def NW:aC:=
 [ae 14 (dn 37 (aa 10) (aa 12)),
 ae 15 (aK 9 (aa 14)),
 ae 5 (aJ (aa 15))]
def NX:aC:=
 [ae 16 (ax (aa 0)),
 ae 17 (dV (aa 16)),
 ae 18 (bA 65 (aa 17) 3),
 ae 19 (aK 61 (aa 18)),
 ae 20 (ax (aa 5)),
 ae 21 (nJ 61 (aa 19) (aa 20) false),
 ae 22 (bf jd 67 (aa 21) (aE (mU none)) 67)]
def NY:aC:=
 [ae 23 (ax (aa 0)),
 ae 24 (dV (aa 23)),
 ae 25 (bA 65 (aa 24) 0),
 ae 26 (aK 61 (aa 25)),
 ae 27 (ax (aa 5)),
 ae 28 (nJ 61 (aa 26) (aa 27) false),
 ae 6 (aJ (aa 28))]
def NZ:aC:=
 [ae 29 (ax (aa 6)),
 ae 30 (bf eI 67 (aa 29) (aE (mU none)) 67)]
def wn:aC:=
 [ae 31 (ax (aa 0)),
 ae 32 (dV (aa 31)),
 ae 33 (bA 65 (aa 32) 1),
 ae 34 (aK 61 (aa 33)),
 ae 35 (ax (aa 5)),
 ae 36 (nJ 61 (aa 34) (aa 35) false),
 ae 37 (ax (aa 0)),
 ae 38 (dV (aa 37)),
 ae 39 (bA 65 (aa 38) 2),
 ae 40 (aK 61 (aa 39)),
 ae 41 (ax (aa 5)),
 ae 42 (nJ 61 (aa 40) (aa 41) false),
 ae 43 (be ⟨bI (bM 46),#[aa 36,aa 42],#[67,67]⟩),
 ae 6 (aJ (aa 43))]
def Ey:aC:=
 [ae 44 (ax (aa 6)),
 ae 45 (bf jd 67 (aa 44) (aE (mU none)) 67)]
def Ez:aC:=
 [ae 46 (ax (aa 0)),
 ae 47 (dV (aa 46)),
 ae 48 (bA 65 (aa 47) 3),
 ae 49 (aK 61 (aa 48)),
 ae 50 (ax (aa 5)),
 ae 51 (ax (aa 6)),
 ⟨none,uf 61 (aa 49) (aa 50) (aa 51),.aw⟩]
def EA:aC:=
 [ae 52 (ax (aa 0)),
 ae 53 (ax (aa 5)),
 ae 54 (be {callee:=bI (bM 45),args:= #[aa 52,aa 53,aE (fX {data:= #[111,98,106,101,99,116] })],argTypes:= #[60,9,9] })]
def Ew:aC:=
 [ae 55 (ax (aa 0)),
 ae 56 (ax (aa 6)),
 ae 57 (be ⟨bI (bM 27),#[aa 55,aa 56],#[60,67]⟩)]
def zX:aC:=
 [ae 58 (bf ei 3 (aa 12) (aE (bg bj 1)) 3),
 ae 12 (ax (aa 58))]
def xZ:SC:=
 (.seq (.region Ev)
 (.seq (.cond (aa 13) .skip (.exit 0))
 (.seq (.block 1 (.seq (.region NW)
 (.seq (.seq (.region NX)
 (.cond (aa 22) (.exit 1) .skip))
 (.seq (.region NY)
 (.seq (.seq (.region NZ)
 (.cond (aa 30) (.draw wn NU) .skip))
 (.seq (.region Ey)
 (.cond (aa 45) (.seq (.region Ez)
 (.seq (.region EA)
 (.region Ew))) .skip)))))))
 (.region zX))))
def NT:SC:=
 (.seq (.region NV)
 (.block 0 (.loop xZ)))
theorem agJ:Tryz.prog.funcs[27]? =some Tryz.f27:=by kernel_rfl
theorem agI:(Tryz.f27.body).map cL=some NT:=by kernel_rfl
theorem agL:Tryz.f27.ntmps=59:=by kernel_rfl
theorem agK:Tryz.f27.results.toList=[]:=by kernel_rfl
theorem ab8:bL 27 11=0:=by kernel_rfl
def FO:List Nat:=[0,1,0,7,0,31,0,0,255,511,1023]
def akF:List Nat:=[0,1,3,7,0,16,48,112,0,256,768,1792,4095,8191,0]
def akE:List Nat:=[0,1,0,4,12,28,0,124,252,508,1020,2047,4095,8191]
def Tw:aC:=
 [ae 3 (ew 24 (aa 0)),
 ae 4 (ew 24 (aa 1)),
 ae 5 (ew 24 (aa 2)),
 ae 6 (fu 24),
 ae 7 (aJ (aE (i8 none 0 0)))]
def Tx:aC:=
 [ae 19 (aK 24 (aa 3)),
 ae 20 (be ⟨bI (bM 13),#[aa 19],#[24]⟩),
 ae 21 (fH UnOp.not 4 (aa 20)),
 ae 22 (ax (aa 21)),
 aI 23 (aK 24 (aa 4)) 22 false,
 aI 24 (be ⟨bI (bM 13),#[aa 23],#[24]⟩) 22 false,
 aI 25 (fH UnOp.not 4 (aa 24)) 22 false,
 ae 26 (cS (aa 22) (aE (bC true)) (aa 25)),
 ae 27 (ax (aa 26)),
 aI 28 (aK 24 (aa 5)) 27 false,
 aI 29 (be ⟨bI (bM 13),#[aa 28],#[24]⟩) 27 false,
 aI 30 (fH UnOp.not 4 (aa 29)) 27 false,
 ae 31 (cS (aa 27) (aE (bC true)) (aa 30))]
def akI:aC:=
 [ae 32 (j3 24 #[]),
 ⟨none,dN 24 (aa 6) (aa 32),.aw⟩,
 ae 7 (aJ (aE (i8 none 0 0)))]
def FR:aC:=
 [ae 33 (aK 24 (aa 3)),
 ae 34 (be ⟨bI (bM 23),#[aa 33],#[24]⟩),
 ae 35 (aK 24 (aa 4)),
 ae 36 (be ⟨bI (bM 23),#[aa 35],#[24]⟩),
 ae 37 (aK 24 (aa 5)),
 ae 38 (be ⟨bI (bM 23),#[aa 37],#[24]⟩),
 ae 39 (Op.makeMap 61 none),
 ae 40 (Op.makeMap 63 none),
 ae 41 (j3 65 #[(0,aa 34),(1,aa 36),(2,aa 38),(3,aa 39),(4,aa 40)]),
 ae 42 (ew 65 (aa 41)),
 ae 8 (aJ (aa 42))]
def TP:aC:=
 [ae 43 (ax (aa 8)),
 ae 44 (dV (aa 43)),
 ae 45 (bA 65 (aa 44) 0),
 ae 46 (aK 61 (aa 45)),
 ae 47 (ax (aa 8)),
 ae 48 (dV (aa 47)),
 ae 49 (bA 65 (aa 48) 1),
 ae 50 (aK 61 (aa 49)),
 ae 51 (ax (aa 8)),
 ae 52 (dV (aa 51)),
 ae 53 (bA 65 (aa 52) 2),
 ae 54 (aK 61 (aa 53)),
 ae 55 (kG 66 3 #[(0,aa 46),(1,aa 50),(2,aa 54)]),
 ae 56 (be ⟨cO dh,#[aa 55],#[66]⟩),
 ae 57 (ax (aE (bg bj 0)))]
def FS:aC:=
 [ae 58 (bf dS 3 (aa 57) (aa 56) 3)]
def TQ:aC:=
 [ae 59 (dn 66 (aa 55) (aa 57)),
 ae 60 (aK 61 (aa 59)),
 ae 10 (aJ (aa 60))]
def TR:aC:=
 [ae 61 (ax (aa 10)),
 ae 62 (Op.range 61 (aa 61))]
def FU:aC:=
 [ae 63 (Op.next (aa 62) false),
 ae 64 (fg (aa 63) 0)]
def TS:aC:=
 [ae 65 (Op.entry (aa 62)),
 ae 66 (fg (aa 65) 0),
 ae 11 (aJ (aa 66))]
def Tz:aC:=
 [ae 67 (ax (aa 8)),
 ae 68 (ax (aa 11)),
 ae 69 (be ⟨bI (bM 24),#[aa 67,aa 68],#[60,9]⟩),
 ae 12 (aJ (aa 69))]
def TA:aC:=
 [ae 70 (ax (aa 12)),
 ae 71 (bf jd 67 (aa 70) (aE (mU none)) 67)]
def TB:aC:=
 [ae 72 (ax (aa 8)),
 ae 73 (dV (aa 72)),
 ae 74 (bA 65 (aa 73) 3),
 ae 75 (aK 61 (aa 74)),
 ae 76 (ax (aa 11)),
 ae 77 (ax (aa 12)),
 ⟨none,uf 61 (aa 75) (aa 76) (aa 77),.aw⟩]
def ya:SC:=
 (.seq (.region FU)
 (.seq (.cond (aa 64) .skip (.exit 2))
 (.block 3 (.seq (.region TS)
 (.seq (.region Tz)
 (.seq (.region TA)
 (.cond (aa 71) (.region TB) .skip)))))))
def TC:aC:=
 [ae 78 (bf ei 3 (aa 57) (aE (bg bj 1)) 3),
 ae 57 (ax (aa 78))]
def AI:SC:=
 (.seq (.region FS)
 (.seq (.cond (aa 58) .skip (.exit 0))
 (.seq (.block 1 (.seq (.region TQ)
 (.seq (.region TR)
 (.block 2 (.loop ya)))))
 (.region TC))))
def TD:aC:=
 [ae 79 (ax (aa 8)),
 ae 80 (dV (aa 79)),
 ae 81 (bA 65 (aa 80) 3),
 ae 82 (aK 61 (aa 81)),
 ae 83 (be ⟨bI (bM 26),#[aa 82],#[61]⟩),
 ae 84 (be ⟨bI (bM 25),#[aa 83],#[71]⟩),
 ae 85 (be ⟨cO dh,#[aa 84],#[37]⟩),
 ae 86 (ax (aE (bg bj 0)))]
def FP:aC:=
 [ae 87 (bf dS 3 (aa 86) (aa 85) 3)]
def TE:aC:=
 [ae 88 (dn 37 (aa 84) (aa 86)),
 ae 89 (aK 9 (aa 88)),
 ae 14 (aJ (aa 89))]
def TF:aC:=
 [ae 90 (ax (aa 8)),
 ae 91 (ax (aa 8)),
 ae 92 (dV (aa 91)),
 ae 93 (bA 65 (aa 92) 3),
 ae 94 (aK 61 (aa 93)),
 ae 95 (ax (aa 14)),
 ae 96 (nJ 61 (aa 94) (aa 95) false),
 ae 97 (be ⟨bI (bM 27),#[aa 90,aa 96],#[60,67]⟩)]
def TG:aC:=
 [ae 98 (bf ei 3 (aa 86) (aE (bg bj 1)) 3),
 ae 86 (ax (aa 98))]
def AJ:SC:=
 (.seq (.region FP)
 (.seq (.cond (aa 87) .skip (.exit 4))
 (.seq (.block 5 (.seq (.region TE)
 (.region TF)))
 (.region TG))))
def TH:aC:=
 [ae 15 (fu 24)]
def TI:aC:=
 [ae 99 (ax (aa 8)),
 ae 100 (dV (aa 99)),
 ae 101 (bA 65 (aa 100) 3),
 ae 102 (aK 61 (aa 101)),
 ae 103 (be ⟨bI (bM 26),#[aa 102],#[61]⟩),
 ae 104 (be ⟨bI (bM 25),#[aa 103],#[71]⟩),
 ae 105 (be ⟨cO dh,#[aa 104],#[37]⟩),
 ae 106 (ax (aE (bg bj 0)))]
def FQ:aC:=
 [ae 107 (bf dS 3 (aa 106) (aa 105) 3)]
def TJ:aC:=
 [ae 108 (dn 37 (aa 104) (aa 106)),
 ae 109 (aK 9 (aa 108)),
 ae 17 (aJ (aa 109))]
def uD:aC:=
 [ae 110 (bA 24 (aa 15) 0),
 ae 111 (aK 22 (aa 110)),
 ae 112 (ax (aa 8)),
 ae 113 (dV (aa 112)),
 ae 114 (bA 65 (aa 113) 3),
 ae 115 (aK 61 (aa 114)),
 ae 116 (ax (aa 17)),
 ae 117 (nJ 61 (aa 115) (aa 116) false),
 ae 118 (dV (aa 117)),
 ae 119 (aK 40 (aa 118)),
 ae 120 (kG 22 1 #[(0,aa 119)]),
 ae 121 (be ⟨cO n9,#[aa 111,aa 120],#[22,22]⟩),
 ae 122 (bA 24 (aa 15) 0),
 ⟨none,dN 22 (aa 122) (aa 121),.aw⟩]
def TK:aC:=
 [ae 123 (bf ei 3 (aa 106) (aE (bg bj 1)) 3),
 ae 106 (ax (aa 123))]
def AK:SC:=
 (.seq (.region FQ)
 (.seq (.cond (aa 107) .skip (.exit 6))
 (.seq (.block 7 (.seq (.region TJ)
 (.draw uD akE)))
 (.region TK))))
def TL:aC:=
 [ae 124 (ax (aa 8)),
 ae 125 (dV (aa 124)),
 ae 126 (bA 65 (aa 125) 4),
 ae 127 (aK 63 (aa 126)),
 ae 128 (be ⟨bI (bM 29),#[aa 127],#[63]⟩),
 ae 129 (be ⟨bI (bM 28),#[aa 128,bM 30],#[76,80]⟩),
 ae 18 (aJ (aa 129))]
def TN:aC:=
 [ae 130 (aK 24 (aa 15)),
 ae 131 (ax (aa 18)),
 ⟨none,dN 24 (aa 6) (aa 130),.aw⟩,
 ae 7 (aJ (aa 131))]
def k9:SC:=
 (.seq (.region Tw)
 (.seq (.seq (.region Tx)
 (.cond (aa 31) (.seq (.region akI)
 .ret) .skip))
 (.seq (.draw FR FO)
 (.seq (.seq (.draw TP akF)
 (.block 0 (.loop AI)))
 (.seq (.seq (.region TD)
 (.block 4 (.loop AJ)))
 (.seq (.region TH)
 (.seq (.seq (.region TI)
 (.block 6 (.loop AK)))
 (.seq (.region TL)
 (.seq (.region TN)
 .ret)))))))))
theorem akH:Tryz.prog.funcs[9]? =some Tryz.f9:=by kernel_rfl
theorem akG:(Tryz.f9.body).map cL=some k9:=by kernel_rfl
theorem akK:Tryz.f9.ntmps=132:=by kernel_rfl
theorem akJ:Tryz.f9.results.toList=[ResultVar.cell 6 24,dE 7]:=by kernel_rfl
theorem adA:bL 9 3=1:=by kernel_rfl
theorem adB:bL 9 4=1:=by kernel_rfl
theorem adE:bL 9 5=1:=by kernel_rfl
theorem adH:bL 9 6=1:=by kernel_rfl
theorem adz:bL 9 15=1:=by kernel_rfl
theorem adC:bL 9 42=0:=by kernel_rfl
theorem adF:bL 9 55=0:=by kernel_rfl
theorem adG:bL 9 56=0:=by kernel_rfl
theorem adI:bL 9 85=0:=by kernel_rfl
theorem adw:bL 9 105=0:=by kernel_rfl
theorem adx:bL 9 120=0:=by kernel_rfl
theorem ady:bL 9 121=0:=by kernel_rfl
def agU:List Nat:=[0,1,0,4,15,0,32,0,128,511,1023,2047,4095]
def Oc:aC:=
 [ae 2 (ew 31 (aa 0)),
 ae 3 (ew 31 (aa 1)),
 ae 4 (aJ (aE (bg bj 0)))]
def Od:aC:=
 [ae 5 (bA 31 (aa 2) 0),
 ae 6 (aK 9 (aa 5)),
 ae 7 (bA 31 (aa 3) 0),
 ae 8 (aK 9 (aa 7)),
 ae 9 (be ⟨bI (bM 32),#[aa 6,aa 8],#[9,9]⟩),
 ae 10 (bA 31 (aa 2) 1),
 ae 11 (aK 9 (aa 10)),
 ae 12 (bA 31 (aa 3) 1),
 ae 13 (aK 9 (aa 12)),
 ae 14 (be ⟨bI (bM 32),#[aa 11,aa 13],#[9,9]⟩),
 ae 15 (kG 55 2 #[(0,aa 9),(1,aa 14)]),
 ae 16 (be ⟨bI (bM 31),#[aa 15],#[55]⟩),
 ae 4 (aJ (aa 16))]
def Ob:SC:=
 (.seq (.region Oc)
 (.seq (.draw Od agU)
 .ret))
theorem agW:Tryz.prog.funcs[30]? =some Tryz.f30:=by kernel_rfl
theorem agV:(Tryz.f30.body).map cL=some Ob:=by kernel_rfl
theorem agY:Tryz.f30.ntmps=17:=by kernel_rfl
theorem agX:Tryz.f30.results.toList=[dE 4]:=by kernel_rfl
theorem acb:bL 30 2=1:=by kernel_rfl
theorem acd:bL 30 3=1:=by kernel_rfl
theorem aca:bL 30 15=0:=by kernel_rfl
def NR:aC:=
 [ae 1 (ew 61 (aa 0)),
 ae 2 (aJ (aE Value.nilFunc))]
def NS:aC:=
 [ae 3 (Op.makeFunc (Fn.func 49) #[] #[aa 1]),
 ae 2 (aJ (aa 3))]
def NQ:SC:=
 (.seq (.region NR)
 (.seq (.region NS)
 .ret))
theorem agF:Tryz.prog.funcs[26]? =some Tryz.f26:=by kernel_rfl
theorem agE:(Tryz.f26.body).map cL=some NQ:=by kernel_rfl
theorem agH:Tryz.f26.ntmps=4:=by kernel_rfl
theorem agG:Tryz.f26.results.toList=[dE 2]:=by kernel_rfl
theorem ab7:bL 26 1=0:=by kernel_rfl
def ail:aC:=
 [ae 2 (ew 24 (aa 0)),
 ae 3 (ew 24 (aa 1)),
 ae 4 (aJ (aE (bC false)))]
def aim:aC:=
 [ae 12 (be ⟨bI (bM 7),#[],#[]⟩),
 ae 5 (aJ (aa 12))]
def ain:aC:=
 [ae 13 (aK 24 (aa 2)),
 ae 14 (aK 24 (aa 3)),
 ae 15 (aK 24 (aa 2)),
 ae 16 (be ⟨bI (bM 8),#[aa 13,aa 14,aa 15],#[24,24,24]⟩),
 ae 17 (fH UnOp.not 4 (aa 16)),
 ae 18 (ax (aa 17)),
 aI 19 (aK 24 (aa 3)) 18 false,
 aI 20 (be ⟨bI (bM 12),#[aa 19],#[24]⟩) 18 false,
 aI 21 (fH UnOp.not 4 (aa 20)) 18 false,
 ae 22 (cS (aa 18) (aE (bC true)) (aa 21)),
 ae 23 (ax (aa 22)),
 aI 24 (aK 24 (aa 2)) 23 false,
 aI 25 (be ⟨bI (bM 13),#[aa 24],#[24]⟩) 23 false,
 aI 26 (fH UnOp.not 4 (aa 25)) 23 false,
 ae 27 (cS (aa 23) (aE (bC true)) (aa 26))]
def aio:aC:=
 [ae 28 (ax (aa 5)),
 ae 4 (aJ (aa 28))]
def aip:aC:=
 [ae 30 (aK 24 (aa 2)),
 ae 31 (aK 24 (aa 3)),
 ae 32 (aK 24 (aa 2)),
 ae 33 (be ⟨bI (bM 9),#[aa 30,aa 31,aa 32],#[24,24,24]⟩),
 ae 29 (ax (aa 33)),
 ae 34 (fg (aa 29) 0),
 ae 35 (fg (aa 29) 1),
 ae 6 (fu 24),
 ⟨none,dN 24 (aa 6) (aa 34),.aw⟩,
 ae 7 (aJ (aa 35))]
def aiq:aC:=
 [ae 37 (aK 24 (aa 2)),
 ae 38 (aK 24 (aa 2)),
 ae 39 (aK 24 (aa 3)),
 ae 40 (be ⟨bI (bM 9),#[aa 37,aa 38,aa 39],#[24,24,24]⟩),
 ae 36 (ax (aa 40)),
 ae 41 (fg (aa 36) 0),
 ae 42 (fg (aa 36) 1),
 ae 8 (fu 24),
 ⟨none,dN 24 (aa 8) (aa 41),.aw⟩,
 ae 9 (aJ (aa 42))]
def air:aC:=
 [ae 44 (aK 24 (aa 2)),
 ae 45 (aK 24 (aa 3)),
 ae 46 (aK 24 (aa 3)),
 ae 47 (be ⟨bI (bM 9),#[aa 44,aa 45,aa 46],#[24,24,24]⟩),
 ae 43 (ax (aa 47)),
 ae 48 (fg (aa 43) 0),
 ae 49 (fg (aa 43) 1),
 ae 10 (fu 24),
 ⟨none,dN 24 (aa 10) (aa 48),.aw⟩,
 ae 11 (aJ (aa 49))]
def ais:aC:=
 [ae 50 (ax (aa 5)),
 ae 51 (ax (aa 50)),
 aI 52 (aK 24 (aa 6)) 51 true,
 aI 53 (aK 24 (aa 3)) 51 true,
 aI 54 (be ⟨bI (bM 10),#[aa 52,aa 53],#[24,24]⟩) 51 true,
 ae 55 (cS (aa 51) (aa 54) (aE (bC false))),
 ae 56 (ax (aa 55)),
 aI 57 (ax (aa 7)) 56 true,
 aI 58 (be ⟨cO dh,#[aa 57],#[27]⟩) 56 true,
 aI 59 (bf eI 3 (aa 58) (aE (bg bj 0)) 3) 56 true,
 ae 60 (cS (aa 56) (aa 59) (aE (bC false))),
 ae 61 (ax (aa 60)),
 aI 62 (aK 24 (aa 8)) 61 true,
 aI 63 (aK 24 (aa 3)) 61 true,
 aI 64 (be ⟨bI (bM 10),#[aa 62,aa 63],#[24,24]⟩) 61 true,
 ae 65 (cS (aa 61) (aa 64) (aE (bC false))),
 ae 66 (ax (aa 65)),
 aI 67 (ax (aa 9)) 66 true,
 aI 68 (be ⟨cO dh,#[aa 67],#[27]⟩) 66 true,
 aI 69 (bf eI 3 (aa 68) (aE (bg bj 0)) 3) 66 true,
 ae 70 (cS (aa 66) (aa 69) (aE (bC false))),
 ae 71 (ax (aa 70)),
 aI 72 (aK 24 (aa 10)) 71 true,
 aI 73 (aK 24 (aa 3)) 71 true,
 aI 74 (be ⟨bI (bM 10),#[aa 72,aa 73],#[24,24]⟩) 71 true,
 ae 75 (cS (aa 71) (aa 74) (aE (bC false))),
 ae 76 (ax (aa 75)),
 aI 77 (ax (aa 11)) 76 true,
 aI 78 (be ⟨cO dh,#[aa 77],#[27]⟩) 76 true,
 aI 79 (bf eI 3 (aa 78) (aE (bg bj 0)) 3) 76 true,
 ae 80 (cS (aa 76) (aa 79) (aE (bC false))),
 ae 4 (aJ (aa 80))]
def k4:SC:=
 (.seq (.region ail)
 (.seq (.region aim)
 (.seq (.seq (.region ain)
 (.cond (aa 27) (.seq (.region aio)
 .ret) .skip))
 (.seq (.region aip)
 (.seq (.region aiq)
 (.seq (.region air)
 (.seq (.region ais)
 .ret)))))))
def Tg:aC:=
 [ae 3 (ew 24 (aa 0)),
 ae 4 (ew 24 (aa 1)),
 ae 5 (ew 24 (aa 2)),
 ae 6 (aJ (aE (bC false)))]
def Tk:aC:=
 [ae 7 (aK 24 (aa 3)),
 ae 8 (be ⟨bI (bM 22),#[aa 7,aE (bg bj 20)],#[24,3]⟩),
 ae 9 (ax (aa 8)),
 aI 10 (aK 24 (aa 4)) 9 true,
 aI 11 (be ⟨bI (bM 22),#[aa 10,aE (bg bj 20)],#[24,3]⟩) 9 true,
 ae 12 (cS (aa 9) (aa 11) (aE (bC false))),
 ae 13 (ax (aa 12)),
 aI 14 (aK 24 (aa 5)) 13 true,
 aI 15 (be ⟨bI (bM 22),#[aa 14,aE (bg bj 20)],#[24,3]⟩) 13 true,
 ae 16 (cS (aa 13) (aa 15) (aE (bC false))),
 ae 6 (aJ (aa 16))]
def k8:SC:=
 (.seq (.region Tg)
 (.seq (.region Tk)
 .ret))
theorem akx:Tryz.prog.funcs[8]? =some Tryz.f8:=by kernel_rfl
theorem akw:(Tryz.f8.body).map cL=some k8:=by kernel_rfl
theorem akz:Tryz.f8.ntmps=17:=by kernel_rfl
theorem aky:Tryz.f8.results.toList=[dE 6]:=by kernel_rfl
theorem adt:bL 8 3=1:=by kernel_rfl
theorem adu:bL 8 4=1:=by kernel_rfl
theorem adv:bL 8 5=1:=by kernel_rfl
def N9:aC:=
 [ae 1 (ew 63 (aa 0)),
 ae 2 (aJ (aE Value.nilFunc))]
def Oa:aC:=
 [ae 3 (Op.makeFunc (Fn.func 52) #[] #[aa 1]),
 ae 2 (aJ (aa 3))]
def N8:SC:=
 (.seq (.region N9)
 (.seq (.region Oa)
 .ret))
theorem agR:Tryz.prog.funcs[29]? =some Tryz.f29:=by kernel_rfl
theorem agQ:(Tryz.f29.body).map cL=some N8:=by kernel_rfl
theorem agT:Tryz.f29.ntmps=4:=by kernel_rfl
theorem agS:Tryz.f29.results.toList=[dE 2]:=by kernel_rfl
theorem ab9:bL 29 1=0:=by kernel_rfl
def Og:aC:=
 [ae 2 (aJ (aE (bg bj 0)))]
def Oh:aC:=
 [ae 3 (aJ (aE (bg bj 0)))]
def Oi:aC:=
 [ae 6 (ax (aa 0)),
 ae 7 (be ⟨cO dh,#[aa 6],#[55]⟩),
 ae 8 (ax (aE (bg bj 0)))]
def EB:aC:=
 [ae 9 (bf dS 3 (aa 8) (aa 7) 3)]
def Oj:aC:=
 [ae 10 (dn 55 (aa 6) (aa 8)),
 ae 11 (aK 3 (aa 10)),
 ae 5 (aJ (aa 11))]
def Ol:aC:=
 [ae 12 (ax (aa 5)),
 ae 13 (ax (aa 3)),
 ae 14 (bf jd 3 (aa 12) (aa 13) 3)]
def Om:aC:=
 [ae 15 (ax (aa 5)),
 ae 2 (aJ (aa 15))]
def On:aC:=
 [ae 16 (bf ei 3 (aa 8) (aE (bg bj 1)) 3),
 ae 8 (ax (aa 16))]
def zY:SC:=
 (.seq (.region EB)
 (.seq (.cond (aa 9) .skip (.exit 0))
 (.seq (.block 1 (.seq (.region Oj)
 (.seq (.region Ol)
 (.cond (aa 14) (.seq (.region Om)
 .ret) .skip))))
 (.region On))))
def Oo:aC:=
 [ae 17 (ax (aa 3)),
 ae 2 (aJ (aa 17))]
def Oe:SC:=
 (.seq (.region Og)
 (.seq (.region Oh)
 (.seq (.seq (.region Oi)
 (.block 0 (.loop zY)))
 (.seq (.region Oo)
 .ret))))
theorem ag0:Tryz.prog.funcs[31]? =some Tryz.f31:=by kernel_rfl
theorem agZ:(Tryz.f31.body).map cL=some Oe:=by kernel_rfl
theorem ag4:Tryz.f31.ntmps=18:=by kernel_rfl
theorem ag3:Tryz.f31.results.toList=[dE 2]:=by kernel_rfl
theorem ace:bL 31 7=0:=by kernel_rfl
def KT:aC:=
 [ae 4 (aJ (aE (bg bj 0)))]
def KU:aC:=
 [ae 7 (ax (aa 0)),
 ae 8 (be ⟨bI (bM 187),#[aa 7],#[3]⟩),
 ae 5 (aJ (aa 8))]
def K0:aC:=
 [ae 9 (ax (aa 1)),
 ae 10 (be ⟨bI (bM 187),#[aa 9],#[3]⟩),
 ae 6 (aJ (aa 10))]
def K1:aC:=
 [ae 11 (ax (aa 5))]
def aeY:aC:=
 [ae 12 (ax (aa 6))]
def aeZ:aC:=
 [ae 4 (aJ (aE (bg bj 0)))]
def ae0:aC:=
 [ae 4 (aJ (aE (bg bj (-1))))]
def K4:aC:=
 [ae 13 (ax (aa 6))]
def ae1:aC:=
 [ae 4 (aJ (aE (bg bj 1)))]
def K6:aC:=
 [ae 14 (ax (aa 0)),
 ae 15 (ax (aa 1)),
 ae 16 (bf dS 3 (aa 14) (aa 15) 3)]
def KV:aC:=
 [ae 4 (aJ (aE (bg bj (-1))))]
def KW:aC:=
 [ae 17 (ax (aa 0)),
 ae 18 (ax (aa 1)),
 ae 19 (bf j1 3 (aa 17) (aa 18) 3)]
def KX:aC:=
 [ae 4 (aJ (aE (bg bj 1)))]
def KZ:aC:=
 [ae 4 (aJ (aE (bg bj 0)))]
def KS:SC:=
 (.seq (.region KT)
 (.seq (.region KU)
 (.seq (.region K0)
 (.seq (.seq (.region K1)
 (.cond (aa 11) (.seq (.seq (.region aeY)
 (.cond (aa 12) (.seq (.region aeZ)
 .ret) .skip))
 (.seq (.region ae0)
 .ret)) .skip))
 (.seq (.seq (.region K4)
 (.cond (aa 13) (.seq (.region ae1)
 .ret) .skip))
 (.seq (.seq (.region K6)
 (.cond (aa 16) (.seq (.region KV)
 .ret) .skip))
 (.seq (.seq (.region KW)
 (.cond (aa 19) (.seq (.region KX)
 .ret) .skip))
 (.seq (.region KZ)
 .ret))))))))
theorem aeX:Tryz.prog.funcs[122]? =some Tryz.f122:=by kernel_rfl
theorem aeW:(Tryz.f122.body).map cL=some KS:=by kernel_rfl
theorem ae3:Tryz.f122.ntmps=20:=by kernel_rfl
theorem ae2:Tryz.f122.results.toList=[dE 4]:=by kernel_rfl
def ME:aC:=
 [ae 2 (aJ (aE (bC false)))]
def MF:aC:=
 [ae 3 (ax (aa 0)),
 ae 4 (ax (aa 0)),
 ae 5 (bf jd 3 (aa 3) (aa 4) 3),
 ae 2 (aJ (aa 5))]
def MD:SC:=
 (.seq (.region ME)
 (.seq (.region MF)
 .ret))
theorem afW:Tryz.prog.funcs[187]? =some Tryz.f187:=by kernel_rfl
theorem afV:(Tryz.f187.body).map cL=some MD:=by kernel_rfl
theorem afY:Tryz.f187.ntmps=6:=by kernel_rfl
theorem afX:Tryz.f187.results.toList=[dE 2]:=by kernel_rfl
def KH:aC:=
 [ae 2 (ew 36 (aa 0)),
 ae 3 (ew 36 (aa 1)),
 ae 4 (aJ (aE (bg bj 0)))]
def KI:aC:=
 [ae 5 (bA 36 (aa 2) 0),
 ae 6 (aK 3 (aa 5)),
 ae 7 (bA 36 (aa 3) 0),
 ae 8 (aK 3 (aa 7)),
 ae 9 (j3 254 #[(0,aa 6),(1,aa 8)]),
 ae 10 (bA 36 (aa 2) 1),
 ae 11 (aK 3 (aa 10)),
 ae 12 (bA 36 (aa 3) 1),
 ae 13 (aK 3 (aa 12)),
 ae 14 (j3 254 #[(0,aa 11),(1,aa 13)]),
 ae 15 (kG 349 2 #[(0,aa 9),(1,aa 14)]),
 ae 16 (be ⟨bI (bM 184),#[aa 15],#[349]⟩),
 ae 4 (aJ (aa 16))]
def KG:SC:=
 (.seq (.region KH)
 (.seq (.region KI)
 .ret))
theorem aeL:Tryz.prog.funcs[119]? =some Tryz.f119:=by kernel_rfl
theorem aeK:(Tryz.f119.body).map cL=some KG:=by kernel_rfl
theorem aeN:Tryz.f119.ntmps=17:=by kernel_rfl
theorem aeM:Tryz.f119.results.toList=[dE 4]:=by kernel_rfl
theorem abx:bL 119 2=1:=by kernel_rfl
theorem aby:bL 119 3=1:=by kernel_rfl
theorem abw:bL 119 15=0:=by kernel_rfl
def Mi:aC:=
 [ae 2 (aJ (aE (bg bj 0)))]
def Mj:aC:=
 [ae 6 (ax (aa 0)),
 ae 7 (be ⟨cO dh,#[aa 6],#[349]⟩),
 ae 8 (ax (aE (bg bj 0)))]
def Eh:aC:=
 [ae 9 (bf dS 3 (aa 8) (aa 7) 3)]
def Ml:aC:=
 [ae 10 (dn 349 (aa 6) (aa 8)),
 ae 11 (aK 254 (aa 10)),
 ae 4 (fu 254),
 ⟨none,dN 254 (aa 4) (aa 11),.aw⟩]
def Mm:aC:=
 [ae 12 (dn 254 (aa 4) (aE (bg bj 0))),
 ae 13 (aK 3 (aa 12)),
 ae 14 (dn 254 (aa 4) (aE (bg bj 1))),
 ae 15 (aK 3 (aa 14)),
 ae 16 (be ⟨bI (bM 122),#[aa 13,aa 15],#[3,3]⟩),
 ae 5 (aJ (aa 16))]
def Mn:aC:=
 [ae 17 (ax (aa 5)),
 ae 18 (bf jd 3 (aa 17) (aE (bg bj 0)) 3)]
def Mo:aC:=
 [ae 19 (ax (aa 5)),
 ae 2 (aJ (aa 19))]
def Mp:aC:=
 [ae 20 (bf ei 3 (aa 8) (aE (bg bj 1)) 3),
 ae 8 (ax (aa 20))]
def zQ:SC:=
 (.seq (.region Eh)
 (.seq (.cond (aa 9) .skip (.exit 0))
 (.seq (.block 1 (.seq (.region Ml)
 (.seq (.region Mm)
 (.seq (.region Mn)
 (.cond (aa 18) (.seq (.region Mo)
 .ret) .skip)))))
 (.region Mp))))
def Mq:aC:=
 [ae 2 (aJ (aE (bg bj 0)))]
def Mh:SC:=
 (.seq (.region Mi)
 (.seq (.seq (.region Mj)
 (.block 0 (.loop zQ)))
 (.seq (.region Mq)
 .ret)))
theorem afK:Tryz.prog.funcs[184]? =some Tryz.f184:=by kernel_rfl
theorem afJ:(Tryz.f184.body).map cL=some Mh:=by kernel_rfl
theorem afM:Tryz.f184.ntmps=21:=by kernel_rfl
theorem afL:Tryz.f184.results.toList=[dE 2]:=by kernel_rfl
theorem abV:bL 184 4=1:=by kernel_rfl
theorem abW:bL 184 7=0:=by kernel_rfl
def Fm:aC:=
 [ae 7 (ew 36 (aa 2)),
 ae 8 (ew 36 (aa 3)),
 ae 9 (ew 36 (aa 4)),
 ae 10 (fu 36)]
def Fo:aC:=
 [ae 12 (aK 36 (aa 8)),
 ae 13 (aK 36 (aa 9)),
 ae 14 (bf eI 36 (aa 12) (aa 13) 36),
 ae 11 (aJ (aa 14))]
def Fp:aC:=
 [ae 15 (aK 36 (aa 9)),
 ae 16 (aK 36 (aa 7)),
 ae 17 (bf eI 36 (aa 15) (aa 16) 36),
 ae 11 (aJ (aa 17))]
def Fq:aC:=
 [ae 18 (aK 36 (aa 8)),
 ⟨none,dN 36 (aa 10) (aa 18),.aw⟩]
def Ft:aC:=
 [ae 20 (aK 36 (aa 8)),
 ae 21 (aK 36 (aa 7)),
 ae 22 (bf eI 36 (aa 20) (aa 21) 36),
 ae 19 (aJ (aa 22))]
def RL:aC:=
 [ae 23 (aK 36 (aa 9)),
 ⟨none,dN 36 (aa 10) (aa 23),.aw⟩]
def RM:aC:=
 [ae 24 (ax (aa 0)),
 ae 25 (ax (aa 1)),
 ae 26 (be {callee:=bI (bM 45),args:= #[aa 24,aa 25,aE (fX {data:= #[97,116] })],argTypes:= #[60,9,9] })]
def RN:aC:=
 [ae 27 (aK 36 (aa 8)),
 ae 28 (aK 36 (aa 9)),
 ae 29 (kG 192 2 #[(0,aa 27),(1,aa 28)]),
 ae 30 (be ⟨bI (bM 118),#[aa 29,bM 119],#[192,193]⟩),
 ⟨none,dN 36 (aa 10) (aa 30),.aw⟩]
def Fl:SC:=
 (.seq (.region Fm)
 (.seq (.block 0 (.seq (.seq (.region Fo)
 (.cond (aa 11) .skip (.region Fp)))
 (.cond (aa 11) (.seq (.region Fq)
 .ret) (.seq (.region Ft)
 (.cond (aa 19) (.seq (.region RL)
 .ret) .skip)))))
 (.seq (.region RM)
 (.seq (.region RN)
 .ret))))
theorem RK:Tryz.prog.funcs[75]? =some Tryz.f75:=by kernel_rfl
theorem RJ:(Tryz.f75.body).map cL=some Fl:=by kernel_rfl
theorem RQ:Tryz.f75.ntmps=31:=by kernel_rfl
theorem RP:Tryz.f75.results.toList=[ResultVar.cell 10 36]:=by kernel_rfl
theorem JI:bL 75 7=1:=by kernel_rfl
theorem JJ:bL 75 8=1:=by kernel_rfl
theorem JK:bL 75 9=1:=by kernel_rfl
theorem JH:bL 75 10=1:=by kernel_rfl
theorem ac4:bL 75 29=0:=by kernel_rfl
def aeE:List Nat:=[0,0,0,6,14,0,63,127]
def KA:aC:=
 [ae 4 (fu 36)]
def KB:aC:=
 [ae 7 (ax (aa 0)),
 ae 8 (be ⟨cO dh,#[aa 7],#[192]⟩),
 ae 9 (bf dS 3 (aa 8) (aE (bg bj 1)) 3)]
def aeH:aC:=
 [ae 10 (Op.makeInterface 9 (aE (fX {data:= #[115,108,105,99,101,115,46,77,105,110,70,117,110,99,58,32,101,109,112,116,121,32,108,105,115,116] }))),
 ⟨none,Op.panic (aa 10),.aw⟩]
def KC:aC:=
 [ae 11 (ax (aa 0)),
 ae 12 (dn 192 (aa 11) (aE (bg bj 0))),
 ae 13 (aK 36 (aa 12)),
 ae 5 (fu 36),
 ⟨none,dN 36 (aa 5) (aa 13),.aw⟩]
def KD:aC:=
 [ae 6 (aJ (aE (bg bj 1)))]
def zL:aC:=
 [ae 14 (ax (aa 6)),
 ae 15 (ax (aa 0)),
 ae 16 (be ⟨cO dh,#[aa 15],#[192]⟩),
 ae 17 (bf dS 3 (aa 14) (aa 16) 3)]
def KE:aC:=
 [ae 20 (ax (aa 1)),
 ae 21 (ax (aa 0)),
 ae 22 (ax (aa 6)),
 ae 23 (dn 192 (aa 21) (aa 22)),
 ae 24 (aK 36 (aa 23)),
 ae 25 (aK 36 (aa 5)),
 ae 26 (be ⟨bI (aa 20),#[aa 24,aa 25],#[36,36]⟩),
 ae 27 (bf dS 3 (aa 26) (aE (bg bj 0)) 3)]
def KF:aC:=
 [ae 28 (ax (aa 0)),
 ae 29 (ax (aa 6)),
 ae 30 (dn 192 (aa 28) (aa 29)),
 ae 31 (aK 36 (aa 30)),
 ⟨none,dN 36 (aa 5) (aa 31),.aw⟩]
def Ea:aC:=
 [ae 18 (ax (aa 6)),
 ae 19 (bf ei 3 (aa 18) (aE (bg bj 1)) 3),
 ae 6 (aJ (aa 19))]
def zK:SC:=
 (.seq (.seq (.region zL)
 (.cond (aa 17) .skip (.exit 0)))
 (.seq (.block 1 (.seq (.draw KE aeE)
 (.cond (aa 27) (.region KF) .skip)))
 (.region Ea)))
def Eb:aC:=
 [ae 32 (aK 36 (aa 5)),
 ⟨none,dN 36 (aa 4) (aa 32),.aw⟩]
def Kz:SC:=
 (.seq (.region KA)
 (.seq (.seq (.region KB)
 (.cond (aa 9) (.region aeH) .skip))
 (.seq (.region KC)
 (.seq (.seq (.region KD)
 (.block 0 (.loop zK)))
 (.seq (.region Eb)
 .ret)))))
theorem aeG:Tryz.prog.funcs[118]? =some Tryz.f118:=by kernel_rfl
theorem aeF:(Tryz.f118.body).map cL=some Kz:=by kernel_rfl
theorem aeJ:Tryz.f118.ntmps=33:=by kernel_rfl
theorem aeI:Tryz.f118.results.toList=[ResultVar.cell 4 36]:=by kernel_rfl
theorem abt:bL 118 4=1:=by kernel_rfl
theorem abu:bL 118 5=1:=by kernel_rfl
theorem abv:bL 118 8=0:=by kernel_rfl
theorem DR:bL 118 16=0:=by kernel_rfl
def ajQ:List Nat:=[0,1,3,7,0,16,48,112,255,0,512,1536,3584,0,8192,24576,57344,131071,0,262144,786432,1835008,0,4194304,12582912,29360128,67108863,0,134217728,402653184,939524096,2147483647,0,4294967296,12884901888,30064771072,68719476735,137438953471,274877906943,549755813887,1099511627775]
def Se:aC:=
 [ae 4 (aJ (aE (bg bj 0)))]
def Sf:aC:=
 [ae 5 (ax (aa 0)),
 ae 6 (dV (aa 5)),
 ae 7 (bA 40 (aa 6) 1),
 ae 8 (aK 3 (aa 7)),
 ae 9 (ax (aa 1)),
 ae 10 (dV (aa 9)),
 ae 11 (bA 40 (aa 10) 1),
 ae 12 (aK 3 (aa 11)),
 ae 13 (be ⟨bI (bM 122),#[aa 8,aa 12],#[3,3]⟩),
 ae 14 (ax (aa 0)),
 ae 15 (dV (aa 14)),
 ae 16 (bA 40 (aa 15) 2),
 ae 17 (aK 36 (aa 16)),
 ae 18 (ax (aa 1)),
 ae 19 (dV (aa 18)),
 ae 20 (bA 40 (aa 19) 2),
 ae 21 (aK 36 (aa 20)),
 ae 22 (be ⟨bI (bM 119),#[aa 17,aa 21],#[36,36]⟩),
 ae 23 (ax (aa 0)),
 ae 24 (dV (aa 23)),
 ae 25 (bA 40 (aa 24) 3),
 ae 26 (aK 37 (aa 25)),
 ae 27 (ax (aa 1)),
 ae 28 (dV (aa 27)),
 ae 29 (bA 40 (aa 28) 3),
 ae 30 (aK 37 (aa 29)),
 ae 31 (be ⟨bI (bM 123),#[aa 26,aa 30],#[37,37]⟩),
 ae 32 (ax (aa 0)),
 ae 33 (dV (aa 32)),
 ae 34 (bA 40 (aa 33) 4),
 ae 35 (aK 38 (aa 34)),
 ae 36 (be ⟨bI (bM 124),#[aa 35],#[38]⟩),
 ae 37 (ax (aa 1)),
 ae 38 (dV (aa 37)),
 ae 39 (bA 40 (aa 38) 4),
 ae 40 (aK 38 (aa 39)),
 ae 41 (be ⟨bI (bM 124),#[aa 40],#[38]⟩),
 ae 42 (be ⟨bI (bM 123),#[aa 36,aa 41],#[37,37]⟩),
 ae 43 (kG 55 4 #[(0,aa 13),(1,aa 22),(2,aa 31),(3,aa 42)]),
 ae 44 (be ⟨bI (bM 31),#[aa 43],#[55]⟩),
 ae 4 (aJ (aa 44))]
def Sd:SC:=
 (.seq (.region Se)
 (.seq (.draw Sf ajQ)
 .ret))
theorem ajS:Tryz.prog.funcs[77]? =some Tryz.f77:=by kernel_rfl
theorem ajR:(Tryz.f77.body).map cL=some Sd:=by kernel_rfl
theorem ajU:Tryz.f77.ntmps=45:=by kernel_rfl
theorem ajT:Tryz.f77.results.toList=[dE 4]:=by kernel_rfl
theorem adi:bL 77 43=0:=by kernel_rfl
def K8:aC:=
 [ae 4 (aJ (aE (bg bj 0)))]
def K9:aC:=
 [ae 9 (ax (aa 0)),
 ae 10 (be ⟨cO dh,#[aa 9],#[37]⟩),
 ae 11 (ax (aE (bg bj 0)))]
def Ec:aC:=
 [ae 12 (bf dS 3 (aa 11) (aa 10) 3)]
def Lf:aC:=
 [ae 13 (ax (aa 11)),
 ae 14 (dn 37 (aa 9) (aa 11)),
 ae 15 (aK 9 (aa 14)),
 ae 5 (aJ (aa 13)),
 ae 6 (aJ (aa 15))]
def Lg:aC:=
 [ae 16 (ax (aa 5)),
 ae 17 (ax (aa 1)),
 ae 18 (be ⟨cO dh,#[aa 17],#[37]⟩),
 ae 19 (bf lN 3 (aa 16) (aa 18) 3)]
def Lh:aC:=
 [ae 4 (aJ (aE (bg bj 1)))]
def Li:aC:=
 [ae 20 (ax (aa 1)),
 ae 21 (ax (aa 5)),
 ae 22 (dn 37 (aa 20) (aa 21)),
 ae 23 (aK 9 (aa 22)),
 ae 7 (aJ (aa 23))]
def Lj:aC:=
 [ae 24 (ax (aa 6)),
 ae 25 (ax (aa 7)),
 ae 26 (be ⟨bI (bM 188),#[aa 24,aa 25],#[9,9]⟩),
 ae 8 (aJ (aa 26))]
def Lk:aC:=
 [ae 27 (ax (aa 8)),
 ae 28 (bf jd 3 (aa 27) (aE (bg bj 0)) 3)]
def Ll:aC:=
 [ae 29 (ax (aa 8)),
 ae 4 (aJ (aa 29))]
def La:aC:=
 [ae 30 (bf ei 3 (aa 11) (aE (bg bj 1)) 3),
 ae 11 (ax (aa 30))]
def zM:SC:=
 (.seq (.region Ec)
 (.seq (.cond (aa 12) .skip (.exit 0))
 (.seq (.block 1 (.seq (.region Lf)
 (.seq (.seq (.region Lg)
 (.cond (aa 19) (.seq (.region Lh)
 .ret) .skip))
 (.seq (.region Li)
 (.seq (.region Lj)
 (.seq (.region Lk)
 (.cond (aa 28) (.seq (.region Ll)
 .ret) .skip)))))))
 (.region La))))
def Lb:aC:=
 [ae 31 (ax (aa 0)),
 ae 32 (be ⟨cO dh,#[aa 31],#[37]⟩),
 ae 33 (ax (aa 1)),
 ae 34 (be ⟨cO dh,#[aa 33],#[37]⟩),
 ae 35 (bf dS 3 (aa 32) (aa 34) 3)]
def Lc:aC:=
 [ae 4 (aJ (aE (bg bj (-1))))]
def Ld:aC:=
 [ae 4 (aJ (aE (bg bj 0)))]
def K7:SC:=
 (.seq (.region K8)
 (.seq (.seq (.region K9)
 (.block 0 (.loop zM)))
 (.seq (.seq (.region Lb)
 (.cond (aa 35) (.seq (.region Lc)
 .ret) .skip))
 (.seq (.region Ld)
 .ret))))
theorem ae5:Tryz.prog.funcs[123]? =some Tryz.f123:=by kernel_rfl
theorem ae4:(Tryz.f123.body).map cL=some K7:=by kernel_rfl
theorem ae7:Tryz.f123.ntmps=36:=by kernel_rfl
theorem ae6:Tryz.f123.results.toList=[dE 4]:=by kernel_rfl
theorem abA:bL 123 10=0:=by kernel_rfl
theorem abB:bL 123 32=0:=by kernel_rfl
theorem abC:bL 123 34=0:=by kernel_rfl
def MH:aC:=
 [ae 4 (aJ (aE (bg bj 0)))]
def MI:aC:=
 [ae 7 (ax (aa 0)),
 ae 8 (be ⟨bI (bM 194),#[aa 7],#[9]⟩),
 ae 5 (aJ (aa 8))]
def MP:aC:=
 [ae 9 (ax (aa 1)),
 ae 10 (be ⟨bI (bM 194),#[aa 9],#[9]⟩),
 ae 6 (aJ (aa 10))]
def MQ:aC:=
 [ae 11 (ax (aa 5))]
def af3:aC:=
 [ae 12 (ax (aa 6))]
def af4:aC:=
 [ae 4 (aJ (aE (bg bj 0)))]
def af5:aC:=
 [ae 4 (aJ (aE (bg bj (-1))))]
def MR:aC:=
 [ae 13 (ax (aa 6))]
def af6:aC:=
 [ae 4 (aJ (aE (bg bj 1)))]
def MS:aC:=
 [ae 14 (ax (aa 0)),
 ae 15 (ax (aa 1)),
 ae 16 (bf dS 9 (aa 14) (aa 15) 9)]
def MJ:aC:=
 [ae 4 (aJ (aE (bg bj (-1))))]
def MM:aC:=
 [ae 17 (ax (aa 0)),
 ae 18 (ax (aa 1)),
 ae 19 (bf j1 9 (aa 17) (aa 18) 9)]
def MN:aC:=
 [ae 4 (aJ (aE (bg bj 1)))]
def MO:aC:=
 [ae 4 (aJ (aE (bg bj 0)))]
def MG:SC:=
 (.seq (.region MH)
 (.seq (.region MI)
 (.seq (.region MP)
 (.seq (.seq (.region MQ)
 (.cond (aa 11) (.seq (.seq (.region af3)
 (.cond (aa 12) (.seq (.region af4)
 .ret) .skip))
 (.seq (.region af5)
 .ret)) .skip))
 (.seq (.seq (.region MR)
 (.cond (aa 13) (.seq (.region af6)
 .ret) .skip))
 (.seq (.seq (.region MS)
 (.cond (aa 16) (.seq (.region MJ)
 .ret) .skip))
 (.seq (.seq (.region MM)
 (.cond (aa 19) (.seq (.region MN)
 .ret) .skip))
 (.seq (.region MO)
 .ret))))))))
theorem af0:Tryz.prog.funcs[188]? =some Tryz.f188:=by kernel_rfl
theorem afZ:(Tryz.f188.body).map cL=some MG:=by kernel_rfl
theorem af8:Tryz.f188.ntmps=20:=by kernel_rfl
theorem af7:Tryz.f188.results.toList=[dE 4]:=by kernel_rfl
def MW:aC:=
 [ae 2 (aJ (aE (bC false)))]
def MX:aC:=
 [ae 3 (ax (aa 0)),
 ae 4 (ax (aa 0)),
 ae 5 (bf jd 9 (aa 3) (aa 4) 9),
 ae 2 (aJ (aa 5))]
def MV:SC:=
 (.seq (.region MW)
 (.seq (.region MX)
 .ret))
theorem age:Tryz.prog.funcs[194]? =some Tryz.f194:=by kernel_rfl
theorem agd:(Tryz.f194.body).map cL=some MV:=by kernel_rfl
theorem agh:Tryz.f194.ntmps=6:=by kernel_rfl
theorem agf:Tryz.f194.results.toList=[dE 2]:=by kernel_rfl
def Ln:aC:=
 [ae 2 (aJ (aE (i8 none 0 0)))]
def Lp:aC:=
 [ae 3 (aJ (aE (i8 none 0 0)))]
def Lq:aC:=
 [ae 6 (ax (aa 0)),
 ae 7 (be ⟨cO dh,#[aa 6],#[38]⟩),
 ae 8 (ax (aE (bg bj 0)))]
def Ed:aC:=
 [ae 9 (bf dS 3 (aa 8) (aa 7) 3)]
def Lr:aC:=
 [ae 10 (dn 38 (aa 6) (aa 8)),
 ae 11 (aK 51 (aa 10)),
 ae 5 (fu 51),
 ⟨none,dN 51 (aa 5) (aa 11),.aw⟩]
def Ls:aC:=
 [ae 12 (ax (aa 3)),
 ae 13 (bA 51 (aa 5) 0),
 ae 14 (aK 9 (aa 13)),
 ae 15 (bA 51 (aa 5) 1),
 ae 16 (aK 9 (aa 15)),
 ae 17 (kG 37 2 #[(0,aa 14),(1,aa 16)]),
 ae 18 (be ⟨cO n9,#[aa 12,aa 17],#[37,37]⟩),
 ae 3 (aJ (aa 18))]
def Lu:aC:=
 [ae 19 (bf ei 3 (aa 8) (aE (bg bj 1)) 3),
 ae 8 (ax (aa 19))]
def zN:SC:=
 (.seq (.region Ed)
 (.seq (.cond (aa 9) .skip (.exit 0))
 (.seq (.block 1 (.seq (.region Lr)
 (.region Ls)))
 (.region Lu))))
def Lv:aC:=
 [ae 20 (ax (aa 3)),
 ae 2 (aJ (aa 20))]
def Lm:SC:=
 (.seq (.region Ln)
 (.seq (.region Lp)
 (.seq (.seq (.region Lq)
 (.block 0 (.loop zN)))
 (.seq (.region Lv)
 .ret))))
theorem ae9:Tryz.prog.funcs[124]? =some Tryz.f124:=by kernel_rfl
theorem ae8:(Tryz.f124.body).map cL=some Lm:=by kernel_rfl
theorem afb:Tryz.f124.ntmps=21:=by kernel_rfl
theorem afa:Tryz.f124.results.toList=[dE 2]:=by kernel_rfl
theorem abF:bL 124 5=1:=by kernel_rfl
theorem abG:bL 124 7=0:=by kernel_rfl
theorem abD:bL 124 17=0:=by kernel_rfl
theorem abE:bL 124 18=0:=by kernel_rfl
def KQ:aC:=
 [ae 4 (aJ (aE (bC false)))]
def KR:aC:=
 [ae 5 (ax (aa 0)),
 ae 6 (ax (aa 1)),
 ae 7 (be ⟨bI (bM 186),#[aa 5,aa 6],#[37,9]⟩),
 ae 8 (bf lN 3 (aa 7) (aE (bg bj 0)) 3),
 ae 4 (aJ (aa 8))]
def KP:SC:=
 (.seq (.region KQ)
 (.seq (.region KR)
 .ret))
theorem aeT:Tryz.prog.funcs[121]? =some Tryz.f121:=by kernel_rfl
theorem aeS:(Tryz.f121.body).map cL=some KP:=by kernel_rfl
theorem aeV:Tryz.f121.ntmps=9:=by kernel_rfl
theorem aeU:Tryz.f121.results.toList=[dE 4]:=by kernel_rfl
def Mw:aC:=
 [ae 4 (aJ (aE (bg bj 0)))]
def Mx:aC:=
 [ae 6 (ax (aa 0)),
 ae 7 (be ⟨cO dh,#[aa 6],#[37]⟩),
 ae 8 (ax (aE (bg bj 0)))]
def Ei:aC:=
 [ae 9 (bf dS 3 (aa 8) (aa 7) 3)]
def My:aC:=
 [ae 10 (ax (aa 8)),
 ae 5 (aJ (aa 10))]
def Mz:aC:=
 [ae 11 (ax (aa 1)),
 ae 12 (ax (aa 0)),
 ae 13 (ax (aa 5)),
 ae 14 (dn 37 (aa 12) (aa 13)),
 ae 15 (aK 9 (aa 14)),
 ae 16 (bf eI 9 (aa 11) (aa 15) 9)]
def MA:aC:=
 [ae 17 (ax (aa 5)),
 ae 4 (aJ (aa 17))]
def MB:aC:=
 [ae 18 (bf ei 3 (aa 8) (aE (bg bj 1)) 3),
 ae 8 (ax (aa 18))]
def zS:SC:=
 (.seq (.region Ei)
 (.seq (.cond (aa 9) .skip (.exit 0))
 (.seq (.block 1 (.seq (.region My)
 (.seq (.region Mz)
 (.cond (aa 16) (.seq (.region MA)
 .ret) .skip))))
 (.region MB))))
def MC:aC:=
 [ae 4 (aJ (aE (bg bj (-1))))]
def Mv:SC:=
 (.seq (.region Mw)
 (.seq (.seq (.region Mx)
 (.block 0 (.loop zS)))
 (.seq (.region MC)
 .ret)))
theorem afS:Tryz.prog.funcs[186]? =some Tryz.f186:=by kernel_rfl
theorem afR:(Tryz.f186.body).map cL=some Mv:=by kernel_rfl
theorem afU:Tryz.f186.ntmps=19:=by kernel_rfl
theorem afT:Tryz.f186.results.toList=[dE 4]:=by kernel_rfl
theorem abX:bL 186 7=0:=by kernel_rfl
def Ot:aC:=
 [ae 4 (aJ (aE (bg bj 0)))]
def Ou:aC:=
 [ae 5 (ax (aa 0)),
 ae 6 (ax (aa 1)),
 ae 7 (be ⟨bI (bM 53),#[aa 5,aa 6],#[9,9]⟩),
 ae 4 (aJ (aa 7))]
def Oq:SC:=
 (.seq (.region Ot)
 (.seq (.region Ou)
 .ret))
theorem ag6:Tryz.prog.funcs[32]? =some Tryz.f32:=by kernel_rfl
theorem ag5:(Tryz.f32.body).map cL=some Oq:=by kernel_rfl
theorem ag8:Tryz.f32.ntmps=8:=by kernel_rfl
theorem ag7:Tryz.f32.results.toList=[dE 4]:=by kernel_rfl
def Qa:aC:=
 [ae 4 (aJ (aE (bg bj 0)))]
def Qb:aC:=
 [ae 5 (ax (aa 0)),
 ae 6 (ax (aa 1)),
 ae 7 (be ⟨bI (bM 83),#[aa 5,aa 6],#[9,9]⟩),
 ae 4 (aJ (aa 7))]
def P9:SC:=
 (.seq (.region Qa)
 (.seq (.region Qb)
 .ret))
theorem aiC:Tryz.prog.funcs[53]? =some Tryz.f53:=by kernel_rfl
theorem aiB:(Tryz.f53.body).map cL=some P9:=by kernel_rfl
theorem aiE:Tryz.f53.ntmps=8:=by kernel_rfl
theorem aiD:Tryz.f53.results.toList=[dE 4]:=by kernel_rfl
def Fb:List Nat:=[0,0,2,0,8,30,62,127,0,0,512,0,2048,7680,15872,32767,0,0,131072,0,524288,1966080,4063232,8388607,16777215,33554431,67108863,67108863,134217727,536870911]
def Ri:aC:=
 [ae 6 (aJ (aE (i8 none 0 0))),
 ae 7 (aJ (aE (bC false)))]
def Rj:aC:=
 [ae 25 (ax (aa 0)),
 ae 26 (ax (aa 1)),
 ae 27 (ax (aa 2)),
 ae 28 (kG 286 3 #[(0,aa 25),(1,aa 26),(2,aa 27)]),
 ae 29 (be ⟨bI (bM 114),#[aa 28],#[286]⟩),
 ae 30 (fH UnOp.not 4 (aa 29))]
def Rt:aC:=
 [ae 6 (aJ (aE (i8 none 0 0))),
 ae 7 (aJ (aE (bC false)))]
def RC:aC:=
 [ae 31 (Op.makeMap 178 none),
 ae 8 (aJ (aa 31))]
def RE:aC:=
 [ae 32 (ax (aa 0)),
 ae 33 (ax (aa 2)),
 ae 34 (be ⟨bI (bM 115),#[aa 32,aa 33],#[37,37]⟩),
 ae 35 (be ⟨cO dh,#[aa 34],#[180]⟩),
 ae 36 (ax (aE (bg bj 0)))]
def Fj:aC:=
 [ae 37 (bf dS 3 (aa 36) (aa 35) 3)]
def RF:aC:=
 [ae 38 (dn 180 (aa 34) (aa 36)),
 ae 39 (aK 183 (aa 38)),
 ae 10 (fu 183),
 ⟨none,dN 183 (aa 10) (aa 39),.aw⟩]
def RG:aC:=
 [ae 40 (ax (aa 8)),
 ae 41 (bA 183 (aa 10) 0),
 ae 42 (aK 3 (aa 41)),
 ae 43 (bA 183 (aa 10) 1),
 ae 44 (aK 3 (aa 43)),
 ⟨none,uf 178 (aa 40) (aa 42) (aa 44),.aw⟩]
def RH:aC:=
 [ae 45 (bf ei 3 (aa 36) (aE (bg bj 1)) 3),
 ae 36 (ax (aa 45))]
def Ax:SC:=
 (.seq (.region Fj)
 (.seq (.cond (aa 37) .skip (.exit 0))
 (.seq (.block 1 (.seq (.region RF)
 (.region RG)))
 (.region RH))))
def RI:aC:=
 [ae 11 (aJ (aE (i8 none 0 0)))]
def Rk:aC:=
 [ae 46 (ax (aa 0)),
 ae 47 (ax (aa 1)),
 ae 48 (be ⟨bI (bM 115),#[aa 46,aa 47],#[37,37]⟩),
 ae 49 (be ⟨cO dh,#[aa 48],#[180]⟩),
 ae 50 (ax (aE (bg bj 0)))]
def Fc:aC:=
 [ae 51 (bf dS 3 (aa 50) (aa 49) 3)]
def Rl:aC:=
 [ae 52 (dn 180 (aa 48) (aa 50)),
 ae 53 (aK 183 (aa 52)),
 ae 13 (fu 183),
 ⟨none,dN 183 (aa 13) (aa 53),.aw⟩]
def Rm:aC:=
 [ae 55 (ax (aa 8)),
 ae 56 (bA 183 (aa 13) 0),
 ae 57 (aK 3 (aa 56)),
 ae 58 (nJ 178 (aa 55) (aa 57) true),
 ae 54 (ax (aa 58)),
 ae 59 (fg (aa 54) 0),
 ae 60 (fg (aa 54) 1),
 ae 14 (aJ (aa 59)),
 ae 15 (aJ (aa 60))]
def Fd:aC:=
 [ae 61 (ax (aa 15))]
def Ro:aC:=
 [ae 62 (ax (aa 11)),
 ae 63 (bA 183 (aa 13) 0),
 ae 64 (aK 3 (aa 63)),
 ae 65 (bA 183 (aa 13) 1),
 ae 66 (aK 3 (aa 65)),
 ae 67 (ax (aa 14)),
 ae 68 (j3 186 #[(0,aa 64),(1,aa 66),(2,aa 67)]),
 ae 69 (kG 184 1 #[(0,aa 68)]),
 ae 70 (be ⟨cO n9,#[aa 62,aa 69],#[184,184]⟩),
 ae 11 (aJ (aa 70))]
def Fe:aC:=
 [ae 71 (bf ei 3 (aa 50) (aE (bg bj 1)) 3),
 ae 50 (ax (aa 71))]
def Ay:SC:=
 (.seq (.region Fc)
 (.seq (.cond (aa 51) .skip (.exit 2))
 (.seq (.block 3 (.seq (.region Rl)
 (.seq (.region Rm)
 (.seq (.region Fd)
 (.cond (aa 61) (.region Ro) .skip)))))
 (.region Fe))))
def Rp:aC:=
 [ae 72 (ax (aa 11)),
 ae 73 (ax (aa 0)),
 ae 74 (be ⟨cO dh,#[aa 73],#[37]⟩),
 ae 75 (ax (aa 1)),
 ae 76 (be ⟨cO dh,#[aa 75],#[37]⟩),
 ae 77 (ax (aa 2)),
 ae 78 (be ⟨cO dh,#[aa 77],#[37]⟩),
 ae 79 (j3 186 #[(0,aa 74),(1,aa 76),(2,aa 78)]),
 ae 80 (kG 184 1 #[(0,aa 79)]),
 ae 81 (be ⟨cO n9,#[aa 72,aa 80],#[184,184]⟩),
 ae 11 (aJ (aa 81))]
def Rq:aC:=
 [ae 82 (ax (aa 0)),
 ae 83 (j3 189 #[(0,aa 82)]),
 ae 84 (ew 189 (aa 83)),
 ae 85 (ax (aa 1)),
 ae 86 (j3 189 #[(0,aa 85)]),
 ae 87 (ew 189 (aa 86)),
 ae 88 (ax (aa 2)),
 ae 89 (j3 189 #[(0,aa 88)]),
 ae 90 (ew 189 (aa 89)),
 ae 16 (aJ (aa 84)),
 ae 17 (aJ (aa 87)),
 ae 18 (aJ (aa 90))]
def Rr:aC:=
 [ae 91 (j3 186 #[(0,aE (bg bj (-1))),(1,aE (bg bj (-1))),(2,aE (bg bj (-1)))]),
 ae 19 (fu 186),
 ⟨none,dN 186 (aa 19) (aa 91),.aw⟩]
def Ru:aC:=
 [ae 20 (aJ (aE (i8 none 0 0)))]
def Rv:aC:=
 [ae 92 (ax (aa 11)),
 ae 93 (be ⟨cO dh,#[aa 92],#[184]⟩),
 ae 94 (ax (aE (bg bj 0)))]
def Ff:aC:=
 [ae 95 (bf dS 3 (aa 94) (aa 93) 3)]
def Rx:aC:=
 [ae 96 (dn 184 (aa 92) (aa 94)),
 ae 97 (aK 186 (aa 96)),
 ae 22 (fu 186),
 ⟨none,dN 186 (aa 22) (aa 97),.aw⟩]
def nT:aC:=
 [ae 99 (ax (aa 16)),
 ae 100 (bA 186 (aa 22) 0),
 ae 101 (aK 3 (aa 100)),
 ae 102 (bA 186 (aa 19) 0),
 ae 103 (aK 3 (aa 102)),
 ae 104 (bf mT 3 (aa 101) (aa 103) 3),
 ae 105 (bf mT 3 (aa 104) (aE (bg bj 1)) 3),
 ae 106 (be ⟨bI (bM 117),#[aa 99,aa 105],#[187,3]⟩),
 ae 107 (ax (aa 17)),
 ae 108 (bA 186 (aa 22) 1),
 ae 109 (aK 3 (aa 108)),
 ae 110 (bA 186 (aa 19) 1),
 ae 111 (aK 3 (aa 110)),
 ae 112 (bf mT 3 (aa 109) (aa 111) 3),
 ae 113 (bf mT 3 (aa 112) (aE (bg bj 1)) 3),
 ae 114 (be ⟨bI (bM 117),#[aa 107,aa 113],#[187,3]⟩),
 ae 115 (ax (aa 18)),
 ae 116 (bA 186 (aa 22) 2),
 ae 117 (aK 3 (aa 116)),
 ae 118 (bA 186 (aa 19) 2),
 ae 119 (aK 3 (aa 118)),
 ae 120 (bf mT 3 (aa 117) (aa 119) 3),
 ae 121 (bf mT 3 (aa 120) (aE (bg bj 1)) 3),
 ae 122 (be ⟨bI (bM 117),#[aa 115,aa 121],#[187,3]⟩),
 ae 123 (be ⟨bI (bM 116),#[aa 106,aa 114,aa 122],#[37,37,37]⟩),
 ae 98 (ax (aa 123)),
 ae 124 (fg (aa 98) 0),
 ae 125 (fg (aa 98) 1),
 ae 23 (aJ (aa 124)),
 ae 24 (aJ (aa 125))]
def Fg:aC:=
 [ae 126 (ax (aa 24)),
 ae 127 (fH UnOp.not 4 (aa 126))]
def Ry:aC:=
 [ae 6 (aJ (aE (i8 none 0 0))),
 ae 7 (aJ (aE (bC false)))]
def Rz:aC:=
 [ae 128 (ax (aa 20)),
 ae 129 (ax (aa 23)),
 ae 130 (be ⟨cO n9,#[aa 128,aa 129],#[37,37]⟩),
 ae 20 (aJ (aa 130))]
def RA:aC:=
 [ae 131 (bA 186 (aa 22) 0),
 ae 132 (aK 3 (aa 131)),
 ae 133 (ax (aa 0)),
 ae 134 (be ⟨cO dh,#[aa 133],#[37]⟩),
 ae 135 (bf dS 3 (aa 132) (aa 134) 3)]
def RB:aC:=
 [ae 136 (ax (aa 20)),
 ae 137 (ax (aa 0)),
 ae 138 (bA 186 (aa 22) 0),
 ae 139 (aK 3 (aa 138)),
 ae 140 (dn 37 (aa 137) (aa 139)),
 ae 141 (aK 9 (aa 140)),
 ae 142 (kG 37 1 #[(0,aa 141)]),
 ae 143 (be ⟨cO n9,#[aa 136,aa 142],#[37,37]⟩),
 ae 20 (aJ (aa 143))]
def Fh:aC:=
 [ae 144 (aK 186 (aa 22)),
 ⟨none,dN 186 (aa 19) (aa 144),.aw⟩]
def Fi:aC:=
 [ae 145 (bf ei 3 (aa 94) (aE (bg bj 1)) 3),
 ae 94 (ax (aa 145))]
def x6:SC:=
 (.seq (.region Ff)
 (.seq (.cond (aa 95) .skip (.exit 4))
 (.seq (.block 5 (.seq (.region Rx)
 (.seq (.draw nT Fb)
 (.seq (.seq (.region Fg)
 (.cond (aa 127) (.seq (.region Ry)
 .ret) .skip))
 (.seq (.region Rz)
 (.seq (.seq (.region RA)
 (.cond (aa 135) (.region RB) .skip))
 (.region Fh)))))))
 (.region Fi))))
def RD:aC:=
 [ae 146 (ax (aa 20)),
 ae 6 (aJ (aa 146)),
 ae 7 (aJ (aE (bC true)))]
def Rh:SC:=
 (.seq (.region Ri)
 (.seq (.seq (.region Rj)
 (.cond (aa 30) (.seq (.region Rt)
 .ret) .skip))
 (.seq (.region RC)
 (.seq (.seq (.region RE)
 (.block 0 (.loop Ax)))
 (.seq (.region RI)
 (.seq (.seq (.region Rk)
 (.block 2 (.loop Ay)))
 (.seq (.region Rp)
 (.seq (.region Rq)
 (.seq (.region Rr)
 (.seq (.region Ru)
 (.seq (.seq (.region Rv)
 (.block 4 (.loop x6)))
 (.seq (.region RD)
 .ret))))))))))))
theorem ajH:Tryz.prog.funcs[74]? =some Tryz.f74:=by kernel_rfl
theorem ajG:(Tryz.f74.body).map cL=some Rh:=by kernel_rfl
theorem ajJ:Tryz.f74.ntmps=147:=by kernel_rfl
theorem ajI:Tryz.f74.results.toList=[dE 6,dE 7]:=by kernel_rfl
theorem acI:bL 74 10=1:=by kernel_rfl
theorem acJ:bL 74 13=1:=by kernel_rfl
theorem acO:bL 74 19=1:=by kernel_rfl
theorem acP:bL 74 22=1:=by kernel_rfl
theorem acQ:bL 74 28=0:=by kernel_rfl
theorem acR:bL 74 35=0:=by kernel_rfl
theorem acS:bL 74 49=0:=by kernel_rfl
theorem acT:bL 74 69=0:=by kernel_rfl
theorem acU:bL 74 70=0:=by kernel_rfl
theorem acV:bL 74 74=0:=by kernel_rfl
theorem acW:bL 74 76=0:=by kernel_rfl
theorem acX:bL 74 78=0:=by kernel_rfl
theorem acY:bL 74 80=0:=by kernel_rfl
theorem acZ:bL 74 81=0:=by kernel_rfl
theorem ac0:bL 74 84=0:=by kernel_rfl
theorem ac1:bL 74 87=0:=by kernel_rfl
theorem ac2:bL 74 90=0:=by kernel_rfl
theorem ac3:bL 74 93=0:=by kernel_rfl
theorem acK:bL 74 130=0:=by kernel_rfl
theorem acL:bL 74 134=0:=by kernel_rfl
theorem acM:bL 74 142=0:=by kernel_rfl
theorem acN:bL 74 143=0:=by kernel_rfl
def J4:aC:=
 [ae 2 (aJ (aE (bC false)))]
def J5:aC:=
 [ae 3 (ax (aa 0)),
 ae 4 (be ⟨bI (bM 181),#[aa 3,bM 182],#[286,288]⟩),
 ae 5 (fH UnOp.not 4 (aa 4)),
 ae 2 (aJ (aa 5))]
def J3:SC:=
 (.seq (.region J4)
 (.seq (.region J5)
 .ret))
theorem aek:Tryz.prog.funcs[114]? =some Tryz.f114:=by kernel_rfl
theorem aej:(Tryz.f114.body).map cL=some J3:=by kernel_rfl
theorem aem:Tryz.f114.ntmps=6:=by kernel_rfl
theorem ael:Tryz.f114.results.toList=[dE 2]:=by kernel_rfl
def aen:List Nat:=[0,0,3,7,0,0,48,112,255]
def aeo:List Nat:=[0,0,0,7,0,0,32,0,255,511,1023,0,0,0,8192,31231,63999,129535,262143,524287,1048575]
def aep:List Nat:=[0,0,3,7,0,0,48,112,255,511]
def aeq:List Nat:=[0,0,2,0,15,31,63,0,0,0,927,1951,3999,8191,16383]
def J7:aC:=
 [ae 4 (aJ (aE (i8 none 0 0)))]
def J8:aC:=
 [ae 13 (ax (aa 1)),
 ae 14 (be ⟨cO dh,#[aa 13],#[37]⟩),
 ae 15 (bf ei 3 (aa 14) (aE (bg bj 1)) 3),
 ae 5 (fu 3),
 ⟨none,dN 3 (aa 5) (aa 15),.aw⟩]
def Kh:aC:=
 [ae 16 (ax (aa 0)),
 ae 17 (be ⟨cO dh,#[aa 16],#[37]⟩),
 ae 18 (bf ei 3 (aa 17) (aE (bg bj 1)) 3),
 ae 19 (aK 3 (aa 5)),
 ae 20 (bf BinOp.mul 3 (aa 18) (aa 19) 3),
 ae 21 (Op.makeSlice 289 (aa 20) (aa 20)),
 ae 6 (fu 289),
 ⟨none,dN 289 (aa 6) (aa 21),.aw⟩]
def Kk:aC:=
 [ae 22 (Op.makeFunc (Fn.func 183) #[] #[aa 6,aa 5]),
 ae 7 (aJ (aa 22))]
def Kl:aC:=
 [ae 23 (ax (aa 0)),
 ae 24 (be ⟨cO dh,#[aa 23],#[37]⟩),
 ae 25 (bf mT 3 (aa 24) (aE (bg bj 1)) 3),
 ae 8 (aJ (aa 25))]
def D6:aC:=
 [ae 26 (ax (aa 8)),
 ae 27 (bf lN 3 (aa 26) (aE (bg bj 0)) 3)]
def Kn:aC:=
 [ae 30 (ax (aa 1)),
 ae 31 (be ⟨cO dh,#[aa 30],#[37]⟩),
 ae 32 (bf mT 3 (aa 31) (aE (bg bj 1)) 3),
 ae 9 (aJ (aa 32))]
def D7:aC:=
 [ae 33 (ax (aa 9)),
 ae 34 (bf lN 3 (aa 33) (aE (bg bj 0)) 3)]
def J9:aC:=
 [ae 37 (ax (aa 0)),
 ae 38 (ax (aa 8)),
 ae 39 (dn 37 (aa 37) (aa 38)),
 ae 40 (aK 9 (aa 39)),
 ae 41 (ax (aa 1)),
 ae 42 (ax (aa 9)),
 ae 43 (dn 37 (aa 41) (aa 42)),
 ae 44 (aK 9 (aa 43)),
 ae 45 (bf eI 9 (aa 40) (aa 44) 9)]
def Ka:aC:=
 [ae 46 (ax (aa 7)),
 ae 47 (ax (aa 8)),
 ae 48 (ax (aa 9)),
 ae 49 (be ⟨bI (aa 46),#[aa 47,aa 48],#[3,3]⟩),
 ae 50 (ax (aa 7)),
 ae 51 (ax (aa 8)),
 ae 52 (bf ei 3 (aa 51) (aE (bg bj 1)) 3),
 ae 53 (ax (aa 9)),
 ae 54 (bf ei 3 (aa 53) (aE (bg bj 1)) 3),
 ae 55 (be ⟨bI (aa 50),#[aa 52,aa 54],#[3,3]⟩),
 ae 56 (dV (aa 55)),
 ae 57 (aK 21 (aa 56)),
 ae 58 (bf ei 21 (aa 57) (aE (bg IntKind.i32 1)) 21),
 ae 59 (dV (aa 49)),
 ⟨none,dN 21 (aa 59) (aa 58),.aw⟩]
def nS:aC:=
 [ae 60 (ax (aa 7)),
 ae 61 (ax (aa 8)),
 ae 62 (ax (aa 9)),
 ae 63 (be ⟨bI (aa 60),#[aa 61,aa 62],#[3,3]⟩),
 ae 64 (ax (aa 7)),
 ae 65 (ax (aa 8)),
 ae 66 (bf ei 3 (aa 65) (aE (bg bj 1)) 3),
 ae 67 (ax (aa 9)),
 ae 68 (be ⟨bI (aa 64),#[aa 66,aa 67],#[3,3]⟩),
 ae 69 (dV (aa 68)),
 ae 70 (aK 21 (aa 69)),
 ae 71 (ax (aa 7)),
 ae 72 (ax (aa 8)),
 ae 73 (ax (aa 9)),
 ae 74 (bf ei 3 (aa 73) (aE (bg bj 1)) 3),
 ae 75 (be ⟨bI (aa 71),#[aa 72,aa 74],#[3,3]⟩),
 ae 76 (dV (aa 75)),
 ae 77 (aK 21 (aa 76)),
 ae 78 (be ⟨cO Builtin.max,#[aa 70,aa 77],#[21,21]⟩),
 ae 79 (dV (aa 63)),
 ⟨none,dN 21 (aa 79) (aa 78),.aw⟩]
def D8:aC:=
 [ae 35 (ax (aa 9)),
 ae 36 (bf mT 3 (aa 35) (aE (bg bj 1)) 3),
 ae 9 (aJ (aa 36))]
def xW:SC:=
 (.seq (.seq (.region D7)
 (.cond (aa 34) .skip (.exit 2)))
 (.seq (.block 3 (.seq (.draw J9 aen)
 (.cond (aa 45) (.region Ka) (.draw nS aeo))))
 (.region D8)))
def Km:aC:=
 [ae 28 (ax (aa 8)),
 ae 29 (bf mT 3 (aa 28) (aE (bg bj 1)) 3),
 ae 8 (aJ (aa 29))]
def zJ:SC:=
 (.seq (.seq (.region D6)
 (.cond (aa 27) .skip (.exit 0)))
 (.seq (.block 1 (.seq (.region Kn)
 (.block 2 (.loop xW))))
 (.region Km)))
def Kb:aC:=
 [ae 10 (aJ (aE (i8 none 0 0)))]
def Kc:aC:=
 [ae 11 (aJ (aE (bg bj 0))),
 ae 12 (aJ (aE (bg bj 0)))]
def D5:aC:=
 [ae 80 (ax (aa 11)),
 ae 81 (ax (aa 0)),
 ae 82 (be ⟨cO dh,#[aa 81],#[37]⟩),
 ae 83 (bf dS 3 (aa 80) (aa 82) 3),
 ae 84 (ax (aa 83)),
 aI 85 (ax (aa 12)) 84 true,
 aI 86 (ax (aa 1)) 84 true,
 aI 87 (be ⟨cO dh,#[aa 86],#[37]⟩) 84 true,
 aI 88 (bf dS 3 (aa 85) (aa 87) 3) 84 true,
 ae 89 (cS (aa 84) (aa 88) (aE (bC false)))]
def Ke:aC:=
 [ae 93 (ax (aa 0)),
 ae 94 (ax (aa 11)),
 ae 95 (dn 37 (aa 93) (aa 94)),
 ae 96 (aK 9 (aa 95)),
 ae 97 (ax (aa 1)),
 ae 98 (ax (aa 12)),
 ae 99 (dn 37 (aa 97) (aa 98)),
 ae 100 (aK 9 (aa 99)),
 ae 101 (bf eI 9 (aa 96) (aa 100) 9),
 ae 92 (aJ (aa 101))]
def Kf:aC:=
 [ae 102 (ax (aa 10)),
 ae 103 (ax (aa 11)),
 ae 104 (ax (aa 12)),
 ae 105 (j3 183 #[(0,aa 103),(1,aa 104)]),
 ae 106 (kG 180 1 #[(0,aa 105)]),
 ae 107 (be ⟨cO n9,#[aa 102,aa 106],#[180,180]⟩),
 ae 10 (aJ (aa 107))]
def Kg:aC:=
 [ae 108 (ax (aa 11)),
 ae 109 (bf ei 3 (aa 108) (aE (bg bj 1)) 3),
 ae 110 (ax (aa 12)),
 ae 111 (bf ei 3 (aa 110) (aE (bg bj 1)) 3),
 ae 11 (aJ (aa 109)),
 ae 12 (aJ (aa 111))]
def qU:aC:=
 [ae 113 (ax (aa 7)),
 ae 114 (ax (aa 11)),
 ae 115 (bf ei 3 (aa 114) (aE (bg bj 1)) 3),
 ae 116 (ax (aa 12)),
 ae 117 (be ⟨bI (aa 113),#[aa 115,aa 116],#[3,3]⟩),
 ae 118 (dV (aa 117)),
 ae 119 (aK 21 (aa 118)),
 ae 120 (ax (aa 7)),
 ae 121 (ax (aa 11)),
 ae 122 (ax (aa 12)),
 ae 123 (be ⟨bI (aa 120),#[aa 121,aa 122],#[3,3]⟩),
 ae 124 (dV (aa 123)),
 ae 125 (aK 21 (aa 124)),
 ae 126 (bf eI 21 (aa 119) (aa 125) 21),
 ae 112 (aJ (aa 126))]
def Ki:aC:=
 [ae 127 (ax (aa 11)),
 ae 128 (bf ei 3 (aa 127) (aE (bg bj 1)) 3),
 ae 11 (aJ (aa 128))]
def Kd:aC:=
 [ae 90 (ax (aa 12)),
 ae 91 (bf ei 3 (aa 90) (aE (bg bj 1)) 3),
 ae 12 (aJ (aa 91))]
def xX:SC:=
 (.seq (.seq (.region D5)
 (.cond (aa 89) .skip (.exit 4)))
 (.block 5 (.block 6 (.seq (.draw Ke aep)
 (.cond (aa 92) (.seq (.region Kf)
 (.region Kg)) (.seq (.draw qU aeq)
 (.cond (aa 112) (.region Ki) (.region Kd))))))))
def Kj:aC:=
 [ae 129 (ax (aa 10)),
 ae 4 (aJ (aa 129))]
def J6:SC:=
 (.seq (.region J7)
 (.seq (.region J8)
 (.seq (.region Kh)
 (.seq (.region Kk)
 (.seq (.seq (.region Kl)
 (.block 0 (.loop zJ)))
 (.seq (.region Kb)
 (.seq (.seq (.region Kc)
 (.block 4 (.loop xX)))
 (.seq (.region Kj)
 .ret))))))))
theorem aes:Tryz.prog.funcs[115]? =some Tryz.f115:=by kernel_rfl
theorem aer:(Tryz.f115.body).map cL=some J6:=by kernel_rfl
theorem aeu:Tryz.f115.ntmps=130:=by kernel_rfl
theorem aet:Tryz.f115.results.toList=[dE 4]:=by kernel_rfl
theorem abo:bL 115 5=0:=by kernel_rfl
theorem abp:bL 115 6=0:=by kernel_rfl
theorem abj:bL 115 14=0:=by kernel_rfl
theorem abk:bL 115 17=0:=by kernel_rfl
theorem abl:bL 115 21=0:=by kernel_rfl
theorem abm:bL 115 24=0:=by kernel_rfl
theorem abn:bL 115 31=0:=by kernel_rfl
theorem DQ:bL 115 82=0:=by kernel_rfl
theorem JC:bL 115 87=0:=by kernel_rfl
theorem abh:bL 115 106=0:=by kernel_rfl
theorem abi:bL 115 107=0:=by kernel_rfl
def Kp:aC:=
 [ae 6 (aJ (aE (i8 none 0 0))),
 ae 7 (aJ (aE (bC false)))]
def Kq:aC:=
 [ae 9 (ax (aa 1)),
 ae 10 (ax (aa 0)),
 ae 11 (be ⟨bI (bM 37),#[aa 9,aa 10],#[37,37]⟩),
 ae 8 (aJ (aa 11))]
def Kr:aC:=
 [ae 12 (ax (aa 2)),
 ae 6 (aJ (aa 12)),
 ae 7 (aJ (aE (bC true)))]
def Ks:aC:=
 [ae 14 (ax (aa 2)),
 ae 15 (ax (aa 0)),
 ae 16 (be ⟨bI (bM 37),#[aa 14,aa 15],#[37,37]⟩),
 ae 13 (aJ (aa 16))]
def Kt:aC:=
 [ae 17 (ax (aa 2)),
 ae 18 (ax (aa 1)),
 ae 19 (be ⟨bI (bM 37),#[aa 17,aa 18],#[37,37]⟩),
 ae 13 (aJ (aa 19))]
def D9:aC:=
 [ae 20 (ax (aa 1)),
 ae 6 (aJ (aa 20)),
 ae 7 (aJ (aE (bC true)))]
def Ku:aC:=
 [ae 6 (aJ (aE (i8 none 0 0))),
 ae 7 (aJ (aE (bC false)))]
def Ko:SC:=
 (.seq (.region Kp)
 (.seq (.block 0 (.seq (.region Kq)
 (.cond (aa 8) (.seq (.region Kr)
 .ret) (.seq (.seq (.region Ks)
 (.cond (aa 13) .skip (.region Kt)))
 (.cond (aa 13) (.seq (.region D9)
 .ret) .skip)))))
 (.seq (.region Ku)
 .ret)))
theorem aew:Tryz.prog.funcs[116]? =some Tryz.f116:=by kernel_rfl
theorem aev:(Tryz.f116.body).map cL=some Ko:=by kernel_rfl
theorem aey:Tryz.f116.ntmps=21:=by kernel_rfl
theorem aex:Tryz.f116.results.toList=[dE 6,dE 7]:=by kernel_rfl
def aez:List Nat:=[0,0,2,6,14,0,32,0,128,384,896,1920,4064,8190,16383,32767,65535]
def Kw:aC:=
 [ae 4 (aJ (aE (i8 none 0 0)))]
def Kx:aC:=
 [ae 6 (ax (aa 0)),
 ae 7 (dV (aa 6)),
 ae 8 (bA 189 (aa 7) 0),
 ae 9 (aK 37 (aa 8)),
 ae 10 (ax (aa 1)),
 ae 11 (ax (aa 1)),
 ae 12 (Op.slice 37 (aa 9) none (some (aa 10)) (some (aa 11))),
 ae 5 (aJ (aa 12))]
def uC:aC:=
 [ae 13 (ax (aa 0)),
 ae 14 (ax (aa 0)),
 ae 15 (dV (aa 14)),
 ae 16 (bA 189 (aa 15) 0),
 ae 17 (aK 37 (aa 16)),
 ae 18 (ax (aa 1)),
 ae 19 (bf ei 3 (aa 18) (aE (bg bj 1)) 3),
 ae 20 (ax (aa 0)),
 ae 21 (dV (aa 20)),
 ae 22 (bA 189 (aa 21) 0),
 ae 23 (aK 37 (aa 22)),
 ae 24 (be ⟨cO dh,#[aa 23],#[37]⟩),
 ae 25 (be ⟨cO Builtin.min,#[aa 19,aa 24],#[3,3]⟩),
 ae 26 (Op.slice 37 (aa 17) (some (aa 25)) none none),
 ae 27 (dV (aa 13)),
 ae 28 (bA 189 (aa 27) 0),
 ⟨none,dN 37 (aa 28) (aa 26),.aw⟩]
def Ky:aC:=
 [ae 29 (ax (aa 5)),
 ae 4 (aJ (aa 29))]
def Kv:SC:=
 (.seq (.region Kw)
 (.seq (.region Kx)
 (.seq (.draw uC aez)
 (.seq (.region Ky)
 .ret))))
theorem aeB:Tryz.prog.funcs[117]? =some Tryz.f117:=by kernel_rfl
theorem aeA:(Tryz.f117.body).map cL=some Kv:=by kernel_rfl
theorem aeD:Tryz.f117.ntmps=30:=by kernel_rfl
theorem aeC:Tryz.f117.results.toList=[dE 4]:=by kernel_rfl
theorem abq:bL 117 24=0:=by kernel_rfl
theorem abr:bL 117 25=0:=by kernel_rfl
def L8:aC:=
 [ae 4 (aJ (aE (bC false)))]
def L9:aC:=
 [ae 5 (ax (aa 0)),
 ae 6 (ax (aa 1)),
 ae 7 (be ⟨bI (bM 238),#[aa 5,aa 6],#[286,288]⟩),
 ae 8 (bf lN 3 (aa 7) (aE (bg bj 0)) 3),
 ae 4 (aJ (aa 8))]
def L7:SC:=
 (.seq (.region L8)
 (.seq (.region L9)
 .ret))
theorem afy:Tryz.prog.funcs[181]? =some Tryz.f181:=by kernel_rfl
theorem afx:(Tryz.f181.body).map cL=some L7:=by kernel_rfl
theorem afA:Tryz.f181.ntmps=9:=by kernel_rfl
theorem afz:Tryz.f181.results.toList=[dE 4]:=by kernel_rfl
def Mb:aC:=
 [ae 2 (aJ (aE (bC false)))]
def Mc:aC:=
 [ae 3 (ax (aa 0)),
 ae 4 (be ⟨cO dh,#[aa 3],#[37]⟩),
 ae 5 (bf j1 3 (aa 4) (aE (bg bj 2000)) 3),
 ae 2 (aJ (aa 5))]
def Ma:SC:=
 (.seq (.region Mb)
 (.seq (.region Mc)
 .ret))
theorem afC:Tryz.prog.funcs[182]? =some Tryz.f182:=by kernel_rfl
theorem afB:(Tryz.f182.body).map cL=some Ma:=by kernel_rfl
theorem afE:Tryz.f182.ntmps=6:=by kernel_rfl
theorem afD:Tryz.f182.results.toList=[dE 2]:=by kernel_rfl
theorem abU:bL 182 4=0:=by kernel_rfl
def Me:aC:=
 [ae 6 (aJ (aE (mU none)))]
def Mf:aC:=
 [ae 7 (aK 289 (aa 2)),
 ae 8 (ax (aa 0)),
 ae 9 (aK 3 (aa 3)),
 ae 10 (bf BinOp.mul 3 (aa 8) (aa 9) 3),
 ae 11 (ax (aa 1)),
 ae 12 (bf ei 3 (aa 10) (aa 11) 3),
 ae 13 (dn 289 (aa 7) (aa 12)),
 ae 6 (aJ (aa 13))]
def Md:SC:=
 (.seq (.region Me)
 (.seq (.region Mf)
 .ret))
theorem afG:Tryz.prog.funcs[183]? =some Tryz.f183:=by kernel_rfl
theorem afF:(Tryz.f183.body).map cL=some Md:=by kernel_rfl
theorem afI:Tryz.f183.ntmps=14:=by kernel_rfl
theorem afH:Tryz.f183.results.toList=[dE 6]:=by kernel_rfl
def Nm:aC:=
 [ae 4 (aJ (aE (bg bj 0)))]
def Nn:aC:=
 [ae 6 (ax (aa 0)),
 ae 7 (be ⟨cO dh,#[aa 6],#[286]⟩),
 ae 8 (ax (aE (bg bj 0)))]
def En:aC:=
 [ae 9 (bf dS 3 (aa 8) (aa 7) 3)]
def Np:aC:=
 [ae 10 (ax (aa 8)),
 ae 5 (aJ (aa 10))]
def Nq:aC:=
 [ae 11 (ax (aa 1)),
 ae 12 (ax (aa 0)),
 ae 13 (ax (aa 5)),
 ae 14 (dn 286 (aa 12) (aa 13)),
 ae 15 (aK 37 (aa 14)),
 ae 16 (be ⟨bI (aa 11),#[aa 15],#[37]⟩)]
def Nr:aC:=
 [ae 17 (ax (aa 5)),
 ae 4 (aJ (aa 17))]
def Ns:aC:=
 [ae 18 (bf ei 3 (aa 8) (aE (bg bj 1)) 3),
 ae 8 (ax (aa 18))]
def zW:SC:=
 (.seq (.region En)
 (.seq (.cond (aa 9) .skip (.exit 0))
 (.seq (.block 1 (.seq (.region Np)
 (.seq (.region Nq)
 (.cond (aa 16) (.seq (.region Nr)
 .ret) .skip))))
 (.region Ns))))
def Nt:aC:=
 [ae 4 (aJ (aE (bg bj (-1))))]
def Nl:SC:=
 (.seq (.region Nm)
 (.seq (.seq (.region Nn)
 (.block 0 (.loop zW)))
 (.seq (.region Nt)
 .ret)))
theorem ago:Tryz.prog.funcs[238]? =some Tryz.f238:=by kernel_rfl
theorem agn:(Tryz.f238.body).map cL=some Nl:=by kernel_rfl
theorem agq:Tryz.f238.ntmps=19:=by kernel_rfl
theorem agp:Tryz.f238.results.toList=[dE 4]:=by kernel_rfl
theorem ab2:bL 238 7=0:=by kernel_rfl
def ajK:List Nat:=[0,0,2,7,0,0,32,15,255,511]
def RU:aC:=
 [ae 6 (aJ (aE (i8 none 0 0))),
 ae 7 (aJ (aE (i8 none 0 0)))]
def RV:aC:=
 [ae 20 (ax (aa 0)),
 ae 21 (ax (aa 1)),
 ae 22 (ax (aa 2)),
 ae 23 (j3 194 #[(0,aa 20),(1,aa 21),(2,aa 22)]),
 ae 8 (fu 194),
 ⟨none,dN 194 (aa 8) (aa 23),.aw⟩]
def R4:aC:=
 [ae 24 (Op.makeMap 195 none),
 ae 9 (aJ (aa 24))]
def R8:aC:=
 [ae 25 (aK 194 (aa 8)),
 ae 26 (ax (aE (bg bj 0)))]
def FD:aC:=
 [ae 27 (bf dS 3 (aa 26) (aE (bg bj 3)) 3)]
def Sa:aC:=
 [ae 28 (ax (aa 26)),
 ae 29 (Op.index 194 (aa 25) (aa 26)),
 ae 10 (aJ (aa 28)),
 ae 11 (aJ (aa 29))]
def Sb:aC:=
 [ae 30 (ax (aa 11)),
 ae 31 (be ⟨bI (bM 59),#[aa 30],#[38]⟩),
 ae 32 (fH UnOp.not 4 (aa 31))]
def ajN:aC:=
 [ae 6 (aJ (aE (i8 none 0 0))),
 ae 7 (aJ (aE (i8 none 0 0)))]
def Sc:aC:=
 [ae 33 (ax (aa 11)),
 ae 34 (be ⟨cO dh,#[aa 33],#[38]⟩),
 ae 35 (ax (aE (bg bj 0)))]
def FE:aC:=
 [ae 36 (bf dS 3 (aa 35) (aa 34) 3)]
def RX:aC:=
 [ae 37 (dn 38 (aa 33) (aa 35)),
 ae 38 (aK 51 (aa 37)),
 ae 13 (fu 51),
 ⟨none,dN 51 (aa 13) (aa 38),.aw⟩]
def RY:aC:=
 [ae 39 (ax (aa 9)),
 ae 40 (bA 51 (aa 13) 0),
 ae 41 (aK 9 (aa 40)),
 ae 42 (nJ 195 (aa 39) (aa 41) false),
 ae 43 (bf eI 196 (aa 42) (aE (mU none)) 196)]
def RZ:aC:=
 [ae 44 (ax (aa 9)),
 ae 45 (bA 51 (aa 13) 0),
 ae 46 (aK 9 (aa 45)),
 ae 47 (fu 197),
 ⟨none,uf 195 (aa 44) (aa 46) (aa 47),.aw⟩]
def qj:aC:=
 [ae 48 (ax (aa 9)),
 ae 49 (bA 51 (aa 13) 0),
 ae 50 (aK 9 (aa 49)),
 ae 51 (nJ 195 (aa 48) (aa 50) false),
 ae 52 (ax (aa 10)),
 ae 53 (bA 51 (aa 13) 1),
 ae 54 (aK 9 (aa 53)),
 ae 55 (dV (aa 51)),
 ae 56 (dn 197 (aa 55) (aa 52)),
 ⟨none,dN 9 (aa 56) (aa 54),.aw⟩]
def Fu:aC:=
 [ae 57 (bf ei 3 (aa 35) (aE (bg bj 1)) 3),
 ae 35 (ax (aa 57))]
def x7:SC:=
 (.seq (.region FE)
 (.seq (.cond (aa 36) .skip (.exit 2))
 (.seq (.block 3 (.seq (.region RX)
 (.seq (.seq (.region RY)
 (.cond (aa 43) (.region RZ) .skip))
 (.draw qj ajK))))
 (.region Fu))))
def R0:aC:=
 [ae 58 (bf ei 3 (aa 26) (aE (bg bj 1)) 3),
 ae 26 (ax (aa 58))]
def wq:SC:=
 (.seq (.region FD)
 (.seq (.cond (aa 27) .skip (.exit 0))
 (.seq (.block 1 (.seq (.region Sa)
 (.seq (.seq (.region Sb)
 (.cond (aa 32) (.seq (.region ajN)
 .ret) .skip))
 (.seq (.region Sc)
 (.block 2 (.loop x7))))))
 (.region R0))))
def R1:aC:=
 [ae 14 (aJ (aE (i8 none 0 0)))]
def R2:aC:=
 [ae 15 (aJ (aE (i8 none 0 0)))]
def R3:aC:=
 [ae 59 (ax (aa 9)),
 ae 60 (be ⟨bI (bM 120),#[aa 59],#[195]⟩),
 ae 61 (be ⟨bI (bM 25),#[aa 60],#[71]⟩),
 ae 62 (be ⟨cO dh,#[aa 61],#[37]⟩),
 ae 63 (ax (aE (bg bj 0)))]
def Az:aC:=
 [ae 64 (bf dS 3 (aa 63) (aa 62) 3)]
def R5:aC:=
 [ae 65 (dn 37 (aa 61) (aa 63)),
 ae 66 (aK 9 (aa 65)),
 ae 17 (aJ (aa 66))]
def R6:aC:=
 [ae 67 (ax (aa 9)),
 ae 68 (ax (aa 17)),
 ae 69 (nJ 195 (aa 67) (aa 68) false),
 ae 70 (dV (aa 69)),
 ae 71 (aK 197 (aa 70)),
 ae 18 (fu 197),
 ⟨none,dN 197 (aa 18) (aa 71),.aw⟩]
def R7:aC:=
 [ae 72 (dn 197 (aa 18) (aE (bg bj 0))),
 ae 73 (aK 9 (aa 72)),
 ae 19 (aJ (aa 73))]
def Fv:aC:=
 [ae 79 (aK 197 (aa 18)),
 ae 80 (dn 197 (aa 18) (aE (bg bj 0))),
 ae 81 (aK 9 (aa 80)),
 ae 82 (dn 197 (aa 18) (aE (bg bj 1))),
 ae 83 (aK 9 (aa 82)),
 ae 84 (dn 197 (aa 18) (aE (bg bj 1))),
 ae 85 (aK 9 (aa 84)),
 ae 86 (j3 197 #[(0,aa 81),(1,aa 83),(2,aa 85)]),
 ae 87 (bf eI 197 (aa 79) (aa 86) 197),
 ae 78 (aJ (aa 87))]
def Fw:aC:=
 [ae 88 (aK 197 (aa 18)),
 ae 89 (dn 197 (aa 18) (aE (bg bj 0))),
 ae 90 (aK 9 (aa 89)),
 ae 91 (dn 197 (aa 18) (aE (bg bj 1))),
 ae 92 (aK 9 (aa 91)),
 ae 93 (dn 197 (aa 18) (aE (bg bj 0))),
 ae 94 (aK 9 (aa 93)),
 ae 95 (j3 197 #[(0,aa 90),(1,aa 92),(2,aa 94)]),
 ae 96 (bf eI 197 (aa 88) (aa 95) 197),
 ae 78 (aJ (aa 96))]
def AB:aC:=
 [ae 97 (dn 197 (aa 18) (aE (bg bj 1))),
 ae 98 (aK 9 (aa 97)),
 ae 19 (aJ (aa 98))]
def AC:aC:=
 [ae 100 (aK 197 (aa 18)),
 ae 101 (dn 197 (aa 18) (aE (bg bj 0))),
 ae 102 (aK 9 (aa 101)),
 ae 103 (dn 197 (aa 18) (aE (bg bj 0))),
 ae 104 (aK 9 (aa 103)),
 ae 105 (dn 197 (aa 18) (aE (bg bj 2))),
 ae 106 (aK 9 (aa 105)),
 ae 107 (j3 197 #[(0,aa 102),(1,aa 104),(2,aa 106)]),
 ae 108 (bf eI 197 (aa 100) (aa 107) 197),
 ae 99 (aJ (aa 108))]
def AD:aC:=
 [ae 109 (dn 197 (aa 18) (aE (bg bj 2))),
 ae 110 (aK 9 (aa 109)),
 ae 19 (aJ (aa 110))]
def AA:aC:=
 [ae 74 (ax (aa 15)),
 ae 75 (ax (aa 17)),
 ae 76 (kG 37 1 #[(0,aa 75)]),
 ae 77 (be ⟨cO n9,#[aa 74,aa 76],#[37,37]⟩),
 ae 15 (aJ (aa 77))]
def Fx:aC:=
 [ae 112 (ax (aa 19)),
 ae 113 (bf eI 9 (aa 112) (aE (fX {data:= #[] })) 9),
 ae 111 (aJ (aa 113))]
def Fy:aC:=
 [ae 115 (ax (aa 14)),
 ae 116 (be ⟨cO dh,#[aa 115],#[38]⟩),
 ae 117 (bf dS 3 (aa 116) (aE (bg bj 60)) 3),
 ae 114 (aJ (aa 117))]
def Fz:aC:=
 [ae 118 (ax (aa 14)),
 ae 119 (ax (aa 17)),
 ae 120 (ax (aa 19)),
 ae 121 (j3 51 #[(0,aa 119),(1,aa 120)]),
 ae 122 (kG 38 1 #[(0,aa 121)]),
 ae 123 (be ⟨cO n9,#[aa 118,aa 122],#[38,38]⟩),
 ae 14 (aJ (aa 123))]
def FA:aC:=
 [ae 125 (ax (aa 15)),
 ae 126 (ax (aa 17)),
 ae 127 (be ⟨bI (bM 121),#[aa 125,aa 126],#[37,9]⟩),
 ae 128 (fH UnOp.not 4 (aa 127)),
 ae 124 (aJ (aa 128))]
def FB:aC:=
 [ae 129 (ax (aa 15)),
 ae 130 (ax (aa 17)),
 ae 131 (kG 37 1 #[(0,aa 130)]),
 ae 132 (be ⟨cO n9,#[aa 129,aa 131],#[37,37]⟩),
 ae 15 (aJ (aa 132))]
def R9:aC:=
 [ae 133 (bf ei 3 (aa 63) (aE (bg bj 1)) 3),
 ae 63 (ax (aa 133))]
def x8:SC:=
 (.seq (.region Az)
 (.seq (.cond (aa 64) .skip (.exit 4))
 (.seq (.block 5 (.seq (.region R5)
 (.seq (.region R6)
 (.seq (.region R7)
 (.seq (.block 6 (.seq (.seq (.region Fv)
 (.cond (aa 78) .skip (.region Fw)))
 (.cond (aa 78) (.region AB) (.seq (.region AC)
 (.cond (aa 99) (.region AD) (.region AA))))))
 (.block 7 (.seq (.region Fx)
 (.cond (aa 111) .skip (.seq (.region Fy)
 (.cond (aa 114) (.region Fz) (.seq (.region FA)
 (.cond (aa 124) (.region FB) .skip))))))))))))
 (.region R9))))
def FC:aC:=
 [ae 134 (ax (aa 14)),
 ae 135 (ax (aa 15)),
 ae 6 (aJ (aa 134)),
 ae 7 (aJ (aa 135))]
def RR:SC:=
 (.seq (.region RU)
 (.seq (.region RV)
 (.seq (.region R4)
 (.seq (.seq (.region R8)
 (.block 0 (.loop wq)))
 (.seq (.region R1)
 (.seq (.region R2)
 (.seq (.seq (.region R3)
 (.block 4 (.loop x8)))
 (.seq (.region FC)
 .ret))))))))
theorem ajM:Tryz.prog.funcs[76]? =some Tryz.f76:=by kernel_rfl
theorem ajL:(Tryz.f76.body).map cL=some RR:=by kernel_rfl
theorem ajP:Tryz.f76.ntmps=136:=by kernel_rfl
theorem ajO:Tryz.f76.results.toList=[dE 6,dE 7]:=by kernel_rfl
theorem adh:bL 76 8=1:=by kernel_rfl
theorem ac8:bL 76 13=1:=by kernel_rfl
theorem adb:bL 76 18=1:=by kernel_rfl
theorem adc:bL 76 34=0:=by kernel_rfl
theorem ade:bL 76 47=0:=by kernel_rfl
theorem JL:bL 76 62=0:=by kernel_rfl
theorem adf:bL 76 76=0:=by kernel_rfl
theorem adg:bL 76 77=0:=by kernel_rfl
theorem ac5:bL 76 116=0:=by kernel_rfl
theorem ac6:bL 76 122=0:=by kernel_rfl
theorem ac7:bL 76 123=0:=by kernel_rfl
theorem ac9:bL 76 131=0:=by kernel_rfl
theorem ada:bL 76 132=0:=by kernel_rfl
def PE:List Nat:=[0,1,3,7,0,16,48,112,0,256,768,1792,4095,8191,16383,16383,32767,131071]
def PF:List Nat:=[0,0,2,6,14,0,32,96,224,0,512,1536,3584,0,8192,24576,57344,131071,262143,524287]
def ah0:List Nat:=[0,1,3,7,0,16,48,112,0,256,768,1792,4095,8191,16383,16383,32767,131071]
def PG:aC:=
 [ae 8 (aJ (aE (mU none)))]
def PH:aC:=
 [ae 16 (ax (aa 1)),
 ae 17 (dV (aa 16)),
 ae 18 (aK 40 (aa 17)),
 ae 9 (fu 40),
 ⟨none,dN 40 (aa 9) (aa 18),.aw⟩]
def EM:aC:=
 [ae 20 (ax (aa 1)),
 ae 21 (dV (aa 20)),
 ae 22 (bA 40 (aa 21) 3),
 ae 23 (aK 37 (aa 22)),
 ae 24 (ax (aa 2)),
 ae 25 (dV (aa 24)),
 ae 26 (bA 40 (aa 25) 3),
 ae 27 (aK 37 (aa 26)),
 ae 28 (ax (aa 3)),
 ae 29 (dV (aa 28)),
 ae 30 (bA 40 (aa 29) 3),
 ae 31 (aK 37 (aa 30)),
 ae 32 (be ⟨bI (bM 74),#[aa 23,aa 27,aa 31],#[37,37,37]⟩),
 ae 19 (ax (aa 32)),
 ae 33 (fg (aa 19) 0),
 ae 34 (fg (aa 19) 1),
 ae 10 (aJ (aa 33)),
 ae 11 (aJ (aa 34))]
def Ad:aC:=
 [ae 35 (ax (aa 10)),
 ae 36 (bA 40 (aa 9) 3),
 ⟨none,dN 37 (aa 36) (aa 35),.aw⟩]
def Ae:aC:=
 [ae 37 (ax (aa 11)),
 ae 38 (fH UnOp.not 4 (aa 37)),
 ae 39 (ax (aa 38)),
 aI 40 (aK 40 (aa 9)) 39 false,
 aI 41 (be ⟨bI (bM 36),#[aa 40],#[40]⟩) 39 false,
 aI 42 (fH UnOp.not 4 (aa 41)) 39 false,
 ae 43 (cS (aa 39) (aE (bC true)) (aa 42))]
def Af:aC:=
 [ae 44 (ax (aa 0)),
 ae 45 (ax (aa 1)),
 ae 46 (dV (aa 45)),
 ae 47 (bA 40 (aa 46) 0),
 ae 48 (aK 9 (aa 47)),
 ae 49 (be {callee:=bI (bM 45),args:= #[aa 44,aa 48,aE (fX {data:= #[114,101,102,115] })],argTypes:= #[60,9,9] })]
def Ah:aC:=
 [ae 50 (ax (aa 1)),
 ae 51 (dV (aa 50)),
 ae 52 (bA 40 (aa 51) 3),
 ae 53 (aK 37 (aa 52)),
 ae 54 (bA 40 (aa 9) 3),
 ⟨none,dN 37 (aa 54) (aa 53),.aw⟩]
def wo:aC:=
 [ae 55 (ax (aa 0)),
 ae 56 (ax (aa 1)),
 ae 57 (dV (aa 56)),
 ae 58 (bA 40 (aa 57) 0),
 ae 59 (aK 9 (aa 58)),
 ae 60 (ax (aa 1)),
 ae 61 (dV (aa 60)),
 ae 62 (bA 40 (aa 61) 2),
 ae 63 (aK 36 (aa 62)),
 ae 64 (ax (aa 2)),
 ae 65 (dV (aa 64)),
 ae 66 (bA 40 (aa 65) 2),
 ae 67 (aK 36 (aa 66)),
 ae 68 (ax (aa 3)),
 ae 69 (dV (aa 68)),
 ae 70 (bA 40 (aa 69) 2),
 ae 71 (aK 36 (aa 70)),
 ae 72 (be ⟨bI (bM 75),#[aa 55,aa 59,aa 63,aa 67,aa 71],#[60,9,36,36,36]⟩),
 ae 73 (bA 40 (aa 9) 2),
 ⟨none,dN 36 (aa 73) (aa 72),.aw⟩]
def PO:aC:=
 [ae 75 (ax (aa 1)),
 ae 76 (dV (aa 75)),
 ae 77 (bA 40 (aa 76) 4),
 ae 78 (aK 38 (aa 77)),
 ae 79 (ax (aa 2)),
 ae 80 (dV (aa 79)),
 ae 81 (bA 40 (aa 80) 4),
 ae 82 (aK 38 (aa 81)),
 ae 83 (ax (aa 3)),
 ae 84 (dV (aa 83)),
 ae 85 (bA 40 (aa 84) 4),
 ae 86 (aK 38 (aa 85)),
 ae 87 (be ⟨bI (bM 76),#[aa 78,aa 82,aa 86],#[38,38,38]⟩),
 ae 74 (ax (aa 87)),
 ae 88 (fg (aa 74) 0),
 ae 89 (fg (aa 74) 1),
 ae 12 (aJ (aa 88)),
 ae 13 (aJ (aa 89))]
def PP:aC:=
 [ae 90 (ax (aa 12)),
 ae 91 (bA 40 (aa 9) 4),
 ⟨none,dN 38 (aa 91) (aa 90),.aw⟩]
def PJ:aC:=
 [ae 92 (ax (aa 13)),
 ae 93 (be ⟨cO dh,#[aa 92],#[37]⟩),
 ae 94 (ax (aE (bg bj 0)))]
def EL:aC:=
 [ae 95 (bf dS 3 (aa 94) (aa 93) 3)]
def PK:aC:=
 [ae 96 (dn 37 (aa 92) (aa 94)),
 ae 97 (aK 9 (aa 96)),
 ae 15 (aJ (aa 97))]
def PL:aC:=
 [ae 98 (ax (aa 0)),
 ae 99 (ax (aa 1)),
 ae 100 (dV (aa 99)),
 ae 101 (bA 40 (aa 100) 0),
 ae 102 (aK 9 (aa 101)),
 ae 103 (ax (aa 15)),
 ae 104 (bf ei 9 (aE (fX {data:= #[116,97,103,32] })) (aa 103) 9),
 ae 105 (be ⟨bI (bM 45),#[aa 98,aa 102,aa 104],#[60,9,9]⟩)]
def PM:aC:=
 [ae 106 (bf ei 3 (aa 94) (aE (bg bj 1)) 3),
 ae 94 (ax (aa 106))]
def Ac:SC:=
 (.seq (.region EL)
 (.seq (.cond (aa 95) .skip (.exit 0))
 (.seq (.block 1 (.seq (.region PK)
 (.region PL)))
 (.region PM))))
def PN:aC:=
 [ae 8 (aJ (aa 9))]
def PD:SC:=
 (.seq (.region PG)
 (.seq (.region PH)
 (.seq (.draw EM PE)
 (.seq (.region Ad)
 (.seq (.seq (.region Ae)
 (.cond (aa 43) (.seq (.region Af)
 (.region Ah)) .skip))
 (.seq (.draw wo PF)
 (.seq (.draw PO ah0)
 (.seq (.region PP)
 (.seq (.seq (.region PJ)
 (.block 0 (.loop Ac)))
 (.seq (.region PN)
 .ret))))))))))
theorem ah2:Tryz.prog.funcs[44]? =some Tryz.f44:=by kernel_rfl
theorem ah1:(Tryz.f44.body).map cL=some PD:=by kernel_rfl
theorem ah4:Tryz.f44.ntmps=107:=by kernel_rfl
theorem ah3:Tryz.f44.results.toList=[dE 8]:=by kernel_rfl
theorem act:bL 44 9=0:=by kernel_rfl
theorem acu:bL 44 93=0:=by kernel_rfl
def ahD:List Nat:=[0,0,2,7,15,31,0,0,192,448,960,2047,4095,8191,8191,24575,65535,131071,262143,8191,8191,1581055,3678207,7872511,16777215,33554431,67108863,67108863,201326591,536870911,1073741823,2147483647,67108863,67108863,12952010751,30131879935,64491618303,137438953471,274877906943,549755813887]
def ahF:aC:=
 [ae 3 (ew 24 (aa 0)),
 ae 4 (ew 24 (aa 1)),
 ae 5 (ew 24 (aa 2)),
 ae 6 (aJ (aE (bC false)))]
def ahG:aC:=
 [ae 13 (be ⟨bI (bM 7),#[],#[]⟩),
 ae 7 (aJ (aa 13))]
def ahJ:aC:=
 [ae 14 (aK 24 (aa 3)),
 ae 15 (aK 24 (aa 4)),
 ae 16 (aK 24 (aa 5)),
 ae 17 (be ⟨bI (bM 8),#[aa 14,aa 15,aa 16],#[24,24,24]⟩),
 ae 18 (fH UnOp.not 4 (aa 17))]
def ahK:aC:=
 [ae 19 (ax (aa 7)),
 ae 6 (aJ (aa 19))]
def ahL:aC:=
 [ae 21 (aK 24 (aa 3)),
 ae 22 (aK 24 (aa 4)),
 ae 23 (aK 24 (aa 5)),
 ae 24 (be ⟨bI (bM 9),#[aa 21,aa 22,aa 23],#[24,24,24]⟩),
 ae 20 (ax (aa 24)),
 ae 25 (fg (aa 20) 0),
 ae 26 (fg (aa 20) 1),
 ae 8 (fu 24),
 ⟨none,dN 24 (aa 8) (aa 25),.aw⟩,
 ae 9 (aJ (aa 26))]
def ahM:aC:=
 [ae 28 (aK 24 (aa 3)),
 ae 29 (aK 24 (aa 5)),
 ae 30 (aK 24 (aa 4)),
 ae 31 (be ⟨bI (bM 9),#[aa 28,aa 29,aa 30],#[24,24,24]⟩),
 ae 27 (ax (aa 31)),
 ae 32 (fg (aa 27) 0),
 ae 33 (fg (aa 27) 1),
 ae 10 (fu 24),
 ⟨none,dN 24 (aa 10) (aa 32),.aw⟩,
 ae 11 (aJ (aa 33))]
def ahN:aC:=
 [ae 12 (aJ (aE (bg bj 1)))]
def ahO:aC:=
 [ae 34 (ax (aa 12)),
 ae 35 (ax (aa 9)),
 ae 36 (be ⟨cO dh,#[aa 35],#[27]⟩),
 ae 37 (bf dS 3 (aa 34) (aa 36) 3)]
def ahQ:aC:=
 [ae 40 (ax (aa 9)),
 ae 41 (ax (aa 12)),
 ae 42 (bf mT 3 (aa 41) (aE (bg bj 1)) 3),
 ae 43 (dn 27 (aa 40) (aa 42)),
 ae 44 (bA 31 (aa 43) 0),
 ae 45 (aK 9 (aa 44)),
 ae 46 (ax (aa 9)),
 ae 47 (ax (aa 12)),
 ae 48 (dn 27 (aa 46) (aa 47)),
 ae 49 (bA 31 (aa 48) 0),
 ae 50 (aK 9 (aa 49)),
 ae 51 (bf j1 9 (aa 45) (aa 50) 9),
 ae 52 (ax (aa 51)),
 aI 53 (ax (aa 9)) 52 false,
 aI 54 (ax (aa 12)) 52 false,
 aI 55 (bf mT 3 (aa 54) (aE (bg bj 1)) 3) 52 false,
 aI 56 (dn 27 (aa 53) (aa 55)) 52 false,
 aI 57 (bA 31 (aa 56) 0) 52 false,
 aI 58 (aK 9 (aa 57)) 52 false,
 aI 59 (ax (aa 9)) 52 false,
 aI 60 (ax (aa 12)) 52 false,
 aI 61 (dn 27 (aa 59) (aa 60)) 52 false,
 aI 62 (bA 31 (aa 61) 0) 52 false,
 aI 63 (aK 9 (aa 62)) 52 false,
 aI 64 (bf eI 9 (aa 58) (aa 63) 9) 52 false,
 aI 65 (ax (aa 64)) 52 false,
 aI 66 (ax (aa 9)) 65 true,
 aI 67 (ax (aa 12)) 65 true,
 aI 68 (bf mT 3 (aa 67) (aE (bg bj 1)) 3) 65 true,
 aI 69 (dn 27 (aa 66) (aa 68)) 65 true,
 aI 70 (bA 31 (aa 69) 1) 65 true,
 aI 71 (aK 9 (aa 70)) 65 true,
 aI 72 (ax (aa 9)) 65 true,
 aI 73 (ax (aa 12)) 65 true,
 aI 74 (dn 27 (aa 72) (aa 73)) 65 true,
 aI 75 (bA 31 (aa 74) 1) 65 true,
 aI 76 (aK 9 (aa 75)) 65 true,
 aI 77 (bf lN 9 (aa 71) (aa 76) 9) 65 true,
 aI 78 (cS (aa 65) (aa 77) (aE (bC false))) 52 false,
 ae 79 (cS (aa 52) (aE (bC true)) (aa 78))]
def ahH:aC:=
 [ae 6 (aJ (aE (bC false)))]
def ahP:aC:=
 [ae 38 (ax (aa 12)),
 ae 39 (bf ei 3 (aa 38) (aE (bg bj 1)) 3),
 ae 12 (aJ (aa 39))]
def ahE:SC:=
 (.seq (.seq (.region ahO)
 (.cond (aa 37) .skip (.exit 0)))
 (.seq (.block 1 (.seq (.draw ahQ ahD)
 (.cond (aa 79) (.seq (.region ahH)
 .ret) .skip)))
 (.region ahP)))
def ahI:aC:=
 [ae 80 (ax (aa 7)),
 ae 81 (ax (aa 80)),
 aI 82 (aK 24 (aa 8)) 81 true,
 aI 83 (aK 24 (aa 10)) 81 true,
 aI 84 (be ⟨bI (bM 10),#[aa 82,aa 83],#[24,24]⟩) 81 true,
 ae 85 (cS (aa 81) (aa 84) (aE (bC false))),
 ae 86 (ax (aa 85)),
 aI 87 (ax (aa 9)) 86 true,
 aI 88 (ax (aa 11)) 86 true,
 aI 89 (be ⟨bI (bM 11),#[aa 87,aa 88],#[27,27]⟩) 86 true,
 ae 90 (cS (aa 86) (aa 89) (aE (bC false))),
 ae 6 (aJ (aa 90))]
def k3:SC:=
 (.seq (.region ahF)
 (.seq (.region ahG)
 (.seq (.seq (.region ahJ)
 (.cond (aa 18) (.seq (.region ahK)
 .ret) .skip))
 (.seq (.region ahL)
 (.seq (.region ahM)
 (.seq (.seq (.region ahN)
 (.block 0 (.loop ahE)))
 (.seq (.region ahI)
 .ret)))))))
def ai4:aC:=
 [ae 4 (ew 24 (aa 0)),
 ae 5 (ew 24 (aa 1)),
 ae 6 (ew 24 (aa 2)),
 ae 8 (aJ (aE (bC false)))]
def ai5:aC:=
 [ae 23 (be ⟨bI (bM 7),#[],#[]⟩),
 ae 9 (aJ (aa 23))]
def ajg:aC:=
 [ae 24 (aK 24 (aa 4)),
 ae 25 (aK 24 (aa 5)),
 ae 26 (aK 24 (aa 6)),
 ae 27 (be ⟨bI (bM 8),#[aa 24,aa 25,aa 26],#[24,24,24]⟩),
 ae 28 (fH UnOp.not 4 (aa 27)),
 ae 29 (ax (aa 28)),
 aI 30 (aK 24 (aa 4)) 29 false,
 aI 31 (be ⟨bI (bM 13),#[aa 30],#[24]⟩) 29 false,
 aI 32 (fH UnOp.not 4 (aa 31)) 29 false,
 ae 33 (cS (aa 29) (aE (bC true)) (aa 32)),
 ae 34 (ax (aa 33)),
 aI 35 (aK 24 (aa 5)) 34 false,
 aI 36 (be ⟨bI (bM 13),#[aa 35],#[24]⟩) 34 false,
 aI 37 (fH UnOp.not 4 (aa 36)) 34 false,
 ae 38 (cS (aa 34) (aE (bC true)) (aa 37)),
 ae 39 (ax (aa 38)),
 aI 40 (aK 24 (aa 6)) 39 false,
 aI 41 (be ⟨bI (bM 13),#[aa 40],#[24]⟩) 39 false,
 aI 42 (fH UnOp.not 4 (aa 41)) 39 false,
 ae 43 (cS (aa 39) (aE (bC true)) (aa 42)),
 ae 44 (ax (aa 43)),
 aI 45 (ax (aa 3)) 44 false,
 aI 46 (be ⟨cO dh,#[aa 45],#[9]⟩) 44 false,
 aI 47 (bf j1 3 (aa 46) (aE (bg bj 60)) 3) 44 false,
 ae 48 (cS (aa 44) (aE (bC true)) (aa 47))]
def ajh:aC:=
 [ae 49 (ax (aa 9)),
 ae 8 (aJ (aa 49))]
def aji:aC:=
 [ae 51 (aK 24 (aa 4)),
 ae 52 (aK 24 (aa 5)),
 ae 53 (aK 24 (aa 6)),
 ae 54 (be ⟨bI (bM 9),#[aa 51,aa 52,aa 53],#[24,24,24]⟩),
 ae 50 (ax (aa 54)),
 ae 55 (fg (aa 50) 0),
 ae 56 (fg (aa 50) 1),
 ae 10 (fu 24),
 ⟨none,dN 24 (aa 10) (aa 55),.aw⟩,
 ae 11 (aJ (aa 56))]
def ajj:aC:=
 [ae 58 (aK 24 (aa 10)),
 ae 59 (ax (aa 3)),
 ae 60 (be ⟨bI (bM 14),#[aa 58,aa 59],#[24,9]⟩),
 ae 57 (ax (aa 60)),
 ae 61 (fg (aa 57) 0),
 ae 62 (fg (aa 57) 1),
 ae 12 (fu 40),
 ⟨none,dN 40 (aa 12) (aa 61),.aw⟩,
 ae 13 (aJ (aa 62))]
def ajk:aC:=
 [ae 64 (aK 24 (aa 4)),
 ae 65 (ax (aa 3)),
 ae 66 (be ⟨bI (bM 14),#[aa 64,aa 65],#[24,9]⟩),
 ae 63 (ax (aa 66)),
 ae 67 (fg (aa 63) 0),
 ae 68 (fg (aa 63) 1),
 ae 14 (fu 40),
 ⟨none,dN 40 (aa 14) (aa 67),.aw⟩,
 ae 15 (aJ (aa 68))]
def ajl:aC:=
 [ae 70 (aK 24 (aa 5)),
 ae 71 (ax (aa 3)),
 ae 72 (be ⟨bI (bM 14),#[aa 70,aa 71],#[24,9]⟩),
 ae 69 (ax (aa 72)),
 ae 73 (fg (aa 69) 0),
 ae 74 (fg (aa 69) 1),
 ae 16 (fu 40),
 ⟨none,dN 40 (aa 16) (aa 73),.aw⟩,
 ae 17 (aJ (aa 74))]
def ajm:aC:=
 [ae 76 (aK 24 (aa 6)),
 ae 77 (ax (aa 3)),
 ae 78 (be ⟨bI (bM 14),#[aa 76,aa 77],#[24,9]⟩),
 ae 75 (ax (aa 78)),
 ae 79 (fg (aa 75) 0),
 ae 80 (fg (aa 75) 1),
 ae 18 (fu 40),
 ⟨none,dN 40 (aa 18) (aa 79),.aw⟩,
 ae 19 (aJ (aa 80))]
def ajn:aC:=
 [ae 81 (ax (aa 13)),
 ae 82 (ax (aa 81)),
 aI 83 (ax (aa 15)) 82 true,
 aI 84 (fH UnOp.not 4 (aa 83)) 82 true,
 ae 85 (cS (aa 82) (aa 84) (aE (bC false))),
 ae 86 (ax (aa 85)),
 aI 87 (ax (aa 17)) 86 true,
 aI 88 (fH UnOp.not 4 (aa 87)) 86 true,
 ae 89 (cS (aa 86) (aa 88) (aE (bC false))),
 ae 90 (ax (aa 89)),
 aI 91 (ax (aa 19)) 90 true,
 aI 92 (fH UnOp.not 4 (aa 91)) 90 true,
 ae 93 (cS (aa 90) (aa 92) (aE (bC false)))]
def ai6:aC:=
 [ae 8 (aJ (aE (bC false)))]
def ai7:aC:=
 [ae 94 (aK 24 (aa 5)),
 ae 20 (fu 24),
 ⟨none,dN 24 (aa 20) (aa 94),.aw⟩]
def ai8:aC:=
 [ae 95 (aK 24 (aa 5)),
 ae 96 (aK 24 (aa 4)),
 ae 97 (ax (aa 3)),
 ae 98 (be ⟨bI (bM 15),#[aa 95,aa 96,aa 97],#[24,24,9]⟩)]
def ai9:aC:=
 [ae 99 (aK 24 (aa 6)),
 ⟨none,dN 24 (aa 20) (aa 99),.aw⟩]
def aja:aC:=
 [ae 100 (aK 24 (aa 5)),
 ae 101 (aK 24 (aa 4)),
 ae 102 (ax (aa 3)),
 ae 103 (be ⟨bI (bM 15),#[aa 100,aa 101,aa 102],#[24,24,9]⟩),
 ae 104 (fH UnOp.not 4 (aa 103)),
 ae 105 (ax (aa 104)),
 aI 106 (aK 24 (aa 6)) 105 true,
 aI 107 (aK 24 (aa 4)) 105 true,
 aI 108 (ax (aa 3)) 105 true,
 aI 109 (be ⟨bI (bM 15),#[aa 106,aa 107,aa 108],#[24,24,9]⟩) 105 true,
 aI 110 (fH UnOp.not 4 (aa 109)) 105 true,
 ae 111 (cS (aa 105) (aa 110) (aE (bC false))),
 ae 112 (ax (aa 111)),
 aI 113 (aK 24 (aa 5)) 112 true,
 aI 114 (aK 24 (aa 6)) 112 true,
 aI 115 (ax (aa 3)) 112 true,
 aI 116 (be ⟨bI (bM 15),#[aa 113,aa 114,aa 115],#[24,24,9]⟩) 112 true,
 aI 117 (fH UnOp.not 4 (aa 116)) 112 true,
 ae 118 (cS (aa 112) (aa 117) (aE (bC false)))]
def ajb:aC:=
 [ae 119 (ax (aa 9)),
 ae 120 (ax (aa 119)),
 aI 121 (ax (aa 13)) 120 true,
 ae 122 (cS (aa 120) (aa 121) (aE (bC false))),
 ae 8 (aJ (aa 122))]
def ajc:aC:=
 [ae 124 (aK 24 (aa 20)),
 ae 125 (ax (aa 3)),
 ae 126 (be ⟨bI (bM 14),#[aa 124,aa 125],#[24,9]⟩),
 ae 123 (ax (aa 126)),
 ae 127 (fg (aa 123) 0),
 ae 128 (fg (aa 123) 1),
 ae 21 (fu 40),
 ⟨none,dN 40 (aa 21) (aa 127),.aw⟩,
 ae 22 (aJ (aa 128))]
def ajd:aC:=
 [ae 129 (ax (aa 22)),
 ae 130 (ax (aa 129)),
 aI 131 (ax (aa 13)) 130 false,
 aI 132 (fH UnOp.not 4 (aa 131)) 130 false,
 ae 133 (cS (aa 130) (aE (bC true)) (aa 132))]
def aje:aC:=
 [ae 134 (ax (aa 9)),
 ae 135 (ax (aa 134)),
 aI 136 (ax (aa 13)) 135 true,
 aI 137 (ax (aa 22)) 135 true,
 aI 138 (bf eI 4 (aa 136) (aa 137) 4) 135 true,
 ae 139 (cS (aa 135) (aa 138) (aE (bC false))),
 ae 140 (ax (aa 139)),
 aI 141 (aK 40 (aa 12)) 140 true,
 aI 142 (aK 40 (aa 21)) 140 true,
 aI 143 (be ⟨bI (bM 16),#[aa 141,aa 142],#[40,40]⟩) 140 true,
 ae 144 (cS (aa 140) (aa 143) (aE (bC false))),
 ae 145 (ax (aa 144)),
 aI 146 (ax (aa 11)) 145 true,
 aI 147 (ax (aa 3)) 145 true,
 aI 148 (be {callee:=bI (bM 17),args:= #[aa 146,aa 147,aE (fX {data:= #[] })],argTypes:= #[27,9,9] }) 145 true,
 aI 149 (fH UnOp.not 4 (aa 148)) 145 true,
 ae 150 (cS (aa 145) (aa 149) (aE (bC false))),
 ae 8 (aJ (aa 150))]
def ajf:aC:=
 [ae 151 (ax (aa 9)),
 ae 152 (ax (aa 151)),
 aI 153 (ax (aa 11)) 152 true,
 aI 154 (ax (aa 3)) 152 true,
 aI 155 (be {callee:=bI (bM 17),args:= #[aa 153,aa 154,aE (fX {data:= #[111,98,106,101,99,116] })],argTypes:= #[27,9,9] }) 152 true,
 ae 156 (cS (aa 152) (aa 155) (aE (bC false))),
 ae 157 (ax (aa 156)),
 aI 158 (aK 24 (aa 10)) 157 true,
 aI 159 (aK 24 (aa 4)) 157 true,
 aI 160 (ax (aa 3)) 157 true,
 aI 161 (be ⟨bI (bM 15),#[aa 158,aa 159,aa 160],#[24,24,9]⟩) 157 true,
 aI 162 (ax (aa 161)) 157 true,
 aI 163 (aK 24 (aa 10)) 162 false,
 aI 164 (aK 24 (aa 5)) 162 false,
 aI 165 (ax (aa 3)) 162 false,
 aI 166 (be ⟨bI (bM 15),#[aa 163,aa 164,aa 165],#[24,24,9]⟩) 162 false,
 aI 167 (cS (aa 162) (aE (bC true)) (aa 166)) 157 true,
 aI 168 (ax (aa 167)) 157 true,
 aI 169 (aK 24 (aa 10)) 168 false,
 aI 170 (aK 24 (aa 6)) 168 false,
 aI 171 (ax (aa 3)) 168 false,
 aI 172 (be ⟨bI (bM 15),#[aa 169,aa 170,aa 171],#[24,24,9]⟩) 168 false,
 aI 173 (cS (aa 168) (aE (bC true)) (aa 172)) 157 true,
 ae 174 (cS (aa 157) (aa 173) (aE (bC false))),
 ae 8 (aJ (aa 174))]
def k5:SC:=
 (.seq (.region ai4)
 (.seq (.region ai5)
 (.seq (.seq (.region ajg)
 (.cond (aa 48) (.seq (.region ajh)
 .ret) .skip))
 (.seq (.region aji)
 (.seq (.region ajj)
 (.seq (.region ajk)
 (.seq (.region ajl)
 (.seq (.region ajm)
 (.seq (.seq (.region ajn)
 (.cond (aa 93) (.seq (.region ai6)
 .ret) .skip))
 (.seq (.region ai7)
 (.seq (.seq (.region ai8)
 (.cond (aa 98) (.region ai9) .skip))
 (.seq (.seq (.region aja)
 (.cond (aa 118) (.seq (.region ajb)
 .ret) .skip))
 (.seq (.region ajc)
 (.seq (.seq (.region ajd)
 (.cond (aa 133) (.seq (.region aje)
 .ret) .skip))
 (.seq (.region ajf)
 .ret)))))))))))))))
def ajA:List Nat:=[0,0,2,0,14,30,62,0,254,510,1023,2047]
def QY:aC:=
 [ae 3 (ew 24 (aa 0)),
 ae 4 (ew 24 (aa 1)),
 ae 5 (ew 24 (aa 2)),
 ae 6 (aJ (aE (bC false)))]
def QZ:aC:=
 [ae 19 (be ⟨bI (bM 7),#[],#[]⟩),
 ae 7 (aJ (aa 19))]
def Rb:aC:=
 [ae 20 (aK 24 (aa 3)),
 ae 21 (aK 24 (aa 4)),
 ae 22 (aK 24 (aa 5)),
 ae 23 (be ⟨bI (bM 8),#[aa 20,aa 21,aa 22],#[24,24,24]⟩),
 ae 24 (fH UnOp.not 4 (aa 23)),
 ae 25 (ax (aa 24)),
 aI 26 (aK 24 (aa 3)) 25 false,
 aI 27 (be ⟨bI (bM 12),#[aa 26],#[24]⟩) 25 false,
 aI 28 (fH UnOp.not 4 (aa 27)) 25 false,
 ae 29 (cS (aa 25) (aE (bC true)) (aa 28)),
 ae 30 (ax (aa 29)),
 aI 31 (aK 24 (aa 4)) 30 false,
 aI 32 (be ⟨bI (bM 12),#[aa 31],#[24]⟩) 30 false,
 aI 33 (fH UnOp.not 4 (aa 32)) 30 false,
 ae 34 (cS (aa 30) (aE (bC true)) (aa 33)),
 ae 35 (ax (aa 34)),
 aI 36 (aK 24 (aa 5)) 35 false,
 aI 37 (be ⟨bI (bM 12),#[aa 36],#[24]⟩) 35 false,
 aI 38 (fH UnOp.not 4 (aa 37)) 35 false,
 ae 39 (cS (aa 35) (aE (bC true)) (aa 38))]
def E7:aC:=
 [ae 40 (ax (aa 7)),
 ae 6 (aJ (aa 40))]
def Re:aC:=
 [ae 42 (aK 24 (aa 3)),
 ae 43 (aK 24 (aa 4)),
 ae 44 (aK 24 (aa 5)),
 ae 45 (be ⟨bI (bM 9),#[aa 42,aa 43,aa 44],#[24,24,24]⟩),
 ae 41 (ax (aa 45)),
 ae 46 (fg (aa 41) 0),
 ae 47 (fg (aa 41) 1),
 ae 8 (fu 24),
 ⟨none,dN 24 (aa 8) (aa 46),.aw⟩,
 ae 9 (aJ (aa 47))]
def Rf:aC:=
 [ae 10 (aJ (aE (bg bj 0)))]
def E8:aC:=
 [ae 48 (ax (aa 10)),
 ae 49 (bA 24 (aa 8) 0),
 ae 50 (aK 22 (aa 49)),
 ae 51 (be ⟨cO dh,#[aa 50],#[22]⟩),
 ae 52 (bf dS 3 (aa 48) (aa 51) 3)]
def Rg:aC:=
 [ae 11 (aJ (aE (bg bj 0)))]
def Fa:aC:=
 [ae 55 (ax (aa 11)),
 ae 56 (bA 24 (aa 8) 0),
 ae 57 (aK 22 (aa 56)),
 ae 58 (ax (aa 10)),
 ae 59 (dn 22 (aa 57) (aa 58)),
 ae 60 (bA 40 (aa 59) 3),
 ae 61 (aK 37 (aa 60)),
 ae 62 (be ⟨cO dh,#[aa 61],#[37]⟩),
 ae 63 (bf dS 3 (aa 55) (aa 62) 3)]
def Q5:aC:=
 [ae 66 (aK 24 (aa 8)),
 ae 67 (bA 24 (aa 8) 0),
 ae 68 (aK 22 (aa 67)),
 ae 69 (ax (aa 10)),
 ae 70 (dn 22 (aa 68) (aa 69)),
 ae 71 (bA 40 (aa 70) 3),
 ae 72 (aK 37 (aa 71)),
 ae 73 (ax (aa 11)),
 ae 74 (dn 37 (aa 72) (aa 73)),
 ae 75 (aK 9 (aa 74)),
 ae 76 (be ⟨bI (bM 18),#[aa 66,aa 75],#[24,9]⟩),
 ae 77 (bf dS 3 (aa 76) (aE (bg bj 0)) 3)]
def ajD:aC:=
 [ae 6 (aJ (aE (bC false)))]
def Q0:aC:=
 [ae 64 (ax (aa 11)),
 ae 65 (bf ei 3 (aa 64) (aE (bg bj 1)) 3),
 ae 11 (aJ (aa 65))]
def Aq:SC:=
 (.seq (.seq (.region Fa)
 (.cond (aa 63) .skip (.exit 2)))
 (.seq (.block 3 (.seq (.draw Q5 ajA)
 (.cond (aa 77) (.seq (.region ajD)
 .ret) .skip)))
 (.region Q0)))
def E9:aC:=
 [ae 53 (ax (aa 10)),
 ae 54 (bf ei 3 (aa 53) (aE (bg bj 1)) 3),
 ae 10 (aJ (aa 54))]
def Ar:SC:=
 (.seq (.seq (.region E8)
 (.cond (aa 52) .skip (.exit 0)))
 (.seq (.block 1 (.seq (.region Rg)
 (.block 2 (.loop Aq))))
 (.region E9)))
def Q6:aC:=
 [ae 12 (aJ (aE (bg bj 0)))]
def E5:aC:=
 [ae 78 (ax (aa 12)),
 ae 79 (ax (aa 9)),
 ae 80 (be ⟨cO dh,#[aa 79],#[27]⟩),
 ae 81 (bf dS 3 (aa 78) (aa 80) 3)]
def Q8:aC:=
 [ae 84 (ax (aa 9)),
 ae 85 (ax (aa 12)),
 ae 86 (dn 27 (aa 84) (aa 85)),
 ae 87 (bA 31 (aa 86) 0),
 ae 88 (aK 9 (aa 87)),
 ae 13 (aJ (aa 88))]
def Q9:aC:=
 [ae 90 (aK 24 (aa 4)),
 ae 91 (ax (aa 13)),
 ae 92 (be ⟨bI (bM 14),#[aa 90,aa 91],#[24,9]⟩),
 ae 89 (ax (aa 92)),
 ae 93 (fg (aa 89) 0),
 ae 94 (fg (aa 89) 1),
 ae 14 (fu 40),
 ⟨none,dN 40 (aa 14) (aa 93),.aw⟩,
 ae 15 (aJ (aa 94))]
def Ra:aC:=
 [ae 96 (aK 24 (aa 5)),
 ae 97 (ax (aa 13)),
 ae 98 (be ⟨bI (bM 14),#[aa 96,aa 97],#[24,9]⟩),
 ae 95 (ax (aa 98)),
 ae 99 (fg (aa 95) 0),
 ae 100 (fg (aa 95) 1),
 ae 16 (fu 40),
 ⟨none,dN 40 (aa 16) (aa 99),.aw⟩,
 ae 17 (aJ (aa 100))]
def E6:aC:=
 [ae 101 (aK 24 (aa 4)),
 ae 102 (aK 24 (aa 3)),
 ae 103 (ax (aa 13)),
 ae 104 (be ⟨bI (bM 15),#[aa 101,aa 102,aa 103],#[24,24,9]⟩),
 ae 105 (ax (aa 104)),
 aI 106 (aK 24 (aa 5)) 105 false,
 aI 107 (aK 24 (aa 3)) 105 false,
 aI 108 (ax (aa 13)) 105 false,
 aI 109 (be ⟨bI (bM 15),#[aa 106,aa 107,aa 108],#[24,24,9]⟩) 105 false,
 ae 110 (cS (aa 105) (aE (bC true)) (aa 109)),
 ae 111 (ax (aa 110)),
 aI 112 (aK 24 (aa 4)) 111 false,
 aI 113 (aK 24 (aa 5)) 111 false,
 aI 114 (ax (aa 13)) 111 false,
 aI 115 (be ⟨bI (bM 15),#[aa 112,aa 113,aa 114],#[24,24,9]⟩) 111 false,
 ae 116 (cS (aa 111) (aE (bC true)) (aa 115)),
 ae 18 (aJ (aa 116))]
def Av:aC:=
 [ae 117 (ax (aa 18)),
 ae 118 (ax (aa 117)),
 aI 119 (ax (aa 15)) 118 true,
 aI 120 (ax (aa 119)) 118 true,
 aI 121 (ax (aa 17)) 120 true,
 aI 122 (cS (aa 120) (aa 121) (aE (bC false))) 118 true,
 aI 123 (ax (aa 122)) 118 true,
 aI 124 (ax (aa 9)) 123 false,
 aI 125 (ax (aa 12)) 123 false,
 aI 126 (dn 27 (aa 124) (aa 125)) 123 false,
 aI 127 (bA 31 (aa 126) 1) 123 false,
 aI 128 (aK 9 (aa 127)) 123 false,
 aI 129 (bf jd 9 (aa 128) (aE (fX {data:= #[111,98,106,101,99,116] })) 9) 123 false,
 aI 130 (cS (aa 123) (aE (bC true)) (aa 129)) 118 true,
 ae 131 (cS (aa 118) (aa 130) (aE (bC false)))]
def Aw:aC:=
 [ae 6 (aJ (aE (bC false)))]
def Q7:aC:=
 [ae 82 (ax (aa 12)),
 ae 83 (bf ei 3 (aa 82) (aE (bg bj 1)) 3),
 ae 12 (aJ (aa 83))]
def Au:SC:=
 (.seq (.seq (.region E5)
 (.cond (aa 81) .skip (.exit 4)))
 (.seq (.block 5 (.seq (.region Q8)
 (.seq (.region Q9)
 (.seq (.region Ra)
 (.seq (.region E6)
 (.seq (.region Av)
 (.cond (aa 131) (.seq (.region Aw)
 .ret) .skip)))))))
 (.region Q7)))
def Rc:aC:=
 [ae 132 (ax (aa 7)),
 ae 133 (ax (aa 132)),
 aI 134 (aK 24 (aa 8)) 133 true,
 aI 135 (be ⟨bI (bM 13),#[aa 134],#[24]⟩) 133 true,
 ae 136 (cS (aa 133) (aa 135) (aE (bC false))),
 ae 6 (aJ (aa 136))]
def k6:SC:=
 (.seq (.region QY)
 (.seq (.region QZ)
 (.seq (.seq (.region Rb)
 (.cond (aa 39) (.seq (.region E7)
 .ret) .skip))
 (.seq (.region Re)
 (.seq (.seq (.region Rf)
 (.block 0 (.loop Ar)))
 (.seq (.seq (.region Q6)
 (.block 4 (.loop Au)))
 (.seq (.region Rc)
 .ret)))))))
theorem ajC:Tryz.prog.funcs[6]? =some Tryz.f6:=by kernel_rfl
theorem ajB:(Tryz.f6.body).map cL=some k6:=by kernel_rfl
theorem ajF:Tryz.f6.ntmps=137:=by kernel_rfl
theorem ajE:Tryz.f6.results.toList=[dE 6]:=by kernel_rfl
theorem acE:bL 6 3=1:=by kernel_rfl
theorem acF:bL 6 4=1:=by kernel_rfl
theorem acG:bL 6 5=1:=by kernel_rfl
theorem acH:bL 6 8=1:=by kernel_rfl
theorem acC:bL 6 14=1:=by kernel_rfl
theorem acD:bL 6 16=1:=by kernel_rfl
theorem JE:bL 6 51=0:=by kernel_rfl
theorem JF:bL 6 62=0:=by kernel_rfl
theorem JG:bL 6 80=0:=by kernel_rfl
def LQ:aC:=
 [ae 2 (ew 24 (aa 0)),
 ae 4 (fu 40),
 ae 5 (aJ (aE (bC false)))]
def LR:aC:=
 [ae 7 (aK 24 (aa 2)),
 ae 8 (ax (aa 1)),
 ae 9 (be ⟨bI (bM 18),#[aa 7,aa 8],#[24,9]⟩),
 ae 6 (aJ (aa 9))]
def LS:aC:=
 [ae 10 (ax (aa 6)),
 ae 11 (bf dS 3 (aa 10) (aE (bg bj 0)) 3),
 ae 12 (ax (aa 11)),
 aI 13 (ax (aa 6)) 12 false,
 aI 14 (bA 24 (aa 2) 0) 12 false,
 aI 15 (aK 22 (aa 14)) 12 false,
 aI 16 (be ⟨cO dh,#[aa 15],#[22]⟩) 12 false,
 aI 17 (bf lN 3 (aa 13) (aa 16) 3) 12 false,
 ae 18 (cS (aa 12) (aE (bC true)) (aa 17))]
def LU:aC:=
 [ae 19 (j3 40 #[]),
 ⟨none,dN 40 (aa 4) (aa 19),.aw⟩,
 ae 5 (aJ (aE (bC false)))]
def LW:aC:=
 [ae 20 (bA 24 (aa 2) 0),
 ae 21 (aK 22 (aa 20)),
 ae 22 (ax (aa 6)),
 ae 23 (dn 22 (aa 21) (aa 22)),
 ae 24 (aK 40 (aa 23)),
 ⟨none,dN 40 (aa 4) (aa 24),.aw⟩,
 ae 5 (aJ (aE (bC true)))]
def LP:SC:=
 (.seq (.region LQ)
 (.seq (.region LR)
 (.seq (.seq (.region LS)
 (.cond (aa 18) (.seq (.region LU)
 .ret) .skip))
 (.seq (.region LW)
 .ret))))
theorem afm:Tryz.prog.funcs[14]? =some Tryz.f14:=by kernel_rfl
theorem afl:(Tryz.f14.body).map cL=some LP:=by kernel_rfl
theorem afo:Tryz.f14.ntmps=25:=by kernel_rfl
theorem afn:Tryz.f14.results.toList=[ResultVar.cell 4 40,dE 5]:=by kernel_rfl
theorem abL:bL 14 2=1:=by kernel_rfl
theorem abM:bL 14 4=1:=by kernel_rfl
theorem abK:bL 14 16=0:=by kernel_rfl
def LY:aC:=
 [ae 3 (ew 24 (aa 0)),
 ae 4 (ew 24 (aa 1)),
 ae 6 (aJ (aE (bC false)))]
def LZ:aC:=
 [ae 12 (aK 24 (aa 3)),
 ae 13 (ax (aa 2)),
 ae 14 (be ⟨bI (bM 14),#[aa 12,aa 13],#[24,9]⟩),
 ae 11 (ax (aa 14)),
 ae 15 (fg (aa 11) 0),
 ae 16 (fg (aa 11) 1),
 ae 7 (fu 40),
 ⟨none,dN 40 (aa 7) (aa 15),.aw⟩,
 ae 8 (aJ (aa 16))]
def L0:aC:=
 [ae 18 (aK 24 (aa 4)),
 ae 19 (ax (aa 2)),
 ae 20 (be ⟨bI (bM 14),#[aa 18,aa 19],#[24,9]⟩),
 ae 17 (ax (aa 20)),
 ae 21 (fg (aa 17) 0),
 ae 22 (fg (aa 17) 1),
 ae 9 (fu 40),
 ⟨none,dN 40 (aa 9) (aa 21),.aw⟩,
 ae 10 (aJ (aa 22))]
def L1:aC:=
 [ae 23 (ax (aa 8)),
 ae 24 (ax (aa 10)),
 ae 25 (bf eI 4 (aa 23) (aa 24) 4),
 ae 26 (ax (aa 25)),
 aI 27 (aK 40 (aa 7)) 26 true,
 aI 28 (aK 40 (aa 9)) 26 true,
 aI 29 (be ⟨bI (bM 16),#[aa 27,aa 28],#[40,40]⟩) 26 true,
 ae 30 (cS (aa 26) (aa 29) (aE (bC false))),
 ae 6 (aJ (aa 30))]
def LX:SC:=
 (.seq (.region LY)
 (.seq (.region LZ)
 (.seq (.region L0)
 (.seq (.region L1)
 .ret))))
theorem afq:Tryz.prog.funcs[15]? =some Tryz.f15:=by kernel_rfl
theorem afp:(Tryz.f15.body).map cL=some LX:=by kernel_rfl
theorem afs:Tryz.f15.ntmps=31:=by kernel_rfl
theorem afr:Tryz.f15.results.toList=[dE 6]:=by kernel_rfl
theorem abN:bL 15 3=1:=by kernel_rfl
theorem abO:bL 15 4=1:=by kernel_rfl
theorem abP:bL 15 7=1:=by kernel_rfl
theorem abQ:bL 15 9=1:=by kernel_rfl
def MT:aC:=
 [ae 2 (ew 24 (aa 0)),
 ae 3 (ew 9 (aa 1)),
 ae 4 (aJ (aE (bg bj 0)))]
def MU:aC:=
 [ae 5 (bA 24 (aa 2) 0),
 ae 6 (aK 22 (aa 5)),
 ae 7 (Op.makeFunc (Fn.func 40) #[] #[aa 3]),
 ae 8 (be ⟨bI (bM 39),#[aa 6,aa 7],#[22,83]⟩),
 ae 4 (aJ (aa 8))]
def L5:SC:=
 (.seq (.region MT)
 (.seq (.region MU)
 .ret))
theorem aga:Tryz.prog.funcs[18]? =some Tryz.f18:=by kernel_rfl
theorem af9:(Tryz.f18.body).map cL=some L5:=by kernel_rfl
theorem agc:Tryz.f18.ntmps=9:=by kernel_rfl
theorem agb:Tryz.f18.results.toList=[dE 4]:=by kernel_rfl
theorem abY:bL 18 2=1:=by kernel_rfl
theorem abZ:bL 18 3=0:=by kernel_rfl
def Pp:aC:=
 [ae 4 (aJ (aE (bg bj 0)))]
def Pq:aC:=
 [ae 6 (ax (aa 0)),
 ae 7 (be ⟨cO dh,#[aa 6],#[22]⟩),
 ae 8 (ax (aE (bg bj 0)))]
def EK:aC:=
 [ae 9 (bf dS 3 (aa 8) (aa 7) 3)]
def Pr:aC:=
 [ae 10 (ax (aa 8)),
 ae 5 (aJ (aa 10))]
def Ps:aC:=
 [ae 11 (ax (aa 1)),
 ae 12 (ax (aa 0)),
 ae 13 (ax (aa 5)),
 ae 14 (dn 22 (aa 12) (aa 13)),
 ae 15 (aK 40 (aa 14)),
 ae 16 (be ⟨bI (aa 11),#[aa 15],#[40]⟩)]
def Pt:aC:=
 [ae 17 (ax (aa 5)),
 ae 4 (aJ (aa 17))]
def Pu:aC:=
 [ae 18 (bf ei 3 (aa 8) (aE (bg bj 1)) 3),
 ae 8 (ax (aa 18))]
def Aa:SC:=
 (.seq (.region EK)
 (.seq (.cond (aa 9) .skip (.exit 0))
 (.seq (.block 1 (.seq (.region Pr)
 (.seq (.region Ps)
 (.cond (aa 16) (.seq (.region Pt)
 .ret) .skip))))
 (.region Pu))))
def Pv:aC:=
 [ae 4 (aJ (aE (bg bj (-1))))]
def Po:SC:=
 (.seq (.region Pp)
 (.seq (.seq (.region Pq)
 (.block 0 (.loop Aa)))
 (.seq (.region Pv)
 .ret)))
theorem ahA:Tryz.prog.funcs[39]? =some Tryz.f39:=by kernel_rfl
theorem ahz:(Tryz.f39.body).map cL=some Po:=by kernel_rfl
theorem ahC:Tryz.f39.ntmps=19:=by kernel_rfl
theorem ahB:Tryz.f39.results.toList=[dE 4]:=by kernel_rfl
theorem acr:bL 39 7=0:=by kernel_rfl
def Px:aC:=
 [ae 2 (ew 40 (aa 0)),
 ae 3 (aJ (aE (bC false)))]
def Py:aC:=
 [ae 4 (bA 40 (aa 2) 0),
 ae 5 (aK 9 (aa 4)),
 ae 6 (aK 9 (aa 1)),
 ae 7 (bf eI 9 (aa 5) (aa 6) 9),
 ae 3 (aJ (aa 7))]
def Pw:SC:=
 (.seq (.region Px)
 (.seq (.region Py)
 .ret))
theorem ahS:Tryz.prog.funcs[40]? =some Tryz.f40:=by kernel_rfl
theorem ahR:(Tryz.f40.body).map cL=some Pw:=by kernel_rfl
theorem ahU:Tryz.f40.ntmps=8:=by kernel_rfl
theorem ahT:Tryz.f40.results.toList=[dE 3]:=by kernel_rfl
theorem acs:bL 40 2=1:=by kernel_rfl
theorem X8 (ps:List (Nat×Operand)) (e:bq):gQ Tryz.prog 31 ps e=(fF Tryz.prog 31).bind fun z=>(ee (fun i=>([(0,1),(1,1)]:List (Nat×Nat))[i]?) e z.cells ps).bind fun c=>some (.agg c):=by kernel_rfl
theorem CH (ps:List (Nat×Operand)) (e:bq):gQ Tryz.prog 36 ps e=(fF Tryz.prog 36).bind fun z=>(ee (fun i=>([(0,1),(1,1)]:List (Nat×Nat))[i]?) e z.cells ps).bind fun c=>some (.agg c):=by kernel_rfl
theorem X9 (ps:List (Nat×Operand)) (e:bq):gQ Tryz.prog 40 ps e=(fF Tryz.prog 40).bind fun z=>(ee (fun i=>([(0,1),(1,1),(2,2),(4,1),(5,1)]:List (Nat×Nat))[i]?) e z.cells ps).bind fun c=>some (.agg c):=by kernel_rfl
theorem Ya (ps:List (Nat×Operand)) (e:bq):gQ Tryz.prog 51 ps e=(fF Tryz.prog 51).bind fun z=>(ee (fun i=>([(0,1),(1,1)]:List (Nat×Nat))[i]?) e z.cells ps).bind fun c=>some (.agg c):=by kernel_rfl
theorem Yc (ps:List (Nat×Operand)) (e:bq):gQ Tryz.prog 65 ps e=(fF Tryz.prog 65).bind fun z=>(ee (fun i=>([(0,1),(1,1),(2,1),(3,1),(4,1)]:List (Nat×Nat))[i]?) e z.cells ps).bind fun c=>some (.agg c):=by kernel_rfl
theorem X3 (ps:List (Nat×Operand)) (e:bq):gQ Tryz.prog 150 ps e=(fF Tryz.prog 150).bind fun z=>(ee (fun i=>some (i*1,1)) e z.cells ps).bind fun c=>some (.agg c):=by kernel_rfl
theorem X4 (ps:List (Nat×Operand)) (e:bq):gQ Tryz.prog 183 ps e=(fF Tryz.prog 183).bind fun z=>(ee (fun i=>([(0,1),(1,1)]:List (Nat×Nat))[i]?) e z.cells ps).bind fun c=>some (.agg c):=by kernel_rfl
theorem CE (ps:List (Nat×Operand)) (e:bq):gQ Tryz.prog 186 ps e=(fF Tryz.prog 186).bind fun z=>(ee (fun i=>([(0,1),(1,1),(2,1)]:List (Nat×Nat))[i]?) e z.cells ps).bind fun c=>some (.agg c):=by kernel_rfl
theorem CF (ps:List (Nat×Operand)) (e:bq):gQ Tryz.prog 189 ps e=(fF Tryz.prog 189).bind fun z=>(ee (fun i=>([(0,1)]:List (Nat×Nat))[i]?) e z.cells ps).bind fun c=>some (.agg c):=by kernel_rfl
theorem X5 (ps:List (Nat×Operand)) (e:bq):gQ Tryz.prog 194 ps e=(fF Tryz.prog 194).bind fun z=>(ee (fun i=>some (i*1,1)) e z.cells ps).bind fun c=>some (.agg c):=by kernel_rfl
theorem X6 (ps:List (Nat×Operand)) (e:bq):gQ Tryz.prog 197 ps e=(fF Tryz.prog 197).bind fun z=>(ee (fun i=>some (i*1,1)) e z.cells ps).bind fun c=>some (.agg c):=by kernel_rfl
theorem X7 (ps:List (Nat×Operand)) (e:bq):gQ Tryz.prog 254 ps e=(fF Tryz.prog 254).bind fun z=>(ee (fun i=>some (i*1,1)) e z.cells ps).bind fun c=>some (.agg c):=by kernel_rfl
theorem eC (cs:List aj) (off:Nat):fK Tryz.prog 3 cs off=(cs.drop off).head?:=by kernel_rfl
theorem an5 (cs:List aj) (off:Nat):fK Tryz.prog 5 cs off=(cs.drop off).head?:=by kernel_rfl
theorem dv (cs:List aj) (off:Nat):fK Tryz.prog 9 cs off=(cs.drop off).head?:=by kernel_rfl
theorem yD (cs:List aj) (off:Nat):fK Tryz.prog 21 cs off=(cs.drop off).head?:=by kernel_rfl
theorem iG (cs:List aj) (off:Nat):fK Tryz.prog 22 cs off=(cs.drop off).head?:=by kernel_rfl
theorem iY (cs:List aj) (off:Nat):fK Tryz.prog 24 cs off=(cut cs off 1).bind fun r=>some (.agg r):=by kernel_rfl
theorem jo (cs:List aj) (off:Nat):fK Tryz.prog 36 cs off=(cut cs off 2).bind fun r=>some (.agg r):=by kernel_rfl
theorem fT (cs:List aj) (off:Nat):fK Tryz.prog 37 cs off=(cs.drop off).head?:=by kernel_rfl
theorem mL (cs:List aj) (off:Nat):fK Tryz.prog 38 cs off=(cs.drop off).head?:=by kernel_rfl
theorem kT (cs:List aj) (off:Nat):fK Tryz.prog 40 cs off=(cut cs off 6).bind fun r=>some (.agg r):=by kernel_rfl
theorem Br (cs:List aj) (off:Nat):fK Tryz.prog 51 cs off=(cut cs off 2).bind fun r=>some (.agg r):=by kernel_rfl
theorem nX (cs:List aj) (off:Nat):fK Tryz.prog 61 cs off=(cs.drop off).head?:=by kernel_rfl
theorem GH (cs:List aj) (off:Nat):fK Tryz.prog 63 cs off=(cs.drop off).head?:=by kernel_rfl
theorem GG (cs:List aj) (off:Nat):fK Tryz.prog 109 cs off=(cs.drop off).head?:=by kernel_rfl
theorem Vw (cs:List aj) (off:Nat):fK Tryz.prog 183 cs off=(cut cs off 2).bind fun r=>some (.agg r):=by kernel_rfl
theorem VA (cs:List aj) (off:Nat):fK Tryz.prog 186 cs off=(cut cs off 3).bind fun r=>some (.agg r):=by kernel_rfl
theorem an1 (cs:List aj) (off:Nat):fK Tryz.prog 194 cs off=(cut cs off 3).bind fun r=>some (.agg r):=by kernel_rfl
theorem Bq (cs:List aj) (off:Nat):fK Tryz.prog 197 cs off=(cut cs off 3).bind fun r=>some (.agg r):=by kernel_rfl
theorem an3 (cs:List aj) (off:Nat):fK Tryz.prog 254 cs off=(cut cs off 2).bind fun r=>some (.agg r):=by kernel_rfl
theorem an4 (cs:List aj) (off:Nat):fK Tryz.prog 289 cs off=(cs.drop off).head?:=by kernel_rfl
theorem apn:fQ Tryz.prog 3=some 1:=by kernel_rfl
theorem Hc:fQ Tryz.prog 9=some 1:=by kernel_rfl
theorem Wp:fQ Tryz.prog 21=some 1:=by kernel_rfl
theorem apj:fQ Tryz.prog 22=some 1:=by kernel_rfl
theorem Wq:fQ Tryz.prog 24=some 1:=by kernel_rfl
theorem sF:fQ Tryz.prog 36=some 2:=by kernel_rfl
theorem yO:fQ Tryz.prog 37=some 1:=by kernel_rfl
theorem apo:fQ Tryz.prog 38=some 1:=by kernel_rfl
theorem rm:fQ Tryz.prog 40=some 6:=by kernel_rfl
theorem Hb:fQ Tryz.prog 51=some 2:=by kernel_rfl
theorem ape:fQ Tryz.prog 109=some 1:=by kernel_rfl
theorem apf:fQ Tryz.prog 150=some 6:=by kernel_rfl
theorem apg:fQ Tryz.prog 151=some 256:=by kernel_rfl
theorem Wo:fQ Tryz.prog 183=some 2:=by kernel_rfl
theorem Ha:fQ Tryz.prog 186=some 3:=by kernel_rfl
theorem aph:fQ Tryz.prog 194=some 3:=by kernel_rfl
theorem api:fQ Tryz.prog 197=some 3:=by kernel_rfl
theorem apk:fQ Tryz.prog 254=some 2:=by kernel_rfl
theorem apm:fQ Tryz.prog 289=some 1:=by kernel_rfl
theorem aqz:fF Tryz.prog 3=some (.int .i64 (0)):=by kernel_rfl
theorem W5:fF Tryz.prog 4=some (.bool false):=by kernel_rfl
theorem aqD:fF Tryz.prog 9=some (.str []):=by kernel_rfl
theorem Hv:fF Tryz.prog 24=some (.agg [.nils]):=by kernel_rfl
theorem Hw:fF Tryz.prog 31=some (.agg [(.str []),(.str [])]):=by kernel_rfl
theorem vg:fF Tryz.prog 36=some (.agg [(.int .i64 (0)),(.int .i64 (0))]):=by kernel_rfl
theorem rA:fF Tryz.prog 40=some (.agg [(.str []),(.int .i64 (0)),(.int .i64 (0)),(.int .i64 (0)),.nils,.nils]):=by kernel_rfl
theorem BZ:fF Tryz.prog 51=some (.agg [(.str []),(.str [])]):=by kernel_rfl
theorem aqB:fF Tryz.prog 65=some (.agg [.nilm,.nilm,.nilm,.nilm,.nilm]):=by kernel_rfl
theorem aqC:fF Tryz.prog 67=some .nilp:=by kernel_rfl
theorem aqv:fF Tryz.prog 109=some .nilm:=by kernel_rfl
theorem aqw:fF Tryz.prog 150=some (.agg [(.str []),(.str []),(.str []),(.str []),(.str []),(.str [])]):=by kernel_rfl
theorem Hs:fF Tryz.prog 183=some (.agg [(.int .i64 (0)),(.int .i64 (0))]):=by kernel_rfl
theorem yW:fF Tryz.prog 186=some (.agg [(.int .i64 (0)),(.int .i64 (0)),(.int .i64 (0))]):=by kernel_rfl
theorem Ht:fF Tryz.prog 189=some (.agg [.nils]):=by kernel_rfl
theorem W3:fF Tryz.prog 194=some (.agg [.nils,.nils,.nils]):=by kernel_rfl
theorem aqx:fF Tryz.prog 196=some .nilp:=by kernel_rfl
theorem Hu:fF Tryz.prog 197=some (.agg [(.str []),(.str []),(.str [])]):=by kernel_rfl
theorem W4:fF Tryz.prog 254=some (.agg [(.int .i64 (0)),(.int .i64 (0))]):=by kernel_rfl
theorem aqy:fF Tryz.prog 289=some .nils:=by kernel_rfl
theorem iz (lc:Ag.Loc) (l g o:Nat):fO Tryz.prog lc 24 (.lref l g o) 0=bif bo (lc.gen l) g then some (.lref l g (o+0)) else none:=by kernel_rfl
theorem Z4 (lc:Ag.Loc) (l g o:Nat):fO Tryz.prog lc 31 (.lref l g o) 0=bif bo (lc.gen l) g then some (.lref l g (o+0)) else none:=by kernel_rfl
theorem Z5 (lc:Ag.Loc) (cs:List aj):fO Tryz.prog lc 31 (.ro cs) 0=some (.ro (cs.drop 0)):=by kernel_rfl
theorem Z6 (lc:Ag.Loc) (l g o:Nat):fO Tryz.prog lc 31 (.lref l g o) 1=bif bo (lc.gen l) g then some (.lref l g (o+1)) else none:=by kernel_rfl
theorem I3 (lc:Ag.Loc) (cs:List aj):fO Tryz.prog lc 31 (.ro cs) 1=some (.ro (cs.drop 1)):=by kernel_rfl
theorem rZ (lc:Ag.Loc) (l g o:Nat):fO Tryz.prog lc 36 (.lref l g o) 0=bif bo (lc.gen l) g then some (.lref l g (o+0)) else none:=by kernel_rfl
theorem xJ (lc:Ag.Loc) (l g o:Nat):fO Tryz.prog lc 36 (.lref l g o) 1=bif bo (lc.gen l) g then some (.lref l g (o+1)) else none:=by kernel_rfl
theorem mF (lc:Ag.Loc) (l g o:Nat):fO Tryz.prog lc 40 (.lref l g o) 0=bif bo (lc.gen l) g then some (.lref l g (o+0)) else none:=by kernel_rfl
theorem I4 (lc:Ag.Loc) (cs:List aj):fO Tryz.prog lc 40 (.ro cs) 0=some (.ro (cs.drop 0)):=by kernel_rfl
theorem r0 (lc:Ag.Loc) (m o:Nat):fO Tryz.prog lc 40 (.ptr m o) 0=some (.ptr m (o+0)):=by kernel_rfl
theorem lS (lc:Ag.Loc) (l g o:Nat):fO Tryz.prog lc 40 (.lref l g o) 1=bif bo (lc.gen l) g then some (.lref l g (o+1)) else none:=by kernel_rfl
theorem Z7 (lc:Ag.Loc) (cs:List aj):fO Tryz.prog lc 40 (.ro cs) 1=some (.ro (cs.drop 1)):=by kernel_rfl
theorem mG (lc:Ag.Loc) (m o:Nat):fO Tryz.prog lc 40 (.ptr m o) 1=some (.ptr m (o+1)):=by kernel_rfl
theorem xK (lc:Ag.Loc) (l g o:Nat):fO Tryz.prog lc 40 (.lref l g o) 2=bif bo (lc.gen l) g then some (.lref l g (o+2)) else none:=by kernel_rfl
theorem vV (lc:Ag.Loc) (m o:Nat):fO Tryz.prog lc 40 (.ptr m o) 2=some (.ptr m (o+2)):=by kernel_rfl
theorem kx (lc:Ag.Loc) (l g o:Nat):fO Tryz.prog lc 40 (.lref l g o) 3=bif bo (lc.gen l) g then some (.lref l g (o+4)) else none:=by kernel_rfl
theorem Dg (lc:Ag.Loc) (cs:List aj):fO Tryz.prog lc 40 (.ro cs) 3=some (.ro (cs.drop 4)):=by kernel_rfl
theorem na (lc:Ag.Loc) (m o:Nat):fO Tryz.prog lc 40 (.ptr m o) 3=some (.ptr m (o+4)):=by kernel_rfl
theorem r9 (lc:Ag.Loc) (l g o:Nat):fO Tryz.prog lc 40 (.lref l g o) 4=bif bo (lc.gen l) g then some (.lref l g (o+5)) else none:=by kernel_rfl
theorem uv (lc:Ag.Loc) (m o:Nat):fO Tryz.prog lc 40 (.ptr m o) 4=some (.ptr m (o+5)):=by kernel_rfl
theorem pq (lc:Ag.Loc) (l g o:Nat):fO Tryz.prog lc 51 (.lref l g o) 0=bif bo (lc.gen l) g then some (.lref l g (o+0)) else none:=by kernel_rfl
theorem vW (lc:Ag.Loc) (cs:List aj):fO Tryz.prog lc 51 (.ro cs) 0=some (.ro (cs.drop 0)):=by kernel_rfl
theorem vZ (lc:Ag.Loc) (l g o:Nat):fO Tryz.prog lc 51 (.lref l g o) 1=bif bo (lc.gen l) g then some (.lref l g (o+1)) else none:=by kernel_rfl
theorem xL (lc:Ag.Loc) (cs:List aj):fO Tryz.prog lc 51 (.ro cs) 1=some (.ro (cs.drop 1)):=by kernel_rfl
theorem Dh (lc:Ag.Loc) (m o:Nat):fO Tryz.prog lc 65 (.ptr m o) 0=some (.ptr m (o+0)):=by kernel_rfl
theorem Di (lc:Ag.Loc) (m o:Nat):fO Tryz.prog lc 65 (.ptr m o) 1=some (.ptr m (o+1)):=by kernel_rfl
theorem Dj (lc:Ag.Loc) (m o:Nat):fO Tryz.prog lc 65 (.ptr m o) 2=some (.ptr m (o+2)):=by kernel_rfl
theorem tf (lc:Ag.Loc) (m o:Nat):fO Tryz.prog lc 65 (.ptr m o) 3=some (.ptr m (o+3)):=by kernel_rfl
theorem I5 (lc:Ag.Loc) (m o:Nat):fO Tryz.prog lc 65 (.ptr m o) 4=some (.ptr m (o+4)):=by kernel_rfl
theorem zt (lc:Ag.Loc) (l g o:Nat):fO Tryz.prog lc 183 (.lref l g o) 0=bif bo (lc.gen l) g then some (.lref l g (o+0)) else none:=by kernel_rfl
theorem I2 (lc:Ag.Loc) (l g o:Nat):fO Tryz.prog lc 183 (.lref l g o) 1=bif bo (lc.gen l) g then some (.lref l g (o+1)) else none:=by kernel_rfl
theorem De (lc:Ag.Loc) (l g o:Nat):fO Tryz.prog lc 186 (.lref l g o) 0=bif bo (lc.gen l) g then some (.lref l g (o+0)) else none:=by kernel_rfl
theorem Z2 (lc:Ag.Loc) (l g o:Nat):fO Tryz.prog lc 186 (.lref l g o) 1=bif bo (lc.gen l) g then some (.lref l g (o+1)) else none:=by kernel_rfl
theorem Z3 (lc:Ag.Loc) (l g o:Nat):fO Tryz.prog lc 186 (.lref l g o) 2=bif bo (lc.gen l) g then some (.lref l g (o+2)) else none:=by kernel_rfl
theorem Df (lc:Ag.Loc) (m o:Nat):fO Tryz.prog lc 189 (.ptr m o) 0=some (.ptr m (o+0)):=by kernel_rfl
theorem qg (lc:Ag.Loc) (n:Nat) (xs:List aj) (r:fZ) (i:aj):iU Tryz.prog lc 22 (.list n xs r) i=(fV i).bind fun i=>bif bo n 6&&cg i xs.length then some (.ro (iX xs i).cells) else none:=by kernel_rfl
theorem JP (lc:Ag.Loc) (n:Nat) (xs:List aj) (r:fZ) (i:aj):iU Tryz.prog lc 27 (.list n xs r) i=(fV i).bind fun i=>bif bo n 2&&cg i xs.length then some (.ro (iX xs i).cells) else none:=by kernel_rfl
theorem lF (lc:Ag.Loc) (n:Nat) (xs:List aj) (r:fZ) (i:aj):iU Tryz.prog lc 37 (.list n xs r) i=(fV i).bind fun i=>bif bo n 1&&cg i xs.length then some (.ro (iX xs i).cells) else none:=by kernel_rfl
theorem JQ (lc:Ag.Loc) (n m o l c:Nat) (i:aj):iU Tryz.prog lc 37 (.arr n m o l c) i=(fV i).bind fun i=>bif bo n 1&&cg i l then some (.ptr m (o+i*1)) else none:=by kernel_rfl
theorem tt (lc:Ag.Loc) (n:Nat) (xs:List aj) (r:fZ) (i:aj):iU Tryz.prog lc 38 (.list n xs r) i=(fV i).bind fun i=>bif bo n 2&&cg i xs.length then some (.ro (iX xs i).cells) else none:=by kernel_rfl
theorem adP (lc:Ag.Loc) (n:Nat) (xs:List aj) (r:fZ) (i:aj):iU Tryz.prog lc 55 (.list n xs r) i=(fV i).bind fun i=>bif bo n 1&&cg i xs.length then some (.ro (iX xs i).cells) else none:=by kernel_rfl
theorem adQ (lc:Ag.Loc) (n:Nat) (xs:List aj) (r:fZ) (i:aj):iU Tryz.prog lc 66 (.list n xs r) i=(fV i).bind fun i=>bif bo n 1&&cg i xs.length then some (.ro (iX xs i).cells) else none:=by kernel_rfl
theorem adJ (lc:Ag.Loc) (l g o:Nat) (i:aj):iU Tryz.prog lc 151 (.lref l g o) i=(fV i).bind fun i=>bif cg i 256 then bif bo (lc.gen l) g then some (.lref l g (o+i*1)) else none else none:=by kernel_rfl
theorem JM (lc:Ag.Loc) (n:Nat) (xs:List aj) (r:fZ) (i:aj):iU Tryz.prog lc 180 (.list n xs r) i=(fV i).bind fun i=>bif bo n 2&&cg i xs.length then some (.ro (iX xs i).cells) else none:=by kernel_rfl
theorem adK (lc:Ag.Loc) (n:Nat) (xs:List aj) (r:fZ) (i:aj):iU Tryz.prog lc 184 (.list n xs r) i=(fV i).bind fun i=>bif bo n 3&&cg i xs.length then some (.ro (iX xs i).cells) else none:=by kernel_rfl
theorem DS (lc:Ag.Loc) (n:Nat) (xs:List aj) (r:fZ) (i:aj):iU Tryz.prog lc 192 (.list n xs r) i=(fV i).bind fun i=>bif bo n 2&&cg i xs.length then some (.ro (iX xs i).cells) else none:=by kernel_rfl
theorem DU (lc:Ag.Loc) (l g o:Nat) (i:aj):iU Tryz.prog lc 197 (.lref l g o) i=(fV i).bind fun i=>bif cg i 3 then bif bo (lc.gen l) g then some (.lref l g (o+i*1)) else none else none:=by kernel_rfl
theorem adL (lc:Ag.Loc) (l g o:Nat) (i:aj):iU Tryz.prog lc 254 (.lref l g o) i=(fV i).bind fun i=>bif cg i 2 then bif bo (lc.gen l) g then some (.lref l g (o+i*1)) else none else none:=by kernel_rfl
theorem adM (lc:Ag.Loc) (n:Nat) (xs:List aj) (r:fZ) (i:aj):iU Tryz.prog lc 286 (.list n xs r) i=(fV i).bind fun i=>bif bo n 1&&cg i xs.length then some (.ro (iX xs i).cells) else none:=by kernel_rfl
theorem adN (lc:Ag.Loc) (n m o l c:Nat) (i:aj):iU Tryz.prog lc 289 (.arr n m o l c) i=(fV i).bind fun i=>bif bo n 1&&cg i l then some (.ptr m (o+i*1)) else none:=by kernel_rfl
theorem adO (lc:Ag.Loc) (n:Nat) (xs:List aj) (r:fZ) (i:aj):iU Tryz.prog lc 349 (.list n xs r) i=(fV i).bind fun i=>bif bo n 2&&cg i xs.length then some (.ro (iX xs i).cells) else none:=by kernel_rfl
theorem D3 (s:List UInt8) (i:aj):qT Tryz.prog 9 (.str s) i=(fV i).bind fun i=>match s.drop i with|b::_=>some (.int .u8 b.toNat)| []=>none:=by kernel_rfl
theorem ad7 (cs:List aj) (i:aj):qT Tryz.prog 194 (.agg cs) i=(fV i).bind fun i=>bif cg i 3 then fK Tryz.prog 38 cs (i*1) else none:=by kernel_rfl
theorem lX (mk:bt) (b:List UInt8) (s:St):ie Tryz.prog mk 9 (.str b) s=some (.int .i64 b.length):=by kernel_rfl
theorem qm (mk:bt) (s:St):ie Tryz.prog mk 22 .nils s=some (.int .i64 (0:Nat)):=by kernel_rfl
theorem ql (mk:bt) (n:Nat) (xs:List aj) (r:fZ) (s:St):ie Tryz.prog mk 22 (.list n xs r) s=some (.int .i64 xs.length):=by kernel_rfl
theorem alc (mk:bt) (s:St):ie Tryz.prog mk 27 .nils s=some (.int .i64 (0:Nat)):=by kernel_rfl
theorem alb (mk:bt) (n:Nat) (xs:List aj) (r:fZ) (s:St):ie Tryz.prog mk 27 (.list n xs r) s=some (.int .i64 xs.length):=by kernel_rfl
theorem iV (mk:bt) (s:St):ie Tryz.prog mk 37 .nils s=some (.int .i64 (0:Nat)):=by kernel_rfl
theorem jl (mk:bt) (n:Nat) (xs:List aj) (r:fZ) (s:St):ie Tryz.prog mk 37 (.list n xs r) s=some (.int .i64 xs.length):=by kernel_rfl
theorem qW (mk:bt) (s:St):ie Tryz.prog mk 38 .nils s=some (.int .i64 (0:Nat)):=by kernel_rfl
theorem qV (mk:bt) (n:Nat) (xs:List aj) (r:fZ) (s:St):ie Tryz.prog mk 38 (.list n xs r) s=some (.int .i64 xs.length):=by kernel_rfl
theorem alh (mk:bt) (s:St):ie Tryz.prog mk 55 .nils s=some (.int .i64 (0:Nat)):=by kernel_rfl
theorem alg (mk:bt) (n:Nat) (xs:List aj) (r:fZ) (s:St):ie Tryz.prog mk 55 (.list n xs r) s=some (.int .i64 xs.length):=by kernel_rfl
theorem ali (mk:bt) (n:Nat) (xs:List aj) (r:fZ) (s:St):ie Tryz.prog mk 66 (.list n xs r) s=some (.int .i64 xs.length):=by kernel_rfl
theorem Ud (mk:bt) (s:St):ie Tryz.prog mk 180 .nils s=some (.int .i64 (0:Nat)):=by kernel_rfl
theorem Uc (mk:bt) (n:Nat) (xs:List aj) (r:fZ) (s:St):ie Tryz.prog mk 180 (.list n xs r) s=some (.int .i64 xs.length):=by kernel_rfl
theorem ala (mk:bt) (s:St):ie Tryz.prog mk 184 .nils s=some (.int .i64 (0:Nat)):=by kernel_rfl
theorem ak9 (mk:bt) (n:Nat) (xs:List aj) (r:fZ) (s:St):ie Tryz.prog mk 184 (.list n xs r) s=some (.int .i64 xs.length):=by kernel_rfl
theorem AQ (mk:bt) (n:Nat) (xs:List aj) (r:fZ) (s:St):ie Tryz.prog mk 192 (.list n xs r) s=some (.int .i64 xs.length):=by kernel_rfl
theorem ald (mk:bt) (n:Nat) (xs:List aj) (r:fZ) (s:St):ie Tryz.prog mk 286 (.list n xs r) s=some (.int .i64 xs.length):=by kernel_rfl
theorem alf (mk:bt) (s:St):ie Tryz.prog mk 349 .nils s=some (.int .i64 (0:Nat)):=by kernel_rfl
theorem ale (mk:bt) (n:Nat) (xs:List aj) (r:fZ) (s:St):ie Tryz.prog mk 349 (.list n xs r) s=some (.int .i64 xs.length):=by kernel_rfl
theorem IM:jG Tryz.prog 22=some ⟨6,88,true,(.agg [(.str []),(.int .i64 (0)),(.int .i64 (0)),(.int .i64 (0)),.nils,.nils])⟩:=by kernel_rfl
theorem ad4:mH Tryz.prog 22=true:=by kernel_rfl
theorem qQ:jG Tryz.prog 37=some ⟨1,16,false,(.str [])⟩:=by kernel_rfl
theorem wh:mH Tryz.prog 37=true:=by kernel_rfl
theorem IQ:jG Tryz.prog 38=some ⟨2,32,true,(.agg [(.str []),(.str [])])⟩:=by kernel_rfl
theorem ad6:mH Tryz.prog 38=true:=by kernel_rfl
theorem IR:jG Tryz.prog 55=some ⟨1,8,false,(.int .i64 (0))⟩:=by kernel_rfl
theorem Zq:jG Tryz.prog 66=some ⟨1,8,false,.nilm⟩:=by kernel_rfl
theorem IL:jG Tryz.prog 180=some ⟨2,16,true,(.agg [(.int .i64 (0)),(.int .i64 (0))])⟩:=by kernel_rfl
theorem ad3:mH Tryz.prog 180=true:=by kernel_rfl
theorem C5:jG Tryz.prog 184=some ⟨3,24,true,(.agg [(.int .i64 (0)),(.int .i64 (0)),(.int .i64 (0))])⟩:=by kernel_rfl
theorem J0:mH Tryz.prog 184=true:=by kernel_rfl
theorem Zm:jG Tryz.prog 192=some ⟨2,16,true,(.agg [(.int .i64 (0)),(.int .i64 (0))])⟩:=by kernel_rfl
theorem Zn:jG Tryz.prog 286=some ⟨1,24,false,.nils⟩:=by kernel_rfl
theorem Zo:jG Tryz.prog 289=some ⟨1,4,false,(.int .i32 (0))⟩:=by kernel_rfl
theorem Zp:jG Tryz.prog 349=some ⟨2,16,true,(.agg [(.int .i64 (0)),(.int .i64 (0))])⟩:=by kernel_rfl
theorem A5 (k:List UInt8):oO Tryz.prog 61 (.str k)=some (9,67):=by kernel_rfl
theorem qR (a b:List UInt8):kL Tryz.prog 8 9 (.str a) (.str b)=some (a==b):=by kernel_rfl
theorem A4 (k:List UInt8):oO Tryz.prog 109 (.str k)=some (9,4):=by kernel_rfl
theorem UJ (k:List UInt8):oO Tryz.prog 195 (.str k)=some (9,196):=by kernel_rfl
def NL:aC:=
 [ae 2 (aJ (aE (i8 none 0 0)))]
def NM:aC:=
 [ae 4 (ax (aa 0)),
 ae 5 (be ⟨bI (bM 47),#[aa 4],#[71]⟩),
 ae 3 (aJ (aa 5))]
def NN:aC:=
 [ae 6 (ax (aa 3)),
 ae 7 (be ⟨bI (bM 48),#[aa 6],#[37]⟩)]
def NP:aC:=
 [ae 8 (ax (aa 3)),
 ae 2 (aJ (aa 8))]
def NK:SC:=
 (.seq (.region NL)
 (.seq (.region NM)
 (.seq (.region NN)
 (.seq (.region NP)
 .ret))))
theorem agB:Tryz.prog.funcs[25]? =some Tryz.f25:=by kernel_rfl
theorem agA:(Tryz.f25.body).map cL=some NK:=by kernel_rfl
theorem agD:Tryz.f25.ntmps=9:=by kernel_rfl
theorem agC:Tryz.f25.results.toList=[dE 2]:=by kernel_rfl
def N3:aC:=
 [ae 4 (aJ (aE (i8 none 0 0)))]
def N4:aC:=
 [ae 6 (ax (aa 0)),
 ae 7 (be ⟨bI (bM 50),#[aa 6],#[76]⟩),
 ae 5 (aJ (aa 7))]
def N5:aC:=
 [ae 8 (ax (aa 5)),
 ae 9 (ax (aa 1)),
 ae 10 (be ⟨bI (bM 51),#[aa 8,aa 9],#[27,80]⟩)]
def N7:aC:=
 [ae 11 (ax (aa 5)),
 ae 4 (aJ (aa 11))]
def N0:SC:=
 (.seq (.region N3)
 (.seq (.region N4)
 (.seq (.region N5)
 (.seq (.region N7)
 .ret))))
theorem agN:Tryz.prog.funcs[28]? =some Tryz.f28:=by kernel_rfl
theorem agM:(Tryz.f28.body).map cL=some N0:=by kernel_rfl
theorem agP:Tryz.f28.ntmps=12:=by kernel_rfl
theorem agO:Tryz.f28.results.toList=[dE 4]:=by kernel_rfl
def PW:aC:=
 [ae 2 (aJ (aE (i8 none 0 0)))]
def PX:aC:=
 [ae 3 (ax (aa 0)),
 ae 4 (be ⟨bI (bM 78),#[aE (i8 none 0 0),aa 3],#[37,71]⟩),
 ae 2 (aJ (aa 4))]
def PU:SC:=
 (.seq (.region PW)
 (.seq (.region PX)
 .ret))
theorem aie:Tryz.prog.funcs[47]? =some Tryz.f47:=by kernel_rfl
theorem aid:(Tryz.f47.body).map cL=some PU:=by kernel_rfl
theorem aig:Tryz.f47.ntmps=5:=by kernel_rfl
theorem aif:Tryz.f47.results.toList=[dE 2]:=by kernel_rfl
def PZ:aC:=
 [ae 4 (aK 61 (aa 1)),
 ae 5 (Op.range 61 (aa 4))]
def Aj:aC:=
 [ae 6 (Op.next (aa 5) false),
 ae 7 (fg (aa 6) 0)]
def P0:aC:=
 [ae 8 (Op.entry (aa 5)),
 ae 9 (fg (aa 8) 0),
 ae 3 (aJ (aa 9))]
def P1:aC:=
 [ae 10 (ax (aa 0)),
 ae 11 (ax (aa 3)),
 ae 12 (be ⟨bI (aa 10),#[aa 11],#[9]⟩),
 ae 13 (fH UnOp.not 4 (aa 12))]
def x4:SC:=
 (.seq (.region Aj)
 (.seq (.cond (aa 7) .skip (.exit 0))
 (.block 1 (.seq (.region P0)
 (.seq (.region P1)
 (.cond (aa 13) .ret .skip))))))
def PY:SC:=
 (.seq (.region PZ)
 (.block 0 (.loop x4)))
theorem aii:Tryz.prog.funcs[49]? =some Tryz.f49:=by kernel_rfl
theorem aih:(Tryz.f49.body).map cL=some PY:=by kernel_rfl
theorem aik:Tryz.f49.ntmps=14:=by kernel_rfl
theorem aij:Tryz.f49.results.toList=[]:=by kernel_rfl
def P3:aC:=
 [ae 2 (aJ (aE (i8 none 0 0)))]
def P4:aC:=
 [ae 3 (ax (aa 0)),
 ae 4 (be ⟨bI (bM 81),#[aE (i8 none 0 0),aa 3],#[27,76]⟩),
 ae 2 (aJ (aa 4))]
def P2:SC:=
 (.seq (.region P3)
 (.seq (.region P4)
 .ret))
theorem aiu:Tryz.prog.funcs[50]? =some Tryz.f50:=by kernel_rfl
theorem ait:(Tryz.f50.body).map cL=some P2:=by kernel_rfl
theorem aiw:Tryz.f50.ntmps=5:=by kernel_rfl
theorem aiv:Tryz.f50.results.toList=[dE 2]:=by kernel_rfl
def P6:aC:=
 [ae 4 (aK 63 (aa 1)),
 ae 5 (Op.range 63 (aa 4))]
def Ak:aC:=
 [ae 6 (Op.next (aa 5) false),
 ae 7 (fg (aa 6) 0)]
def P7:aC:=
 [ae 8 (Op.entry (aa 5)),
 ae 9 (fg (aa 8) 0),
 ae 3 (fu 31),
 ⟨none,dN 31 (aa 3) (aa 9),.aw⟩]
def P8:aC:=
 [ae 10 (ax (aa 0)),
 ae 11 (aK 31 (aa 3)),
 ae 12 (be ⟨bI (aa 10),#[aa 11],#[31]⟩),
 ae 13 (fH UnOp.not 4 (aa 12))]
def x5:SC:=
 (.seq (.region Ak)
 (.seq (.cond (aa 7) .skip (.exit 0))
 (.block 1 (.seq (.region P7)
 (.seq (.region P8)
 (.cond (aa 13) .ret .skip))))))
def P5:SC:=
 (.seq (.region P6)
 (.block 0 (.loop x5)))
theorem aiy:Tryz.prog.funcs[52]? =some Tryz.f52:=by kernel_rfl
theorem aix:(Tryz.f52.body).map cL=some P5:=by kernel_rfl
theorem aiA:Tryz.f52.ntmps=14:=by kernel_rfl
theorem aiz:Tryz.f52.results.toList=[]:=by kernel_rfl
theorem acv:bL 52 3=1:=by kernel_rfl
def Sj:aC:=
 [ae 2 (ew 37 (aa 0)),
 ae 4 (aJ (aE (i8 none 0 0)))]
def Sk:aC:=
 [ae 6 (ax (aa 1))]
def Sl:aC:=
 [ae 5 (aJ (aa 7))]
def Sm:aC:=
 [ae 8 (aK 37 (aa 2)),
 ae 9 (ax (aa 5)),
 ae 10 (kG 37 1 #[(0,aa 9)]),
 ae 11 (be ⟨cO n9,#[aa 8,aa 10],#[37,37]⟩),
 ⟨none,dN 37 (aa 2) (aa 11),.aw⟩]
def tu:Code:=
 (Code.region 2 #[{dst:=some 5,op:=aJ (aa 7),type:=9,pos:= "iter.go:51",after:= #[],guard:=none }] false)
def tw:Code:=
 (Code.block 1 (Code.region 3 #[{dst:=some 8,op:=aK 37 (aa 2),type:=37,pos:= "iter.go:52",after:= #[],guard:=none }, {dst:=some 9,op:=ax (aa 5),type:=9,pos:= "iter.go:52",after:= #[],guard:=none }, {dst:=some 10,op:=kG 37 1 #[(0,aa 9)],type:=37,pos:= "iter.go:52",after:= #[{on:=1,ground:=Ground.data }],guard:=none }, {dst:=some 11,op:=be ⟨cO n9,#[aa 8,aa 10],#[37,37]⟩,type:=37,pos:= "iter.go:52",after:= #[{on:=0,ground:=Ground.data }, {on:=2,ground:=Ground.data }],guard:=none }, {dst:=none,op:=dN 37 (aa 2) (aa 11),type:=0,pos:= "iter.go:52",after:= #[{on:=3,ground:=Ground.data }, {on:=3,ground:=Ground.chain }, {on:=0,ground:=Ground.phase }, {on:=1,ground:=Ground.phase }, {on:=2,ground:=Ground.phase }, {on:=3,ground:=Ground.phase }],guard:=none }] false))
def Sh:SC:=
 (.region Sl)
def Si:SC:=
 (.block 1 (.region Sm))
def Sn:aC:=
 [ae 12 (aK 37 (aa 2)),
 ae 4 (aJ (aa 12))]
def Sg:SC:=
 (.seq (.region Sj)
 (.seq (.seq (.region Sk)
 (.block 0 (.rfun (aa 6) [7] tu tw)))
 (.seq (.region Sn)
 .ret)))
theorem ajW:cL tu=Sh:=by kernel_rfl
theorem ajX:cL tw=Si:=by kernel_rfl
theorem ajY:(fP tu&&fP tw)=true:=by kernel_rfl
theorem ajZ:Tryz.prog.funcs[78]? =some Tryz.f78:=by kernel_rfl
theorem ajV:(Tryz.f78.body).map cL=some Sg:=by kernel_rfl
theorem aj1:Tryz.f78.ntmps=13:=by kernel_rfl
theorem aj0:Tryz.f78.results.toList=[dE 4]:=by kernel_rfl
theorem adl:bL 78 2=0:=by kernel_rfl
theorem adj:bL 78 10=0:=by kernel_rfl
theorem adk:bL 78 11=2:=by kernel_rfl
def Ss:aC:=
 [ae 2 (ew 27 (aa 0)),
 ae 4 (aJ (aE (i8 none 0 0)))]
def Su:aC:=
 [ae 6 (ax (aa 1))]
def Sv:aC:=
 [ae 5 (fu 31),
 ⟨none,dN 31 (aa 5) (aa 7),.aw⟩]
def Sw:aC:=
 [ae 8 (aK 27 (aa 2)),
 ae 9 (aK 31 (aa 5)),
 ae 10 (kG 27 1 #[(0,aa 9)]),
 ae 11 (be ⟨cO n9,#[aa 8,aa 10],#[27,27]⟩),
 ⟨none,dN 27 (aa 2) (aa 11),.aw⟩]
def tx:Code:=
 (Code.region 2 #[{dst:=some 5,op:=fu 31,type:=0,pos:= "iter.go:51",after:= #[],guard:=none }, {dst:=none,op:=dN 31 (aa 5) (aa 7),type:=0,pos:= "iter.go:51",after:= #[{on:=0,ground:=Ground.data }, {on:=0,ground:=Ground.phase }],guard:=none }] false)
def tz:Code:=
 (Code.block 1 (Code.region 3 #[{dst:=some 8,op:=aK 27 (aa 2),type:=27,pos:= "iter.go:52",after:= #[],guard:=none }, {dst:=some 9,op:=aK 31 (aa 5),type:=31,pos:= "iter.go:52",after:= #[],guard:=none }, {dst:=some 10,op:=kG 27 1 #[(0,aa 9)],type:=27,pos:= "iter.go:52",after:= #[{on:=1,ground:=Ground.data }],guard:=none }, {dst:=some 11,op:=be ⟨cO n9,#[aa 8,aa 10],#[27,27]⟩,type:=27,pos:= "iter.go:52",after:= #[{on:=0,ground:=Ground.data }, {on:=2,ground:=Ground.data }],guard:=none }, {dst:=none,op:=dN 27 (aa 2) (aa 11),type:=0,pos:= "iter.go:52",after:= #[{on:=3,ground:=Ground.data }, {on:=3,ground:=Ground.chain }, {on:=0,ground:=Ground.phase }, {on:=1,ground:=Ground.phase }, {on:=2,ground:=Ground.phase }, {on:=3,ground:=Ground.phase }],guard:=none }] false))
def Sq:SC:=
 (.region Sv)
def Sr:SC:=
 (.block 1 (.region Sw))
def Sx:aC:=
 [ae 12 (aK 27 (aa 2)),
 ae 4 (aJ (aa 12))]
def So:SC:=
 (.seq (.region Ss)
 (.seq (.seq (.region Su)
 (.block 0 (.rfun (aa 6) [7] tx tz)))
 (.seq (.region Sx)
 .ret)))
theorem aj3:cL tx=Sq:=by kernel_rfl
theorem aj4:cL tz=Sr:=by kernel_rfl
theorem aj5:(fP tx&&fP tz)=true:=by kernel_rfl
theorem aj6:Tryz.prog.funcs[81]? =some Tryz.f81:=by kernel_rfl
theorem aj2:(Tryz.f81.body).map cL=some So:=by kernel_rfl
theorem aj8:Tryz.f81.ntmps=13:=by kernel_rfl
theorem aj7:Tryz.f81.results.toList=[dE 4]:=by kernel_rfl
theorem ado:bL 81 2=0:=by kernel_rfl
theorem adp:bL 81 5=0:=by kernel_rfl
theorem adm:bL 81 10=0:=by kernel_rfl
theorem adn:bL 81 11=2:=by kernel_rfl
def Ms:aC:=
 [ae 4 (aK 195 (aa 1)),
 ae 5 (Op.range 195 (aa 4))]
def zR:aC:=
 [ae 6 (Op.next (aa 5) false),
 ae 7 (fg (aa 6) 0)]
def Mt:aC:=
 [ae 8 (Op.entry (aa 5)),
 ae 9 (fg (aa 8) 0),
 ae 3 (aJ (aa 9))]
def Mu:aC:=
 [ae 10 (ax (aa 0)),
 ae 11 (ax (aa 3)),
 ae 12 (be ⟨bI (aa 10),#[aa 11],#[9]⟩),
 ae 13 (fH UnOp.not 4 (aa 12))]
def xY:SC:=
 (.seq (.region zR)
 (.seq (.cond (aa 7) .skip (.exit 0))
 (.block 1 (.seq (.region Mt)
 (.seq (.region Mu)
 (.cond (aa 13) .ret .skip))))))
def Mr:SC:=
 (.seq (.region Ms)
 (.block 0 (.loop xY)))
theorem afO:Tryz.prog.funcs[185]? =some Tryz.f185:=by kernel_rfl
theorem afN:(Tryz.f185.body).map cL=some Mr:=by kernel_rfl
theorem afQ:Tryz.f185.ntmps=14:=by kernel_rfl
theorem afP:Tryz.f185.results.toList=[]:=by kernel_rfl
def KN:aC:=
 [ae 1 (ew 195 (aa 0)),
 ae 2 (aJ (aE Value.nilFunc))]
def KO:aC:=
 [ae 3 (Op.makeFunc (Fn.func 185) #[] #[aa 1]),
 ae 2 (aJ (aa 3))]
def KM:SC:=
 (.seq (.region KN)
 (.seq (.region KO)
 .ret))
theorem aeP:Tryz.prog.funcs[120]? =some Tryz.f120:=by kernel_rfl
theorem aeO:(Tryz.f120.body).map cL=some KM:=by kernel_rfl
theorem aeR:Tryz.f120.ntmps=4:=by kernel_rfl
theorem aeQ:Tryz.f120.results.toList=[dE 2]:=by kernel_rfl
theorem abz:bL 120 1=0:=by kernel_rfl
theorem VB (cs:List aj) (off:Nat):fK Tryz.prog 27 cs off=(cs.drop off).head?:=by kernel_rfl
theorem VC (cs:List aj) (off:Nat):fK Tryz.prog 31 cs off=(cut cs off 2).bind fun r=>some (.agg r):=by kernel_rfl
theorem an2 (cs:List aj) (off:Nat):fK Tryz.prog 195 cs off=(cs.drop off).head?:=by kernel_rfl
theorem apl:fQ Tryz.prog 27=some 1:=by kernel_rfl
theorem Wr:fQ Tryz.prog 31=some 2:=by kernel_rfl
theorem IP:jG Tryz.prog 27=some ⟨2,32,true,(.agg [(.str []),(.str [])])⟩:=by kernel_rfl
theorem ad5:mH Tryz.prog 27=true:=by kernel_rfl
abbrev Sp:=List aj->Option aj
abbrev fh:=List (Nat×Sp)
def eR (f:Nat):fh->Option Sp
 | []=>none
 |(k,v)::l=>bif bo k f then some v else eR f l
noncomputable def QT (t:fh):cI:=QS fun f=>eR f t
def fI (t:fh):Prop:= ∀p∈t,ek Tryz.prog p.1 p.2
theorem BR {f:Nat} {sp:Sp}: ∀ {t:fh},eR f t=some sp->(f,sp)∈t
 | [],h=>by cases h
 |(k,v)::l,h=>by
  simp only[eR] at h
  cases hk:bo k f with
  |true=>
   rw[hk] at h
   injection h with h;subst h
   have:=iI hk
   subst this
   exact List.mem_cons_self
  |false=>
   rw[hk] at h
   exact List.mem_cons_of_mem _ (BR h)
theorem Gl:Tryz.prog.funcs.toList.all (fun fn=> !(fn.name== "runtime.NumGoroutine"))=true:=by kernel_rfl
theorem Gg:Tryz.prog.follows .mixedOrders=true:=by kernel_rfl
theorem fB {t:fh} (h:fI t):Good (QT t) where
 mixed:=Gg
 spec f sp hsp args v hv G hp w xs wr hx:=h _ (BR hsp) args v hv G hp w xs wr hx
 specH f sp h:=by cases h
 names f fn hf:=by
  have hf:Tryz.prog.funcs[f]? =some fn:=hf
  have:=List.all_eq_true.1 Gl fn (by
   rw[<-Array.getElem?_toList] at hf
   exact List.mem_of_getElem? hf)
  simpa using this
theorem fI.nil:fI []:=fun _ h=>by cases h
theorem fI.cons {f:Nat} {sp:Sp} {t:fh} (h:ek Tryz.prog f sp) (ht:fI t):fI ((f,sp)::t):=by
 intro p hp
 rcases List.mem_cons.1 hp with rfl|hp
 ·exact h
 ·exact ht p hp
def xS (c:Nat):List UInt8->Nat->Int
 | [],_=> -1
 |b::l,i=>bif bo b.toNat c then(i:Int) else xS c l (i+1)
def GZ:Sp
 | [.str s,.int .u8 (.ofNat c)]=>bif cg c 256 then some (.int .i64 (xS c s 0)) else none
 |_=>none
theorem JS (c:Nat) (hc:c<256): ∀(l:List UInt8) (i:Nat),xS c l i=match(List.range l.length).find? (fun j=>l[j]! ==c.toUInt8) with|some j=>((i+j:Nat):Int)|none=> -1
 | [],i=>rfl
 |b::l,i=>by
  rw[xS,List.length_cons,List.range_succ_eq_map,List.find?_cons]
  have hb:((b::l)[0]! ==c.toUInt8)=bo b.toNat c:=by
   show(b==c.toUInt8)=_
   cases h:bo b.toNat c with
   |true=>
    have:=iI h
    subst this
    simp
   |false=>
    have:=Nat.ne_of_beq_eq_false h
    apply beq_eq_false_iff_ne.2
    intro e
    apply this
    rw[e]
    simp[Nat.mod_eq_of_lt hc]
  rw[hb]
  cases h:bo b.toNat c with
  |true=>simp
  |false=>
   simp only[cF]
   rw[JS c hc l (i+1),List.find?_map]
   have hf:((fun j=>(b::l)[j]! ==c.toUInt8) ∘ Nat.succ)=fun j=>l[j]! ==c.toUInt8:=by
    funext j
    simp[Function.comp]
   rw[hf]
   cases (List.range l.length).find? (fun j=>l[j]! ==c.toUInt8) with
   |none=>rfl
   |some j=>simp only[Option.map_some];show((i+1+j:Nat):Int)=((i+(j+1):Nat):Int);congr 1;omega
theorem ao7:ek Tryz.prog 241 GZ:=by
 intro args v hv G h w xs wr hx
 unfold GZ at hv
 split at hv
 ·rename_i s c
  obtain⟨hc,hv⟩:=cq hv
  injection hv with hv;subst hv
  have hc:c<256:=Nat.le_of_ble_eq_true hc
  cases hx with
  |cons a b=>
   cases b with
   |cons b d=>
    cases d
    cases a
    cases b
    refine .inl ⟨.int .i64 (firstIdx ⟨⟨s⟩⟩ c.toUInt8),w,?_,G,wr,.refl,?_⟩
    ·have:=run_callFunc_extern (P:=Tryz.prog) (f:=241) (fn:=Tryz.f241) (e:=Extern.BytealgIndexByte.indexByte) (by kernel_rfl) (by kernel_rfl) (by kernel_rfl) (by kernel_rfl) (by kernel_rfl) #[.string ⟨⟨s⟩⟩,.int .u8 (.ofNat c)] w
     rw[show(⟨[fX ⟨⟨s⟩⟩,.int .u8 (.ofNat c)]⟩:Array Value)= #[.string ⟨⟨s⟩⟩,.int .u8 (.ofNat c)] from rfl,this,run_indexByte_string]
     rfl
    ·have:firstIdx ⟨⟨s⟩⟩ c.toUInt8=xS c s 0:=by
      rw[JS c hc]
      unfold firstIdx
      have h1:(⟨⟨s⟩⟩:ByteArray).size=s.length:=rfl
      rw[h1]
      have h2:(fun i=>(⟨⟨s⟩⟩:ByteArray)[i]! ==c.toUInt8)=fun(j:Nat)=>s[j]! ==c.toUInt8:=by
       funext i
       congr 1
       by_cases hi:i<s.length
       ·rw[getElem!_pos (⟨⟨s⟩⟩:ByteArray) i hi,getElem!_pos s i hi];rfl
       ·rw[getElem!_neg (⟨⟨s⟩⟩:ByteArray) i hi,getElem!_neg s i hi]
      rw[h2]
      cases (List.range s.length).find? (fun(j:Nat)=>s[j]! ==c.toUInt8)<;>simp
     rw[this]
     exact .int _ _
 ·cases hv
abbrev aB:=List UInt8
def uE (b:Nat):Bool:=(cK 97 b&&cK b 122)||(cK 65 b&&cK b 90)
def vN (b:Nat):Bool:=cK 48 b&&cK b 57
def yk (b:Nat):List Nat->Bool
 | []=>false
 |x::l=>bo b x||yk b l
def s8 (b:Nat):Nat:=
 bif uE b then 3 else bif vN b then 4 else bif yk b [32,9,10] then 1 else bif yk b [59,44,46,58,40,41,123,125,91,93,61,60,62,47,45] then 6
 else bif bo b 35 then 2 else bif bo b 95 then 5 else bif bo b 34 then 7 else 0
def pZ:Nat->Nat->List aj
 |0,_=>[]
 |k+1,i=>.int .u8 (s8 i:Nat)::pZ k (i+1)
def Iu:aj:=.agg (pZ 256 0)
def BJ:Sp
 | []=>some Iu
 |_=>none
def T1:fh:=[(241,GZ)]
theorem HH:fI T1:=.cons ao7 .nil
noncomputable def jU (t:fh) (n f:Nat) (args:List aj):Option (aj×Nat):=((db (QT t) n).call f args [] s0).bind fun x=>(dt x.2.heap 12 x.1).bind fun u=>some (u,x.2.ci)
theorem kB {t:fh} (ht:fI t) {n f:Nat} {args:List aj} {u:aj} (h:jU t n f args=some (u,0)) {args':List aj} (ha:eX args'=args) (hp:jv args'=true) (G:Gh) (hh:bD bR) (w:World) (xs:List Value) (wr:WR G hh w) (hx:cU G args' xs):
 lp Tryz.prog f ⟨xs⟩ w fun y w'=> ∃G',WR G' hh w'/\dF G hh w G' hh w' 0 0/\VR G' u y:=by
 simp only[jU,Option.bind_eq_some_iff,Option.some.injEq,Prod.mk.injEq] at h
 obtain⟨⟨v,s'⟩,h1,u',h2,rfl,h3⟩:=h
 exact fD (Q:=QT t) (fB ht) (fun _=>Nat.zero_lt_succ 1) hp ⟨n,by rw[ha];exact h1⟩ h3 ⟨12,h2⟩ G hh w xs wr hx
theorem Z1:jU T1 3000 89 []=some (Iu,0):=by kernel_rfl
theorem ao6:ek Tryz.prog 89 BJ:=by
 intro args v hv G h w xs wr hx
 cases args with
 |nil=>
  injection hv with hv;subst hv
  exact kB HH Z1 rfl rfl G h w xs wr hx
 |cons _ _=>cases hv
theorem Iy: ∀k i,(pZ k i).length=k
 |0,_=>rfl
 |k+1,i=>by simp[pZ,Iy k (i+1)]
theorem Ix: ∀(k i j:Nat),j<k->((pZ k i).drop j).head?=some (.int .u8 (s8 (i+j):Nat))
 |0,_,_,h=>by omega
 |k+1,i,0,_=>by simp[pZ]
 |k+1,i,j+1,h=>by
  simp only[pZ,List.drop_succ_cons]
  rw[Ix k (i+1) j (by omega),show i+1+j=i+(j+1) by omega]
end Go.Proofs.YtbfmdojdemckbaaGreat
