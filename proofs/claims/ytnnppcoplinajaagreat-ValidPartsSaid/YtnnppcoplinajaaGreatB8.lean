/- Lemmas for ValidParts. -/
import Derived.Test.YtnnppcoplinajaaGreatB7
import Derived.Test.YtnnppcoplinajaaGreatAg3
set_option linter.all false
open Go.Ag.bX renaming of→ep
open Go.IntKind renaming i64→ja
open Go.Op renaming binOp→eI
open Go.Operand renaming const→dP,tmp→aB
open Go.Ag.dH renaming of→jJ
open Go.ResultVar renaming cell→re,tmp→bQ
open Go.Ag.fy renaming of→mT
open Go.Proofs.Tryz renaming prog→ah
open Go.Value renaming bool→rf,int→ib
namespace Go.Proofs.YtnnppcoplinajaaGreat
open Go.Ag
def Yk:=({y:=_}:bw Tryz.f326 []).1
def aoM:bC 326 Tryz.f326 Yk 16 [bQ 2]:=.of
def alw:ak 326 4=0/\ak 326 8=0:=by and_intros<;>kernel_rfl
def Yy:=({y:=_}:bw Tryz.f428 []).1
def apa:bC 428 Tryz.f428 Yy 9 [bQ 4]:=.of
def Yz:=({y:=_}:bw Tryz.f429 []).1
def apb:bC 429 Tryz.f429 Yz 6 [bQ 2]:=.of
def alK:ak 429 1=1:=by kernel_rfl
def YA:=({y:=_}:bw Tryz.f430 []).1
def apc:bC 430 Tryz.f430 YA 17 [bQ 2]:=.of
def alM:ak 430 1=1/\ak 430 7=0/\ak 430 14=0:=by and_intros<;>kernel_rfl
def OP:=({y:=_}:bw Tryz.f495 []).1
def OQ:=({y:=_}:cr OP [1,0,1,0,0]).1
def apl:bC 495 Tryz.f495 OP 19 [bQ 4]:=.of
def alR:ak 495 7=0:=by kernel_rfl
def XF:=({y:=_}:bw Tryz.f235 []).1
def aoe:bC 235 Tryz.f235 XF 4 [bQ 2]:=.of
def alb:ak 235 1=0:=by kernel_rfl
def Ix:List Nat:=[0,0,0,0,0,16,0,64,240,504,1016,2044,4095,8191]
def OB:=({y:=_}:bw Tryz.f339 [Ix]).1
def OC:=({y:=_}:cr OB [1,0,0]).1
def aoS:bC 339 Tryz.f339 OB 27 []:=.of
def aly:ak 339 4=1/\ak 339 6=0/\ak 339 19=0:=by and_intros<;>kernel_rfl
noncomputable def ER:Code:=
 ((iX (Tryz.f229.body.getD .ret)).getD 0 (.ret,.ret)).1
noncomputable def EU:Code:=
 ((iX (Tryz.f229.body.getD .ret)).getD 0 (.ret,.ret)).2
noncomputable def Oj:SC:=
 (.seq (.region [dc 6 21])
 (.region [hQ 7 285,f7 285 7 22]))
noncomputable def wD:SC:=
 (.block 3 (.seq (.seq (.region [cd 23 6,bt 24 3 4,⟨some 25,eI BinOp.geq 3 (aB 23) (aB 24) 3,.aw⟩])
 (.cond (aB 25) (.exit 2) .skip))
 (.seq (.region [bt 26 285 5,bt 27 285 7,pG 28 225 26 27 285 285,dc 8 28])
 (.seq (.region [bt 29 3 4,cd 30 6,aau 31 29 30,qN 32 31 1,cd 33 32,kQ 34 3 4 33,rZ 35 6 33,⟨some 36,eI BinOp.sub 3 (aB 34) (aB 35) 3,(.when 33 false)⟩,kQ 37 3 3 33,⟨some 38,eI BinOp.sub 3 (aB 37) (dP (ib ja 1)) 3,(.when 33 false)⟩,P2 39 3 36 38 33,pH 40 33 39,dc 9 40])
 (.seq (.region [cd 41 9,cd 42 41,rX 43 8 42,JE 44 43 1 42,nk 45 42 44,cd 46 45,rZ 47 9 46,JC 48 47 46,rZ 49 48 46,rX 50 8 49,JE 51 50 0 49,PY 52 49 51 46,pH 53 46 52])
 (.cond (aB 53) (.seq (.region [FL 2])
 .ret) .skip))))))
noncomputable def ET:Code:=
 ((iX (Tryz.f229.body.getD .ret)).getD 1 (.ret,.ret)).1
noncomputable def EV:Code:=
 ((iX (Tryz.f229.body.getD .ret)).getD 1 (.ret,.ret)).2
noncomputable def Ol:SC:=
 (.seq (.region [hQ 4 3,f7 3 4 17])
 (.region [hQ 5 285,f7 285 5 18]))
noncomputable def Om:SC:=
 (.block 1 (.seq (.region [bt 19 218 1,nm 20 235 19 218])
 (.block 2 (.rfun (aB 20) [21,22] ER EU))))
noncomputable def XA:SC:=
 (.seq (.region [qO 1 218 0,hQ 2 4])
 (.seq (.seq (.region [bt 10 218 1,nm 11 326 10 218,mD 12 11])
 (.cond (aB 12) (.seq (.region [FL 2])
 .ret) .skip))
 (.seq (.region [bt 13 218 1,AI 14 13 218,hQ 3 3,f7 3 3 14])
 (.seq (.seq (.region [bt 15 218 1,nm 16 235 15 218])
 (.block 0 (.rfun (aB 16) [17,18] ET EV)))
 (.seq (.region [⟨none,Op.store 4 (aB 2) (dP (rf true)),.aw⟩])
 .ret)))))
def an5:dJ ER=Oj:=by kernel_rfl
def an7:dJ EU=wD:=by kernel_rfl
def XB:(dv ER&&dv EU)=true:=by kernel_rfl
def an6:dJ ET=Ol:=by kernel_rfl
def an8:dJ EV=Om:=by kernel_rfl
def an9:bC 229 Tryz.f229 XA 54 [re 2 4]:=.of
def Wl:ak 229 1=0/\ak 229 2=0/\ak 229 3=0/\ak 229 4=0/\ak 229 5=0/\ak 229 7=0/\ak 229 14=0:=by and_intros<;>kernel_rfl
noncomputable def E9:Code:=
 ((iX (Tryz.f329.body.getD .ret)).getD 0 (.ret,.ret)).1
noncomputable def Fa:Code:=
 ((iX (Tryz.f329.body.getD .ret)).getD 0 (.ret,.ret)).2
noncomputable def Oz:SC:=
 (.region [hQ 5 285,f7 285 5 12])
noncomputable def OA:SC:=
 (.block 1 (.region [bt 13 3 3,ce 14 285 5 0,ce 15 49 14 0,bt 16 3 15,ce 17 285 5 1,ce 18 49 17 0,bt 19 3 18,JA 20 3 16 19,ce 21 285 5 1,ce 22 49 21 1,bt 23 3 22,ce 24 285 5 0,ce 25 49 24 1,bt 26 3 25,aau 27 23 26,JB 28 3 20 27,JA 29 3 13 28,f7 3 3 29]))
noncomputable def Yl:SC:=
 (.seq (.region [oe 2 0])
 (.seq (.seq (.region [cd 6 0,nm 7 326 6 218,mD 8 7])
 (.cond (aB 8) (.seq (.region [oe 2 0])
 .ret) .skip))
 (.seq (.region [hQ 3 3,r9 3 0])
 (.seq (.seq (.region [cd 9 0,nm 10 235 9 218])
 (.block 0 (.rfun (aB 10) [11,12] E9 Fa)))
 (.seq (.region [bt 30 3 3,dc 2 30])
 .ret)))))
def aoO:dJ E9=Oz:=by kernel_rfl
def aoP:dJ Fa=OA:=by kernel_rfl
def aoR:(dv E9&&dv Fa)=true:=by kernel_rfl
def aoQ:bC 329 Tryz.f329 Yl 31 [bQ 2]:=.of
def alx:ak 329 3=0/\ak 329 5=0:=by and_intros<;>kernel_rfl
def j9:uh:=[cd 20 8,qN 21 20 0,cd 22 21,ip 23 285 7 0 22,ip 24 49 23 0 22,kd 25 3 24 22,ip 26 49 3 0 22,kd 27 3 26 22,ip 28 285 7 1 22,ip 29 49 28 0 22,kd 30 3 29 22,PV 31 443 25 27 30 3 22,nk 32 22 31,cd 33 32,ip 34 285 7 0 33,ip 35 49 34 1 33,kd 36 3 35 33,ip 37 49 3 1 33,kd 38 3 37 33,ip 39 285 7 1 33,ip 40 49 39 1 33,kd 41 3 40 33,PV 42 443 36 38 41 3 33,nk 43 33 42,dc 19 43]
def kA:uh:=[ce 45 285 7 0,ce 46 49 45 1,bt 47 3 46,ce 48 49 3 1,bt 49 3 48,asM 50 47 49,cd 51 50,ip 52 285 7 1 51,ip 53 49 52 1 51,kd 54 3 53 51,ip 55 49 3 1 51,kd 56 3 55 51,⟨some 57,eI BinOp.gtr 3 (aB 54) (aB 56) 3,(.when 51 true)⟩,nk 58 51 57,cd 59 58,rX 60 8 59,PW 61 60 59,nk 62 59 61,dc 44 62]
def kM:uh:=[ce 66 285 7 0,ce 67 49 66 1,bt 68 3 67,ce 69 49 3 1,bt 70 3 69,asN 71 3 68 70,cd 72 71,ip 73 285 7 1 72,ip 74 49 73 1 72,kd 75 3 74 72,ip 76 49 3 1 72,kd 77 3 76 72,asF 78 75 77 72,nk 79 72 78,cd 80 79,rX 81 8 80,aaE 82 81 0 80,nk 83 80 82,dc 65 83]
noncomputable def Fb:Code:=
 ((iX (Tryz.f342.body.getD .ret)).getD 0 (.ret,.ret)).1
noncomputable def Fc:Code:=
 ((iX (Tryz.f342.body.getD .ret)).getD 0 (.ret,.ret)).2
noncomputable def OG:SC:=
 (.region [hQ 7 285,f7 285 7 12])
noncomputable def OH:SC:=
 (.block 1 (.seq (.region [ce 13 285 7 0,bt 14 49 13,ce 15 285 7 1,bt 16 49 15,bt 17 49 3,FK 18 442 14 16 17 49 49 49,dc 8 18])
 (.block 2 (.seq (.region j9)
 (.cond (aB 19) (.seq (.region [r9 4 0])
 .ret) (.seq (.region kA)
 (.cond (aB 44) (.region [bt 63 3 5,CW 64 63 1,f7 3 5 64]) (.seq (.region kM)
 (.cond (aB 65) (.region [bt 84 3 5,asP 85 84,f7 3 5 85]) .skip)))))))))
noncomputable def Yn:SC:=
 (.seq (.region [qO 3 49 1,hQ 4 3])
 (.seq (.region [hQ 5 3,r9 5 0])
 (.seq (.seq (.region [cd 9 0,nm 10 235 9 218])
 (.block 0 (.rfun (aB 10) [11,12] Fb Fc)))
 (.seq (.seq (.region [bt 86 3 5,qN 87 86 0])
 (.cond (aB 87) (.seq (.region [r9 4 (-1)])
 .ret) .skip))
 (.seq (.region [r9 4 1])
 .ret)))))
def ao0:dJ Fb=OG:=by kernel_rfl
def ao1:dJ Fc=OH:=by kernel_rfl
def ao2:bC 342 Tryz.f342 Yn 88 [re 4 3]:=.of
def alA:ak 342 3=0/\ak 342 4=0/\ak 342 5=0/\ak 342 7=0:=by and_intros<;>kernel_rfl
def YB:=({y:=_}:bw Tryz.f442 []).1
def apd:bC 442 Tryz.f442 YB 30 [bQ 6]:=.of
def alN:ak 442 3=1/\ak 442 4=1/\ak 442 5=1:=by and_intros<;>kernel_rfl
def YC:=({y:=_}:bw Tryz.f443 []).1
def ape:bC 443 Tryz.f443 YC 19 [bQ 6]:=.of
def alO:ak 443 9=0/\ak 443 16=0:=by and_intros<;>kernel_rfl
def OD:=({y:=_}:bw Tryz.f340 []).1
def OE:=({y:=_}:cr OD [1,1,0,1,0,0]).1
def aoY:bC 340 Tryz.f340 OD 25 [bQ 4]:=.of
def Wp:ak 340 7=1/\ak 340 9=0/\ak 340 10=0/\ak 340 12=0/\ak 340 21=0/\ak 340 22=0:=by and_intros<;>kernel_rfl
def Ym:=({y:=_}:bw Tryz.f341 []).1
def aoZ:bC 341 Tryz.f341 Ym 10 [re 2 49]:=.of
def alz:ak 341 1=1/\ak 341 2=1:=by and_intros<;>kernel_rfl
noncomputable def EX:Code:=
 ((iX (Tryz.f236.body.getD .ret)).getD 0 (.ret,.ret)).1
noncomputable def EY:Code:=
 ((iX (Tryz.f236.body.getD .ret)).getD 0 (.ret,.ret)).2
noncomputable def On:SC:=
 (.region [hQ 8 285,f7 285 8 14])
noncomputable def EW:SC:=
 (.block 1 (.region [bt 15 218 6,ce 16 285 8 0,ce 17 49 16 0,bt 18 3 17,ce 19 285 8 1,ce 20 49 19 0,bt 21 3 20,JA 22 3 18 21,ce 23 285 8 0,ce 24 49 23 1,bt 25 3 24,ce 26 285 8 1,ce 27 49 26 1,bt 28 3 27,JA 29 3 25 28,asH 30 49 22 29,pG 31 342 15 30 218 49,⟨some 32,eI BinOp.sub 3 (dP (ib ja 1)) (aB 31) 3,.aw⟩,CZ 33 303 5 32,bt 34 3 33,CW 35 34 1,CZ 36 303 5 32,f7 3 36 35]))
noncomputable def XG:SC:=
 (.seq (.region [hQ 4 303])
 (.seq (.region [hQ 5 303])
 (.seq (.region [cd 9 1,aaD 10 340 9 341 218 401,hQ 6 218,f7 218 6 10])
 (.seq (.seq (.region [cd 11 0,nm 12 235 11 218])
 (.block 0 (.rfun (aB 12) [13,14] EX EY)))
 (.seq (.region [bt 37 303 5,f7 303 4 37])
 .ret)))))
def aof:dJ EX=On:=by kernel_rfl
def aog:dJ EY=EW:=by kernel_rfl
def aoi:(dv EX&&dv EY)=true:=by kernel_rfl
def aoh:bC 236 Tryz.f236 XG 38 [re 4 303]:=.of
def alc:ak 236 4=0/\ak 236 5=0/\ak 236 6=0/\ak 236 8=0:=by and_intros<;>kernel_rfl
def kK:List Nat:=[0,0,3,0,0,31,0,0,255,511]
noncomputable def EH:Code:=
 ((iX (Tryz.f141.body.getD .ret)).getD 0 (.ret,.ret)).1
noncomputable def EK:Code:=
 ((iX (Tryz.f141.body.getD .ret)).getD 0 (.ret,.ret)).2
noncomputable def NM:SC:=
 (.region [hQ 8 285,f7 285 8 26])
noncomputable def Cl:SC:=
 (.block 3 (.seq (.region [bt 27 285 6,bt 28 285 8,pG 29 225 27 28 285 285])
 (.block 4 (.seq (.seq (.region [qN 31 29 2,dc 30 31])
 (.cond (aB 30) .skip (.seq (.region [qN 32 29 3,dc 30 32])
 (.cond (aB 30) .skip (.region [qN 33 29 5,dc 30 33])))))
 (.cond (aB 30) (.seq (.region [r9 4 0])
 .ret) .skip)))))
noncomputable def EJ:Code:=
 ((iX (Tryz.f141.body.getD .ret)).getD 1 (.ret,.ret)).1
noncomputable def EL:Code:=
 ((iX (Tryz.f141.body.getD .ret)).getD 1 (.ret,.ret)).2
noncomputable def NN:SC:=
 (.region [hQ 6 285,f7 285 6 22])
noncomputable def NP:SC:=
 (.block 1 (.seq (.region [bt 23 218 3,nm 24 235 23 218])
 (.block 2 (.rfun (aB 24) [25,26] EH EK))))
def kL:uh:=[cd 34 0,bt 35 218 3,pG 36 236 34 35 218 218,bt 37 218 3,cd 38 0,pG 39 236 37 38 218 218,hQ 9 303,hQ 10 303,f7 303 9 36,f7 303 10 39]
noncomputable def Xg:SC:=
 (.seq (.region [qO 3 218 1,hQ 4 3])
 (.seq (.seq (.region [cd 11 0,nm 12 229 11 218,mD 13 12,cd 14 13,kQ 15 218 3 14,aaB 16 229 15 218 14,JC 17 16 14,pH 18 14 17])
 (.cond (aB 18) (.seq (.region [r9 4 0])
 .ret) .skip))
 (.seq (.seq (.region [cd 19 0,nm 20 235 19 218])
 (.block 0 (.rfun (aB 20) [21,22] EJ EL)))
 (.seq (.draw kL kK)
 (.seq (.block 5 (.seq (.region [Jz 41 303 9 0,bt 42 3 41,wW 43 42 0,cd 44 43,aaC 45 303 9 2 44,kd 46 3 45 44,PW 47 46 44,nk 48 44 47,cd 49 48,asR 50 303 10 0 49,kQ 51 3 50 49,aax 52 51 0 49,rZ 53 52 49,aaC 54 303 10 2 53,kd 55 3 54 53,PW 56 55 53,PY 57 53 56 49,pH 58 49 57,dc 40 58])
 (.cond (aB 40) (.seq (.region [r9 4 0])
 .ret) (.seq (.region [Jz 60 303 9 0,bt 61 3 60,wW 62 61 0,dc 59 62])
 (.cond (aB 59) (.seq (.region [r9 4 2])
 .ret) (.seq (.region [Jz 64 303 10 0,bt 65 3 64,wW 66 65 0,dc 63 66])
 (.cond (aB 63) (.seq (.region [r9 4 3])
 .ret) (.seq (.region [Jz 68 303 9 2,bt 69 3 68,wW 70 69 0,dc 67 70])
 (.cond (aB 67) (.seq (.region [r9 4 1])
 .ret) .skip)))))))))
 (.seq (.region [r9 4 4])
 .ret))))))
def am0:dJ EH=NM:=by kernel_rfl
def am2:dJ EK=Cl:=by kernel_rfl
def Xh:(dv EH&&dv EK)=true:=by kernel_rfl
def am1:dJ EJ=NN:=by kernel_rfl
def am3:dJ EL=NP:=by kernel_rfl
def am4:bC 141 Tryz.f141 Xg 71 [re 4 3]:=.of
def akM:ak 141 3=0/\ak 141 4=0/\ak 141 6=0/\ak 141 8=0/\ak 141 9=1/\ak 141 10=1:=by and_intros<;>kernel_rfl
def Ys:=({y:=_}:bw Tryz.f406 []).1
def ao8:bC 406 Tryz.f406 Ys 16 [bQ 4]:=.of
def alF:ak 406 3=1:=by kernel_rfl
def EG:List Nat:=[0,1,3,7,0,16,0,127]
def HT:List Nat:=[0,0,2,6,14,0,32,96,254,511,1023,2047]
def HU:List Nat:=[0,1,3,7,0,16,0,127]
def HV:SC:=(eK [Jx 24 3 23 22] (QV 24 0 (nC (xU 1 (eK [CZ 25 22 21 23,bt 26 52 25,hQ 5 52,f7 52 5 26] (.draw [cd 27 3,yP 28 27,ce 29 216 28 1,bt 30 100 29,ce 31 52 5 0,bt 32 9 31,bt 33 52 5,aaA 100 30 32 33] EG))) (yV [CW 34 23 1,cd 23 34]))))
def Cj:SC:=(eK [Jx 49 3 48 47] (QV 49 4 (nC (xU 5 (eK [CZ 50 25 46 48,bt 51 9 50,dc 10 51] (eK [cd 53 3,yP 54 53,ce 55 216 54 1,bt 56 100 55,cd 57 10,JD 58 100 56 57,cd 52 58,rY 59 52 0,rY 60 52 1,hQ 11 52,f7 52 11 59,dc 12 60] (nC (eK [cd 61 12,mD 62 61,cd 63 62,pJ 64 52 11 1 63,kQ 65 3 64 63,⟨some 66,eI BinOp.neq 3 (aB 65) (dP (ib ja 1)) 3,(.when 63 false)⟩,pH 67 63 66] (nU 67 (.exit 3) pR)) (yV [cd 68 8,ce 69 52 11 2,bt 70 49 69,aas 71 218 70,aat 72 68 71 218,dc 8 72]))))) (yV [CW 73 48 1,cd 48 73]))))
def Ck:SC:=(eK [Jx 39 3 38 37] (QV 39 2 (nC (xU 3 (eK [CZ 40 22 36 38,bt 41 52 40,hQ 7 52,f7 52 7 41] (nC (eK [ce 42 52 7 1,bt 43 3 42,aaz 44 43 3] (nU 44 (.exit 3) pR)) (eK [asG 8] (nC (eK [ce 45 52 7 3,bt 46 25 45,AI 47 46 25,Jy 48] (xU 4 (Po Cj))) (nC (eK [cd 74 8,nm 75 229 74 218,mD 76 75] (nU 76 (sdR [cd 77 3,cd 78 3,yP 79 78,ce 80 216 79 2,bt 81 25 80,ce 82 52 7 0,bt 83 9 82,aas 84 25 83,aat 85 81 84 25,yP 86 77,ce 87 216 86 2,f7 25 87 85] HT (.exit 3)) pR)) (.draw [cd 88 3,yP 89 88,ce 90 216 89 0,bt 91 214 90,ce 92 52 7 0,bt 93 9 92,cd 94 8,aaA 214 91 93 94] HU))))))) (yV [CW 95 38 1,cd 38 95]))))
def Xe:SC:=(eK [qO 1 24 0,aaH] (.scope (nC (eK [bt 13 24 1,nm 14 31 13 24,mD 15 14] (nU 15 (eK [aaH] w7) pR)) (eK [aav 16 214,aav 17 100,⟨some 18,Op.build 216 #[(0,aB 16),(1,aB 17),(2,dP (Value.slice none 0 0))],.aw⟩,qO 19 216 18,dc 3 19] (nC (eK [ce 20 24 1 0,bt 21 22 20,AI 22 21 22,Jy 23] (xU 0 (Po HV))) (nC pR (nC (eK [ce 35 24 1 0,bt 36 22 35,AI 37 36 22,Jy 38] (xU 2 (Po Ck))) (eK [cd 96 3,dc 2 96] w7))))))))
def amX:bC 137 Tryz.f137 Xe 97 [bQ 2]:=.of
def akL:ak 137 1=1/\ak 137 5=1/\ak 137 7=1/\ak 137 11=1/\ak 137 19=0/\ak 137 22=0/\ak 137 37=0/\ak 137 47=0/\ak 137 71=0/\ak 137 72=0/\ak 137 84=0/\ak 137 85=0:=by and_intros<;>kernel_rfl
def XE:=({y:=_}:bw Tryz.f233 []).1
def aod:bC 233 Tryz.f233 XE 17 [bQ 4]:=.of
def ala:ak 233 16=0:=by kernel_rfl
def NK:=({y:=_}:bw Tryz.f138 []).1
def NL:=({y:=_}:cr NK [1,1,0,1,0,0]).1
def amY:bC 138 Tryz.f138 NK 30 [bQ 4]:=.of
def Wj:ak 138 2=0/\ak 138 24=0/\ak 138 25=2:=by and_intros<;>kernel_rfl
def Ie:List Nat:=[0,0,3,0,0,31,63,0,0,511,1023,2047,4095]
def XD:=({y:=_}:bw Tryz.f231 [Ie]).1
def aob:bC 231 Tryz.f231 XD 18 [bQ 5]:=.of
def ak9:ak 231 16=0:=by kernel_rfl
def Xf:=({y:=_}:bw Tryz.f139 []).1
def amZ:bC 139 Tryz.f139 Xf 5 [bQ 4]:=.of
def YJ:List Nat:=[0,1,3,7,0,31,0,64,192,448,0,1984,4095,8191]
def Fg:=({y:=_}:bw Tryz.f60 [YJ]).1
def O1:=({y:=_}:cr Fg [1,1,1,1,0,1,0,0]).1
def Cs:=({y:=_}:cr Fg [1,1,1,1,1,1,1,0,1,0,0,1,1,0,0,1,1,0,0]).1
def Fh:=({y:=_}:cr Fg [1,1,1,1,1,1,1,0,1,0,0]).1
def apw:bC 60 Tryz.f60 Fg 76 [bQ 2]:=.of
def alU:ak 60 1=1/\ak 60 20=0/\ak 60 27=0/\ak 60 29=0/\ak 60 30=0/\ak 60 37=0/\ak 60 47=0/\ak 60 69=0/\ak 60 71=0/\ak 60 72=0:=by and_intros<;>kernel_rfl
noncomputable def E5:Code:=
 ((iX (Tryz.f299.body.getD .ret)).getD 0 (.ret,.ret)).1
noncomputable def E6:Code:=
 ((iX (Tryz.f299.body.getD .ret)).getD 0 (.ret,.ret)).2
noncomputable def Ot:SC:=
 (.seq (.region [hQ 12 49,f7 49 12 45])
 (.region [dc 13 46]))
noncomputable def E4:SC:=
 (.block 1 (.seq (.region [cd 47 13,mD 48 47,cd 49 48,kQ 50 218 10 49,kQ 51 49 12 49,P0 52 406 50 51 218 49 49,asQ 53 52 0 49,pH 54 49 53])
 (.cond (aB 54) (.seq (.region [FL 6])
 .ret) .skip)))
noncomputable def XP:SC:=
 (.seq (.region [qO 3 24 0,hQ 6 4])
 (.seq (.region [bt 14 24 3,nm 15 137 14 24,dc 7 15])
 (.seq (.seq (.region [cd 16 7,⟨some 17,eI BinOp.eql 212 (aB 16) (dP (Value.pointer none)) 212,.aw⟩])
 (.cond (aB 17) (.seq (.region [FL 6])
 .ret) .skip))
 (.seq (.region [cd 19 7,yP 20 19,ce 21 216 20 1,bt 22 100 21,cd 23 1,JD 24 100 22 23,cd 18 24,rY 25 18 0,rY 26 18 1,hQ 8 52,f7 52 8 25,dc 9 26])
 (.seq (.region [cd 28 7,yP 29 28,ce 30 216 29 0,bt 31 214 30,cd 32 2,JD 33 214 31 32,cd 27 33,rY 34 27 0,rY 35 27 1,hQ 10 218,f7 218 10 34,dc 11 35])
 (.seq (.seq (.region [cd 36 9,mD 37 36,cd 38 37,rZ 39 11 38,JC 40 39 38,pH 41 38 40])
 (.cond (aB 41) (.seq (.region [FL 6])
 .ret) .skip))
 (.seq (.seq (.region [cd 42 7,bt 43 52 8,pG 44 405 42 43 212 52])
 (.block 0 (.rfun (aB 44) [45,46] E5 E6)))
 (.seq (.region [⟨none,Op.store 4 (aB 6) (dP (rf true)),.aw⟩])
 .ret))))))))
def aov:dJ E5=Ot:=by kernel_rfl
def aow:dJ E6=E4:=by kernel_rfl
def XQ:(dv E5&&dv E6)=true:=by kernel_rfl
def aox:bC 299 Tryz.f299 XP 55 [re 6 4]:=.of
def alk:ak 299 3=0/\ak 299 6=0/\ak 299 8=0/\ak 299 10=0/\ak 299 12=0:=by and_intros<;>kernel_rfl
def Yr:=({y:=_}:bw Tryz.f405 []).1
def ao7:bC 405 Tryz.f405 Yr 6 [bQ 4]:=.of
def alE:ak 405 2=0/\ak 405 3=0:=by and_intros<;>kernel_rfl
def Cp:List Nat:=[0,1,3,7,15,7,7,103,255,511]
noncomputable def Fd:Code:=
 ((iX (Tryz.f473.body.getD .ret)).getD 0 (.ret,.ret)).1
noncomputable def Fe:Code:=
 ((iX (Tryz.f473.body.getD .ret)).getD 0 (.ret,.ret)).2
noncomputable def ON:SC:=
 (.seq (.region [hQ 8 49,f7 49 8 50])
 (.region [dc 9 51]))
noncomputable def OO:SC:=
 (.block 3 (.seq (.region [bt 52 513 3,bt 53 49 8,cd 54 9,asK 55 52 53 54 49 4,mD 56 55])
 (.cond (aB 56) .ret .skip)))
noncomputable def Cq:SC:=
 (.seq (.region [Jx 21 3 20 19])
 (.seq (.cond (aB 21) .skip (.exit 0))
 (.seq (.block 1 (.seq (.region [cd 22 20,CZ 23 25 18 20,bt 24 9 23,dc 4 22,dc 5 24])
 (.seq (.region [bt 26 212 2,yP 27 26,ce 28 216 27 1,bt 29 100 28,cd 30 5,JD 31 100 29 30,cd 25 31,rY 32 25 0,rY 33 25 1,hQ 6 52,f7 52 6 32,dc 7 33])
 (.seq (.seq (.draw [cd 34 7,mD 35 34,cd 36 35,pJ 37 52 6 1 36,kQ 38 3 37 36,kQ 39 52 1 36,rZ 40 4 36,P0 41 474 39 40 52 3 36,aar 42 3 38 41 36,pH 43 36 42] Cp)
 (.cond (aB 43) (.seq (.region [bt 44 513 3,aaG 45 49,⟨some 46,Op.call ⟨Callee.value (aB 44),#[aB 45,dP (rf false)],#[49,4]⟩,.aw⟩])
 .ret) .skip))
 (.seq (.region [bt 47 212 2,bt 48 52 6,pG 49 405 47 48 212 52])
 (.block 2 (.rfun (aB 49) [50,51] Fd Fe)))))))
 (.region [CW 57 20 1,cd 20 57]))))
noncomputable def YE:SC:=
 (.seq (.region [qO 3 513 0])
 (.seq (.seq (.region [ce 10 52 1 1,bt 11 3 10,qN 12 11 1])
 (.cond (aB 12) (.seq (.region [bt 13 513 3,ce 14 52 1 2,bt 15 49 14,⟨some 16,Op.call ⟨Callee.value (aB 13),#[aB 15,dP (rf true)],#[49,4]⟩,.aw⟩])
 .ret) .skip))
 (.seq (.region [ce 17 52 1 3,bt 18 25 17,AI 19 18 25,Jy 20])
 (.block 0 (.loop Cq)))))
def apg:dJ Fd=ON:=by kernel_rfl
def aph:dJ Fe=OO:=by kernel_rfl
def YF:(dv Fd&&dv Fe)=true:=by kernel_rfl
def apj:bC 473 Tryz.f473 YE 58 []:=.of
def alP:ak 473 3=0/\ak 473 6=0/\ak 473 8=0/\ak 473 19=0:=by and_intros<;>kernel_rfl
def YG:=({y:=_}:bw Tryz.f474 []).1
def apk:bC 474 Tryz.f474 YG 17 [bQ 4]:=.of
def alQ:ak 474 2=1:=by kernel_rfl
def afw:gL ah 216 [(0,1),(1,1),(2,1)]:=gL.of
def Qz:dH ah 4:=jJ
def Qq:dH ah 100:=jJ
def auc:dH ah 212:=jJ
def aud:dH ah 214:=jJ
def qQ:dH ah 218:=jJ
def Qw:fy ah 303 3:=mT
def auh:dH ah 513:=jJ
def RA:df ah 4=some 1:=by kernel_rfl
def acT:df ah 218=some 1:=by kernel_rfl
def Ru:df ah 303=some 3:=by kernel_rfl
def ayu:dX ah 216=some (.agg [.nilm,.nilm,.AL]):=by kernel_rfl
def DD:dX ah 218=some .AL:=by kernel_rfl
def R1:dX ah 303=some (.agg [(.int .i64 (0)),(.int .i64 (0)),(.int .i64 (0))]):=by kernel_rfl
def aik:bX ah 216 0 0:=ep
def ail:bX ah 216 1 1:=ep
def aim:bX ah 216 2 2:=ep
def yi(lc:Ag.Loc)(l g o:Nat)(i:aa):ii ah lc 303 (.Ge l g o) i=(dr i).bind fun i=>bif Nat.blt i 3 then bif Nat.beq (lc.gen l) g then some (.Ge l g (o+i*1)) else none else none:=by kernel_rfl
def uZ(k:List UInt8):lh ah 100 (.str k)=some (9,52):=by kernel_rfl
def AB(k:List UInt8):lh ah 214 (.str k)=some (9,218):=by kernel_rfl
attribute[go_sem]afw Qz Qq auc aud qQ Qw auh RA acT Ru ayu DD R1 aik ail aim yi uZ AB alw alK alM alR alb aly Wl Wl alx alA alN alO Wp Wp alz alc akM alF akL ala Wj Wj ak9 alU alk alE alP alQ Yk Yy Yz YA OP XF OB XA Yl Yn YB YC OD Ym XG Xg Ys Xe XE NK XD Xf Fg XP Yr YE YG
def NQ:List Nat:=[0,1,3,7,0,16,0,64,255]
def Xj:List Nat:=[0,1,3,7,0,16,0,64,255]
def HW:=({y:=_}:bw Tryz.f142 [NQ,Xj]).1
def HX:=({y:=_}:cr HW [1,1,1,0,1,0,0]).1
def HY:=({y:=_}:cr HW [1,1,1,1,0,1,0,0]).1
def am6:bC 142 Tryz.f142 HW 64 [bQ 2,bQ 3]:=.of
def Wk:ak 142 1=1/\ak 142 4=0/\ak 142 6=1/\ak 142 8=1/\ak 142 17=0/\ak 142 20=0/\ak 142 39=0:=by and_intros<;>kernel_rfl
def XH:=({y:=_}:bw Tryz.f237 []).1
def aoj:bC 237 Tryz.f237 XH 17 [bQ 3]:=.of
def ald:ak 237 4=1:=by kernel_rfl
def NR:=({y:=_}:bw Tryz.f143 []).1
def wC:=({y:=_}:cr NR [1,0,1,0,0]).1
def am7:bC 143 Tryz.f143 NR 43 [bQ 4]:=.of
def akN:ak 143 3=1/\ak 143 7=1/\ak 143 11=0:=by and_intros<;>kernel_rfl
def Xk:List Nat:=[0,1,3,0,0,16,48,120,248,7,1023]
def NS:=({y:=_}:bw Tryz.f144 [Xk]).1
def HZ:=({y:=_}:cr NS [1,1,1,0,1,0,0]).1
def am9:bC 144 Tryz.f144 NS 60 [bQ 4]:=.of
def akO:ak 144 3=1/\ak 144 5=0/\ak 144 6=0/\ak 144 16=0/\ak 144 33=0:=by and_intros<;>kernel_rfl
def XI:=({y:=_}:bw Tryz.f238 []).1
def aok:bC 238 Tryz.f238 XI 23 [bQ 4]:=.of
def Xm:List Nat:=[0,1,3,7,0,16,48,112,255,0,512,1536,3584,8191,16383,32767,65535,131071,262143,32767,557055,1605631,3702783,8388607,32767,16809983,50364415,117473279,268435455,536870911,1073741823]
def Xl:=({y:=_}:bw Tryz.f145 [Xm]).1
def anb:bC 145 Tryz.f145 Xl 35 [bQ 4]:=.of
def akP:ak 145 3=1:=by kernel_rfl
def O2:=({y:=_}:bw Tryz.f61 []).1
def yA:=({y:=_}:cr O2 [1,1,1,1,0,1,0,0]).1
def apx:bC 61 Tryz.f61 O2 73 [bQ 2]:=.of
def Wv:ak 61 1=1/\ak 61 8=1/\ak 61 20=0/\ak 61 43=0/\ak 61 45=0/\ak 61 46=0/\ak 61 65=0/\ak 61 67=0/\ak 61 68=0/\ak 61 72=0:=by and_intros<;>kernel_rfl
def Xt:=({y:=_}:bw Tryz.f216 []).1
def anw:bC 216 Tryz.f216 Xt 11 [bQ 2]:=.of
def ak1:ak 216 4=0:=by kernel_rfl
def XL:=({y:=_}:bw Tryz.f295 []).1
def aor:bC 295 Tryz.f295 XL 9 [bQ 4]:=.of
def OJ:=({y:=_}:bw Tryz.f402 []).1
def OL:=({y:=_}:cr OJ [1,0,1,0,0]).1
def ao4:bC 402 Tryz.f402 OJ 19 [bQ 4]:=.of
def alC:ak 402 7=0:=by kernel_rfl
def XM:=({y:=_}:bw Tryz.f296 []).1
def aos:bC 296 Tryz.f296 XM 6 [bQ 2]:=.of
def alh:ak 296 1=1:=by kernel_rfl
def wE:uh:=[ce 8 94 1 1,bt 9 9 8,aaI 10 9,cd 11 10,ip 12 94 1 1 11,kd 13 9 12 11,P1 14 163 13 9 11,PX 15 14 11,nk 16 11 15,dc 7 16]
def wF:uh:=[ce 28 94 1 3,bt 29 92 28,aaG 30 92,aaw 31 92 29 30,cd 32 31,ip 33 94 1 3 32,ip 34 92 33 0 32,kd 35 9 34 32,P1 36 163 35 9 32,rX 37 36 32,ip 38 94 1 3 37,ip 39 92 38 1 37,kd 40 9 39 37,P1 41 403 40 9 37,⟨some 42,Op.pick (aB 37) (aB 41) (dP (rf false)),(.when 32 true)⟩,PX 43 42 32,nk 44 32 43,dc 27 44]
def wG:uh:=[cd 46 3,mD 47 46,cd 48 47,ip 49 94 1 4 48,kd 50 3 49 48,JE 51 50 1 48,nk 52 48 51,cd 53 52,ip 54 94 1 4 53,kd 55 3 54 53,JE 56 55 3 53,nk 57 53 56,dc 45 57]
def XN:SC:=(eK [qO 1 94 0,rU 2] (eK [ce 4 94 1 4,bt 5 3 4,qN 6 5 2,dc 3 6] (nC (xU 0 (nC (eK wE (nU 7 pR (eK [ce 17 94 1 2,bt 18 3 17,PZ 19 18 0,dc 7 19] (nU 7 pR (eK [ce 20 94 1 2,bt 21 3 20,wW 22 21 5,dc 7 22] (nU 7 pR (yV [ce 23 94 1 5,bt 24 9 23,nm 25 163 24 9,mD 26 25,dc 7 26]))))))) (nU 7 (eK [rU 2] w7) (eK wF (nU 27 (eK [rU 2] w7) (nC (eK wG (nU 45 pR (eK [cd 58 3,ce 59 94 1 6,bt 60 25 59,AI 61 60 25,wW 62 61 0,aaw 63 4 58 62,dc 45 63] (nU 45 pR (yV [ce 64 94 1 6,bt 65 25 64,AI 66 65 25,wW 67 66 60,dc 45 67]))))) (nU 45 (eK [rU 2] w7) pR))))))) (eK [ce 68 94 1 6,bt 69 25 68,aaD 70 167 69 404 25 236,mD 71 70,dc 2 71] w7))))
def aot:bC 297 Tryz.f297 XN 72 [bQ 2]:=.of
def ali:ak 297 1=1/\ak 297 61=0/\ak 297 66=0:=by and_intros<;>kernel_rfl
def Yp:=({y:=_}:bw Tryz.f403 []).1
def ao5:bC 403 Tryz.f403 Yp 10 [bQ 2]:=.of
def alD:ak 403 7=0:=by kernel_rfl
def Yq:=({y:=_}:bw Tryz.f404 []).1
def ao6:bC 404 Tryz.f404 Yq 6 [bQ 2]:=.of
def HO:=({y:=_}:bw Tryz.f124 []).1
def Nz:=({y:=_}:cr HO [1,1,1,0,1,0,0,1,1,0,0,1,1,1,0,0]).1
def NA:=({y:=_}:cr HO [1,1,1,0,1,0,0]).1
def amB:bC 124 Tryz.f124 HO 49 [bQ 4]:=.of
def akD:ak 124 2=1/\ak 124 7=1/\ak 124 10=1/\ak 124 20=0/\ak 124 31=0/\ak 124 44=0/\ak 124 45=0:=by and_intros<;>kernel_rfl
def Xu:=({y:=_}:bw Tryz.f217 []).1
def anx:bC 217 Tryz.f217 Xu 6 [bQ 4]:=.of
def ak2:ak 217 2=0/\ak 217 3=0:=by and_intros<;>kernel_rfl
def uS:uh:=[ce 10 94 1 2,bt 11 3 10,aaz 12 11 0,cd 13 12,ip 14 94 1 2 13,kd 15 3 14 13,ip 16 52 3 1 13,kd 17 3 16 13,asE 18 3 15 17 13,nk 19 13 18]
def uT:uh:=[ce 29 94 1 3,ce 30 92 29 0,bt 31 9 30,aaI 32 31,cd 33 32,rX 34 6 33,PX 35 34 33,rX 36 35 33,rZ 37 5 36,pJ 38 94 1 3 36,pJ 39 92 38 1 36,kQ 40 9 39 36,aar 41 9 37 40 36,aaF 42 36 41 33,nk 43 33 42]
def tt:uh:=[cd 69 9,mD 70 69,cd 71 70,ip 72 94 1 1 71,kd 73 9 72 71,⟨some 74,eI BinOp.eql 9 (aB 73) (dP (Value.string {data:= #[] })) 9,(.when 71 true)⟩,rX 75 74 71,kQ 76 24 2 75,pJ 77 52 3 0 75,kQ 78 9 77 75,pJ 79 94 1 1 75,kQ 80 9 79 75,aaJ 81 299 76 78 80 24 9 9 75,aaF 82 75 81 71,nk 83 71 82,dc 4 83]
def XO:SC:=(eK [qO 3 52 0,rU 4] (nC (eK uS (nU 19 (eK [rU 4] w7) pR)) (nC (eK [ce 21 52 3 4,bt 22 50 21,ce 23 94 1 3,ce 24 92 23 0,bt 25 9 24,pG 26 214 22 25 50 9,cd 20 26,rY 27 20 0,rY 28 20 1,dc 5 27,dc 6 28] (eK uT (nU 43 (eK [rU 4] w7) pR))) (eK [ce 45 52 3 4,bt 46 50 45,ce 47 94 1 5,bt 48 9 47,pG 49 214 46 48 50 9,cd 44 49,rY 50 44 0,rY 51 44 1,dc 7 50,dc 8 51] (eK [cd 52 8,dc 9 52] (nC (eK [ce 53 94 1 4,bt 54 3 53] (xU 0 (eK [qN 56 54 3,dc 55 56] (nU 55 (yV [cd 57 8,mD 58 57,dc 9 58]) (eK [qN 60 54 2,dc 59 60] (nU 59 (yV [cd 61 8,mD 62 61,cd 63 62,pJ 64 94 1 6 63,kQ 65 25 64 63,rZ 66 7 63,P0 67 130 65 66 25 9 63,pH 68 63 67,dc 9 68]) pR)))))) (eK tt w7)))))))
def aou:bC 298 Tryz.f298 XO 84 [bQ 4]:=.of
def alj:ak 298 3=1:=by kernel_rfl
def IM:=({y:=_}:bw Tryz.f57 []).1
def IP:=({y:=_}:cr IM [1,1,0,1,0,0]).1
def IQ:=({y:=_}:cr IM [1,1,1,1,0,1,0,0]).1
def apo:bC 57 Tryz.f57 IM 50 [bQ 4]:=.of
def Ws:ak 57 2=1/\ak 57 7=1/\ak 57 10=1/\ak 57 15=0/\ak 57 32=0/\ak 57 44=0/\ak 57 46=0/\ak 57 47=0:=by and_intros<;>kernel_rfl
def N4:=({y:=_}:bw Tryz.f214 []).1
def H8:=({y:=_}:cr N4 [1,0,1,0,0]).1
def anv:bC 214 Tryz.f214 N4 21 [bQ 4,bQ 5]:=.of
def ak0:ak 214 7=1/\ak 214 9=0:=by and_intros<;>kernel_rfl
def XJ:=({y:=_}:bw Tryz.f28 []).1
def aoq:bC 28 Tryz.f28 XJ 9 [re 4 24]:=.of
def alg:ak 28 2=1/\ak 28 3=0/\ak 28 4=1:=by and_intros<;>kernel_rfl
def YL:=({y:=_}:bw Tryz.f73 []).1
def apI:bC 73 Tryz.f73 YL 13 [bQ 5]:=.of
def YK:=({y:=_}:bw Tryz.f72 []).1
def apH:bC 72 Tryz.f72 YK 12 [bQ 4]:=.of
def alX:ak 72 2=1/\ak 72 3=0:=by and_intros<;>kernel_rfl
def H0:List Nat:=[0,0,2,6,6,31,63]
def Xo:=({y:=_}:bw Tryz.f158 [H0]).1
def ang:bC 158 Tryz.f158 Xo 10 [bQ 3]:=.of
def akR:ak 158 2=1:=by kernel_rfl
def NT:=({y:=_}:bw Tryz.f157 []).1
def NV:=({y:=_}:cr NT [1,1,0,1,0,0]).1
def anf:bC 157 Tryz.f157 NT 23 [bQ 4]:=.of
def akQ:ak 157 7=1/\ak 157 9=0/\ak 157 19=0/\ak 157 20=0:=by and_intros<;>kernel_rfl
def Xp:=({y:=_}:bw Tryz.f159 []).1
def anh:bC 159 Tryz.f159 Xp 18 [bQ 2,bQ 3]:=.of
def akS:ak 159 1=1:=by kernel_rfl
def EN:=({y:=_}:bw Tryz.f18 []).1
def NY:=({y:=_}:cr EN [1,1,1,1,1,0,1,0,0,1,1,0,0,1,1,1,0,0,1,1,0,0,1,1,0,0]).1
def NZ:=({y:=_}:cr EN [1,1,1,1,1,0,1,0,0,1,1,0,0,1,1,1,0,0]).1
def N3:=({y:=_}:cr EN [1,1,1,1,1,0,1,0,0]).1
def anu:bC 18 Tryz.f18 EN 57 [bQ 4]:=.of
def akY:ak 18 2=1/\ak 18 3=0/\ak 18 10=1/\ak 18 14=1/\ak 18 20=0/\ak 18 21=0/\ak 18 24=0/\ak 18 25=0/\ak 18 34=0/\ak 18 42=0/\ak 18 51=0/\ak 18 52=0:=by and_intros<;>kernel_rfl
def YI:=({y:=_}:bw Tryz.f56 []).1
def IL:bC 56 Tryz.f56 YI 8 [bQ 3]:=.of
def alT:ak 56 2=1:=by kernel_rfl
def IR:=({y:=_}:bw Tryz.f58 []).1
def IT:=({y:=_}:cr IR [1,1,1,0,1,0,0,1,1,0,0,1,1,0,0]).1
def OT:=({y:=_}:cr IR [1,1,1,0,1,0,0]).1
def apq:bC 58 Tryz.f58 IR 46 [bQ 2]:=.of
def Wt:ak 58 1=1/\ak 58 6=1/\ak 58 13=0/\ak 58 20=0/\ak 58 39=0/\ak 58 41=0/\ak 58 42=0:=by and_intros<;>kernel_rfl
def W4:=({y:=_}:bw Tryz.f125 []).1
def amC:bC 125 Tryz.f125 W4 17 [bQ 2]:=.of
def akE:ak 125 1=1/\ak 125 8=0/\ak 125 12=0/\ak 125 15=0:=by and_intros<;>kernel_rfl
def Xv:List Nat:=[0,0,0,6,0,0,48,126,255,511]
def N5:=({y:=_}:bw Tryz.f218 [Xv]).1
def EO:=({y:=_}:cr N5 [1,1,1,1,1,1,0,0,0]).1
def anz:bC 218 Tryz.f218 N5 48 [bQ 4]:=.of
def ak3:ak 218 14=0/\ak 218 30=0/\ak 218 33=0/\ak 218 36=0/\ak 218 45=0:=by and_intros<;>kernel_rfl
def O3:=({y:=_}:bw Tryz.f65 []).1
def O4:=({y:=_}:cr O3 [1,1,0,1,0,0]).1
def apy:bC 65 Tryz.f65 O3 23 [bQ 2]:=.of
def alV:ak 65 1=1/\ak 65 5=1/\ak 65 8=0/\ak 65 12=0:=by and_intros<;>kernel_rfl
def k23:=({y:=_}:bw Tryz.f23 []).1
def afs:gL ah 187 [(0,1),(1,1)]:=gL.of
def afx:gL ah 228 [(0,1),(1,1),(2,1)]:=gL.of
def LF:ue ah 306 1:=ue.of
def Qs:dH ah 27:=jJ
def Qu:fy ah 29 6:=mT
def Qx:fy ah 31 3:=mT
def QA:fy ah 94 8:=mT
def QB:dH ah 97:=jJ
def at6:dH ah 107:=jJ
def at8:fy ah 187 2:=mT
def aue:dH ah 222:=jJ
def Qr:dH ah 225:=jJ
def auf:dH ah 226:=jJ
def Rx:df ah 31=some 3:=by kernel_rfl
def RB:df ah 94=some 8:=by kernel_rfl
def awr:df ah 187=some 2:=by kernel_rfl
def awx:df ah 222=some 1:=by kernel_rfl
def Rv:df ah 306=some 2:=by kernel_rfl
def R7:dX ah 94=some (.agg [(.bool false),(.str []),(.int .i64 (0)),(.str []),(.str []),(.int .i64 (0)),(.str []),.AL]):=by kernel_rfl
def ayp:dX ah 187=some (.agg [(.int .i64 (0)),(.str [])]):=by kernel_rfl
def ayv:dX ah 222=some .nilp:=by kernel_rfl
def ayw:dX ah 228=some (.agg [.AL,.nilm,.nilm]):=by kernel_rfl
def R3:dX ah 306=some (.agg [(.bool false),(.bool false)]):=by kernel_rfl
def Hm:bX ah 29 4 4:=ep
def ME:bX ah 29 5 5:=ep
def MF:bX ah 31 0 0:=ep
def MO:bX ah 94 0 0:=ep
def MP:bX ah 94 1 1:=ep
def MQ:bX ah 94 2 2:=ep
def MR:bX ah 94 3 3:=ep
def MS:bX ah 94 4 5:=ep
def Ho:bX ah 94 5 6:=ep
def MT:bX ah 94 6 7:=ep
def aie:bX ah 187 0 0:=ep
def aif:bX ah 187 1 1:=ep
def ain:bX ah 228 0 0:=ep
def aio:bX ah 228 1 1:=ep
def aip:bX ah 228 2 2:=ep
def Eo(cs:List aa):wt ah 52 (.agg cs) 1=iq ah 3 cs 1:=by kernel_rfl
def pS:fY ah 27 8 112 true (.agg [(.bool false),(.str []),(.int .i64 (0)),(.str []),(.str []),(.int .i64 (0)),(.str []),.AL]):=fY.of
def Dj:fY ah 98 1 8 false .nilf:=fY.of
def J2:fY ah 184 2 24 true (.agg [(.int .i64 (0)),(.str [])]):=fY.of
def Wx(lc:Ag.Loc)(l g o:Nat)(i:aa):ii ah lc 306 (.Ge l g o) i=(dr i).bind fun i=>bif Nat.blt i 2 then bif Nat.beq (lc.gen l) g then some (.Ge l g (o+i*1)) else none else none:=by kernel_rfl
def CD(k:List UInt8):lh ah 225 (.str k)=some (9,49):=by kernel_rfl
def CE(k:List UInt8):lh ah 226 (.str k)=some (9,25):=by kernel_rfl
attribute[go_sem]afs afx LF Qs Qu Qx QA QB at6 at8 aue Qr auf Rx RB awr awx Rv R7 ayp ayv ayw R3 Hm Hm ME MF MO MP MQ MR MS Ho Ho MT aie aif ain aio aip Eo pS jn jn Dj J2 pS CD CE Wk Wk ald akN akO akP Wv Wv ak1 alC alh ali alD akD ak2 alj Ws Ws ak0 alg alX akR akQ akS akY alT Wt Wt akE ak3 alV HW XH NR NS XI Xl O2 Xt XL OJ XM XN Yp Yq HO Xu XO IM N4 XJ YL YK Xo NT Xp EN YI IR W4 N5 O3 k23
def anI:fe Og=(3,[7,15,31]):=by kernel_rfl
def anJ:fe Oh=(13,[8191,16383,32767]):=by kernel_rfl
def anK:fe Oi=(13,[8191,16383,32767]):=by kernel_rfl
def N9:fe Xz=(19,[524287,1048575]):=by kernel_rfl
def aoB:fe XV=(12,[4095,8191,16383]):=by kernel_rfl
def anE:fe Xy=(9,[511,1023]):=by kernel_rfl
def amM:fe W9=(15,[32767]):=by kernel_rfl
def amN:fe Xa=(17,[131071]):=by kernel_rfl
def amL:fe W8=(14,[16383]):=by kernel_rfl
def amR:fe Xb=(9,[511]):=by kernel_rfl
def amW:fe EG=(7,[127]):=by kernel_rfl
def apv:fe YJ=(12,[4095,8191]):=by kernel_rfl
def api:fe Cp=(8,[255,511]):=by kernel_rfl
def am5:fe NQ=(8,[255]):=by kernel_rfl
def am8:fe Xk=(10,[1023]):=by kernel_rfl
def ana:fe Xm=(28,[268435455,536870911,1073741823]):=by kernel_rfl
attribute[go_sem]anI anJ anK N9 aoB anE amM amN amL amR amW apv api am5 am8 ana
def XR:=({y:=_}:bw Tryz.f300 []).1
def aoz:bC 300 Tryz.f300 XR 30 [bQ 4,bQ 5]:=.of
def Yt:=({y:=_}:bw Tryz.f408 []).1
def ao9:bC 408 Tryz.f408 Yt 51 [bQ 4,bQ 5]:=.of
attribute[go_sem]XR Yt
def aps:List Nat:=[0,0,0,6,14,31,0,127]
def apt:List Nat:=[0,0,0,0,12,28,63,127]
def apu:List Nat:=[0,1,0,4,0,28,60,124,255,511,1023]
def k5:=({y:=_}:bw Tryz.f5 [aps,apt,apu]).1
def ayF:=({y:=_}:cr k5 [1,1,1,1,1,1,1,1,0,1,0,0]).1
def ayG:=({y:=_}:cr k5 [1,1,1,1,1,1,1,1,1,1,1,0,1,0,0]).1
def ayH:=({y:=_}:cr k5 [1,1,1,1,1,1,1,1,1,1,1,1,1,0,1,0,0]).1
def XK:=({y:=_}:bw Tryz.f29 []).1
def ayE:=({y:=_}:cr XK [1,1,1,1,1,0,1,0,0]).1
def NW:=({y:=_}:bw Tryz.f16 []).1
def H6:=({y:=_}:cr NW [1,0,1,0,0]).1
def ans:bC 16 Tryz.f16 NW 36 [bQ 6]:=.of
def akT:ak 16 3=1/\ak 16 4=1/\ak 16 11=0/\ak 16 20=0/\ak 16 28=0:=by and_intros<;>kernel_rfl
def Cr:List Nat:=[0,0,3,7,15,31,0,0,192,448,960,1984,4095,0,0,24576,57344,122880,253952,516096,1048575,0,0,6291456,14680064,31457280,65011712,132120576,268435455,536870911,1073741823,2147483647,2147483647,8589934591,17179869183,34359738367,68719476735,137438953471,274877906943]
def IJ:=({y:=_}:bw Tryz.f55 [Cr]).1
def IK:=({y:=_}:cr IJ [1,0,1,0,0,1,0,0,1,1,0,0]).1
def Ff:=({y:=_}:cr IJ [1,0,1,0,0]).1
def apn:bC 55 Tryz.f55 IJ 76 [bQ 4]:=.of
def alS:ak 55 9=0/\ak 55 18=0/\ak 55 24=0/\ak 55 32=0/\ak 55 40=0/\ak 55 49=0/\ak 55 58=0/\ak 55 70=0/\ak 55 73=0:=by and_intros<;>kernel_rfl
def Av:List Nat:=[0,0,3,7,15,0,0,96,224,480,1023,2047,4095,4095,16383,32767,65535,4095,4095,397311,921599,1970175,4194303,8388607,16777215,33554431,33554431,134217727,268435455,536870911,33554431,33554431,3254779903,7549747199,16139681791,34359738367,68719476735,137438953471]
def NX:=({y:=_}:bw Tryz.f17 [Av]).1
def Cm:=({y:=_}:cr NX [1,1,0,1,0,0]).1
def ant:bC 17 Tryz.f17 NX 55 [bQ 4]:=.of
def akX:ak 17 7=0/\ak 17 9=0/\ak 17 13=0:=by and_intros<;>kernel_rfl
def k30:=({y:=_}:bw Tryz.f30 []).1
def k74:=({y:=_}:bw Tryz.f74 []).1
def H7:=({y:=_}:bw Tryz.f21 []).1
def N6:=({y:=_}:cr H7 [1,1,1,1,1,1,0,1,0,0]).1
def H9:=({y:=_}:cr H7 [1,1,1,1,1,1,1,1,0,1,0,0]).1
def anB:bC 21 Tryz.f21 H7 50 [re 4 24]:=.of
def akZ:ak 21 2=1/\ak 21 4=1/\ak 21 5=0/\ak 21 6=0/\ak 21 7=0/\ak 21 10=1/\ak 21 12=1/\ak 21 22=0/\ak 21 33=0/\ak 21 45=0/\ak 21 46=0:=by and_intros<;>kernel_rfl
def O5:=({y:=_}:bw Tryz.f66 []).1
def O6:=({y:=_}:cr O5 [1,1,1,0,0]).1
def apz:bC 66 Tryz.f66 O5 25 []:=.of
def alW:ak 66 16=0:=by kernel_rfl
def aon:List Nat:=[0,0,0,0,14,31,0,127,0,511,1023]
def k25:=({y:=_}:bw Tryz.f25 [aon]).1
def k67:=({y:=_}:bw Tryz.f67 []).1
def O7:=({y:=_}:bw Tryz.f68 []).1
def ayI:=({y:=_}:cr O7 [1,1,0,1,0,1,0,1,0,0]).1
def ayJ:=({y:=_}:cr O7 [1,1,0,1,0,1,1,1,0,1,0,0]).1
def k69:=({y:=_}:bw Tryz.f69 []).1
def at5:dH ah 102:=jJ
def awp:df ah 100=some 1:=by kernel_rfl
def awq:df ah 102=some 1:=by kernel_rfl
def ayn:dX ah 100=some .nilm:=by kernel_rfl
def ayo:dX ah 102=some .nilf:=by kernel_rfl
def aiq:bX ah 31 1 1:=ep
def aiC(cs:List aa):wt ah 52 (.agg cs) 3=iq ah 25 cs 4:=by kernel_rfl
attribute[go_sem]at5 awp awq ayn ayo aiq aiC pS akT alS akX akZ alW k5 XK NW IJ NX k30 k74 H7 O5 k25 k67 O7 k69
def YH:List Nat:=[0,0,3,0,15,31]
def k4:=({y:=_}:bw Tryz.f4 [YH]).1
def OS:=({y:=_}:cr k4 [1,1,1,1,1,0,1,0,0]).1
def apm:bC 4 Tryz.f4 k4 44 [bQ 6]:=.of
def alB:ak 4 3=1/\ak 4 4=1/\ak 4 18=0/\ak 4 32=0:=by and_intros<;>kernel_rfl
def Ax:List Nat:=[0,0,3,7,15,0,32,127,255,511,511,2047,4095,8191,511,16895,65535,131071,262143,524287,524287,2097151,4194303,8388607,524287,17301503,67108863,134217727]
def Oq:=({y:=_}:bw Tryz.f27 [Ax]).1
def Co:=({y:=_}:cr Oq [1,0,1,0,0]).1
def aoo:bC 27 Tryz.f27 Oq 40 [bQ 4]:=.of
def alf:ak 27 3=1/\ak 27 8=0:=by and_intros<;>kernel_rfl
attribute[go_sem]alB alf k4 Oq
