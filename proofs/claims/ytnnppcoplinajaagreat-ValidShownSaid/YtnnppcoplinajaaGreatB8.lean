/- Lemmas for ValidShown. -/
import Derived.Test.YtnnppcoplinajaaGreatB7
import Derived.Test.YtnnppcoplinajaaGreatAg3
set_option linter.all false
open Go.Ag.cd renaming of→ew
open Go.IntKind renaming i64→iG
open Go.Op renaming binOp→ey
open Go.Operand renaming const→dJ,tmp→aC
open Go.Ag.dU renaming of→jK
open Go.ResultVar renaming cell→rE,tmp→bJ
open Go.Ag.fw renaming of→ng
open Go.Proofs.Tryz renaming prog→ah
open Go.Value renaming bool→rF,int→gX
namespace Go.Proofs.YtnnppcoplinajaaGreat
open Go.Ag
def Zj:=({y:=_}:bw Tryz.f326 []).1
def aqn:bt 326 Tryz.f326 Zj 16 [bJ 2]:=.of
def am1:aj 326 4=0/\aj 326 8=0:=by and_intros<;>kernel_rfl
def Zx:=({y:=_}:bw Tryz.f428 []).1
def aqM:bt 428 Tryz.f428 Zx 9 [bJ 4]:=.of
def Zy:=({y:=_}:bw Tryz.f429 []).1
def aqN:bt 429 Tryz.f429 Zy 6 [bJ 2]:=.of
def anf:aj 429 1=1:=by kernel_rfl
def Zz:=({y:=_}:bw Tryz.f430 []).1
def aqO:bt 430 Tryz.f430 Zz 17 [bJ 2]:=.of
def ang:aj 430 1=1/\aj 430 7=0/\aj 430 14=0:=by and_intros<;>kernel_rfl
def Px:=({y:=_}:bw Tryz.f495 []).1
def Py:=({y:=_}:cx Px [1,0,1,0,0]).1
def aqX:bt 495 Tryz.f495 Px 19 [bJ 4]:=.of
def anl:aj 495 7=0:=by kernel_rfl
def YA:=({y:=_}:bw Tryz.f235 []).1
def apR:bt 235 Tryz.f235 YA 4 [bJ 2]:=.of
def amH:aj 235 1=0:=by kernel_rfl
def I6:List Nat:=[0,0,0,0,0,16,0,64,240,504,1016,2044,4095,8191]
def Pk:=({y:=_}:bw Tryz.f339 [I6]).1
def Pl:=({y:=_}:cx Pk [1,0,0]).1
def aqu:bt 339 Tryz.f339 Pk 27 []:=.of
def am3:aj 339 4=1/\aj 339 6=0/\aj 339 19=0:=by and_intros<;>kernel_rfl
noncomputable def Fc:Code:=
 ((jc (Tryz.f229.body.getD .ret)).getD 0 (.ret,.ret)).1
noncomputable def Fe:Code:=
 ((jc (Tryz.f229.body.getD .ret)).getD 0 (.ret,.ret)).2
noncomputable def O5:SC:=
 (.seq (.region [db 6 21])
 (.region [io 7 285,f8 285 7 22]))
noncomputable def wN:SC:=
 (.block 3 (.seq (.seq (.region [bR 23 6,br 24 3 4,⟨some 25,ey BinOp.geq 3 (aC 23) (aC 24) 3,.aw⟩])
 (.cond (aC 25) (.exit 2) .skip))
 (.seq (.region [br 26 285 5,br 27 285 7,pg 28 225 26 27 285 285,db 8 28])
 (.seq (.region [br 29 3 4,bR 30 6,abx 31 29 30,rd 32 31 1,bR 33 32,iB 34 3 4 33,jC 35 6 33,⟨some 36,ey BinOp.sub 3 (aC 34) (aC 35) 3,(.when 33 false)⟩,iB 37 3 3 33,⟨some 38,ey BinOp.sub 3 (aC 37) (dJ (gX iG 1)) 3,(.when 33 false)⟩,QN 39 3 36 38 33,lA 40 33 39,db 9 40])
 (.seq (.region [bR 41 9,bR 42 41,jS 43 8 42,J7 44 43 1 42,kZ 45 42 44,bR 46 45,jC 47 9 46,F6 48 47 46,jC 49 48 46,jS 50 8 49,J7 51 50 0 49,J3 52 49 51 46,lA 53 46 52])
 (.cond (aC 53) (.seq (.region [F8 2])
 .ret) .skip))))))
noncomputable def Fd:Code:=
 ((jc (Tryz.f229.body.getD .ret)).getD 1 (.ret,.ret)).1
noncomputable def Ff:Code:=
 ((jc (Tryz.f229.body.getD .ret)).getD 1 (.ret,.ret)).2
noncomputable def O6:SC:=
 (.seq (.region [io 4 3,f8 3 4 17])
 (.region [io 5 285,f8 285 5 18]))
noncomputable def O7:SC:=
 (.block 1 (.seq (.region [br 19 218 1,nJ 20 235 19 218])
 (.block 2 (.rfun (aC 20) [21,22] Fc Fe))))
noncomputable def Yu:SC:=
 (.seq (.region [re 1 218 0,io 2 4])
 (.seq (.seq (.region [br 10 218 1,nJ 11 326 10 218,mN 12 11])
 (.cond (aC 12) (.seq (.region [F8 2])
 .ret) .skip))
 (.seq (.region [br 13 218 1,zf 14 13 218,io 3 3,f8 3 3 14])
 (.seq (.seq (.region [br 15 218 1,nJ 16 235 15 218])
 (.block 0 (.rfun (aC 16) [17,18] Fd Ff)))
 (.seq (.region [⟨none,Op.store 4 (aC 2) (dJ (rF true)),.aw⟩])
 .ret)))))
def apI:dY Fc=O5:=by kernel_rfl
def apK:dY Fe=wN:=by kernel_rfl
def Yv:(dB Fc&&dB Fe)=true:=by kernel_rfl
def apJ:dY Fd=O6:=by kernel_rfl
def apL:dY Ff=O7:=by kernel_rfl
def apM:bt 229 Tryz.f229 Yu 54 [rE 2 4]:=.of
def Xn:aj 229 1=0/\aj 229 2=0/\aj 229 3=0/\aj 229 4=0/\aj 229 5=0/\aj 229 7=0/\aj 229 14=0:=by and_intros<;>kernel_rfl
noncomputable def Fq:Code:=
 ((jc (Tryz.f329.body.getD .ret)).getD 0 (.ret,.ret)).1
noncomputable def Fs:Code:=
 ((jc (Tryz.f329.body.getD .ret)).getD 0 (.ret,.ret)).2
noncomputable def Ph:SC:=
 (.region [io 5 285,f8 285 5 12])
noncomputable def Pj:SC:=
 (.block 1 (.region [br 13 3 3,cj 14 285 5 0,cj 15 49 14 0,br 16 3 15,cj 17 285 5 1,cj 18 49 17 0,br 19 3 18,J0 20 3 16 19,cj 21 285 5 1,cj 22 49 21 1,br 23 3 22,cj 24 285 5 0,cj 25 49 24 1,br 26 3 25,abx 27 23 26,J1 28 3 20 27,J0 29 3 13 28,f8 3 3 29]))
noncomputable def Zk:SC:=
 (.seq (.region [oo 2 0])
 (.seq (.seq (.region [bR 6 0,nJ 7 326 6 218,mN 8 7])
 (.cond (aC 8) (.seq (.region [oo 2 0])
 .ret) .skip))
 (.seq (.region [io 3 3,sw 3 0])
 (.seq (.seq (.region [bR 9 0,nJ 10 235 9 218])
 (.block 0 (.rfun (aC 10) [11,12] Fq Fs)))
 (.seq (.region [br 30 3 3,db 2 30])
 .ret)))))
def aqp:dY Fq=Ph:=by kernel_rfl
def aqq:dY Fs=Pj:=by kernel_rfl
def aqs:(dB Fq&&dB Fs)=true:=by kernel_rfl
def aqr:bt 329 Tryz.f329 Zk 31 [bJ 2]:=.of
def am2:aj 329 3=0/\aj 329 5=0:=by and_intros<;>kernel_rfl
def kh:uD:=[bR 20 8,rd 21 20 0,bR 22 21,fJ 23 285 7 0 22,fJ 24 49 23 0 22,gJ 25 3 24 22,fJ 26 49 3 0 22,gJ 27 3 26 22,fJ 28 285 7 1 22,fJ 29 49 28 0 22,gJ 30 3 29 22,QG 31 443 25 27 30 3 22,kZ 32 22 31,bR 33 32,fJ 34 285 7 0 33,fJ 35 49 34 1 33,gJ 36 3 35 33,fJ 37 49 3 1 33,gJ 38 3 37 33,fJ 39 285 7 1 33,fJ 40 49 39 1 33,gJ 41 3 40 33,QG 42 443 36 38 41 3 33,kZ 43 33 42,db 19 43]
def kI:uD:=[cj 45 285 7 0,cj 46 49 45 1,br 47 3 46,cj 48 49 3 1,br 49 3 48,auv 50 47 49,bR 51 50,fJ 52 285 7 1 51,fJ 53 49 52 1 51,gJ 54 3 53 51,fJ 55 49 3 1 51,gJ 56 3 55 51,⟨some 57,ey BinOp.gtr 3 (aC 54) (aC 56) 3,(.when 51 true)⟩,kZ 58 51 57,bR 59 58,jS 60 8 59,QH 61 60 59,kZ 62 59 61,db 44 62]
def kW:uD:=[cj 66 285 7 0,cj 67 49 66 1,br 68 3 67,cj 69 49 3 1,br 70 3 69,auw 71 3 68 70,bR 72 71,fJ 73 285 7 1 72,fJ 74 49 73 1 72,gJ 75 3 74 72,fJ 76 49 3 1 72,gJ 77 3 76 72,aup 78 75 77 72,kZ 79 72 78,bR 80 79,jS 81 8 80,QO 82 81 0 80,kZ 83 80 82,db 65 83]
noncomputable def Ft:Code:=
 ((jc (Tryz.f342.body.getD .ret)).getD 0 (.ret,.ret)).1
noncomputable def Fu:Code:=
 ((jc (Tryz.f342.body.getD .ret)).getD 0 (.ret,.ret)).2
noncomputable def Po:SC:=
 (.region [io 7 285,f8 285 7 12])
noncomputable def Pp:SC:=
 (.block 1 (.seq (.region [cj 13 285 7 0,br 14 49 13,cj 15 285 7 1,br 16 49 15,br 17 49 3,F7 18 442 14 16 17 49 49 49,db 8 18])
 (.block 2 (.seq (.region kh)
 (.cond (aC 19) (.seq (.region [sw 4 0])
 .ret) (.seq (.region kI)
 (.cond (aC 44) (.region [br 63 3 5,Dj 64 63 1,f8 3 5 64]) (.seq (.region kW)
 (.cond (aC 65) (.region [br 84 3 5,auy 85 84,f8 3 5 85]) .skip)))))))))
noncomputable def Zm:SC:=
 (.seq (.region [re 3 49 1,io 4 3])
 (.seq (.region [io 5 3,sw 5 0])
 (.seq (.seq (.region [bR 9 0,nJ 10 235 9 218])
 (.block 0 (.rfun (aC 10) [11,12] Ft Fu)))
 (.seq (.seq (.region [br 86 3 5,rd 87 86 0])
 (.cond (aC 87) (.seq (.region [sw 4 (-1)])
 .ret) .skip))
 (.seq (.region [sw 4 1])
 .ret)))))
def aqC:dY Ft=Po:=by kernel_rfl
def aqD:dY Fu=Pp:=by kernel_rfl
def aqE:bt 342 Tryz.f342 Zm 88 [rE 4 3]:=.of
def am5:aj 342 3=0/\aj 342 4=0/\aj 342 5=0/\aj 342 7=0:=by and_intros<;>kernel_rfl
def ZA:=({y:=_}:bw Tryz.f442 []).1
def aqP:bt 442 Tryz.f442 ZA 30 [bJ 6]:=.of
def anh:aj 442 3=1/\aj 442 4=1/\aj 442 5=1:=by and_intros<;>kernel_rfl
def ZB:=({y:=_}:bw Tryz.f443 []).1
def aqQ:bt 443 Tryz.f443 ZB 19 [bJ 6]:=.of
def ani:aj 443 9=0/\aj 443 16=0:=by and_intros<;>kernel_rfl
def Pm:=({y:=_}:bw Tryz.f340 []).1
def Pn:=({y:=_}:cx Pm [1,1,0,1,0,0]).1
def aqA:bt 340 Tryz.f340 Pm 25 [bJ 4]:=.of
def Xs:aj 340 7=1/\aj 340 9=0/\aj 340 10=0/\aj 340 12=0/\aj 340 21=0/\aj 340 22=0:=by and_intros<;>kernel_rfl
def Zl:=({y:=_}:bw Tryz.f341 []).1
def aqB:bt 341 Tryz.f341 Zl 10 [rE 2 49]:=.of
def am4:aj 341 1=1/\aj 341 2=1:=by and_intros<;>kernel_rfl
noncomputable def Fh:Code:=
 ((jc (Tryz.f236.body.getD .ret)).getD 0 (.ret,.ret)).1
noncomputable def Fi:Code:=
 ((jc (Tryz.f236.body.getD .ret)).getD 0 (.ret,.ret)).2
noncomputable def O8:SC:=
 (.region [io 8 285,f8 285 8 14])
noncomputable def Fg:SC:=
 (.block 1 (.region [br 15 218 6,cj 16 285 8 0,cj 17 49 16 0,br 18 3 17,cj 19 285 8 1,cj 20 49 19 0,br 21 3 20,J0 22 3 18 21,cj 23 285 8 0,cj 24 49 23 1,br 25 3 24,cj 26 285 8 1,cj 27 49 26 1,br 28 3 27,J0 29 3 25 28,aur 30 49 22 29,pg 31 342 15 30 218 49,⟨some 32,ey BinOp.sub 3 (dJ (gX iG 1)) (aC 31) 3,.aw⟩,Bd 33 303 5 32,br 34 3 33,Dj 35 34 1,Bd 36 303 5 32,f8 3 36 35]))
noncomputable def YB:SC:=
 (.seq (.region [io 4 303])
 (.seq (.region [io 5 303])
 (.seq (.region [bR 9 1,abE 10 340 9 341 218 401,io 6 218,f8 218 6 10])
 (.seq (.seq (.region [bR 11 0,nJ 12 235 11 218])
 (.block 0 (.rfun (aC 12) [13,14] Fh Fi)))
 (.seq (.region [br 37 303 5,f8 303 4 37])
 .ret)))))
def apS:dY Fh=O8:=by kernel_rfl
def apT:dY Fi=Fg:=by kernel_rfl
def apV:(dB Fh&&dB Fi)=true:=by kernel_rfl
def apU:bt 236 Tryz.f236 YB 38 [rE 4 303]:=.of
def amI:aj 236 4=0/\aj 236 5=0/\aj 236 6=0/\aj 236 8=0:=by and_intros<;>kernel_rfl
def kU:List Nat:=[0,0,3,0,0,31,0,0,255,511]
noncomputable def E4:Code:=
 ((jc (Tryz.f141.body.getD .ret)).getD 0 (.ret,.ret)).1
noncomputable def E6:Code:=
 ((jc (Tryz.f141.body.getD .ret)).getD 0 (.ret,.ret)).2
noncomputable def Oz:SC:=
 (.region [io 8 285,f8 285 8 26])
noncomputable def CH:SC:=
 (.block 3 (.seq (.region [br 27 285 6,br 28 285 8,pg 29 225 27 28 285 285])
 (.block 4 (.seq (.seq (.region [rd 31 29 2,db 30 31])
 (.cond (aC 30) .skip (.seq (.region [rd 32 29 3,db 30 32])
 (.cond (aC 30) .skip (.region [rd 33 29 5,db 30 33])))))
 (.cond (aC 30) (.seq (.region [sw 4 0])
 .ret) .skip)))))
noncomputable def E5:Code:=
 ((jc (Tryz.f141.body.getD .ret)).getD 1 (.ret,.ret)).1
noncomputable def E7:Code:=
 ((jc (Tryz.f141.body.getD .ret)).getD 1 (.ret,.ret)).2
noncomputable def OA:SC:=
 (.region [io 6 285,f8 285 6 22])
noncomputable def OB:SC:=
 (.block 1 (.seq (.region [br 23 218 3,nJ 24 235 23 218])
 (.block 2 (.rfun (aC 24) [25,26] E4 E6))))
def kV:uD:=[bR 34 0,br 35 218 3,pg 36 236 34 35 218 218,br 37 218 3,bR 38 0,pg 39 236 37 38 218 218,io 9 303,io 10 303,f8 303 9 36,f8 303 10 39]
noncomputable def X9:SC:=
 (.seq (.region [re 3 218 1,io 4 3])
 (.seq (.seq (.region [bR 11 0,nJ 12 229 11 218,mN 13 12,bR 14 13,iB 15 218 3 14,abD 16 229 15 218 14,F6 17 16 14,lA 18 14 17])
 (.cond (aC 18) (.seq (.region [sw 4 0])
 .ret) .skip))
 (.seq (.seq (.region [bR 19 0,nJ 20 235 19 218])
 (.block 0 (.rfun (aC 20) [21,22] E5 E7)))
 (.seq (.draw kV kU)
 (.seq (.block 5 (.seq (.region [F5 41 303 9 0,br 42 3 41,vn 43 42 0,bR 44 43,J5 45 303 9 2 44,gJ 46 3 45 44,QH 47 46 44,kZ 48 44 47,bR 49 48,auz 50 303 10 0 49,iB 51 3 50 49,J2 52 51 0 49,jC 53 52 49,J5 54 303 10 2 53,gJ 55 3 54 53,QH 56 55 53,J3 57 53 56 49,lA 58 49 57,db 40 58])
 (.cond (aC 40) (.seq (.region [sw 4 0])
 .ret) (.seq (.region [F5 60 303 9 0,br 61 3 60,vn 62 61 0,db 59 62])
 (.cond (aC 59) (.seq (.region [sw 4 2])
 .ret) (.seq (.region [F5 64 303 10 0,br 65 3 64,vn 66 65 0,db 63 66])
 (.cond (aC 63) (.seq (.region [sw 4 3])
 .ret) (.seq (.region [F5 68 303 9 2,br 69 3 68,vn 70 69 0,db 67 70])
 (.cond (aC 67) (.seq (.region [sw 4 1])
 .ret) .skip)))))))))
 (.seq (.region [sw 4 4])
 .ret))))))
def aoF:dY E4=Oz:=by kernel_rfl
def aoH:dY E6=CH:=by kernel_rfl
def Ya:(dB E4&&dB E6)=true:=by kernel_rfl
def aoG:dY E5=OA:=by kernel_rfl
def aoI:dY E7=OB:=by kernel_rfl
def aoJ:bt 141 Tryz.f141 X9 71 [rE 4 3]:=.of
def amf:aj 141 3=0/\aj 141 4=0/\aj 141 6=0/\aj 141 8=0/\aj 141 9=1/\aj 141 10=1:=by and_intros<;>kernel_rfl
def Zr:=({y:=_}:bw Tryz.f406 []).1
def aqK:bt 406 Tryz.f406 Zr 16 [bJ 4]:=.of
def am9:aj 406 3=1:=by kernel_rfl
def EZ:List Nat:=[0,1,3,7,0,16,0,127]
def Ik:List Nat:=[0,0,2,6,14,0,32,96,254,511,1023,2047]
def Il:List Nat:=[0,1,3,7,0,16,0,127]
def Im:SC:=(eH [JY 24 3 23 22] (RN 24 0 (nP (x8 1 (eH [Bd 25 22 21 23,br 26 52 25,io 5 52,f8 52 5 26] (.draw [bR 27 3,ze 28 27,cj 29 216 28 1,br 30 100 29,cj 31 52 5 0,br 32 9 31,br 33 52 5,abC 100 30 32 33] EZ))) (zq [Dj 34 23 1,bR 23 34]))))
def CF:SC:=(eH [JY 49 3 48 47] (RN 49 4 (nP (x8 5 (eH [Bd 50 25 46 48,br 51 9 50,db 10 51] (eH [bR 53 3,ze 54 53,cj 55 216 54 1,br 56 100 55,bR 57 10,J6 58 100 56 57,bR 52 58,su 59 52 0,su 60 52 1,io 11 52,f8 52 11 59,db 12 60] (nP (eH [bR 61 12,mN 62 61,bR 63 62,lV 64 52 11 1 63,iB 65 3 64 63,⟨some 66,ey BinOp.neq 3 (aC 65) (dJ (gX iG 1)) 3,(.when 63 false)⟩,lA 67 63 66] (n9 67 (.exit 3) pX)) (zq [bR 68 8,cj 69 52 11 2,br 70 49 69,abv 71 218 70,abw 72 68 71 218,db 8 72]))))) (zq [Dj 73 48 1,bR 48 73]))))
def CG:SC:=(eH [JY 39 3 38 37] (RN 39 2 (nP (x8 3 (eH [Bd 40 22 36 38,br 41 52 40,io 7 52,f8 52 7 41] (nP (eH [cj 42 52 7 1,br 43 3 42,abB 44 43 3] (n9 44 (.exit 3) pX)) (eH [auq 8] (nP (eH [cj 45 52 7 3,br 46 25 45,zf 47 46 25,JZ 48] (x8 4 (P9 CF))) (nP (eH [bR 74 8,nJ 75 229 74 218,mN 76 75] (n9 76 (sdR [bR 77 3,bR 78 3,ze 79 78,cj 80 216 79 2,br 81 25 80,cj 82 52 7 0,br 83 9 82,abv 84 25 83,abw 85 81 84 25,ze 86 77,cj 87 216 86 2,f8 25 87 85] Ik (.exit 3)) pX)) (.draw [bR 88 3,ze 89 88,cj 90 216 89 0,br 91 214 90,cj 92 52 7 0,br 93 9 92,bR 94 8,abC 214 91 93 94] Il))))))) (zq [Dj 95 38 1,bR 38 95]))))
def X7:SC:=(eH [re 1 24 0,abI] (.scope (nP (eH [br 13 24 1,nJ 14 31 13 24,mN 15 14] (n9 15 (eH [abI] xt) pX)) (eH [aby 16 214,aby 17 100,⟨some 18,Op.build 216 #[(0,aC 16),(1,aC 17),(2,dJ (Value.slice none 0 0))],.aw⟩,re 19 216 18,db 3 19] (nP (eH [cj 20 24 1 0,br 21 22 20,zf 22 21 22,JZ 23] (x8 0 (P9 Im))) (nP pX (nP (eH [cj 35 24 1 0,br 36 22 35,zf 37 36 22,JZ 38] (x8 2 (P9 CG))) (eH [bR 96 3,db 2 96] xt))))))))
def aoC:bt 137 Tryz.f137 X7 97 [bJ 2]:=.of
def ame:aj 137 1=1/\aj 137 5=1/\aj 137 7=1/\aj 137 11=1/\aj 137 19=0/\aj 137 22=0/\aj 137 37=0/\aj 137 47=0/\aj 137 71=0/\aj 137 72=0/\aj 137 84=0/\aj 137 85=0:=by and_intros<;>kernel_rfl
def Yz:=({y:=_}:bw Tryz.f233 []).1
def apQ:bt 233 Tryz.f233 Yz 17 [bJ 4]:=.of
def amG:aj 233 16=0:=by kernel_rfl
def Ox:=({y:=_}:bw Tryz.f138 []).1
def Oy:=({y:=_}:cx Ox [1,1,0,1,0,0]).1
def aoD:bt 138 Tryz.f138 Ox 30 [bJ 4]:=.of
def Xl:aj 138 2=0/\aj 138 24=0/\aj 138 25=2:=by and_intros<;>kernel_rfl
def IJ:List Nat:=[0,0,3,0,0,31,63,0,0,511,1023,2047,4095]
def Yy:=({y:=_}:bw Tryz.f231 [IJ]).1
def apN:bt 231 Tryz.f231 Yy 18 [bJ 5]:=.of
def amF:aj 231 16=0:=by kernel_rfl
def X8:=({y:=_}:bw Tryz.f139 []).1
def aoE:bt 139 Tryz.f139 X8 5 [bJ 4]:=.of
def ZH:List Nat:=[0,1,3,7,0,31,0,64,192,448,0,1984,4095,8191]
def Fy:=({y:=_}:bw Tryz.f60 [ZH]).1
def PH:=({y:=_}:cx Fy [1,1,1,1,0,1,0,0]).1
def CP:=({y:=_}:cx Fy [1,1,1,1,1,1,1,0,1,0,0,1,1,0,0,1,1,0,0]).1
def Fz:=({y:=_}:cx Fy [1,1,1,1,1,1,1,0,1,0,0]).1
def aq7:bt 60 Tryz.f60 Fy 76 [bJ 2]:=.of
def anp:aj 60 1=1/\aj 60 20=0/\aj 60 27=0/\aj 60 29=0/\aj 60 30=0/\aj 60 37=0/\aj 60 47=0/\aj 60 69=0/\aj 60 71=0/\aj 60 72=0:=by and_intros<;>kernel_rfl
noncomputable def Fl:Code:=
 ((jc (Tryz.f299.body.getD .ret)).getD 0 (.ret,.ret)).1
noncomputable def Fm:Code:=
 ((jc (Tryz.f299.body.getD .ret)).getD 0 (.ret,.ret)).2
noncomputable def Pb:SC:=
 (.seq (.region [io 12 49,f8 49 12 45])
 (.region [db 13 46]))
noncomputable def Fk:SC:=
 (.block 1 (.seq (.region [bR 47 13,mN 48 47,bR 49 48,iB 50 218 10 49,iB 51 49 12 49,QL 52 406 50 51 218 49 49,QP 53 52 0 49,lA 54 49 53])
 (.cond (aC 54) (.seq (.region [F8 6])
 .ret) .skip)))
noncomputable def YN:SC:=
 (.seq (.region [re 3 24 0,io 6 4])
 (.seq (.region [br 14 24 3,nJ 15 137 14 24,db 7 15])
 (.seq (.seq (.region [bR 16 7,⟨some 17,ey BinOp.eql 212 (aC 16) (dJ (Value.pointer none)) 212,.aw⟩])
 (.cond (aC 17) (.seq (.region [F8 6])
 .ret) .skip))
 (.seq (.region [bR 19 7,ze 20 19,cj 21 216 20 1,br 22 100 21,bR 23 1,J6 24 100 22 23,bR 18 24,su 25 18 0,su 26 18 1,io 8 52,f8 52 8 25,db 9 26])
 (.seq (.region [bR 28 7,ze 29 28,cj 30 216 29 0,br 31 214 30,bR 32 2,J6 33 214 31 32,bR 27 33,su 34 27 0,su 35 27 1,io 10 218,f8 218 10 34,db 11 35])
 (.seq (.seq (.region [bR 36 9,mN 37 36,bR 38 37,jC 39 11 38,F6 40 39 38,lA 41 38 40])
 (.cond (aC 41) (.seq (.region [F8 6])
 .ret) .skip))
 (.seq (.seq (.region [bR 42 7,br 43 52 8,pg 44 405 42 43 212 52])
 (.block 0 (.rfun (aC 44) [45,46] Fl Fm)))
 (.seq (.region [⟨none,Op.store 4 (aC 6) (dJ (rF true)),.aw⟩])
 .ret))))))))
def ap7:dY Fl=Pb:=by kernel_rfl
def ap8:dY Fm=Fk:=by kernel_rfl
def YO:(dB Fl&&dB Fm)=true:=by kernel_rfl
def ap9:bt 299 Tryz.f299 YN 55 [rE 6 4]:=.of
def amQ:aj 299 3=0/\aj 299 6=0/\aj 299 8=0/\aj 299 10=0/\aj 299 12=0:=by and_intros<;>kernel_rfl
def Zq:=({y:=_}:bw Tryz.f405 []).1
def aqJ:bt 405 Tryz.f405 Zq 6 [bJ 4]:=.of
def am8:aj 405 2=0/\aj 405 3=0:=by and_intros<;>kernel_rfl
def CM:List Nat:=[0,1,3,7,15,7,7,103,255,511]
noncomputable def Fv:Code:=
 ((jc (Tryz.f473.body.getD .ret)).getD 0 (.ret,.ret)).1
noncomputable def Fw:Code:=
 ((jc (Tryz.f473.body.getD .ret)).getD 0 (.ret,.ret)).2
noncomputable def Pv:SC:=
 (.seq (.region [io 8 49,f8 49 8 50])
 (.region [db 9 51]))
noncomputable def Pw:SC:=
 (.block 3 (.seq (.region [br 52 513 3,br 53 49 8,bR 54 9,auu 55 52 53 54 49 4,mN 56 55])
 (.cond (aC 56) .ret .skip)))
noncomputable def CN:SC:=
 (.seq (.region [JY 21 3 20 19])
 (.seq (.cond (aC 21) .skip (.exit 0))
 (.seq (.block 1 (.seq (.region [bR 22 20,Bd 23 25 18 20,br 24 9 23,db 4 22,db 5 24])
 (.seq (.region [br 26 212 2,ze 27 26,cj 28 216 27 1,br 29 100 28,bR 30 5,J6 31 100 29 30,bR 25 31,su 32 25 0,su 33 25 1,io 6 52,f8 52 6 32,db 7 33])
 (.seq (.seq (.draw [bR 34 7,mN 35 34,bR 36 35,lV 37 52 6 1 36,iB 38 3 37 36,iB 39 52 1 36,jC 40 4 36,QL 41 474 39 40 52 3 36,abu 42 3 38 41 36,lA 43 36 42] CM)
 (.cond (aC 43) (.seq (.region [br 44 513 3,abH 45 49,⟨some 46,Op.call ⟨Callee.value (aC 44),#[aC 45,dJ (rF false)],#[49,4]⟩,.aw⟩])
 .ret) .skip))
 (.seq (.region [br 47 212 2,br 48 52 6,pg 49 405 47 48 212 52])
 (.block 2 (.rfun (aC 49) [50,51] Fv Fw)))))))
 (.region [Dj 57 20 1,bR 20 57]))))
noncomputable def ZD:SC:=
 (.seq (.region [re 3 513 0])
 (.seq (.seq (.region [cj 10 52 1 1,br 11 3 10,rd 12 11 1])
 (.cond (aC 12) (.seq (.region [br 13 513 3,cj 14 52 1 2,br 15 49 14,⟨some 16,Op.call ⟨Callee.value (aC 13),#[aC 15,dJ (rF true)],#[49,4]⟩,.aw⟩])
 .ret) .skip))
 (.seq (.region [cj 17 52 1 3,br 18 25 17,zf 19 18 25,JZ 20])
 (.block 0 (.loop CN)))))
def aqS:dY Fv=Pv:=by kernel_rfl
def aqT:dY Fw=Pw:=by kernel_rfl
def ZE:(dB Fv&&dB Fw)=true:=by kernel_rfl
def aqV:bt 473 Tryz.f473 ZD 58 []:=.of
def anj:aj 473 3=0/\aj 473 6=0/\aj 473 8=0/\aj 473 19=0:=by and_intros<;>kernel_rfl
def ZF:=({y:=_}:bw Tryz.f474 []).1
def aqW:bt 474 Tryz.f474 ZF 17 [bJ 4]:=.of
def ank:aj 474 2=1:=by kernel_rfl
def agI:gL ah 216 [(0,1),(1,1),(2,1)]:=gL.of
def Rv:dU ah 4:=jK
def Rm:dU ah 100:=jK
def avU:dU ah 212:=jK
def avV:dU ah 214:=jK
def rg:dU ah 218:=jK
def Rs:fw ah 303 3:=ng
def avZ:dU ah 513:=jK
def Sn:dh ah 4=some 1:=by kernel_rfl
def adY:dh ah 218=some 1:=by kernel_rfl
def Si:dh ah 303=some 3:=by kernel_rfl
def aAg:ei ah 216=some (.agg [.nilm,.nilm,.Ge]):=by kernel_rfl
def D0:ei ah 218=some .Ge:=by kernel_rfl
def SS:ei ah 303=some (.agg [(.int .i64 (0)),(.int .i64 (0)),(.int .i64 (0))]):=by kernel_rfl
def ajK:cd ah 216 0 0:=ew
def ajL:cd ah 216 1 1:=ew
def ajM:cd ah 216 2 2:=ew
def yF(lc:Ag.Loc)(l g o:Nat)(i:aa):gS ah lc 303 (.Gt l g o) i=(dv i).bind fun i=>bif Nat.blt i 3 then bif Nat.beq (lc.gen l) g then some (.Gt l g (o+i*1)) else none else none:=by kernel_rfl
def vh(k:List UInt8):lw ah 100 (.str k)=some (9,52):=by kernel_rfl
def A7(k:List UInt8):lw ah 214 (.str k)=some (9,218):=by kernel_rfl
attribute[go_sem]agI Rv Rm avU avV rg Rs avZ Sn adY Si aAg D0 SS ajK ajL ajM yF vh A7 am1 anf ang anl amH am3 Xn Xn am2 am5 anh ani Xs Xs am4 amI amf am9 ame amG Xl Xl amF anp amQ am8 anj ank Zj Zx Zy Zz Px YA Pk Yu Zk Zm ZA ZB Pm Zl YB X9 Zr X7 Yz Ox Yy X8 Fy YN Zq ZD ZF
def OC:List Nat:=[0,1,3,7,0,16,0,64,255]
def Yc:List Nat:=[0,1,3,7,0,16,0,64,255]
def Io:=({y:=_}:bw Tryz.f142 [OC,Yc]).1
def Ip:=({y:=_}:cx Io [1,1,1,0,1,0,0]).1
def Iq:=({y:=_}:cx Io [1,1,1,1,0,1,0,0]).1
def aoL:bt 142 Tryz.f142 Io 64 [bJ 2,bJ 3]:=.of
def Xm:aj 142 1=1/\aj 142 4=0/\aj 142 6=1/\aj 142 8=1/\aj 142 17=0/\aj 142 20=0/\aj 142 39=0:=by and_intros<;>kernel_rfl
def YC:=({y:=_}:bw Tryz.f237 []).1
def apW:bt 237 Tryz.f237 YC 17 [bJ 3]:=.of
def amJ:aj 237 4=1:=by kernel_rfl
def OD:=({y:=_}:bw Tryz.f143 []).1
def wL:=({y:=_}:cx OD [1,0,1,0,0]).1
def aoM:bt 143 Tryz.f143 OD 43 [bJ 4]:=.of
def amg:aj 143 3=1/\aj 143 7=1/\aj 143 11=0:=by and_intros<;>kernel_rfl
def Yd:List Nat:=[0,1,3,0,0,16,48,120,248,7,1023]
def OE:=({y:=_}:bw Tryz.f144 [Yd]).1
def Ir:=({y:=_}:cx OE [1,1,1,0,1,0,0]).1
def aoO:bt 144 Tryz.f144 OE 60 [bJ 4]:=.of
def amh:aj 144 3=1/\aj 144 5=0/\aj 144 6=0/\aj 144 16=0/\aj 144 33=0:=by and_intros<;>kernel_rfl
def YD:=({y:=_}:bw Tryz.f238 []).1
def apX:bt 238 Tryz.f238 YD 23 [bJ 4]:=.of
def Yf:List Nat:=[0,1,3,7,0,16,48,112,255,0,512,1536,3584,8191,16383,32767,65535,131071,262143,32767,557055,1605631,3702783,8388607,32767,16809983,50364415,117473279,268435455,536870911,1073741823]
def Ye:=({y:=_}:bw Tryz.f145 [Yf]).1
def aoQ:bt 145 Tryz.f145 Ye 35 [bJ 4]:=.of
def ami:aj 145 3=1:=by kernel_rfl
def PJ:=({y:=_}:bw Tryz.f61 []).1
def yK:=({y:=_}:cx PJ [1,1,1,1,0,1,0,0]).1
def aq8:bt 61 Tryz.f61 PJ 73 [bJ 2]:=.of
def Xy:aj 61 1=1/\aj 61 8=1/\aj 61 20=0/\aj 61 43=0/\aj 61 45=0/\aj 61 46=0/\aj 61 65=0/\aj 61 67=0/\aj 61 68=0/\aj 61 72=0:=by and_intros<;>kernel_rfl
def Yn:=({y:=_}:bw Tryz.f216 []).1
def apb:bt 216 Tryz.f216 Yn 11 [bJ 2]:=.of
def amx:aj 216 4=0:=by kernel_rfl
def YJ:=({y:=_}:bw Tryz.f295 []).1
def ap3:bt 295 Tryz.f295 YJ 9 [bJ 4]:=.of
def Pr:=({y:=_}:bw Tryz.f402 []).1
def Ps:=({y:=_}:cx Pr [1,0,1,0,0]).1
def aqG:bt 402 Tryz.f402 Pr 19 [bJ 4]:=.of
def am6:aj 402 7=0:=by kernel_rfl
def YK:=({y:=_}:bw Tryz.f296 []).1
def ap4:bt 296 Tryz.f296 YK 6 [bJ 2]:=.of
def amN:aj 296 1=1:=by kernel_rfl
def wO:uD:=[cj 8 94 1 1,br 9 9 8,abJ 10 9,bR 11 10,fJ 12 94 1 1 11,gJ 13 9 12 11,QM 14 163 13 9 11,QI 15 14 11,kZ 16 11 15,db 7 16]
def wP:uD:=[cj 28 94 1 3,br 29 92 28,abH 30 92,abz 31 92 29 30,bR 32 31,fJ 33 94 1 3 32,fJ 34 92 33 0 32,gJ 35 9 34 32,QM 36 163 35 9 32,jS 37 36 32,fJ 38 94 1 3 37,fJ 39 92 38 1 37,gJ 40 9 39 37,QM 41 403 40 9 37,⟨some 42,Op.pick (aC 37) (aC 41) (dJ (rF false)),(.when 32 true)⟩,QI 43 42 32,kZ 44 32 43,db 27 44]
def wQ:uD:=[bR 46 3,mN 47 46,bR 48 47,fJ 49 94 1 4 48,gJ 50 3 49 48,J7 51 50 1 48,kZ 52 48 51,bR 53 52,fJ 54 94 1 4 53,gJ 55 3 54 53,J7 56 55 3 53,kZ 57 53 56,db 45 57]
def YL:SC:=(eH [re 1 94 0,sr 2] (eH [cj 4 94 1 4,br 5 3 4,rd 6 5 2,db 3 6] (nP (x8 0 (nP (eH wO (n9 7 pX (eH [cj 17 94 1 2,br 18 3 17,J4 19 18 0,db 7 19] (n9 7 pX (eH [cj 20 94 1 2,br 21 3 20,vn 22 21 5,db 7 22] (n9 7 pX (zq [cj 23 94 1 5,br 24 9 23,nJ 25 163 24 9,mN 26 25,db 7 26]))))))) (n9 7 (eH [sr 2] xt) (eH wP (n9 27 (eH [sr 2] xt) (nP (eH wQ (n9 45 pX (eH [bR 58 3,cj 59 94 1 6,br 60 25 59,zf 61 60 25,vn 62 61 0,abz 63 4 58 62,db 45 63] (n9 45 pX (zq [cj 64 94 1 6,br 65 25 64,zf 66 65 25,vn 67 66 60,db 45 67]))))) (n9 45 (eH [sr 2] xt) pX))))))) (eH [cj 68 94 1 6,br 69 25 68,abE 70 167 69 404 25 236,mN 71 70,db 2 71] xt))))
def ap5:bt 297 Tryz.f297 YL 72 [bJ 2]:=.of
def amO:aj 297 1=1/\aj 297 61=0/\aj 297 66=0:=by and_intros<;>kernel_rfl
def Zo:=({y:=_}:bw Tryz.f403 []).1
def aqH:bt 403 Tryz.f403 Zo 10 [bJ 2]:=.of
def am7:aj 403 7=0:=by kernel_rfl
def Zp:=({y:=_}:bw Tryz.f404 []).1
def aqI:bt 404 Tryz.f404 Zp 6 [bJ 2]:=.of
def Ie:=({y:=_}:bw Tryz.f124 []).1
def Ol:=({y:=_}:cx Ie [1,1,1,0,1,0,0,1,1,0,0,1,1,1,0,0]).1
def Om:=({y:=_}:cx Ie [1,1,1,0,1,0,0]).1
def aof:bt 124 Tryz.f124 Ie 49 [bJ 4]:=.of
def al5:aj 124 2=1/\aj 124 7=1/\aj 124 10=1/\aj 124 20=0/\aj 124 31=0/\aj 124 44=0/\aj 124 45=0:=by and_intros<;>kernel_rfl
def Yo:=({y:=_}:bw Tryz.f217 []).1
def apc:bt 217 Tryz.f217 Yo 6 [bJ 4]:=.of
def amy:aj 217 2=0/\aj 217 3=0:=by and_intros<;>kernel_rfl
def u7:uD:=[cj 10 94 1 2,br 11 3 10,abB 12 11 0,bR 13 12,fJ 14 94 1 2 13,gJ 15 3 14 13,fJ 16 52 3 1 13,gJ 17 3 16 13,auo 18 3 15 17 13,kZ 19 13 18]
def u9:uD:=[cj 29 94 1 3,cj 30 92 29 0,br 31 9 30,abJ 32 31,bR 33 32,jS 34 6 33,QI 35 34 33,jS 36 35 33,jC 37 5 36,lV 38 94 1 3 36,lV 39 92 38 1 36,iB 40 9 39 36,abu 41 9 37 40 36,abG 42 36 41 33,kZ 43 33 42]
def tJ:uD:=[bR 69 9,mN 70 69,bR 71 70,fJ 72 94 1 1 71,gJ 73 9 72 71,⟨some 74,ey BinOp.eql 9 (aC 73) (dJ (Value.string {data:= #[] })) 9,(.when 71 true)⟩,jS 75 74 71,iB 76 24 2 75,lV 77 52 3 0 75,iB 78 9 77 75,lV 79 94 1 1 75,iB 80 9 79 75,QQ 81 299 76 78 80 24 9 9 75,abG 82 75 81 71,kZ 83 71 82,db 4 83]
def YM:SC:=(eH [re 3 52 0,sr 4] (nP (eH u7 (n9 19 (eH [sr 4] xt) pX)) (nP (eH [cj 21 52 3 4,br 22 50 21,cj 23 94 1 3,cj 24 92 23 0,br 25 9 24,pg 26 214 22 25 50 9,bR 20 26,su 27 20 0,su 28 20 1,db 5 27,db 6 28] (eH u9 (n9 43 (eH [sr 4] xt) pX))) (eH [cj 45 52 3 4,br 46 50 45,cj 47 94 1 5,br 48 9 47,pg 49 214 46 48 50 9,bR 44 49,su 50 44 0,su 51 44 1,db 7 50,db 8 51] (eH [bR 52 8,db 9 52] (nP (eH [cj 53 94 1 4,br 54 3 53] (x8 0 (eH [rd 56 54 3,db 55 56] (n9 55 (zq [bR 57 8,mN 58 57,db 9 58]) (eH [rd 60 54 2,db 59 60] (n9 59 (zq [bR 61 8,mN 62 61,bR 63 62,lV 64 94 1 6 63,iB 65 25 64 63,jC 66 7 63,QL 67 130 65 66 25 9 63,lA 68 63 67,db 9 68]) pX)))))) (eH tJ xt)))))))
def ap6:bt 298 Tryz.f298 YM 84 [bJ 4]:=.of
def amP:aj 298 3=1:=by kernel_rfl
def Jj:=({y:=_}:bw Tryz.f57 []).1
def Jk:=({y:=_}:cx Jj [1,1,0,1,0,0]).1
def Jl:=({y:=_}:cx Jj [1,1,1,1,0,1,0,0]).1
def aq0:bt 57 Tryz.f57 Jj 50 [bJ 4]:=.of
def Xv:aj 57 2=1/\aj 57 7=1/\aj 57 10=1/\aj 57 15=0/\aj 57 32=0/\aj 57 44=0/\aj 57 46=0/\aj 57 47=0:=by and_intros<;>kernel_rfl
def OQ:=({y:=_}:bw Tryz.f214 []).1
def IB:=({y:=_}:cx OQ [1,0,1,0,0]).1
def apa:bt 214 Tryz.f214 OQ 21 [bJ 4,bJ 5]:=.of
def amw:aj 214 7=1/\aj 214 9=0:=by and_intros<;>kernel_rfl
def YH:=({y:=_}:bw Tryz.f28 []).1
def ap2:bt 28 Tryz.f28 YH 9 [rE 4 24]:=.of
def amM:aj 28 2=1/\aj 28 3=0/\aj 28 4=1:=by and_intros<;>kernel_rfl
def ZM:=({y:=_}:bw Tryz.f73 []).1
def arm:bt 73 Tryz.f73 ZM 13 [bJ 5]:=.of
def ZL:=({y:=_}:bw Tryz.f72 []).1
def arl:bt 72 Tryz.f72 ZL 12 [bJ 4]:=.of
def anu:aj 72 2=1/\aj 72 3=0:=by and_intros<;>kernel_rfl
def It:List Nat:=[0,0,2,6,6,31,63]
def Yi:=({y:=_}:bw Tryz.f158 [It]).1
def aoV:bt 158 Tryz.f158 Yi 10 [bJ 3]:=.of
def amn:aj 158 2=1:=by kernel_rfl
def OI:=({y:=_}:bw Tryz.f157 []).1
def OJ:=({y:=_}:cx OI [1,1,0,1,0,0]).1
def aoU:bt 157 Tryz.f157 OI 23 [bJ 4]:=.of
def amm:aj 157 7=1/\aj 157 9=0/\aj 157 19=0/\aj 157 20=0:=by and_intros<;>kernel_rfl
def Yj:=({y:=_}:bw Tryz.f159 []).1
def aoW:bt 159 Tryz.f159 Yj 18 [bJ 2,bJ 3]:=.of
def amo:aj 159 1=1:=by kernel_rfl
def E9:=({y:=_}:bw Tryz.f18 []).1
def ON:=({y:=_}:cx E9 [1,1,1,1,1,0,1,0,0,1,1,0,0,1,1,1,0,0,1,1,0,0,1,1,0,0]).1
def OO:=({y:=_}:cx E9 [1,1,1,1,1,0,1,0,0,1,1,0,0,1,1,1,0,0]).1
def OP:=({y:=_}:cx E9 [1,1,1,1,1,0,1,0,0]).1
def ao9:bt 18 Tryz.f18 E9 57 [bJ 4]:=.of
def amu:aj 18 2=1/\aj 18 3=0/\aj 18 10=1/\aj 18 14=1/\aj 18 20=0/\aj 18 21=0/\aj 18 24=0/\aj 18 25=0/\aj 18 34=0/\aj 18 42=0/\aj 18 51=0/\aj 18 52=0:=by and_intros<;>kernel_rfl
def ZG:=({y:=_}:bw Tryz.f56 []).1
def Ji:bt 56 Tryz.f56 ZG 8 [bJ 3]:=.of
def ann:aj 56 2=1:=by kernel_rfl
def Jm:=({y:=_}:bw Tryz.f58 []).1
def Jo:=({y:=_}:cx Jm [1,1,1,0,1,0,0,1,1,0,0,1,1,0,0]).1
def Pz:=({y:=_}:cx Jm [1,1,1,0,1,0,0]).1
def aq1:bt 58 Tryz.f58 Jm 46 [bJ 2]:=.of
def Xw:aj 58 1=1/\aj 58 6=1/\aj 58 13=0/\aj 58 20=0/\aj 58 39=0/\aj 58 41=0/\aj 58 42=0:=by and_intros<;>kernel_rfl
def XX:=({y:=_}:bw Tryz.f125 []).1
def aog:bt 125 Tryz.f125 XX 17 [bJ 2]:=.of
def al6:aj 125 1=1/\aj 125 8=0/\aj 125 12=0/\aj 125 15=0:=by and_intros<;>kernel_rfl
def Yp:List Nat:=[0,0,0,6,0,0,48,126,255,511]
def OS:=({y:=_}:bw Tryz.f218 [Yp]).1
def Fa:=({y:=_}:cx OS [1,1,1,1,1,1,0,0,0]).1
def apd:bt 218 Tryz.f218 OS 48 [bJ 4]:=.of
def amz:aj 218 14=0/\aj 218 30=0/\aj 218 33=0/\aj 218 36=0/\aj 218 45=0:=by and_intros<;>kernel_rfl
def PK:=({y:=_}:bw Tryz.f65 []).1
def PL:=({y:=_}:cx PK [1,1,0,1,0,0]).1
def aq9:bt 65 Tryz.f65 PK 23 [bJ 2]:=.of
def anq:aj 65 1=1/\aj 65 5=1/\aj 65 8=0/\aj 65 12=0:=by and_intros<;>kernel_rfl
def Yx:=({y:=_}:bw Tryz.f23 []).1
def apY:bt 23 Tryz.f23 Yx 14 [bJ 4]:=.of
def Xo:aj 23 2=1/\aj 23 3=1/\aj 23 11=0:=by and_intros<;>kernel_rfl
def agE:gL ah 187 [(0,1),(1,1)]:=gL.of
def agJ:gL ah 228 [(0,1),(1,1),(2,1)]:=gL.of
def Mj:uA ah 306 1:=uA.of
def Ro:dU ah 27:=jK
def Rq:fw ah 29 6:=ng
def Rt:fw ah 31 3:=ng
def Rx:fw ah 94 8:=ng
def Ry:dU ah 97:=jK
def avO:dU ah 107:=jK
def avQ:fw ah 187 2:=ng
def avW:dU ah 222:=jK
def Rn:dU ah 225:=jK
def avX:dU ah 226:=jK
def Sk:dh ah 31=some 3:=by kernel_rfl
def So:dh ah 94=some 8:=by kernel_rfl
def ayc:dh ah 187=some 2:=by kernel_rfl
def ayi:dh ah 222=some 1:=by kernel_rfl
def Sj:dh ah 306=some 2:=by kernel_rfl
def SX:ei ah 94=some (.agg [(.bool false),(.str []),(.int .i64 (0)),(.str []),(.str []),(.int .i64 (0)),(.str []),.Ge]):=by kernel_rfl
def aAb:ei ah 187=some (.agg [(.int .i64 (0)),(.str [])]):=by kernel_rfl
def aAh:ei ah 222=some .nilp:=by kernel_rfl
def aAi:ei ah 228=some (.agg [.Ge,.nilm,.nilm]):=by kernel_rfl
def ST:ei ah 306=some (.agg [(.bool false),(.bool false)]):=by kernel_rfl
def HL:cd ah 29 4 4:=ew
def Nl:cd ah 29 5 5:=ew
def Nm:cd ah 31 0 0:=ew
def Nv:cd ah 94 0 0:=ew
def Nw:cd ah 94 1 1:=ew
def Nx:cd ah 94 2 2:=ew
def Ny:cd ah 94 3 3:=ew
def Nz:cd ah 94 4 5:=ew
def HN:cd ah 94 5 6:=ew
def NA:cd ah 94 6 7:=ew
def ajE:cd ah 187 0 0:=ew
def ajF:cd ah 187 1 1:=ew
def ajN:cd ah 228 0 0:=ew
def ajO:cd ah 228 1 1:=ew
def ajP:cd ah 228 2 2:=ew
def EH(cs:List aa):wD ah 52 (.agg cs) 1=iC ah 3 cs 1:=by kernel_rfl
def ow:fW ah 27 8 112 true (.agg [(.bool false),(.str []),(.int .i64 (0)),(.str []),(.str []),(.int .i64 (0)),(.str []),.Ge]):=fW.of
def DF:fW ah 98 1 8 false .nilf:=fW.of
def KC:fW ah 184 2 24 true (.agg [(.int .i64 (0)),(.str [])]):=fW.of
def XB(lc:Ag.Loc)(l g o:Nat)(i:aa):gS ah lc 306 (.Gt l g o) i=(dv i).bind fun i=>bif Nat.blt i 2 then bif Nat.beq (lc.gen l) g then some (.Gt l g (o+i*1)) else none else none:=by kernel_rfl
def C5(k:List UInt8):lw ah 225 (.str k)=some (9,49):=by kernel_rfl
def C6(k:List UInt8):lw ah 226 (.str k)=some (9,25):=by kernel_rfl
attribute[go_sem]agE agJ Mj Ro Rq Rt Rx Ry avO avQ avW Rn avX Sk So ayc ayi Sj SX aAb aAh aAi ST HL HL Nl Nm Nv Nw Nx Ny Nz HN HN NA ajE ajF ajN ajO ajP EH ow iq iq DF KC ow C5 C6 Xm Xm amJ amg amh ami Xy Xy amx am6 amN amO am7 al5 amy amP Xv Xv amw amM anu amn amm amo amu ann Xw Xw al6 amz anq Xo Xo Io YC OD OE YD Ye PJ Yn YJ Pr YK YL Zo Zp Ie Yo YM Jj OQ YH ZM ZL Yi OI Yj E9 ZG Jm XX OS PK Yx
def apl:fg O2=(3,[7,15,31]):=by kernel_rfl
def apm:fg O3=(13,[8191,16383,32767]):=by kernel_rfl
def apn:fg O4=(13,[8191,16383,32767]):=by kernel_rfl
def OW:fg Yt=(19,[524287,1048575]):=by kernel_rfl
def aqd:fg YT=(12,[4095,8191,16383]):=by kernel_rfl
def aph:fg Ys=(9,[511,1023]):=by kernel_rfl
def aor:fg X2=(15,[32767]):=by kernel_rfl
def aos:fg X3=(17,[131071]):=by kernel_rfl
def aoq:fg X1=(14,[16383]):=by kernel_rfl
def aow:fg X4=(9,[511]):=by kernel_rfl
def aoB:fg EZ=(7,[127]):=by kernel_rfl
def aq6:fg ZH=(12,[4095,8191]):=by kernel_rfl
def aqU:fg CM=(8,[255,511]):=by kernel_rfl
def aoK:fg OC=(8,[255]):=by kernel_rfl
def aoN:fg Yd=(10,[1023]):=by kernel_rfl
def aoP:fg Yf=(28,[268435455,536870911,1073741823]):=by kernel_rfl
attribute[go_sem]apl apm apn OW aqd aph aor aos aoq aow aoB aq6 aqU aoK aoN aoP
def YP:=({y:=_}:bw Tryz.f300 []).1
def aqb:bt 300 Tryz.f300 YP 30 [bJ 4,bJ 5]:=.of
def Zs:=({y:=_}:bw Tryz.f408 []).1
def aqL:bt 408 Tryz.f408 Zs 51 [bJ 4,bJ 5]:=.of
attribute[go_sem]YP Zs
def aq3:List Nat:=[0,0,0,6,14,31,0,127]
def aq4:List Nat:=[0,0,0,0,12,28,63,127]
def aq5:List Nat:=[0,1,0,4,0,28,60,124,255,511,1023]
def k5:=({y:=_}:bw Tryz.f5 [aq3,aq4,aq5]).1
def aAs:=({y:=_}:cx k5 [1,1,1,1,1,1,1,1,0,1,0,0]).1
def aAt:=({y:=_}:cx k5 [1,1,1,1,1,1,1,1,1,1,1,0,1,0,0]).1
def aAu:=({y:=_}:cx k5 [1,1,1,1,1,1,1,1,1,1,1,1,1,0,1,0,0]).1
def YI:=({y:=_}:bw Tryz.f29 []).1
def aAq:=({y:=_}:cx YI [1,1,1,1,1,0,1,0,0]).1
def OL:=({y:=_}:bw Tryz.f16 []).1
def Iz:=({y:=_}:cx OL [1,0,1,0,0]).1
def ao7:bt 16 Tryz.f16 OL 36 [bJ 6]:=.of
def amp:aj 16 3=1/\aj 16 4=1/\aj 16 11=0/\aj 16 20=0/\aj 16 28=0:=by and_intros<;>kernel_rfl
def CO:List Nat:=[0,0,3,7,15,31,0,0,192,448,960,1984,4095,0,0,24576,57344,122880,253952,516096,1048575,0,0,6291456,14680064,31457280,65011712,132120576,268435455,536870911,1073741823,2147483647,2147483647,8589934591,17179869183,34359738367,68719476735,137438953471,274877906943]
def Jg:=({y:=_}:bw Tryz.f55 [CO]).1
def Jh:=({y:=_}:cx Jg [1,0,1,0,0,1,0,0,1,1,0,0]).1
def Fx:=({y:=_}:cx Jg [1,0,1,0,0]).1
def aqZ:bt 55 Tryz.f55 Jg 76 [bJ 4]:=.of
def anm:aj 55 9=0/\aj 55 18=0/\aj 55 24=0/\aj 55 32=0/\aj 55 40=0/\aj 55 49=0/\aj 55 58=0/\aj 55 70=0/\aj 55 73=0:=by and_intros<;>kernel_rfl
def AY:List Nat:=[0,0,3,7,15,0,0,96,224,480,1023,2047,4095,4095,16383,32767,65535,4095,4095,397311,921599,1970175,4194303,8388607,16777215,33554431,33554431,134217727,268435455,536870911,33554431,33554431,3254779903,7549747199,16139681791,34359738367,68719476735,137438953471]
def OM:=({y:=_}:bw Tryz.f17 [AY]).1
def CJ:=({y:=_}:cx OM [1,1,0,1,0,0]).1
def ao8:bt 17 Tryz.f17 OM 55 [bJ 4]:=.of
def amt:aj 17 7=0/\aj 17 9=0/\aj 17 13=0:=by and_intros<;>kernel_rfl
def k30:=({y:=_}:bw Tryz.f30 []).1
def k74:=({y:=_}:bw Tryz.f74 []).1
def IA:=({y:=_}:bw Tryz.f21 []).1
def OT:=({y:=_}:cx IA [1,1,1,1,1,1,0,1,0,0]).1
def IC:=({y:=_}:cx IA [1,1,1,1,1,1,1,1,0,1,0,0]).1
def apf:bt 21 Tryz.f21 IA 50 [rE 4 24]:=.of
def amv:aj 21 2=1/\aj 21 4=1/\aj 21 5=0/\aj 21 6=0/\aj 21 7=0/\aj 21 10=1/\aj 21 12=1/\aj 21 22=0/\aj 21 33=0/\aj 21 45=0/\aj 21 46=0:=by and_intros<;>kernel_rfl
def PM:=({y:=_}:bw Tryz.f66 []).1
def PN:=({y:=_}:cx PM [1,1,1,0,0]).1
def ara:bt 66 Tryz.f66 PM 25 []:=.of
def anr:aj 66 16=0:=by kernel_rfl
def O9:List Nat:=[0,0,0,0,14,31,0,127,0,511,1023]
def YE:=({y:=_}:bw Tryz.f25 [O9]).1
def ap0:bt 25 Tryz.f25 YE 17 [bJ 6]:=.of
def amK:aj 25 3=1/\aj 25 4=1/\aj 25 5=0:=by and_intros<;>kernel_rfl
def ZI:=({y:=_}:bw Tryz.f67 []).1
def arb:bt 67 Tryz.f67 ZI 9 [bJ 4]:=.of
def Jq:=({y:=_}:bw Tryz.f68 []).1
def PO:=({y:=_}:cx Jq [1,1,0,1,0,1,0,1,0,0]).1
def PP:=({y:=_}:cx Jq [1,1,0,1,0,1,1,1,0,1,0,0]).1
def arc:bt 68 Tryz.f68 Jq 65 [bJ 6]:=.of
def ans:aj 68 3=1/\aj 68 4=1/\aj 68 5=1/\aj 68 9=1/\aj 68 11=1/\aj 68 22=0/\aj 68 30=0/\aj 68 31=0/\aj 68 37=0/\aj 68 61=0/\aj 68 62=0:=by and_intros<;>kernel_rfl
def ZJ:=({y:=_}:bw Tryz.f69 []).1
def ard:bt 69 Tryz.f69 ZJ 23 [bJ 3]:=.of
def ant:aj 69 2=1:=by kernel_rfl
def avN:dU ah 102:=jK
def aya:dh ah 100=some 1:=by kernel_rfl
def ayb:dh ah 102=some 1:=by kernel_rfl
def az9:ei ah 100=some .nilm:=by kernel_rfl
def aAa:ei ah 102=some .nilf:=by kernel_rfl
def ajQ:cd ah 31 1 1:=ew
def aj2(cs:List aa):wD ah 52 (.agg cs) 3=iC ah 25 cs 4:=by kernel_rfl
attribute[go_sem]avN aya ayb az9 aAa ajQ aj2 ow amp anm amt amv anr amK ans ant k5 YI OL Jg OM k30 k74 IA PM YE ZI Jq ZJ
def aqY:List Nat:=[0,0,3,0,15,31]
def k4:=({y:=_}:bw Tryz.f4 [aqY]).1
def aAr:=({y:=_}:cx k4 [1,1,1,1,1,0,1,0,0]).1
def ap1:List Nat:=[0,0,3,7,15,0,32,127,255,511,511,2047,4095,8191,511,16895,65535,131071,262143,524287,524287,2097151,4194303,8388607,524287,17301503,67108863,134217727]
def YG:=({y:=_}:bw Tryz.f27 [ap1]).1
def aAp:=({y:=_}:cx YG [1,0,1,0,0]).1
attribute[go_sem]k4 YG
