/- Lemmas for ValidApart. -/
import Derived.Test.YtnnppcoplinajaaGreatB7
import Derived.Test.YtnnppcoplinajaaGreatAg3
set_option linter.all false
open Go.Ag.cx renaming of→eZ
open Go.Op renaming binOp→fD
open Go.Operand renaming const→zM,tmp→aD
open Go.Ag.eJ renaming of→kD
open Go.ResultVar renaming cell→sH,tmp→bZ
open Go.Ag.gl renaming of→nC
open Go.Proofs.Tryz renaming prog→ae
open Go.Value renaming bool→rh
namespace Go.Proofs.YtnnppcoplinajaaGreat
open Go.Ag
def aj5:=({y:=_}:bU Tryz.f326 []).1
def aj6:bK 326 Tryz.f326 aj5 16 [bZ 2]:=.of
def auL:ai 326 4=0/\ai 326 8=0:=by and_intros<;>kernel_rfl
def akF:=({y:=_}:bU Tryz.f428 []).1
def akG:bK 428 Tryz.f428 akF 9 [bZ 4]:=.of
def akH:=({y:=_}:bU Tryz.f429 []).1
def akI:bK 429 Tryz.f429 akH 6 [bZ 2]:=.of
def auZ:ai 429 1=1:=by kernel_rfl
def akJ:=({y:=_}:bU Tryz.f430 []).1
def akK:bK 430 Tryz.f430 akJ 17 [bZ 2]:=.of
def au0:ai 430 1=1/\ai 430 7=0/\ai 430 14=0:=by and_intros<;>kernel_rfl
def azu:=({y:=_}:bU Tryz.f495 []).1
def Oe:=({y:=_}:cS azu [1,0,1,0,0]).1
def akW:bK 495 Tryz.f495 azu 19 [bZ 4]:=.of
def au5:ai 495 7=0:=by kernel_rfl
def aje:=({y:=_}:bU Tryz.f235 []).1
def ajf:bK 235 Tryz.f235 aje 4 [bZ 2]:=.of
def auq:ai 235 1=0:=by kernel_rfl
def Jd:List Nat:=[0,0,0,0,0,16,0,64,240,504,1016,2044,4095,8191]
def WI:=({y:=_}:bU Tryz.f339 [Jd]).1
def N6:=({y:=_}:cS WI [1,0,0]).1
def akd:bK 339 Tryz.f339 WI 27 []:=.of
def auN:ai 339 4=1/\ai 339 6=0/\ai 339 19=0:=by and_intros<;>kernel_rfl
noncomputable def E6:Code:=
 ((jD (Tryz.f229.body.getD .ret)).getD 0 (.ret,.ret)).1
noncomputable def E8:Code:=
 ((jD (Tryz.f229.body.getD .ret)).getD 0 (.ret,.ret)).2
noncomputable def NS:SC:=
 (.seq (.region [eY 6 21])
 (.region [iW 7 285,gV 285 7 22]))
noncomputable def w6:SC:=
 (.block 3 (.seq (.seq (.region [cE 23 6,bM 24 3 4,⟨some 25,fD BinOp.geq 3 (aD 23) (aD 24) 3,.aw⟩])
 (.cond (aD 25) (.exit 2) .skip))
 (.seq (.region [bM 26 285 5,bM 27 285 7,kN 28 225 26 27 285 285,eY 8 28])
 (.seq (.region [bM 29 3 4,cE 30 6,F5 31 29 30,YF 32 31 1,cE 33 32,lS 34 3 4 33,qV 35 6 33,⟨some 36,fD BinOp.sub 3 (aD 34) (aD 35) 3,(.when 33 false)⟩,lS 37 3 3 33,⟨some 38,fD BinOp.sub 3 (aD 37) (zM (Value.int IntKind.i64 1)) 3,(.when 33 false)⟩,aoc 39 3 36 38 33,qU 40 33 39,eY 9 40])
 (.seq (.region [cE 41 9,cE 42 41,JZ 43 8 42,aob 44 43 1 42,oC 45 42 44,cE 46 45,qV 47 9 46,avL 48 47 46,qV 49 48 46,JZ 50 8 49,aob 51 50 0 49,YL 52 49 51 46,qU 53 46 52])
 (.cond (aD 53) (.seq (.region [aod 2])
 .ret) .skip))))))
noncomputable def E7:Code:=
 ((jD (Tryz.f229.body.getD .ret)).getD 1 (.ret,.ret)).1
noncomputable def E9:Code:=
 ((jD (Tryz.f229.body.getD .ret)).getD 1 (.ret,.ret)).2
noncomputable def NT:SC:=
 (.seq (.region [iW 4 3,gV 3 4 17])
 (.region [iW 5 285,gV 285 5 18]))
noncomputable def NV:SC:=
 (.block 1 (.seq (.region [bM 19 218 1,zh 20 235 19 218])
 (.block 2 (.rfun (aD 20) [21,22] E6 E8))))
noncomputable def ai3:SC:=
 (.seq (.region [tU 1 218 0,iW 2 4])
 (.seq (.seq (.region [bM 10 218 1,zh 11 326 10 218,an4 12 11])
 (.cond (aD 12) (.seq (.region [aod 2])
 .ret) .skip))
 (.seq (.region [bM 13 218 1,F4 14 13 218,iW 3 3,gV 3 3 14])
 (.seq (.seq (.region [bM 15 218 1,zh 16 235 15 218])
 (.block 0 (.rfun (aD 16) [17,18] E7 E9)))
 (.seq (.region [⟨none,Op.store 4 (aD 2) (zM (rh true)),.aw⟩])
 .ret)))))
def ai4:eD E6=NS:=by kernel_rfl
def ai6:eD E8=w6:=by kernel_rfl
def Wb:(dY E6&&dY E8)=true:=by kernel_rfl
def ai5:eD E7=NT:=by kernel_rfl
def ai7:eD E9=NV:=by kernel_rfl
def ai8:bK 229 Tryz.f229 ai3 54 [sH 2 4]:=.of
def aun:ai 229 1=0/\ai 229 2=0/\ai 229 3=0/\ai 229 4=0/\ai 229 5=0/\ai 229 7=0/\ai 229 14=0:=by and_intros<;>kernel_rfl
noncomputable def Fj:Code:=
 ((jD (Tryz.f329.body.getD .ret)).getD 0 (.ret,.ret)).1
noncomputable def Fk:Code:=
 ((jD (Tryz.f329.body.getD .ret)).getD 0 (.ret,.ret)).2
noncomputable def N4:SC:=
 (.region [iW 5 285,gV 285 5 12])
noncomputable def N5:SC:=
 (.block 1 (.region [bM 13 3 3,cO 14 285 5 0,cO 15 49 14 0,bM 16 3 15,cO 17 285 5 1,cO 18 49 17 0,bM 19 3 18,an6 20 3 16 19,cO 21 285 5 1,cO 22 49 21 1,bM 23 3 22,cO 24 285 5 0,cO 25 49 24 1,bM 26 3 25,F5 27 23 26,YH 28 3 20 27,an6 29 3 13 28,gV 3 3 29]))
noncomputable def aj8:SC:=
 (.seq (.region [oD 2 0])
 (.seq (.seq (.region [cE 6 0,zh 7 326 6 218,an4 8 7])
 (.cond (aD 8) (.seq (.region [oD 2 0])
 .ret) .skip))
 (.seq (.region [iW 3 3,an7 3 0])
 (.seq (.seq (.region [cE 9 0,zh 10 235 9 218])
 (.block 0 (.rfun (aD 10) [11,12] Fj Fk)))
 (.seq (.region [bM 30 3 3,eY 2 30])
 .ret)))))
def aj9:eD Fj=N4:=by kernel_rfl
def aka:eD Fk=N5:=by kernel_rfl
def akc:(dY Fj&&dY Fk)=true:=by kernel_rfl
def akb:bK 329 Tryz.f329 aj8 31 [bZ 2]:=.of
def auM:ai 329 3=0/\ai 329 5=0:=by and_intros<;>kernel_rfl
def WM:SOl:=[cE 20 8,YF 21 20 0,cE 22 21,nS 23 285 7 0 22,nS 24 49 23 0 22,sb 25 3 24 22,nS 26 49 3 0 22,sb 27 3 26 22,nS 28 285 7 1 22,nS 29 49 28 0 22,sb 30 3 29 22,YD 31 443 25 27 30 3 22,oC 32 22 31,cE 33 32,nS 34 285 7 0 33,nS 35 49 34 1 33,sb 36 3 35 33,nS 37 49 3 1 33,sb 38 3 37 33,nS 39 285 7 1 33,nS 40 49 39 1 33,sb 41 3 40 33,YD 42 443 36 38 41 3 33,oC 43 33 42,eY 19 43]
def WN:SOl:=[cO 45 285 7 0,cO 46 49 45 1,bM 47 3 46,cO 48 49 3 1,bM 49 3 48,YS 50 47 49,cE 51 50,nS 52 285 7 1 51,nS 53 49 52 1 51,sb 54 3 53 51,nS 55 49 3 1 51,sb 56 3 55 51,⟨some 57,fD BinOp.gtr 3 (aD 54) (aD 56) 3,(.when 51 true)⟩,oC 58 51 57,cE 59 58,JZ 60 8 59,azE 61 60 59,oC 62 59 61,eY 44 62]
def WO:SOl:=[cO 66 285 7 0,cO 67 49 66 1,bM 68 3 67,cO 69 49 3 1,bM 70 3 69,av1 71 3 68 70,cE 72 71,nS 73 285 7 1 72,nS 74 49 73 1 72,sb 75 3 74 72,nS 76 49 3 1 72,sb 77 3 76 72,avH 78 75 77 72,oC 79 72 78,cE 80 79,JZ 81 8 80,YQ 82 81 0 80,oC 83 80 82,eY 65 83]
noncomputable def Fl:Code:=
 ((jD (Tryz.f342.body.getD .ret)).getD 0 (.ret,.ret)).1
noncomputable def Fm:Code:=
 ((jD (Tryz.f342.body.getD .ret)).getD 0 (.ret,.ret)).2
noncomputable def N8:SC:=
 (.region [iW 7 285,gV 285 7 12])
noncomputable def N9:SC:=
 (.block 1 (.seq (.region [cO 13 285 7 0,bM 14 49 13,cO 15 285 7 1,bM 16 49 15,bM 17 49 3,J2 18 442 14 16 17 49 49 49,eY 8 18])
 (.block 2 (.seq (.region WM)
 (.cond (aD 19) (.seq (.region [an7 4 0])
 .ret) (.seq (.region WN)
 (.cond (aD 44) (.region [bM 63 3 5,C9 64 63 1,gV 3 5 64]) (.seq (.region WO)
 (.cond (aD 65) (.region [bM 84 3 5,av3 85 84,gV 3 5 85]) .skip)))))))))
noncomputable def akm:SC:=
 (.seq (.region [tU 3 49 1,iW 4 3])
 (.seq (.region [iW 5 3,an7 5 0])
 (.seq (.seq (.region [cE 9 0,zh 10 235 9 218])
 (.block 0 (.rfun (aD 10) [11,12] Fl Fm)))
 (.seq (.seq (.region [bM 86 3 5,YF 87 86 0])
 (.cond (aD 87) (.seq (.region [an7 4 (-1)])
 .ret) .skip))
 (.seq (.region [an7 4 1])
 .ret)))))
def akn:eD Fl=N8:=by kernel_rfl
def ako:eD Fm=N9:=by kernel_rfl
def akp:bK 342 Tryz.f342 akm 88 [sH 4 3]:=.of
def auQ:ai 342 3=0/\ai 342 4=0/\ai 342 5=0/\ai 342 7=0:=by and_intros<;>kernel_rfl
def akL:=({y:=_}:bU Tryz.f442 []).1
def akM:bK 442 Tryz.f442 akL 30 [bZ 6]:=.of
def au1:ai 442 3=1/\ai 442 4=1/\ai 442 5=1:=by and_intros<;>kernel_rfl
def akN:=({y:=_}:bU Tryz.f443 []).1
def akO:bK 443 Tryz.f443 akN 19 [bZ 6]:=.of
def au2:ai 443 9=0/\ai 443 16=0:=by and_intros<;>kernel_rfl
def WJ:=({y:=_}:bU Tryz.f340 []).1
def N7:=({y:=_}:cS WJ [1,1,0,1,0,0]).1
def akj:bK 340 Tryz.f340 WJ 25 [bZ 4]:=.of
def auO:ai 340 7=1/\ai 340 9=0/\ai 340 10=0/\ai 340 12=0/\ai 340 21=0/\ai 340 22=0:=by and_intros<;>kernel_rfl
def akk:=({y:=_}:bU Tryz.f341 []).1
def akl:bK 341 Tryz.f341 akk 10 [sH 2 49]:=.of
def auP:ai 341 1=1/\ai 341 2=1:=by and_intros<;>kernel_rfl
noncomputable def Fb:Code:=
 ((jD (Tryz.f236.body.getD .ret)).getD 0 (.ret,.ret)).1
noncomputable def Fc:Code:=
 ((jD (Tryz.f236.body.getD .ret)).getD 0 (.ret,.ret)).2
noncomputable def NW:SC:=
 (.region [iW 8 285,gV 285 8 14])
noncomputable def Fa:SC:=
 (.block 1 (.region [bM 15 218 6,cO 16 285 8 0,cO 17 49 16 0,bM 18 3 17,cO 19 285 8 1,cO 20 49 19 0,bM 21 3 20,an6 22 3 18 21,cO 23 285 8 0,cO 24 49 23 1,bM 25 3 24,cO 26 285 8 1,cO 27 49 26 1,bM 28 3 27,an6 29 3 25 28,YG 30 49 22 29,kN 31 342 15 30 218 49,⟨some 32,fD BinOp.sub 3 (zM (Value.int IntKind.i64 1)) (aD 31) 3,.aw⟩,Db 33 303 5 32,bM 34 3 33,C9 35 34 1,Db 36 303 5 32,gV 3 36 35]))
noncomputable def ajg:SC:=
 (.seq (.region [iW 4 303])
 (.seq (.region [iW 5 303])
 (.seq (.region [cE 9 1,avU 10 340 9 341 218 401,iW 6 218,gV 218 6 10])
 (.seq (.seq (.region [cE 11 0,zh 12 235 11 218])
 (.block 0 (.rfun (aD 12) [13,14] Fb Fc)))
 (.seq (.region [bM 37 303 5,gV 303 4 37])
 .ret)))))
def ajh:eD Fb=NW:=by kernel_rfl
def aji:eD Fc=Fa:=by kernel_rfl
def ajk:(dY Fb&&dY Fc)=true:=by kernel_rfl
def ajj:bK 236 Tryz.f236 ajg 38 [sH 4 303]:=.of
def aur:ai 236 4=0/\ai 236 5=0/\ai 236 6=0/\ai 236 8=0:=by and_intros<;>kernel_rfl
def lB:List Nat:=[0,0,3,0,0,31,0,0,255,511]
noncomputable def EV:Code:=
 ((jD (Tryz.f141.body.getD .ret)).getD 0 (.ret,.ret)).1
noncomputable def EX:Code:=
 ((jD (Tryz.f141.body.getD .ret)).getD 0 (.ret,.ret)).2
noncomputable def Ny:SC:=
 (.region [iW 8 285,gV 285 8 26])
noncomputable def CA:SC:=
 (.block 3 (.seq (.region [bM 27 285 6,bM 28 285 8,kN 29 225 27 28 285 285])
 (.block 4 (.seq (.seq (.region [YF 31 29 2,eY 30 31])
 (.cond (aD 30) .skip (.seq (.region [YF 32 29 3,eY 30 32])
 (.cond (aD 30) .skip (.region [YF 33 29 5,eY 30 33])))))
 (.cond (aD 30) (.seq (.region [an7 4 0])
 .ret) .skip)))))
noncomputable def EW:Code:=
 ((jD (Tryz.f141.body.getD .ret)).getD 1 (.ret,.ret)).1
noncomputable def EY:Code:=
 ((jD (Tryz.f141.body.getD .ret)).getD 1 (.ret,.ret)).2
noncomputable def Nz:SC:=
 (.region [iW 6 285,gV 285 6 22])
noncomputable def NA:SC:=
 (.block 1 (.seq (.region [bM 23 218 3,zh 24 235 23 218])
 (.block 2 (.rfun (aD 24) [25,26] EV EX))))
def VM:SOl:=[cE 34 0,bM 35 218 3,kN 36 236 34 35 218 218,bM 37 218 3,cE 38 0,kN 39 236 37 38 218 218,iW 9 303,iW 10 303,gV 303 9 36,gV 303 10 39]
noncomputable def ah2:SC:=
 (.seq (.region [tU 3 218 1,iW 4 3])
 (.seq (.seq (.region [cE 11 0,zh 12 229 11 218,an4 13 12,cE 14 13,lS 15 218 3 14,J4 16 229 15 218 14,avL 17 16 14,qU 18 14 17])
 (.cond (aD 18) (.seq (.region [an7 4 0])
 .ret) .skip))
 (.seq (.seq (.region [cE 19 0,zh 20 235 19 218])
 (.block 0 (.rfun (aD 20) [21,22] EW EY)))
 (.seq (.draw VM lB)
 (.seq (.block 5 (.seq (.region [J0 41 303 9 0,bM 42 3 41,an5 43 42 0,cE 44 43,avW 45 303 9 2 44,sb 46 3 45 44,azE 47 46 44,oC 48 44 47,cE 49 48,av6 50 303 10 0 49,lS 51 3 50 49,YJ 52 51 0 49,qV 53 52 49,avW 54 303 10 2 53,sb 55 3 54 53,azE 56 55 53,YL 57 53 56 49,qU 58 49 57,eY 40 58])
 (.cond (aD 40) (.seq (.region [an7 4 0])
 .ret) (.seq (.region [J0 60 303 9 0,bM 61 3 60,an5 62 61 0,eY 59 62])
 (.cond (aD 59) (.seq (.region [an7 4 2])
 .ret) (.seq (.region [J0 64 303 10 0,bM 65 3 64,an5 66 65 0,eY 63 66])
 (.cond (aD 63) (.seq (.region [an7 4 3])
 .ret) (.seq (.region [J0 68 303 9 2,bM 69 3 68,an5 70 69 0,eY 67 70])
 (.cond (aD 67) (.seq (.region [an7 4 1])
 .ret) .skip)))))))))
 (.seq (.region [an7 4 4])
 .ret))))))
def ah3:eD EV=Ny:=by kernel_rfl
def ah5:eD EX=CA:=by kernel_rfl
def VK:(dY EV&&dY EX)=true:=by kernel_rfl
def ah4:eD EW=Nz:=by kernel_rfl
def ah6:eD EY=NA:=by kernel_rfl
def ah7:bK 141 Tryz.f141 ah2 71 [sH 4 3]:=.of
def at3:ai 141 3=0/\ai 141 4=0/\ai 141 6=0/\ai 141 8=0/\ai 141 9=1/\ai 141 10=1:=by and_intros<;>kernel_rfl
def aky:=({y:=_}:bU Tryz.f406 []).1
def akz:bK 406 Tryz.f406 aky 16 [bZ 4]:=.of
def auU:ai 406 3=1:=by kernel_rfl
def EU:List Nat:=[0,1,3,7,0,16,0,127]
def Ip:List Nat:=[0,0,2,6,14,0,32,96,254,511,1023,2047]
def Iq:List Nat:=[0,1,3,7,0,16,0,127]
def Ir:SC:=(mC [FZ 24 3 23 22] (P4 24 0 (uf (BU 1 (mC [Db 25 22 21 23,bM 26 52 25,iW 5 52,gV 52 5 26] (.draw [cE 27 3,Da 28 27,cO 29 216 28 1,bM 30 100 29,cO 31 52 5 0,bM 32 9 31,bM 33 52 5,avV 100 30 32 33] EU))) (Kl [C9 34 23 1,cE 23 34]))))
def Cy:SC:=(mC [FZ 49 3 48 47] (P4 49 4 (uf (BU 5 (mC [Db 50 25 46 48,bM 51 9 50,eY 10 51] (mC [cE 53 3,Da 54 53,cO 55 216 54 1,bM 56 100 55,cE 57 10,an9 58 100 56 57,cE 52 58,awT 59 52 0,awT 60 52 1,iW 11 52,gV 52 11 59,eY 12 60] (uf (mC [cE 61 12,an4 62 61,cE 63 62,tT 64 52 11 1 63,lS 65 3 64 63,aBV 66 65 63,qU 67 63 66] (HL 67 (.exit 3) GA)) (Kl [cE 68 8,cO 69 52 11 2,bM 70 49 69,YE 71 218 70,vw 72 68 71 218,eY 8 72]))))) (Kl [C9 73 48 1,cE 48 73]))))
def Cz:SC:=(mC [FZ 39 3 38 37] (P4 39 2 (uf (BU 3 (mC [Db 40 22 36 38,bM 41 52 40,iW 7 52,gV 52 7 41] (uf (mC [cO 42 52 7 1,bM 43 3 42,avM 44 3 43 3] (HL 44 (.exit 3) GA)) (mC [sd 8] (uf (mC [cO 45 52 7 3,bM 46 25 45,F4 47 46 25,jb 48] (BU 4 (OO Cy))) (uf (mC [cE 74 8,zh 75 229 74 218,an4 76 75] (HL 76 (sdR [cE 77 3,cE 78 3,Da 79 78,cO 80 216 79 2,bM 81 25 80,cO 82 52 7 0,bM 83 9 82,YE 84 25 83,vw 85 81 84 25,Da 86 77,cO 87 216 86 2,gV 25 87 85] Ip (.exit 3)) GA)) (.draw [cE 88 3,Da 89 88,cO 90 216 89 0,bM 91 214 90,cO 92 52 7 0,bM 93 9 92,cE 94 8,avV 214 91 93 94] Iq))))))) (Kl [C9 95 38 1,cE 38 95]))))
def ahX:SC:=(mC [tU 1 24 0,Po] (.scope (uf (mC [bM 13 24 1,zh 14 31 13 24,an4 15 14] (HL 15 (mC [Po] ZX) GA)) (mC [se 16 214,se 17 100,⟨some 18,Op.build 216 #[(0,aD 16),(1,aD 17),(2,zM (Value.slice none 0 0))],.aw⟩,tU 19 216 18,eY 3 19] (uf (mC [cO 20 24 1 0,bM 21 22 20,F4 22 21 22,jb 23] (BU 0 (OO Ir))) (uf GA (uf (mC [cO 35 24 1 0,bM 36 22 35,F4 37 36 22,jb 38] (BU 2 (OO Cz))) (mC [cE 96 3,eY 2 96] ZX))))))))
def ahY:bK 137 Tryz.f137 ahX 97 [bZ 2]:=.of
def at1:ai 137 1=1/\ai 137 5=1/\ai 137 7=1/\ai 137 11=1/\ai 137 19=0/\ai 137 22=0/\ai 137 37=0/\ai 137 47=0/\ai 137 71=0/\ai 137 72=0/\ai 137 84=0/\ai 137 85=0:=by and_intros<;>kernel_rfl
def ajc:=({y:=_}:bU Tryz.f233 []).1
def ajd:bK 233 Tryz.f233 ajc 17 [bZ 4]:=.of
def aup:ai 233 16=0:=by kernel_rfl
def VJ:=({y:=_}:bU Tryz.f138 []).1
def Nx:=({y:=_}:cS VJ [1,1,0,1,0,0]).1
def ahZ:bK 138 Tryz.f138 VJ 30 [bZ 4]:=.of
def at2:ai 138 2=0/\ai 138 24=0/\ai 138 25=2:=by and_intros<;>kernel_rfl
def IR:List Nat:=[0,0,3,0,0,31,63,0,0,511,1023,2047,4095]
def ai9:=({y:=_}:bU Tryz.f231 [IR]).1
def aja:bK 231 Tryz.f231 ai9 18 [bZ 5]:=.of
def auo:ai 231 16=0:=by kernel_rfl
def ah0:=({y:=_}:bU Tryz.f139 []).1
def ah1:bK 139 Tryz.f139 ah0 5 [bZ 4]:=.of
def aAd:List Nat:=[0,1,3,7,0,31,0,64,192,448,0,1984,4095,8191]
def Jv:=({y:=_}:bU Tryz.f60 [aAd]).1
def Ow:=({y:=_}:cS Jv [1,1,1,1,0,1,0,0]).1
def CH:=({y:=_}:cS Jv [1,1,1,1,1,1,1,0,1,0,0,1,1,0,0,1,1,0,0]).1
def Fv:=({y:=_}:cS Jv [1,1,1,1,1,1,1,0,1,0,0]).1
def ak4:bK 60 Tryz.f60 Jv 76 [bZ 2]:=.of
def avc:ai 60 1=1/\ai 60 20=0/\ai 60 27=0/\ai 60 29=0/\ai 60 30=0/\ai 60 37=0/\ai 60 47=0/\ai 60 69=0/\ai 60 71=0/\ai 60 72=0:=by and_intros<;>kernel_rfl
noncomputable def Ff:Code:=
 ((jD (Tryz.f299.body.getD .ret)).getD 0 (.ret,.ret)).1
noncomputable def Fg:Code:=
 ((jD (Tryz.f299.body.getD .ret)).getD 0 (.ret,.ret)).2
noncomputable def NX:SC:=
 (.seq (.region [iW 12 49,gV 49 12 45])
 (.region [eY 13 46]))
noncomputable def Fe:SC:=
 (.block 1 (.seq (.region [cE 47 13,an4 48 47,cE 49 48,lS 50 218 10 49,lS 51 49 12 49,YO 52 406 50 51 218 49 49,aoe 53 52 0 49,qU 54 49 53])
 (.cond (aD 54) (.seq (.region [aod 6])
 .ret) .skip)))
noncomputable def ajE:SC:=
 (.seq (.region [tU 3 24 0,iW 6 4])
 (.seq (.region [bM 14 24 3,zh 15 137 14 24,eY 7 15])
 (.seq (.seq (.region [cE 16 7,⟨some 17,fD BinOp.eql 212 (aD 16) (zM (Value.pointer none)) 212,.aw⟩])
 (.cond (aD 17) (.seq (.region [aod 6])
 .ret) .skip))
 (.seq (.region [cE 19 7,Da 20 19,cO 21 216 20 1,bM 22 100 21,cE 23 1,an9 24 100 22 23,cE 18 24,awT 25 18 0,awT 26 18 1,iW 8 52,gV 52 8 25,eY 9 26])
 (.seq (.region [cE 28 7,Da 29 28,cO 30 216 29 0,bM 31 214 30,cE 32 2,an9 33 214 31 32,cE 27 33,awT 34 27 0,awT 35 27 1,iW 10 218,gV 218 10 34,eY 11 35])
 (.seq (.seq (.region [cE 36 9,an4 37 36,cE 38 37,qV 39 11 38,avL 40 39 38,qU 41 38 40])
 (.cond (aD 41) (.seq (.region [aod 6])
 .ret) .skip))
 (.seq (.seq (.region [cE 42 7,bM 43 52 8,kN 44 405 42 43 212 52])
 (.block 0 (.rfun (aD 44) [45,46] Ff Fg)))
 (.seq (.region [⟨none,Op.store 4 (aD 6) (zM (rh true)),.aw⟩])
 .ret))))))))
def ajF:eD Ff=NX:=by kernel_rfl
def ajG:eD Fg=Fe:=by kernel_rfl
def Wg:(dY Ff&&dY Fg)=true:=by kernel_rfl
def ajH:bK 299 Tryz.f299 ajE 55 [sH 6 4]:=.of
def auz:ai 299 3=0/\ai 299 6=0/\ai 299 8=0/\ai 299 10=0/\ai 299 12=0:=by and_intros<;>kernel_rfl
def akw:=({y:=_}:bU Tryz.f405 []).1
def akx:bK 405 Tryz.f405 akw 6 [bZ 4]:=.of
def auT:ai 405 2=0/\ai 405 3=0:=by and_intros<;>kernel_rfl
def CE:List Nat:=[0,1,3,7,15,7,7,103,255,511]
noncomputable def Fo:Code:=
 ((jD (Tryz.f473.body.getD .ret)).getD 0 (.ret,.ret)).1
noncomputable def Fp:Code:=
 ((jD (Tryz.f473.body.getD .ret)).getD 0 (.ret,.ret)).2
noncomputable def Oc:SC:=
 (.seq (.region [iW 8 49,gV 49 8 50])
 (.region [eY 9 51]))
noncomputable def Od:SC:=
 (.block 3 (.seq (.region [bM 52 513 3,bM 53 49 8,cE 54 9,Pm 55 52 53 54 49 4,an4 56 55])
 (.cond (aD 56) .ret .skip)))
noncomputable def CF:SC:=
 (.seq (.region [FZ 21 3 20 19])
 (.seq (.cond (aD 21) .skip (.exit 0))
 (.seq (.block 1 (.seq (.region [cE 22 20,Db 23 25 18 20,bM 24 9 23,eY 4 22,eY 5 24])
 (.seq (.region [bM 26 212 2,Da 27 26,cO 28 216 27 1,bM 29 100 28,cE 30 5,an9 31 100 29 30,cE 25 31,awT 32 25 0,awT 33 25 1,iW 6 52,gV 52 6 32,eY 7 33])
 (.seq (.seq (.draw [cE 34 7,an4 35 34,cE 36 35,tT 37 52 6 1 36,lS 38 3 37 36,lS 39 52 1 36,qV 40 4 36,YO 41 474 39 40 52 3 36,aAp 42 3 38 41 36,qU 43 36 42] CE)
 (.cond (aD 43) (.seq (.region [bM 44 513 3,YN 45 49,⟨some 46,Op.call ⟨Callee.value (aD 44),#[aD 45,zM (rh false)],#[49,4]⟩,.aw⟩])
 .ret) .skip))
 (.seq (.region [bM 47 212 2,bM 48 52 6,kN 49 405 47 48 212 52])
 (.block 2 (.rfun (aD 49) [50,51] Fo Fp)))))))
 (.region [C9 57 20 1,cE 20 57]))))
noncomputable def akQ:SC:=
 (.seq (.region [tU 3 513 0])
 (.seq (.seq (.region [cO 10 52 1 1,bM 11 3 10,YF 12 11 1])
 (.cond (aD 12) (.seq (.region [bM 13 513 3,cO 14 52 1 2,bM 15 49 14,⟨some 16,Op.call ⟨Callee.value (aD 13),#[aD 15,zM (rh true)],#[49,4]⟩,.aw⟩])
 .ret) .skip))
 (.seq (.region [cO 17 52 1 3,bM 18 25 17,F4 19 18 25,jb 20])
 (.block 0 (.loop CF)))))
def akR:eD Fo=Oc:=by kernel_rfl
def akS:eD Fp=Od:=by kernel_rfl
def WZ:(dY Fo&&dY Fp)=true:=by kernel_rfl
def akT:bK 473 Tryz.f473 akQ 58 []:=.of
def au3:ai 473 3=0/\ai 473 6=0/\ai 473 8=0/\ai 473 19=0:=by and_intros<;>kernel_rfl
def akU:=({y:=_}:bU Tryz.f474 []).1
def akV:bK 474 Tryz.f474 akU 17 [bZ 4]:=.of
def au4:ai 474 2=1:=by kernel_rfl
def ati:hQ ae 216 [(0,1),(1,1),(2,1)]:=hQ.of
def ZF:eJ ae 4:=kD
def Zu:eJ ae 100:=kD
def awg:eJ ae 212:=kD
def awh:eJ ae 214:=kD
def sj:eJ ae 218:=kD
def ZC:gl ae 303 3:=nC
def awl:eJ ae 513:=kD
def aaX:dI ae 4=some 1:=by kernel_rfl
def aru:dI ae 218=some 1:=by kernel_rfl
def aaS:dI ae 303=some 3:=by kernel_rfl
def awK:eV ae 216=some (.agg [.nilm,.nilm,.oZ]):=by kernel_rfl
def GX:eV ae 218=some .oZ:=by kernel_rfl
def abE:eV ae 303=some (.agg [(.int .i64 (0)),(.int .i64 (0)),(.int .i64 (0))]):=by kernel_rfl
def aty:cx ae 216 0 0:=eZ
def atz:cx ae 216 1 1:=eZ
def atA:cx ae 216 2 2:=eZ
def AI(lc:Ag.Loc)(l g o:Nat)(i:aa):ja ae lc 303 (.rd l g o) i=(dS i).bind fun i=>bif Nat.blt i 3 then bif Nat.beq (lc.gen l) g then some (.rd l g (o+i*1)) else none else none:=by kernel_rfl
def yY(k:List UInt8):lP ae 100 (.str k)=some (9,52):=by kernel_rfl
def CU(k:List UInt8):lP ae 214 (.str k)=some (9,218):=by kernel_rfl
attribute[go_sem]ati ZF Zu awg awh sj ZC awl aaX aru aaS awK GX abE aty atz atA AI yY CU auL auZ au0 au5 auq auN aun aun auM auQ au1 au2 auO auO auP aur at3 auU at1 aup at2 at2 auo avc auz auT au3 au4 aj5 akF akH akJ azu aje WI ai3 aj8 akm akL akN WJ akk ajg ah2 aky ahX ajc VJ ai9 ah0 Jv ajE akw akQ akU
def NC:List Nat:=[0,1,3,7,0,16,0,64,255]
def VN:List Nat:=[0,1,3,7,0,16,0,64,255]
def NB:=({y:=_}:bU Tryz.f142 [NC,VN]).1
def It:=({y:=_}:cS NB [1,1,1,0,1,0,0]).1
def Iu:=({y:=_}:cS NB [1,1,1,1,0,1,0,0]).1
def ah8:bK 142 Tryz.f142 NB 64 [bZ 2,bZ 3]:=.of
def at4:ai 142 1=1/\ai 142 4=0/\ai 142 6=1/\ai 142 8=1/\ai 142 17=0/\ai 142 20=0/\ai 142 39=0:=by and_intros<;>kernel_rfl
def ajl:=({y:=_}:bU Tryz.f237 []).1
def ajm:bK 237 Tryz.f237 ajl 17 [bZ 3]:=.of
def aus:ai 237 4=1:=by kernel_rfl
def VO:=({y:=_}:bU Tryz.f143 []).1
def wZ:=({y:=_}:cS VO [1,0,1,0,0]).1
def ah9:bK 143 Tryz.f143 VO 43 [bZ 4]:=.of
def at5:ai 143 3=1/\ai 143 7=1/\ai 143 11=0:=by and_intros<;>kernel_rfl
def VS:List Nat:=[0,1,3,0,0,16,48,120,248,7,1023]
def VP:=({y:=_}:bU Tryz.f144 [VS]).1
def Iv:=({y:=_}:cS VP [1,1,1,0,1,0,0]).1
def aia:bK 144 Tryz.f144 VP 60 [bZ 4]:=.of
def at6:ai 144 3=1/\ai 144 5=0/\ai 144 6=0/\ai 144 16=0/\ai 144 33=0:=by and_intros<;>kernel_rfl
def ajn:=({y:=_}:bU Tryz.f238 []).1
def ajo:bK 238 Tryz.f238 ajn 23 [bZ 4]:=.of
def VT:List Nat:=[0,1,3,7,0,16,48,112,255,0,512,1536,3584,8191,16383,32767,65535,131071,262143,32767,557055,1605631,3702783,8388607,32767,16809983,50364415,117473279,268435455,536870911,1073741823]
def aib:=({y:=_}:bU Tryz.f145 [VT]).1
def aic:bK 145 Tryz.f145 aib 35 [bZ 4]:=.of
def at7:ai 145 3=1:=by kernel_rfl
def k61:=({y:=_}:bU Tryz.f61 []).1
def yO:=({y:=_}:cS k61 [1,1,1,1,0,1,0,0]).1
def ak5:bK 61 Tryz.f61 k61 73 [bZ 2]:=.of
def avd:ai 61 1=1/\ai 61 8=1/\ai 61 20=0/\ai 61 43=0/\ai 61 45=0/\ai 61 46=0/\ai 61 65=0/\ai 61 67=0/\ai 61 68=0/\ai 61 72=0:=by and_intros<;>kernel_rfl
def aiy:=({y:=_}:bU Tryz.f216 []).1
def aiz:bK 216 Tryz.f216 aiy 11 [bZ 2]:=.of
def auf:ai 216 4=0:=by kernel_rfl
def ajr:=({y:=_}:bU Tryz.f295 []).1
def ajs:bK 295 Tryz.f295 ajr 9 [bZ 4]:=.of
def WS:=({y:=_}:bU Tryz.f402 []).1
def Ob:=({y:=_}:cS WS [1,0,1,0,0]).1
def akr:bK 402 Tryz.f402 WS 19 [bZ 4]:=.of
def auR:ai 402 7=0:=by kernel_rfl
def ajt:=({y:=_}:bU Tryz.f296 []).1
def aju:bK 296 Tryz.f296 ajt 6 [bZ 2]:=.of
def auw:ai 296 1=1:=by kernel_rfl
def ajx:SOl:=[cO 8 94 1 1,bM 9 9 8,aog 10 9,cE 11 10,nS 12 94 1 1 11,sb 13 9 12 11,F7 14 163 13 9 11,avO 15 14 11,oC 16 11 15,eY 7 16]
def ajy:SOl:=[cO 28 94 1 3,bM 29 92 28,YN 30 92,avN 31 92 29 30,cE 32 31,nS 33 94 1 3 32,nS 34 92 33 0 32,sb 35 9 34 32,F7 36 163 35 9 32,JZ 37 36 32,nS 38 94 1 3 37,nS 39 92 38 1 37,sb 40 9 39 37,F7 41 403 40 9 37,⟨some 42,Op.pick (aD 37) (aD 41) (zM (rh false)),(.when 32 true)⟩,avO 43 42 32,oC 44 32 43,eY 27 44]
def ajz:SOl:=[cE 46 3,an4 47 46,cE 48 47,nS 49 94 1 4 48,sb 50 3 49 48,aob 51 50 1 48,oC 52 48 51,cE 53 52,nS 54 94 1 4 53,sb 55 3 54 53,aob 56 55 3 53,oC 57 53 56,eY 45 57]
def ajv:SC:=(mC [tU 1 94 0,JY 2] (mC [cO 4 94 1 4,bM 5 3 4,YF 6 5 2,eY 3 6] (uf (BU 0 (uf (mC ajx (HL 7 GA (mC [cO 17 94 1 2,bM 18 3 17,YK 19 18 0,eY 7 19] (HL 7 GA (mC [cO 20 94 1 2,bM 21 3 20,an5 22 21 5,eY 7 22] (HL 7 GA (Kl [cO 23 94 1 5,bM 24 9 23,zh 25 163 24 9,an4 26 25,eY 7 26]))))))) (HL 7 (mC [JY 2] ZX) (mC ajy (HL 27 (mC [JY 2] ZX) (uf (mC ajz (HL 45 GA (mC [cE 58 3,cO 59 94 1 6,bM 60 25 59,F4 61 60 25,an5 62 61 0,avN 63 4 58 62,eY 45 63] (HL 45 GA (Kl [cO 64 94 1 6,bM 65 25 64,F4 66 65 25,an5 67 66 60,eY 45 67]))))) (HL 45 (mC [JY 2] ZX) GA))))))) (mC [cO 68 94 1 6,bM 69 25 68,avU 70 167 69 404 25 236,an4 71 70,eY 2 71] ZX))))
def ajw:bK 297 Tryz.f297 ajv 72 [bZ 2]:=.of
def aux:ai 297 1=1/\ai 297 61=0/\ai 297 66=0:=by and_intros<;>kernel_rfl
def aks:=({y:=_}:bU Tryz.f403 []).1
def akt:bK 403 Tryz.f403 aks 10 [bZ 2]:=.of
def auS:ai 403 7=0:=by kernel_rfl
def aku:=({y:=_}:bU Tryz.f404 []).1
def akv:bK 404 Tryz.f404 aku 6 [bZ 2]:=.of
def Nm:=({y:=_}:bU Tryz.f124 []).1
def Nn:=({y:=_}:cS Nm [1,1,1,0,1,0,0,1,1,0,0,1,1,1,0,0]).1
def Np:=({y:=_}:cS Nm [1,1,1,0,1,0,0]).1
def ahB:bK 124 Tryz.f124 Nm 49 [bZ 4]:=.of
def atR:ai 124 2=1/\ai 124 7=1/\ai 124 10=1/\ai 124 20=0/\ai 124 31=0/\ai 124 44=0/\ai 124 45=0:=by and_intros<;>kernel_rfl
def aiA:=({y:=_}:bU Tryz.f217 []).1
def aiB:bK 217 Tryz.f217 aiA 6 [bZ 4]:=.of
def aug:ai 217 2=0/\ai 217 3=0:=by and_intros<;>kernel_rfl
def ajC:SOl:=[cO 10 94 1 2,bM 11 3 10,avM 12 3 11 0,cE 13 12,nS 14 94 1 2 13,sb 15 3 14 13,nS 16 52 3 1 13,sb 17 3 16 13,avG 18 3 15 17 13,oC 19 13 18]
def ajD:SOl:=[cO 29 94 1 3,cO 30 92 29 0,bM 31 9 30,aog 32 31,cE 33 32,JZ 34 6 33,avO 35 34 33,JZ 36 35 33,qV 37 5 36,tT 38 94 1 3 36,tT 39 92 38 1 36,lS 40 9 39 36,aAp 41 9 37 40 36,YR 42 36 41 33,oC 43 33 42]
def Wf:SOl:=[cE 69 9,an4 70 69,cE 71 70,nS 72 94 1 1 71,sb 73 9 72 71,⟨some 74,fD BinOp.eql 9 (aD 73) (zM (Value.string {data:= #[] })) 9,(.when 71 true)⟩,JZ 75 74 71,lS 76 24 2 75,tT 77 52 3 0 75,lS 78 9 77 75,tT 79 94 1 1 75,lS 80 9 79 75,avF 81 299 76 78 80 24 9 9 75,YR 82 75 81 71,oC 83 71 82,eY 4 83]
def ajA:SC:=(mC [tU 3 52 0,JY 4] (uf (mC ajC (HL 19 (mC [JY 4] ZX) GA)) (uf (mC [cO 21 52 3 4,bM 22 50 21,cO 23 94 1 3,cO 24 92 23 0,bM 25 9 24,kN 26 214 22 25 50 9,cE 20 26,awT 27 20 0,awT 28 20 1,eY 5 27,eY 6 28] (mC ajD (HL 43 (mC [JY 4] ZX) GA))) (mC [cO 45 52 3 4,bM 46 50 45,cO 47 94 1 5,bM 48 9 47,kN 49 214 46 48 50 9,cE 44 49,awT 50 44 0,awT 51 44 1,eY 7 50,eY 8 51] (mC [cE 52 8,eY 9 52] (uf (mC [cO 53 94 1 4,bM 54 3 53] (BU 0 (mC [YF 56 54 3,eY 55 56] (HL 55 (Kl [cE 57 8,an4 58 57,eY 9 58]) (mC [YF 60 54 2,eY 59 60] (HL 59 (Kl [cE 61 8,an4 62 61,cE 63 62,tT 64 94 1 6 63,lS 65 25 64 63,qV 66 7 63,YO 67 130 65 66 25 9 63,qU 68 63 67,eY 9 68]) GA)))))) (mC Wf ZX)))))))
def ajB:bK 298 Tryz.f298 ajA 84 [bZ 4]:=.of
def auy:ai 298 3=1:=by kernel_rfl
def Oh:=({y:=_}:bU Tryz.f57 []).1
def Jp:=({y:=_}:cS Oh [1,1,0,1,0,0]).1
def Jq:=({y:=_}:cS Oh [1,1,1,1,0,1,0,0]).1
def ak0:bK 57 Tryz.f57 Oh 50 [bZ 4]:=.of
def au9:ai 57 2=1/\ai 57 7=1/\ai 57 10=1/\ai 57 15=0/\ai 57 32=0/\ai 57 44=0/\ai 57 46=0/\ai 57 47=0:=by and_intros<;>kernel_rfl
def VZ:=({y:=_}:bU Tryz.f214 []).1
def IL:=({y:=_}:cS VZ [1,0,1,0,0]).1
def aix:bK 214 Tryz.f214 VZ 21 [bZ 4,bZ 5]:=.of
def aue:ai 214 7=1/\ai 214 9=0:=by and_intros<;>kernel_rfl
def k28:=({y:=_}:bU Tryz.f28 []).1
def ajq:bK 28 Tryz.f28 k28 9 [sH 4 24]:=.of
def auu:ai 28 2=1/\ai 28 3=0/\ai 28 4=1:=by and_intros<;>kernel_rfl
def k73:=({y:=_}:bU Tryz.f73 []).1
def ala:bK 73 Tryz.f73 k73 13 [bZ 5]:=.of
def k72:=({y:=_}:bU Tryz.f72 []).1
def ak8:bK 72 Tryz.f72 k72 12 [bZ 4]:=.of
def avf:ai 72 2=1/\ai 72 3=0:=by and_intros<;>kernel_rfl
def Iw:List Nat:=[0,0,2,6,6,31,63]
def aie:=({y:=_}:bU Tryz.f158 [Iw]).1
def aif:bK 158 Tryz.f158 aie 10 [bZ 3]:=.of
def at9:ai 158 2=1:=by kernel_rfl
def VU:=({y:=_}:bU Tryz.f157 []).1
def ND:=({y:=_}:cS VU [1,1,0,1,0,0]).1
def aid:bK 157 Tryz.f157 VU 23 [bZ 4]:=.of
def at8:ai 157 7=1/\ai 157 9=0/\ai 157 19=0/\ai 157 20=0:=by and_intros<;>kernel_rfl
def aig:=({y:=_}:bU Tryz.f159 []).1
def aih:bK 159 Tryz.f159 aig 18 [bZ 2,bZ 3]:=.of
def aua:ai 159 1=1:=by kernel_rfl
def IK:=({y:=_}:bU Tryz.f18 []).1
def NG:=({y:=_}:cS IK [1,1,1,1,1,0,1,0,0,1,1,0,0,1,1,1,0,0,1,1,0,0,1,1,0,0]).1
def NH:=({y:=_}:cS IK [1,1,1,1,1,0,1,0,0,1,1,0,0,1,1,1,0,0]).1
def NJ:=({y:=_}:cS IK [1,1,1,1,1,0,1,0,0]).1
def aiw:bK 18 Tryz.f18 IK 57 [bZ 4]:=.of
def aud:ai 18 2=1/\ai 18 3=0/\ai 18 10=1/\ai 18 14=1/\ai 18 20=0/\ai 18 21=0/\ai 18 24=0/\ai 18 25=0/\ai 18 34=0/\ai 18 42=0/\ai 18 51=0/\ai 18 52=0:=by and_intros<;>kernel_rfl
def k56:=({y:=_}:bU Tryz.f56 []).1
def Jo:bK 56 Tryz.f56 k56 8 [bZ 3]:=.of
def au8:ai 56 2=1:=by kernel_rfl
def Oi:=({y:=_}:bU Tryz.f58 []).1
def Jr:=({y:=_}:cS Oi [1,1,1,0,1,0,0,1,1,0,0,1,1,0,0]).1
def Oj:=({y:=_}:cS Oi [1,1,1,0,1,0,0]).1
def ak1:bK 58 Tryz.f58 Oi 46 [bZ 2]:=.of
def ava:ai 58 1=1/\ai 58 6=1/\ai 58 13=0/\ai 58 20=0/\ai 58 39=0/\ai 58 41=0/\ai 58 42=0:=by and_intros<;>kernel_rfl
def ahC:=({y:=_}:bU Tryz.f125 []).1
def ahD:bK 125 Tryz.f125 ahC 17 [bZ 2]:=.of
def atS:ai 125 1=1/\ai 125 8=0/\ai 125 12=0/\ai 125 15=0:=by and_intros<;>kernel_rfl
def V4:List Nat:=[0,0,0,6,0,0,48,126,255,511]
def V0:=({y:=_}:bU Tryz.f218 [V4]).1
def E4:=({y:=_}:cS V0 [1,1,1,1,1,1,0,0,0]).1
def aiC:bK 218 Tryz.f218 V0 48 [bZ 4]:=.of
def auh:ai 218 14=0/\ai 218 30=0/\ai 218 33=0/\ai 218 36=0/\ai 218 45=0:=by and_intros<;>kernel_rfl
def W3:=({y:=_}:bU Tryz.f65 []).1
def Ox:=({y:=_}:cS W3 [1,1,0,1,0,0]).1
def ak6:bK 65 Tryz.f65 W3 23 [bZ 2]:=.of
def ave:ai 65 1=1/\ai 65 5=1/\ai 65 8=0/\ai 65 12=0:=by and_intros<;>kernel_rfl
def k23:=({y:=_}:bU Tryz.f23 []).1
def ate:hQ ae 187 [(0,1),(1,1)]:=hQ.of
def atj:hQ ae 228 [(0,1),(1,1),(2,1)]:=hQ.of
def SE:uI ae 306 1:=uI.of
def Zy:eJ ae 27:=kD
def ZA:gl ae 29 6:=nC
def ZD:gl ae 31 3:=nC
def ZH:gl ae 94 8:=nC
def ZI:eJ ae 97:=kD
def awa:eJ ae 107:=kD
def awc:gl ae 187 2:=nC
def awi:eJ ae 222:=kD
def Zw:eJ ae 225:=kD
def awj:eJ ae 226:=kD
def aaU:dI ae 31=some 3:=by kernel_rfl
def aa3:dI ae 94=some 8:=by kernel_rfl
def awv:dI ae 187=some 2:=by kernel_rfl
def awA:dI ae 222=some 1:=by kernel_rfl
def aaT:dI ae 306=some 2:=by kernel_rfl
def abJ:eV ae 94=some (.agg [(.bool false),(.str []),(.int .i64 (0)),(.str []),(.str []),(.int .i64 (0)),(.str []),.oZ]):=by kernel_rfl
def awF:eV ae 187=some (.agg [(.int .i64 (0)),(.str [])]):=by kernel_rfl
def awL:eV ae 222=some .nilp:=by kernel_rfl
def awM:eV ae 228=some (.agg [.oZ,.nilm,.nilm]):=by kernel_rfl
def abF:eV ae 306=some (.agg [(.bool false),(.bool false)]):=by kernel_rfl
def Ub:cx ae 29 4 4:=eZ
def Uc:cx ae 29 5 5:=eZ
def Ud:cx ae 31 0 0:=eZ
def Ul:cx ae 94 0 0:=eZ
def Um:cx ae 94 1 1:=eZ
def Un:cx ae 94 2 2:=eZ
def Uo:cx ae 94 3 3:=eZ
def Uq:cx ae 94 4 5:=eZ
def Ur:cx ae 94 5 6:=eZ
def Us:cx ae 94 6 7:=eZ
def atr:cx ae 187 0 0:=eZ
def att:cx ae 187 1 1:=eZ
def atB:cx ae 228 0 0:=eZ
def atC:cx ae 228 1 1:=eZ
def atD:cx ae 228 2 2:=eZ
def HT(cs:List aa):yD ae 52 (.agg cs) 1=js ae 3 cs 1:=by kernel_rfl
def t9:gR ae 27 8 112 true (.agg [(.bool false),(.str []),(.int .i64 (0)),(.str []),(.str []),(.int .i64 (0)),(.str []),.oZ]):=gR.of
def GD:gR ae 98 1 8 false .nilf:=gR.of
def P7:gR ae 184 2 24 true (.agg [(.int .i64 (0)),(.str [])]):=gR.of
def Vf(lc:Ag.Loc)(l g o:Nat)(i:aa):ja ae lc 306 (.rd l g o) i=(dS i).bind fun i=>bif Nat.blt i 2 then bif Nat.beq (lc.gen l) g then some (.rd l g (o+i*1)) else none else none:=by kernel_rfl
def FJ(k:List UInt8):lP ae 225 (.str k)=some (9,49):=by kernel_rfl
def FK(k:List UInt8):lP ae 226 (.str k)=some (9,25):=by kernel_rfl
attribute[go_sem]ate atj SE Zy ZA ZD ZH ZI awa awc awi Zw awj aaU aa3 awv awA aaT abJ awF awL awM abF Ub Ub Uc Ud Ul Um Un Uo Uq Ur Ur Us atr att atB atC atD HT t9 j6 j6 GD P7 t9 FJ FK at4 at4 aus at5 at6 at7 avd avd auf auR auw aux auS atR aug auy au9 au9 aue auu avf at9 at8 aua aud au8 ava ava atS auh ave NB ajl VO VP ajn aib k61 aiy ajr WS ajt ajv aks aku Nm aiA ajA Oh VZ k28 k73 k72 aie VU aig IK k56 Oi ahC V0 W3 k23
def avu:F3 NP=(3,[7,15,31]):=by kernel_rfl
def avv:F3 NQ=(13,[8191,16383,32767]):=by kernel_rfl
def avx:F3 NR=(13,[8191,16383,32767]):=by kernel_rfl
def V9:F3 V8=(19,[524287,1048575]):=by kernel_rfl
def avy:F3 Wh=(12,[4095,8191,16383]):=by kernel_rfl
def avt:F3 V6=(9,[511,1023]):=by kernel_rfl
def avj:F3 VD=(15,[32767]):=by kernel_rfl
def avk:F3 VF=(17,[131071]):=by kernel_rfl
def avi:F3 VC=(14,[16383]):=by kernel_rfl
def avo:F3 VH=(9,[511]):=by kernel_rfl
def avp:F3 EU=(7,[127]):=by kernel_rfl
def avB:F3 aAd=(12,[4095,8191]):=by kernel_rfl
def avz:F3 CE=(8,[255,511]):=by kernel_rfl
def avq:F3 NC=(8,[255]):=by kernel_rfl
def avr:F3 VS=(10,[1023]):=by kernel_rfl
def avs:F3 VT=(28,[268435455,536870911,1073741823]):=by kernel_rfl
attribute[go_sem]avu avv avx V9 avy avt avj avk avi avo avp avB avz avq avr avs
def ajK:=({y:=_}:bU Tryz.f300 []).1
def ajL:bK 300 Tryz.f300 ajK 30 [bZ 4,bZ 5]:=.of
def akA:=({y:=_}:bU Tryz.f408 []).1
def akB:bK 408 Tryz.f408 akA 51 [bZ 4,bZ 5]:=.of
attribute[go_sem]ajK akA
def Fs:List Nat:=[0,0,0,6,14,31,0,127]
def Ft:List Nat:=[0,0,0,0,12,28,63,127]
def Fu:List Nat:=[0,1,0,4,0,28,60,124,255,511,1023]
def k5:=({y:=_}:bU Tryz.f5 [Fs,Ft,Fu]).1
def Ov:=({y:=_}:cS k5 [1,1,1,1,1,1,1,1,0,1,0,0]).1
def Jt:=({y:=_}:cS k5 [1,1,1,1,1,1,1,1,1,1,1,0,1,0,0]).1
def Ju:=({y:=_}:cS k5 [1,1,1,1,1,1,1,1,1,1,1,1,1,0,1,0,0]).1
def We:=({y:=_}:bU Tryz.f29 []).1
def NY:=({y:=_}:cS We [1,1,1,1,1,0,1,0,0]).1
def Ix:=({y:=_}:bU Tryz.f16 []).1
def IJ:=({y:=_}:cS Ix [1,0,1,0,0]).1
def aiu:bK 16 Tryz.f16 Ix 36 [bZ 6]:=.of
def aub:ai 16 3=1/\ai 16 4=1/\ai 16 11=0/\ai 16 20=0/\ai 16 28=0:=by and_intros<;>kernel_rfl
def CG:List Nat:=[0,0,3,7,15,31,0,0,192,448,960,1984,4095,0,0,24576,57344,122880,253952,516096,1048575,0,0,6291456,14680064,31457280,65011712,132120576,268435455,536870911,1073741823,2147483647,2147483647,8589934591,17179869183,34359738367,68719476735,137438953471,274877906943]
def Og:=({y:=_}:bU Tryz.f55 [CG]).1
def Jm:=({y:=_}:cS Og [1,0,1,0,0,1,0,0,1,1,0,0]).1
def Fq:=({y:=_}:cS Og [1,0,1,0,0]).1
def akY:bK 55 Tryz.f55 Og 76 [bZ 4]:=.of
def au7:ai 55 9=0/\ai 55 18=0/\ai 55 24=0/\ai 55 32=0/\ai 55 40=0/\ai 55 49=0/\ai 55 58=0/\ai 55 70=0/\ai 55 73=0:=by and_intros<;>kernel_rfl
def AV:List Nat:=[0,0,3,7,15,0,0,96,224,480,1023,2047,4095,4095,16383,32767,65535,4095,4095,397311,921599,1970175,4194303,8388607,16777215,33554431,33554431,134217727,268435455,536870911,33554431,33554431,3254779903,7549747199,16139681791,34359738367,68719476735,137438953471]
def VY:=({y:=_}:bU Tryz.f17 [AV]).1
def CB:=({y:=_}:cS VY [1,1,0,1,0,0]).1
def aiv:bK 17 Tryz.f17 VY 55 [bZ 4]:=.of
def auc:ai 17 7=0/\ai 17 9=0/\ai 17 13=0:=by and_intros<;>kernel_rfl
def k30:=({y:=_}:bU Tryz.f30 []).1
def k74:=({y:=_}:bU Tryz.f74 []).1
def k21:=({y:=_}:bU Tryz.f21 []).1
def ayL:=({y:=_}:cS k21 [1,1,1,1,1,1,0,1,0,0]).1
def ayM:=({y:=_}:cS k21 [1,1,1,1,1,1,1,1,0,1,0,0]).1
def k66:=({y:=_}:bU Tryz.f66 []).1
def ayO:=({y:=_}:cS k66 [1,1,1,0,0]).1
def aBu:List Nat:=[0,0,0,0,14,31,0,127,0,511,1023]
def k25:=({y:=_}:bU Tryz.f25 [aBu]).1
def k67:=({y:=_}:bU Tryz.f67 []).1
def k68:=({y:=_}:bU Tryz.f68 []).1
def aCk:=({y:=_}:cS k68 [1,1,0,1,0,1,0,1,0,0]).1
def aCl:=({y:=_}:cS k68 [1,1,0,1,0,1,1,1,0,1,0,0]).1
def k69:=({y:=_}:bU Tryz.f69 []).1
def atE:cx ae 31 1 1:=eZ
attribute[go_sem]atE t9 aub au7 auc k5 We Ix Og VY k30 k74 k21 k66 k25 k67 k68 k69
def akX:List Nat:=[0,0,3,0,15,31]
def k4:=({y:=_}:bU Tryz.f4 [akX]).1
def avA:=({y:=_}:cS k4 [1,1,1,1,1,0,1,0,0]).1
def ax3:List Nat:=[0,0,3,7,15,0,32,127,255,511,511,2047,4095,8191,511,16895,65535,131071,262143,524287,524287,2097151,4194303,8388607,524287,17301503,67108863,134217727]
def k27:=({y:=_}:bU Tryz.f27 [ax3]).1
def ayN:=({y:=_}:cS k27 [1,0,1,0,0]).1
attribute[go_sem]k4 k27
