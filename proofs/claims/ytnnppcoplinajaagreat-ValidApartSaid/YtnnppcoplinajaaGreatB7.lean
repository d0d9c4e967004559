/- Lemmas for ValidApart. -/
import Derived.Test.YtnnppcoplinajaaGreatB6
import Derived.Test.YtnnppcoplinajaaGreatAg3
set_option linter.all false
open Go.Ag.cx renaming of→eZ
open Go.Op renaming binOp→fD
open Go.Operand renaming tmp→aD
open Go.ResultVar renaming cell→sH,tmp→bZ
open Go.Ag.gl renaming of→nC
open Go.Ag.gR renaming of→oQ
open Go.Proofs.Tryz renaming prog→ae
namespace Go.Proofs.YtnnppcoplinajaaGreat
open Go.Ag
def W4:List Nat:=[0,0,3,7,0,0,48,112,255]
def W5:List Nat:=[0,0,3,7,0,0,48,112,255,511]
def Oz:=({y:=_}:bU Tryz.f82 [W4,W5]).1
def Fw:=({y:=_}:cS Oz [1,0,1,0,0]).1
def Jx:bK 82 Tryz.f82 Oz 41 [bZ 4]:=.of
def EK:ai 82 8=0/\ai 82 13=0/\ai 82 37=0/\ai 82 39=0:=by and_intros<;>kernel_rfl
def Oa:=({y:=_}:bU Tryz.f35 []).1
def Jf:bK 35 Tryz.f35 Oa 15 [bZ 4]:=.of
def k12:=({y:=_}:bU Tryz.f12 []).1
def SJ:hQ ae 52 [(0,1),(1,1),(2,2),(4,1),(5,1)]:=hQ.of
def Zx:eJ ae 26:=eJ.of
def aaO:dI ae 26=some 1:=by kernel_rfl
def aao:gR ae 63 1 24 false .oZ:=oQ
def W6:F3 W4=(8,[255]):=by kernel_rfl
def alh:F3 W5=(8,[255,511]):=by kernel_rfl
def Wk:=({y:=_}:bU Tryz.f311 []).1
def Fi:=({y:=_}:cS Wk [1,0,1,0,0]).1
def IZ:bK 311 Tryz.f311 Wk 26 [bZ 2]:=.of
def auH:ai 311 4=1/\ai 311 6=0/\ai 311 15=0/\ai 311 22=0:=by and_intros<;>kernel_rfl
def ajV:=({y:=_}:bU Tryz.f312 []).1
def I4:bK 312 Tryz.f312 ajV 16 [sH 2 285]:=.of
def auI:ai 312 1=1/\ai 312 2=1:=by and_intros<;>kernel_rfl
def ajW:=({y:=_}:bU Tryz.f313 []).1
def I5:bK 313 Tryz.f313 ajW 24 [bZ 6]:=.of
def auJ:ai 313 3=1/\ai 313 4=1/\ai 313 5=1/\ai 313 11=0:=by and_intros<;>kernel_rfl
def I6:List Nat:=[0,1,0,4,0,0,51,127]
abbrev ajZ:List aw:=[tU 2 285 0,tU 3 285 1,oD 4 0]
abbrev aj0:List aw:=[cO 7 285 3 0,bM 8 49 7,cO 9 285 3 1,bM 10 49 9,avJ 11 49 8 10]
abbrev aj1:List aw:=[bM 12 285 3,bM 13 285 2,gV 285 2 12,gV 285 3 13]
abbrev Wx:List aw:=[cO 14 285 2 0,bM 15 49 14,cO 16 285 2 1,bM 17 49 16,avJ 18 49 15 17]
abbrev Wy:List aw:=[bM 20 285 3,cO 21 285 2 0,bM 22 49 21,kN 23 422 20 22 285 49,an4 24 23,eY 19 24]
abbrev Wz:List aw:=[oD 4 0]
abbrev WA:List aw:=[cO 26 285 2 0,bM 27 49 26,cO 28 285 3 0,bM 29 49 28,avJ 30 49 27 29,cE 31 30,tT 32 285 2 0 31,lS 33 49 32 31,tT 34 285 3 1 31,lS 35 49 34 31,aoc 36 49 33 35 31,qU 37 31 36,eY 25 37]
abbrev WB:List aw:=[oD 4 1]
abbrev WD:List aw:=[oD 4 2]
abbrev WH:List aw:=[cO 38 285 2 0,bM 39 49 38,cO 40 285 2 1,bM 41 49 40,iW 5 49,iW 6 49,gV 49 5 39,gV 49 6 41]
abbrev Wn:List aw:=[cO 42 285 3 0,bM 43 49 42,bM 44 49 5,kN 45 379 43 44 49 49,an5 46 45 0]
abbrev Wo:List aw:=[cO 47 285 3 0,bM 48 49 47,gV 49 5 48]
abbrev Wp:List aw:=[cO 49 285 3 1,bM 50 49 49,bM 51 49 6,kN 52 379 50 51 49 49,YK 53 52 0]
abbrev Wq:List aw:=[cO 54 285 3 1,bM 55 49 54,gV 49 6 55]
abbrev Wr:List aw:=[bM 56 49 5,bM 57 49 6,kN 58 379 56 57 49 49]
abbrev Ws:List aw:=[YF 60 58 (-1),eY 59 60]
abbrev Wt:List aw:=[oD 4 5]
abbrev Wu:List aw:=[YF 62 58 0,eY 61 62]
abbrev Wv:List aw:=[oD 4 1]
abbrev Ww:List aw:=[oD 4 0]
def Wl:=({y:=_}:bU Tryz.f314 [I6]).1
def I7:bK 314 Tryz.f314 Wl 63 [bZ 4]:=.of
def auK:ai 314 2=1/\ai 314 3=1/\ai 314 5=1/\ai 314 6=1:=by and_intros<;>kernel_rfl
def NP:List Nat:=[0,1,0,7,15,31]
def NQ:List Nat:=[0,1,0,4,0,16,63,0,128,0,512,0,2048,8191,16383,32767]
def NR:List Nat:=[0,1,0,4,0,16,63,0,128,0,512,0,2048,8191,16383,32767]
abbrev aiL:List aw:=[tU 2 285 0,tU 3 285 1,oD 4 0]
abbrev aiM:List aw:=[cO 9 285 2 0,bM 10 49 9,cO 11 285 2 1,bM 12 49 11,cO 13 285 3 0,bM 14 49 13,cO 15 285 3 1,bM 16 49 15,⟨some 17,Op.buildSlice 218 4 #[(0,aD 10),(1,aD 12),(2,aD 14),(3,aD 16)],.aw⟩,zh 18 311 17 218,an4 19 18]
abbrev aiU:List aw:=[oD 4 0]
abbrev aiV:List aw:=[bM 20 285 2,zh 21 312 20 285,bM 22 285 3,zh 23 312 22 285,gV 285 2 21,gV 285 3 23]
abbrev aiW:List aw:=[bM 25 285 2,bM 26 285 3,avJ 27 285 25 26,eY 24 27]
abbrev aiX:List aw:=[oD 4 4]
abbrev aiY:List aw:=[cO 29 285 2 0,bM 30 49 29,cO 31 285 2 1,bM 32 49 31,avJ 33 49 30 32,cE 34 33,tT 35 285 3 0 34,lS 36 49 35 34,tT 37 285 3 1 34,lS 38 49 37 34,aoc 39 49 36 38 34,qU 40 34 39,cE 41 40,tT 42 285 2 0 41,lS 43 49 42 41,tT 44 285 2 1 41,lS 45 49 44 41,tT 46 285 3 0 41,lS 47 49 46 41,avF 48 313 43 45 47 49 49 49 41,aoa 49 48 0 41,qV 50 49 41,nS 51 285 2 0 50,sb 52 49 51 50,nS 53 285 2 1 50,sb 54 49 53 50,nS 55 285 3 1 50,sb 56 49 55 50,YD 57 313 52 54 56 49 50,Pl 58 57 0 50,YL 59 50 58 41,qU 60 41 59,eY 28 60]
abbrev aiZ:List aw:=[bM 61 285 2,bM 62 285 3,kN 63 314 61 62 285 285,eY 4 63]
abbrev ai0:List aw:=[cO 64 285 2 0,bM 65 49 64,cO 66 285 2 1,bM 67 49 66,cO 68 285 3 0,bM 69 49 68,J2 70 313 65 67 69 49 49 49,cO 71 285 2 0,bM 72 49 71,cO 73 285 2 1,bM 74 49 73,cO 75 285 3 1,bM 76 49 75,J2 77 313 72 74 76 49 49 49,eY 5 70,eY 6 77]
abbrev ai1:List aw:=[cO 78 285 3 0,bM 79 49 78,cO 80 285 3 1,bM 81 49 80,cO 82 285 2 0,bM 83 49 82,J2 84 313 79 81 83 49 49 49,cO 85 285 3 0,bM 86 49 85,cO 87 285 3 1,bM 88 49 87,cO 89 285 2 1,bM 90 49 89,J2 91 313 86 88 90 49 49 49,eY 7 84,eY 8 91]
abbrev aiN:List aw:=[cE 93 5,cE 94 6,YH 95 3 93 94,an5 96 95 0,cE 97 96,qV 98 7 97,qV 99 8 97,⟨some 100,fD BinOp.mul 3 (aD 98) (aD 99) 3,(.when 97 false)⟩,YJ 101 100 0 97,qU 102 97 101,eY 92 102]
abbrev aiO:List aw:=[oD 4 0]
abbrev aiP:List aw:=[cE 104 5,cE 105 6,YH 106 3 104 105,YK 107 106 0,cE 108 107,JZ 109 7 108,JZ 110 8 108,⟨some 111,fD BinOp.mul 3 (aD 109) (aD 110) 3,(.when 108 true)⟩,YQ 112 111 0 108,oC 113 108 112,eY 103 113]
abbrev aiQ:List aw:=[oD 4 3]
abbrev aiR:List aw:=[cE 115 5,cE 116 6,YH 117 3 115 116,YF 118 117 0,cE 119 118,JZ 120 7 119,JZ 121 8 119,⟨some 122,fD BinOp.mul 3 (aD 120) (aD 121) 3,(.when 119 true)⟩,Pl 123 122 0 119,oC 124 119 123,eY 114 124]
abbrev aiS:List aw:=[oD 4 1]
abbrev aiT:List aw:=[oD 4 2]
def Wa:=({y:=_}:bU Tryz.f225 [NP,NQ,NR]).1
def IP:bK 225 Tryz.f225 Wa 125 [bZ 4]:=.of
def aum:ai 225 2=1/\ai 225 3=1/\ai 225 17=0:=by and_intros<;>kernel_rfl
def akC:=({y:=_}:bU Tryz.f420 []).1
def Ji:bK 420 Tryz.f420 akC 16 [sH 4 475]:=.of
def auW:ai 420 2=1/\ai 420 3=1/\ai 420 4=1:=by and_intros<;>kernel_rfl
def akD:=({y:=_}:bU Tryz.f421 []).1
def Jj:bK 421 Tryz.f421 akD 16 [bZ 4]:=.of
def auX:ai 421 2=1/\ai 421 3=1:=by and_intros<;>kernel_rfl
def akE:=({y:=_}:bU Tryz.f422 []).1
def Jk:bK 422 Tryz.f422 akE 49 [bZ 4]:=.of
def auY:ai 422 2=1/\ai 422 3=1/\ai 422 10=0:=by and_intros<;>kernel_rfl
def ajO:=({y:=_}:bU Tryz.f303 []).1
def IV:bK 303 Tryz.f303 ajO 12 [sH 4 365]:=.of
def auB:ai 303 4=1/\ai 303 7=0/\ai 303 10=0:=by and_intros<;>kernel_rfl
def ajS:=({y:=_}:bU Tryz.f308 []).1
def IX:bK 308 Tryz.f308 ajS 17 [bZ 4]:=.of
def auF:ai 308 2=1/\ai 308 3=1:=by and_intros<;>kernel_rfl
def V8:List Nat:=[0,0,0,0,0,16,48,0,128,384,1008,0,2048,6144,0,16384,49152,131056,262140,524287,1048575]
def CC:=({y:=_}:bU Tryz.f224 [V8]).1
def NK:=({y:=_}:cS CC [1,1,1,0,1,0,0]).1
def CD:=({y:=_}:cS CC [1,1,1,1,1,1,1,0,1,0,0,1,1,0,0,1,1,0,1,0,0]).1
def NL:=({y:=_}:cS CC [1,1,1,1,1,1,1,0,1,0,0]).1
def aiJ:bK 224 Tryz.f224 CC 102 [bZ 2,bZ 3]:=.of
def Va:ai 224 6=1/\ai 224 10=0/\ai 224 12=1/\ai 224 15=0/\ai 224 18=0/\ai 224 19=2/\ai 224 21=0/\ai 224 37=0/\ai 224 44=0/\ai 224 49=0/\ai 224 51=0/\ai 224 58=0/\ai 224 60=0/\ai 224 69=0/\ai 224 75=0/\ai 224 83=0/\ai 224 88=0/\ai 224 91=0/\ai 224 92=2/\ai 224 96=0/\ai 224 97=2/\ai 224 100=0:=by and_intros<;>kernel_rfl
def Wh:List Nat:=[0,1,3,0,8,24,63,0,128,0,512,1920,4095,8191,16383]
def ajP:=({y:=_}:bU Tryz.f305 [Wh]).1
def IW:bK 305 Tryz.f305 ajP 19 [bZ 4]:=.of
def auC:ai 305 2=1/\ai 305 3=1/\ai 305 17=0:=by and_intros<;>kernel_rfl
def ajQ:=({y:=_}:bU Tryz.f307 []).1
def ajR:bK 307 Tryz.f307 ajQ 11 [bZ 3]:=.of
def auE:ai 307 2=1:=by kernel_rfl
def Wi:=({y:=_}:bU Tryz.f306 []).1
def NZ:=({y:=_}:cS Wi [1,1,1,0,1,0,0]).1
def Fh:bK 306 Tryz.f306 Wi 42 [bZ 4]:=.of
def auD:ai 306 7=1/\ai 306 18=0:=by and_intros<;>kernel_rfl
def WU:=({y:=_}:bU Tryz.f418 []).1
def Jh:=({y:=_}:cS WU [1,0,1,0,0]).1
def WW:bK 418 Tryz.f418 WU 19 [bZ 4]:=.of
def auV:ai 418 7=0:=by kernel_rfl
def ajU:=({y:=_}:bU Tryz.f310 []).1
def IY:bK 310 Tryz.f310 ajU 17 [bZ 4]:=.of
def auG:ai 310 2=1/\ai 310 3=1/\ai 310 15=0:=by and_intros<;>kernel_rfl
def SD:hQ ae 290 [(0,1),(1,1),(2,1)]:=hQ.of
def SH:hQ ae 365 [(0,1),(1,1)]:=hQ.of
def SI:hQ ae 368 [(0,1),(1,4),(5,2),(7,2)]:=hQ.of
def atl:hQ ae 475 [(0,1),(1,1)]:=hQ.of
def Zz:gl ae 285 4:=nC
def ZE:gl ae 365 2:=nC
def PN:gl ae 368 9:=nC
def awk:gl ae 475 2:=nC
def aaP:dI ae 285=some 4:=by kernel_rfl
def aaV:dI ae 365=some 2:=by kernel_rfl
def aaW:dI ae 368=some 9:=by kernel_rfl
def awC:dI ae 475=some 2:=by kernel_rfl
def abC:eV ae 285=some (.agg [(.int .i64 (0)),(.int .i64 (0)),(.int .i64 (0)),(.int .i64 (0))]):=by kernel_rfl
def abD:eV ae 290=some (.agg [(.int .i64 (0)),(.int .i64 (0)),(.int .i64 (0))]):=by kernel_rfl
def abH:eV ae 365=some (.agg [(.int .i64 (0)),(.int .i64 (0))]):=by kernel_rfl
def abI:eV ae 368=some (.agg [(.int .i64 (0)),(.int .i64 (0)),(.int .i64 (0)),(.int .i64 (0)),(.int .i64 (0)),(.int .i64 (0)),(.int .i64 (0)),(.int .i64 (0)),(.int .i64 (0))]):=by kernel_rfl
def awO:eV ae 475=some (.agg [(.int .i64 (0)),(.int .i64 (0))]):=by kernel_rfl
def T6:cx ae 285 0 0:=eZ
def T7:cx ae 285 1 2:=eZ
def T8:cx ae 290 0 0:=eZ
def T9:cx ae 290 1 1:=eZ
def Uf:cx ae 365 0 0:=eZ
def Ug:cx ae 365 1 1:=eZ
def Uh:cx ae 368 0 0:=eZ
def Ui:cx ae 368 1 1:=eZ
def Uj:cx ae 368 2 5:=eZ
def Uk:cx ae 368 3 7:=eZ
def atF:cx ae 475 0 0:=eZ
def atG:cx ae 475 1 1:=eZ
def zF:gR ae 205 4 32 true (.agg [(.int .i64 (0)),(.int .i64 (0)),(.int .i64 (0)),(.int .i64 (0))]):=oQ
def ua:gR ae 363 9 72 true (.agg [(.int .i64 (0)),(.int .i64 (0)),(.int .i64 (0)),(.int .i64 (0)),(.int .i64 (0)),(.int .i64 (0)),(.int .i64 (0)),(.int .i64 (0)),(.int .i64 (0))]):=oQ
def GC:gR ae 286 3 24 true (.agg [(.int .i64 (0)),(.int .i64 (0)),(.int .i64 (0))]):=oQ
attribute[go_sem]SD SH SI atl Zz ZE PN awk aaP aaV aaW awC abC abD abH abI awO T6 T7 T8 T8 T9 Uf Ug Uh Ui Uj Uk atF atF atG zF ua GC auH auI auJ auK aum auW auX auY auB auF Va auC auC auE auD auV auG Wk ajV ajW Wl Wa akC akD akE ajO ajS CC ajP ajQ Wi WU ajU
def VB:=({y:=_}:bU Tryz.f126 []).1
def Nq:=({y:=_}:cS VB [1,1,1,0,1,0,0]).1
def ahE:bK 126 Tryz.f126 VB 29 [sH 2 190,bZ 3]:=.of
def atT:ai 126 1=1/\ai 126 2=1/\ai 126 4=1/\ai 126 6=1/\ai 126 16=0:=by and_intros<;>kernel_rfl
def aiD:=({y:=_}:bU Tryz.f219 []).1
def aiE:bK 219 Tryz.f219 aiD 10 [bZ 4]:=.of
def aui:ai 219 2=0/\ai 219 3=1:=by and_intros<;>kernel_rfl
def ajM:=({y:=_}:bU Tryz.f301 []).1
def ajN:bK 301 Tryz.f301 ajM 25 [bZ 3]:=.of
def pk:List Nat:=[0,1,0,0,8,24,60,127,255,511]
def pm:List Nat:=[0,0,3,0,8,31,63]
def Ik:=({y:=_}:bU Tryz.f127 [pk,pm]).1
def yN:=({y:=_}:cS Ik [1,1,0,1,0,0,1,1,0,0,1,1,1,0,0]).1
def ET:=({y:=_}:cS Ik [1,1,0,1,0,0]).1
def Nr:=({y:=_}:cS Ik [1,1,1,1,0,1,0,0]).1
def ahF:bK 127 Tryz.f127 Ik 110 [bZ 2]:=.of
def atU:ai 127 1=1/\ai 127 5=1/\ai 127 10=1/\ai 127 12=1/\ai 127 18=0/\ai 127 39=0/\ai 127 50=0/\ai 127 62=0/\ai 127 68=0/\ai 127 71=0/\ai 127 85=0/\ai 127 87=0/\ai 127 92=0/\ai 127 93=2/\ai 127 105=0/\ai 127 106=0:=by and_intros<;>kernel_rfl
def aiF:=({y:=_}:bU Tryz.f221 []).1
def aiG:bK 221 Tryz.f221 aiF 19 [bZ 4]:=.of
def auj:ai 221 2=1/\ai 221 3=1/\ai 221 17=0:=by and_intros<;>kernel_rfl
def V6:List Nat:=[0,0,3,7,0,0,32,112,240,511,1023]
def V5:=({y:=_}:bU Tryz.f222 [V6]).1
def E5:=({y:=_}:cS V5 [1,0,1,0,0]).1
def aiH:bK 222 Tryz.f222 V5 25 [bZ 2]:=.of
def auk:ai 222 8=0:=by kernel_rfl
def ahI:=({y:=_}:bU Tryz.f129 []).1
def ahJ:bK 129 Tryz.f129 ahI 15 [sH 4 49]:=.of
def atW:ai 129 2=1/\ai 129 4=1:=by and_intros<;>kernel_rfl
def VD:List Nat:=[0,1,3,0,8,24,63,0,128,384,0,1024,3072,8064,127,32767]
def VF:List Nat:=[0,0,2,6,0,16,48,127,0,0,512,1536,0,4096,12288,32512,255,131071]
def VC:List Nat:=[0,0,0,4,14,30,0,0,128,448,960,2046,0,4096,16383]
def ahM:List Nat:=[0,0,3,7,15,31,0,0,192,448,960,1984,4095,0,16383]
def ahN:List Nat:=[0,0,3,7,15,31,0,0,192,448,960,1984,4095,0,16383]
def ahO:List Nat:=[0,0,3,7,0,0,48,112,255,511]
def Cx:=({y:=_}:bU Tryz.f131 [VD,VF,VC,ahM,ahN,ahO]).1
def Il:=({y:=_}:cS Cx [1,1,0,1,0,0]).1
def Nt:=({y:=_}:cS Cx [1,1,1,0,1,0,1,0,1,0,0]).1
def avl:=({y:=_}:cS Cx [1,1,1,1,1,1,0,1,0,0]).1
def avm:=({y:=_}:cS Cx [1,1,1,1,1,1,1,1,1,0,0,1,1,0,0,1,1,0,0]).1
def avn:=({y:=_}:cS Cx [1,1,1,1,1,1,1,1,1,0,0]).1
def ahP:bK 131 Tryz.f131 Cx 208 []:=.of
def atX:ai 131 11=1/\ai 131 15=1/\ai 131 27=0/\ai 131 39=0/\ai 131 40=0/\ai 131 49=0/\ai 131 56=0/\ai 131 64=0/\ai 131 72=0/\ai 131 75=0/\ai 131 83=0:=by and_intros<;>kernel_rfl
def Im:List Nat:=[0,0,0,4,12,30,0,0,128,384,1022,2046,4094,8191,16383]
def VG:=({y:=_}:bU Tryz.f132 [Im]).1
def Nu:=({y:=_}:cS VG [1,1,0,1,0,0]).1
def ahQ:bK 132 Tryz.f132 VG 30 [bZ 4]:=.of
def atY:ai 132 2=1/\ai 132 7=1/\ai 132 9=0/\ai 132 26=0/\ai 132 27=0:=by and_intros<;>kernel_rfl
def tG:List Nat:=[0,0,2,7,15,0,0,64,224,480,0,0,3103,8191]
def tH:List Nat:=[0,1,0,4,12,31,63,127,255,127,639,1663,4095,8191,16383]
def k59:=({y:=_}:bU Tryz.f59 [tG,tH]).1
def Ol:=({y:=_}:cS k59 [1,1,1,1,1,1,1,0,1,0,0,1,1,0,0,1,1,0,0,1,1,0,0,1,1,1,0,0,1,0,0]).1
def Om:=({y:=_}:cS k59 [1,1,1,1,1,1,1,0,1,0,0,1,1,0,0,1,1,0,0]).1
def On:=({y:=_}:cS k59 [1,1,1,1,1,1,1,0,1,0,0]).1
def Oo:=({y:=_}:cS k59 [1,1,1,1,1,1,1,1,1,0,1,0,0]).1
def Oq:=({y:=_}:cS k59 [1,1,1,1,1,1,1,1,1,1,1,1,0,1,0,0,1,1,0,1,1,1,1,1,0,0,1,1,0,0,1,1,0,0]).1
def Ot:=({y:=_}:cS k59 [1,1,1,1,1,1,1,1,1,1,1,1,0,1,0,0,1,1,0,1,1,1,1,1,0,0]).1
def Js:=({y:=_}:cS k59 [1,1,1,1,1,1,1,1,1,1,1,1,0,1,0,0]).1
def Ou:=({y:=_}:cS k59 [1,1,1,1,1,1,1,1,1,1,1,1,1,1,0,1,0,0]).1
def ak2:bK 59 Tryz.f59 k59 180 [bZ 2]:=.of
def avb:ai 59 1=1/\ai 59 3=1/\ai 59 6=0/\ai 59 10=1/\ai 59 13=1/\ai 59 19=1/\ai 59 21=1/\ai 59 22=0/\ai 59 29=0/\ai 59 43=0/\ai 59 65=0/\ai 59 79=0/\ai 59 81=0/\ai 59 86=0/\ai 59 92=0/\ai 59 93=0/\ai 59 147=0/\ai 59 154=0/\ai 59 175=0/\ai 59 176=2:=by and_intros<;>kernel_rfl
def ahG:=({y:=_}:bU Tryz.f128 []).1
def ahH:bK 128 Tryz.f128 ahG 13 []:=.of
def atV:ai 128 8=0/\ai 128 11=0:=by and_intros<;>kernel_rfl
def VH:List Nat:=[0,0,3,7,0,0,32,112,240,511]
def ahR:List Nat:=[0,0,3,7,0,0,32,112,240,511]
def Nv:=({y:=_}:bU Tryz.f133 [VH,ahR]).1
def ahT:=({y:=_}:cS Nv [1,1,0,1,0,0,1,0,0,1,0,1,0,1,0,0]).1
def Nw:=({y:=_}:cS Nv [1,1,0,1,0,0]).1
def ahS:bK 133 Tryz.f133 Nv 61 [bZ 2]:=.of
def atZ:ai 133 7=0/\ai 133 12=0/\ai 133 31=0:=by and_intros<;>kernel_rfl
def ahU:=({y:=_}:bU Tryz.f135 []).1
def ahV:bK 135 Tryz.f135 ahU 10 [bZ 4]:=.of
def at0:ai 135 2=1/\ai 135 3=1:=by and_intros<;>kernel_rfl
def SF:hQ ae 31 [(0,1),(1,1),(2,1)]:=hQ.of
def atf:hQ ae 190 [(0,1),(1,1)]:=hQ.of
def atg:uI ae 196 1:=uI.of
def ath:hQ ae 200 [(0,2),(2,1)]:=hQ.of
def SB:hQ ae 285 [(0,2),(2,2)]:=hQ.of
def awb:eJ ae 127:=eJ.of
def awd:gl ae 190 2:=nC
def awe:eJ ae 195:=eJ.of
def awf:gl ae 196 2:=nC
def apt:gl ae 200 3:=nC
def ZB:gl ae 290 3:=nC
def aww:dI ae 190=some 2:=by kernel_rfl
def awx:dI ae 195=some 1:=by kernel_rfl
def awy:dI ae 196=some 2:=by kernel_rfl
def awz:dI ae 200=some 3:=by kernel_rfl
def aaQ:dI ae 290=some 3:=by kernel_rfl
def v8:eV ae 25=some .oZ:=by kernel_rfl
def abG:eV ae 31=some (.agg [(.str []),(.int .i64 (0)),.oZ]):=by kernel_rfl
def awG:eV ae 190=some (.agg [.oZ,.nilm]):=by kernel_rfl
def awH:eV ae 195=some .nilm:=by kernel_rfl
def awI:eV ae 196=some (.agg [(.str []),(.str [])]):=by kernel_rfl
def awJ:eV ae 200=some (.agg [(.str []),(.str []),.oZ]):=by kernel_rfl
def Ue:cx ae 31 2 2:=eZ
def atu:cx ae 190 0 0:=eZ
def atv:cx ae 190 1 1:=eZ
def atw:cx ae 200 0 0:=eZ
def atx:cx ae 200 1 2:=eZ
def Ua:cx ae 290 2 2:=eZ
def GB:gR ae 193 3 56 true (.agg [(.str []),(.str []),.oZ]):=oQ
def avh(lc:Ag.Loc)(l g o:Nat)(i:aa):ja ae lc 196 (.rd l g o) i=(dS i).bind fun i=>bif Nat.blt i 2 then bif Nat.beq (lc.gen l) g then some (.rd l g (o+i*1)) else none else none:=by kernel_rfl
def ahz(cs:List aa)(i:aa):AM ae 196 (.agg cs) i=(dS i).bind fun i=>bif Nat.blt i 2 then js ae 9 cs (i*1) else none:=by kernel_rfl
def j6:gR ae 35 3 48 true (.agg [(.str []),(.int .i64 (0)),.oZ]):=oQ
attribute[go_sem]SF atf atg ath SB awb awd awe awf apt ZB aww awx awy awz aaQ v8 abG awG awH awI awJ Ue Ue atu atv atw atx Ua GB avh GC ahz GC j6 GB zF atT aui atU atU auj auk atW atX atX atY avb avb atV atZ at0 VB aiD ajM Ik aiF V5 ahI Cx VG k59 ahG Nv ahU
