/- Lemmas for ValidParts. -/
import Derived.Test.YtnnppcoplinajaaGreatB6
import Derived.Test.YtnnppcoplinajaaGreatAg3
set_option linter.all false
open Go.Ag.bX renaming of→ep
open Go.Op renaming binOp→eI
open Go.Operand renaming tmp→aB
open Go.ResultVar renaming cell→re,tmp→bQ
open Go.Ag.fy renaming of→mT
open Go.Ag.fY renaming of→ot
open Go.Proofs.Tryz renaming prog→ah
namespace Go.Proofs.YtnnppcoplinajaaGreat
open Go.Ag
def YM:List Nat:=[0,0,3,7,0,0,48,112,255]
def YN:List Nat:=[0,0,3,7,0,0,48,112,255,511]
def O8:=({y:=_}:bw Tryz.f82 [YM,YN]).1
def Fi:=({y:=_}:cr O8 [1,0,1,0,0]).1
def IX:bC 82 Tryz.f82 O8 41 [bQ 4]:=.of
def Ez:ak 82 8=0/\ak 82 13=0/\ak 82 37=0/\ak 82 39=0:=by and_intros<;>kernel_rfl
def OI:=({y:=_}:bw Tryz.f35 []).1
def Iz:bC 35 Tryz.f35 OI 15 [bQ 4]:=.of
def TX:gL ah 52 [(0,1),(1,1),(2,2),(4,1),(5,1)]:=gL.of
def abJ:dH ah 26:=dH.of
def acX:df ah 26=some 1:=by kernel_rfl
def acs:fY ah 63 1 24 false .AL:=ot
def YO:fe YM=(8,[255]):=by kernel_rfl
def apO:fe YN=(8,[255,511]):=by kernel_rfl
def Ow:=({y:=_}:bw Tryz.f311 []).1
def E8:=({y:=_}:cr Ow [1,0,1,0,0]).1
def Im:bC 311 Tryz.f311 Ow 26 [bQ 2]:=.of
def als:ak 311 4=1/\ak 311 6=0/\ak 311 15=0/\ak 311 22=0:=by and_intros<;>kernel_rfl
def X0:=({y:=_}:bw Tryz.f312 []).1
def Io:bC 312 Tryz.f312 X0 16 [re 2 285]:=.of
def alt:ak 312 1=1/\ak 312 2=1:=by and_intros<;>kernel_rfl
def X1:=({y:=_}:bw Tryz.f313 []).1
def Ip:bC 313 Tryz.f313 X1 24 [bQ 6]:=.of
def alu:ak 313 3=1/\ak 313 4=1/\ak 313 5=1/\ak 313 11=0:=by and_intros<;>kernel_rfl
def Iq:List Nat:=[0,1,0,4,0,0,51,127]
abbrev aoF:List au:=[qO 2 285 0,qO 3 285 1,oe 4 0]
abbrev aoG:List au:=[ce 7 285 3 0,bt 8 49 7,ce 9 285 3 1,bt 10 49 9,FJ 11 49 8 10]
abbrev aoH:List au:=[bt 12 285 3,bt 13 285 2,f7 285 2 12,f7 285 3 13]
abbrev Yd:List au:=[ce 14 285 2 0,bt 15 49 14,ce 16 285 2 1,bt 17 49 16,FJ 18 49 15 17]
abbrev Ye:List au:=[bt 20 285 3,ce 21 285 2 0,bt 22 49 21,pG 23 422 20 22 285 49,mD 24 23,dc 19 24]
abbrev Yf:List au:=[oe 4 0]
abbrev Yg:List au:=[ce 26 285 2 0,bt 27 49 26,ce 28 285 3 0,bt 29 49 28,FJ 30 49 27 29,cd 31 30,pJ 32 285 2 0 31,kQ 33 49 32 31,pJ 34 285 3 1 31,kQ 35 49 34 31,P2 36 49 33 35 31,pH 37 31 36,dc 25 37]
abbrev Yh:List au:=[oe 4 1]
abbrev Yi:List au:=[oe 4 2]
abbrev Yj:List au:=[ce 38 285 2 0,bt 39 49 38,ce 40 285 2 1,bt 41 49 40,hQ 5 49,hQ 6 49,f7 49 5 39,f7 49 6 41]
abbrev X3:List au:=[ce 42 285 3 0,bt 43 49 42,bt 44 49 5,pG 45 379 43 44 49 49,wW 46 45 0]
abbrev X4:List au:=[ce 47 285 3 0,bt 48 49 47,f7 49 5 48]
abbrev X5:List au:=[ce 49 285 3 1,bt 50 49 49,bt 51 49 6,pG 52 379 50 51 49 49,PZ 53 52 0]
abbrev X6:List au:=[ce 54 285 3 1,bt 55 49 54,f7 49 6 55]
abbrev X7:List au:=[bt 56 49 5,bt 57 49 6,pG 58 379 56 57 49 49]
abbrev X8:List au:=[qN 60 58 (-1),dc 59 60]
abbrev X9:List au:=[oe 4 5]
abbrev Ya:List au:=[qN 62 58 0,dc 61 62]
abbrev Yb:List au:=[oe 4 1]
abbrev Yc:List au:=[oe 4 0]
def Ox:=({y:=_}:bw Tryz.f314 [Iq]).1
def Ir:bC 314 Tryz.f314 Ox 63 [bQ 4]:=.of
def alv:ak 314 2=1/\ak 314 3=1/\ak 314 5=1/\ak 314 6=1:=by and_intros<;>kernel_rfl
def Og:List Nat:=[0,1,0,7,15,31]
def Oh:List Nat:=[0,1,0,4,0,16,63,0,128,0,512,0,2048,8191,16383,32767]
def Oi:List Nat:=[0,1,0,4,0,16,63,0,128,0,512,0,2048,8191,16383,32767]
abbrev anM:List au:=[qO 2 285 0,qO 3 285 1,oe 4 0]
abbrev anN:List au:=[ce 9 285 2 0,bt 10 49 9,ce 11 285 2 1,bt 12 49 11,ce 13 285 3 0,bt 14 49 13,ce 15 285 3 1,bt 16 49 15,⟨some 17,Op.buildSlice 218 4 #[(0,aB 10),(1,aB 12),(2,aB 14),(3,aB 16)],.aw⟩,nm 18 311 17 218,mD 19 18]
abbrev anV:List au:=[oe 4 0]
abbrev anW:List au:=[bt 20 285 2,nm 21 312 20 285,bt 22 285 3,nm 23 312 22 285,f7 285 2 21,f7 285 3 23]
abbrev anX:List au:=[bt 25 285 2,bt 26 285 3,FJ 27 285 25 26,dc 24 27]
abbrev anZ:List au:=[oe 4 4]
abbrev an0:List au:=[ce 29 285 2 0,bt 30 49 29,ce 31 285 2 1,bt 32 49 31,FJ 33 49 30 32,cd 34 33,pJ 35 285 3 0 34,kQ 36 49 35 34,pJ 37 285 3 1 34,kQ 38 49 37 34,P2 39 49 36 38 34,pH 40 34 39,cd 41 40,pJ 42 285 2 0 41,kQ 43 49 42 41,pJ 44 285 2 1 41,kQ 45 49 44 41,pJ 46 285 3 0 41,kQ 47 49 46 41,aaJ 48 313 43 45 47 49 49 49 41,asJ 49 48 0 41,rZ 50 49 41,ip 51 285 2 0 50,kd 52 49 51 50,ip 53 285 2 1 50,kd 54 49 53 50,ip 55 285 3 1 50,kd 56 49 55 50,PV 57 313 52 54 56 49 50,aay 58 57 0 50,PY 59 50 58 41,pH 60 41 59,dc 28 60]
abbrev an1:List au:=[bt 61 285 2,bt 62 285 3,pG 63 314 61 62 285 285,dc 4 63]
abbrev an2:List au:=[ce 64 285 2 0,bt 65 49 64,ce 66 285 2 1,bt 67 49 66,ce 68 285 3 0,bt 69 49 68,FK 70 313 65 67 69 49 49 49,ce 71 285 2 0,bt 72 49 71,ce 73 285 2 1,bt 74 49 73,ce 75 285 3 1,bt 76 49 75,FK 77 313 72 74 76 49 49 49,dc 5 70,dc 6 77]
abbrev an3:List au:=[ce 78 285 3 0,bt 79 49 78,ce 80 285 3 1,bt 81 49 80,ce 82 285 2 0,bt 83 49 82,FK 84 313 79 81 83 49 49 49,ce 85 285 3 0,bt 86 49 85,ce 87 285 3 1,bt 88 49 87,ce 89 285 2 1,bt 90 49 89,FK 91 313 86 88 90 49 49 49,dc 7 84,dc 8 91]
abbrev anO:List au:=[cd 93 5,cd 94 6,JB 95 3 93 94,wW 96 95 0,cd 97 96,rZ 98 7 97,rZ 99 8 97,⟨some 100,eI BinOp.mul 3 (aB 98) (aB 99) 3,(.when 97 false)⟩,aax 101 100 0 97,pH 102 97 101,dc 92 102]
abbrev anP:List au:=[oe 4 0]
abbrev anQ:List au:=[cd 104 5,cd 105 6,JB 106 3 104 105,PZ 107 106 0,cd 108 107,rX 109 7 108,rX 110 8 108,⟨some 111,eI BinOp.mul 3 (aB 109) (aB 110) 3,(.when 108 true)⟩,aaE 112 111 0 108,nk 113 108 112,dc 103 113]
abbrev anR:List au:=[oe 4 3]
abbrev anS:List au:=[cd 115 5,cd 116 6,JB 117 3 115 116,qN 118 117 0,cd 119 118,rX 120 7 119,rX 121 8 119,⟨some 122,eI BinOp.mul 3 (aB 120) (aB 121) 3,(.when 119 true)⟩,aay 123 122 0 119,nk 124 119 123,dc 114 124]
abbrev anT:List au:=[oe 4 1]
abbrev anU:List au:=[oe 4 2]
def Oc:=({y:=_}:bw Tryz.f225 [Og,Oh,Oi]).1
def Ib:bC 225 Tryz.f225 Oc 125 [bQ 4]:=.of
def ak8:ak 225 2=1/\ak 225 3=1/\ak 225 17=0:=by and_intros<;>kernel_rfl
def Yv:=({y:=_}:bw Tryz.f420 []).1
def IC:bC 420 Tryz.f420 Yv 16 [re 4 475]:=.of
def alH:ak 420 2=1/\ak 420 3=1/\ak 420 4=1:=by and_intros<;>kernel_rfl
def Yw:=({y:=_}:bw Tryz.f421 []).1
def IE:bC 421 Tryz.f421 Yw 16 [bQ 4]:=.of
def alI:ak 421 2=1/\ak 421 3=1:=by and_intros<;>kernel_rfl
def Yx:=({y:=_}:bw Tryz.f422 []).1
def IG:bC 422 Tryz.f422 Yx 49 [bQ 4]:=.of
def alJ:ak 422 2=1/\ak 422 3=1/\ak 422 10=0:=by and_intros<;>kernel_rfl
def XT:=({y:=_}:bw Tryz.f303 []).1
def Ii:bC 303 Tryz.f303 XT 12 [re 4 365]:=.of
def alm:ak 303 4=1/\ak 303 7=0/\ak 303 10=0:=by and_intros<;>kernel_rfl
def XX:=({y:=_}:bw Tryz.f308 []).1
def Ik:bC 308 Tryz.f308 XX 17 [bQ 4]:=.of
def alq:ak 308 2=1/\ak 308 3=1:=by and_intros<;>kernel_rfl
def Xz:List Nat:=[0,0,0,0,0,16,48,0,128,384,1008,0,2048,6144,0,16384,49152,131056,262140,524287,1048575]
def Aw:=({y:=_}:bw Tryz.f224 [Xz]).1
def Oa:=({y:=_}:cr Aw [1,1,1,0,1,0,0]).1
def Cn:=({y:=_}:cr Aw [1,1,1,1,1,1,1,0,1,0,0,1,1,0,0,1,1,0,1,0,0]).1
def Ob:=({y:=_}:cr Aw [1,1,1,1,1,1,1,0,1,0,0]).1
def anH:bC 224 Tryz.f224 Aw 102 [bQ 2,bQ 3]:=.of
def Nj:ak 224 6=1/\ak 224 10=0/\ak 224 12=1/\ak 224 15=0/\ak 224 18=0/\ak 224 19=2/\ak 224 21=0/\ak 224 37=0/\ak 224 44=0/\ak 224 49=0/\ak 224 51=0/\ak 224 58=0/\ak 224 60=0/\ak 224 69=0/\ak 224 75=0/\ak 224 83=0/\ak 224 88=0/\ak 224 91=0/\ak 224 92=2/\ak 224 96=0/\ak 224 97=2/\ak 224 100=0:=by and_intros<;>kernel_rfl
def XV:List Nat:=[0,1,3,0,8,24,63,0,128,0,512,1920,4095,8191,16383]
def XU:=({y:=_}:bw Tryz.f305 [XV]).1
def Ij:bC 305 Tryz.f305 XU 19 [bQ 4]:=.of
def Wm:ak 305 2=1/\ak 305 3=1/\ak 305 17=0:=by and_intros<;>kernel_rfl
def XW:=({y:=_}:bw Tryz.f307 []).1
def aoC:bC 307 Tryz.f307 XW 11 [bQ 3]:=.of
def alp:ak 307 2=1:=by kernel_rfl
def Ou:=({y:=_}:bw Tryz.f306 []).1
def Ov:=({y:=_}:cr Ou [1,1,1,0,1,0,0]).1
def E7:bC 306 Tryz.f306 Ou 42 [bQ 4]:=.of
def alo:ak 306 7=1/\ak 306 18=0:=by and_intros<;>kernel_rfl
def OM:=({y:=_}:bw Tryz.f418 []).1
def IB:=({y:=_}:cr OM [1,0,1,0,0]).1
def Yu:bC 418 Tryz.f418 OM 19 [bQ 4]:=.of
def alG:ak 418 7=0:=by kernel_rfl
def XZ:=({y:=_}:bw Tryz.f310 []).1
def Il:bC 310 Tryz.f310 XZ 17 [bQ 4]:=.of
def alr:ak 310 2=1/\ak 310 3=1/\ak 310 15=0:=by and_intros<;>kernel_rfl
def LD:gL ah 290 [(0,1),(1,1),(2,1)]:=gL.of
def LH:gL ah 365 [(0,1),(1,1)]:=gL.of
def LI:gL ah 368 [(0,1),(1,4),(5,2),(7,2)]:=gL.of
def afy:gL ah 475 [(0,1),(1,1)]:=gL.of
def Qt:fy ah 285 4:=mT
def Qy:fy ah 365 2:=mT
def JL:fy ah 368 9:=mT
def aug:fy ah 475 2:=mT
def Rs:df ah 285=some 4:=by kernel_rfl
def Ry:df ah 365=some 2:=by kernel_rfl
def Rz:df ah 368=some 9:=by kernel_rfl
def awy:df ah 475=some 2:=by kernel_rfl
def RZ:dX ah 285=some (.agg [(.int .i64 (0)),(.int .i64 (0)),(.int .i64 (0)),(.int .i64 (0))]):=by kernel_rfl
def R0:dX ah 290=some (.agg [(.int .i64 (0)),(.int .i64 (0)),(.int .i64 (0))]):=by kernel_rfl
def R5:dX ah 365=some (.agg [(.int .i64 (0)),(.int .i64 (0))]):=by kernel_rfl
def R6:dX ah 368=some (.agg [(.int .i64 (0)),(.int .i64 (0)),(.int .i64 (0)),(.int .i64 (0)),(.int .i64 (0)),(.int .i64 (0)),(.int .i64 (0)),(.int .i64 (0)),(.int .i64 (0))]):=by kernel_rfl
def ayx:dX ah 475=some (.agg [(.int .i64 (0)),(.int .i64 (0))]):=by kernel_rfl
def MA:bX ah 285 0 0:=ep
def MB:bX ah 285 1 2:=ep
def Hl:bX ah 290 0 0:=ep
def MC:bX ah 290 1 1:=ep
def MG:bX ah 365 0 0:=ep
def MH:bX ah 365 1 1:=ep
def MI:bX ah 368 0 0:=ep
def MJ:bX ah 368 1 1:=ep
def MM:bX ah 368 2 5:=ep
def MN:bX ah 368 3 7:=ep
def Vw:bX ah 475 0 0:=ep
def air:bX ah 475 1 1:=ep
def vo:fY ah 205 4 32 true (.agg [(.int .i64 (0)),(.int .i64 (0)),(.int .i64 (0)),(.int .i64 (0))]):=ot
def sj:fY ah 363 9 72 true (.agg [(.int .i64 (0)),(.int .i64 (0)),(.int .i64 (0)),(.int .i64 (0)),(.int .i64 (0)),(.int .i64 (0)),(.int .i64 (0)),(.int .i64 (0)),(.int .i64 (0))]):=ot
def zd:fY ah 286 3 24 true (.agg [(.int .i64 (0)),(.int .i64 (0)),(.int .i64 (0))]):=ot
attribute[go_sem]LD LH LI afy Qt Qy JL aug Rs Ry Rz awy RZ R0 R5 R6 ayx MA MB Hl Hl MC MG MH MI MJ MM MN Vw Vw air vo sj zd als alt alu alv ak8 alH alI alJ alm alq Nj Wm Wm alp alo alG alr Ow X0 X1 Ox Oc Yv Yw Yx XT XX Aw XU XW Ou OM XZ
def NB:=({y:=_}:bw Tryz.f126 []).1
def NC:=({y:=_}:cr NB [1,1,1,0,1,0,0]).1
def amD:bC 126 Tryz.f126 NB 29 [re 2 190,bQ 3]:=.of
def akF:ak 126 1=1/\ak 126 2=1/\ak 126 4=1/\ak 126 6=1/\ak 126 16=0:=by and_intros<;>kernel_rfl
def Xw:=({y:=_}:bw Tryz.f219 []).1
def anA:bC 219 Tryz.f219 Xw 10 [bQ 4]:=.of
def ak4:ak 219 2=0/\ak 219 3=1:=by and_intros<;>kernel_rfl
def XS:=({y:=_}:bw Tryz.f301 []).1
def aoA:bC 301 Tryz.f301 XS 25 [bQ 3]:=.of
def oP:List Nat:=[0,1,0,0,8,24,60,127,255,511]
def oQ:List Nat:=[0,0,3,0,8,31,63]
def EE:=({y:=_}:bw Tryz.f127 [oP,oQ]).1
def yy:=({y:=_}:cr EE [1,1,0,1,0,0,1,1,0,0,1,1,1,0,0]).1
def EF:=({y:=_}:cr EE [1,1,0,1,0,0]).1
def ND:=({y:=_}:cr EE [1,1,1,1,0,1,0,0]).1
def amE:bC 127 Tryz.f127 EE 110 [bQ 2]:=.of
def Wg:ak 127 1=1/\ak 127 5=1/\ak 127 10=1/\ak 127 12=1/\ak 127 18=0/\ak 127 39=0/\ak 127 50=0/\ak 127 62=0/\ak 127 68=0/\ak 127 71=0/\ak 127 85=0/\ak 127 87=0/\ak 127 92=0/\ak 127 93=2/\ak 127 105=0/\ak 127 106=0:=by and_intros<;>kernel_rfl
def Xx:=({y:=_}:bw Tryz.f221 []).1
def anC:bC 221 Tryz.f221 Xx 19 [bQ 4]:=.of
def ak5:ak 221 2=1/\ak 221 3=1/\ak 221 17=0:=by and_intros<;>kernel_rfl
def Xy:List Nat:=[0,0,3,7,0,0,32,112,240,511,1023]
def N7:=({y:=_}:bw Tryz.f222 [Xy]).1
def EP:=({y:=_}:cr N7 [1,0,1,0,0]).1
def anF:bC 222 Tryz.f222 N7 25 [bQ 2]:=.of
def ak6:ak 222 8=0:=by kernel_rfl
def W6:=({y:=_}:bw Tryz.f129 []).1
def amG:bC 129 Tryz.f129 W6 15 [re 4 49]:=.of
def akH:ak 129 2=1/\ak 129 4=1:=by and_intros<;>kernel_rfl
def W9:List Nat:=[0,1,3,0,8,24,63,0,128,384,0,1024,3072,8064,127,32767]
def Xa:List Nat:=[0,0,2,6,0,16,48,127,0,0,512,1536,0,4096,12288,32512,255,131071]
def W8:List Nat:=[0,0,0,4,14,30,0,0,128,448,960,2046,0,4096,16383]
def amI:List Nat:=[0,0,3,7,15,31,0,0,192,448,960,1984,4095,0,16383]
def amJ:List Nat:=[0,0,3,7,15,31,0,0,192,448,960,1984,4095,0,16383]
def amK:List Nat:=[0,0,3,7,0,0,48,112,255,511]
def Au:=({y:=_}:bw Tryz.f131 [W9,Xa,W8,amI,amJ,amK]).1
def HP:=({y:=_}:cr Au [1,1,0,1,0,0]).1
def NF:=({y:=_}:cr Au [1,1,1,0,1,0,1,0,1,0,0]).1
def ayA:=({y:=_}:cr Au [1,1,1,1,1,1,0,1,0,0]).1
def ayB:=({y:=_}:cr Au [1,1,1,1,1,1,1,1,1,0,0,1,1,0,0,1,1,0,0]).1
def ayC:=({y:=_}:cr Au [1,1,1,1,1,1,1,1,1,0,0]).1
def amO:bC 131 Tryz.f131 Au 208 []:=.of
def Wh:ak 131 11=1/\ak 131 15=1/\ak 131 27=0/\ak 131 39=0/\ak 131 40=0/\ak 131 49=0/\ak 131 56=0/\ak 131 64=0/\ak 131 72=0/\ak 131 75=0/\ak 131 83=0:=by and_intros<;>kernel_rfl
def HQ:List Nat:=[0,0,0,4,12,30,0,0,128,384,1022,2046,4094,8191,16383]
def NG:=({y:=_}:bw Tryz.f132 [HQ]).1
def NH:=({y:=_}:cr NG [1,1,0,1,0,0]).1
def amP:bC 132 Tryz.f132 NG 30 [bQ 4]:=.of
def akI:ak 132 2=1/\ak 132 7=1/\ak 132 9=0/\ak 132 26=0/\ak 132 27=0:=by and_intros<;>kernel_rfl
def tu:List Nat:=[0,0,2,7,15,0,0,64,224,480,0,0,3103,8191]
def tx:List Nat:=[0,1,0,4,12,31,63,127,255,127,639,1663,4095,8191,16383]
def uU:=({y:=_}:bw Tryz.f59 [tu,tx]).1
def OU:=({y:=_}:cr uU [1,1,1,1,1,1,1,0,1,0,0,1,1,0,0,1,1,0,0,1,1,0,0,1,1,1,0,0,1,0,0]).1
def OV:=({y:=_}:cr uU [1,1,1,1,1,1,1,0,1,0,0,1,1,0,0,1,1,0,0]).1
def OW:=({y:=_}:cr uU [1,1,1,1,1,1,1,0,1,0,0]).1
def OX:=({y:=_}:cr uU [1,1,1,1,1,1,1,1,1,0,1,0,0]).1
def OY:=({y:=_}:cr uU [1,1,1,1,1,1,1,1,1,1,1,1,0,1,0,0,1,1,0,1,1,1,1,1,0,0,1,1,0,0,1,1,0,0]).1
def OZ:=({y:=_}:cr uU [1,1,1,1,1,1,1,1,1,1,1,1,0,1,0,0,1,1,0,1,1,1,1,1,0,0]).1
def IU:=({y:=_}:cr uU [1,1,1,1,1,1,1,1,1,1,1,1,0,1,0,0]).1
def O0:=({y:=_}:cr uU [1,1,1,1,1,1,1,1,1,1,1,1,1,1,0,1,0,0]).1
def apr:bC 59 Tryz.f59 uU 180 [bQ 2]:=.of
def Wu:ak 59 1=1/\ak 59 3=1/\ak 59 6=0/\ak 59 10=1/\ak 59 13=1/\ak 59 19=1/\ak 59 21=1/\ak 59 22=0/\ak 59 29=0/\ak 59 43=0/\ak 59 65=0/\ak 59 79=0/\ak 59 81=0/\ak 59 86=0/\ak 59 92=0/\ak 59 93=0/\ak 59 147=0/\ak 59 154=0/\ak 59 175=0/\ak 59 176=2:=by and_intros<;>kernel_rfl
def W5:=({y:=_}:bw Tryz.f128 []).1
def amF:bC 128 Tryz.f128 W5 13 []:=.of
def akG:ak 128 8=0/\ak 128 11=0:=by and_intros<;>kernel_rfl
def Xb:List Nat:=[0,0,3,7,0,0,32,112,240,511]
def amQ:List Nat:=[0,0,3,7,0,0,32,112,240,511]
def HR:=({y:=_}:bw Tryz.f133 [Xb,amQ]).1
def amT:=({y:=_}:cr HR [1,1,0,1,0,0,1,0,0,1,0,1,0,1,0,0]).1
def NJ:=({y:=_}:cr HR [1,1,0,1,0,0]).1
def amS:bC 133 Tryz.f133 HR 61 [bQ 2]:=.of
def akJ:ak 133 7=0/\ak 133 12=0/\ak 133 31=0:=by and_intros<;>kernel_rfl
def Xc:=({y:=_}:bw Tryz.f135 []).1
def amU:bC 135 Tryz.f135 Xc 10 [bQ 4]:=.of
def akK:ak 135 2=1/\ak 135 3=1:=by and_intros<;>kernel_rfl
def LG:gL ah 31 [(0,1),(1,1),(2,1)]:=gL.of
def aft:gL ah 190 [(0,1),(1,1)]:=gL.of
def afu:ue ah 196 1:=ue.of
def afv:gL ah 200 [(0,2),(2,1)]:=gL.of
def LC:gL ah 285 [(0,2),(2,2)]:=gL.of
def at7:dH ah 127:=dH.of
def at9:fy ah 190 2:=mT
def aua:dH ah 195:=dH.of
def aub:fy ah 196 2:=mT
def abG:fy ah 200 3:=mT
def Qv:fy ah 290 3:=mT
def aws:df ah 190=some 2:=by kernel_rfl
def awt:df ah 195=some 1:=by kernel_rfl
def awu:df ah 196=some 2:=by kernel_rfl
def awv:df ah 200=some 3:=by kernel_rfl
def Rt:df ah 290=some 3:=by kernel_rfl
def tW:dX ah 25=some .AL:=by kernel_rfl
def R4:dX ah 31=some (.agg [(.str []),(.int .i64 (0)),.AL]):=by kernel_rfl
def ayq:dX ah 190=some (.agg [.AL,.nilm]):=by kernel_rfl
def ayr:dX ah 195=some .nilm:=by kernel_rfl
def ays:dX ah 196=some (.agg [(.str []),(.str [])]):=by kernel_rfl
def ayt:dX ah 200=some (.agg [(.str []),(.str []),.AL]):=by kernel_rfl
def Hn:bX ah 31 2 2:=ep
def aig:bX ah 190 0 0:=ep
def aih:bX ah 190 1 1:=ep
def aii:bX ah 200 0 0:=ep
def aij:bX ah 200 1 2:=ep
def MD:bX ah 290 2 2:=ep
def A0:fY ah 193 3 56 true (.agg [(.str []),(.str []),.AL]):=ot
def alY(lc:Ag.Loc)(l g o:Nat)(i:aa):ii ah lc 196 (.Ge l g o) i=(dr i).bind fun i=>bif Nat.blt i 2 then bif Nat.beq (lc.gen l) g then some (.Ge l g (o+i*1)) else none else none:=by kernel_rfl
def W1(cs:List aa)(i:aa):Ak ah 196 (.agg cs) i=(dr i).bind fun i=>bif Nat.blt i 2 then iq ah 9 cs (i*1) else none:=by kernel_rfl
def jn:fY ah 35 3 48 true (.agg [(.str []),(.int .i64 (0)),.AL]):=ot
attribute[go_sem]LG aft afu afv LC at7 at9 aua aub abG Qv aws awt awu awv Rt tW R4 ayq ayr ays ayt Hn Hn aig aih aii aij MD A0 alY zd W1 zd jn A0 vo akF ak4 Wg Wg ak5 ak6 akH Wh Wh akI Wu Wu akG akJ akK NB Xw XS EE Xx N7 W6 Au NG uU W5 HR Xc
