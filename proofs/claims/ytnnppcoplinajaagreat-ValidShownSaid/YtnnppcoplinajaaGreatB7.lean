/- Lemmas for ValidShown. -/
import Derived.Test.YtnnppcoplinajaaGreatB6
import Derived.Test.YtnnppcoplinajaaGreatAg3
set_option linter.all false
open Go.Ag.cd renaming of→ew
open Go.Op renaming binOp→ey
open Go.Operand renaming tmp→aC
open Go.ResultVar renaming cell→rE,tmp→bJ
open Go.Ag.fw renaming of→ng
open Go.Ag.fW renaming of→oD
open Go.Proofs.Tryz renaming prog→ah
namespace Go.Proofs.YtnnppcoplinajaaGreat
open Go.Ag
def ZO:List Nat:=[0,0,3,7,0,0,48,112,255]
def ZP:List Nat:=[0,0,3,7,0,0,48,112,255,511]
def PT:=({y:=_}:bw Tryz.f82 [ZO,ZP]).1
def FB:=({y:=_}:cx PT [1,0,1,0,0]).1
def Jt:bt 82 Tryz.f82 PT 41 [bJ 4]:=.of
def ET:aj 82 8=0/\aj 82 13=0/\aj 82 37=0/\aj 82 39=0:=by and_intros<;>kernel_rfl
def Pq:=({y:=_}:bw Tryz.f35 []).1
def I8:bt 35 Tryz.f35 Pq 15 [bJ 4]:=.of
def UV:gL ah 52 [(0,1),(1,1),(2,2),(4,1),(5,1)]:=gL.of
def acL:dU ah 26:=dU.of
def ad2:dh ah 26=some 1:=by kernel_rfl
def adv:fW ah 63 1 24 false .Ge:=oD
def ZQ:fg ZO=(8,[255]):=by kernel_rfl
def aru:fg ZP=(8,[255,511]):=by kernel_rfl
def Pe:=({y:=_}:bw Tryz.f311 []).1
def Fp:=({y:=_}:cx Pe [1,0,1,0,0]).1
def IT:bt 311 Tryz.f311 Pe 26 [bJ 2]:=.of
def amW:aj 311 4=1/\aj 311 6=0/\aj 311 15=0/\aj 311 22=0:=by and_intros<;>kernel_rfl
def YY:=({y:=_}:bw Tryz.f312 []).1
def IU:bt 312 Tryz.f312 YY 16 [rE 2 285]:=.of
def amX:aj 312 1=1/\aj 312 2=1:=by and_intros<;>kernel_rfl
def YZ:=({y:=_}:bw Tryz.f313 []).1
def IV:bt 313 Tryz.f313 YZ 24 [bJ 6]:=.of
def amY:aj 313 3=1/\aj 313 4=1/\aj 313 5=1/\aj 313 11=0:=by and_intros<;>kernel_rfl
def IW:List Nat:=[0,1,0,4,0,0,51,127]
abbrev aqh:List ay:=[re 2 285 0,re 3 285 1,oo 4 0]
abbrev aqi:List ay:=[cj 7 285 3 0,br 8 49 7,cj 9 285 3 1,br 10 49 9,Dk 11 49 8 10]
abbrev aqj:List ay:=[br 12 285 3,br 13 285 2,f8 285 2 12,f8 285 3 13]
abbrev Zb:List ay:=[cj 14 285 2 0,br 15 49 14,cj 16 285 2 1,br 17 49 16,Dk 18 49 15 17]
abbrev Zc:List ay:=[br 20 285 3,cj 21 285 2 0,br 22 49 21,pg 23 422 20 22 285 49,mN 24 23,db 19 24]
abbrev Zd:List ay:=[oo 4 0]
abbrev Ze:List ay:=[cj 26 285 2 0,br 27 49 26,cj 28 285 3 0,br 29 49 28,Dk 30 49 27 29,bR 31 30,lV 32 285 2 0 31,iB 33 49 32 31,lV 34 285 3 1 31,iB 35 49 34 31,QN 36 49 33 35 31,lA 37 31 36,db 25 37]
abbrev Zf:List ay:=[oo 4 1]
abbrev Zg:List ay:=[oo 4 2]
abbrev Zh:List ay:=[cj 38 285 2 0,br 39 49 38,cj 40 285 2 1,br 41 49 40,io 5 49,io 6 49,f8 49 5 39,f8 49 6 41]
abbrev Y1:List ay:=[cj 42 285 3 0,br 43 49 42,br 44 49 5,pg 45 379 43 44 49 49,vn 46 45 0]
abbrev Y2:List ay:=[cj 47 285 3 0,br 48 49 47,f8 49 5 48]
abbrev Y3:List ay:=[cj 49 285 3 1,br 50 49 49,br 51 49 6,pg 52 379 50 51 49 49,J4 53 52 0]
abbrev Y4:List ay:=[cj 54 285 3 1,br 55 49 54,f8 49 6 55]
abbrev Y5:List ay:=[br 56 49 5,br 57 49 6,pg 58 379 56 57 49 49]
abbrev Y6:List ay:=[rd 60 58 (-1),db 59 60]
abbrev Y7:List ay:=[oo 4 5]
abbrev Y8:List ay:=[rd 62 58 0,db 61 62]
abbrev Y9:List ay:=[oo 4 1]
abbrev Za:List ay:=[oo 4 0]
def Pf:=({y:=_}:bw Tryz.f314 [IW]).1
def IX:bt 314 Tryz.f314 Pf 63 [bJ 4]:=.of
def amZ:aj 314 2=1/\aj 314 3=1/\aj 314 5=1/\aj 314 6=1:=by and_intros<;>kernel_rfl
def O2:List Nat:=[0,1,0,7,15,31]
def O3:List Nat:=[0,1,0,4,0,16,63,0,128,0,512,0,2048,8191,16383,32767]
def O4:List Nat:=[0,1,0,4,0,16,63,0,128,0,512,0,2048,8191,16383,32767]
abbrev apq:List ay:=[re 2 285 0,re 3 285 1,oo 4 0]
abbrev apr:List ay:=[cj 9 285 2 0,br 10 49 9,cj 11 285 2 1,br 12 49 11,cj 13 285 3 0,br 14 49 13,cj 15 285 3 1,br 16 49 15,⟨some 17,Op.buildSlice 218 4 #[(0,aC 10),(1,aC 12),(2,aC 14),(3,aC 16)],.aw⟩,nJ 18 311 17 218,mN 19 18]
abbrev apz:List ay:=[oo 4 0]
abbrev apA:List ay:=[br 20 285 2,nJ 21 312 20 285,br 22 285 3,nJ 23 312 22 285,f8 285 2 21,f8 285 3 23]
abbrev apB:List ay:=[br 25 285 2,br 26 285 3,Dk 27 285 25 26,db 24 27]
abbrev apC:List ay:=[oo 4 4]
abbrev apD:List ay:=[cj 29 285 2 0,br 30 49 29,cj 31 285 2 1,br 32 49 31,Dk 33 49 30 32,bR 34 33,lV 35 285 3 0 34,iB 36 49 35 34,lV 37 285 3 1 34,iB 38 49 37 34,QN 39 49 36 38 34,lA 40 34 39,bR 41 40,lV 42 285 2 0 41,iB 43 49 42 41,lV 44 285 2 1 41,iB 45 49 44 41,lV 46 285 3 0 41,iB 47 49 46 41,QQ 48 313 43 45 47 49 49 49 41,abF 49 48 0 41,jC 50 49 41,fJ 51 285 2 0 50,gJ 52 49 51 50,fJ 53 285 2 1 50,gJ 54 49 53 50,fJ 55 285 3 1 50,gJ 56 49 55 50,QG 57 313 52 54 56 49 50,QK 58 57 0 50,J3 59 50 58 41,lA 60 41 59,db 28 60]
abbrev apE:List ay:=[br 61 285 2,br 62 285 3,pg 63 314 61 62 285 285,db 4 63]
abbrev apF:List ay:=[cj 64 285 2 0,br 65 49 64,cj 66 285 2 1,br 67 49 66,cj 68 285 3 0,br 69 49 68,F7 70 313 65 67 69 49 49 49,cj 71 285 2 0,br 72 49 71,cj 73 285 2 1,br 74 49 73,cj 75 285 3 1,br 76 49 75,F7 77 313 72 74 76 49 49 49,db 5 70,db 6 77]
abbrev apG:List ay:=[cj 78 285 3 0,br 79 49 78,cj 80 285 3 1,br 81 49 80,cj 82 285 2 0,br 83 49 82,F7 84 313 79 81 83 49 49 49,cj 85 285 3 0,br 86 49 85,cj 87 285 3 1,br 88 49 87,cj 89 285 2 1,br 90 49 89,F7 91 313 86 88 90 49 49 49,db 7 84,db 8 91]
abbrev aps:List ay:=[bR 93 5,bR 94 6,J1 95 3 93 94,vn 96 95 0,bR 97 96,jC 98 7 97,jC 99 8 97,⟨some 100,ey BinOp.mul 3 (aC 98) (aC 99) 3,(.when 97 false)⟩,J2 101 100 0 97,lA 102 97 101,db 92 102]
abbrev apt:List ay:=[oo 4 0]
abbrev apu:List ay:=[bR 104 5,bR 105 6,J1 106 3 104 105,J4 107 106 0,bR 108 107,jS 109 7 108,jS 110 8 108,⟨some 111,ey BinOp.mul 3 (aC 109) (aC 110) 3,(.when 108 true)⟩,QO 112 111 0 108,kZ 113 108 112,db 103 113]
abbrev apv:List ay:=[oo 4 3]
abbrev apw:List ay:=[bR 115 5,bR 116 6,J1 117 3 115 116,rd 118 117 0,bR 119 118,jS 120 7 119,jS 121 8 119,⟨some 122,ey BinOp.mul 3 (aC 120) (aC 121) 3,(.when 119 true)⟩,QK 123 122 0 119,kZ 124 119 123,db 114 124]
abbrev apx:List ay:=[oo 4 1]
abbrev apy:List ay:=[oo 4 2]
def OZ:=({y:=_}:bw Tryz.f225 [O2,O3,O4]).1
def IG:bt 225 Tryz.f225 OZ 125 [bJ 4]:=.of
def amE:aj 225 2=1/\aj 225 3=1/\aj 225 17=0:=by and_intros<;>kernel_rfl
def Zu:=({y:=_}:bw Tryz.f420 []).1
def Jc:bt 420 Tryz.f420 Zu 16 [rE 4 475]:=.of
def anb:aj 420 2=1/\aj 420 3=1/\aj 420 4=1:=by and_intros<;>kernel_rfl
def Zv:=({y:=_}:bw Tryz.f421 []).1
def Jd:bt 421 Tryz.f421 Zv 16 [bJ 4]:=.of
def anc:aj 421 2=1/\aj 421 3=1:=by and_intros<;>kernel_rfl
def Zw:=({y:=_}:bw Tryz.f422 []).1
def Je:bt 422 Tryz.f422 Zw 49 [bJ 4]:=.of
def ane:aj 422 2=1/\aj 422 3=1/\aj 422 10=0:=by and_intros<;>kernel_rfl
def YR:=({y:=_}:bw Tryz.f303 []).1
def IM:bt 303 Tryz.f303 YR 12 [rE 4 365]:=.of
def amR:aj 303 4=1/\aj 303 7=0/\aj 303 10=0:=by and_intros<;>kernel_rfl
def YV:=({y:=_}:bw Tryz.f308 []).1
def IQ:bt 308 Tryz.f308 YV 17 [bJ 4]:=.of
def amU:aj 308 2=1/\aj 308 3=1:=by and_intros<;>kernel_rfl
def Yt:List Nat:=[0,0,0,0,0,16,48,0,128,384,1008,0,2048,6144,0,16384,49152,131056,262140,524287,1048575]
def AZ:=({y:=_}:bw Tryz.f224 [Yt]).1
def OX:=({y:=_}:cx AZ [1,1,1,0,1,0,0]).1
def CL:=({y:=_}:cx AZ [1,1,1,1,1,1,1,0,1,0,0,1,1,0,0,1,1,0,1,0,0]).1
def OY:=({y:=_}:cx AZ [1,1,1,1,1,1,1,0,1,0,0]).1
def apk:bt 224 Tryz.f224 AZ 102 [bJ 2,bJ 3]:=.of
def N5:aj 224 6=1/\aj 224 10=0/\aj 224 12=1/\aj 224 15=0/\aj 224 18=0/\aj 224 19=2/\aj 224 21=0/\aj 224 37=0/\aj 224 44=0/\aj 224 49=0/\aj 224 51=0/\aj 224 58=0/\aj 224 60=0/\aj 224 69=0/\aj 224 75=0/\aj 224 83=0/\aj 224 88=0/\aj 224 91=0/\aj 224 92=2/\aj 224 96=0/\aj 224 97=2/\aj 224 100=0:=by and_intros<;>kernel_rfl
def YT:List Nat:=[0,1,3,0,8,24,63,0,128,0,512,1920,4095,8191,16383]
def YS:=({y:=_}:bw Tryz.f305 [YT]).1
def IP:bt 305 Tryz.f305 YS 19 [bJ 4]:=.of
def Xp:aj 305 2=1/\aj 305 3=1/\aj 305 17=0:=by and_intros<;>kernel_rfl
def YU:=({y:=_}:bw Tryz.f307 []).1
def aqe:bt 307 Tryz.f307 YU 11 [bJ 3]:=.of
def amT:aj 307 2=1:=by kernel_rfl
def Pc:=({y:=_}:bw Tryz.f306 []).1
def Pd:=({y:=_}:cx Pc [1,1,1,0,1,0,0]).1
def Fo:bt 306 Tryz.f306 Pc 42 [bJ 4]:=.of
def amS:aj 306 7=1/\aj 306 18=0:=by and_intros<;>kernel_rfl
def Pu:=({y:=_}:bw Tryz.f418 []).1
def Ja:=({y:=_}:cx Pu [1,0,1,0,0]).1
def Zt:bt 418 Tryz.f418 Pu 19 [bJ 4]:=.of
def ana:aj 418 7=0:=by kernel_rfl
def YX:=({y:=_}:bw Tryz.f310 []).1
def IR:bt 310 Tryz.f310 YX 17 [bJ 4]:=.of
def amV:aj 310 2=1/\aj 310 3=1/\aj 310 15=0:=by and_intros<;>kernel_rfl
def Mi:gL ah 290 [(0,1),(1,1),(2,1)]:=gL.of
def Mm:gL ah 365 [(0,1),(1,1)]:=gL.of
def Mn:gL ah 368 [(0,1),(1,4),(5,2),(7,2)]:=gL.of
def agK:gL ah 475 [(0,1),(1,1)]:=gL.of
def Rp:fw ah 285 4:=ng
def Ru:fw ah 365 2:=ng
def Kg:fw ah 368 9:=ng
def avY:fw ah 475 2:=ng
def Sg:dh ah 285=some 4:=by kernel_rfl
def Sl:dh ah 365=some 2:=by kernel_rfl
def Sm:dh ah 368=some 9:=by kernel_rfl
def ayj:dh ah 475=some 2:=by kernel_rfl
def SQ:ei ah 285=some (.agg [(.int .i64 (0)),(.int .i64 (0)),(.int .i64 (0)),(.int .i64 (0))]):=by kernel_rfl
def SR:ei ah 290=some (.agg [(.int .i64 (0)),(.int .i64 (0)),(.int .i64 (0))]):=by kernel_rfl
def SV:ei ah 365=some (.agg [(.int .i64 (0)),(.int .i64 (0))]):=by kernel_rfl
def SW:ei ah 368=some (.agg [(.int .i64 (0)),(.int .i64 (0)),(.int .i64 (0)),(.int .i64 (0)),(.int .i64 (0)),(.int .i64 (0)),(.int .i64 (0)),(.int .i64 (0)),(.int .i64 (0))]):=by kernel_rfl
def aAj:ei ah 475=some (.agg [(.int .i64 (0)),(.int .i64 (0))]):=by kernel_rfl
def Nh:cd ah 285 0 0:=ew
def Ni:cd ah 285 1 2:=ew
def HK:cd ah 290 0 0:=ew
def Nj:cd ah 290 1 1:=ew
def Nn:cd ah 365 0 0:=ew
def Np:cd ah 365 1 1:=ew
def Nq:cd ah 368 0 0:=ew
def Nr:cd ah 368 1 1:=ew
def Nt:cd ah 368 2 5:=ew
def Nu:cd ah 368 3 7:=ew
def Wq:cd ah 475 0 0:=ew
def ajR:cd ah 475 1 1:=ew
def vD:fW ah 205 4 32 true (.agg [(.int .i64 (0)),(.int .i64 (0)),(.int .i64 (0)),(.int .i64 (0))]):=oD
def sH:fW ah 363 9 72 true (.agg [(.int .i64 (0)),(.int .i64 (0)),(.int .i64 (0)),(.int .i64 (0)),(.int .i64 (0)),(.int .i64 (0)),(.int .i64 (0)),(.int .i64 (0)),(.int .i64 (0))]):=oD
def zC:fW ah 286 3 24 true (.agg [(.int .i64 (0)),(.int .i64 (0)),(.int .i64 (0))]):=oD
attribute[go_sem]Mi Mm Mn agK Rp Ru Kg avY Sg Sl Sm ayj SQ SR SV SW aAj Nh Ni HK HK Nj Nn Np Nq Nr Nt Nu Wq Wq ajR vD sH zC amW amX amY amZ amE anb anc ane amR amU N5 Xp Xp amT amS ana amV Pe YY YZ Pf OZ Zu Zv Zw YR YV AZ YS YU Pc Pu YX
def On:=({y:=_}:bw Tryz.f126 []).1
def Oo:=({y:=_}:cx On [1,1,1,0,1,0,0]).1
def aoh:bt 126 Tryz.f126 On 29 [rE 2 190,bJ 3]:=.of
def al7:aj 126 1=1/\aj 126 2=1/\aj 126 4=1/\aj 126 6=1/\aj 126 16=0:=by and_intros<;>kernel_rfl
def Yq:=({y:=_}:bw Tryz.f219 []).1
def ape:bt 219 Tryz.f219 Yq 10 [bJ 4]:=.of
def amA:aj 219 2=0/\aj 219 3=1:=by and_intros<;>kernel_rfl
def YQ:=({y:=_}:bw Tryz.f301 []).1
def aqc:bt 301 Tryz.f301 YQ 25 [bJ 3]:=.of
def oZ:List Nat:=[0,1,0,0,8,24,60,127,255,511]
def o0:List Nat:=[0,0,3,0,8,31,63]
def EX:=({y:=_}:bw Tryz.f127 [oZ,o0]).1
def yJ:=({y:=_}:cx EX [1,1,0,1,0,0,1,1,0,0,1,1,1,0,0]).1
def EY:=({y:=_}:cx EX [1,1,0,1,0,0]).1
def Oq:=({y:=_}:cx EX [1,1,1,1,0,1,0,0]).1
def aoi:bt 127 Tryz.f127 EX 110 [bJ 2]:=.of
def Xi:aj 127 1=1/\aj 127 5=1/\aj 127 10=1/\aj 127 12=1/\aj 127 18=0/\aj 127 39=0/\aj 127 50=0/\aj 127 62=0/\aj 127 68=0/\aj 127 71=0/\aj 127 85=0/\aj 127 87=0/\aj 127 92=0/\aj 127 93=2/\aj 127 105=0/\aj 127 106=0:=by and_intros<;>kernel_rfl
def Yr:=({y:=_}:bw Tryz.f221 []).1
def apg:bt 221 Tryz.f221 Yr 19 [bJ 4]:=.of
def amB:aj 221 2=1/\aj 221 3=1/\aj 221 17=0:=by and_intros<;>kernel_rfl
def Ys:List Nat:=[0,0,3,7,0,0,32,112,240,511,1023]
def OU:=({y:=_}:bw Tryz.f222 [Ys]).1
def Fb:=({y:=_}:cx OU [1,0,1,0,0]).1
def api:bt 222 Tryz.f222 OU 25 [bJ 2]:=.of
def amC:aj 222 8=0:=by kernel_rfl
def XZ:=({y:=_}:bw Tryz.f129 []).1
def aok:bt 129 Tryz.f129 XZ 15 [rE 4 49]:=.of
def al9:aj 129 2=1/\aj 129 4=1:=by and_intros<;>kernel_rfl
def X2:List Nat:=[0,1,3,0,8,24,63,0,128,384,0,1024,3072,8064,127,32767]
def X3:List Nat:=[0,0,2,6,0,16,48,127,0,0,512,1536,0,4096,12288,32512,255,131071]
def X1:List Nat:=[0,0,0,4,14,30,0,0,128,448,960,2046,0,4096,16383]
def aom:List Nat:=[0,0,3,7,15,31,0,0,192,448,960,1984,4095,0,16383]
def aon:List Nat:=[0,0,3,7,15,31,0,0,192,448,960,1984,4095,0,16383]
def aoo:List Nat:=[0,0,3,7,0,0,48,112,255,511]
def AX:=({y:=_}:bw Tryz.f131 [X2,X3,X1,aom,aon,aoo]).1
def Ig:=({y:=_}:cx AX [1,1,0,1,0,0]).1
def Ot:=({y:=_}:cx AX [1,1,1,0,1,0,1,0,1,0,0]).1
def aAm:=({y:=_}:cx AX [1,1,1,1,1,1,0,1,0,0]).1
def aAn:=({y:=_}:cx AX [1,1,1,1,1,1,1,1,1,0,0,1,1,0,0,1,1,0,0]).1
def aAo:=({y:=_}:cx AX [1,1,1,1,1,1,1,1,1,0,0]).1
def aot:bt 131 Tryz.f131 AX 208 []:=.of
def Xj:aj 131 11=1/\aj 131 15=1/\aj 131 27=0/\aj 131 39=0/\aj 131 40=0/\aj 131 49=0/\aj 131 56=0/\aj 131 64=0/\aj 131 72=0/\aj 131 75=0/\aj 131 83=0:=by and_intros<;>kernel_rfl
def Ih:List Nat:=[0,0,0,4,12,30,0,0,128,384,1022,2046,4094,8191,16383]
def Ou:=({y:=_}:bw Tryz.f132 [Ih]).1
def Ov:=({y:=_}:cx Ou [1,1,0,1,0,0]).1
def aou:bt 132 Tryz.f132 Ou 30 [bJ 4]:=.of
def ama:aj 132 2=1/\aj 132 7=1/\aj 132 9=0/\aj 132 26=0/\aj 132 27=0:=by and_intros<;>kernel_rfl
def tK:List Nat:=[0,0,2,7,15,0,0,64,224,480,0,0,3103,8191]
def tL:List Nat:=[0,1,0,4,12,31,63,127,255,127,639,1663,4095,8191,16383]
def vd:=({y:=_}:bw Tryz.f59 [tK,tL]).1
def PA:=({y:=_}:cx vd [1,1,1,1,1,1,1,0,1,0,0,1,1,0,0,1,1,0,0,1,1,0,0,1,1,1,0,0,1,0,0]).1
def PB:=({y:=_}:cx vd [1,1,1,1,1,1,1,0,1,0,0,1,1,0,0,1,1,0,0]).1
def PC:=({y:=_}:cx vd [1,1,1,1,1,1,1,0,1,0,0]).1
def PD:=({y:=_}:cx vd [1,1,1,1,1,1,1,1,1,0,1,0,0]).1
def PE:=({y:=_}:cx vd [1,1,1,1,1,1,1,1,1,1,1,1,0,1,0,0,1,1,0,1,1,1,1,1,0,0,1,1,0,0,1,1,0,0]).1
def PF:=({y:=_}:cx vd [1,1,1,1,1,1,1,1,1,1,1,1,0,1,0,0,1,1,0,1,1,1,1,1,0,0]).1
def Jp:=({y:=_}:cx vd [1,1,1,1,1,1,1,1,1,1,1,1,0,1,0,0]).1
def PG:=({y:=_}:cx vd [1,1,1,1,1,1,1,1,1,1,1,1,1,1,0,1,0,0]).1
def aq2:bt 59 Tryz.f59 vd 180 [bJ 2]:=.of
def Xx:aj 59 1=1/\aj 59 3=1/\aj 59 6=0/\aj 59 10=1/\aj 59 13=1/\aj 59 19=1/\aj 59 21=1/\aj 59 22=0/\aj 59 29=0/\aj 59 43=0/\aj 59 65=0/\aj 59 79=0/\aj 59 81=0/\aj 59 86=0/\aj 59 92=0/\aj 59 93=0/\aj 59 147=0/\aj 59 154=0/\aj 59 175=0/\aj 59 176=2:=by and_intros<;>kernel_rfl
def XY:=({y:=_}:bw Tryz.f128 []).1
def aoj:bt 128 Tryz.f128 XY 13 []:=.of
def al8:aj 128 8=0/\aj 128 11=0:=by and_intros<;>kernel_rfl
def X4:List Nat:=[0,0,3,7,0,0,32,112,240,511]
def aov:List Nat:=[0,0,3,7,0,0,32,112,240,511]
def Ii:=({y:=_}:bw Tryz.f133 [X4,aov]).1
def aoy:=({y:=_}:cx Ii [1,1,0,1,0,0,1,0,0,1,0,1,0,1,0,0]).1
def Ow:=({y:=_}:cx Ii [1,1,0,1,0,0]).1
def aox:bt 133 Tryz.f133 Ii 61 [bJ 2]:=.of
def amb:aj 133 7=0/\aj 133 12=0/\aj 133 31=0:=by and_intros<;>kernel_rfl
def X5:=({y:=_}:bw Tryz.f135 []).1
def aoz:bt 135 Tryz.f135 X5 10 [bJ 4]:=.of
def amd:aj 135 2=1/\aj 135 3=1:=by and_intros<;>kernel_rfl
def Ml:gL ah 31 [(0,1),(1,1),(2,1)]:=gL.of
def agF:gL ah 190 [(0,1),(1,1)]:=gL.of
def agG:uA ah 196 1:=uA.of
def agH:gL ah 200 [(0,2),(2,1)]:=gL.of
def Mh:gL ah 285 [(0,2),(2,2)]:=gL.of
def avP:dU ah 127:=dU.of
def avR:fw ah 190 2:=ng
def avS:dU ah 195:=dU.of
def avT:fw ah 196 2:=ng
def acI:fw ah 200 3:=ng
def Rr:fw ah 290 3:=ng
def ayd:dh ah 190=some 2:=by kernel_rfl
def aye:dh ah 195=some 1:=by kernel_rfl
def ayf:dh ah 196=some 2:=by kernel_rfl
def ayg:dh ah 200=some 3:=by kernel_rfl
def Sh:dh ah 290=some 3:=by kernel_rfl
def uh:ei ah 25=some .Ge:=by kernel_rfl
def SU:ei ah 31=some (.agg [(.str []),(.int .i64 (0)),.Ge]):=by kernel_rfl
def aAc:ei ah 190=some (.agg [.Ge,.nilm]):=by kernel_rfl
def aAd:ei ah 195=some .nilm:=by kernel_rfl
def aAe:ei ah 196=some (.agg [(.str []),(.str [])]):=by kernel_rfl
def aAf:ei ah 200=some (.agg [(.str []),(.str []),.Ge]):=by kernel_rfl
def HM:cd ah 31 2 2:=ew
def ajG:cd ah 190 0 0:=ew
def ajH:cd ah 190 1 1:=ew
def ajI:cd ah 200 0 0:=ew
def ajJ:cd ah 200 1 2:=ew
def Nk:cd ah 290 2 2:=ew
def Bs:fW ah 193 3 56 true (.agg [(.str []),(.str []),.Ge]):=oD
def anx(lc:Ag.Loc)(l g o:Nat)(i:aa):gS ah lc 196 (.Gt l g o) i=(dv i).bind fun i=>bif Nat.blt i 2 then bif Nat.beq (lc.gen l) g then some (.Gt l g (o+i*1)) else none else none:=by kernel_rfl
def XU(cs:List aa)(i:aa):AO ah 196 (.agg cs) i=(dv i).bind fun i=>bif Nat.blt i 2 then iC ah 9 cs (i*1) else none:=by kernel_rfl
def iq:fW ah 35 3 48 true (.agg [(.str []),(.int .i64 (0)),.Ge]):=oD
attribute[go_sem]Ml agF agG agH Mh avP avR avS avT acI Rr ayd aye ayf ayg Sh uh SU aAc aAd aAe aAf HM HM ajG ajH ajI ajJ Nk Bs anx zC XU zC iq Bs vD al7 amA Xi Xi amB amC al9 Xj Xj ama Xx Xx al8 amb amd On Yq YQ EX Yr OU XZ AX Ou vd XY Ii X5
