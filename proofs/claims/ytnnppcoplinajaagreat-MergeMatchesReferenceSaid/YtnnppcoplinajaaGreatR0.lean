/- Codes of planisphereref26 and below. -/
import Derived.Test.YtnnppcoplinajaaGreatL1
set_option linter.defProp false
open List renaming drop_eq_getElem_cons→vC,drop_length→vD,range→iv
open Nat renaming ble→br,lt_succ_self→fK
open Go.Op renaming buildSlice→xg
open Go.Operand renaming const→dK,tmp→aR
open Go.ResultVar renaming cell→oK,tmp→bR
open Go.Proofs.Tryz renaming prog→ar
open Go.Value renaming string→jO
namespace Go.Proofs.YtnnppcoplinajaaGreat
open Go.Ag
def QG:List Nat:=[0,0,0,6,14,30,0,0,192,448,960,2046,4095,8191]
def Kg:=({y:=_}:ck Tryz.f200 [QG]).1
def Kh:=({y:=_}:dM Kg [1,1,0,1,0,0]).1
def EK:bT 200 Tryz.f200 Kg 25 [bR 2]:=.of
def PJ:aH 200 7=0/\aH 200 22=0/\aH 200 23=0:=by and_intros<;>kernel_rfl
def zG:=({y:=_}:ck Tryz.f199 []).1
def EJ:bT 199 Tryz.f199 zG 27 [bR 4]:=.of
def Bz:aH 199 2=1/\aH 199 3=1:=by and_intros<;>kernel_rfl
def RS:List Nat:=[0,0,3,7,0,0,48,112,255]
def RT:List Nat:=[0,0,3,7,0,0,48,112,255,511]
def KF:=({y:=_}:ck Tryz.f82 [RS,RT]).1
def BQ:=({y:=_}:dM KF [1,0,1,0,0]).1
def FU:bT 82 Tryz.f82 KF 41 [bR 4]:=.of
def BB:aH 82 8=0/\aH 82 13=0/\aH 82 37=0/\aH 82 39=0:=by and_intros<;>kernel_rfl
def Kt:=({y:=_}:ck Tryz.f35 []).1
def Ff:bT 35 Tryz.f35 Kt 15 [bR 4]:=.of
def Qp:List Nat:=[0,1,3,0,8,31,63,127]
def BI:=({y:=_}:ck Tryz.f116 [Qp]).1
def Eb:bT 116 Tryz.f116 BI 43 [bR 4]:=.of
def DN:aH 116 2=1/\aH 116 3=1:=by and_intros<;>kernel_rfl
def Kd:=({y:=_}:ck Tryz.f195 []).1
def EA:bT 195 Tryz.f195 Kd 10 [oK 4 52]:=.of
def PH:aH 195 2=1/\aH 195 3=1/\aH 195 4=1:=by and_intros<;>kernel_rfl
def J9:=({y:=_}:ck Tryz.f115 []).1
def Ea:bT 115 Tryz.f115 J9 18 [oK 4 52,bR 5]:=.of
def PD:aH 115 2=1/\aH 115 4=1:=by and_intros<;>kernel_rfl
def Rj:=({y:=_}:ck Tryz.f390 []).1
def Ft:bT 390 Tryz.f390 Rj 6 [bR 2]:=.of
def adq:aH 390 4=0:=by kernel_rfl
def Rl:List Nat:=[0,0,3,7,0,0,48,112,255]
def Rk:List Nat:=[0,0,2,7,15,0,63,127,0,0,768,1792,0,7936,16128,32767]
def Kw:=({y:=_}:ck Tryz.f391 [Rl,Rk]).1
def xV:=({y:=_}:dM Kw [1,1,1,1,1,0,0,0]).1
def Fu:bT 391 Tryz.f391 Kw 66 [bR 4]:=.of
def xN:aH 391 13=0/\aH 391 14=2/\aH 391 17=0/\aH 391 24=0:=by and_intros<;>kernel_rfl
def Ro:List Nat:=[0,0,3,7,0,0,48,112,255]
def Fv:=({y:=_}:ck Tryz.f392 [Ro]).1
def Fx:=({y:=_}:dM Fv [1,1,0,1,0,0]).1
def Fw:bT 392 Tryz.f392 Fv 26 [bR 4]:=.of
def BA:aH 392 7=0/\aH 392 9=0/\aH 392 13=0:=by and_intros<;>kernel_rfl
def Ru:List Nat:=[0,0,3,7,0,0,0,64,224,480,0,2016,4064,0,0,24576,57344,0,131072,516096,1040384,2097120,4194303,8388607]
def Rv:List Nat:=[0,0,3,7,0,0,48,112,255]
def Rx:List Nat:=[0,0,3,7,0,0,0,64,224,480,0,1024,4064,8160,16352,32767,65535]
def BM:=({y:=_}:ck Tryz.f467 [Ru,Rv,Rx]).1
def Kz:=({y:=_}:dM BM [1,1,0,1,0,0]).1
def FH:=({y:=_}:dM BM [1,1,1,0,1,0,0,1,0,0,1,0,0]).1
def KA:=({y:=_}:dM BM [1,1,1,0,1,0,0]).1
def FG:bT 467 Tryz.f467 BM 89 [bR 4]:=.of
def xO:aH 467 10=0/\aH 467 12=2/\aH 467 15=0/\aH 467 22=0/\aH 467 24=2/\aH 467 27=0/\aH 467 34=0/\aH 467 61=0:=by and_intros<;>kernel_rfl
def Kq:List Nat:=[0,0,3,7,0,0,48,112,15,511]
def Kr:List Nat:=[0,0,0,7,0,0,0,112,0,0,0,1792,15,4351,16383]
abbrev agl:List aB:=[aE 39 14,aE 40 0,iH 41 40 25,He 42 (Op.binOp BinOp.leq 3 (aR 39) (aR 41) 3)]
abbrev af7:List aB:=[aE 45 1,iH 46 45 25,aE 47 2,iH 48 47 25,bJ 15 46,bJ 16 48]
abbrev af8:List aB:=[aE 49 14,aE 50 0,iH 51 50 25,nH 52 3 49 51]
abbrev af9:List aB:=[aE 53 8,aE 54 14,jY 55 26 53 54,bg 56 3 55,GH 57 56 0,aE 58 57,yj 59 9 58,yj 60 14 58,akw 61 26 59 60 58,sE 62 3 61 58,akF 63 62 0 58,sD 64 58 63]
abbrev aga:List aB:=[aE 65 8,aE 66 14,jY 67 26 65 66,bg 68 3 67,aE 69 9,aE 70 14,jY 71 26 69 70,bg 72 3 71,bJ 15 68,bJ 16 72]
abbrev agb:List aB:=[aE 73 0,aE 74 11,aE 75 14,LL 76 73 74 75,aE 77 1,aE 78 12,aE 79 15,LL 80 77 78 79,aE 81 2,aE 82 13,aE 83 16,LL 84 81 82 83,bJ 17 76,bJ 18 80,bJ 19 84]
abbrev agc:List aB:=[aE 85 17,aE 86 18,jA 87 392 85 86 25 25]
abbrev agd:List aB:=[aE 88 10,aE 89 19,nI 90 88 89 25,bJ 10 90]
abbrev age:List aB:=[aE 91 17,aE 92 19,jA 93 392 91 92 25 25,aE 94 93,yj 95 18 94,yj 96 19 94,akG 97 392 95 96 25 25 94,sD 98 94 97]
abbrev agf:List aB:=[aE 99 10,aE 100 18,nI 101 99 100 25,bJ 10 101]
abbrev agh:List aB:=[jk 6,pk 7]
abbrev agi:List aB:=[aE 102 14,aE 103 0,iH 104 103 25,nH 105 3 102 104]
abbrev agj:List aB:=[aE 106 10,aE 107 0,aE 108 14,jY 109 25 107 108,bg 110 9 109,sH 111 25 110,nI 112 106 111 25,bJ 10 112]
abbrev agk:List aB:=[aE 113 14,io 114 113,aE 115 15,io 116 115,aE 117 16,io 118 117,bJ 11 114,bJ 12 116,bJ 13 118]
abbrev agm:List aB:=[aE 43 14,io 44 43,bJ 14 44]
def zH:=({y:=_}:ck Tryz.f288 [Kq,Kr]).1
def E6:=({y:=_}:dM zH [1,1,1,1,1,1,0,1,0,0]).1
def E5:bT 288 Tryz.f288 zH 120 [bR 6,bR 7]:=.of
def r9:aH 288 41=0/\aH 288 46=0/\aH 288 48=0/\aH 288 51=0/\aH 288 90=0/\aH 288 101=0/\aH 288 104=0/\aH 288 111=0/\aH 288 112=0:=by and_intros<;>kernel_rfl
def Ka:=({y:=_}:ck Tryz.f160 []).1
def Eh:=({y:=_}:dM Ka [1,0,1,0,0]).1
def Eg:bT 160 Tryz.f160 Ka 25 [bR 4,bR 5]:=.of
def JG:aH 160 9=0:=by kernel_rfl
def agM:List Nat:=[0,0,3,7,15,31,63,127,255,255,1023,2047,4095,8191,16383,32767,65535,131071,131071,524287,1048575,2097151,4194303,8388607,16777215,33554431,67108863,134217727,268435455,536870911,536870911,1610612735,4294967295,8589934591,17179869183,536870911,536870911,103616086015,241055039487,515932946431,1099511627775,2199023255551,4398046511103]
abbrev agO:List aB:=[pk 2]
def Rq:=({y:=_}:ck Tryz.f393 [agM]).1
def agN:=({y:=_}:dM Rq [1,1,0,1,0,0]).1
def Fy:bT 393 Tryz.f393 Rq 56 [bR 2]:=.of
def Ky:=({y:=_}:ck Tryz.f394 []).1
def uS:=({y:=_}:dM Ky [1,1,1,0,1,0,0]).1
def Fz:bT 394 Tryz.f394 Ky 58 [bR 6]:=.of
def we:aH 394 14=0/\aH 394 33=0/\aH 394 34=0/\aH 394 47=0/\aH 394 48=0/\aH 394 55=0/\aH 394 56=0:=by and_intros<;>kernel_rfl
def BL:=({y:=_}:ck Tryz.f395 []).1
def FA:bT 395 Tryz.f395 BL 48 [bR 8,bR 9]:=.of
def Q8:List Nat:=[0,0,0,6,14,30,0,0,192,448,960,2047,4095]
def E8:=({y:=_}:ck Tryz.f289 [Q8]).1
def Ks:=({y:=_}:dM E8 [1,1,1,1,0,1,0,0]).1
def ww:=({y:=_}:dM E8 [1,1,1,1,1,1,1,0,1,0,0]).1
def E9:bT 289 Tryz.f289 E8 96 [bR 6,bR 7]:=.of
def uQ:aH 289 30=0/\aH 289 32=0/\aH 289 34=0/\aH 289 36=0/\aH 289 39=0/\aH 289 57=0/\aH 289 78=0/\aH 289 87=0/\aH 289 88=0/\aH 289 92=0/\aH 289 93=0:=by and_intros<;>kernel_rfl
def QD:List Nat:=[0,1,0,4,0,28,60,124,255,511,1023]
def Kf:=({y:=_}:ck Tryz.f197 [QD]).1
def EG:=({y:=_}:dM Kf [1,1,0,1,0,0]).1
def EF:bT 197 Tryz.f197 Kf 33 [oK 4 24]:=.of
def DP:aH 197 2=1/\aH 197 4=1/\aH 197 5=1/\aH 197 10=0/\aH 197 29=0/\aH 197 30=0:=by and_intros<;>kernel_rfl
def Ql:List Nat:=[0,0,2,6,15,31,63,127,63,511,1023,2047,63,4159,16383,32767]
def Qm:List Nat:=[0,1,0,4,0,28,63,127]
def J4:=({y:=_}:ck Tryz.f112 [Ql,Qm]).1
def D6:=({y:=_}:dM J4 [1,1,1,0,0,0]).1
def D5:bT 112 Tryz.f112 J4 45 [oK 4 24]:=.of
def Bx:aH 112 2=1/\aH 112 3=1/\aH 112 4=1/\aH 112 14=0/\aH 112 30=0/\aH 112 35=0/\aH 112 36=0/\aH 112 41=0/\aH 112 43=0:=by and_intros<;>kernel_rfl
def Qn:List Nat:=[0,0,2,7,15,31,31,127,255,511,31,1055,4095,8191,16383,16383,65535,131071,262143,16383,540671,2097151,4194303,8388607,8388607,33554431,67108863,134217727,8388607,276824063,1073741823,2147483647,4294967295,8589934591]
def Qo:List Nat:=[0,0,2,7,15,31,31,127,255,31,1023,2047]
def J6:=({y:=_}:ck Tryz.f113 [Qn,Qo]).1
def zF:=({y:=_}:dM J6 [1,1,0,0,0]).1
def D7:bT 113 Tryz.f113 J6 70 [bR 4]:=.of
def uN:aH 113 3=1/\aH 113 9=0/\aH 113 45=0/\aH 113 56=0/\aH 113 60=0/\aH 113 63=0/\aH 113 64=0/\aH 113 69=0:=by and_intros<;>kernel_rfl
def D8:=({y:=_}:ck Tryz.f114 []).1
def tB:=({y:=_}:dM D8 [1,0,1,0,0,1,0,0,1,0,0]).1
def J8:=({y:=_}:dM D8 [1,0,1,0,0]).1
def D9:bT 114 Tryz.f114 D8 64 [bR 8]:=.of
def uO:aH 114 4=1/\aH 114 5=1/\aH 114 6=1/\aH 114 7=1/\aH 114 16=0/\aH 114 27=0:=by and_intros<;>kernel_rfl
abbrev ae7:List aB:=[ou 3 52 0,ou 4 52 1,ou 5 52 2,jl 6 52,jk 7]
abbrev ae8:List aB:=[cm 15 52 3 0,bg 16 9 15,cm 17 52 3 1,bg 18 3 17,cm 19 52 3 2,bg 20 49 19,cm 21 52 3 3,bg 22 25 21,cm 23 52 3 4,bg 24 50 23,⟨some 25,Op.build 52 #[(0,aR 16),(1,aR 18),(2,aR 20),(3,aR 22),(4,aR 24)],.aw⟩,jl 8 52,dD 52 8 25]
abbrev afi:List aB:=[jk 9]
abbrev afk:List aB:=[cm 27 52 3 3,bg 28 25 27,cm 29 52 4 3,bg 30 25 29,cm 31 52 5 3,bg 32 25 31,ym 33 288 28 30 32 25 25,aE 26 33,hZ 34 26 0,hZ 35 26 1,bJ 10 34,bJ 11 35]
abbrev afl:List aB:=[aE 36 10,cm 37 52 8 3,dD 25 37 36]
abbrev afm:List aB:=[aE 38 11,qZ 39 38,aE 40 39,sE 41 52 8 40,Cl 42 146 41 52 40,Cm 43 42 40,sD 44 40 43]
abbrev afn:List aB:=[cm 45 52 3 3,bg 46 25 45,cm 47 52 8 3,dD 25 47 46]
abbrev afo:List aB:=[aE 48 9,⟨some 49,xg 25 1 #[(0,dK (jO {data:= #[114,101,102,115] }))],.aw⟩,nI 50 48 49 25,bJ 9 50]
abbrev afp:List aB:=[cm 51 52 4 2,bg 52 49 51,cm 53 52 5 2,bg 54 49 53,sF 55 49 52 54,aE 56 55,Ad 57 52 5 2 56,sE 58 49 57 56,Ad 59 52 3 2 56,sE 60 49 59 56,akz 61 49 58 60 56,sD 62 56 61]
abbrev afq:List aB:=[cm 63 52 4 2,bg 64 49 63,cm 65 52 8 2,dD 49 65 64]
abbrev ae9:List aB:=[cm 66 52 4 2,bg 67 49 66,cm 68 52 3 2,bg 69 49 68,sF 70 49 67 69]
abbrev afa:List aB:=[cm 71 52 5 2,bg 72 49 71,cm 73 52 8 2,dD 49 73 72]
abbrev afb:List aB:=[cm 74 52 4 2,bg 75 49 74,cm 76 52 8 2,dD 49 76 75]
abbrev afc:List aB:=[cm 77 52 5 2,bg 78 49 77,cm 79 52 4 2,bg 80 49 79,jA 81 199 78 80 49 49,GH 82 81 0]
abbrev afd:List aB:=[cm 83 52 5 2,bg 84 49 83,cm 85 52 8 2,dD 49 85 84]
abbrev afe:List aB:=[aE 86 9,⟨some 87,xg 25 1 #[(0,dK (jO {data:= #[97,116] }))],.aw⟩,nI 88 86 87 25,bJ 9 88]
abbrev aff:List aB:=[cm 90 52 3 4,bg 91 50 90,cm 92 52 4 4,bg 93 50 92,cm 94 52 5 4,bg 95 50 94,ym 96 289 91 93 95 50 50,aE 89 96,hZ 97 89 0,hZ 98 89 1,bJ 12 97,bJ 13 98]
abbrev afg:List aB:=[aE 99 12,cm 100 52 8 4,dD 50 100 99]
abbrev afh:List aB:=[GN 14 0]
abbrev afj:List aB:=[bg 115 52 8,aE 116 9,dD 52 6 115,bJ 7 116]
def Ke:=({y:=_}:ck Tryz.f196 []).1
def EE:=({y:=_}:dM Ke [1,1,1,1,1,1,1,1,1,0,1,0,0]).1
def ED:bT 196 Tryz.f196 Ke 117 [oK 6 52,bR 7]:=.of
def xM:aH 196 3=1/\aH 196 4=1/\aH 196 5=1/\aH 196 6=1/\aH 196 8=1/\aH 196 49=0/\aH 196 50=0/\aH 196 87=0/\aH 196 88=0/\aH 196 103=0/\aH 196 113=0/\aH 196 114=0:=by and_intros<;>kernel_rfl
abbrev ael:List aB:=[ou 4 24 0,ou 5 24 1,ou 6 24 2,jl 8 52,pk 9,jk 10]
abbrev aem:List aB:=[bg 20 24 4,aE 21 3,jA 22 115 20 21 24 9,aE 19 22,hZ 23 19 0,hZ 24 19 1,jl 11 52,dD 52 11 23,bJ 12 24]
abbrev aev:List aB:=[bg 26 24 5,aE 27 3,jA 28 115 26 27 24 9,aE 25 28,hZ 29 25 0,hZ 30 25 1,jl 13 52,dD 52 13 29,bJ 14 30]
abbrev aew:List aB:=[bg 32 24 6,aE 33 3,jA 34 115 32 33 24 9,aE 31 34,hZ 35 31 0,hZ 36 31 1,jl 15 52,dD 52 15 35,bJ 16 36]
abbrev aex:List aB:=[aE 37 14,aE 38 16,sF 39 4 37 38,aE 40 39,ow 41 52 13 40,ow 42 52 15 40,GI 43 64 41 42 52 40,qY 44 40 43]
abbrev aey:List aB:=[bg 45 52 13,aE 46 14,dD 52 8 45,bJ 9 46,jk 10]
abbrev aez:List aB:=[aE 47 16,aE 48 12,sF 49 4 47 48,aE 50 49,ow 51 52 15 50,ow 52 52 11 50,GI 53 64 51 52 52 50,qY 54 50 53]
abbrev aeA:List aB:=[bg 55 52 13,aE 56 14,dD 52 8 55,bJ 9 56,jk 10]
abbrev aeB:List aB:=[aE 57 14,aE 58 12,sF 59 4 57 58,aE 60 59,ow 61 52 13 60,ow 62 52 11 60,GI 63 64 61 62 52 60,qY 64 60 63]
abbrev aeC:List aB:=[bg 65 52 15,aE 66 16,dD 52 8 65,bJ 9 66,jk 10]
abbrev aen:List aB:=[aE 67 14,qZ 68 67]
abbrev aeo:List aB:=[bg 69 52 15,LM 70,dD 52 8 69,Ck 9,bJ 10 70]
abbrev aep:List aB:=[aE 71 16,qZ 72 71]
abbrev aeq:List aB:=[bg 73 52 13,LM 74,dD 52 8 73,Ck 9,bJ 10 74]
abbrev aer:List aB:=[aE 75 12,qZ 76 75,aE 77 76,Ad 78 52 13 1 77,sE 79 3 78 77,Ad 80 52 11 1 77,sE 81 3 80 77,TE 82 3 79 81 77,sD 83 77 82,aE 84 83,Ad 85 52 15 1 84,sE 86 3 85 84,Ad 87 52 11 1 84,sE 88 3 87 84,TE 89 3 86 88 84,sD 90 84 89]
abbrev aes:List aB:=[bg 91 52 13,bg 92 52 15,jA 93 195 91 92 52 52,LM 94,dD 52 8 93,Ck 9,bJ 10 94]
abbrev aet:List aB:=[bg 96 52 11,bg 97 52 13,bg 98 52 15,ym 99 196 96 97 98 52 52,aE 95 99,hZ 100 95 0,hZ 101 95 1,jl 17 52,dD 52 17 100,bJ 18 101]
abbrev aeu:List aB:=[bg 102 52 17,aE 103 18,dD 52 8 102,Ck 9,bJ 10 103]
def Qk:=({y:=_}:ck Tryz.f111 []).1
def D4:bT 111 Tryz.f111 Qk 104 [oK 8 52,bR 9,bR 10]:=.of
def tx:aH 111 4=1/\aH 111 5=1/\aH 111 6=1/\aH 111 8=1/\aH 111 11=1/\aH 111 13=1/\aH 111 15=1/\aH 111 17=1/\aH 111 70=0/\aH 111 74=0/\aH 111 94=0:=by and_intros<;>kernel_rfl
def RG:List Nat:=[0,0,2,7,0,16,63,0,128,511,1023]
def FK:List Nat:=[0,0,0,0,0,24,56,120,255,511,1023,1023,1023,0,10239,28671,65535]
def RF:List Nat:=[0,0,0,6,14,30,0,0,192,448,1022,2047,4095]
abbrev ahi:List aB:=[aE 47 11,aE 48 10,iH 49 48 22,nH 50 3 47 49]
abbrev RJ:List aB:=[bg 54 24 3,bg 55 24 4,bg 56 24 5,aE 57 10,aE 58 11,jY 59 22 57 58,cm 60 52 59 0,bg 61 9 60,LJ 62 111 54 55 56 61 24 24 9,aE 53 62,hZ 63 53 0,hZ 64 53 1,hZ 65 53 2,jl 12 52,dD 52 12 63,bJ 13 64,bJ 14 65]
abbrev ag3:List aB:=[aE 66 13]
abbrev ag4:List aB:=[bg 67 24 8,bg 68 52 12,jA 69 112 67 68 24 52,dD 24 8 69]
abbrev ag5:List aB:=[GN 15 0]
abbrev ahj:List aB:=[aE 51 11,io 52 51,bJ 11 52]
abbrev ag6:List aB:=[bg 88 24 8,bg 89 24 3,bg 90 24 4,bg 91 24 5,LJ 92 114 88 89 90 91 24 24 24,bJ 16 92]
abbrev ag7:List aB:=[aE 93 16,TF 94 93]
abbrev ag8:List aB:=[bg 95 24 8,aE 96 9,dD 24 6 95,bJ 7 96]
abbrev ag9:List aB:=[bg 98 24 3,aE 99 16,jA 100 115 98 99 24 9,aE 97 100,hZ 101 97 0,hZ 102 97 1,jl 17 52,dD 52 17 101,bJ 18 102]
abbrev aha:List aB:=[aE 103 18,qZ 104 103]
abbrev ahb:List aB:=[bg 106 24 4,aE 107 16,jA 108 115 106 107 24 9,aE 105 108,hZ 109 105 0,hZ 110 105 1,jl 19 52,dD 52 19 109,bJ 20 110]
abbrev ahc:List aB:=[bg 112 24 5,aE 113 16,jA 114 115 112 113 24 9,aE 111 114,hZ 115 111 0,hZ 116 111 1,jl 21 52,dD 52 21 115,bJ 22 116]
abbrev ahd:List aB:=[bg 117 52 19,dD 52 17 117]
abbrev ahe:List aB:=[aE 118 20,qZ 119 118,aE 120 119,yj 121 22 120,yj 122 121 120,ow 123 52 21 122,ow 124 52 19 122,GI 125 116 123 124 52 122,aku 126 122 125 120,sD 127 120 126]
abbrev ahf:List aB:=[bg 128 52 21,dD 52 17 128]
abbrev ahg:List aB:=[bg 129 24 8,bg 130 52 17,jA 131 112 129 130 24 52,dD 24 8 131]
abbrev ahh:List aB:=[aE 132 9,aE 133 16,⟨some 134,Op.build 143 #[(0,aR 133),(1,dK (jO {data:= #[111,98,106,101,99,116] }))],.aw⟩,jA 135 113 132 134 80 143,bJ 9 135]
def xW:=({y:=_}:ck Tryz.f48 [RG,FK,RF]).1
def FM:=({y:=_}:dM xW [1,1,1,1,1,0,1,0,0,1,0,0,1,1,1,0,0]).1
def RH:=({y:=_}:dM xW [1,1,1,1,1,0,1,0,0]).1
def FN:=({y:=_}:dM xW [1,1,1,1,1,1,0,0]).1
def FL:bT 48 Tryz.f48 xW 136 [oK 6 24,bR 7]:=.of
def mT:aH 48 3=1/\aH 48 4=1/\aH 48 5=1/\aH 48 6=1/\aH 48 8=1/\aH 48 12=1/\aH 48 17=1/\aH 48 19=1/\aH 48 21=1/\aH 48 37=0/\aH 48 40=0/\aH 48 43=0/\aH 48 46=0/\aH 48 49=0/\aH 48 72=0:=by and_intros<;>kernel_rfl
def Qq:=({y:=_}:ck Tryz.f12 []).1
def Ec:bT 12 Tryz.f12 Qq 44 [bR 6]:=.of
def PE:aH 12 3=1/\aH 12 4=1/\aH 12 5=1/\aH 12 8=1/\aH 12 10=1:=by and_intros<;>kernel_rfl
def za(ps:List (Nat×Operand))(e:aI):eV ar 52 ps e=(ek ar 52).bind fun z=>(cS (fun i=>([(0,1),(1,1),(2,2),(4,1),(5,1)]:List (Nat×Nat))[i]?) e z.cells ps).bind fun c=>some (.agg c):=by kernel_rfl
def LY(cs:List ae)(off:Nat):ey ar 26 cs off=(cs.drop off).head?:=by kernel_rfl
def aoq:dZ ar 26=some 1:=by kernel_rfl
def PW(lc:Ag.Loc)(n:Nat)(xs:List ae)(r:fu)(i:ae):hJ ar lc 63 (.list n xs r) i=(eK i).bind fun i=>bif Nat.beq n 1&&Nat.blt i xs.length then some (.ro (iA xs i).cells) else none:=by kernel_rfl
def JP(lc:Ag.Loc)(n m o l c:Nat)(i:ae):hJ ar lc 63 (.arr n m o l c) i=(eK i).bind fun i=>bif Nat.beq n 1&&Nat.blt i l then some (.ptr m (o+i*1)) else none:=by kernel_rfl
def Z8:iI ar 63=some ⟨1,24,false,.AL⟩:=by kernel_rfl
def RQ:eC RN=(10,[1023]):=by kernel_rfl
def RP:eC RM=(10,[1023]):=by kernel_rfl
def aft:eC QG=(12,[4095,8191]):=by kernel_rfl
def RU:eC RS=(8,[255]):=by kernel_rfl
def ahs:eC RT=(8,[255,511]):=by kernel_rfl
def aeE:eC Qp=(5,[31,63,127]):=by kernel_rfl
def Kx:eC Rl=(8,[255]):=by kernel_rfl
def Rm:eC Rk=(15,[32767]):=by kernel_rfl
def Rp:eC Ro=(8,[255]):=by kernel_rfl
def Ry:eC Ru=(22,[4194303,8388607]):=by kernel_rfl
def Rz:eC Rv=(8,[255]):=by kernel_rfl
def agV:eC Rx=(15,[32767,65535]):=by kernel_rfl
def af6:eC Kq=(9,[511]):=by kernel_rfl
def wu:eC Kr=(14,[16383]):=by kernel_rfl
def agn:eC Q8=(11,[2047,4095]):=by kernel_rfl
def afr:eC QD=(8,[255,511,1023]):=by kernel_rfl
def J5:eC Ql=(14,[16383,32767]):=by kernel_rfl
def aeD:eC Qm=(6,[63,127]):=by kernel_rfl
def BH:eC Qn=(30,[1073741823,2147483647,4294967295,8589934591]):=by kernel_rfl
def J7:eC Qo=(10,[1023,2047]):=by kernel_rfl
def ag0:eC RF=(11,[2047,4095]):=by kernel_rfl
def jC{f:Nat}{T:du}(hT:dc T){sp:Sp}(h: ∀args u,sp args=some u->pures args=true/\ ∃v s',aM (QT T) f args s0 v s'/\s'.ci=0/\dP s'.heap v u):cq ar f sp:=by
 intro args x hv G hh w xs wr hx;obtain⟨hp,v,s',hr,hc,hf⟩:=h args x hv;exact eA (Q:=QT T) (ep hT) (fun _=>Nat.zero_lt_succ 1) (args:=args) (v:=v) (s':=s') (kh hp) (by rw[gK hp];exact hr) hc hf G hh w xs wr hx
def tc(sz lo:Nat)(s:St)(ov:ae)(xs:List ae):Prop:=cE sz lo s ov xs\/(ov= .list sz [] .GE/\xs=[])
variable{xs:List ae}{lo sz:Nat}{s:St}{ov:ae}
def tc.aL(h:tc sz lo s ov xs):ov.aL=true:=by
 rcases h with h|⟨rfl,_⟩
 exact h.aL;rfl
def tc.some(h:tc sz lo s ov xs)(hne:xs≠ []):cE sz lo s ov xs:=by
 rcases h with h|⟨_,h⟩
 exact h;exact absurd h hne
variable{α:Type}
def cE.isL{enc:α->ae}{l:List α}(h:cE sz lo s ov (l.map enc)):aD sz enc ov l:=by
 rcases h with⟨h1,h2⟩|⟨_,k,h2,_⟩
 exact .inl ⟨h1,List.map_eq_nil_iff.1 h2⟩;exact .inr ⟨_,h2⟩
def tc.isL{enc:α->ae}{l:List α}(h:tc sz lo s ov (l.map enc)):aD sz enc ov l:=by
 rcases h with h|⟨h1,h2⟩
 exact h.isL;exact .inr ⟨_,by rw[h1,h2]⟩
def rN{t:TypeId}{E:EI}(hE:iI ar t=Option.some E)(hn:E.n=sz)(hb:E.b<=88){y:ae}{ys:List ae}(h:tc sz lo s ov xs)(hy:jS [] E.g E.n y s=Option.some ys)(hlen:xs.length+ys.length<=1000000)(hlo:lo<=s.al)(hm:s.ge<=s.al):
 ∃ov' s',hG ar [] t ov y false s=Option.some (ov',s')/\tc sz lo s' ov' (xs++ys)/\s'.ci=s.ci/\s.al<=s'.al/\s'.ge<=s'.al/\(∀n,n<lo->s'.get [] n=s.get [] n)/\ov'.cells=[ov']:=by
 rcases h with h|⟨rfl,rfl⟩
 obtain⟨ov',s',h1,h2,h3⟩:=tf hE hn hb h hy hlen hlo hm;exact⟨ov',s',h1,.inl h2,h3⟩;subst hn;cases ys with
 |nil=>
  refine⟨.list E.n [] .GE,s,?_,.inr ⟨rfl,rfl⟩,rfl,Nat.le_refl _,hm,fun _ _=>rfl,rfl⟩;simp only[ce,hG,hE,hy,xS]
 |cons y0 ys=>
  have hr:lW (y0::ys).length E.b=true:=vq (by simpa using hlen) hb;refine⟨.list E.n (y0::ys) (.own s.al),s.new .tok,?_,.inl (.inr ⟨by simp,s.al,rfl,by rw[cp,bS];rfl,hlo,fK _⟩),rfl,Nat.le_succ _,Nat.le_succ_of_le hm,fun n hn'=>?_,rfl⟩;simp only[ce,hG,hE,hy,ml,kK,fe,bS,List.nil_append,hr,cF];rw[cp,bN.2 (by omega)];rfl
variable{l:List Obj}{v:ae}
def LD(h:aD 6 Obj.val v l)(hg: ∀o∈l,o.Al):ie (.agg [v])=true/\ ∃v',weak (.agg [v])= .agg [v']/\aD 6 Obj.val v' l/\aQ (.agg [v'])=true:=by
 rcases h with⟨rfl,rfl⟩|⟨r,rfl⟩
 exact⟨rfl,.AL,rfl,.inl ⟨rfl,rfl⟩,rfl⟩;refine⟨by simp only[ie,jn,Aj hg,Bool.and_self],.list 6 (l.map Obj.val) (match r with| .own _=>.no|r=>r),?_,.inr ⟨_,rfl⟩,?_⟩;simp only[weak,ej,gK (Aj hg)];cases r<;>rfl;simp only[aQ,pures,Aj hg];cases r<;>rfl
def mQ(u:ae):Option (List Obj):=bif aQ u then jF u else none
def pY(h:aD 6 Obj.val v l)(hg: ∀o∈l,o.Al)(hs:l.length<small)(hp:aQ (.agg [v])=true):mQ (.agg [v])=some l:=by
 simp only[mQ,hp,cT,lK h hg hs]
variable{u:ae}
def pX(h:mQ u=some l): ∃v,u= .agg [v]/\aD 6 Obj.val v l/\(∀o∈l,o.Al)/\l.length<small/\aQ u=true:=by
 unfold mQ at h;obtain⟨hp,h⟩:=bm h;obtain⟨v,rfl,h1,h2,h3⟩:=lJ h;exact⟨v,rfl,h1,h2,h3,hp⟩
def mn(u:ae):Option (List ak):=bif aQ u then fF 1 mS u else none
variable{l:List ak}
def oO(h:aD 1 aF v l)(hp:aQ v=true):mn v=some l:=by
 simp only[mn,hp,cT,i8 p8 h]
def oN(h:mn u=some l):aD 1 aF u l/\aQ u=true:=by
 unfold mn at h;obtain⟨hp,h⟩:=bm h;exact⟨ij (fun v a=>pZ) h,hp⟩
def p9(u:ae):Option (List be):=bif aQ u then fF 2 oP u else none
variable{l:List be}
def uy(h:aD 2 bD v l)(hp:aQ v=true):p9 v=some l:=by
 simp only[p9,hp,cT,i8 tg h]
def ux(h:p9 u=some l):aD 2 bD u l/\aQ u=true:=by
 unfold p9 at h;obtain⟨hp,h⟩:=bm h;exact⟨ij (fun v a=>rO) h,hp⟩
def A3(u:ae):Option (List Cf):=bif aQ u then fF 2 vQ u else none
variable{l:List Cf}
def XP(h:aD 2 cg v l)(hp:aQ v=true):A3 v=some l:=by
 simp only[A3,hp,cT,i8 Iq h]
def XO(h:A3 u=some l):aD 2 cg u l/\aQ u=true:=by
 unfold A3 at h;obtain⟨hp,h⟩:=bm h;exact⟨ij (fun v a=>A2) h,hp⟩
def ig{n:Nat}(h:n<4611686018427387904):IntKind.i64.wrap ((n:Int)+1)=((n+1:Nat):Int):=by rw[lC (by omega) (by omega)];omega
def lw(l:List ak):ae:=fv 1 (l.map aF)
def tagsV(l:List be):ae:=fv 2 (l.map bD)
def nr(l:List Cf):ae:=fv 2 (l.map cg)
def kL(l:List Obj):ae:=fv 6 (l.map Obj.val)
def AF:Sp
 | [v]=>(p9 v).bind fun l=>bif br l.length 100000 then some (lw (dR l)) else none
 |_=>none
def uB:Sp
 | [v,u]=>(uw v).bind fun a=>(uw u).bind fun b=>some (gu (tm a b))
 |_=>none
def uz:Sp
 | [v,u]=>(mn v).bind fun a=>(mn u).bind fun b=>bif br a.length 1000000 then some (.bool (jQ a b)) else none
 |_=>none
def zD:Sp
 | [v,u]=>(mn v).bind fun a=>(mn u).bind fun b=>bif br a.length 1000000&&br b.length 1000000 then some (.bool (wf a b)) else none
 |_=>none
def ll(o:Obj):Bool:=br o.gE.length 1000000&&br o.gT.length 100000
def sf:Sp
 | [v,u]=>(iL v).bind fun a=>(iL u).bind fun b=>bif ll a&&ll b then some (.bool (kJ a b)) else none
 |_=>none
def wB:Sp
 | [v,u]=>(iL v).bind fun a=>(iL u).bind fun b=>bif ll a&&ll b then some (bif kJ b a then b else a).val else none
 |_=>none
def ja(p:Option Obj):ae:=match p with
 |some o=>o.val
 |none=>eP.val
def tw:Sp
 | [v,.str id]=>(mQ v).bind fun l=>some (.tup [ja (bc id l),.bool (bc id l).isSome])
 |_=>none
def Av:Sp
 | [v]=>(mn v).bind fun a=>some (.bool (!i9 a))
 |_=>none
def j7(l:List Int):ae:=.list 1 (l.map gu) .no
def vw(a b:List ak):List (List Int):=(iv (a.length+1)).map fun i=>(iv (b.length+1)).map fun k=>((dW (a.drop i) (b.drop k):Nat):Int)
def zJ:Sp
 | [v,u]=>(mn v).bind fun a=>(mn u).bind fun b=>bif br a.length 2000&&br b.length 2000 then some (.list 1 ((vw a b).map j7) .no) else none
 |_=>none
def zQ:Sp
 | [v,u]=>(mn v).bind fun a=>(mn u).bind fun b=>bif br a.length 2000&&br b.length 2000 then some (j7 (mR a b 0)) else none
 |_=>none
def wQ:Sp
 | [v,u]=>(mn v).bind fun a=>(mn u).bind fun b=>bif br a.length 1000000 then some (.bool (a==b)) else none
 |_=>none
def zT:Sp
 | [u,v,w]=>(mn u).bind fun b=>(mn v).bind fun o=>(mn w).bind fun t=>some (pq (jB b o t))
 |_=>none
def zz:Sp
 | [v,.str k]=>(p9 v).bind fun l=>bif br l.length 1000000 then some (.tup [.str ((dV k l).getD []),.bool (dV k l).isSome]) else none
 |_=>none
def yu:Sp
 | [v,.str k,.str x]=>(p9 v).bind fun l=>bif br l.length 100000 then some (tagsV (ip k x (x== []) l)) else none
 |_=>none
def yh:Sp
 | [u,v,w,.str k]=>(p9 u).bind fun b=>(p9 v).bind fun o=>(p9 w).bind fun t=>bif br b.length 1000000&&(br o.length 1000000&&br t.length 1000000) then
     some (.tup [.str (sw ((dV k b).getD []) ((dV k o).getD []) ((dV k t).getD [])).1,.bool (sw ((dV k b).getD []) ((dV k o).getD []) ((dV k t).getD [])).2]) else none
 |_=>none
def u0:Sp
 | [u,v,w]=>(p9 u).bind fun b=>(p9 v).bind fun o=>(p9 w).bind fun t=>bif(iq b&&(iq o&&iq t))&&(pz b&&(pz o&&pz t)) then some (vp (AA b o t)) else none
 |_=>none
def vr:Sp
 | [v,u]=>(iL v).bind fun a=>(iL u).bind fun b=>bif ll a then some (.bool (jV a b)) else none
 |_=>none
def rL:Sp
 | [v,.agg [.str k,.str w]]=>(A3 v).bind fun l=>match v with
   | .list _ _ .GE=>none
   |_=>bif br l.length 100000 then some (nr (gN (k,w) l)) else none
 |_=>none
def AE:Sp
 | [v,.str k]=>(mQ v).bind fun l=>bif br l.length 100000 then some (.agg [kL (iC k l)]) else none
 |_=>none
def t6:Sp
 | [v,u]=>(mQ v).bind fun l=>(iL u).bind fun o=>bif br l.length 90000 then some (.agg [kL (iJ o l)]) else none
 |_=>none
abbrev kZ:=Nat->Nat->Int
def mI(T:kZ)(i k:Nat)(v:Int):kZ:=fun i' k'=>if i'=i/\k'=k then v else T i' k'
def gW(w:Nat)(f:Nat->Int):List ae:=(iv w).map fun k=>.int .i64 (f k)
def UB(w:Nat)(f:Nat->Int):(gW w f).length=w:=by simp[gW]
variable{k w:Nat}
def ami(f:Nat->α)(h:k<w):((iv w).map f).drop k=f k::((iv w).map f).drop (k+1):=by
 have hl:k<((iv w).map f).length:=by simpa using h
 rw[vC hl];simp
variable{v:Int}{i:Nat}{T:kZ}
def amY:(gW w (T i)).set k (.int .i64 v)=gW w (mI T i k v i):=by
 unfold gW;refine List.ext_getElem (by simp) fun j h1 h2=>?_;simp only[List.length_map,List.length_range] at h2;rw[List.getElem_set];simp only[List.getElem_map,List.getElem_range,mI,tA];by_cases h:k=j;subst h;simp;rw[iN h,iN (Ne.symm h)]
structure kY (s:St) (n0 h w:Nat) (T:kZ):Prop where
 out:s.get [] n0=some (.cells ((iv h).map fun i=>.arr 1 (n0+1+i) 0 w w))
 row: ∀i,i<h->s.get [] (n0+1+i)=some (.cells (gW w (T i)))
 nx:n0+1+h<=s.al
def kY.put{n0 h:Nat}(H:kY s n0 h w T):kY (s.put (n0+1+i) (some (.cells ((gW w (T i)).set k (.int .i64 v))))) n0 h w (mI T i k v):=by
 refine⟨?_,fun j hj=>?_,H.nx⟩;rw[bO,bN.2 (by omega)];exact H.out;rw[bO];by_cases e:j=i;subst e;rw[bS,amY];rfl;rw[bN.2 (by omega)];have:mI T i k v j=T j:=funext fun k'=>by unfold mI;rw[iN fun h=>e h.1]
 rw[this];exact H.row j hj
structure nS (a b:List ak) (T:kZ) (i k:Nat):Prop where
 ok: ∀i' k',i'<=a.length->k'<=b.length->(i<i'\/(i'=i/\k<=k'))->T i' k'=(dW (a.drop i') (b.drop k'):Nat)
 side: ∀i',i'<=a.length->T i' b.length=0
variable{a b:List ak}
def nS.zero:nS a b (fun _ _=>0) a.length 0:=by
 refine⟨fun i' k' hi' hk' hc=>?_,fun _ _=>rfl⟩;have:i'=a.length:=by omega
 subst this;rw[vD,Lu];rfl
def wK(T:kZ)(i k:Nat):kZ:=mI T i k (max (T (i+1) k) (T i (k+1)))
def vk(x y:ak)(T:kZ)(i k:Nat):kZ:=bif x==y then mI T i k (1+T (i+1) (k+1)) else T
def nS.step(h:nS a b T i (k+1))(hi:i<a.length)(hk:k<b.length):nS a b (vk a[i] b[k] (wK T i k) i k) i k:=by
 have da:a.drop i=a[i]::a.drop (i+1):=vC hi;have db:b.drop k=b[k]::b.drop (k+1):=vC hk;have u1:=h.ok (i+1) (k+1) hi hk (.inl (fK _));have u2:=h.ok (i+1) k hi (by omega) (.inl (fK _));have u3:=h.ok i (k+1) (by omega) hk (.inr ⟨rfl,Nat.le_refl _⟩);have hv:vk a[i] b[k] (wK T i k) i k i k=((dW (a.drop i) (b.drop k):Nat):Int):=by
  rw[da,db,KM];unfold vk wK;cases a[i]==b[k] with
  |true=>
   simp only[cT];show mI _ i k _ i k=_;simp only[mI,and_self,if_true];rw[iN (by omega),u1];omega
  |false=>
   simp only[cF];show mI _ i k _ i k=_;simp only[mI,and_self,if_true];rw[u2,u3,<-da,<-db];omega
 have ho: ∀i' k', ¬(i'=i/\k'=k)->vk a[i] b[k] (wK T i k) i k i' k'=T i' k':=fun i' k' hn=>by
  unfold vk wK;cases a[i]==b[k] with
  |true=>simp only[cT,mI,iN hn]
  |false=>simp only[cF,mI,iN hn]
 refine⟨fun i' k' hi' hk' hc=>?_,fun i' hi'=>?_⟩;by_cases he:i'=i/\k'=k;obtain⟨rfl,rfl⟩:=he;exact hv;rw[ho _ _ he];refine h.ok i' k' hi' hk' ?_;rcases hc with hc|⟨rfl,hc⟩
 exact .inl hc;refine .inr ⟨rfl,?_⟩;have:k'≠k:=fun e=>he ⟨rfl,e⟩;omega;rw[ho _ _ (by omega)];exact h.side i' hi'
def nS.al(h:nS a b T (i+1) 0):nS a b T i b.length:=by
 refine⟨fun i' k' hi' hk' hc=>?_,h.side⟩;rcases hc with hc|⟨rfl,hc⟩
 refine h.ok i' k' hi' hk' ?_;by_cases he:i'=i+1;exact .inr ⟨he,Nat.zero_le _⟩;exact .inl (by omega);have:k'=b.length:=by omega
 subst this;rw[h.side i' hi',vD,KN];rfl
def nS.bound{i' k':Nat}(h:nS a b T i k)(hi':i'<=a.length)(hk':k'<=b.length)(hc:i<i'\/(i'=i/\k<=k')):0<=T i' k'/\T i' k'<=a.length:=by
 rw[h.ok i' k' hi' hk' hc]
 have:=BS (a.drop i') (b.drop k');rw[List.length_drop] at this;omega
