/- Lemmas for ValidApart. -/
import Derived.Test.YtnnppcoplinajaaGreatB8
import Derived.Test.YtnnppcoplinajaaGreatAg3
import Derived.Test.YtnnppcoplinajaaGreatB6
import Derived.Test.YtnnppcoplinajaaGreatB3
import Derived.Test.YtnnppcoplinajaaGreatZ1b
import Derived.Test.YtnnppcoplinajaaGreatB2
import Derived.Test.YtnnppcoplinajaaGreatB7
import Derived.Shelf.Spec.SlicesInsertGrow
import Derived.Shelf.RegionOpenPlain
import Derived.WalkKit
import Derived.Deep.RegionLaw
import Derived.Test.YtnnppcoplinajaaGreatB5
set_option linter.all false
open Go.Ag.aa renaming cells→ayl
open Array renaming getElem?_push→azj
open Bool renaming and_eq_true→bu,not_eq_false'→azk,or_eq_false_iff→v9
open Go.Builtin renaming append_→xN,copy_→DN,zeroCells→ay4
open Int renaming mul_le_mul_of_nonneg_left→K7
open Go.IntKind renaming wrap_i64→ayK
open List renaming getElem?_append_left→BA,getElem?_append_right→wd,getElem?_drop→DS,getElem?_eq_getElem→gn,getElem?_eq_none→DT,getElem?_take→G6,length_drop→ayU,length_take→sC,mem_cons→fc,mem_of_mem_drop→ayP,range→ix,size_toArray→ay8,take_of_length_le→re
open Nat renaming add_assoc→wq,add_zero→gB,ble_eq_true_of_le→cP,eq_of_beq_eq_true→jP,le_of_ble_eq_true→fW,le_refl→br,lt_or_ge→nZ,mul_le_mul_right→uG
open Go.Op renaming bytesLess→fN
open Option renaming ne_none_iff_exists'→azJ
open Prod.mk renaming injEq→bI
open Go.ResultVar renaming tmp→bZ
open Go.Proofs.Tryz renaming prog→ae
namespace Go.Proofs.YtnnppcoplinajaaGreat
open Go.Ag
def aBB:List Nat:=[0,1,3,7,7,31,63,127,7,7,519,1799,3847,7943,16383,32767,65535,131071,131071,524287,1048575,2097151,131071,131071,8519679,29491199,63045631,130154495,268435455,536870911,1073741823,2147483647,4294967295,8589934591,17179869183,34359738367]
def aBC:List Nat:=[0,0,2,7,15,31,31,127,255,31,31,1567,3615,7711,16383,32767]
def aBD:List Nat:=[0,0,2,7,15,31,63,127,255,511,1023,2047,2047,8191,16383,32767,65535,131071,262143,524287,524287,2097151,4194303,8388607,16777215,33554431,67108863,134217727,134217727,536870911,1073741823,2147483647,4294967295,8589934591,17179869183,34359738367,68719476735,68719476735,274877906943,549755813887,1099511627775,2199023255551,4398046511103,8796093022207,17592186044415,35184372088831,35184372088831,140737488355327,281474976710655,562949953421311,1125899906842623,2251799813685247,4503599627370495,9007199254740991,9007199254740991,36028797018963967,72057594037927935,144115188075855871,288230376151711743,576460752303423487,9007199254740991,9007199254740991,3467771713075281919,8079457731502669823,17302829768357445631,35749573842066997247,72643061989486100479,147573952589676412927,295147905179352825855,590295810358705651711]
def aBE:List Nat:=[0,0,0,6,14,30,62,126,255,511,1023,2047,2047,2047,2047,26623,59391,131071,262143,524287]
def aBF:List Nat:=[0,1,3,3,15,3,63,127,255,511,1023,2047,4095,8191,16383]
def k6:=({y:=_}:bU Tryz.f6 [aBB,aBC,aBD,aBE,aBF]).1
def aCm:=({y:=_}:cS k6 [1,1,1,1,1,1,0,1,0,0,1,0,0,1,0,0,0]).1
def aCn:=({y:=_}:cS k6 [1,1,1,1,1,1,0,1,0,0]).1
def az4:=({y:=_}:bU Tryz.f153 []).1
def aCj:=({y:=_}:cS az4 [1,0,1,0,0]).1
def aBj:=({y:=_}:bU Tryz.f154 []).1
def aBk:=({y:=_}:bU Tryz.f155 []).1
def aBt:=({y:=_}:bU Tryz.f257 []).1
attribute[go_sem]k6 az4 aBj aBk aBt
def azy:List Nat:=[0,1,0,7,15,31,0,64,255]
def azx:List Nat:=[0,1,0,7,15,31,0,127,255,0,512,2047]
def azf:List Nat:=[0,0,3,7,15,31,63,127,127,511,1023,2047,127,4223,12415,32767,65535,131071]
def k7:=({y:=_}:bU Tryz.f7 [azy,azx,azf]).1
def azz:=({y:=_}:cS k7 [1,1,1,0,1,0,0,1,0,0,1,1,0,0]).1
def azA:=({y:=_}:cS k7 [1,1,1,0,1,0,0]).1
def ay2:=({y:=_}:cS k7 [1,1,1,1,1,1,1,1,0,1,0,0]).1
def aBL:bK 7 Tryz.f7 k7 125 [bZ 6]:=.of
def aA7:ai 7 3=1/\ai 7 4=1/\ai 7 5=1/\ai 7 10=1/\ai 7 22=0/\ai 7 36=0/\ai 7 57=0/\ai 7 88=0/\ai 7 106=0/\ai 7 115=0/\ai 7 116=0:=by and_intros<;>kernel_rfl
def k34:=({y:=_}:bU Tryz.f34 []).1
def aBy:bK 34 Tryz.f34 k34 51 [ResultVar.cell 4 24,bZ 5]:=.of
def azZ:ai 34 2=1/\ai 34 3=1/\ai 34 4=1/\ai 34 8=1/\ai 34 10=0/\ai 34 34=2/\ai 34 47=0:=by and_intros<;>kernel_rfl
def k78:=({y:=_}:bU Tryz.f78 []).1
def aBJ:bK 78 Tryz.f78 k78 6 [bZ 2]:=.of
def k79:=({y:=_}:bU Tryz.f79 []).1
def aBK:bK 79 Tryz.f79 k79 12 [bZ 4,bZ 5]:=.of
def aA8:ai 79 2=1:=by kernel_rfl
def k80:=({y:=_}:bU Tryz.f80 []).1
def azB:bK 80 Tryz.f80 k80 8 [bZ 2]:=.of
def aA9:ai 80 5=0/\ai 80 7=2:=by and_intros<;>kernel_rfl
def az5:=({y:=_}:bU Tryz.f169 []).1
def aBl:bK 169 Tryz.f169 az5 9 [bZ 4]:=.of
def az6:=({y:=_}:bU Tryz.f170 []).1
def aBm:bK 170 Tryz.f170 az6 6 [bZ 2]:=.of
def aA3:ai 170 1=1:=by kernel_rfl
def azq:=({y:=_}:bU Tryz.f171 []).1
def azr:=({y:=_}:cS azq [1,1,1,0,0,0]).1
def aBn:bK 171 Tryz.f171 azq 49 [bZ 6,bZ 7]:=.of
def aA4:ai 171 13=0:=by kernel_rfl
def az7:=({y:=_}:bU Tryz.f172 []).1
def aBo:bK 172 Tryz.f172 az7 9 [bZ 4]:=.of
def aA5:ai 172 2=1:=by kernel_rfl
def azt:=({y:=_}:bU Tryz.f262 []).1
def az8:=({y:=_}:cS azt [1,0,1,0,0]).1
def aBv:bK 262 Tryz.f262 azt 19 [bZ 4]:=.of
def aA6:ai 262 7=0:=by kernel_rfl
def aB9:gR ae 241 1 24 true (.agg [.oZ]):=gR.of
attribute[go_sem]aB9 aA7 azZ azZ aA8 aA9 aA3 aA4 aA5 aA6 k7 k34 k78 k79 k80 az5 az6 azq az7 azt
end Go.Proofs.YtnnppcoplinajaaGreat
set_option linter.defProp false
namespace Go.Proofs.YtnnppcoplinajaaGreat
open Go.Ag
attribute[go_sem]bF dC iY EN xL aW aY iU wJ Ei
def sN:=(⟨@aj, @cT.{1}, @cF.{1}⟩:_/\_/\_)
def sL:=(⟨sN, @dj, @cY, @bS.{0}⟩:_/\_/\_/\_)
def sG:=(⟨sL, @gw⟩:_/\_)
def sA:=(⟨@List.length_append.{0}, @List.length_cons.{0}, @List.length_nil.{0}⟩:_/\_/\_)
class Std (Q:aH):Prop where
 P:Q.P=ae
 hint:Q.hint=ai
 H: ∀f,Q.specH f=none
class No (Q:aH) (f:FuncId):Prop where
 s:Q.spec f=none
 w:Q.specW f=none
attribute[go_sem]Std.P Std.hint No.s
variable{fn:Func}{f:FuncId}{args:List aa}{n:Nat}{sc:SC}{s:St}{t:Tmp}{Q:aH}{v:aa}
def aq.ofN[Std Q][No Q f]{s':St}(l:ae.funcs[f]? =some fn)(m:fn.body.map eD=some sc)(j:fn.ntmps=n)(g:fn.results.toList=[.tmp t])(h:W Q f sc (aaA n args) s fun x c d=>d=s'/\(x= .normal\/x= .ret)/\ac c.env t=v)(e:v.ge=true:=by rfl):aq Q f args s v s':=
 aq.of2 (by rw[Std.P];exact l) m j g No.s (h.mono fun _ _ _ ⟨u,q,o⟩=>⟨u,q,dZ o e⟩) (Std.H f) No.w
variable{rs:List ResultVar}{R:aa->St->Prop}
def aq.ofNR[Std Q][No Q f](u:ae.funcs[f]? =some fn)(z:fn.body.map eD=some sc)(q:fn.ntmps=n)(m:fn.results.toList=rs)(h:W Q f sc (aaA n args) s fun x c d=>(x= .normal\/x= .ret)/\ ∃v,(jt Q [] c d rs).map nT=some v/\R v d): ∃v g,aq Q f args s v g/\R v g:=by
 obtain⟨x,c,d,e,j,v,l,o⟩:=h;exact⟨v,d,aq.of2 (by rw[Std.P];exact u) z q m No.s ⟨x,c,d,e,rfl,j,by simpa only[Option.map_eq_some_iff] using l⟩ (Std.H f) No.w,o⟩
def aq.ofNRZ[Std Q][No Q f](F:bK f fn sc n rs)(h:W Q f sc (aaA n args) s fun x c d=>(x= .normal\/x= .ret)/\ ∃v,(jt Q [] c d rs).map nT=some v/\R v d): ∃v e,aq Q f args s v e/\R v e:=aq.ofNR F.1 F.2 F.3 F.4 h
def aq.ofNZ[Std Q][No Q f]{s':St}(F:bK f fn sc n [.tmp t])(h:W Q f sc (aaA n args) s fun x c d=>d=s'/\(x= .normal\/x= .ret)/\ac c.env t=v)(e:v.ge=true:=by rfl):aq Q f args s v s':=aq.ofN F.1 F.2 F.3 F.4 h e
def Obj.oM.all{o:Obj}(h:o.oM):(o.refsV.ge=true/\o.tagsV.ge=true)/\o.refsV.cells=[o.refsV]/\o.tagsV.cells=[o.tagsV]:=⟨⟨h.gE.ge,h.gT.ge⟩,h.gE.scal,h.gT.scal⟩
end Go.Proofs.YtnnppcoplinajaaGreat
set_option linter.unusedVariables false
set_option linter.unusedSimpArgs false
namespace Go.Proofs.YtnnppcoplinajaaGreat
open Go Go.Proofs Go.Lib Go.RowKit Go.Shelf
set_option maxHeartbeats 4000000 in
set_option maxRecDepth 100000 in
def aBg(w:World)(b off n c i m d l:Nat)(hi:i<n)(q:n+1<=c)(A:n+1<=9223372036854775807)(D B:World)(x1 x2:Value)(u: ∀F S,(callFunc 173 #[.slice (some ⟨m,d,none⟩) 1 l,.slice (some ⟨b,off+(i+1)*6,none⟩) F S]).run ae w= .ok (.value (.bool false)) w)(j: ∀o z sc,(DN #[22,22] o #[.slice (some ⟨b,off+(i+1)*6,none⟩) (n-i) z,.slice (some ⟨b,off+i*6,none⟩) (n+1-i) sc]).run ae w.drew= .ok x1 D)(g: ∀o z,(DN #[22,22] o #[.slice (some ⟨b,off+i*6,none⟩) (n+1-i) z,.slice (some ⟨m,d,none⟩) 1 l]).run ae D= .ok x2 B):
 Calls ae 81 #[.slice (some ⟨b,off,none⟩) n c,.int .i64 i,.slice (some ⟨m,d,none⟩) 1 l] w fun e E=>
  e= .returned (.slice (some ⟨b,off,none⟩) (n+1) c)/\E=B:=by
 have H: ¬((i:Int)=(n:Int)):=by omega
 have I:IntKind.i64.wrap ((i:Int)+1)=(i:Int)+1:=by rw[ayK];omega
 have P:(0:Int)<=(i:Int)+1:=by omega
 have K:i<=n:=by omega
 have J:((i:Int)+1).toNat=i+1:=by omega
 have N:(i:Int)<=(n:Int)+1:=by omega
 have O: ¬(c=i+1):=by omega
 have M: ¬(c=i):=by omega
 go_enter Tryz.func81,Tryz.ntmps81
 go_wp2_with (simp only[u])
 go_region_law (refine step_copy_runI rfl _ _ 22 22 rfl _ _ (by simp[Act.eval,Act.put]) (by simp[Act.eval,Act.put]) (j _ _ _) ?_)
 go_wp2_with (at_builtin;refine wpList_copy_runI _ rfl _ _ 22 22 rfl _ _ rfl rfl (g _ _) ?_)
 go_ret
 exact⟨rfl,rfl⟩
set_option maxHeartbeats 4000000 in
set_option maxRecDepth 100000 in
def aBe(w:World)(b off n c i z d u N G:Nat)(hi:i<n)(g:c=n)(A:n+1<=9223372036854775807)(U:n+1<=G)(E W1 D:World)(x1 x2:Value)(o: ∀j,(xN #[22,3] j #[.slice (some ⟨b,off,none⟩) i c,.int .i64 ((n:Int)+1-(i:Int))]).run ae w= .ok (.slice (some ⟨N,0,none⟩) (n+1) G) E)(m: ∀j q,(DN #[22,22] j #[.slice (some ⟨N,i*6,none⟩) (n+1-i) q,.slice (some ⟨z,d,none⟩) 1 u]).run ae E= .ok x1 W1)(l: ∀j q sc,(DN #[22,22] j #[.slice (some ⟨N,(i+1)*6,none⟩) (n-i) q,.slice (some ⟨b,off+i*6,none⟩) (n-i) sc]).run ae W1.drew= .ok x2 D):
 Calls ae 81 #[.slice (some ⟨b,off,none⟩) n c,.int .i64 i,.slice (some ⟨z,d,none⟩) 1 u] w fun e F=>
  e= .returned (.slice (some ⟨N,0,none⟩) (n+1) G)/\F=D:=by
 subst g;have I: ¬((i:Int)=(c:Int)):=by omega
 have H:(c:Int)<(c:Int)+1:=by omega
 have J:IntKind.i64.wrap ((i:Int)+1)=(i:Int)+1:=by rw[ayK];omega
 have S:(0:Int)<=(i:Int)+1:=by omega
 have M:i<=c:=by omega
 have K:((i:Int)+1).toNat=i+1:=by omega
 have P:(i:Int)<=(c:Int):=by omega
 have T: ¬(G=i):=by omega
 have B: ¬(G=i+1):=by omega
 have O: ¬(c=i):=by omega
 go_enter Tryz.func81,Tryz.ntmps81
 go_wp2_with (first
  |(at_builtin;refine Lib.wpList_append_run _ rfl _ _ _ _ rfl _ _ rfl rfl _ _ (o _) ?_)
  |(at_builtin;refine wpList_copy_runI _ rfl _ _ 22 22 rfl _ _ rfl rfl (m _ _) ?_))
 go_region_law (refine step_copy_runI rfl _ _ 22 22 rfl _ _ (by simp[Act.eval,Act.put]) (by simp[Act.eval,Act.put]) (l _ _ _) ?_)
 go_wp2
 go_ret
 exact⟨rfl,rfl⟩
set_option maxHeartbeats 4000000 in
set_option maxRecDepth 100000 in
def aBd(w:World)(a:Addr)(n c l d j c':Nat)(a':Addr)(u:n<=c)(m:n+1<=9223372036854775807)(o:World)(g:(xN #[22,22] 22 #[.slice (some a) n c,.slice (some ⟨l,d,none⟩) 1 j]).run ae w= .ok (.slice (some a') (n+1) c') o):
 Calls ae 81 #[.slice (some a) n c,.int .i64 n,.slice (some ⟨l,d,none⟩) 1 j] w fun e q=>
  e= .returned (.slice (some a') (n+1) c')/\q=o:=by
 go_enter Tryz.func81,Tryz.ntmps81
 go_wp2_with (at_builtin;refine Lib.wpList_append_run _ rfl _ _ _ _ rfl _ _ rfl rfl _ _ g ?_)
 all_goals (go_wp2;go_ret;exact⟨rfl,rfl⟩)
set_option maxHeartbeats 4000000 in
set_option maxRecDepth 100000 in
def aBf(w:World)(j c g c':Nat)(a':Addr)(l:World)(d:(xN #[22,22] 22 #[.slice none 0 0,.slice (some ⟨j,c,none⟩) 1 g]).run ae w= .ok (.slice (some a') (0+1) c') l):
 Calls ae 81 #[.slice none 0 0,.int .i64 (0:Nat),.slice (some ⟨j,c,none⟩) 1 g] w fun e m=>
  e= .returned (.slice (some a') (0+1) c')/\m=l:=by
 go_enter Tryz.func81,Tryz.ntmps81
 go_wp2_with (at_builtin;refine Lib.wpList_append_run _ rfl _ _ _ _ rfl _ _ rfl rfl _ _ d ?_)
 all_goals (go_wp2;go_ret;exact⟨rfl,rfl⟩)
def ay0:(ae.info? 52).map (·.size)=some 6:=by kernel_rfl
def aB8(w:World):(sizeOf 52).run ae w= .ok 6 w:=by
 have h:=ay0;cases hq:ae.info? 52 with
 |none=>rw[hq] at h;cases h
 |some i=>
  have c:i.size=6:=by simpa[hq] using h
  simp[sizeOf,typeInfo,hq,c]
open Go.Ag
variable{C:Array Value}{k:Nat}{et:TypeId}{w:World}
def azg{P:Program}{dT z ty d:TypeId}{b o e m c g:Nat}{a:Addr}{cs:List Value}(A:P.underlying dT=some (.slice d))(u:(P.info? d).map (·.size)=some k)(B:cs.length=Nat.min c e*k)(l: ∀j v,cs[j]? =some v->w.cell? (a.add j)=some v)(H:w.heap[b]? =some (.cells C et (0,0)))(F:o+cs.length<=C.size)(h1: ∀v∈cs,v.oneCell'=true):
 (DN #[dT,z] ty #[.slice (some ⟨b,o,none⟩) e m,.slice (some a) c g]).run P w= .ok (goInt (Nat.min c e)) (dU w b (.cells (kd C o cs) et (0,0))):=by
 have D:=run_loadCells_list (P:=P) w a cs l;have q:=Ku (P:=P) b o et cs 0 w C H (by simpa using F) h1;cases hq:P.info? d with
 |none=>simp[hq] at u
 |some i=>
  have E:i.size=k:=by simpa[hq] using u
  simp[DN,run_underlying A,Builtin.lenOf,Builtin.firstCells,sizeOf,typeInfo,hq,E,<-B,D,q]
def aAr{G:Gh}{b off:Nat}{cs:List aa}(B:w.heap[b]? =some (.cells C et (0,0)))(l: ∀(i:Nat) v,cs[i]? =some v->v.scal=true/\ ∃x,C[off+i]? =some x/\VR G v x):
 ∃L:List Value,L.length=cs.length/\(∀j,j<cs.length->L[j]? =C[off+j]?)/\(∀v∈L,v.oneCell'=true)/\ ∀j v,L[j]? =some v->w.cell? ⟨b,off+j,none⟩=some v:=by
 have A:cs.length<=C.size-off\/cs=[]:=by
  cases hz:cs.length with
  |zero=>exact .inr (List.length_eq_zero_iff.1 hz)
  |succ n=>
   obtain⟨_,x,u,_⟩:=l n _ (gn (by omega))
   have:=(Array.getElem?_eq_some_iff.1 u).1;exact .inl (by omega)
 have g: ∀j,((C.toList.drop off).take cs.length)[j]? =if j<cs.length then C[off+j]? else none:=fun j=>by
  rw[G6];split;rw[DS,Array.getElem?_toList];rfl
 refine⟨(C.toList.drop off).take cs.length,?_,fun j c=>by rw[g,iP c],fun v z=>?_,fun j v c=>?_⟩;have e:C.toList.length=C.size:=rfl;rw[sC,ayU,e];rcases A with h|h
 omega;subst h;simp;obtain⟨j,c⟩:=List.mem_iff_getElem?.1 z;rw[g] at c;split at c;rename_i d;obtain⟨q,x,o,m⟩:=l j _ (gn d);rw[o] at c
 have:=sI c;subst this;exact m.one q;cases c;rw[g] at c;split at c;rw[o0 B];exact c;cases c
def atq(i:Nat)(vs cs:List aa):List aa:=cs.take (i*6)++(vs++cs.drop (i*6))
variable{i:Nat}
def aAJ{n:Nat}{vs cs:List aa}(hi:i<=n)(e:cs.length=n*6)(c:vs.length=6)(j:Nat):(atq i vs cs)[j]? =if j<i*6 then cs[j]? else if j<i*6+6 then vs[j-i*6]? else cs[j-6]? :=by
 have d:(cs.take (i*6)).length=i*6:=by rw[sC];omega
 unfold atq;split;rename_i h;rw[BA (by omega),G6,iP h];rename_i h;rw[wd (by omega),d];split;rw[BA (by omega)];rw[wd (by omega),DS,c];congr 1;omega
def aB6(w:World){d c b o l q cb:Nat}{CV:Array Value}{tA m:TypeId}(g:d≠b)(j:w.heap[d]? =some (.cells CV tA (0,0)))(u:w.heap[b]? =some (.cells C m (0,0)))(z:C.size≠0):
 (callFunc 173 #[.slice (some ⟨d,c,none⟩) 1 l,.slice (some ⟨b,o,none⟩) q cb]).run ae w= .ok (.value (.bool false)) w:=by
 rw[run_callFunc_extern Tryz.func173 (by kernel_rfl) (by kernel_rfl) (by kernel_rfl) (e:=Extern.SlicesOverlaps.overlaps #[22,22] #[4]) (by kernel_rfl),
  Lib.run_overlaps_apart w 22 4 52 Tryz.underlying22 6 aB8 ⟨d,c,none⟩ ⟨b,o,none⟩ 1 l q cb g tA m CV.size C.size (by simp[World.shape?,j]) (by simp[World.shape?,u]) z (by simp[World.frozen?,j]) (by simp[World.frozen?,j])]
 rfl
theorem aB4(w:World)(x y:Go.Obj):dU (w.alloc x) w.heap.size y=w.alloc y:=by
 have e:(w.heap.push x).setIfInBounds w.heap.size y=w.heap.push y:=by
  apply Array.ext_getElem?;intro j;rw[Array.getElem?_setIfInBounds,azj,azj]
  grind
 unfold dU World.alloc;rw[e]
def aAX:yy ae 52=some ⟨6,88,true,.agg [.str [],ic 0,ic 0,ic 0,.oZ,.oZ]⟩:=by kernel_rfl
variable{c1:Nat}{Y y:Value}{x:aa}
section
variable{G:Gh}{h:aC aR}{w:World}
def aBc{m len lcap q:Nat}{X:Value}{cs vs:List aa}(wr:WR G h w)(hX:VR G (.arr 6 m 0 len lcap) X)(hY:VR G (.arr 6 k 0 1 c1) Y)(hm:h.get m=some (.cells cs))(hk:h.get k=some (.cells vs))(e6:m≠k)(hi:i<len)(hl:len<=1000000)(a8:cs.length=len*6)(A:vs.length=6)(hq:G.at_ q=none):
 Calls ae 81 #[X,.int .i64 i,Y] w fun e w'=> ∃y,e= .returned y/\ ∃G',WR G' ((h.set m none).set q (some (.cells (atq i vs cs)))) w'/\cZ G h w G' ((h.set m none).set q (some (.cells (atq i vs cs)))) w' q (q+1)/\VR G' (.arr 6 q 0 (len+1) (len+1)) y:=by
 cases hX with
 |arr b1 c0 hp f5 f7 d2 T c9=>
 rename_i a c cap dm;obtain⟨ab,ao,g6⟩:=a;simp only at c0;subst c0;rcases d2 with h0|⟨e1,e2⟩
 omega;simp only[gB] at e1 e2;subst e1;subst e2;cases hY with
 |arr b7 b6 yp f1 f3 b8 f2 g0=>
 rename_i a2 H z dv;obtain⟨vb,vo,g1⟩:=a2;simp only at b6;subst b6;rcases b8 with h0|⟨e1,e2⟩
 omega;simp only[gB] at e1 e2;subst e1;subst e2;obtain⟨g5,o,f4,C,et,Z,a7,E⟩:=wr.obj m _ hm;rw[b1] at o;injection o with o;subst o
 obtain⟨g2,l,f0,CV,ev,hV,g4,a1⟩:=wr.obj k _ hk;rw[b7] at l;injection l with l;subst l
 have e7:dm=C.size:=by rw[T] at a7;injection a7
 subst e7;have c5:H.block≠c.block:=fun e=>e6 (wr.sep m k c H (by rw[hm];simp) (by rw[hk];simp) b1 b7 e.symm);obtain⟨L,e3,b3,e4,b4⟩:=aAr Z E;obtain⟨V,N,d4,d6,d5⟩:=aAr hV a1;have M:(L.drop (i*6)).length=(len-i)*6:=by rw[ayU,e3,a8];omega
 simp only[gB] at c9;have U:=aAJ (i:=i) (n:=len) (vs:=vs) (cs:=cs) (by omega) a8 A;by_cases hfit:len+1<=cap
 ·
  have D:c.off+(i+1)*6+(L.drop (i*6)).length<=C.size:=by
   have:(len+1)*6<=cap*6:=uG _ hfit;omega
  have B:c.off+i*6+V.length<=(kd C (c.off+(i+1)*6) (L.drop (i*6))).size:=by
   have:(len+1)*6<=cap*6:=uG _ hfit;rw[awE];omega
  have c8:=jB Z;have b0:(dU w.drew c.block (.cells (kd C (c.off+(i+1)*6) (L.drop (i*6))) et (0,0))).heap[c.block]? =some (.cells (kd C (c.off+(i+1)*6) (L.drop (i*6))) et (0,0)):=by
   rw[jZ _ _ _ _ (by simpa using c8),iP rfl]
  have a9:(dU w.drew c.block (.cells (kd C (c.off+(i+1)*6) (L.drop (i*6))) et (0,0))).heap[H.block]? =some (.cells CV ev (0,0)):=by
   rw[jZ _ _ _ _ (by simpa using c8),iN c5];exact hV
  refine(aBg w c.block c.off len cap i H.block H.off z hi hfit (by omega) _ _ _ _ (fun lb cb=>aB6 w c5 hV Z (by omega))
   (fun ty dc sc=>azg (k:=6) (w:=w.drew) (cs:=L.drop (i*6)) Tryz.underlying22 ay0 (by rw[M];simp only[Nat.min_def];split<;>omega) (fun j v g=>?_) Z D fun v hv=>e4 v (ayP hv))
   fun ty dc=>azg (k:=6) (cs:=V) Tryz.underlying22 ay0 (by rw[N,A];simp only[Nat.min_def];split<;>omega) (fun j v g=>?_) b0 B d6).mono ?_
  rw[DS] at g
  have:=b4 _ _ g;rw[Addr.add_lit,wq];exact this;rw[Addr.add_lit,o0 a9,<-o0 hV];exact d5 j v g;rintro e w' ⟨rfl,rfl⟩;rw[apd];obtain⟨c1,z⟩:=(wr.of_heap (w':=w.drew) rfl).rehome (n:=q) (ad:=⟨c.block,c.off,none⟩) (C':=kd (kd C (c.off+(i+1)*6) (L.drop (i*6))) (c.off+i*6) V) (cs:=atq i vs cs) hm b1 hq Z (by simp) a7 rfl rfl (fun j u d=>by
   show _/\ ∃y,(kd (kd C (c.off+(i+1)*6) (L.drop (i*6))) (c.off+i*6) V)[c.off+j]? =some y/\_;rw[KV _ _ _ _ B,KV _ _ _ _ D,N,A,M];rw[U] at d;by_cases j1:j<i*6;rw[iP j1] at d;rw[iN (by omega),iN (by omega)];exact E j u d;rw[iN j1] at d;by_cases j2:j<i*6+6;rw[iP j2] at d;rw[iP (by omega),show c.off+j-(c.off+i*6)=j-i*6 by omega,d4 _ (by omega)];exact a1 _ u d;rw[iN j2] at d;have j3:j-6<cs.length:=by
    rcases nZ (j-6) cs.length with h|h
    exact h;rw[DT h] at d;cases d
   rw[iN (by omega),iP (by omega),DS,show i*6+(c.off+j-(c.off+(i+1)*6))=j-6 by omega,b3 _ j3];exact E _ u d)
  refine⟨_,rfl,_,c1,⟨z.le,z.size,z.keepW,z.owns,z.names,z.cells,qv.trans (⟨rfl,rfl,br _,fun _ _=>rfl,rfl,Nat.le_succ _⟩:qv w w.drew) z.quiet,z.ownsW⟩,?_⟩;exact .arr (b:=⟨c.block,c.off,none⟩) (by simp[Gh.name]) rfl hp (br _) hfit (.inr ⟨rfl,by simp⟩) (show G.dim c.block=some C.size from T) (by simpa using c9)
 ·
  have e8:cap=len:=by omega
  obtain⟨_,_,_,_,_,ti,zv,_,d0,e5,_,a0,J⟩:=yA aAX;have J:ti.bytes=88:=J;have a0:zv.cells.size=6:=a0;have a4:ti.size=6:=by have:=ay0;rw[d0] at this;simpa using this
  obtain⟨K,hK⟩: ∃K,K=len+1-i:=⟨_,rfl⟩;have b5:i+K=len+1:=by omega
  have I:jc (i+K) 88=true:=by unfold jc;exact cP (by omega)
  have a3:(L.take (i*6)).length=i*ti.size:=by rw[sC,e3,a8,a4];omega
  have c4:=run_firstCells_some (P:=ae) w.drew ti.size i ⟨c.block,c.off,none⟩ i cap (L.take (i*6)) a3 (fun j v g=>by
   rw[G6] at g;split at g;rw[Addr.add_lit];exact b4 j v g;cases g)
  have b2:=fun ty=>run_append_grow_zeros w 22 3 ty 52 ti zv .i64 .i64 Tryz.underlying22 Tryz.underlying3 d0 e5 (some ⟨c.block,c.off,none⟩) i cap (L.take (i*6)) c4 K (by omega) (by omega) (by omega) (by omega) (by rw[J];omega) (by
   have:=apV I (cap:=cap) (by omega);rw[J];simpa using this)
  obtain⟨F,a6⟩: ∃F,F=grownCap w (i+K) cap 52:=⟨_,rfl⟩;have a5:len+1<=F:=by rw[a6,<-b5];simp only[grownCap,Question.cut];omega
  obtain⟨R0,O⟩: ∃R0,R0=(L.take (i*6)).toArray++ay4 zv.cells K++ay4 zv.cells (F-(i+K)):=⟨_,rfl⟩;have d7:R0.size=F*6:=by
   have f6:i+K<=F:=by omega
   rw[O,Array.size_append,Array.size_append,size_zeroCells,size_zeroCells,a0,ay8,a3,a4,<-Nat.add_mul,<-Nat.add_mul,show i+K+(F-(i+K))=F by omega]
  have e0: ∀j,j<i*6->R0[j]? =L[j]? :=fun j g=>by
   have h1:j<(L.take (i*6)).toArray.size:=by rw[ay8,a3,a4];exact g
   rw[O,Array.append_assoc,Array.getElem?_append_left h1,List.getElem?_toArray,G6,iP g]
  rw[b5] at a6 O;simp only[b5,<-a6,<-O] at b2;have eK:((K:Nat):Int)=(len:Int)+1-(i:Int):=by omega
  rw[eK] at b2;have g3:(len+1)*6<=F*6:=uG _ a5;have d1:(w.drew.alloc (.cells R0 52)).heap[w.heap.size]? =some (.cells R0 52 (0,0)):=by rw[pJ];exact iP rfl
  have D:i*6+V.length<=R0.size:=by omega
  have B:(i+1)*6+(L.drop (i*6)).length<=(kd R0 (i*6) V).size:=by rw[awE];omega
  have c7:=jB Z;have c6:=jB hV;have a9:(w.drew.alloc (.cells R0 52)).heap[H.block]? =some (.cells CV ev (0,0)):=by
   rw[pJ,iN (show H.block≠w.drew.heap.size from Nat.ne_of_lt c6)];exact hV
  have S:w.heap.size<(w.drew.alloc (.cells R0 52)).heap.size:=jB d1;have b0:(dU (w.drew.alloc (.cells R0 52)) w.heap.size (.cells (kd R0 (i*6) V) 52 (0,0))).drew.heap[w.heap.size]? =some (.cells (kd R0 (i*6) V) 52 (0,0)):=by
   show(dU (w.drew.alloc (.cells R0 52)) w.heap.size _).heap[w.heap.size]? =_;rw[jZ _ _ _ _ S,iP rfl]
  have e9:(dU (w.drew.alloc (.cells R0 52)) w.heap.size (.cells (kd R0 (i*6) V) 52 (0,0))).drew.heap[c.block]? =some (.cells C et (0,0)):=by
   show(dU (w.drew.alloc (.cells R0 52)) w.heap.size _).heap[c.block]? =_;rw[jZ _ _ _ _ S,iN (by omega)];rw[pJ,iN (show c.block≠w.drew.heap.size from Nat.ne_of_lt c7)];exact Z
  refine(aBe w c.block c.off len cap i H.block H.off z w.heap.size F hi e8 (by omega) a5 _ _ _ _ _ b2
   (fun ty dc=>azg (k:=6) (cs:=V) Tryz.underlying22 ay0 (by rw[N,A];simp only[Nat.min_def];split<;>omega) (fun j v g=>?_) d1 D d6)
   fun ty dc sc=>azg (k:=6) (cs:=L.drop (i*6)) Tryz.underlying22 ay0 (by rw[M];simp only[Nat.min_def];split<;>omega) (fun j v g=>?_) b0 B fun v hv=>e4 v (ayP hv)).mono ?_
  rw[Addr.add_lit,o0 a9,<-o0 hV];exact d5 j v g;rw[DS] at g
  have:=b4 _ _ g;rw[Addr.add_lit,wq,o0 e9,<-o0 Z];exact this;rintro e w' ⟨rfl,rfl⟩;have ew:dU (dU (w.drew.alloc (.cells R0 52)) w.heap.size (.cells (kd R0 (i*6) V) 52 (0,0))).drew w.heap.size (.cells (kd (kd R0 (i*6) V) ((i+1)*6) (L.drop (i*6))) 52 (0,0))=w.drew.drew.alloc (.cells (kd (kd R0 (i*6) V) ((i+1)*6) (L.drop (i*6))) 52 (0,0)):=by
   show dU (dU (w.drew.drew.alloc _) w.drew.drew.heap.size _) w.drew.drew.heap.size _=_;rw[apd,aB4]
  rw[ew];obtain⟨c1,z⟩:=((wr.killed m).of_heap (w':=w.drew.drew) rfl).boxed hq (kd (kd R0 (i*6) V) ((i+1)*6) (L.drop (i*6))) 52 (atq i vs cs) (fun j u d=>by
   rw[KV _ _ _ _ B,KV _ _ _ _ D,N,A,M];rw[U] at d;by_cases j1:j<i*6;rw[iP j1] at d;rw[iN (by omega),iN (by omega),e0 j j1,b3 _ (by omega)];exact E j u d;rw[iN j1] at d;by_cases j2:j<i*6+6;rw[iP j2] at d;rw[iN (by omega),iP (by omega),d4 _ (by omega)];exact a1 _ u d;rw[iN j2] at d;have j3:j-6<cs.length:=by
    rcases nZ (j-6) cs.length with h|h
    exact h;rw[DT h] at d;cases d
   rw[iP (by omega),DS,show i*6+(j-(i+1)*6)=j-6 by omega,b3 _ j3];exact E _ u d)
  have c3:=cZ.after_kill (w:=w.drew.drew) z;refine⟨_,rfl,_,c1,⟨c3.le,c3.size,c3.keepW,c3.owns,c3.names,c3.cells,qv.trans (⟨rfl,rfl,br _,fun _ _=>rfl,rfl,by show w.drawn<=w.drawn+1+1;omega⟩:qv w w.drew.drew) c3.quiet,c3.ownsW⟩,?_⟩;exact .arr (Gh.boxed_at G w.drew.drew q _) rfl hp (br _) a5 (.inr ⟨rfl,rfl⟩) (Gh.boxed_dim G w.drew.drew q _) (by simp[d7])
def azh:lV ae 22=some ⟨6,88,true,.agg [.str [],ic 0,ic 0,ic 0,.oZ,.oZ]⟩:=by kernel_rfl
def azT{s:St}{vs:List aa}(e:s.heap.get k=some (.cells vs))(c:vs.length=6):eE [] true 6 (.arr 6 k 0 1 c1) s=some [.agg vs]:=by
 have d:vs.take 6=vs:=re (by omega);have g:vs.drop 6=[]:=List.drop_of_length_le (by omega);simp[eE,St.get,eh,e,cut,bf,d,g,c]
def az2{q n:Nat}{X:Value}{s':St}(wr:WR G h w)(hX:VR G x X)(F:X= .slice none 0 0/\n=0\/ ∃a d,X= .slice (some a) n d/\n<=d)(O:VR G (.arr 6 k 0 1 c1) Y)(hn:n<=1000000)(he:fF ae [] 22 x (.arr 6 k 0 1 c1) true ⟨h,q,0,0⟩=some (.arr 6 q 0 (n+1) (n+1),s'))(D:s'.aL=q+1)(hq:G.at_ q=none):
 Calls ae 81 #[X,.int .i64 n,Y] w fun e l=> ∃y,e= .returned y/\ ∃g,WR g s'.heap l/\cZ G h w g s'.heap l q (q+1)/\VR g (.arr 6 q 0 (n+1) (n+1)) y:=by
 obtain⟨Z,l,g,N,A,z,H⟩:=aqe (P:=ae) (t2:=22) (ty:=22) (G:=G) (w:=w) he (by kernel_rfl) hX O wr (fun j S h2=>by
  have S:q<=j:=S;have:j=q:=by omega
  subst this;exact hq)
 have hZ: ∃a c,Z= .slice (some a) (n+1) c:=by cases H;exact⟨_,_,rfl⟩
 obtain⟨U,T,rfl⟩:=hZ;have z:cZ G h w g s'.heap l q (q+1):=by rw[<-D];exact z
 have E: ∃o m B,Y= .slice (some ⟨o,m,none⟩) 1 B:=by
  cases O with
  |arr a0 u yp I K M J V=>
   rename_i a2 vd z dv;obtain⟨o,m,a1⟩:=a2;simp only at u;subst u;exact⟨o,m,_,rfl⟩
 obtain⟨o,m,B,rfl⟩:=E;rcases F with⟨rfl,rfl⟩|⟨a,d,rfl,hc⟩
 refine(aBf w o m B T U l N).mono ?_;rintro e w2 ⟨rfl,rfl⟩;exact⟨_,rfl,g,A,z,H⟩;refine(aBd w a n d o m B T U hc (by omega) l N).mono ?_;rintro e w2 ⟨rfl,rfl⟩;exact⟨_,rfl,g,A,z,H⟩
def WR.ext'{c:aC aR}(x:WR G h w)(e: ∀n o,c.get n=some o->h.get n=some o):WR G c w where
 obj n o ho:=x.obj n o (e n o ho)
 sep n m a b hn hm:=by
  obtain⟨o,ho⟩:=azJ.1 hn;obtain⟨p,hp⟩:=azJ.1 hm;exact x.sep n m a b (by rw[e n o ho];simp) (by rw[e m p hp];simp)
 ro:=x.ro
 apart n ob a i v ho:=x.apart n ob a i v (e n ob ho)
 dim:=x.dim
 below:=x.below
def cZ.ext'{m:Gh}{h1 c:aC aR}{w':World}{lo hi:Nat}(x:cZ G h w m h1 w' lo hi)(e: ∀n o,c.get n=some o->h1.get n=some o):cZ G h w m c w' lo hi:=
 ⟨x.le,x.size,x.keepW,fun b g ⟨n,a,q,l,j⟩=>by
  obtain⟨o,d⟩:=azJ.1 q;exact x.owns b g ⟨n,a,by rw[e n o d];simp,l,j⟩,x.names,x.cells,x.quiet,fun b g ⟨n,a,o,d,c,l,j⟩=>x.ownsW b g ⟨n,a,o,e n o d,c,l,j⟩⟩
def ayR(i len:Nat)(cs:List aa):aR->Rd
 | .cells vs=>.ret (bif Nat.beq cs.length (len*6)&&Nat.beq vs.length 6 then some (.tup [.arr 6 0 0 (len+1) 0,.agg (atq i vs cs)]) else none)
 |_=>.ret none
def ayh:List aa->Option pH
 | [.arr 6 m 0 len _,.int .i64 (.ofNat i),.arr 6 k 0 1 _]=>bif !(Nat.beq m k)&&(Nat.ble i len&&Nat.ble len 1000000) then some (some (m,fun cs=>.ask k (ayR i len cs))) else none
 | [.oZ,.int .i64 (.ofNat 0),.arr 6 k 0 1 _]=>some (some (k,fun vs=>ayR 0 0 [] (.cells vs)))
 | [.list 6 [] .uP,.int .i64 (.ofNat 0),.arr 6 k 0 1 _]=>some (some (k,fun vs=>ayR 0 0 [] (.cells vs)))
 |_=>none
def azb{len:Nat}{cs:List aa}{o:aR}{g:Nat->Option aR}{v:aa}(e:gm g (ayR i len cs o)=some v): ∃vs,o= .cells vs/\cs.length=len*6/\vs.length=6/\v= .tup [.arr 6 0 0 (len+1) 0,.agg (atq i vs cs)]:=by
 cases o<;>first|(cases e;done)|skip
 rename_i vs;obtain⟨c,e⟩:=bh e;simp only[bu] at c;exact⟨vs,rfl,jP c.1,jP c.2,(sI e).symm⟩
theorem az3{X:Value}{q:Nat}{vs:List aa}(wr:WR G h w)(A:VR G x X)(l:X= .slice none 0 0/\0=0\/ ∃a c,X= .slice (some a) 0 c/\0<=c)(E:VR G (.arr 6 k 0 1 c1) Y)(u:h.get k=some (.cells vs))(j:vs.length=6)(m:G.at_ q=none)(D: ∀s,jG [] ⟨6,88,true,.agg [.str [],ic 0,ic 0,ic 0,.oZ,.oZ]⟩ x [.agg vs] true s=some (.arr 6 s.aL 0 1 1,s.new (.cells vs))):
 Calls ae 81 #[X,.int .i64 (0:Nat),Y] w fun e g=> ∃y,e= .returned y/\ ∃d,WR d ((h.set k none).set q (some (.cells (atq 0 vs [])))) g/\cZ G h w d ((h.set k none).set q (some (.cells (atq 0 vs [])))) g q (q+1)/\VR d (.arr 6 q 0 1 1) y:=by
 have I:atq 0 vs []=vs:=by simp[atq]
 have B:k≠q:=fun e=>by
  obtain⟨a,z,_⟩:=wr.obj k _ u;rw[e,m] at z;cases z
 have e: ∀n o,((h.set k none).set q (some (.cells vs))).get n=some o->(h.set q (some (.cells vs))).get n=some o:=fun n o J=>by grind [aC.get_set]
 rw[I];refine(az2 (n:=0) (s':=(⟨h,q,0,0⟩:St).new (.cells vs)) wr A l E (by omega) (by simp only[fF,azh,Option.bind_some,azT (s:=⟨h,q,0,0⟩) u j,D]) rfl m).mono ?_;rintro r g ⟨y,rfl,d,h1,H,F⟩;exact⟨y,rfl,d,WR.ext' (h:=h.set q (some (.cells vs))) h1 e,cZ.ext' (h1:=h.set q (some (.cells vs))) H e,F⟩
def aAE{sz m off n lc:Nat}(p:VR G (.arr sz m off n lc) y): ∃a c,y= .slice (some a) n c/\n<=c:=by
 cases p;exact⟨_,_,rfl,by omega⟩
def aBQ{sz:Nat}{l:List aa}{r:oW}(p:VR G (.list sz l r) y): ∃a c,y= .slice (some a) l.length c/\l.length<=c:=by
 cases p;exact⟨_,_,rfl,by omega⟩
def aBb(args:List aa)(xs:List Value)(wr:WR G h w)(d:ck G args xs)(n:Nat)(g:List aa->Rd)(cs cs':List aa)(sz a b len c q:Nat)(j:ayh args=some (some (n,g)))(P:h.get n=some (.cells cs))(I:gm h.get (g cs)=some (.tup [.arr sz a b len c,.agg cs']))(O:G.at_ q=none):
 mM ae 81 ⟨xs⟩ w fun y Z=> ∃V,WR V ((h.set n none).set q (some (.cells cs'))) Z/\cZ G h w V ((h.set n none).set q (some (.cells cs'))) Z q (q+1)/\VR V (.arr sz q 0 len len) y:=by
 refine .inr ⟨Go.Proofs.enters_of Tryz.func81 (by kernel_rfl) rfl _ _,?_⟩;unfold ayh at j;split at j
 ·rename_i m l lc i k c1
  obtain⟨M,j⟩:=bh j;simp only[bu,Bool.not_eq_true'] at M;obtain⟨M,h2,S⟩:=M;have h2:=fW h2;have S:=fW S;have T:m≠k:=fun e=>by rw[e] at M;simp at M
  injection j with j;injection j with j;injection j with A D
  subst A;subst D;simp only[gm,Option.bind_eq_some_iff] at I;obtain⟨o,hk,I⟩:=I;obtain⟨vs,rfl,K,z,e⟩:=azb I;injection e with e;injection e with e u;injection u with u;injection u with u;injection e with A D e3 N e5
  subst A;subst N;subst u;cases d with
  |cons B d=>
  cases d with
  |cons J d=>
  cases d with
  |cons H d=>
  cases d;cases J;rcases nZ i l with hi|hi
  exact aBc wr B H P hk T hi S K z O;have U:i=l:=by omega
  subst U;have ec:atq i vs cs=cs++vs:=by
   unfold atq;rw[re (by omega),List.drop_of_length_le (by omega),List.append_nil]
  have E:=aAE B;rw[ec];exact az2 (s':=((⟨h,q,0,0⟩:St).put m none).new (.cells (cs++vs))) wr B (.inr E) H S (by
   have hr:jc (i+1) 88=true:=by unfold jc;exact cP (by omega)
   simp[fF,azh,azT (s:=⟨h,q,0,0⟩) hk z,jG,St.get,eh,P,hr,K,aF,ayl,St.put]) rfl O
 ·rename_i k c1
  injection j with j;injection j with j;injection j with A D
  subst A;subst D;obtain⟨vs,F,_,z,e⟩:=azb I;injection F with F;subst F
  injection e with e;injection e with e u;injection u with u;injection u with u;injection e with A D e3 N e5
  subst A;subst N;subst u;cases d with
  |cons B d=>
  cases d with
  |cons J d=>
  cases d with
  |cons H d=>
  cases d;cases J;cases B;exact az3 wr .oZ (.inl ⟨rfl,rfl⟩) H P z O fun s=>by simp[jG,kL,jc,aF,ayl];rfl
 ·rename_i k c1
  injection j with j;injection j with j;injection j with A D
  subst A;subst D;obtain⟨vs,F,_,z,e⟩:=azb I;injection F with F;subst F
  injection e with e;injection e with e u;injection u with u;injection u with u;injection e with A D e3 N e5
  subst A;subst N;subst u;cases d with
  |cons B d=>
  cases d with
  |cons J d=>
  cases d with
  |cons H d=>
  cases d;cases J;have E:=aBQ B;exact az3 wr B (.inr E) H P z O fun s=>by simp[jG,kL,jc,aF,ayl];rfl
 cases j
end
end Go.Proofs.YtnnppcoplinajaaGreat
namespace Go.Proofs.YtnnppcoplinajaaGreat
open Go.Ag
abbrev Pt:=Int×Int
abbrev bT:=Pt×Pt
def gF(a b c:Pt):Int:=(b.1-a.1)*(c.2-a.2)-(b.2-a.2)*(c.1-a.1)
def du(a b c:Pt):Int:=jx (gF a b c) 0
def gY(s:bT):bT:=bif bc 0 (gg s.1 s.2) then(s.2,s.1) else s
def sa(s:bT)(p:Pt):Bool:=an (du (gY s).1 (gY s).2 p) 0&&(cr (gg (gY s).1 p) 0&&(cr (gg p (gY s).2) 0&&(!gh (gY s).1 (gY s).2||gh p (gY s).1)))
def rP(s t:bT):Pt:=bif bc 0 (gg t.1 s.1) then t.1 else s.1
def rK(s t:bT):Pt:=bif bc (gg t.2 s.2) 0 then t.2 else s.2
def xu(s t:bT):Int:=bif gh s.1 s.2 then bif sa t s.1 then bif gh s.1 t.1||gh s.1 t.2 then 1 else 2 else 0
 else bif an (gg (rP s t) (rK s t)) (-1) then 5 else bif an (gg (rP s t) (rK s t)) 0 then 1 else 0
def vt(s t:bT):Int:=bif gh t.1 t.2 then xu t s else xu s t
def sm(s t:bT):Bool:=gh s.1 t.1&&gh s.2 t.2
def qC(s t:bT):Int:=
 bif bc 0 (du s.1 s.2 t.1*du s.1 s.2 t.2)||bc 0 (du t.1 t.2 s.1*du t.1 t.2 s.2) then 0
 else bif bc (du s.1 s.2 t.1*du s.1 s.2 t.2) 0&&bc (du t.1 t.2 s.1*du t.1 t.2 s.2) 0 then 3
 else bif an (du s.1 s.2 t.1*du s.1 s.2 t.2) 0&&an (du t.1 t.2 s.1*du t.1 t.2 s.2) 0 then 1 else 2
def lF(s t:bT):Bool:=gh s.1 s.2||gh t.1 t.2||(an (du s.1 s.2 t.1) 0&&an (du s.1 s.2 t.2) 0)
def qN(s t:bT):Int:=bif sm s t then 4 else bif lF s t then vt s t else qC s t
def ld(s t:bT):Int:=qN (gY s) (gY t)
def ij(a b:Pt):Prop:=a.1<b.1\/(a.1=b.1/\a.2<=b.2)
theorem wL(a b:Pt):(gg a b= -1/\ij a b/\a≠b)\/(gg a b=0/\a=b)\/(gg a b=1/\ij b a/\a≠b):=by
 grind [gg,u9,jx,bc,an,ij]
variable{a b:Pt}
theorem tZ:gh a b=true↔a=b:=by
 grind [gh,an]
def Xh(a b:Pt):ij a b\/ij b a:=by
 simp only[ij];omega
theorem Jz(h:ij a b)(k:ij b a):a=b:=by
 grind [ij]
def aax(s:bT):ij (gY s).1 (gY s).2:=by
 unfold gY;rcases wL s.1 s.2 with⟨h,k,_⟩|⟨h,k⟩|⟨h,k,_⟩<;>rw[h]
 exact k;show ij s.1 s.2;rw[k];simp[ij];exact k
theorem Qj(s:bT):(gY s=s)\/(gY s=(s.2,s.1)):=by
 grind [gY]
theorem ahi:cr (gg a b) 0=true↔ij a b:=by
 grind [wL,cr,ij]
theorem B5(a:Int):(jx a 0= -1/\a<0)\/(jx a 0=0/\a=0)\/(jx a 0=1/\0<a):=by
 grind [jx,bc]
def boxes(s t:bT):Prop:=(min s.1.1 s.2.1<=max t.1.1 t.2.1/\min t.1.1 t.2.1<=max s.1.1 s.2.1)/\(min s.1.2 s.2.2<=max t.1.2 t.2.2/\min t.1.2 t.2.2<=max s.1.2 s.2.2)
theorem uX{D p q c d a b:Int}(A:0<D)(l:0<=p)(j:p<=D)(g:0<=q)(e:q<=D)(h:D*c+p*(d-c)=D*a+q*(b-a)):min c d<=max a b:=by
 by_cases hc:min c d<=max a b;exact hc;exfalso;have z:max a b+1<=c:=by omega
 have u:max a b+1<=d:=by omega
 have o:a<=max a b:=by omega
 have m:b<=max a b:=by omega
 generalize max a b=M at*;have H:=K7 z (show 0<=D-p by omega);have F:=K7 u l;have E:=K7 o (show 0<=D-q by omega);have B:=K7 m g
 grind
variable{p:Pt}
theorem Nh(h1:ij a p)(l:ij p b)(h:gF a b p=0):(a.1<=p.1/\p.1<=b.1)/\(min a.2 b.2<=p.2/\p.2<=max a.2 b.2):=by
 have d:a.1<=p.1/\p.1<=b.1:=by
  simp only[ij] at*;omega
 refine⟨d,?_⟩;by_cases e:a.1=b.1;simp only[ij] at*;omega;have c:(b.1-a.1)*p.2+0*(p.2-p.2)=(b.1-a.1)*a.2+(p.1-a.1)*(b.2-a.2):=by
  simp only[gF] at h;grind
 have j:=uX (show 0<b.1-a.1 by omega) (Int.le_refl 0) (by omega) (by omega) (by omega) c;have g:=uX (show 0<b.1-a.1 by omega) (show 0<=p.1-a.1 by omega) (by omega) (Int.le_refl 0) (by omega) c.symm;omega
theorem Mr{c d:Pt}(m:a≠b)(h1:gF a b c=0)(B:gF a b d=0):gF c d a=0/\gF c d b=0:=by
 obtain⟨e,g⟩:=a;obtain⟨j,z⟩:=b;obtain⟨c1,u⟩:=c;obtain⟨q,o⟩:=d;simp only[gF,ne_eq,bI] at*;by_cases hx:j-e=0;have A:z-g≠0:=by omega
 grind [Int.mul_eq_zero]
 have l:(j-e)*((c1-e)*(o-g)-(u-g)*(q-e))=0:=by grind
 grind [Int.mul_eq_zero]
theorem aeB{c d:Pt}(P: ¬(gF a b c=0/\gF a b d=0))(h1: ¬0<du a b c*du a b d)(D: ¬0<du c d a*du c d b):boxes (a,b) (c,d):=by
 obtain⟨j,g⟩:=a;obtain⟨o,m⟩:=b;obtain⟨c1,l⟩:=c;obtain⟨u,q⟩:=d;have N:gF (j,g) (o,m) (u,q)-gF (j,g) (o,m) (c1,l)=gF (c1,l) (u,q) (j,g)-gF (c1,l) (u,q) (o,m):=by
  simp only[gF];grind
 have I:(gF (j,g) (o,m) (u,q)-gF (j,g) (o,m) (c1,l))*c1+(-gF (j,g) (o,m) (c1,l))*(u-c1)=(gF (j,g) (o,m) (u,q)-gF (j,g) (o,m) (c1,l))*j+gF (c1,l) (u,q) (j,g)*(o-j):=by
  simp only[gF];grind
 have H:(gF (j,g) (o,m) (u,q)-gF (j,g) (o,m) (c1,l))*l+(-gF (j,g) (o,m) (c1,l))*(q-l)=(gF (j,g) (o,m) (u,q)-gF (j,g) (o,m) (c1,l))*g+gF (c1,l) (u,q) (j,g)*(m-g):=by
  simp only[gF];grind
 simp only[du] at h1 D;generalize gF (j,g) (o,m) (c1,l)=m1 at*;generalize gF (j,g) (o,m) (u,q)=m2 at*;generalize gF (c1,l) (u,q) (j,g)=l1 at*;generalize gF (c1,l) (u,q) (o,m)=l2 at*;have M:(m1<=0/\0<=m2)\/(m2<=0/\0<=m1):=by
  rcases B5 m1 with⟨e,k⟩|⟨e,k⟩|⟨e,k⟩<;>rcases B5 m2 with⟨z,A⟩|⟨z,A⟩|⟨z,A⟩<;>rw[e,z] at h1<;>first|omega|(exfalso;exact h1 (by decide))
 have K:(l1<=0/\0<=l2)\/(l2<=0/\0<=l1):=by
  rcases B5 l1 with⟨e,k⟩|⟨e,k⟩|⟨e,k⟩<;>rcases B5 l2 with⟨z,A⟩|⟨z,A⟩|⟨z,A⟩<;>rw[e,z] at D<;>first|omega|(exfalso;exact D (by decide))
 have J:m2-m1≠0:=by omega
 rcases Int.lt_or_gt_of_ne J with O|B
 have F:(-(m2-m1))*c1+m1*(u-c1)=(-(m2-m1))*j+(-l1)*(o-j):=by grind
 have E:(-(m2-m1))*l+m1*(q-l)=(-(m2-m1))*g+(-l1)*(m-g):=by grind
 exact⟨⟨uX (by omega) (by omega) (by omega) (by omega) (by omega) F.symm,uX (by omega) (by omega) (by omega) (by omega) (by omega) F⟩,uX (by omega) (by omega) (by omega) (by omega) (by omega) E.symm,uX (by omega) (by omega) (by omega) (by omega) (by omega) E⟩;exact⟨⟨uX B (by omega) (by omega) (by omega) (by omega) I.symm,uX B (by omega) (by omega) (by omega) (by omega) I⟩,uX B (by omega) (by omega) (by omega) (by omega) H.symm,uX B (by omega) (by omega) (by omega) (by omega) H⟩
theorem F9{c:Pt}:an (du a b c) 0=true↔gF a b c=0:=by
 grind [du,B5,an]
variable{s t:bT}
theorem L2(h:boxes s t):boxes t s:=⟨h.1.symm,h.2.symm⟩
def PH(h:(s.1.1<=p.1/\p.1<=s.2.1)/\(min s.1.2 s.2.2<=p.2/\p.2<=max s.1.2 s.2.2))(c:p=t.1):boxes s t:=by
 subst c;simp only[boxes];omega
def anQ(c:ij s.1 s.2)(h:sa s p=true):(s.1.1<=p.1/\p.1<=s.2.1)/\(min s.1.2 s.2.2<=p.2/\p.2<=max s.1.2 s.2.2):=by
 have e:gY s=s:=by
  unfold gY;rcases wL s.1 s.2 with⟨h,_⟩|⟨h,_⟩|⟨h,k,n⟩<;>rw[h]
  rfl;rfl;exact absurd (Jz c k) n
 simp only[sa,e,bu,F9,ahi] at h;exact Nh h.2.1 h.2.2.1 h.1
def amn(B:ij s.1 s.2)(A:ij t.1 t.2)(h:ij (rP s t) (rK s t)):(ij s.1 t.1/\ij t.1 s.2)\/(ij t.1 s.1/\ij s.1 t.2):=by
 obtain⟨⟨z,u⟩,q,o⟩:=s;obtain⟨⟨c1,m⟩,l,j⟩:=t;simp only[rP,rK] at h;rcases wL (c1,m) (z,u) with⟨d,g,_⟩|⟨d,g⟩|⟨d,g,_⟩<;>rcases wL (l,j) (q,o) with⟨c,e,_⟩|⟨c,e⟩|⟨c,e,_⟩<;>rw[d,c] at h<;>
  simp only[bc,ij,bI] at* <;>simp at h<;>omega
theorem amz(l:ij s.1 s.2)(c:ij t.1 t.2)(h:qN s t≠0):boxes s t:=by
 unfold qN at h;cases h1:sm s t with
 |true=>
  grind [sm,tZ,boxes]
 |false=>
  rw[h1] at h;simp only[cF] at h;have q: ∀ {s t:bT},ij s.1 s.2->ij t.1 t.2->gh s.1 s.2=true->xu s t≠0->boxes s t:=by
   intro s t l c d h;unfold xu at h;rw[d] at h;cases ho:sa t s.1 with
   |false=>rw[ho] at h;exact absurd rfl h
   |true=>exact L2 (PH (anQ c ho) rfl)
  cases h2:lF s t with
  |true=>
   rw[h2] at h;simp only[cT,vt] at h;cases d:gh t.1 t.2 with
   |true=>
    grind [L2]
   |false=>
    rw[d] at h;simp only[cF] at h;cases hd2:gh s.1 s.2 with
    |true=>exact q l c hd2 h
    |false=>
     unfold xu at h;rw[hd2] at h;simp only[lF,d,hd2,Bool.false_or,bu,F9] at h2;have m:s.1≠s.2:=fun e=>by rw[tZ.2 e] at hd2;cases hd2
     have u:=Mr m h2.1 h2.2;have o:ij (rP s t) (rK s t):=by
      rcases wL (rP s t) (rK s t) with⟨e,k,_⟩|⟨e,k⟩|⟨e,k,_⟩
      exact k;rw[k];simp[ij];rw[e] at h;exact absurd rfl h
     rcases amn l c o with⟨j,g⟩|⟨j,g⟩
     exact PH (Nh j g h2.1) rfl;exact L2 (PH (Nh j g u.1) rfl)
  |false=>
   grind [lF,qC,bc,aeB,F9]
theorem amD(h:ld s t≠0):boxes s t:=by
 have c:=amz (aax s) (aax t) h
 grind [Qj,boxes]
theorem yu(h:ij a b)(n:a≠b):gg a b= -1/\gg b a=1:=by
 grind [wL,Jz]
theorem amm:rP s t=rP t s:=by
 unfold rP;by_cases h:s.1=t.1;rw[h];rcases Xh s.1 t.1 with k|k
 rw[(yu k h).1,(yu k h).2];rfl;rw[(yu k (Ne.symm h)).1,(yu k (Ne.symm h)).2];rfl
theorem agO:rK s t=rK t s:=by
 unfold rK;by_cases h:s.2=t.2;rw[h];rcases Xh s.2 t.2 with k|k
 rw[(yu k h).1,(yu k h).2];rfl;rw[(yu k (Ne.symm h)).1,(yu k (Ne.symm h)).2];rfl
theorem Yy(h:s.1=s.2)(c:p≠s.1):sa s p=false:=by
 grind [gY,tZ,sa]
theorem anM(h1:gh s.1 s.2=false)(c:gh t.1 t.2=false):lF s t=lF t s:=by
 grind [tZ,lF,F9,Mr]
theorem amA(s t:bT):qN s t=qN t s:=by
 grind [qN,sm,lF,vt,tZ,xu,Yy,anM,amm,agO,qC]
def amy(s t:bT):ld s t=ld t s:=amA _ _
theorem Pg: ∀(l:List Obj) (last:ag),nP last l=true-> ∀q∈l,mD q.gT=true
 | [],_,_,q,h=>by cases h
 |o::r,last,h,q,d=>by
  simp only[nP] at h;cases hb: !gH o||Ag.leBytes o.id last with
  |true=>rw[hb] at h;cases h
  |false=>
   rw[hb] at h;rcases fc.1 d with rfl|d
   have c:gH q=true:=by
    cases c:gH q with
    |true=>rfl
    |false=>rw[c] at hb;cases hb
   unfold gH at c;cases hh:oo q with
   |true=>rw[hh] at c;cases c
   |false=>
    unfold oo at hh;simp only[v9,azk] at hh;exact hh.1.1.2
   exact Pg r o.id h q d
variable{a b:ag}
def not_le(h:fN a b=true):Ag.leBytes b a=false:=by
 rw[OG] at h;simpa using h
def anz{q:Obj}:gH q=true↔oo q=false/\pK q.nR [] [] q.gE=false/\(bif an q.nR 1 then(q.gE.length==0)&&qS q.x q.y else bif an q.nR 5 then(q.gE.length==3)&&DK q else DK q)=true:=by
 unfold gH;cases oo q with
 |true=>simp
 |false=>cases pK q.nR [] [] q.gE<;>simp
def JP: ∀(l:List Obj) (last:ag),nP last l=true-> ∀q∈l,gH q=true
 | [],_,_,q,h=>by cases h
 |o::r,last,h,q,c=>by
  simp only[nP] at h;cases hb:(!gH o||Ag.leBytes o.id last) with
  |true=>rw[hb] at h;cases h
  |false=>
   rw[hb] at h;rcases fc.1 c with rfl|c
   simp only[v9,azk] at hb;exact hb.1;exact JP r o.id h q c
def Yn: ∀(l:List Obj) (last:ag),(∀q∈l,gH q=true)->(∀k∈l.map (·.id),fN last k=true)->(l.map (·.id)).Pairwise (fun a b=>fN a b=true)->nP last l=true
 | [],_,_,_,_=>rfl
 |o::r,last,h,h1,h2=>by
  rw[List.map_cons,List.pairwise_cons] at h2;have d:(!gH o||Ag.leBytes o.id last)=false:=by
   rw[h o (by simp),not_le (h1 o.id (by simp))];rfl
  simp only[nP,d,cF];exact Yn r o.id (fun q c=>h q (by simp[c])) h2.1 h2.2
theorem B6: ∀(a b:ag),dz a b<0↔fN a b=true
 | [],[]=>by simp[dz,Go.Proofs.bytesLess_eq]
 | [],y::b=>by rw[Go.Proofs.bytesLess_eq,dE];simp[dz]
 |x::a,[]=>by rw[Go.Proofs.bytesLess_eq,dE];simp[dz]
 |x::a,y::b=>by
  have c:=B6 a b
  grind [Go.Proofs.bytesLess_eq,List.cons_lt_cons_iff,UInt8.lt_iff_toNat_lt,UInt8.toNat_inj,dz,jC]
theorem alG(h:fN a b=true):fN b a=false:=by
 grind [Go.Proofs.bytesLess_eq]
theorem ad7(a b:ag):gu b a= -gu a b:=by
 grind [gu,alG]
theorem Tz(h:gu a b=0):a=b:=by
 grind [gu,Go.Proofs.bytesLess_eq]
theorem ahh(a:Int):an (-a) 0=an a 0:=by
 grind [oq]
theorem B8: ∀a b:List ag,fH b a= -fH a b
 | [],[]=>rfl
 | [],_::_=>rfl
 |_::_,[]=>rfl
 |a::x,b::y=>by
  simp only[fH,ad7 a b,ahh,B8 x y];cases an (gu a b) 0<;>rfl
theorem Mo: ∀ {a b:List ag},fH a b=0->a=b
 | [],[],_=>rfl
 | [],_::_,h=>by simp[fH] at h
 |_::_,[],h=>by simp[fH] at h
 |a::x,b::y,h=>by
  simp only[fH] at h;by_cases hz:gu a b=0;rw[hz] at h;rw[Tz hz,Mo (a:=x) (b:=y) (by simpa[an] using h)]
  grind [oq]
def dM(k:ag):List fE->Option ag
 | []=>none
 |t::l=>bif t.1==k then some t.2 else dM k l
def CS(a b:ag):ag:=bif Ag.leBytes a b then a else b
def CQ(a b:ag):ag:=bif fN a b then b else a
def fu(a b:ag):ag×ag:=(CS a b,CQ a b)
def pV(m:List Obj)(r:ag):Int:=match dP r m with|some q=>q.nR|none=>0
def ei(m:List Obj)(r:ag):Bool:=an (pV m r) 1
def fJ(m:List Obj)(r:ag):Pt:=match dP r m with|some q=>(q.x,q.y)|none=>(0,0)
def kP(o:Obj):List (ag×ag):=(o.gE.zip (o.gE.tail++(bif an o.nR 3 then o.gE.take 1 else []))).map fun p=>fu p.1 p.2
def w8(m:List Obj)(o:Obj):Bool:=(an o.nR 2||an o.nR 3)&&o.gE.all (ei m)
def jJ(m:List Obj)(o:Obj):List (ag×ag):=bif w8 m o then kP o else []
def pA(m:List Obj)(k:ag×ag):bT:=(fJ m k.1,fJ m k.2)
def vC{α:Type}:List α->List (α×α)
 | []=>[]
 |a::l=>l.map (fun b=>(a,b))++vC l
def jr(p:ag×ag):List ag:=bif p.1==p.2 then [p.1] else [p.1,p.2]
def bk(p:Pt):Bool:= !bc 2097152 (max p.1 p.2)&& !bc (min p.1 p.2) (-2097152)
def pz(r:List Pt):Bool:=decide (3<=r.length)&&(decide (r.length<=2000)&&r.all bk)
def gz(r:List Pt):List bT:=r.zip (r.tail++r.take 1)
def fw(r:List Pt)(i:Nat):bT:=((r[i]?).getD (0,0),(r[(i+1) % r.length]?).getD (0,0))
def nQ(r:List Pt)(i k:Nat):Bool:=bif(i-k==1||i-k==r.length-1) then an (ld (fw r i) (fw r k)) 1 else an (ld (fw r i) (fw r k)) 0
def kz(r:List Pt):Bool:=pz r&&((ix r.length).all fun i=>(ix i).all fun k=>nQ r i k)
def vS(a b c:Pt):Int:=(b.1-a.1)*(c.2-b.2)-(b.2-a.2)*(c.1-b.1)
def rt(a n b:Int):Bool:=decide (min a b<=n)&&decide (n<=max a b)
def A6(s:bT)(p:Pt):Bool:=an (vS s.1 s.2 p) 0&&(rt s.1.1 p.1 s.2.1&&rt s.1.2 p.2 s.2.2)
def v6(s:bT)(p:Pt):Int:=bif cr s.1.2 p.2&&(bc p.2 s.2.2&&bc 0 (vS s.1 s.2 p)) then 1 else bif bc p.2 s.1.2&&(cr s.2.2 p.2&&bc (vS s.1 s.2 p) 0) then-1 else 0
def yU(p:Pt):List bT->Int->Int
 | [],w=>bif an w 0 then-1 else 1
 |s::l,w=>bif A6 s p then 0 else yU p l (w+v6 s p)
def qI(r:List Pt)(p:Pt):Int:=yU p (gz r) 0
def sn(r:List Pt)(p:Pt):Int:=bif kz r&&bk p then qI r p else-1
def o7(r:List Pt):List Pt:=r.map fun p=>(2*p.1,2*p.2)
def Au(r s:List Pt)(v:Int):Nat:=((gz r).filter fun x=>an (qI (o7 s) (x.1.1+x.2.1,x.1.2+x.2.2)) v).length
def oK(a b:bT):Bool:=an (ld a b) 2||(an (ld a b) 3||an (ld a b) 5)
def qa(r s:List Pt):Int:=
 bif !(kz r&&kz s) then 0 else
 bif(gz r).any (fun a=>(gz s).any fun b=>oK a b) then 0 else
 bif(decide (0<Au r s 1)&&decide (0<Au r s (-1)))||(decide (0<Au s r 1)&&decide (0<Au s r (-1))) then 0 else
 bif decide (0<Au r s 1) then 2 else
 bif decide (0<Au s r 1) then 3 else
 bif decide (0<Au r s (-1)) then 1 else 4
def zu(m:List Obj)(o:Obj):Option (List Pt):=bif an o.nR 3&&o.gE.all (ei m) then some (o.gE.map (fJ m)) else none
def tY(m:List Obj)(o:Obj):Option (List Pt):=(zu m o).bind fun r=>bif kz r then some r else none
def vD(m:List Obj)(id:ag):Option (List Pt):=(dP id m).bind (tY m)
def kB(m:List Obj)(r:ag):Option (List ag):=(dP r m).bind fun q=>bif an q.nR 2&&q.gE.all (ei m) then some q.gE else none
def ue(m:List Obj)(o:Obj):Bool:=((ix o.gE.length).zip o.gE).all fun p=>bif an o.nR 5&&p.1==1 then ei m p.2 else(kB m p.2).isSome
def Av(l:List ag):ag×ag:=(l.headD [],l.getLastD [])
def Bn(c:ag×ag×Bool×Bool)(e:ag×ag):ag×ag×Bool×Bool:=
 (e.1,e.2,((c.2.2.1&&c.1==e.2)||(c.2.2.2&&c.2.1==e.2)),((c.2.2.1&&c.1==e.1)||(c.2.2.2&&c.2.1==e.1)))
def Et(m:List Obj)(o:Obj):Bool:=match o.gE.map fun r=>Av ((kB m r).getD []) with
 | []=>true
 |e::l=>(l.foldl Bn (e.1,e.2,true,true)).2.2.1||(l.foldl Bn (e.1,e.2,true,true)).2.2.2
def GP(m:List Obj)(o:Obj):Bool:=((kB m (o.gE.getD 0 [])).getD []).contains (o.gE.getD 1 [])&&((kB m (o.gE.getD 2 [])).getD []).contains (o.gE.getD 1 [])
def kR(k:Int)(i:Nat):Int:=bif an k 4||(an k 5&& !(i==1)) then 2 else 1
def Kg(m:List Obj)(o:Obj):Bool:=((ix o.gE.length).zip o.gE).all fun p=>an (pV m p.2) (kR o.nR p.1)
structure aI where
 strict:Bool
 area:ag
 nR:Int
 ifK:ag
 ifV:ag
 op:Int
 key:ag
 valuesV:aa
 values:List ag
def tF(s:ag):Bool:= !(s== [])&&decide (s.length<=200)
def t8(x:aI):Bool:=
 bif !(x.area== [])&& !gU x.area then false else bif bc x.nR 0 then false else bif bc 5 x.nR then false else bif !gU x.key then false else
 bif !((x.ifK== [])&&(x.ifV== []))&& !(gU x.ifK&&tF x.ifV) then false else
 bif !(an x.op 2)&&(!(an x.op 1)&& !(an x.op 3)) then false else bif !(an x.op 2==decide (0<x.values.length)) then false else bif decide (60<x.values.length) then false else
 x.values.all tF
def oH(l:List aI):Bool:=decide (l.length<=200)&&l.all t8
def vk(x:aI)(o:Obj):Bool:=bif an x.op 3 then(dM x.key o.gT).isNone else bif an x.op 2 then(match dM x.key o.gT with|some v=>x.values.contains v|none=>true) else(dM x.key o.gT).isSome
def Mv(x:aI)(o:Obj):Bool:=(an x.nR 0||an x.nR o.nR)&&((x.ifK== [])||dM x.ifK o.gT==some x.ifV)
def lU:ag:=[118,105,101,119]
def QE(o:Obj):Option ag:=(dM lU o.gT).bind fun s=>bif gU s then some s else none
def ax4(name:ag)(o:Obj):Bool:=match QE o with|some s=>s==name|none=>true
def gi(m:List Obj)(name:ag):List Obj:=m.filter (ax4 name)
