/- Lemmas for PartKeeps. -/
import Derived.Test.YtakkigoeiahlcaaGreatB4
import Derived.Test.YtakkigoeiahlcaaGreatB9
import Derived.Test.YtakkigoeiahlcaaGreatAg2
set_option linter.all false
open Option renaming some→X,none→Z,bind_eq_some_iff→ak,bind_some→aG,map_none→n8,map_some→kV
open Bool renaming true→O,false→I,and_eq_true→bg,and_false→kU,and_self→bZ,false_and→lZ,not_false→uF,not_true→sO,or_eq_false_iff→wz,true_and→jo
open List renaming length→J,all_cons→pZ,all_eq_true→fO,any_eq_true→E8,append_assoc→oX,append_nil→jV,drop→eD,eq_nil_of_length_eq_zero→qY,getD_eq_getElem?_getD→l8,getElem?_eq_getElem→dA,getElem?_eq_some_iff→ie,getElem?_map→ix,getElem?_of_mem→Cy,getElem?_zip_eq_some→MI,head?_drop→AV,length_append→bI,length_cons→bP,length_filter_le→jF,length_map→bh,length_nil→bC,length_range→CA,length_replicate→zzq,length_singleton→uJ,map_append→dj,map_cons→cZ,map_eq_nil_iff→nX,map_nil→nY,mem_append→fJ,mem_cons_of_mem→ig,mem_cons_self→gz,mem_cons→dD,mem_filter→yK,mem_map→cy,mem_of_getElem?→cq,nodup_append→CB,range→ii,replicate_succ→MP,replicate→gK,sum_cons→wE,take→eG
open Nat renaming beq→aA,ble_eq_true_of_le→bG,ble→aP,blt→bq,eq_of_beq_eq_true→gA,le_of_ble_eq_true→gS,le_refl→aC,le_succ_of_le→co,le_trans→dg,lt_irrefl→bJ,lt_of_lt_of_le→fP,lt_succ_self→iA,mul_le_mul→n7,mul_one→yO,not_lt_zero→AW,reduceAdd→cN,reduceBEq→ct,reduceDiv→eJ,reduceEqDiff→eL,reduceLT→eM,reduceLeDiff→eN,reduceMod→eO,reduceMul→eP,reducePow→eR,reduceSub→eT,zero_add→dS
open Option.some renaming injEq→aQ
open Go.Ag.St renaming get→ll
open Go.Proofs.Tryz renaming prog→ag
open Go.Ag.W renaming loopC→aF,rfun→n9
open Go.Ag.WC renaming sound→aM
namespace Go.Proofs.YtakkigoeiahlcaaGreat
open Go.Ag
variable{Q:ay}[Std Q]
def aqH(lc:Ag.Loc)(m o:Nat)(i:aa):gm ag lc 207 (.ptr m o) i=(dP i).bind λi=>bif bq i 3 then X (.ptr m (o+i*1))else Z:=k_
noncomputable abbrev sd(E:ax)(x:MA):aH:=.loop 111 E 38 [13,14] Gs Gu x
def DY(x:bF):Pt:=(x.1.1+x.2.1,x.1.2+x.2.2)
def pq(l:wj)(s:oa)(v:Int):Nat:=(l.filter λx=>aj (qG (oz s) (DY x)) v).length
theorem aj2(l:wj)(S:bF)(s:oa)(v:Int):pq (l++[S]) s v=pq l s v+bif aj (qG (oz s) (DY S)) v then 1 else 0:=by
 grind [pq]
def Oc(l:wj)(s:oa)(v:Int):pq l s v<=J l:=jF _ _
def abG{p:Pt}:∀{l:wj}{w:Int},zW p l w=1\/zW p l w=0\/zW p l w= -1
 |[],w=>by
   show(bif aj w 0 then(-1:Int)else 1)=1\/(bif aj w 0 then(-1:Int)else 1)=0\/(bif aj w 0 then(-1:Int)else 1)= -1;cases aj w 0<;>simp
 |S::l,w=>by
  rw[abF];cases BS S p;exact abG;exact .inr (.inl rfl)
def pw(c:Nat×Nat×Nat):az:=[an c.1,an c.2.1,an c.2.2]
def qu(l:wj)(s:oa):Nat×Nat×Nat:=(pq l s 1,pq l s 0,pq l s (-1))
variable{t:oa}{b6 i:Nat}{s:St}{bv:aa}{E:ax}{S:bF}
theorem aw2(T:Q.spec 184=X vz)(a4:J t<=2000)(ht:t.all bO=O)(R:au 2 aX bv (oz t))(na:bO S.1=O)(nb:bO S.2=O){l:wj}(a6:J l<=2000){b5:Nat}{s0:St}(a2:s0.get [] b6=X (.cells [bv]))(l5:b5<s0.aL)(l6:b6<s0.aL)(d6:b6≠b5)(e5:ac E 5=.ptr b5 0)(e6:ac E 6=.ptr b6 0)(U:mi b5 s0 s)(hl:s.get [] s0.aL=X (sd E Z))(V:s.get [] b5=X (.cells (pw (qu l t)))):
 ∃v s',iT Q s0.aL [an i,bV S] s.top v s'/\(s'.ci=s.ci/\s.aL<=s'.aL/\mi b5 s0 (s.GE s')/\v=.bool O/\s'.get [] s0.aL=X (sd E Z)/\s'.get [] b5=X (.cells (pw (qu (l++[S]) t)))):=by
 have a5:=U.lt;have a0:=U.mw;have n1:=xS na;have n2:=xS nb;have a3:=R.gt;have u:iw (DY S)=O:=by
  have h1: -4194304<=S.1.1+S.2.1/\S.1.1+S.2.1<=4194304:=w_
  have h2: -4194304<=S.1.2+S.2.2/\S.1.2+S.2.2<=4194304:=w_
  simp only[iw,DY,bT,bg,dE];exact⟨⟨dQ h1.1,dQ h1.2⟩,dQ h2.1,dQ h2.2⟩
 have Y:=abM R (by grind [oz]) (akn ht) u;obtain⟨L,hL⟩:=cw (qG (oz t) (DY S));have hv:L=1\/L=0\/L= -1:=by rw[<-hL];exact abG
 rw[hL]at Y;simp only[aX,bu,DY]at Y;have w1:IntKind.i64.wrap (S.1.1+S.2.1)=S.1.1+S.2.1:=kj w_ w_;have w2:IntKind.i64.wrap (S.1.2+S.2.2)=S.1.2+S.2.2:=kj w_ w_;refine iT.any (ca:=Pj) (cb:=Pk) (show s.top.get [] s0.aL=_ from hl) rfl rfl arN arO ?_;refine aM ?_;obtain⟨w,H⟩:=cw (s.top.put s0.aL Z);have wn:w.aL=s.aL:=by rw[<-H];rfl
 have wo:∀j,j≠s0.aL->w.get [] j=s.get [] j:=λj M=>by rw[<-H,aO,bN.2 M];rfl
 have wm:w.gE<=w.aL:=by rw[<-H];exact cG s.top _ _ (aC _)
 obtain⟨z,C⟩:=cw ((w.new (.cells [ah 0,ah 0,ah 0,ah 0])).put w.aL (X (.cells (bV S).cells)));have zn:z.aL=s.aL+1:=by rw[<-C,<-wn];rfl
 have zc:z.ci=s.ci:=by rw[<-C,<-H];rfl
 have zm:z.gE<=z.aL:=by rw[<-C];exact cG _ _ _ (co wm)
 have zk:z.get [] w.aL=X (.cells (bV S).cells):=by rw[<-C,aO,bS];rfl
 have zs:∀j,j<s.aL->j≠s0.aL->z.get [] j=s.get [] j:=λj M B=>by grind [aO,cQ]
 have zo:∀j,j<s0.aL->j≠b5->z.get [] j=s0.get [] j:=λj M B=>(zs j w_ w_).trans (U.old j M B);have z6:=(zo b6 l6 d6).trans a2;have z5:=(zs b5 w_ w_).trans V;simp only[bV,mo]at C zk;have a1:(w.new (.cells [ah 0,ah 0,ah 0,ah 0])).get [] w.aL=X (.cells [ah 0,ah 0,ah 0,ah 0]):=cr;simp only[go_sem,eG,eD,ct,eM,cN,eP,eT,eL,eN,eR,eO,reduceCtorEq,eJ,Pj,bV,H,dh,a1,dq,C,sB];have fin:∀(y:St)(c:az),z.put b5 (X (.cells c))=y->(y.put s0.aL (X (sd E Z))).ci=s.ci/\s.aL<=(y.put s0.aL (X (sd E Z))).aL/\mi b5 s0 (s.GE (y.put s0.aL (X (sd E Z))))/\(y.put s0.aL (X (sd E Z))).get [] s0.aL=X (sd E Z)/\(y.put s0.aL (X (sd E Z))).get [] b5=X (.cells c):=λy c F=>by
  have yn:y.aL=s.aL+1:=by rw[<-F];exact zn
  have qn:(y.put s0.aL (X (sd E Z))).aL=s.aL+1:=yn;have yc:y.ci=s.ci:=by rw[<-F];exact zc
  refine⟨yc,w_,⟨λj M B=>?_,nL a0 w_,?_,yc.trans U.ci⟩,by rw[aO,bS];rfl,?_⟩
  grind [j6,aO]
  show s0.aL<(y.put s0.aL (X (sd E Z))).aL;omega
  grind [aO]
 have k1:=Oc l t 1;have k2:=Oc l t 0;have k3:=Oc l t (-1);have q1:=cm (n:=pq l t 1) w_;have q2:=cm (n:=pq l t 0) w_;have q3:=cm (n:=pq l t (-1)) w_;have m0:dP (ah 0)=X 0:=rfl;have m1:dP (ah 1)=X 1:=rfl;have m2:dP (ah 2)=X 2:=rfl;have v0:IntKind.i64.wrap (1-1)=0:=by rfl
 have v1:IntKind.i64.wrap (1-0)=1:=by rfl
 have v2:IntKind.i64.wrap (1- -1)=2:=by rfl
 simp only[pw,qu]at z5;refine aM ?_;obtain⟨y,F⟩:=cw (z.put b5 (X (.cells (pw (qu (l++[S]) t)))));have f:=fin y _ F;rcases hv with rfl|rfl|rfl<;>simp only[pw,qu,aj2,hL,aj,Int.reduceBEq,Int.reduceNeg,cT,cF,Nat.add_zero]at F<;>simp only[go_sem,eG,eD,ct,eM,cN,eP,eT,eL,eN,eR,eO,reduceCtorEq,eJ,Pk,e5,e6,z5,z6,zk,a3,ue,w1,w2,T,Y,v0,v1,v2,aqH,m0,m1,m2,q1,q2,q3,dh,dq,F,lL,lS,sB]<;>exact⟨f.1,f.2.1,f.2.2.1,f.2.2.2⟩
variable{lc:Ag.Loc}{K:hP}{bx:Nat}{rv:aa}
theorem aw1(u:No Q 181)(B:Q.spec 184=X vz){r:oa}(hr:au 2 aX rv r)(z:J r<=2000)(hn:r.all bO=O)(y:J t<=2000)(ht:t.all bO=O)(U:au 2 aX bv (oz t)){b5:Nat}{s0:St}(T:s0.get [] bx=X (.cells [rv]))(V:s0.get [] b6=X (.cells [bv]))(Y:s0.get [] b5=X (.cells [ah 0,ah 0,ah 0]))(lx:bx<s0.aL)(l5:b5<s0.aL)(l6:b6<s0.aL)(dx:bx≠b5)(d6:b6≠b5)(e5:ac E 5=.ptr b5 0)(e6:ac E 6=.ptr b6 0)(a0:ac E 12=.func (.func 181) [] [.ptr bx 0])(hE:E.all jC=O)(M:s0.gE<=s0.aL)(hk:∀C,mi b5 s0 C->C.get [] b5=X (.cells (pw (qu (fU r) t)))->K .normal ⟨E,38,lc⟩ C):W Q 111 (.rfun (.tmp 12) [13,14] Gs Gu) ⟨E,38,lc⟩ s0 K:=by
 obtain⟨v,s',w,rfl,h⟩:=Cg u hr z (bx:=bx) (n:=s0.aL) (P:=λi s=>mi b5 s0 s/\s.get [] s0.aL=X (sd E Z)/\s.get [] b5=X (.cells (pw (qu ((fU r).take i) t)))) (D:=λ_=>False) (λk s h=>(h.1.old bx lx dx).trans T) (λk s h=>h.1.mw) (λi s hi ⟨c,hl,h5⟩=>by
  let⟨na,nb⟩:=B4 hn hi
  obtain⟨v,s',q1,q2,q3,q4,rfl,q5,q6⟩:=aw2 B y ht U na nb (l:=(fU r).take i) (i:=i) (by grind) V l5 l6 d6 e5 e6 c hl h5;refine⟨_,s',q1,q2,q3,.inl ⟨rfl,q4,q5,?_⟩⟩;have e:(fU r).take (i+1)=(fU r).take i++[fg r i]:=by
   rw[List.take_add_one,EC hi];rfl
  rw[e];exact q6) (s:=s0.new (sd E Z)) ⟨⟨λj R _=>cQ R,co M,iA _,rfl⟩,cr,(cQ l5).trans Y⟩
 have F:mi b5 s0 s'->mi b5 s0 (s'.put s0.aL Z):=λc=>⟨λj R H=>by rw[aO,bN.2 (by omega:j≠s0.aL)];exact c.old j R H,cG _ _ _ c.mw,c.lt,c.ci⟩;rcases h with⟨c,hg,h5⟩|h
 refine n9 (h:=181) (first:=[]) (captured:=[.ptr bx 0]) (v:=.tup []) (s1:=s') (by simp only[ey,a0]) (by rw[Std.P,rP,arQ,hE];rfl) w hg (hk _ (F c) ?_)
 grind [aO,ED]
 exact h.elim
variable{tv:aa}
theorem aw3(H:No Q 181)(M:No Q 110)(U:Q.spec 184=X vz)(F:No Q 182)(C:No Q 183)(a9:No Q 111){r:oa}(Y:au 2 aX rv r)(R:J r<=2000)(hn:r.all bO=O)(B:au 2 aX tv t)(j:J t<=2000)(ht:t.all bO=O)(a4:s.gE<=s.aL):
 ∃v s',ai Q 111 [rv,tv] s v s'/\v=.agg (pw (qu (fU r) t)):=by
 have T:=Y.gt;have a1:=B.gt;have a2:=vU Y;have a0:=vU B
 let⟨x,hx,xn,xm,_,x0,x1⟩:=vE (.cells [ah 0,ah 0,ah 0]) (.cells [ah 0,ah 0,ah 0]) a4
 have a3:(s.new (.cells [ah 0,ah 0,ah 0])).aL=s.aL+1:=rfl;have V:=awO F C B j ht xm;refine ai.ofNRZ arP (aM ?_);simp only[go_sem,eG,eD,ct,eM,cN,eP,eT,eL,eN,eR,eO,reduceCtorEq,eJ,T,a1,a3,hx];refine aU.ex V d_ ?_;rintro bv y ⟨c,yo,yn,ym,yc⟩;have a7:=c.gt;have a6:=c.scal
 let⟨w,hw,wn,wm,wo,wk⟩:=zr (.cells [.Ge]) (.cells [bv]) ym
 have a5:(y.new (.cells [.Ge])).get [] y.aL=X (.cells [.Ge]):=cr;have cn:aa.Ge.cells=[.Ge]:=rfl;have z:=Ce M Y w
 let⟨u,hu,_,um,uo,uk⟩:=oL (.cells [rv]) wm
 have un:u.aL=y.aL+2:=by
  rw[<-hu];show w.aL+1=_;omega
 rw[hu]at z;simp only[go_sem,eG,eD,ct,eM,cN,eP,eT,eL,eN,eR,eO,reduceCtorEq,eJ,a7,a6,cn,a5,dh,dq,hw,T];refine aU.of z d_ ?_;simp only[go_sem,eG,eD,ct,eM,cN,eP,eT,eL,eN,eR,eO,reduceCtorEq,eJ];refine aw1 H U Y R hn j ht c (bx:=w.aL) (b5:=s.aL+1) (b6:=y.aL) (s0:=u) uk ?_ ?_ w_ w_ w_ w_ w_ ?_ ?_ ?_ ?_ um ?_;rw[uo _ w_];exact wk
 grind
 simp only[sN,ct,cN];simp only[sN,ct,cN];simp only[sN,ct,cN]
 ·have a8:=vU c
  repeat' (first|exact rfl|refine aB.all_set ?_ (by first|exact a2|exact a0|exact a8|rfl))
 intro s2 hI h5;have h4:s2.get [] s.aL=X (.cells [ah 0,ah 0,ah 0]):=by rw[hI.old _ w_ w_,uo _ w_,wo _ w_,yo _ w_];exact x0
 obtain⟨q,hq⟩:=cw (s2.put s.aL (X (.cells (pw (qu (fU r) t)))));have qk:q.get [] s.aL=X (.cells (pw (qu (fU r) t))):=by rw[<-hq,aO,bS];rfl
 simp only[pw]at h5 hq qk;simp only[go_sem,eG,eD,ct,eM,cN,eP,eT,eL,eN,eR,eO,reduceCtorEq,eJ,h5,dh,h4,dq,hq,qk];exact⟨_,rfl,rfl⟩
def DZ:Sp
 |[u,v]=>(ru u).bind λr=>(ru v).bind λt=>bif(decide (J r<=2000)&&r.all bO)&&(decide (J t<=2000)&&t.all bO)then X (.agg (pw (qu (fU r) t)))else Z
 |_=>Z
def ab7{u v:aa}{r:oa}(h:au 2 aX u r)(y:au 2 aX v t)(h1:J r<=2000)(w:r.all bO=O)(j:J t<=2000)(c:t.all bO=O):DZ [u,v]=X (.agg (pw (qu (fU r) t))):=by
 simp only[aac,DZ,qs h,qs y,dQ h1,w,dQ j,c]
def Uf:dy:=[(184,vz)]
def agf:eh Uf:=.cons abN .nil
def aw0:cW ag 111 DZ:=by
 intro j u h G B w xs y z;unfold DZ at h;split at h;simp only[ak]at h
 let⟨r,h1,t,h2,h⟩:=h
 let⟨h3,h⟩:=aZ h
 simp only[bg,dE]at h3;have h:=sI h;subst h
 let⟨_,h4,hr⟩:=wW h1
 let⟨_,h5,ht⟩:=wW h2
 refine iQ agf (W:=[]) .nil (by simp only[dR,h4,h5,bZ]) (λC=>?_) G B w xs y z;obtain⟨v,s',c,rfl⟩:=aw3 (Q:=QW Uf [] C) R_ R_ rfl R_ R_ R_ hr h3.1.1 h3.1.2 ht h3.2.1 h3.2.2 (s:=s0) d_;exact⟨_,_,c,2,rfl⟩;cases h
def Hl:Sp
 |[v]=>(nF v).bind λp=>X (.bool (bO p))
 |_=>Z
def axp:cW ag 240 Hl:=by
 refine H0 (T:=[]) .nil (W:=[]) .nil λc u h=>?_;unfold Hl at h;split at h;simp only[ak]at h
 let⟨p,h1,h⟩:=h
 have h:=sI h;subst h;rw[rq h1];exact⟨rfl,λj=>⟨_,_,acj (Q:=QW [] [] j) R_ p _,1,rfl⟩⟩;cases h
def ack{p:Pt}(h:bO p=O):iw p=O:=by
 have:=xS h;have j: -4194304<=p.1/\p.1<=4194304:=w_
 have c: -4194304<=p.2/\p.2<=4194304:=w_
 simp only[iw,bT,bg];exact⟨⟨dQ j.1,dQ j.2⟩,dQ c.1,dQ c.2⟩
def SR{r:oa}(h:jR r=O):oP r=O:=by
 unfold jR at h;simp only[bg]at h;exact h.1
def aCM(c:Q.spec 103=X pR)(j:Q.spec 240=X Hl)(z:Q.spec 184=X vz)(F:No Q 215){r:oa}(C:au 2 aX rv r)(p:Pt)(s:St):ai Q 215 [rv,aX p] s (bu (sE r p)) s:=by
 have u:=C.gt;have w:=LZ C;have B:Hl [.agg [ah p.1,ah p.2]]=X (.bool (bO p)):=rfl;have h:∃v s',ai Q 215 [rv,aX p] s v s'/\(v=bu (sE r p)/\s'=s):=by
  refine ai.ofNRZ as5 (aM ?_);cases e1:jR r;have y:sE r p= -1:=by unfold sE;rw[e1];rfl
  rw[e1]at w;simp only[go_sem,seval,aX,u,c,w];exact⟨_,rfl,by rw[y];rfl⟩;rw[e1]at w;cases e2:bO p;have y:sE r p= -1:=by unfold sE;rw[e1,e2];rfl
  rw[e2]at B;simp only[go_sem,seval,aX,u,c,w,j,B];exact⟨_,rfl,by rw[y];rfl⟩;have y:sE r p=qG r p:=by unfold sE;rw[e1,e2];rfl
  rw[e2]at B
  let⟨⟨_,hlen⟩,hn⟩:=Eu (SR e1)
  have H:=abM C hlen (by rw[fO];exact λx M=>ack (fO.1 hn x M)) (ack e2);simp only[aX,bu]at H;simp only[go_sem,seval,aX,u,c,w,j,B,z,H];exact⟨_,rfl,by rw[y];rfl⟩
 obtain⟨_,_,h,rfl,rfl⟩:=h;exact h
def Cd:Sp
 |[u,v]=>(ru u).bind λr=>(nF v).bind λp=>X (bu (sE r p))
 |_=>Z
def Ug:dy:=[(103,pR),(240,Hl),(184,vz)]
def agh:eh Ug:=.cons L0 (.cons axp (.cons abN .nil))
def aCL:cW ag 215 Cd:=by
 intro c u h G B w xs j y;unfold Cd at h;split at h;simp only[ak]at h
 let⟨r,h1,p,h2,h⟩:=h
 have h:=sI h;subst h
 let⟨_,h4,hr⟩:=wW h1
 have z:=rq h2;subst z;refine iQ agh (W:=[]) .nil (by simp only[dR,h4,jo];rfl) (λC=>?_) G B w xs j y;exact⟨_,_,aCM (Q:=QW Ug [] C) rfl rfl rfl R_ hr p s0,1,rfl⟩;cases h
noncomputable abbrev qI(E:ax)(x:MA):aH:=.loop 62 E 71 [25,26] GP GR x
noncomputable abbrev qJ(E:ax)(x:MA):aH:=.loop 62 E 71 [21,22] GQ GS x
def aaA:(dM GQ&&dM GS)=O:=k_
variable{b4:Nat}{A:bF}
theorem aBD(c:Q.spec 99=X kQ){B:bF}(n1:bO A.1=O)(n2:bO A.2=O)(n3:bO B.1=O)(n4:bO B.2=O){s0:St}(a3:s0.get [] b4=X (.cells [ah 0]))(a2:s0.get [] b6=X (.cells (bV A).cells))(l4:b4<s0.aL)(l6:b6<s0.aL)(e4:ac E 4=.ptr b4 0)(e6:ac E 6=.ptr b6 0){k:Nat}(hI:gU [] 0 s0 s)(hl:s.get [] s0.aL=X (qI E Z)):
 ∃v s',iT Q s0.aL [an k,bV B] s.top v s'/\(s'.ci=s.ci/\s.aL<=s'.aL/\gU [] 0 s0 (s.GE s')/\((v=.bool O/\s'.get [] s0.aL=X (qI E Z)/\nV A B=I)\/(v=.bool I/\s'.get [] s0.aL=X (qI E (X .ret))/\nV A B=O))):=by
 have H:=Rz n1 n2 n3 n4;have a4:=hI.lt;have a0:=hI.mw;obtain⟨M,hM⟩:=cw (li A B);have ht:nV A B=(aj M 2||(aj M 3||aj M 5)):=by rw[<-hM];rfl
 rw[hM]at H;refine iT.any (ca:=QC) (cb:=DL) (show s.top.get [] s0.aL=_ from hl) rfl rfl at2 at4 ?_;refine aM ?_;obtain⟨w,U⟩:=cw (s.top.put s0.aL Z);have wn:w.aL=s.aL:=by rw[<-U];rfl
 have wo:∀j,j≠s0.aL->w.get [] j=s.get [] j:=λj V=>by rw[<-U,aO,bN.2 V];rfl
 have wm:w.gE<=w.aL:=by rw[<-U];exact cG s.top _ _ (aC _)
 obtain⟨z,C⟩:=cw ((w.new (.cells [ah 0,ah 0,ah 0,ah 0])).put w.aL (X (.cells (bV B).cells)));have zn:z.aL=s.aL+1:=by rw[<-C,<-wn];rfl
 have zc:z.ci=s.ci:=by rw[<-C,<-U];rfl
 have zm:z.gE<=z.aL:=by rw[<-C];exact cG _ _ _ (co wm)
 have R:z.get [] w.aL=X (.cells (bV B).cells):=by rw[<-C,aO,bS];rfl
 have zo:∀j,j<s0.aL->z.get [] j=s0.get [] j:=λj V=>by
  rw[<-C,aO,bN.2 (by omega:j≠w.aL),cF,cQ w_,wo j w_];exact hI.old j V
 have Y:=(zo b4 l4).trans a3;have T:=(zo b6 l6).trans a2;simp only[bV,mo,bu]at C H R T;have a1:(w.new (.cells [ah 0,ah 0,ah 0,ah 0])).get [] w.aL=X (.cells [ah 0,ah 0,ah 0,ah 0]):=cr;simp only[go_sem,seval,pF,QC,bV,U,dh,a1,dq,C,sB];have fin:∀(u:St)(o:MA),(∀j,j<s0.aL->u.get [] j=s0.get [] j)->u.aL=s.aL+1->u.ci=s.ci->u.gE<=u.aL->(u.put s0.aL (X (qI E o))).ci=s.ci/\s.aL<=(u.put s0.aL (X (qI E o))).aL/\gU [] 0 s0 (s.GE (u.put s0.aL (X (qI E o))))/\(u.put s0.aL (X (qI E o))).get [] s0.aL=X (qI E o):=λu o q1 q2 q3 q4=>by
  have qn:(u.put s0.aL (X (qI E o))).aL=s.aL+1:=q2;refine⟨q3,w_,⟨λj V=>?_,nL a0 w_,?_,q3.trans hI.ci⟩,by rw[aO,bS];rfl⟩
  grind [j6,aO]
  show s0.aL<(u.put s0.aL (X (qI E o))).aL;omega
 obtain⟨y,F⟩:=cw (z.put b4 (X (.cells [ah 0])));have yo:∀j,j<s0.aL->y.get [] j=s0.get [] j:=λj V=>by
  grind [aO]
 let⟨f1,f2,f3,f4⟩:=fin z Z zo zn zc zm
 let⟨g1,g2,g3,g4⟩:=fin y (X .ret) yo (by rw[<-F];exact zn) (by rw[<-F];exact zc) (by rw[<-F];exact cG _ _ _ zm)
 refine aM ?_;cases c1:aj M 2;cases c2:aj M 3;cases c3:aj M 5;simp only[go_sem,seval,pF,DL,e4,e6,Y,T,R,c,H,c1,c2,c3,dh,dq,lL,lS]
 grind
 simp only[go_sem,seval,pF,DL,e4,e6,Y,T,R,c,H,c1,c2,c3,dh,dq,F,lL,lS];exact⟨g1,g2,g3,.inr ⟨g4,by rw[ht,c1,c2,c3];rfl⟩⟩;simp only[go_sem,seval,pF,DL,e4,e6,Y,T,R,c,H,c1,c2,dh,dq,F,lL,lS];exact⟨g1,g2,g3,.inr ⟨g4,by rw[ht,c1,c2];rfl⟩⟩;simp only[go_sem,seval,pF,DL,e4,e6,Y,T,R,c,H,c1,dh,dq,F,lL,lS];exact⟨g1,g2,g3,.inr ⟨g4,by rw[ht,c1];rfl⟩⟩
theorem aBC(y:No Q 181)(M:Q.spec 99=X kQ)(T:au 2 aX tv t)(C:J t<=2000)(hn:t.all bO=O)(n1:bO A.1=O)(n2:bO A.2=O){s0:St}(Y:s0.get [] bx=X (.cells [tv]))(a1:s0.get [] b4=X (.cells [ah 0]))(a0:s0.get [] b6=X (.cells (bV A).cells))(lx:bx<s0.aL)(l4:b4<s0.aL)(l6:b6<s0.aL)(e4:ac E 4=.ptr b4 0)(e6:ac E 6=.ptr b6 0)(R:ac E 24=.func (.func 181) [] [.ptr bx 0])(hE:E.all jC=O)(U:s0.gE<=s0.aL)(F:∀x s2,gU [] 0 s0 s2->((x=.normal/\∀j,j<J t->nV A (fg t j)=I)\/(x=.ret/\∃j,j<J t/\nV A (fg t j)=O))->K x ⟨E,71,[]⟩ s2):W Q 62 (.rfun (.tmp 24) [25,26] GP GR) ⟨E,71,[]⟩ s0 K:=by
 obtain⟨v,s',u,rfl,h⟩:=Cg y T C (bx:=bx) (n:=s0.aL) (P:=λk s=>gU [] 0 s0 s/\s.get [] s0.aL=X (qI E Z)/\∀j,j<k->nV A (fg t j)=I) (D:=λs=>gU [] 0 s0 s/\s.get [] s0.aL=X (qI E (X .ret))/\∃j,j<J t/\nV A (fg t j)=O) (λk s h=>(h.1.old bx lx).trans Y) (λk s h=>h.1.mw) (λk s F ⟨c,hl,B⟩=>by
  let⟨n3,n4⟩:=B4 hn F
  let⟨v,s',q1,q2,q3,q4,q5⟩:=aBD M n1 n2 n3 n4 (k:=k) a1 a0 l4 l6 e4 e6 c hl
  refine⟨v,s',q1,q2,q3,?_⟩;rcases q5 with⟨rfl,h1,h2⟩|⟨rfl,h1,h2⟩
  refine .inl ⟨rfl,q4,h1,λj w=>?_⟩
  grind
  exact .inr ⟨rfl,q4,h1,k,F,h2⟩) (s:=s0.new (qI E Z)) ⟨⟨λj w=>cQ w,co U,iA _,rfl⟩,cr,λj w=>absurd w (AW _)⟩
 have z:gU [] 0 s0 s'->gU [] 0 s0 (s'.put s0.aL Z):=λc=>⟨λj w=>by rw[aO,bN.2 (by omega:j≠s0.aL)];exact c.old j w,cG _ _ _ c.mw,c.lt,c.ci⟩;rcases h with⟨c,V,B⟩|⟨c,V,H⟩
 exact n9 (h:=181) (first:=[]) (captured:=[.ptr bx 0]) (v:=.tup []) (s1:=s') (by simp only[ey,R]) (by rw[Std.P,rP,aaz,hE];rfl) u V (F _ _ (z c) (.inl ⟨rfl,B⟩));exact n9 (h:=181) (first:=[]) (captured:=[.ptr bx 0]) (v:=.tup []) (s1:=s') (by simp only[ey,R]) (by rw[Std.P,rP,aaz,hE];rfl) u V (F _ _ (z c) (.inr ⟨rfl,H⟩))
variable{b3:Nat}
def aBB(M:No Q 181)(R:No Q 110)(Y:Q.spec 99=X kQ)(c:au 2 aX tv t)(U:J t<=2000)(hn:t.all bO=O)(n1:bO A.1=O)(n2:bO A.2=O){s0:St}(a6:s0.get [] b3=X (.cells [tv]))(a5:s0.get [] b4=X (.cells [ah 0]))(l3:b3<s0.aL)(l4:b4<s0.aL)(e3:ac E 3=.ptr b3 0)(e4:ac E 4=.ptr b4 0)(hE:E.all jC=O)(hI:gU [] 0 s0 s)(hl:s.get [] s0.aL=X (qJ E Z)):
 ∃v s',iT Q s0.aL [an i,bV A] s.top v s'/\(s'.ci=s.ci/\s.aL<=s'.aL/\gU [] 0 s0 (s.GE s')/\((v=.bool O/\s'.get [] s0.aL=X (qJ E Z)/\∀j,j<J t->nV A (fg t j)=I)\/(v=.bool I/\s'.get [] s0.aL=X (qJ E (X .ret))/\∃j,j<J t/\nV A (fg t j)=O))):=by
 have a7:=hI.lt;have a2:=hI.mw;have a4:=c.gt;have a0:=vU c;refine iT.any (ca:=QD) (cb:=QE) (show s.top.get [] s0.aL=_ from hl) rfl rfl at3 at5 ?_;refine aM ?_;obtain⟨w,T⟩:=cw (s.top.put s0.aL Z);have wn:w.aL=s.aL:=by rw[<-T];rfl
 have wo:∀j,j≠s0.aL->w.get [] j=s.get [] j:=λj F=>by rw[<-T,aO,bN.2 F];rfl
 have wm:w.gE<=w.aL:=by rw[<-T];exact cG s.top _ _ (aC _)
 obtain⟨z,C⟩:=cw ((w.new (.cells [ah 0,ah 0,ah 0,ah 0])).put w.aL (X (.cells (bV A).cells)));have zn:z.aL=s.aL+1:=by rw[<-C,<-wn];rfl
 have zc:z.ci=s.ci:=by rw[<-C,<-T];rfl
 have zm:z.gE<=z.aL:=by rw[<-C];exact cG _ _ _ (co wm)
 have zk:z.get [] w.aL=X (.cells (bV A).cells):=by rw[<-C,aO,bS];rfl
 have zo:∀j,j<s0.aL->z.get [] j=s0.get [] j:=λj F=>by
  rw[<-C,aO,bN.2 (by omega:j≠w.aL),cF,cQ w_,wo j w_];exact hI.old j F
 have z3:=(zo b3 l3).trans a6;simp only[bV,mo]at C;have a3:(w.new (.cells [ah 0,ah 0,ah 0,ah 0])).get [] w.aL=X (.cells [ah 0,ah 0,ah 0,ah 0]):=cr;simp only[go_sem,seval,pF,QD,bV,T,dh,a3,dq,C,sB];refine aM ?_;have B:=Ce R c z
 let⟨x,hx,_,xm,xo,xk⟩:=oL (.cells [tv]) zm
 have xn:x.aL=s.aL+2:=by
  rw[<-hx];show z.aL+1=_;omega
 have xc:x.ci=s.ci:=by rw[<-hx];exact zc
 have u:∀j,j<s0.aL->x.get [] j=s0.get [] j:=λj F=>(xo j w_).trans (zo j F);rw[hx]at B;simp only[go_sem,seval,pF,QE,e3,z3,ue,a4];refine aU.of B d_ ?_;simp only[go_sem,seval,pF];refine aBC M Y c U hn n1 n2 (bx:=z.aL) (b4:=b4) (b6:=w.aL) (s0:=x) xk ((u b4 l4).trans a5) ?_ w_ w_ w_ ?_ ?_ ?_ ?_ xm ?_;rw[xo _ w_];exact zk;simp only[sN,seval,e4];simp only[sN,seval];simp only[sN,seval]
 ·repeat' (first|exact hE|refine aB.all_set ?_ (by first|exact a0|rfl))
 intro ex y H hc;have n2:=H.lt;have g1:∀(o:MA),(y.put s0.aL (X (qJ E o))).ci=s.ci/\s.aL<=(y.put s0.aL (X (qJ E o))).aL/\gU [] 0 s0 (s.GE (y.put s0.aL (X (qJ E o))))/\(y.put s0.aL (X (qJ E o))).get [] s0.aL=X (qJ E o):=λo=>by
  have qn:(y.put s0.aL (X (qJ E o))).aL=y.aL:=rfl;have qc:(y.put s0.aL (X (qJ E o))).ci=s.ci:=H.ci.trans xc;refine⟨qc,w_,⟨λj F=>?_,nL a2 w_,?_,qc.trans hI.ci⟩,by rw[aO,bS];rfl⟩;rw[j6,aO,bN.2 (by omega:j≠s0.aL)];exact(H.old j w_).trans (u j F);show s0.aL<y.aL;omega
 rcases hc with⟨rfl,a1⟩|⟨rfl,V⟩
 let⟨f1,f2,f3,f4⟩:=g1 Z
 exact⟨f1,f2,f3,.inl ⟨rfl,f4,a1⟩⟩
 let⟨f1,f2,f3,f4⟩:=g1 (X .ret)
 exact⟨f1,f2,f3,.inr ⟨rfl,f4,V⟩⟩
theorem aBA(u:No Q 181)(y:No Q 110)(R:Q.spec 99=X kQ){r:oa}(hr:au 2 aX rv r)(a0:J r<=2000)(V:r.all bO=O)(U:au 2 aX tv t)(C:J t<=2000)(hn:t.all bO=O){s0:St}(a1:s0.get [] bx=X (.cells [rv]))(a3:s0.get [] b3=X (.cells [tv]))(a2:s0.get [] b4=X (.cells [ah 0]))(lx:bx<s0.aL)(l3:b3<s0.aL)(l4:b4<s0.aL)(e3:ac E 3=.ptr b3 0)(e4:ac E 4=.ptr b4 0)(T:ac E 20=.func (.func 181) [] [.ptr bx 0])(hE:E.all jC=O)(Y:s0.gE<=s0.aL)(F:∀x s2,gU [] 0 s0 s2->((x=.normal/\∀i,i<J r->∀j,j<J t->nV (fg r i) (fg t j)=I)\/(x=.ret/\∃i,i<J r/\∃j,j<J t/\nV (fg r i) (fg t j)=O))->K x ⟨E,71,lc⟩ s2):W Q 62 (.rfun (.tmp 20) [21,22] GQ GS) ⟨E,71,lc⟩ s0 K:=by
 obtain⟨v,s',w,rfl,h⟩:=Cg u hr a0 (bx:=bx) (n:=s0.aL) (P:=λk s=>gU [] 0 s0 s/\s.get [] s0.aL=X (qJ E Z)/\∀i,i<k->∀j,j<J t->nV (fg r i) (fg t j)=I) (D:=λs=>gU [] 0 s0 s/\s.get [] s0.aL=X (qJ E (X .ret))/\∃i,i<J r/\∃j,j<J t/\nV (fg r i) (fg t j)=O) (λk s h=>(h.1.old bx lx).trans a1) (λk s h=>h.1.mw) (λk s F ⟨c,hl,B⟩=>by
  let⟨n1,n2⟩:=B4 V F
  let⟨v,s',q1,q2,q3,q4,q5⟩:=aBB u y R U C hn n1 n2 (i:=k) a3 a2 l3 l4 e3 e4 hE c hl
  refine⟨v,s',q1,q2,q3,?_⟩;rcases q5 with⟨rfl,h1,h2⟩|⟨rfl,h1,h2⟩
  refine .inl ⟨rfl,q4,h1,λi hi=>?_⟩
  grind
  exact .inr ⟨rfl,q4,h1,k,F,h2⟩) (s:=s0.new (qJ E Z)) ⟨⟨λj H=>cQ H,co Y,iA _,rfl⟩,cr,λj H=>absurd H (AW _)⟩
 have z:gU [] 0 s0 s'->gU [] 0 s0 (s'.put s0.aL Z):=λc=>⟨λj H=>by rw[aO,bN.2 (by omega:j≠s0.aL)];exact c.old j H,cG _ _ _ c.mw,c.lt,c.ci⟩;rcases h with⟨c,hg,B⟩|⟨c,hg,M⟩
 exact n9 (h:=181) (first:=[]) (captured:=[.ptr bx 0]) (v:=.tup []) (s1:=s') (by simp only[ey,T]) (by rw[Std.P,rP,aaA,hE];rfl) w hg (F _ _ (z c) (.inl ⟨rfl,B⟩));exact n9 (h:=181) (first:=[]) (captured:=[.ptr bx 0]) (v:=.tup []) (s1:=s') (by simp only[ey,T]) (by rw[Std.P,rP,aaA,hE];rfl) w hg (F _ _ (z c) (.inr ⟨rfl,M⟩))
def IL{r:oa}{f:bF->Bool}:(fU r).any f=O↔∃i,i<J r/\f (fg r i)=O:=by
 rw[E8];constructor;rintro⟨x,u,h⟩;obtain⟨i,c,rfl⟩:=List.getElem_of_mem u;have j:i<J r:=by rw[ED]at c;exact c
 have:=EC j;rw[dA c]at this;injection this with this
 exact⟨i,j,by rw[<-this];exact h⟩;rintro⟨i,c,h⟩;exact⟨_,cq (EC c),h⟩
def JK(n:Nat):aR 0 ((n:Nat):Int)=decide (0<n):=decide_eq_decide.2 w_
def OY(s:St)(n:Nat)(o:sh):(s.put n o).get [] n=o:=by rw[aO,bS];rfl
def aBF(R:No Q 181)(C:No Q 110)(a2:Q.spec 99=X kQ)(y:Q.spec 103=X pR)(a1:Q.spec 111=X DZ)(a7:No Q 62){r:oa}(H:au 2 aX rv r)(c:au 2 aX tv t)(a6:s.gE<=s.aL):
 ∃v s',ai Q 62 [rv,tv] s v s'/\v=bu (pM r t):=by
 have B:=H.gt;have z:=c.cs;have a4:=vU H;have a3:=vU c;have T:=LZ H;have p2:=LZ c
 let⟨x,hx,xn,xm,_,x0,x1⟩:=vE (.cells [tv]) (.cells [ah 0]) a6
 have M:(s.new (.cells [tv])).aL=s.aL+1:=rfl;refine ai.ofNRZ at6 ?_;refine aM ?_;cases e1:jR r with
 |false=>
  have U:pM r t=0:=by unfold pM;rw[e1];rfl
  rw[e1]at T;simp only[go_sem,seval,pF,B,z,M,hx,y,T,x0,x1,dh,dq,OY];exact⟨_,rfl,by rw[U];rfl⟩
 |true=>
  rw[e1]at T;cases e2:jR t with
  |false=>
   have U:pM r t=0:=by unfold pM;rw[e1,e2];rfl
   rw[e2]at p2;simp only[go_sem,seval,pF,B,z,M,hx,y,T,p2,x0,x1,ue,dh,dq,OY];exact⟨_,rfl,by rw[U];rfl⟩
  |true=>
   rw[e2]at p2
   let⟨⟨_,hlr⟩,hnr⟩:=Eu (SR e1)
   let⟨⟨_,hlen⟩,hn⟩:=Eu (SR e2)
   have F:=Ce C H x
   let⟨u,hu,_,um,uo,uk⟩:=oL (.cells [rv]) xm
   have un:u.aL=s.aL+3:=by
    rw[<-hu];show x.aL+1=_;omega
   rw[hu]at F;simp only[go_sem,seval,pF,B,z,M,hx,y,T,p2,x0,ue];refine aU.of F d_ ?_;simp only[go_sem,seval,pF];refine aBA R C a2 H hlr hnr c hlen hn (bx:=x.aL) (b3:=s.aL) (b4:=s.aL+1) (s0:=u) uk ((uo _ w_).trans x0) ((uo _ w_).trans x1) w_ w_ w_ ?_ ?_ ?_ ?_ um ?_;simp only[sN,seval];simp only[sN,seval];simp only[sN,seval]
   ·repeat' (first|exact rfl|refine aB.all_set ?_ (by first|exact a4|exact a3|rfl))
   intro ex s2 hI hc;have g3:s2.get [] s.aL=X (.cells [tv]):=(hI.old _ w_).trans ((uo _ w_).trans x0);have g4:s2.get [] (s.aL+1)=X (.cells [ah 0]):=(hI.old _ w_).trans ((uo _ w_).trans x1);rcases hc with⟨rfl,a5⟩|⟨rfl,i,hi,j,hj,a0⟩
   have w:((fU r).any λa=>(fU t).any λb=>nV a b)=I:=by
    rw[Bool.eq_false_iff];intro h
    let⟨i,hi,h⟩:=IL.1 h
    let⟨j,hj,h⟩:=IL.1 h
    rw[a5 i hi j hj]at h;cases h
   have q1:=ab7 H c hlr hnr hlen hn;have q2:=ab7 c H hlen hn hlr hnr;obtain⟨b1,h1⟩:∃b,aR 0 ((pq (fU r) t 1:Nat):Int)=b:=⟨_,rfl⟩;obtain⟨b2,h2⟩:∃b,aR 0 ((pq (fU r) t (-1):Nat):Int)=b:=⟨_,rfl⟩;obtain⟨b3,h3⟩:∃b,aR 0 ((pq (fU t) r 1:Nat):Int)=b:=⟨_,rfl⟩;obtain⟨b4,h4⟩:∃b,aR 0 ((pq (fU t) r (-1):Nat):Int)=b:=⟨_,rfl⟩;have V:pM r t=bif(b1&&b2)||(b3&&b4)then 0 else bif b1 then 2 else bif b3 then 3 else bif b2 then 1 else 4:=by
    unfold pM;rw[e1,e2,w,<-h1,<-h2,<-h3,<-h4,JK,JK,JK,JK];rfl
   have Y:=iZ hI.mw;have m0:dP (ah 0)=X 0:=rfl;have m2:dP (ah 2)=X 2:=rfl;simp only[pw,qu]at q1 q2;simp only[go_sem,seval,hI.mw,B,z.1,ue,a1,q1,q2,Y,g3,sB];cases b1<;>cases b2<;>cases b3<;>cases b4<;>simp only[go_sem,seval,g4,XD,m0,m2,h1,h2,h3,h4,dh,dq,OY]<;>exact⟨_,rfl,by rw[V];rfl⟩;have w:((fU r).any λa=>(fU t).any λb=>nV a b)=O:=IL.2 ⟨i,hi,IL.2 ⟨j,hj,a0⟩⟩;have U:pM r t=0:=by unfold pM;rw[e1,e2,w];rfl
   simp only[go_sem,seval,pF,g4];exact⟨_,rfl,by rw[U];rfl⟩
def Aj:Sp
 |[u,v]=>(ru u).bind λr=>(ru v).bind λt=>X (bu (pM r t))
 |_=>Z
def Uh:dy:=[(99,kQ),(103,pR),(111,DZ)]
def agi:eh Uh:=.cons RA (.cons L0 (.cons aw0 .nil))
def aBE:cW ag 62 Aj:=by
 intro j u h G B w xs y z;unfold Aj at h;split at h;simp only[ak]at h
 let⟨r,h1,t,h2,h⟩:=h
 have h:=sI h;subst h
 let⟨_,h4,hr⟩:=wW h1
 let⟨_,h5,ht⟩:=wW h2
 refine iQ agi (W:=[]) .nil (by simp only[dR,h4,h5,bZ]) (λC=>?_) G B w xs y z;obtain⟨v,s',c,rfl⟩:=aBF (Q:=QW Uh [] C) R_ R_ rfl rfl rfl R_ hr ht (s:=s0) d_;exact⟨_,_,c,1,rfl⟩;cases h
def Et:Sp
 |[v]=>(ru v).bind λr=>X (.bool (oP r))
 |_=>Z
def aBy{v:aa}{r:oa}(h:au 2 aX v r):Et [v]=X (.bool (oP r)):=by
 simp only[Et,qs h,aG]
def aBz:cW ag 168 Et:=by
 intro c u h G z w xs j y;unfold Et at h;split at h;simp only[ak]at h
 let⟨r,h1,h⟩:=h
 have h:=sI h;subst h
 let⟨_,h4,hr⟩:=wW h1
 refine iQ (T:=[]) .nil (W:=[]) .nil (by simp only[dR,h4,bZ]) (λB=>?_) G z w xs j y;exact⟨_,_,adT (Q:=QW [] [] B) R_ R_ R_ R_ R_ hr s0,1,rfl⟩;cases h
noncomputable abbrev DU(E:ax)(x:MA):aH:=.loop 171 E 31 [11,12] Gz GA x
def pf(S:bF):Int:=(S.1.1+S.2.1)*(S.2.2-S.1.2)
def qU(l:wj):Int:=l.foldl (λn S=>n+pf S) 0
def pU(r:oa):Int:=bif oP r then qU (fU r)else 0
def aeO(l:wj)(S:bF):qU (l++[S])=qU l+pf S:=by unfold qU;rw[List.foldl_append];rfl
def Np(h1:bO S.1=O)(c:bO S.2=O): -70368744177664<=pf S/\pf S<=70368744177664:=by
 have a:=xS h1;have b:=xS c;exact D4 w_ w_
theorem aEP(na:bO S.1=O)(nb:bO S.2=O)(hi:i<=2000){s0:St}(l3:b3<s0.aL)(e3:ac E 3=.ptr b3 0)(F:mi b3 s0 s)(hl:s.get [] s0.aL=X (DU E Z)){n:Int}(M:s.get [] b3=X (.cells [ah n]))(hn: -(i*70368744177664:Int)<=n/\n<=i*70368744177664):
 ∃v s',iT Q s0.aL [an i,bV S] s.top v s'/\(s'.ci=s.ci/\s.aL<=s'.aL/\mi b3 s0 (s.GE s')/\v=.bool O/\s'.get [] s0.aL=X (DU E Z)/\s'.get [] b3=X (.cells [ah (n+pf S)])):=by
 have a0:=F.lt;have R:=F.mw;have n1:=xS na;have n2:=xS nb;have ab:=Np na nb;have w1:IntKind.i64.wrap (S.1.1+S.2.1)=S.1.1+S.2.1:=kj w_ w_;have w2:IntKind.i64.wrap (S.2.2-S.1.2)=S.2.2-S.1.2:=kj w_ w_;have w3:IntKind.i64.wrap ((S.1.1+S.2.1)*(S.2.2-S.1.2))=pf S:=Hh w_ w_;have w4:IntKind.i64.wrap (n+pf S)=n+pf S:=kj w_ w_;refine iT.any (ca:=Pz) (cb:=PA) (show s.top.get [] s0.aL=_ from hl) rfl rfl asw asx ?_;refine aM ?_;obtain⟨w,B⟩:=cw (s.top.put s0.aL Z);have wn:w.aL=s.aL:=by rw[<-B];rfl
 have wo:∀j,j≠s0.aL->w.get [] j=s.get [] j:=λj C=>by rw[<-B,aO,bN.2 C];rfl
 have wm:w.gE<=w.aL:=by rw[<-B];exact cG s.top _ _ (aC _)
 obtain⟨z,u⟩:=cw ((w.new (.cells [ah 0,ah 0,ah 0,ah 0])).put w.aL (X (.cells (bV S).cells)));have zn:z.aL=s.aL+1:=by rw[<-u,<-wn];rfl
 have zc:z.ci=s.ci:=by rw[<-u,<-B];rfl
 have zm:z.gE<=z.aL:=by rw[<-u];exact cG _ _ _ (co wm)
 have V:z.get [] w.aL=X (.cells (bV S).cells):=by rw[<-u,aO,bS];rfl
 have U:∀j,j<s.aL->j≠s0.aL->z.get [] j=s.get [] j:=λj C c=>by grind [aO,cQ]
 have zo:∀j,j<s0.aL->j≠b3->z.get [] j=s0.get [] j:=λj C c=>(U j w_ w_).trans (F.old j C c);have z3:=(U b3 w_ w_).trans M;simp only[bV,mo]at u V;have T:(w.new (.cells [ah 0,ah 0,ah 0,ah 0])).get [] w.aL=X (.cells [ah 0,ah 0,ah 0,ah 0]):=cr;simp only[go_sem,seval,Pz,bV,B,dh,T,dq,u,sB];obtain⟨y,H⟩:=cw (z.put b3 (X (.cells [ah (n+pf S)])));have yn:y.aL=s.aL+1:=by rw[<-H];exact zn
 have qn:(y.put s0.aL (X (DU E Z))).aL=s.aL+1:=yn;have Y:y.ci=s.ci:=by rw[<-H];exact zc
 refine aM ?_;simp only[go_sem,seval,PA,e3,z3,V,w1,w2,w3,w4,CZ,dh,dq,H,lL,lS];refine⟨Y,(by show s.aL<=y.aL;omega),⟨λj C c=>?_,nL R (by show s.aL<=y.aL;omega),?_,Y.trans F.ci⟩,?_,?_⟩
 grind [j6,aO]
 show s0.aL<(y.put s0.aL (X (DU E Z))).aL;omega
 all_goals grind [aO]
theorem aEQ(z:No Q 181)(B:No Q 110)(w:Q.spec 168=X Et)(a3:No Q 171){r:oa}(M:au 2 aX rv r)(a0:s.gE<=s.aL):
 ∃v s',ai Q 171 [rv] s v s'/\v=bu (pU r):=by
 have R:=M.gt;have Y:=vU M;have T:=aBy M;refine ai.ofNRZ asy (aM ?_);cases e1:oP r with
 |false=>
  have V:pU r=0:=by unfold pU;rw[e1];rfl
  rw[e1]at T;simp only[go_sem,seval,R,w,T];exact⟨_,rfl,by rw[V];rfl⟩
 |true=>
  have V:pU r=qU (fU r):=by unfold pU;rw[e1];rfl
  rw[e1]at T
  let⟨⟨_,hlen⟩,hn⟩:=Eu e1
  let⟨x,hx,xn,xm,_,x0⟩:=zr (.cells [ah 0]) (.cells [ah 0]) a0
  have a1:(s.new (.cells [ah 0])).get [] s.aL=X (.cells [ah 0]):=cr;have y:=Ce B M x;obtain⟨u,F⟩:=cw (x.new (.cells [rv]));have un:u.aL=s.aL+2:=by
   rw[<-F];show x.aL+1=_;omega
  have um:u.gE<=u.aL:=by rw[<-F];exact co xm
  have uk:u.get [] x.aL=X (.cells [rv]):=by rw[<-F];exact cr
  have u0:u.get [] s.aL=X (.cells [ah 0]):=by rw[<-F,cQ w_];exact x0
  rw[F]at y;simp only[go_sem,seval,R,w,T,dh,a1,dq,hx];refine aU.of y d_ ?_;simp only[go_sem,seval];have C:∀(E:ax)(K:hP),ac E 3=.ptr s.aL 0->ac E 10=.func (.func 181) [] [.ptr x.aL 0]->E.all jC=O->(∀c,c.get [] s.aL=X (.cells [ah (qU (fU r))])->K .normal ⟨E,31,[]⟩ c)->W Q 171 (.rfun (.tmp 10) [11,12] Gz GA) ⟨E,31,[]⟩ u K:=by
   intro E K e3 a2 hE hk;obtain⟨v,s',H,rfl,h⟩:=Cg z M hlen (bx:=x.aL) (n:=u.aL) (P:=λi c=>mi s.aL u c/\c.get [] u.aL=X (DU E Z)/\c.get [] s.aL=X (.cells [ah (qU ((fU r).take i))])/\(-(i*70368744177664:Int)<=qU ((fU r).take i)/\qU ((fU r).take i)<=i*70368744177664)) (D:=λ_=>False) (λk s h=>(h.1.old x.aL w_ w_).trans uk) (λk s h=>h.1.mw) (λi c hi ⟨hI,hl,U,hb⟩=>by
    let⟨na,nb⟩:=B4 hn hi
    obtain⟨v,s',q1,q2,q3,q4,rfl,q5,q6⟩:=aEP (Q:=Q) na nb (i:=i) w_ w_ e3 hI hl U hb;have ab:=Np na nb;have e:(fU r).take (i+1)=(fU r).take i++[fg r i]:=by
     rw[List.take_add_one,EC hi];rfl
    refine⟨_,s',q1,q2,q3,.inl ⟨rfl,q4,q5,?_,?_⟩⟩;rw[e,aeO];exact q6;rw[e,aeO];omega) (s:=u.new (DU E Z)) ⟨⟨λj hj _=>cQ hj,co um,iA _,rfl⟩,cr,(cQ w_).trans u0,by simp[qU]⟩
   rcases h with⟨hI,hg,U,_⟩|h
   refine n9 (h:=181) (first:=[]) (captured:=[.ptr x.aL 0]) (v:=.tup []) (s1:=s') (by simp only[ey,a2]) (by rw[Std.P,rP,asz,hE];rfl) H hg (hk _ ?_)
   grind [aO,ED]
   exact h.elim
  refine C _ _ ?_ ?_ ?_ ?_;simp only[sN,seval];simp only[sN,seval]
  ·repeat' (first|exact rfl|refine aB.all_set ?_ (by first|exact Y|rfl))
  intro c U;simp only[go_sem,seval,U];exact⟨_,rfl,by rw[V];rfl⟩
def Cm:Sp
 |[v]=>(ru v).bind λr=>X (bu (pU r))
 |_=>Z
def Ui:dy:=[(168,Et)]
def agj:eh Ui:=.cons aBz .nil
def aEN:cW ag 171 Cm:=by
 intro j u h G B w xs y z;unfold Cm at h;split at h;simp only[ak]at h
 let⟨r,h1,h⟩:=h
 have h:=sI h;subst h
 let⟨_,h4,hr⟩:=wW h1
 refine iQ agj (W:=[]) .nil (by simp only[dR,h4,bZ]) (λC=>?_) G B w xs y z;obtain⟨v,s',c,rfl⟩:=aEQ (Q:=QW Ui [] C) R_ R_ rfl R_ hr (s:=s0) d_;exact⟨_,_,c,1,rfl⟩;cases h
def IB(s:St)(m:Nat)(L:df):Prop:=s.get [] m=X (.fix (.map (cX aa.str 0 L) (J L)))
def awD{t:TypeId}{e:TypeId}{z:aa}(u:∀k:ae,j0 ag t (.str k)=X (9,e))(j:dC ag e=X z){m:Nat}{l:df}(c:IB s m l)(k:ae):mB ag [] t (.map m) (.str k) I s=X ((bR k l).getD z):=by
 have c:s.get [] m=_:=c;simp only[mB,u,aG,j,zX,c,Dp gn l k 0 0];cases bR k l<;>rfl
def lV(L:df)(k:ae):oa:=((bR k L).bind ru).getD []
def oS(L:df)(k:ae):Int:=max (pU (lV L k)) (-pU (lV L k))
def lC(L:df):Prop:=∀x∈L,∃r,au 2 aX x.2 r
def DR{α:Type}[DecidableEq α]{k:α}{v:aa}:∀{L:List (α×aa)},bR k L=X v->(k,v)∈L
 |[],h=>by cases h
 |(a,u)::l,h=>by
  simp only[bR]at h;by_cases e:k=a;rw[iP e]at h;cases h;subst e;exact gz;rw[iN e]at h;exact ig _ (DR h)
def SE{L:df}(h:lC L)(k:ae):au 2 aX ((bR k L).getD .Ge) (lV L k):=by
 unfold lV;rcases e:bR k L with _|v
 exact .inl R_
 let⟨r,hr⟩:=h _ (DR e)
 simp only[Option.getD_some,aG,qs hr];exact hr
def aFh(k:IntKind)(n:Int):Co .neg (.int k n)=X (.int k (k.wrap (0-n))):=rfl
def aeN:∀(l:wj)(n:Int),(∀S∈l, -70368744177664<=pf S/\pf S<=70368744177664)->n-J l*70368744177664<=l.foldl (λn S=>n+pf S) n/\l.foldl (λn S=>n+pf S) n<=n+J l*70368744177664
 |[],n,_=>by simp
 |S::l,n,h=>by
  have u:=h S gz;have j:=aeN l (n+pf S) λT c=>h T (ig _ c);simp only[List.foldl_cons,bP];omega
def aEO(r:oa): -140737488355328000<=pU r/\pU r<=140737488355328000:=by
 unfold pU;cases e:oP r;show(-140737488355328000:Int)<=0/\(0:Int)<=140737488355328000;decide
 let⟨⟨_,hl⟩,hn⟩:=Eu e
 have h:=aeN (fU r) 0 λS j=>by
  let⟨i,hi⟩:=Cy j
  have c:i<J r:=by
   have:=(ie.1 hi).1;rwa [ED]at this
  rw[EC c]at hi;cases hi
  let⟨a,b⟩:=B4 hn c
  exact Np a b
 rw[ED]at h;show _<=qU _/\qU _<=_;unfold qU;omega
def ot(L:df)(a b:ae):Int:=lR [jO (oS L a) (oS L b),gG a b]
def aeu(y:No Q 108)(j:Q.spec 171=X Cm){p a:Nat}{L:df}(M:lC L)(F:s.get [] p=X (.fix (.cells [.map a])))(H:IB s a L)(k:ae):ai Q 108 [.ptr p 0,.str k] s (bu (oS L k)) s:=by
 have u:=SE M k;have c:=awD BJ E5 H k;obtain⟨v,C⟩:=cw ((bR k L).getD .Ge);rw[C]at u c;have w:=u.gt;have z:Cm [v]=X (bu (pU (lV L k))):=by simp only[Cm,qs u,aG]
 have R:=aEO (lV L k);have B:IntKind.i64.wrap (0-pU (lV L k))= -pU (lV L k):=by rw[kj w_ w_];omega
 refine ai.ofNZ arL (aM ?_);simp only[go_sem,seval,F,Rq,c,w,j,z,bu,aFh,B,rF,oS]
def ajO(F:No Q 105)(c:No Q 108)(j:Q.spec 171=X Cm)(z:Q.spec 107=X pm)(B:Q.spec 102=X pn)(C:Q.spec 106=X vO)(u:s.gE<=s.aL){p a:Nat}{L:df}(T:lC L)(M:s.get [] bx=X (.fix (.cells [.ptr p 0])))(H:s.get [] p=X (.fix (.cells [.map a])))(R:IB s a L)(x y:ae):ai Q 105 [.str x,.str y,.ptr bx 0] s (bu (ot L x y)) s:=by
 have c1:=aeu c j (s:=s.top) T H R x;have c2:=aeu c j (s:=s.top) T H R y;have Y:pm [ah (oS L x),ah (oS L y)]=X (ah (jO (oS L x) (oS L y))):=rfl;have V:pn [.str x,.str y]=X (ah (gG x y)):=rfl;have U:vO [.list 1 [ah (jO (oS L x) (oS L y)),ah (gG x y)] .GT]=X (ah (ot L x y)):=rfl;have w:=iZ u;refine ai.ofNZ arI ?_;refine aM ?_;simp only[go_sem,seval,M,Rq,u];refine jx.quiet c1 d_ (by simp[fB,kE]) ?_;simp only[go_sem,seval,M,Rq];refine jx.quiet c2 d_ (by simp[fB,kE]) ?_;simp only[go_sem,seval,bu,z,Y,B,V,C,U,iO,w,sB]
end Go.Proofs.YtakkigoeiahlcaaGreat
namespace Go.Proofs.YtakkigoeiahlcaaGreat
open Go.Ag
open Go.Sort (putRow grow Holds SWO)
noncomputable def Dz(bx p a:Nat)(es:MQ)(c:Nat):aB aH:=((aB.nil.set bx (X (.fix (.cells [.ptr p 0])))).set p (X (.fix (.cells [.map a])))).set a (X (.fix (.map es c)))
def Bt(G:Gh)(bx p a:Nat):Gh where
 at_ n:=if n=bx\/n=p\/n=a then G.at_ n else Z
 ro:=G.plain.ro
 dim:=G.dim
def anr(G:Gh)(bx p a:Nat):G.plain.le (Bt G bx p a):=⟨λ_ _ e=>(by cases e),λ_ _ _ e=>e,λ_ _ e=>e⟩
variable{x:Addr}{G:Gh}{a bx n p:Nat}
theorem JG(h:(Bt G bx p a).at_ n=X x):(n=bx\/n=p\/n=a)/\G.at_ n=X x:=by
 have h:(if n=bx\/n=p\/n=a then G.at_ n else Z)=X x:=h
 grind
def Dw(e:n=bx\/n=p\/n=a)(h:G.at_ n=X x):(Bt G bx p a).at_ n=X x:=by
 show(if n=bx\/n=p\/n=a then G.at_ n else Z)=X x;rw[iP e];exact h
def Tx(es:MQ):MQ:=es.map λe=>⟨e.key,cx e.val,e.born⟩
def V6{G G2:Gh}(c:G.plain.le G2):∀{es:MQ}{ms:c_},gD G es ms->(∀e∈es,bn e.key=O/\dW e.val=O)->gD G2 (Tx es) ms
 |_,_,.nil,_=>.nil
 |_,_,.cons (e:=e) x l,h=>by
  let⟨h1,h2⟩:=h e gz
  exact .cons ⟨(x.key.onto (Lx G) h1).mono c,(VR.top (Lx G) x.val h2).mono c,x.born⟩ (V6 c l λe j=>h e (ig _ j))
theorem DA(bx p a:Nat)(es:MQ)(c n:Nat):(Dz bx p a es c).get n=if n=a then X (.fix (.map es c))else if n=p then X (.fix (.cells [.map a]))else if n=bx then X (.fix (.cells [.ptr p 0]))else Z:=by
 simp only[Dz,aB.get_set];rfl
variable{α:Type}
theorem acP{x y:α}{i:Nat}(h:[x][i]?=X y):i=0/\y=x:=by
 grind
variable{c1:az}{h:aB aH}
def wr3{w:World}(wr:WR G h w){c2:az}{es:MQ}{c:Nat}(T:h.get bx=X (.cells (.ptr p 0::c1)))(M:h.get p=X (.cells (.map a::c2)))(H:h.get a=X (.map es c))(V:∀e∈es,bn e.key=O/\dW e.val=O):WR (Bt G bx p a) (Dz bx p a (Tx es) c) w:=by
 have a0:a≠p:=λe=>by rw[e,M]at H;cases H
 have a1:a≠bx:=λe=>by rw[e,T]at H;cases H
 have Y:p≠bx:=λe=>by rw[e,T]at M;cases M
 have R:=anr G bx p a;have old:∀n,n=bx\/n=p\/n=a->∃o,h.get n=X o/\o≠.tok:=by
  rintro n (rfl|rfl|rfl);exact⟨_,T,λe=>by cases e⟩;exact⟨_,M,λe=>by cases e⟩;exact⟨_,H,λe=>by cases e⟩
 refine⟨λn o j=>?_,λn m x y hn hm z U V=>?_,λb o v hv=>?_,λn ob x i v hn z B=>?_,wr.dim,λn x z=>wr.below n x (JG z).2⟩;rw[DA]at j;by_cases e1:n=a;rw[iP e1]at j;cases j;subst e1
 let⟨ad,h1,h2,ES,h3,h4⟩:=wr.obj n _ H
 exact⟨ad,Dw (.inr (.inr rfl)) h1,h2,ES,h3,V6 R h4 V⟩;rw[iN e1]at j;by_cases e2:n=p;rw[iP e2]at j;cases j;subst e2
 let⟨ad,h1,h2,C,e,h3,h4,h5⟩:=wr.obj n _ M
 refine⟨ad,Dw (.inr (.inl rfl)) h1,h2,C,e,h3,h4,λi v B=>?_⟩;obtain⟨rfl,rfl⟩:=acP B
 let⟨q1,x,q2,q3⟩:=h5 0 (.map a) rfl
 refine⟨q1,x,q2,?_⟩;cases q3 with
 |map F=>exact .map (Dw (.inr (.inr rfl)) F)
 rw[iN e2]at j;by_cases e3:n=bx;rw[iP e3]at j;cases j;subst e3
 let⟨ad,h1,h2,C,e,h3,h4,h5⟩:=wr.obj n _ T
 refine⟨ad,Dw (.inl rfl) h1,h2,C,e,h3,h4,λi v B=>?_⟩;obtain⟨rfl,rfl⟩:=acP B
 let⟨q1,x,q2,q3⟩:=h5 0 (.ptr p 0) rfl
 refine⟨q1,x,q2,?_⟩;cases q3 with
 |ptr F=>exact .ptr (Dw (.inr (.inl rfl)) F)
 rw[iN e3]at j;cases j
 let⟨e1,z⟩:=JG z
 let⟨e2,U⟩:=JG U
 let⟨o1,g1,_⟩:=old n e1
 let⟨o2,g2,_⟩:=old m e2
 exact wr.sep n m x y (by rw[g1];simp) (by rw[g2];simp) z U V
 let⟨h1,x,h2,h3⟩:=wr.plain.ro b o v hv
 exact⟨h1,x,h2,h3.mono R⟩
 let⟨e1,z⟩:=JG z
 let⟨o1,g1,g2⟩:=old n e1
 have B:((G.ro x.block i).bind λv=>if bn v=O then X v else Z)=X v:=B;simp only[ak]at B
 let⟨u,hu,_⟩:=B
 exact absurd (wr.apart n o1 x i u g1 z hu).1 g2
def V9:∀(L:df)(n:Nat),Tx (cX aa.str n L)=cX aa.str n (L.map λx=>(x.1,cx x.2))
 |[],_=>rfl
 |(k,v)::L,n=>by
  simp only[cX,cZ];rw[<-V9 L (n+1)];rfl
def abQ(k:ae):∀L:df,bR k (L.map λx=>(x.1,cx x.2))=(bR k L).map cx
 |[]=>rfl
 |(a,v)::L=>by
  simp only[cZ,bR];by_cases e:k=a;rw[iP e,iP e];rfl;rw[iN e,iN e];exact abQ k L
def ad2{L:df}(c:lC L)(k:ae):lV (L.map λx=>(x.1,cx x.2)) k=lV L k:=by
 unfold lV;rw[abQ];rcases e:bR k L with _|v
 rfl
 let⟨r,hr⟩:=c _ (DR e)
 have j:=(m6 Lv hr).2;simp only[kV,aG,qs hr,qs j]
def aBM{L:df}(u:lC L):lC (L.map λx=>(x.1,cx x.2)):=λx j=>by
 obtain⟨y,c,rfl⟩:=cy.1 j
 let⟨r,hr⟩:=u y c
 exact⟨r,(m6 Lv hr).2⟩
def akY{L:df}(j:lC L):∀e∈cX aa.str n L,bn e.key=O/\dW e.val=O:=λe c=>by
 let⟨x,h1,h2,h3⟩:=Ot L n e c
 let⟨r,hr⟩:=j x (cq h1)
 rw[h2,h3];exact⟨rfl,(m6 Lv hr).1⟩
def II:dy:=[(171,Cm),(107,pm),(102,pn),(106,vO)]
def af0:eh II:=.cons aEN (.cons N5 (.cons N6 (.cons ade .nil)))
theorem ajN{W:World}(wr:WR G h W){c2:az}{L:df}(hL:lC L)(hb:h.get bx=X (.cells (.ptr p 0::c1)))(hp:h.get p=X (.cells (.map a::c2)))(ha:h.get a=X (.map (cX aa.str 0 L) (J L))){U:Value}(hx:VR G (.ptr bx 0) U)(x y:ae):
 Calls ag 105 (#[.string ⟨⟨x⟩⟩,.string ⟨⟨y⟩⟩]++ #[U]) W λe z=>e=.returned (.int .i64 (ot L x y))/\∃q a1,z=grow (W.drewN q) a1:=by
 have H:=wr3 wr hb hp ha (akY hL);rw[V9]at H;obtain⟨L',C⟩:∃L',(L.map λx=>(x.1,cx x.2))=L':=⟨_,rfl⟩;have a6:J L=J L':=by rw[<-C,bh]
 have a5:lC L':=by rw[<-C];exact aBM hL
 have a8:ot L x y=ot L' x y:=by
  unfold ot oS;rw[<-C,ad2 hL,ad2 hL]
 rw[C,a6]at H;rw[a8];obtain⟨N,hN⟩:=cw (bx+p+a+1);obtain⟨j,B⟩:∃j:St,(⟨Dz bx p a (cX aa.str 0 L') (J L'),N,N,0⟩:St)=j:=⟨_,rfl⟩;have a3:a≠p:=λe=>by rw[e,hp]at ha;cases ha
 have a4:a≠bx:=λe=>by rw[e,hb]at ha;cases ha
 have a2:p≠bx:=λe=>by rw[e,hb]at hp;cases hp
 have sg:∀n,j.get [] n=(Dz bx p a (cX aa.str 0 L') (J L')).get n:=λn=>by rw[<-B];rfl
 have gb:j.get [] bx=X (.fix (.cells [.ptr p 0])):=by rw[sg,DA,iN (Ne.symm a4),iN (Ne.symm a2),iP rfl]
 have gp:j.get [] p=X (.fix (.cells [.map a])):=by rw[sg,DA,iN (Ne.symm a3),iP rfl]
 have ga:IB j a L':=by
  show j.get [] a=_;rw[sg,DA,iP rfl]
 have Y:=ajO (Q:=QW II [] λ_=>0) R_ R_ rfl rfl rfl rfl (s:=j) (by rw[<-B];exact aC _) a5 gb gp ga x y
 let⟨n,hn⟩:=Y
 have a7:j.ci=0:=by rw[<-B]
 have F:∀ch,(bX ((QW II [] λ_=>0).at ch) n).call 105 [.str x,.str y,.ptr bx 0] [] j=X (bu (ot L' x y),j):=λch=>
  (se (QW II [] λ_=>0) n).call 105 _ [] (λ_=>0) j _ j hn ch λi hi=>by rw[a7]at hi;omega
 have hv:bL (Bt G bx p a) [.str x,.str y,.ptr bx 0] [.string ⟨⟨x⟩⟩,.string ⟨⟨y⟩⟩,U]:=by
  refine .cons (.str x) (.cons (.str y) (.cons ?_ .nil));cases hx with
  |ptr a9=>exact .ptr (Dw (.inl rfl) a9)
 have a0:lA [] (λm=>N<=m) (Bt G bx p a) j j W:=by
  refine⟨λm hm=>?_,.refl _ _,by rw[<-B];exact H,λm _ hA=>?_⟩
  grind [DA]
  have hA:N<=m:=hA;show(if m=bx\/m=p\/m=a then G.at_ m else Z)=Z;rw[iN w_]
 have hc:=(Uz (W7 af0 (W:=[]) .nil) n).1 105 [.str x,.str y,.ptr bx 0] [] j j (Bt G bx p a) W [.string ⟨⟨x⟩⟩,.string ⟨⟨y⟩⟩,U] (λ_=>0) (λm=>N<=m) a0 hv (λ_=>(by decide:0<1000000)) (λT _ _=>⟨_,j,F T,λm h1 h2=>w_⟩);rcases hc with⟨y',z,h1,_⟩|⟨_,h2⟩
 have eg:=Go.Proofs.enters_of Tryz.func105 k_ rfl ⟨[.string ⟨⟨x⟩⟩,.string ⟨⟨y⟩⟩,U]⟩ W;have h1:(callFunc 105 ⟨[.string ⟨⟨x⟩⟩,.string ⟨⟨y⟩⟩,U]⟩).run ag W=_:=h1;rw[eg]at h1;cases h1;refine Calls.mono h2 ?_;rintro e z ⟨v,rfl,T,u,s',b0,G',c⟩;have R:=c.eval;rw[F T]at R;simp only[aQ,Prod.mk.injEq]at R;obtain⟨rfl,rfl⟩:=R;have V:=c.val;cases V;refine⟨rfl,z.drawn-W.drawn,z.heap.extract W.heap.size z.heap.size,?_⟩;have hq:=c.ext.quiet;have b1:=c.ext.size;have M:z.heap=W.heap++z.heap.extract W.heap.size z.heap.size:=by
  apply Array.ext_getElem?;intro i;by_cases hi:i<W.heap.size;rw[Array.getElem?_append_left hi];refine c.ext.keepW i hi ?_;rintro⟨n,ad,o,w,q2,q3,_⟩;have w:j.heap.get n=X o:=w;rw[<-B]at w;have w:(Dz _ _ _ _ _).get n=X o:=w;rw[DA]at w;by_cases e1:n=a;rw[iP e1]at w;cases w;cases q2;rw[iN e1]at w;by_cases e2:n=p;rw[iP e2]at w;cases w;cases q2;rw[iN e2]at w;by_cases e3:n=bx;rw[iP e3]at w;cases w;cases q2;rw[iN e3]at w;cases w
  grind
 have hd:=hq.2.2.2.2.2;refine afu M hq.2.2.2.2.1 ?_ hq.1 hq.2.1;show z.drawn=W.drawn+(z.drawn-W.drawn);omega
theorem I9{L:df}{a b:ae}:ot L a b<0↔(oS L a<oS L b\/(oS L a=oS L b/\cK a b<0)):=by
 grind [ot,Sb,I8,jO,aR,aj]
theorem aDR(L:df):SWO (ltOf (ot L)) where
 irrefl x:=by
  simp only[ltOf,decide_eq_false_iff_not,I9,Da];omega
 trans x y z h1 h2:=by
  grind [ltOf,I9,Bj]
 ntrans x y z h1 h2:=by
  grind [ltOf,I9,rJ,Bi,Bj]
theorem aEE(L:df)(x y:ae)(h1:ltOf (ot L) x y=I)(c:ltOf (ot L) y x=I):x=y:=by
 grind [ltOf,I9,Bi,rJ]
def yg(L:df)(l:cf):cf:=l.mergeSort λx y=> !(ltOf (ot L)) y x
def SV(L:df)(l:cf):(yg L l).Perm l:=List.mergeSort_perm _ _
def HN{α:Type}(x:Option α)(k:α->Rd):Rd:=match x with|some a=>k a|none=>.ret Z
def Sm:aH->pX
 |.cells (.ptr p o::_)=>bif aA o 0 then X p else Z
 |_=>Z
def Ry:aH->pX
 |.cells (.map a::_)=>X a
 |_=>Z
noncomputable def FS(o:aH):Option df:=by
 classical exact if h:∃L:df,o=.map (cX aa.str 0 L) (J L)/\lC L then X h.choose else Z
theorem akV{o:aH}{L:df}(h:FS o=X L):o=.map (cX aa.str 0 L) (J L)/\lC L:=by
 unfold FS at h;split at h<;>grind
theorem V5:∀{L M:df}{n:Nat},cX aa.str n L=cX aa.str n M->L=M
 |[],[],_,_=>rfl
 |[],_::_,_,h=>by cases h
 |_::_,[],_,h=>by cases h
 |(a,u)::L,(b,v)::M,n,h=>by
  simp only[cX,List.cons.injEq,dw.mk.injEq,aa.str.injEq]at h;obtain⟨⟨rfl,rfl,_⟩,h⟩:=h;rw[V5 h]
theorem akU{L:df}(c:lC L):FS (.map (cX aa.str 0 L) (J L))=X L:=by
 have j:∃M:df,(aH.map (cX aa.str 0 L) (J L))=.map (cX aa.str 0 M) (J M)/\lC M:=⟨L,rfl,c⟩
 grind [FS,V5]
noncomputable def HZ(bx len:Nat)(cs:az):Rd:=.ask bx λo=>HN (Sm o) λp=>.ask p λo=>HN (Ry o) λa=>.ask a λo=>HN (FS o) λL=>
 su (bif aA (J cs) len&&aP len 1000000 then(rB cs).bind λl=>X ((yg L l).map aw)else Z)
noncomputable def EL:az->UP
 |[.arr k m 0 len _,.func (.func g) [] [.ptr bx 0]]=>bif aA k 1&&aA g 105 then X (X (m,HZ bx len))else Z
 |[.Ge,.func (.func g) [] [.ptr _ 0]]=>bif aA g 105 then X Z else Z
 |_=>Z
variable{g:U_}
def Su{x:Option α}{k:α->Rd}{v:aa}(h:ee g (HN x k)=X v):∃a,x=X a/\ee g (k a)=X v:=by
 rcases x with _|a
 cases h;exact⟨a,rfl,h⟩
theorem aDk{len:Nat}{cs cs':az}(h:ee g (HZ bx len cs)=X (.agg cs')):∃(p a:Nat)(c1 c2:az)(L:df)(l:cf),g bx=X (.cells (.ptr p 0::c1))/\g p=X (.cells (.map a::c2))/\g a=X (.map (cX aa.str 0 L) (J L))/\lC L/\cs=l.map aw/\J l=len/\len<=1000000/\cs'=(yg L l).map aw:=by
 unfold HZ at h;simp only[ee,ak]at h
 let⟨o1,g1,h⟩:=h
 let⟨p,hp,h⟩:=Su h
 simp only[ee,ak]at h
 let⟨o2,g2,h⟩:=h
 let⟨a,ha,h⟩:=Su h
 simp only[ee,ak]at h
 let⟨o3,g3,h⟩:=h
 let⟨L,hL,h9⟩:=Su h
 obtain⟨rfl,w⟩:=akV hL;have h:=HM h9
 let⟨hb,h⟩:=aZ h
 simp only[bg]at hb;simp only[ak,aQ]at h
 let⟨l,h1,h2⟩:=h
 have u:=IU h1;have c:=gA hb.1;have j:=gS hb.2;unfold Sm at hp;split at hp
 let⟨e,hp⟩:=aZ hp
 have e:=gA e;cases hp;subst e;unfold Ry at ha
 grind
 cases hp
variable{l:cf}
theorem aDL(h:l.map aw=.ptr p 0::c1):False:=by
 rcases l with _|⟨x,l⟩
 cases h;injection h with h _;cases h
theorem aDM(h:l.map aw=.map a::c1):False:=by
 rcases l with _|⟨x,l⟩
 cases h;injection h with h _;cases h
theorem aDa:uV 104 EL:=by
 intro c4 G h w xs wr hx;refine⟨λc=>?_,λn gf cs c8 c hl hg=>?_⟩
 ·unfold EL at c
  split at c
  grind
  ·cases hx with
   |cons p q=>
   cases q with
   |cons q r=>
   cases r;cases p;refine .inr ⟨Go.Proofs.enters_of Tryz.func104 k_ rfl _ _,(AnyF.slices_SortFunc_none (P:=ag) (ρ:=Tryz.sortF230_ren) {Tryz.sortF230 with } Z 0 _ w).mono ?_⟩;rintro e Y ⟨rfl,rfl⟩;exact⟨_,rfl,G,wr,.refl,.tup .nil⟩
  cases c
 ·unfold EL at c
  split at c
  ·rename_i k m len b8 g bx
   let⟨hb,c⟩:=aZ c
   simp only[bg]at hb;have e1:=gA hb.1;have e2:=gA hb.2;subst e1;subst e2;injection c with c;injection c with c;injection c with b0 a9
   subst b0;subst a9;obtain⟨p,a,c1,c2,L,l,gb,gp,ga,hL,rfl,rfl,c5,rfl⟩:=aDk hg;cases hx with
   |cons x1 x2=>
   cases x2 with
   |cons x2 x3=>
   cases x3;cases x2 with
   |func u1 u2=>
   cases u1;cases u2 with
   |cons b1 u3=>
   cases u3;rename_i px;obtain⟨ad,b,a3,rfl,T,u,c3,b7,d,B,hd⟩:=Nq x1
   let⟨b',hb',_,C,e,hC,hdimC,hcs⟩:=wr.obj m _ hl
   rw[T]at hb';cases hb';rw[hdimC]at B;injection B with B
   have a5:bx≠m:=λe=>by grind [aDL]
   have a4:p≠m:=λe=>by grind [aDM]
   have a6:a≠m:=λe=>by rw[e,hl]at ga;cases ga
   have c6:∀i (V:i<J l),C[b.off+i]?=X (encStr l[i]):=λi V=>by
    let⟨_,x,hx1,hx2⟩:=hcs i (aw l[i]) (by grind)
    cases hx2;exact hx1
   have z:∀n H (F:Array ae),F.size=J l->∃U,WR U (h.set m (X (.cells (F.toList.map aw)))) (grow (putRow encStr (Sort.ahead w n) b.block b.off F) H)/\ce G h w U (h.set m (X (.cells (F.toList.map aw)))) (grow (putRow encStr (Sort.ahead w n) b.block b.off F) H) 0 0/\VR U (.tup []) (.tuple #[]):=λn H F a1=>by
    refine LM wr hl T encStr F n H (λC' e' c7=>?_) (λi v V=>?_)
    grind
    rw[ix,Option.map_eq_some_iff]at V;obtain⟨s,c,rfl⟩:=V;rw[Array.getElem?_toList]at c
    let⟨V,hs'⟩:=Array.getElem?_eq_some_iff.1 c
    refine⟨V,rfl,?_⟩;have:F[i]! =s:=by rw[getElem!_def,c]
    rw[this];exact .str s
   have a8:(yg L l).length=J l:=(SV L l).length_eq;rcases b7 with h0|⟨R,M⟩
   have b2:l=[]:=qY h0;subst b2;refine .inr ⟨Go.Proofs.enters_of Tryz.func104 k_ rfl _ _,(AnyF.slices_SortFunc_none (P:=ag) (ρ:=Tryz.sortF230_ren) {Tryz.sortF230 with } (X ad) a3 _ w).mono ?_⟩;rintro e' Y ⟨rfl,rfl⟩
   let⟨U,g1,g2,g3⟩:=z 0 #[] #[] rfl
   have hw:grow (putRow encStr (Sort.ahead Y 0) b.block b.off #[]) #[]=Y:=by
    rw[Go.Sort.grow_empty,Go.Sort.ahead_zero];exact Go.Sort.putRow_self encStr Y b.block b.off _ (λj hj=>by simp at hj)
   grind
   let⟨ab,ao,asp⟩:=ad
   simp only at R M u;subst R;subst M;subst u;have hH:Holds encStr w b.block b.off l.toArray:=λj hj=>by
    grind [World.frozen?,kw]
   have b5:=wr.below m b T;have a2:CmpLays1 ag 105 #[px] encStr (ot L) b.block b.off l.toArray.size w:=λn H F a1 x y=>by
    let⟨U,g1,g2,_⟩:=z n H F (by simpa using a1)
    exact ajN g1 hL (by rw[aB.get_set,iN a5];exact gb) (by rw[aB.get_set,iN a4];exact gp) (by rw[aB.get_set,iN a6];exact ga) (b1.mono g2.le) x y
   have a0:=Any.slices_SortFunc_total Tryz.sortF230 encStr (λ_=>rfl) (ot L) (aDR L) 105 #[px] b.block b.off a3 l.toArray w (Go.Proofs.enters_of Tryz.func105 k_ rfl) a2 hH b5 (by simp;omega) (aEE L);have a7:l.toArray.size=J l:=by simp
   rw[a7]at a0;refine .inr ⟨Go.Proofs.enters_of Tryz.func104 k_ rfl _ _,a0.mono ?_⟩;rintro e' Y ⟨rfl,n,H,rfl⟩
   let⟨U,g1,g2,g3⟩:=z n H (yg L l).toArray (by simpa using a8)
   exact⟨_,rfl,U,g1,g2,g3⟩
  all_goals grind
end Go.Proofs.YtakkigoeiahlcaaGreat
namespace Go.Proofs.YtakkigoeiahlcaaGreat
open Go.Ag
variable{Q:ay}[Std Q]
def jP(l:ba):df:=l.map λo=>(o.id,o.val)
theorem BF(k:ae):∀l:ba,bR k (jP l)=(cD k l).map Obj.val
 |[]=>rfl
 |o::l=>by
  have c:=BF k l
  grind [jP,bR,cD]
theorem BP{k:ae}:∀{l:ba},k ∉ l.map Obj.id->cD k l=Z
 |[],_=>rfl
 |o::l,h=>by
  have j:(k==o.id)=I:=by
   simp only[cZ,dD,not_or]at h;simpa using h.1
  have c:=BP (k:=k) (l:=l) λu=>h (by grind);simp only[cD,j,cF,c]
variable{K:hP}{l:ba}{b p:Nat}{bv ov:aa}
def axF(ho:au 6 Obj.val ov l)(hl:J l<=1000000)(B:(l.map Obj.id).Nodup){av:aa}{s0:St}(hp:s0.get [] p=X (.cells [av,.map b,bv]))(Y:p≠b)(hx:∀e lc s,ac e 3=.ptr p 0->ac e 1=.Gt 1 1 0->lc.gen 1=1->lc.get 1 1=X [ov]->lc.gen 7=0->du b s0 s->bf aa.str s b (jP l)->K (.exit 0) ⟨e,97,lc⟩ s):
 ∀(rest c:ba)(e:ax)(lc:Ag.Loc)(s:St),l=c++rest->du b s0 s->bf aa.str s b (jP c)->
  ac e 3=.ptr p 0->ac e 1=.Gt 1 1 0->lc.gen 1=1->lc.get 1 1=X [ov]->lc.gen 7=0->ac e 21=ov->ac e 22=an (J l)->ac e 23=an (J c)->W Q 58 (.loop Kv) ⟨e,97,lc⟩ s K:=by
 intro rest
 induction rest with
 |nil=>
  intro c e lc s z F hm H M g1 R g7 y j w;have a2:=cL z;have V:c=l:=by rw[z];simp
  refine aF ?_;simp only[go_sem,seval,Kv,j,w,a2,bJ];exact hx _ _ _ (by simp only[sN,seval,H]) (by simp only[sN,seval,M]) g1 R g7 F (by rw[<-V];exact hm)
 |cons o rest ih=>
  intro c e lc s z F hm H M g1 R g7 y j w
  let⟨hlt,hat⟩:=cR z
  have a3:=λlc k=>ho.at ek.2.2.1 hat lc k;have T:=cm (n:=J c) w_;have a0:bR o.id (jP c)=Z:=by
   rw[BF,BP,n8];intro hc;rw[z,dj]at B;exact(CB.1 B).2.2 _ hc o.id (by simp) rfl
  have U:s.get [] p=X (.cells [av,.map b,bv]):=(F.old p Y).trans hp;have a1:bf aa.str s.top b (jP c):=hm;have u:=lY gn BI a1 o.id o.val;have C:dp o.id o.val (jP c)=jP (c++[o]):=by
   rw[rS a0];unfold jP;rw[dj];rfl
  rw[C]at u;simp only[Obj.val,Obj.cells]at u;refine aF ?_;simp only[go_sem,seval,Kv,H,y,j,w,hlt,a3,T,U,F.mw,Obj.val,Obj.cells,u];refine ih (c++[o]) _ _ _ (db z) (F.putT _) ?_ ?_ ?_ ?_ ?_ ?_ ?_ ?_ ?_;show ll _ [] b=_;rw[j6,aO,bS];rfl
  all_goals simp only[aah,ct,H,M,g1,R,g7,y,j,sA]
structure MU (p g7:Nat) (c7:az) (ov:aa) (n i:Nat) (e:ax) (lc:Ag.Loc):Prop where
 h3:ac e 3=.ptr p 0
 h7:ac e 7=.Gt 7 g7 0
 q7:lc.gen 7=g7
 l7:lc.get 7 g7=some c7
 h36:ac e 36=ov
 h37:ac e 37=an n
 h38:ac e 38=an i
variable{i lo n:Nat}{rv:aa}
theorem axQ{gT:cf}(a8:au 1 aw rv gT)(b7:J gT<=900000){g7:Nat}{c7:az}{av:aa}{s0:St}(hp:s0.get [] p=X (.cells [av,.map b,bv]))(hM:bf aa.str s0 b (jP l))(R:p<lo)(b1:b<lo)(hx:∀e lc s v,gT.all (dH l)=O->bU 2 lo s v ((gT.map (eV l)).map aX)->(∀k,k<lo->s.get [] k=s0.get [] k)->s.gE<=s.aL->lo<=s.aL->ac e 8=v->MU p g7 c7 ov n i e lc->K (.exit 4) ⟨e,97,lc⟩ s)(hc:∀e lc s,gT.all (dH l)=I->(∀k,k<lo->s.get [] k=s0.get [] k)->s.gE<=s.aL->lo<=s.aL->MU p g7 c7 ov n i e lc->K (.exit 3) ⟨e,97,lc⟩ s):
 ∀(rest c:cf)(e:ax)(lc:Ag.Loc)(s:St)(v:aa),gT=c++rest->c.all (dH l)=O->bU 2 lo s v ((c.map (eV l)).map aX)->(∀k,k<lo->s.get [] k=s0.get [] k)->s.gE<=s.aL->lo<=s.aL->ac e 8=v->ac e 46=rv->ac e 47=an (J gT)->ac e 48=an (J c)->MU p g7 c7 ov n i e lc->W Q 58 (.loop DJ) ⟨e,97,lc⟩ s K:=by
 intro rest
 induction rest with
 |nil=>
  intro c e lc s v V hn Y u z B h8 H w C F;have b0:=cL V;have R:c=gT:=by rw[V];simp
  refine aF ?_;simp only[go_sem,seval,DJ,w,C,b0,bJ];rw[R]at Y hn;refine hx _ _ _ v hn Y u z B ?_ ⟨?_,?_,F.q7,F.l7,?_,?_,?_⟩<;>simp only[sN,seval,h8,F.h3,F.h7,F.h36,F.h37,F.h38]
 |cons r rest ih=>
  intro c e lc s v V hn Y u z B h8 H w C F
  let⟨hlt,hat⟩:=cR V
  have U:=λlc k=>a8.at bM.2.2.1 hat lc k;have a0:=cm (n:=J c) w_;have M:s.get [] p=X (.cells [av,.map b,bv]):=(u p R).trans hp;have b2:bf aa.str s b (jP l):=(u b b1).trans hM;have j:=nM gn BI Ig b2 r;rw[BF]at j;have vc:=Y.gt;have e3:=F.h3;have e7:=F.h7;cases hq:cD r l with
  |none=>
   have hb:gT.all (dH l)=I:=by
    rw[V,List.all_append,pZ];have:dH l r=I:=by simp only[dH,m7,hq];rfl
    rw[this];simp
   rw[hq]at j;simp only[n8,iu]at j;refine aF ?_;simp only[go_sem,seval,DJ,aw,e3,H,w,C,hlt,U,M,j];refine hc _ _ _ hb u z B ⟨?_,?_,?_,?_,?_,?_,?_⟩<;>simp only[fA,iG,iK,ct,cF,F.h3,F.h7,F.q7,F.l7,F.h36,F.h37,F.h38]
  |some q=>
   rw[hq]at j;simp only[kV,iu,Obj.val,Obj.cells]at j;cases T:aj q.Al 1 with
   |false=>
    have hb:gT.all (dH l)=I:=by
     rw[V,List.all_append,pZ];have:dH l r=I:=by simp only[dH,m7,hq];exact T
     rw[this];simp
    refine aF ?_;simp only[go_sem,seval,DJ,aw,e3,H,w,C,hlt,U,M,j,T];refine hc _ _ _ hb u z B ⟨?_,?_,?_,?_,?_,?_,?_⟩<;>simp only[fA,iG,iK,ct,cF,F.h3,F.h7,F.q7,F.l7,F.h36,F.h37,F.h38]
   |true=>
    have b5:dH l r=O:=by simp only[dH,m7,hq];exact T
    have a9:aX (eV l r)=.agg [ah q.x,ah q.y]:=by simp only[HH hq,aX]
    let⟨v',s1,a1,a2,a3,a4,a5,a6,a7⟩:=Fy (t:=138) nj.1 rfl d_ (s:=s) (y:=.list 2 [aX (eV l r)] .GT) (ys:=[aX (eV l r)]) Y (by simp only[aaa,cU]) (by
     grind) B z
    rw[a9]at a1;refine aF ?_;simp only[go_sem,seval,DJ,aw,e3,h8,H,w,C,hlt,U,M,j,T,vc,a0,a1,a7,sB];refine ih (c++[r]) _ _ s1 v' (by rw[V];simp) ?_ ?_ (λk T=>(a6 k T).trans (u k T)) a5 w_ ?_ ?_ ?_ ?_ ⟨?_,?_,?_,?_,?_,?_,?_⟩
    grind
    grind
    all_goals simp only[aah,ct,H,w,F.h3,F.h7,F.q7,F.l7,F.h36,F.h37,F.h38,sA]
def oq(l:ba)(o:Obj):Bool:=match Ak l o with|some r=> !jR r|none=>I
def oJ(l:ba)(o:Obj):Bool:=(t8 l o).isSome
structure wT (l pre:ba) (p a b lo:Nat) (s0 s:St) (L:df) (bv:aa):Prop where
 hp:s.get [] p=some (.cells [.map a,.map b,bv])
 ma:bf aa.str s a L
 mb:bf aa.str s b (jP l)
 ids:L.map (·.1)=(pre.filter (oJ l)).map Obj.id
 rings:∀x∈L,∃o∈pre,x.1=o.id/\∃r,t8 l o=some r/\au 2 aX x.2 r
 bad:bU 1 lo s bv (((pre.filter (oq l)).map Obj.id).map aw)
 old:∀k,k<lo->k≠p->k≠a->s.get [] k=s0.get [] k
 mw:s.gE<=s.aL
 nx:lo<=s.aL
variable{α:Type}
theorem vi{f:α->Bool}{l:List α}{x:α}(h:f x=O):(l++[x]).filter f=l.filter f++[x]:=by
 grind
theorem pA{f:α->Bool}{l:List α}{x:α}(h:f x=I):(l++[x]).filter f=l.filter f:=by
 grind
variable{a:Nat}{o:Obj}{s s':St}
theorem wT.skip{j:ba}{s0:St}{L:df}(c:wT l j p a b lo s0 s L bv)(h1:oJ l o=I)(h2:oq l o=I)(u:∀k,k<s.aL->s'.get [] k=s.get [] k)(T:s'.gE<=s'.aL)(hn:s.aL<=s'.aL)(R:p<lo)(Y:a<lo)(V:b<lo):wT l (j++[o]) p a b lo s0 s' L bv:=by
 have nx:=c.nx;refine⟨(u p w_).trans c.hp,(u a w_).trans c.ma,(u b w_).trans c.mb,by rw[pA h1];exact c.ids,λx M=>?_,?_,λk U H F=>(u k w_).trans (c.old k U H F),T,w_⟩
 let⟨o',y,w⟩:=c.rings x M
 grind
 rw[pA h2];rcases c.bad with h|⟨y,k,w,C,B,z⟩
 exact .inl h;exact .inr ⟨y,k,w,(u k z).trans C,B,w_⟩
theorem axj(b7:Q.spec 103=X pR)(ho:au 6 Obj.val ov l)(hg:∀o∈l,o.AL)(hl:J l<=900000)(hr:∀o∈l,J o.gT<=900000)(f5:(l.map Obj.id).Nodup)(U:p<lo)(c8:a<lo)(c6:b<lo)(d4:p≠a)(e6:p≠b)(f1:a≠b){s0:St}(T:∀e lc s L bv,ac e 3=.ptr p 0->wT l l p a b lo s0 s L bv->K (.exit 2) ⟨e,97,lc⟩ s):
 ∀(rest c:ba)(e:ax)(lc:Ag.Loc)(s:St)(L:df)(bv:aa),l=c++rest->wT l c p a b lo s0 s L bv->
  ac e 3=.ptr p 0->ac e 36=ov->ac e 37=an (J l)->ac e 38=an (J c)->W Q 58 (.loop DK) ⟨e,97,lc⟩ s K:=by
 intro rest
 induction rest with
 |nil=>
  intro c e lc s L bv h1 w h3 b2 a0 Y;have f0:=cL h1;have U:c=l:=by rw[h1];simp
  refine aF ?_;simp only[go_sem,seval,DK,a0,Y,f0,bJ];exact T _ _ _ L bv (by simp only[sN,seval,h3]) (by rw[U]at w;exact w)
 |cons o rest ih=>
  intro c e lc s L bv h1 w h3 b2 a0 Y
  let⟨hlt,hat⟩:=cR h1
  have d5:o∈l:=cq hat;have go:=hg o d5;have rc:=go.gT.gt;have e9:=go.gT.lenS bM;have d7:=λlc k=>ho.at ek.2.2.1 hat lc k;have b0:=cm (n:=J c) w_;have next:∀(e':ax)(d1:Ag.Loc)(s':St)(L':df)(H:aa),wT l (c++[o]) p a b lo s0 s' L' H->ac e' 3=.ptr p 0->ac e' 36=ov->ac e' 37=an (J l)->ac e' 38=an (J c)->W Q 58 (.loop DK) ⟨(e'.set 95 (X (ah ((J c+1:Nat):Int)))).set 38 (X (ah ((J c+1:Nat):Int))),97,d1⟩ s' K:=λe' d1 s' L' H I' e3 f7 f6 a9=>by
   refine ih (c++[o]) _ _ s' L' H (by rw[h1];simp) I' ?_ ?_ ?_ ?_
   all_goals simp_all [sN]
  cases hk:aj o.Al 3 with
  |false=>
   have z:Ak l o=Z:=by unfold Ak;rw[hk];rfl
   have R:oJ l o=false:=by unfold oJ t8;rw[z];rfl
   have M:oq l o=false:=by unfold oq;rw[z]
   refine aF ?_;simp only[go_sem,seval,DK,h3,b2,a0,Y,hlt,d7,b0,hk,Obj.val,Obj.cells];refine next _ _ s L bv (w.skip R M (λ_ _=>rfl) w.mw (aC _) U c8 c6) ?_ ?_ ?_ ?_<;>simp_all [sN]
  |true=>
   refine aF ?_;simp only[go_sem,seval,DK,h3,b2,a0,Y,hlt,d7,hk,Obj.val,Obj.cells,rc,e9];have nx:=w.nx;refine axQ go.gT (hr o d5) (c7:=[.str o.id,ah o.Al,ah o.x,ah o.y,o.refsV,o.tagsV]) (p:=p) (b:=b) (lo:=s.aL) (n:=J l) (i:=J c) (ov:=ov) (av:=.map a) (bv:=bv) (s0:=s) w.hp w.mb w_ w_ ?_ ?_ o.gT [] _ _ s .Ge rfl rfl (.inl R_) (λ_ _=>rfl) w.mw (aC _) ?_ ?_ ?_ ?_ ⟨?_,?_,rfl,?_,?_,?_,?_⟩
   ·intro e1 d0 s1 v V hO C B b5 h8 F
    have z:Ak l o=X (o.gT.map (eV l)):=by unfold Ak;rw[hk,V];rfl
    have vc:=hO.gt;have q1:=LZ hO.isL;have e3:=F.h3;have e7:=F.h7;have f3:=F.q7;have c9:=F.l7;have a9:=F.h38;obtain⟨g,b8⟩:=cw (d0.gen 7);rw[<-f3,b8]at e7 c9;have b1:s1.get [] p=X (.cells [.map a,.map b,bv]):=(C p w_).trans w.hp;cases hs:jR (o.gT.map (eV l))with
    |false=>
     have R:oJ l o=false:=by unfold oJ t8;rw[z];simp[hs]
     have M:oq l o=O:=by unfold oq;rw[z];simp[hs]
     rw[hs]at q1;have e2:bU 1 lo s1 bv (((c.filter (oq l)).map Obj.id).map aw):=by
      rcases w.bad with h|⟨q1,k,q2,q3,q4,q5⟩
      exact .inl h;exact .inr ⟨q1,k,q2,(C k q5).trans q3,q4,w_⟩
     have e0:((c.filter (oq l)).map Obj.id).length<=900000:=by
      rw[bh]
      have:=jF (oq l) c;omega
     let⟨H,s2,a1,a2,a3,a4,a5,a6,a7,a8⟩:=UD (t:=25) bM.1 rfl d_ (enc:=aw) e2 o.id e0 w_ B
     simp only[aw]at a1;have f4:=e2.gt;obtain⟨u,hu⟩:=cw (s1.GE s2);rw[hu]at a2 a5 a6;have un:u.aL=s2.aL:=by rw[<-hu];rfl
     have e4:u.get [] p=X (.cells [.map a,.map b,bv]):=(a6 p U).trans b1;have j:=(du.refl a5:du p u u).putT (X (.cells [.map a,.map b,H]));simp only[go_sem,seval,h8,vc,b7,q1];refine⟨B,?_⟩;have d6:=iZ B;simp only[go_sem,seval,e3,e7,c9,b8,b1,f4,d6,aw,sB,a1,a3,a4,a7,a8,hu,e4,dh,dq,a9,b0];refine next _ _ _ L H ⟨?_,?_,?_,?_,λx T=>?_,?_,λk hk R M=>?_,j.mw,?_⟩ ?_ ?_ ?_ ?_
     rw[j6,aO,bS];rfl;exact(j.old a d4.symm).trans ((a6 a c8).trans ((C a w_).trans w.ma));exact(j.old b e6.symm).trans ((a6 b c6).trans ((C b w_).trans w.mb));rw[pA R];exact w.ids
     let⟨o',q1,q2⟩:=w.rings x T
     grind
     rw[vi M,dj];rcases a2 with⟨c1,c2⟩|⟨c1,k,c2,c3,c4,c5⟩
     simp at c2;exact .inr ⟨c1,k,c2,(j.old k w_).trans c3,c4,by rw[j.aL];exact c5⟩;exact(j.old k R).trans ((a6 k hk).trans ((C k w_).trans (w.old k hk R M)));rw[j.aL,un];omega
     all_goals simp only[sN,seval,F.h3,F.h36,F.h37,F.h38]
    |true=>
     have R:oJ l o=O:=by unfold oJ t8;rw[z];simp[hs]
     have e5:t8 l o=X (o.gT.map (eV l)):=by unfold t8;rw[z];simp[hs]
     have M:oq l o=false:=by unfold oq;rw[z];simp[hs]
     rw[hs]at q1;have f2:bf aa.str s1.top a L:=(C a w_).trans w.ma;have e8:bR o.id L=Z:=by
      rcases hc:bR o.id L with _|v'
      rfl
      let⟨o',c1,c2,_⟩:=w.rings _ (DR hc)
      grind
     have d2:=lY gn BJ f2 o.id v;rw[rS e8]at d2;have j:=(du.refl B:du a s1 s1).putT (X (.map (cX aa.str 0 (L++[(o.id,v)])) (L++[(o.id,v)]).length));simp only[go_sem,seval,h8,vc,b7,q1,e3,e7,c9,b8,b1,d2,a9,b0,B];refine next _ _ _ (L++[(o.id,v)]) bv ⟨?_,?_,?_,?_,λx T=>?_,?_,λk hk R M=>?_,j.mw,?_⟩ ?_ ?_ ?_ ?_
     exact(j.old p d4).trans b1;show ll _ [] a=_;rw[j6,aO,bS];rfl;exact(j.old b f1.symm).trans ((C b w_).trans w.mb);rw[vi R,dj,dj,w.ids];rfl;rcases fJ.1 T with T|T
     let⟨o',q1,q2⟩:=w.rings x T
     grind
     have T:=List.mem_singleton.1 T;subst T;exact⟨o,by simp,rfl,_,e5,hO.isL⟩;rw[pA M];rcases w.bad with h|⟨c1,k,c2,c3,c4,c5⟩
     exact .inl h;exact .inr ⟨c1,k,c2,(j.old k w_).trans ((C k c5).trans c3),c4,by rw[j.aL];omega⟩;exact(j.old k M).trans ((C k w_).trans (w.old k hk R M));rw[j.aL];omega
     all_goals simp only[sN,seval,F.h3,F.h36,F.h37,F.h38]
   ·intro e1 d0 s1 V C B b5 F
    have z:Ak l o=Z:=by unfold Ak;rw[V,kU];rfl
    have R:oJ l o=false:=by unfold oJ t8;rw[z];rfl
    have M:oq l o=false:=by unfold oq;rw[z]
    have a9:=F.h38;simp only[go_sem,seval,a9,b0];refine next _ _ s1 L bv (w.skip R M C B b5 U c8 c6) ?_ ?_ ?_ ?_<;>simp only[sN,seval,F.h3,F.h36,F.h37,F.h38]
   all_goals simp only[sL,seval,h3,b2,a0,Y,bC]
   all_goals rfl
def acF(T:Q.spec 20=X gI)(M:Q.spec 103=X pR)(a0:No Q 58)(w:au 6 Obj.val ov l)(hg:∀o∈l,o.AL)(hl:J l<=900000)(hr:∀o∈l,J o.gT<=900000)(hv:bm l=O)(hm:s.gE<=s.aL):
 ∃v s',ai Q 58 [.agg [ov]] s v s'/\(v=.ptr (s.aL+2) 0/\∃c L bv,wT l l (s.aL+2) s.aL (s.aL+1) (s.aL+3) c s' L bv/\∀k,k<s.aL->c.get [] k=s.get [] k):=by
 have a2:=aab;have C:=w.lenS ek;have F:=w.cs;have B:=rQ hv;have q1:=xP w hg w_;rw[hv]at q1;obtain⟨z,u⟩:=cw ((s.new (.map [] 0)).new (.map [] 0));have V:z.aL=s.aL+2:=by rw[<-u];rfl
 have nn:(s.new (.map [] 0)).aL=s.aL+1:=rfl;obtain⟨y,j⟩:=cw (z.new (.cells [.map s.aL,.map (s.aL+1),.Ge]));have yn:y.aL=s.aL+3:=by rw[<-j];show z.aL+1=_;omega
 have ym:y.gE<=y.aL:=by rw[<-j,<-u];exact co (co (co hm))
 have Y:y.get [] (s.aL+2)=X (.cells [.map s.aL,.map (s.aL+1),.Ge]):=by rw[<-j,<-V];exact cr
 have ya:y.get [] s.aL=X (.map [] 0):=by rw[<-j,cQ w_,<-u,cQ w_];exact cr
 have yb:y.get [] (s.aL+1)=X (.map [] 0):=by rw[<-j,cQ w_,<-u,<-nn];exact cr
 have yo:∀k,k<s.aL->y.get [] k=s.get [] k:=λk R=>by rw[<-j,cQ w_,<-u,cQ w_,cQ R]
 refine ai.ofNRZ atY (aM ?_);simp only[go_sem,seval,C,F,T,q1,jA,nn,u,V,j,sB];refine axF w w_ B (p:=s.aL+2) (b:=s.aL+1) (av:=.map s.aL) (bv:=.Ge) (s0:=y) Y w_ ?_ l [] _ _ y rfl (.refl ym) yb ?_ ?_ ?_ ?_ ?_ ?_ ?_ ?_
 ·intro e lc c U r1 g1 l1 g7 H hM
  have I0:wT l [] (s.aL+2) s.aL (s.aL+1) (s.aL+3) c c [] .Ge:=by
   refine⟨(H.old _ w_).trans Y,(H.old _ w_).trans ya,hM,rfl,λx hx=>(by cases hx),.inl R_,λ_ _ _ _=>rfl,H.mw,by rw[H.aL];omega⟩
  simp only[go_sem,seval,r1,l1,g1,C,F];refine axj M w hg hl hr B (p:=s.aL+2) (a:=s.aL) (b:=s.aL+1) (lo:=s.aL+3) w_ w_ w_ w_ w_ w_ (s0:=c) ?_ l [] _ _ c [] .Ge rfl I0 ?_ ?_ ?_ ?_;intro e2 a1 s2 L bv U a3;simp only[go_sem,seval,U];exact⟨_,rfl,rfl,c,L,bv,a3,λk R=>(H.old k w_).trans (yo k R)⟩
  all_goals simp only[sN,seval,U,bC]
  all_goals rfl
 all_goals simp only[aah,bS,oD,ct,cN,bC]
 all_goals rfl
def aEU:ag.underlying 134=X (.map 9 138):=k_
variable{v:aa}
def agQ(c:No Q 60)(k:ae)(j:v.gt=O)(s:St):ai Q 60 [.str k,v] s (.bool O) s:=by
 refine ai.ofNZ at1 (aM ?_);simp only[go_sem,seval]
variable{bx:Nat}
def axR(hK:∀i,1000000<=Q.kmax i)(H:No Q 60){it:Nat}{L:df}(b1:J L<1000000)(b0:lC L)(c1:it<lo)(c2:a<lo)(d1:a≠it){s0:St}{C:hP}(hx:∀e lc s ov (c:cf),c.Perm (L.map (·.1))->fW 1 s ov (c.map aw)->(∀k,k<lo->k≠it->s.get [] k=s0.get [] k)->lo<=s.aL->s.gE<=s.aL->(∀r,gh ov=X r->lo<=r)->ac e 5=ov->ac e 2=.ptr bx 0->C (.exit 0) ⟨e,30,lc⟩ s):
 ∀(cc:Nat)(seen:be)(e:ax)(lc:Ag.Loc)(s:St)(ov:aa)(c:cf),cc+J seen=J L->ij aa.str s it a L seen->c=seen.map (λb=>(L.getD b ([],.Ge)).1)->fW 1 s ov (c.map aw)->(∀k,k<lo->k≠it->s.get [] k=s0.get [] k)->lo<=s.aL->s.gE<=s.aL->(∀r,gh ov=X r->lo<=r)->ac e 5=ov->ac e 1=.func (.func 60) [] []->ac e 2=.ptr bx 0->ac e 12=.ptr it 0->W Q 59 (.loop QB) ⟨e,30,lc⟩ s C:=by
 intro cc
 induction cc with
 |zero=>
  intro seen e lc s ov c hc a0 u V B T z j Y r1 r2 w;rcases a0.aL Q.ch Q.kmax (λi=>by have:=hK i;omega)with⟨hp,hn⟩|⟨b,p,s1,hb,hnm,hlt,_⟩
  refine aF ?_;simp only[go_sem,seval,QB,w,tF,hn,sB];refine hx _ _ s ov c ?_ V B T z j (by simp only[sN,seval,Y]) (by simp only[sN,seval,r2]);rw[u];refine(hp.map _).trans ?_;have:(ii (J L)).map (λb=>(L.getD b ([],.Ge)).1)=L.map (·.1):=by
   refine List.ext_getElem (by simp) λi h1 h2=>?_;have h2:i<J L:=by simpa using h2
   simp[l8,h2]
  rw[this];omega
 |succ cc ih=>
  intro seen e lc s ov c hc a0 u V B T z j Y r1 r2 w;rcases a0.aL Q.ch Q.kmax (λi=>by have:=hK i;omega)with⟨hp,hn⟩|⟨b,p,s1,hb,hnm,hlt,hn,ho,hi,hn1,hm1⟩
  have:=hp.length_eq;rw[CA]at this;omega
  ·have I1:=a0.go d1 hb hnm ho hi
   have a8:=ij.entry hi I1.hm hb;have R:s1.gE<=s1.aL:=by rw[hm1,hn1];exact cG s it Z z
   have a7:=V.gt
   let⟨r,F⟩:=b0 p (cq hb)
   have pc:=F.gt;have a9:fW 1 s1 ov (c.map aw):=V.mono (λr F=>ho r (by have:=j r F;omega)) w_;have U:J c<1000000:=by rw[u,bh];omega
   let⟨s3,a1,a2,a3,a4,a5,a6⟩:=CO (t:=25) bM.1 rfl d_ (aw p.1) (λy hy=>by
    obtain⟨x,_,rfl⟩:=cy.1 hy;rfl) (by rw[bh];exact U) R a9
   simp only[aw]at a1;refine aF ?_;simp only[go_sem,seval,QB,Y,r1,w,tF,hn,Du,a8,pc,sB];refine aU.of (agQ H p.1 pc s1) d_ ?_;simp only[go_sem,seval,Y,a7,a1,NN,sB];refine ih (seen++[b]) _ _ s3 (.arr 1 s1.aL 0 ((c.map aw).length+1) ((c.map aw).length+1)) (c++[p.1]) (by rw[bI];simp only[bP,bC];omega) ⟨?_,?_,I1.nd,I1.lt⟩ ?_ ?_ (λk hk M=>?_) w_ a5 (λr F=>?_) ?_ ?_ ?_ ?_;rw[a6 it w_ (λe=>by have:=j it e;omega)];exact I1.hi;exact(a6 a w_ (λe=>by have:=j a e;omega)).trans I1.hm;rw[dj,<-u];simp[l8,hb];rw[dj];exact a2;rw[a6 k w_ (λe=>by have:=j k e;omega),ho k M];exact B k hk M;injection F with F
   omega
   all_goals simp only[sN,seval,r1,r2,w,bh]
variable{c2:az}
def aDo(hK:∀i,1000000<=Q.kmax i)(V:No Q 60)(B:Q.spec 104=Z)(F:Q.specW 104=X EL)(b0:No Q 59){L:df}(a4:J L<1000000)(a5:lC L)(hp:s.get [] p=X (.cells (.map a::c2)))(ha:bf aa.str s a L)(pl:p<s.aL)(al:a<s.aL)(a8:s.gE<=s.aL):
 ∃v s',ai Q 59 [.ptr p 0,.func (.func 60) [] []] s v s'/\∃c:cf,c.Perm (L.map (·.1))/\fW 1 s' v (c.map aw)/\(∀k,k<s.aL->s'.get [] k=s.get [] k)/\s.aL<=s'.aL/\s'.gE<=s'.aL/\(∀r,gh v=X r->s.aL<=r):=by
 let⟨z,hz,zn,zm,zo,zb⟩:=oL (.cells [.ptr p 0]) a8
 have zp:=(zo p pl).trans hp;have za:bf aa.str z a L:=(zo a al).trans ha;have a1:=ij.new aEU za;have hI:=ij.begin za w_;obtain⟨u,hu⟩:=cw (z.new (.iter (X a) (J L) [] (J L)));rw[hu]at a1 hI;have un:u.aL=s.aL+2:=by rw[<-hu];show z.aL+1=_;omega
 have uo:∀k,k<z.aL->u.get [] k=z.get [] k:=λk hk=>by rw[<-hu,cQ hk]
 have um:u.gE<=u.aL:=by rw[<-hu];exact co zm
 refine ai.ofNRZ atZ (aM ?_);simp only[go_sem,seval,I6,hz,zb,zp,F7,a1,sB];refine axR hK V (it:=z.aL) (a:=a) (lo:=s.aL+2) (bx:=s.aL) a4 a5 w_ w_ w_ (s0:=u) ?_ (J L) [] _ _ u .Ge [] (by simp) hI rfl (.inl R_) (λ_ _ _=>rfl) w_ um (λr hr=>by cases hr) ?_ ?_ ?_ ?_;intro e lc C ov c w hO a2 b8 M a0 h5 r2;have Y:=hO.gt;have old:∀k,k<s.aL->C.get [] k=s.get [] k:=λk hk=>(a2 k w_ w_).trans ((uo k w_).trans (zo k hk));have c4:J c<1000000:=by rw[w.length_eq,bh];exact a4
 simp only[go_sem,seval,h5,r2,Y,B];have T:∃v R,ai Q 104 [ov,.func (.func 105) [] [.ptr s.aL 0]] C v R/\(v=.tup []/\∃y:cf,y.Perm (L.map (·.1))/\fW 1 R ov (y.map aw)/\(∀k,k<s.aL->R.get [] k=s.get [] k)/\s.aL<=R.aL/\R.gE<=R.aL):=by
  rcases hO with⟨rfl,h0⟩|⟨h0,k,rfl,hg,a9⟩
  have h0:=nX.1 h0;subst h0;exact⟨_,C,ai.specW0 B (Std.H _) F rfl,rfl,[],w,.inl R_,old,w_,M⟩;have c3:=a0 k rfl;have gb:C.get [] s.aL=X (.cells [.ptr p 0]):=(a2 _ w_ w_).trans ((uo _ w_).trans zb);have gp:C.get [] p=X (.cells (.map a::c2)):=(old p pl).trans hp;have ga:C.get [] a=X (.map (cX aa.str 0 L) (J L)):=(old a al).trans ha;have b7:aA (c.map aw).length (c.map aw).length=O:=Nat.beq_refl _;have a3:aP (c.map aw).length 1000000=O:=bG (by rw[bh];omega);have a6:ee (C.get []) (HZ s.aL (c.map aw).length (aq (c.map aw)))=X (.agg ((yg L c).map aw)):=by
   rw[qA];simp only[aaa,HZ,ee,gb,aG,Sm,HN,gp,Ry,ga,akU a5,su,a3,bZ,FB]
  have a7:=(SV L c).trans w;have U:((yg L c).map aw).length=(c.map aw).length:=by rw[bh,bh,(SV L c).length_eq]
  refine⟨_,_,ai.specW (n:=k) (cs':=(yg L c).map aw) B (Std.H _) F rfl hg a6,rfl,yg L c,a7,.inr ⟨λe=>?_,k,?_,?_,a9⟩,λj hj=>?_,?_,cG C k _ M⟩;rw[e]at U;exact h0 (qY U.symm);rw[U];rw[aO,bS,qA];rfl;rw[aO,bN.2 (by omega:j≠k)];exact old j hj;show s.aL<=C.aL;omega
 refine aU.ex T d_ ?_;rintro v R ⟨rfl,y,b1,b2,b3,b4,b5⟩;simp only[go_sem,seval,h5,Y];exact⟨_,rfl,y,b1,b2,b3,b4,b5,λr hr=>by have:=a0 r hr;omega⟩
 all_goals simp only[sN,seval]
variable{xs:az}{sz:Nat}
def CP{t:TypeId}{E:EI}(M:js ag t=X E)(C:E.n=sz)(H:E.b<=88){y x:aa}(h:bU sz lo s ov xs)(B:cU [] E.g E.n y s=X [x])(w:J xs<=900000)(j:lo<=s.aL)(F:s.gE<=s.aL):
 ∃c s',cJ ag [] t ov y I s=X (c,s')/\bU sz lo s' c (xs++[x])/\c.cells=[c]/\s'.aL=s.aL+1/\s'.gE<=s'.aL/\(∀n,n<s.aL->s.get [] n≠X .tok->s'.get [] n=s.get [] n)/\(∀n,n<lo->s'.get [] n=s.get [] n):=by
 let⟨s',a1,a2,a3,a4,a5,a6⟩:=UF M C H h B (by simp) (by rw[uJ];omega) F
 refine⟨_,s',a1,.inr ⟨by simp,s.aL,rfl,a2,j,w_⟩,rfl,a4,a5,λn z R=>a6 n z λk u e=>?_,λn z=>a6 n w_ λk u e=>?_⟩;subst e;exact R (h.token u).2.2
 have:=(h.token u).1;omega
def fh(k:Int)(ids:cf):aa:=.agg [.str [],ah k,.list 1 (ids.map aw) .GT]
structure og (s s':St):Prop where
 old:∀n,n<s.aL->s.get [] n≠some .tok->s'.get [] n=s.get [] n
 nx:s.aL<=s'.aL
 mw:s'.gE<=s'.aL
def og.refl(h:s.gE<=s.aL):og s s:=⟨λ_ _ _=>rfl,aC _,h⟩
def og.app{s1 s2:St}(h:og s s1)(z:s2.aL=s1.aL+1)(j:s2.gE<=s2.aL)(u:∀n,n<s1.aL->s1.get [] n≠X .tok->s2.get [] n=s1.get [] n):og s s2:=by
 have y:=h.nx;refine⟨λn w c=>?_,w_,j⟩;have e:=h.old n w c;rw[u n w_ (by rw[e];exact c),e]
def axk{pv:aa}{B:cf}(hB:au 1 aw bv B)(hl:J B<=900000){s0:St}(hx:∀e lc s ov,bU 3 lo s ov (B.map λi=>fh 3 [i])->og s0 s->lo<=s.aL->ac e 3=pv->ac e 4=ov->K (.exit 0) ⟨e,76,lc⟩ s):
 ∀(rest c:cf)(e:ax)(lc:Ag.Loc)(s:St)(ov:aa),B=c++rest->bU 3 lo s ov (c.map λi=>fh 3 [i])->og s0 s->lo<=s.aL->ac e 3=pv->ac e 4=ov->ac e 19=bv->ac e 20=an (J B)->ac e 21=an (J c)->W Q 25 (.loop P8) ⟨e,76,lc⟩ s K:=by
 intro rest
 induction rest with
 |nil=>
  intro c e lc s ov F C H u h3 Y z j w;have U:=cL F;have T:c=B:=by rw[F];simp
  refine aF ?_;simp only[go_sem,seval,P8,j,w,U,bJ];rw[T]at C;exact hx _ _ _ ov C H u (by simp only[sN,seval,h3]) (by simp only[sN,seval,Y])
 |cons x rest ih=>
  intro c e lc s ov F C H u h3 Y z j w
  let⟨hlt,hat⟩:=cR F
  have V:=λlc k=>hB.at bM.2.2.1 hat lc k;have R:=cm (n:=J c) w_;have M:=C.gt
  let⟨ov',s1,a1,a2,a3,a4,a5,a6,a7⟩:=CP (t:=37) iC.1 rfl d_ (s:=s) (y:=.list 3 [fh 3 [x]] .GT) (x:=fh 3 [x]) C (by simp only[aaa,cU]) (by rw[bh];omega) u H.mw
  have a0:=a2.gt;simp only[fh,cZ,nY,aw]at a1;refine aF ?_;simp only[go_sem,seval,P8,aw,Y,z,j,w,hlt,V,R,M,sB,a1,a3];refine ih (c++[x]) _ _ s1 ov' (by rw[F];simp) (by rw[dj];exact a2) (H.app a4 a5 a6) w_ ?_ ?_ ?_ ?_ ?_
  all_goals simp only[sN,seval,h3,z,j,sA]
def Je(L:df)(q:y_):Bool:=aj (pM (lV L q.1) (lV L q.2)) 0
def lk(L:df)(l:e_):az:=(l.filter (Je L)).map λq=>fh 4 [q.1,q.2]
def Tu(L:df)(a b:e_):lk L (a++b)=lk L a++lk L b:=by
 unfold lk;rw[List.filter_append,dj]
variable{S:cf}
def axO(R:Q.spec 62=X Aj){r:Nat}{L:df}(b2:lC L)(hl:J S<=900000)(hi:i<J S){x:ae}(c7:S[i]?=X x){bse:az}(c9:J bse+J S<=900000){s0:St}(hp:s0.get [] p=X (.cells (.map a::c2)))(ha:bf aa.str s0 a L)(hr:s0.get [] r=X (.cells (S.map aw)))(pl:p<s0.aL)(al:a<s0.aL)(rl:r<s0.aL)(hx:∀e lc s ov,bU 3 lo s ov (bse++lk L ((S.drop (i+1)).map λy=>(x,y)))->og s0 s->lo<=s.aL->ac e 3=.ptr p 0->ac e 4=ov->ac e 7=.arr 1 r 0 (J S) (J S)->ac e 36=.arr 1 r 0 (J S) (J S)->ac e 37=an (J S)->ac e 38=an i->K (.exit 4) ⟨e,76,lc⟩ s):
 ∀(rest c:cf)(e:ax)(lc:Ag.Loc)(s:St)(ov:aa),S.drop (i+1)=c++rest->bU 3 lo s ov (bse++lk L (c.map λy=>(x,y)))->og s0 s->lo<=s.aL->ac e 3=.ptr p 0->ac e 4=ov->ac e 7=.arr 1 r 0 (J S) (J S)->ac e 9=.str x->ac e 36=.arr 1 r 0 (J S) (J S)->ac e 37=an (J S)->ac e 38=an i->ac e 46=.arr 1 r (i+1) (J S-(i+1)) (J S-(i+1))->ac e 47=ah ((J S-(i+1):Nat):Int)->ac e 48=an (J c)->W Q 25 (.loop Kf) ⟨e,76,lc⟩ s K:=by
 intro rest;have b0:(S.drop (i+1)).length=J S-(i+1):=List.length_drop
 induction rest with
 |nil=>
  intro c e lc s ov V Y z w h3 h4 h7 h9 H F C u j B;have c5:J c=J S-(i+1):=by rw[<-b0,V];simp
  have c4:c=S.drop (i+1):=by rw[V];simp
  refine aF ?_;simp only[go_sem,seval,Kf,j,B,c5,bJ];rw[c4]at Y;refine hx _ _ _ ov Y z w ?_ ?_ ?_ ?_ ?_ ?_<;>simp only[sN,seval,h3,h4,h7,H,F,C]
 |cons y rest ih=>
  intro c e lc s ov V Y z w h3 h4 h7 h9 H F C u j B;have T:J c<J S-(i+1):=by rw[<-b0,V];simp
  have c6:S[i+1+J c]?=X y:=by
   have:(S.drop (i+1))[c.length]?=X y:=by rw[V];simp
   rw[List.getElem?_drop]at this;exact this
  have a0:=cm (n:=J c) w_;have a8:=(z.old p pl (by rw[hp];simp)).trans hp;have b1:bf aa.str s a L:=(z.old a al (by rw[show s0.get [] a=_ from ha];simp)).trans ha;have c3:=(z.old r rl (by rw[hr];simp)).trans hr;have a9:zV ag 9 (i+1+J c*1) (s.get [] r)=X (.str y):=by
   rw[c3,qF,uf,yO,AV,ix,c6];rfl
  have hb:bq (J c) (J S-(i+1))=O:=bG T;have M:s.gE<=s.aL:=z.mw;have k1:=r9 gn BJ E5 (s:=s.top) b1 x;have k2:=r9 gn BJ E5 (s:=s.top) b1 y;have r1:=SE b2 x;have r2:=SE b2 y;obtain⟨v1,b8⟩:∃v,(bR x L).getD .Ge=v:=⟨_,rfl⟩;obtain⟨v2,b7⟩:∃v,(bR y L).getD .Ge=v:=⟨_,rfl⟩;rw[b8]at r1 k1;rw[b7]at r2 k2;have c1:=r1.gt;have c2:=r2.gt;have q1:Aj [v1,v2]=X (bu (pM (lV L x) (lV L y))):=by simp only[Aj,qs r1,qs r2,aG]
  have b5:=Y.gt;have c8:(lk L (c.map λy=>(x,y))).length<=J c:=by
   unfold lk;rw[bh];refine dg (jF _ _) ?_;rw[bh];exact aC _
  cases hz:aj (pM (lV L x) (lV L y)) 0 with
  |false=>
   have U:bU 3 lo s ov (bse++lk L ((c++[y]).map λy=>(x,y))):=by
    have:lk L [(x,y)]=[]:=by unfold lk Je;rw[List.filter_cons_of_neg (by rw[hz];exact Bool.false_ne_true)];rfl
    rw[dj,Tu];show bU 3 lo s ov (bse++(_++lk L [(x,y)]));rw[this,jV];exact Y
   refine aF ?_;simp only[go_sem,seval,Kf,h3,h9,u,j,B,T,hb,M,bM,a9,a8,a0,k1,k2,c1,c2,R,q1,bu,hz];refine ih (c++[y]) _ _ s ov (db V) U z w ?_ ?_ ?_ ?_ ?_ ?_ ?_ ?_ ?_ ?_<;>simp only[sN,seval,h3,h4,h7,h9,H,F,C,u,j,sA]
  |true=>
   let⟨ov',s1,a1,a2,a3,a4,a5,a6,a7⟩:=CP (t:=37) iC.1 rfl d_ (s:=s) (y:=.list 3 [fh 4 [x,y]] .GT) (x:=fh 4 [x,y]) Y (by simp only[aaa,cU]) (by rw[bI];omega) w z.mw
   simp only[fh,cZ,nY,aw]at a1;have U:bU 3 lo s1 ov' (bse++lk L ((c++[y]).map λy=>(x,y))):=by
    have:lk L [(x,y)]=[fh 4 [x,y]]:=by unfold lk Je;simp[hz]
    rw[dj,Tu];show bU 3 lo s1 ov' (bse++(_++lk L [(x,y)]));rw[this,<-oX];exact a2
   refine aF ?_;simp only[go_sem,seval,Kf,h3,h9,u,j,B,T,hb,M,bM,a9,a8,a0,k1,k2,c1,c2,R,q1,bu,hz,aw,h4,b5,a1,a3,sB];refine ih (c++[y]) _ _ s1 ov' (by rw[V];simp) U (z.app a4 a5 a6) w_ ?_ ?_ ?_ ?_ ?_ ?_ ?_ ?_ ?_ ?_
   all_goals simp only[sN,seval,h3,h7,h9,H,F,C,u,j,sA]
def RR(e:ax)(x:Operand)(d:Nat):dI e (X x) d=(ev e x).bind dP:=rfl
def RQ(e:ax)(d:Nat):dI e Z d=X d:=rfl
def HF(n o:Nat):cP ag .eql 132 (.ptr n o) .nilp=X (.bool I):=k_
theorem F5(h:aB aH)(k:Int)(ids:cf):b9 h 3 (fh k ids)=X (fh k ids):=by
 have e:b9 h 2 (.list 1 (ids.map aw) .GT)=X (.list 1 (ids.map aw) .GT):=JA h (by rw[B5];rfl) λv c=>by
  obtain⟨x,_,rfl⟩:=cy.1 c;rfl
 show(da (b9 h 2) [.str [],ah k,.list 1 (ids.map aw) .GT]).bind (λr=>X (aa.agg r))=_;rw[rN λv c=>?_];rfl;simp only[dD,List.not_mem_nil,or_false]at c;rcases c with rfl|rfl|rfl
 rfl;rfl;exact e
def LK(l:ba)(k:ae):oa:=(vR l k).getD []
def Jc(l:ba)(q:y_):Bool:=aj (pM (LK l q.1) (LK l q.2)) 0
def wY(l:ba):cf:=(l.filter (oq l)).map Obj.id
def kK(l:ba):cf:=(l.filter (oJ l)).map Obj.id
def vD(l:ba):az:=(wY l).map (λi=>fh 3 [i])++((vP (kK l)).filter (Jc l)).map λq=>fh 4 [q.1,q.2]
def E4(l:ba):aa:=fG 3 (vD l)
theorem RB{α:Type}{q:α×α}:∀{l:List α},q∈vP l->q.1∈l/\q.2∈l
 |[],h=>by cases h
 |a::l,h=>by
  rcases fJ.1 h with h|h
  grind
  have:=RB h
  grind
theorem Sh{α:Type}:∀l:List α,(vP l).length<=J l*J l
 |[]=>aC _
 |a::l=>by
  have:=Sh l
  grind [vP,Nat.succ_mul,Nat.mul_succ]
theorem ad0(w:(l.map Obj.id).Nodup){L:df}(hi:L.map (·.1)=kK l)(u:∀x∈L,∃o∈l,x.1=o.id/\∃r,t8 l o=X r/\au 2 aX x.2 r){k:ae}(c:k∈kK l):lV L k=LK l k:=by
 rw[<-hi]at c;rcases e:bR k L with _|v
 obtain⟨x,j,rfl⟩:=cy.1 c;exfalso;have:∀{M:df},x∈M->bR x.1 M≠Z:=by
  intro M
  induction M with
  |nil=>intro h;cases h
  |cons y M z=>
   grind [bR]
 exact this j e
 let⟨o,ho,h1,r,h2,h3⟩:=u _ (DR e)
 grind [lV,LK,vR,Ea,qs]
theorem aqQ(h:bm l=O)(p:Obj->Bool){c:cf}(y:c.Perm ((l.filter p).map Obj.id)):ja c=(l.filter p).map Obj.id:=by
 simp only[bm,bg]at h;have u:(l.map (·.id)).Pairwise (λa b=>kz a b=O):=(xu l [] h.1).2.imp λw=>by
  grind [Go.Proofs.bytesLess_eq,kz]
 have j:((l.filter p).map Obj.id).Pairwise (λa b=>kz a b=O):=u.sublist (List.filter_sublist.map _)
 grind [List.Perm.eq_of_pairwise,kz,SX,Cj]
def axM(U:Q.spec 62=X Aj){r:Nat}{L:df}(a7:lC L){tot:az}(b0:J tot+J S<=900000){s0:St}(hp:s0.get [] p=X (.cells (.map a::c2)))(ha:bf aa.str s0 a L)(hr:s0.get [] r=X (.cells (S.map aw)))(pl:p<s0.aL)(al:a<s0.aL)(rl:r<s0.aL)(hx:∀e lc s ov,bU 3 lo s ov tot->og s0 s->ac e 4=ov->K (.exit 2) ⟨e,76,lc⟩ s):
 ∀(rest c:cf)(e:ax)(lc:Ag.Loc)(s:St)(ov:aa)(j:az),S=c++rest->j++lk L (vP rest)=tot->bU 3 lo s ov j->og s0 s->lo<=s.aL->ac e 3=.ptr p 0->ac e 4=ov->ac e 7=.arr 1 r 0 (J S) (J S)->ac e 36=.arr 1 r 0 (J S) (J S)->ac e 37=an (J S)->ac e 38=an (J c)->W Q 25 (.loop GG) ⟨e,76,lc⟩ s K:=by
 intro rest
 induction rest with
 |nil=>
  intro c e lc s ov j V y hO Y C h3 h4 h7 T w u;have a3:=cL V;refine aF ?_;simp only[go_sem,seval,GG,w,u,a3,bJ];have y:j=tot:=by rw[<-y];exact(jV j).symm
  subst y;exact hx _ _ _ ov hO Y (by simp only[sN,seval,h4])
 |cons x rest ih=>
  intro c e lc s ov j V y hO Y C h3 h4 h7 T w u
  let⟨hlt,hat⟩:=cR V
  have M:S.drop (J c+1)=rest:=by rw[V];simp
  have b1:J j<=J tot:=by rw[<-y,bI];omega
  have z:=cm (n:=J c) w_;have a1:=(Y.old r rl (by rw[hr];simp)).trans hr;have H:zV ag 9 (0+J c*1) (s.get [] r)=X (.str x):=by
   rw[a1,qF,uf,yO,dS,AV,ix,hat];rfl
  rw[dS]at H;have hb:bq (J c) (J S)=O:=bG hlt;have a6:aP (J c+1) (J S)=O:=bG hlt;have a5:aP (J S) (J S)=O:=bG (aC _);have F:J c+1<=J S:=hlt;have a2:dP (ah (((J c+1:Nat):Int)))=X (J c+1):=rfl;refine aF ?_;simp only[go_sem,seval,GG,h3,h7,T,w,u,hlt,hb,bM,H];simp only[go_sem,seval,GG,h7,u,z,a6,a5,F,a2,ado,L5,RR,RQ,zU,yO,aC];refine axO U a7 (i:=J c) (x:=x) (S:=S) w_ hlt hat (bse:=j) w_ (s0:=s0) hp ha hr pl al rl ?_ rest [] _ _ s ov M (by show bU 3 lo s ov (j++[]);rw[jV];exact hO) Y C ?_ ?_ ?_ ?_ ?_ ?_ ?_ ?_ ?_ ?_
  ·intro e1 a9 s1 a0 R a4 B g3 g4 g7 b5 b2 a8
   rw[M]at R;simp only[go_sem,seval,a8,z];refine ih (c++[x]) _ _ s1 a0 _ (db V) ?_ R a4 B ?_ ?_ ?_ ?_ ?_ ?_;rw[oX,<-Tu];exact y
   all_goals simp_all [sN]
  all_goals simp_all [sN]
  all_goals rfl
theorem ai8(hK:∀i,1000000<=Q.kmax i)(f4:Q.spec 20=X gI)(d1:Q.spec 103=X pR)(d2:Q.spec 62=X Aj)(b0:No Q 58)(a8:No Q 60)(d0:Q.spec 104=Z)(a7:Q.specW 104=X EL)(F:Q.spec 61=Z)(T:Q.specW 61=X uj)(a9:No Q 59)(g0:No Q 25)(ho:au 6 Obj.val ov l)(hg:∀o∈l,o.AL)(hl:J l<=900)(hr:∀o∈l,J o.gT<=999)(hv:bm l=O)(hm:s.gE<=s.aL):
 ∃v s',ai Q 25 [.agg [ov]] s v s'/\fF s'.heap v (E4 l):=by
 have f0:=ho.cs;have c5:=rQ hv;refine ai.ofNRZ atl (aM ?_);simp only[go_sem,seval,f0,sB];refine aU.ex (acF f4 d1 b0 ho hg w_ (λo ho=>by have:=hr o ho;omega) hv hm) d_ ?_;rintro v V ⟨rfl,s1,L,bv,u,f7⟩;have nx:=u.nx;have a5:=u.bad.isL;have f6:=a5.gt;have f1:=a5.lenS bM;have g8:(wY l).length<=900:=by unfold wY;rw[bh];have:=jF (oq l) l;omega
 have a3:=u.hp;have c9:lC L:=λx hx=>let⟨_,_,_,r,_,h⟩:=u.rings x hx;⟨r,h⟩
 have f3:J L<=900:=by
  have:=congrArg List.length u.ids;rw[bh,bh]at this
  have:=jF (oJ l) l;omega
 have np:(aa.ptr (s.aL+2) 0)=.ptr (s.aL+2) 0:=rfl;have f5:(aa.nilp).gt=O:=rfl;simp only[go_sem,seval,a3,f6,f1,f5,HF,sB];refine axk a5 (by show(wY l).length<=_;omega) (lo:=V.aL) (s0:=V) (pv:=.ptr (s.aL+2) 0) ?_ _ [] _ _ V .Ge rfl (.inl R_) (.refl u.mw) (aC _) ?_ ?_ ?_ ?_ ?_
 ·intro e lc s3 Y f2 a4 f8 e3 e4
  have b1:=(a4.old (s.aL+2) w_ (by rw[a3];simp)).trans a3;have c3:bf aa.str s3 s.aL L:=(a4.old s.aL w_ (by rw[show V.get [] s.aL=_ from u.ma];simp)).trans u.ma;have d4:=aDo hK a8 d0 a7 a9 w_ c9 b1 c3 w_ w_ a4.mw;simp only[go_sem,seval,e3,sB];refine aU.ex d4 d_ ?_;rintro v s4 ⟨c,C,hrow,b5,b7,b8,c4⟩;have vc:=hrow.gt;have f9:J c<=900:=by rw[C.length_eq,bh];exact f3
  have hS:ja c=kK l:=aqQ hv (oJ l) (by rw[<-u.ids];exact C);have a1:∃w y,ai Q 61 [v] s4 w y/\(w=.tup []/\fW 1 y v ((kK l).map aw)/\(∀k,k<s3.aL->y.get [] k=s3.get [] k)/\s3.aL<=y.aL/\y.gE<=y.aL):=by
   rcases hrow with⟨rfl,R⟩|⟨R,k,rfl,c7,e7⟩
   have R:=nX.1 R;subst R;exact⟨_,s4,ai.specW0 F (Std.H _) T rfl,rfl,.inl ⟨rfl,by rw[<-hS];rfl⟩,b5,b7,b8⟩;have g6:=c4 k rfl;have g5:(ja c).length=J c:=(Cj c).length_eq;have c8:bq (c.map aw).length 1000001=O:=bG (by rw[bh];omega);rw[qA]at c7;have e5:ee (s4.get []) (su (bif aA (c.map aw).length (c.map aw).length&&bq (c.map aw).length 1000001 then(rB (c.map aw)).bind λl=>X ((ja l).map aw)else Z))=X (.agg ((ja c).map aw)):=by
    rw[c8,Nat.beq_refl,bZ,cT,FB];rfl
   refine⟨_,_,ai.specW (n:=k) (cs':=(ja c).map aw) F (Std.H _) T rfl c7 e5,rfl,.inr ⟨λe=>?_,k,?_,?_,e7⟩,λj hj=>?_,?_,cG s4 k _ b8⟩
   grind [bh]
   grind
   rw[aO,bS,hS,qA];rfl
   grind [aO]
   exact b7
  simp only[go_sem,seval,vc,F,sB];refine aU.ex a1 d_ ?_;rintro w y ⟨rfl,a2,z,g2,d7⟩;have a6:bU 3 V.aL y Y ((wY l).map λi=>fh 3 [i]):=by
   rcases f2 with h|⟨q1,k,q2,q3,q4,q5⟩
   exact .inl h;exact .inr ⟨q1,k,q2,(z k q5).trans q3,q4,w_⟩
  have d5:=(z (s.aL+2) w_).trans b1;have e0:bf aa.str y s.aL L:=(z s.aL w_).trans c3;have hid:(kK l).length<=900:=by unfold kK;rw[bh];have:=jF (oJ l) l;omega
  have B:(wY l).map (λi=>fh 3 [i])++lk L (vP (kK l))=vD l:=by
   unfold vD lk;congr 2;refine List.filter_congr λq hq=>?_
   let⟨m1,m2⟩:=RB hq
   unfold Je Jc;rw[ad0 c5 u.ids u.rings m1,ad0 c5 u.ids u.rings m2]
  have e1:(vD l).length+(kK l).length<=900000:=by
   unfold vD;rw[bI,bh,bh];have h1:=jF (Jc l) (vP (kK l));have h2:=Sh (kK l);have h3:(kK l).length*(kK l).length<=900*900:=n7 hid hid;omega
  have d6:=a6.gt;have U:∀(s':St)(a0:aa),bU 3 V.aL s' a0 (vD l)->fF s'.heap a0 (E4 l):=λs' a0 hO=>by
   refine⟨4,Bs hO λv hv=>?_⟩
   grind [F5,vD]
  rcases a2 with⟨rfl,R⟩|⟨R,r,rfl,c6,e2⟩
  have R:=nX.1 R;rw[R]at B;have M:bU 3 V.aL y Y (vD l):=by rw[<-B];simpa[lk,vP]using a6
  simp only[go_sem,seval,bM,sB];refine aF ?_;have e9:aR (0:Int) ((0:Nat):Int)=I:=rfl;have e8:aR (0:Int) 0=I:=rfl;simp only[go_sem,seval,GG,bJ,e4,d6,e9,e8];exact⟨_,rfl,U _ _ M⟩
  ·rw[bh]
   rw[qA]at c6;simp only[go_sem,seval,zU,sB];refine axM d2 c9 (S:=kK l) (lo:=V.aL) (tot:=vD l) e1 (s0:=y) d5 e0 c6 w_ w_ e2 ?_ (kK l) [] _ _ y Y _ rfl B a6 (.refl d7) w_ ?_ ?_ ?_ ?_ ?_ ?_;intro e6 g3 s6 g1 M g7 g4;have b2:=M.gt;simp only[go_sem,seval,g4,b2];exact⟨_,rfl,U _ _ M⟩
   all_goals simp_all [sN]
   all_goals rfl
 all_goals simp only[aah,bS,oD,ct,cN,bC]
 all_goals rfl
def Ua:dy:=[(20,gI),(103,pR),(62,Aj)]
def agb:eh Ua:=.cons vB (.cons L0 (.cons aBE .nil))
noncomputable def Ur:qp:=[(104,EL),(61,uj)]
def agq:rk Ur:=.cons aDa (.cons aeJ .nil)
def D7:Sp
 |[v]=>(kY v).bind λl=>bif my l then X (E4 l)else Z
 |_=>Z
def axt:cW ag 25 D7:=by
 intro args u c G h w xs C F;unfold D7 at c;split at c;simp only[ak]at c
 let⟨l,z,c⟩:=c
 let⟨j,c⟩:=aZ c
 have c:=sI c;subst c;obtain⟨v,rfl,z,B,M⟩:=qr z
 let⟨ht,v',y,hl'⟩:=pJ z B
 have y:di [.agg [v]]=[.agg [v']]:=by simp only[di,y]
 have j:=oC.1 j;refine iQ agb agq (args:=[.agg [v]]) (by simp only[dR,ht,bZ]) (λH=>?_) G h w xs C F;rw[y];exact ai8 (Q:=QW Ua Ur H) (λ_=>aC _) rfl rfl rfl R_ R_ rfl rfl rfl rfl R_ R_ hl' B j.len j.gT j.valid d_;cases c
theorem G8(f:Obj->Bool)(g:Obj->aa)(k:ae):∀{l:ba},(l.map Obj.id).Nodup->bR k ((l.filter f).map λo=>(o.id,g o))=(cD k l).bind λq=>bif f q then X (g q)else Z
 |[],_=>rfl
 |o::l,h=>by
  have c:=List.nodup_cons.1 h;have j:=G8 f g k (l:=l) c.2
  grind [cD,bR,BP]
def JP(o:Obj):Bool:=aj o.Al 1
def BB(l:ba)(o:Obj):Bool:=aj o.Al 2&&o.gT.all (dH l)
def ni(l:ba):df:=(l.filter JP).map λo=>(o.id,aX (o.x,o.y))
def mP(l c:ba):df:=(c.filter (BB l)).map λo=>(o.id,o.refsV)
def adx(h:(l.map Obj.id).Nodup)(k:ae):∃z,iu (.agg [ah 0,ah 0]) (bR k (ni l))=.tup [.agg z,.bool (dH l k)]/\J z=2/\dl z=O:=by
 unfold ni;rw[G8 _ _ _ h];unfold dH m7;rcases e:cD k l with _|q
 exact⟨_,rfl,rfl,rfl⟩;simp only[aG,JP];cases hk:aj q.Al 1;exact⟨_,rfl,rfl,rfl⟩;exact⟨_,rfl,rfl,rfl⟩
variable{c0:aa}
theorem axP(ho:au 6 Obj.val ov l)(hl:J l<=1000000)(H:(l.map Obj.id).Nodup){c2:aa}{s0:St}(hb:s0.get [] bx=X (.cells [.ptr p 0]))(hp:s0.get [] p=X (.cells [c0,.map a,c2]))(Y:p≠a)(a4:bx≠a)(hx:∀e lc s,ac e 4=.ptr bx 0->ac e 1=.Gt 1 1 0->lc.gen 1=1->lc.get 1 1=X [ov]->du a s0 s->bf aa.str s a (ni l)->K (.exit 0) ⟨e,64,lc⟩ s):
 ∀(rest c:ba)(e:ax)(lc:Ag.Loc)(s:St),l=c++rest->du a s0 s->bf aa.str s a (ni c)->
  ac e 4=.ptr bx 0->ac e 1=.Gt 1 1 0->lc.gen 1=1->lc.get 1 1=X [ov]->ac e 19=ov->ac e 20=an (J l)->ac e 21=an (J c)->W Q 63 (.loop Kx) ⟨e,64,lc⟩ s K:=by
 intro rest
 induction rest with
 |nil=>
  intro c e lc s C hb T h4 r1 g1 l1 B w u;have a2:=cL C;have V:c=l:=by rw[C];simp
  refine aF ?_;simp only[go_sem,seval,Kx,w,u,a2,bJ];exact hx _ _ _ (by simp only[sN,seval,h4]) (by simp only[sN,seval,r1]) g1 l1 hb (by rw[<-V];exact T)
 |cons o rest ih=>
  intro c e lc s C j T h4 r1 g1 l1 B w u
  let⟨hlt,hat⟩:=cR C
  have R:=λlc k=>ho.at ek.2.2.1 hat lc k;have F:=cm (n:=J c) w_;cases hk:aj o.Al 1 with
  |false=>
   have e1:ni (c++[o])=ni c:=by unfold ni;rw[pA (f:=JP) hk]
   refine aF ?_;simp only[go_sem,seval,Kx,B,w,u,hlt,R,F,hk,Obj.val,Obj.cells];refine ih (c++[o]) _ _ s (db C) j (by rw[e1];exact T) ?_ ?_ ?_ ?_ ?_ ?_ ?_
   all_goals simp_all [sL]
  |true=>
   have a0:bR o.id (ni c)=Z:=by
    rw[C,dj]at H;unfold ni;rw[G8 _ _ _ (CB.1 H).1,BP];rfl
    grind
   have a3:s.get [] bx=X (.cells [.ptr p 0]):=(j.old bx a4).trans hb;have U:s.get [] p=X (.cells [c0,.map a,c2]):=(j.old p Y).trans hp;have a1:bf aa.str s.top a (ni c):=T;have z:=lY gn KW a1 o.id (aX (o.x,o.y));have M:dp o.id (aX (o.x,o.y)) (ni c)=ni (c++[o]):=by
    rw[rS a0];unfold ni;rw[vi (f:=JP) hk,dj];rfl
   rw[M]at z;simp only[aX]at z;refine aF ?_;simp only[go_sem,seval,Kx,h4,B,w,u,hlt,R,F,hk,a3,U,j.mw,Obj.val,Obj.cells,z];refine ih (c++[o]) _ _ _ (db C) (j.putT _) ?_ ?_ ?_ ?_ ?_ ?_ ?_ ?_;show ll _ [] a=_;rw[j6,aO,bS];rfl
   all_goals simp_all [sL]
def axl(u:No Q 112)(j:(l.map Obj.id).Nodup){c2:aa}(y:s.get [] bx=X (.cells [.ptr p 0]))(w:s.get [] p=X (.cells [c0,.map a,c2]))(B:bf aa.str s a (ni l))(id:ae):ai Q 112 [.str id,.ptr bx 0] s (.bool (!dH l id)) s:=by
 have c:=nM gn KW Mz B id
 let⟨z,hz,h2,h3⟩:=adx j id
 rw[hz]at c;obtain⟨F,C,rfl⟩:∃a b,z=[a,b]:=by
  match z,h2 with
  |[a,b],_=>exact⟨a,b,rfl⟩
 refine ai.ofNZ arR (aM ?_);simp only[go_sem,seval,y,w,c]
theorem axU(T:No Q 135)(U:No Q 88)(z:No Q 112)(ho:au 6 Obj.val ov l)(hg:∀o∈l,o.AL)(hl:J l<=1000000)(hr:∀o∈l,J o.gT<=1000000)(H:(l.map Obj.id).Nodup){s0:St}(hb:s0.get [] bx=X (.cells [.ptr p 0]))(hp:s0.get [] p=X (.cells [c0,.map a,.map b]))(ha:bf aa.str s0 a (ni l))(a6:p≠b)(b1:bx≠b)(b5:a≠b)(hx:∀e lc s,ac e 4=.ptr bx 0->du b s0 s->bf aa.str s b (mP l l)->K (.exit 2) ⟨e,64,lc⟩ s):
 ∀(rest c:ba)(e:ax)(lc:Ag.Loc)(s:St),l=c++rest->du b s0 s->bf aa.str s b (mP l c)->
  ac e 4=.ptr bx 0->ac e 38=ov->ac e 39=an (J l)->ac e 40=an (J c)->W Q 63 (.loop Ky) ⟨e,64,lc⟩ s K:=by
 intro rest
 induction rest with
 |nil=>
  intro c e lc s C hb R B y u w;have b0:=cL C;have a5:c=l:=by rw[C];simp
  refine aF ?_;simp only[go_sem,seval,Ky,u,w,b0,bJ];exact hx _ _ _ (by simp only[sN,seval,B]) hb (by rw[a5]at R;exact R)
 |cons o rest ih=>
  intro c e lc s C j R B y u w
  let⟨hlt,hat⟩:=cR C
  have a1:=cq hat;have go:=hg o a1;have rc:=go.gT.gt;have a3:=λlc k=>ho.at ek.2.2.1 hat lc k;have F:=cm (n:=J c) w_;have a4:s.get [] bx=X (.cells [.ptr p 0]):=(j.old bx b1).trans hb;have a0:s.get [] p=X (.cells [c0,.map a,.map b]):=(j.old p a6).trans hp;have b2:bf aa.str s a (ni l):=(j.old a b5).trans ha;have Y:=Gc T U go.gT (hr o a1) z.s (s:=s) (cap:=[.ptr bx 0]) (p:=λx=> !dH l x) λx _=>axl z H a4 a0 b2 x;have skip:BB l o=I->mP l (c++[o])=mP l c:=λh=>by unfold mP;rw[pA h]
  cases hk:aj o.Al 2 with
  |false=>
   have e1:=skip (by unfold BB;rw[hk];rfl);refine aF ?_;simp only[go_sem,seval,Ky,B,y,u,w,hlt,a3,F,hk,Obj.val,Obj.cells];refine ih (c++[o]) _ _ s (db C) j (by rw[e1];exact R) ?_ ?_ ?_ ?_
   all_goals simp only[sN,seval,B,y,u,sA]
  |true=>
   refine aF ?_;simp only[go_sem,seval,Ky,B,y,u,w,hlt,a3,hk,Obj.val,Obj.cells,rc];refine aU.of Y d_ ?_;cases hn:o.gT.all (dH l)with
   |false=>
    have e1:=skip (by unfold BB;rw[hn,kU]);have M:(o.gT.any λx=> !dH l x)=O:=by
     have:=CN (dH l) o.gT;rw[hn]at this;simpa using this
    simp only[go_sem,seval,w,F,M];refine ih (c++[o]) _ _ s (db C) j (by rw[e1];exact R) ?_ ?_ ?_ ?_
    all_goals simp only[sN,seval,B,y,u,sA]
   |true=>
    have hw:BB l o=O:=by unfold BB;rw[hk,hn];rfl
    have M:(o.gT.any λx=> !dH l x)=I:=by
     have:=CN (dH l) o.gT;rw[hn]at this;simpa using this
    have a7:bR o.id (mP l c)=Z:=by
     rw[C,dj]at H;unfold mP;rw[G8 _ _ _ (CB.1 H).1,BP];rfl
     grind
    have a9:bf aa.str s.top b (mP l c):=R;have V:=lY gn D2 a9 o.id o.refsV;have a2:dp o.id o.refsV (mP l c)=mP l (c++[o]):=by
     rw[rS a7];unfold mP;rw[vi hw,dj];rfl
    rw[a2]at V;have a8:=j.mw;simp only[go_sem,seval,w,F,M,B,a4,a0,rc,V,a8];refine ih (c++[o]) _ _ _ (db C) (j.putT _) ?_ ?_ ?_ ?_ ?_;show ll _ [] b=_;rw[j6,aO,bS];rfl
    all_goals simp only[sN,seval,B,y,u,sA]
structure sX (l:ba) (ov:aa) (p a b:Nat) (s:St):Prop where
 hp:s.get [] p=some (.cells [ov,.map a,.map b])
 ma:bf aa.str s a (ni l)
 mb:bf aa.str s b (mP l l)
def sX.mono(h:sX l ov p a b s)(c:∀k,k<n->s'.get [] k=s.get [] k)(j:p<n)(w:a<n)(u:b<n):sX l ov p a b s':=
 ⟨(c p j).trans h.hp,(c a w).trans h.ma,(c b u).trans h.mb⟩
theorem Tw(j:(l.map Obj.id).Nodup)(u:∀o∈l,o.AL)(w:∀o∈l,aj o.Al 2=O->2<=J o.gT)(k:ae):(jU l k=Z/\(bR k (mP l l)).getD .Ge=.Ge)\/∃r,jU l k=X r/\2<=J r/\∃v,(bR k (mP l l)).getD .Ge=v/\au 1 aw v r/\bn v=O:=by
 unfold mP jU;rw[G8 _ _ _ j];rcases e:cD k l with _|q
 exact .inl R_;have c:=(oN e).1;simp only[aG,BB];cases hk:(aj q.Al 2&&q.gT.all (dH l));exact .inl R_;refine .inr ⟨q.gT,rfl,w q c ?_,q.refsV,rfl,(u q c).gT,(u q c).pr⟩
 grind
def aez:cP ag .eql 25 .Ge .Ge=X (.bool O):=k_
def aC3(n:Nat)(xs:az)(r:gV):cP ag .eql 25 (.list n xs r) .Ge=X (.bool I):=k_
def Gm{enc:α->aa}{l:List α}(h:au n enc v l):v.cells=[v]:=by
 rcases h with⟨rfl,_⟩|⟨k,rfl⟩<;>rfl
def aC4(v:aa)(r:cf)(c:au 1 aw v r)(h:2<=J r):cP ag .eql 25 v .Ge=X (.bool I):=by
 rcases c with⟨_,rfl⟩|⟨k,rfl⟩
 simp at h;exact aC3 _ _ _
theorem ax7(a2:Q.spec 20=X gI)(B:No Q 135)(F:No Q 88)(C:No Q 112)(a4:No Q 63)(j:au 6 Obj.val ov l)(hg:∀o∈l,o.AL)(hl:J l<=900000)(hr:∀o∈l,J o.gT<=900000)(hv:bm l=O)(hm:s.gE<=s.aL):
 ∃v s',ai Q 63 [.agg [ov]] s v s'/\(v=.tup [.ptr (s.aL+2) 0,.bool O]/\sX l ov (s.aL+2) s.aL (s.aL+1) s'/\(∀k,k<s.aL->s'.get [] k=s.get [] k)/\s'.aL=s.aL+4/\s'.gE<=s'.aL):=by
 have a6:=aab;have R:=j.lenS ek;have T:=j.cs;have a1:=Gm j;have M:=rQ hv;have q1:=xP j hg w_;rw[hv]at q1;obtain⟨z,H⟩:=cw ((s.new (.map [] 0)).new (.map [] 0));have zn:z.aL=s.aL+2:=by rw[<-H];rfl
 have nn:(s.new (.map [] 0)).aL=s.aL+1:=rfl;obtain⟨y,u⟩:=cw (z.new (.cells [ov,.map s.aL,.map (s.aL+1)]));have yn:y.aL=s.aL+3:=by rw[<-u];show z.aL+1=_;omega
 obtain⟨x,U⟩:=cw ((y.new (.cells [.nilp])).put (s.aL+3) (X (.cells [.ptr (s.aL+2) 0])));have a0:(y.new (.cells [.nilp])).get [] (s.aL+3)=X (.cells [.nilp]):=by rw[<-yn];exact cr
 have xn:x.aL=s.aL+4:=by rw[<-U];show y.aL+1=_;omega
 have V:∀k,k<s.aL+3->x.get [] k=y.get [] k:=λk hk=>by grind [aO,cQ]
 have xb:x.get [] (s.aL+3)=X (.cells [.ptr (s.aL+2) 0]):=by rw[<-U,aO,bS];rfl
 have xp:x.get [] (s.aL+2)=X (.cells [ov,.map s.aL,.map (s.aL+1)]):=by rw[V _ w_,<-u,<-zn];exact cr
 have xa:x.get [] s.aL=X (.map [] 0):=by rw[V _ w_,<-u,cQ w_,<-H,cQ w_];exact cr
 have xw:x.get [] (s.aL+1)=X (.map [] 0):=by rw[V _ w_,<-u,cQ w_,<-H,<-nn];exact cr
 have xs:∀k,k<s.aL->x.get [] k=s.get [] k:=λk hk=>by grind [cQ]
 have xm:x.gE<=x.aL:=by
  rw[<-U];refine cG _ _ _ ?_;rw[<-u,<-H];exact co (co (co (co hm)))
 refine ai.ofNRZ at7 (aM ?_);have a3:(aa.nilp).cells=[.nilp]:=rfl;simp only[go_sem,seval,a3,R,T,a1,a2,q1,jA,I6,nn,H,zn,u,yn,dh,a0,dq,U,sB];refine axP j w_ M (p:=s.aL+2) (a:=s.aL) (bx:=s.aL+3) (c0:=ov) (c2:=.map (s.aL+1)) (s0:=x) xb xp w_ w_ ?_ l [] _ _ x rfl (.refl xm) xa ?_ ?_ ?_ ?_ ?_ ?_ ?_
 ·intro e lc Y e4 r1 g1 l1 w hM
  have b1:=(w.old (s.aL+3) w_).trans xb;have p1:=(w.old (s.aL+2) w_).trans xp;have w1:bf aa.str Y (s.aL+1) (mP l []):=(w.old (s.aL+1) w_).trans xw;simp only[go_sem,seval,r1,l1,g1,R,T];refine axU B F C j hg w_ (λo j=>by have:=hr o j;omega) M (p:=s.aL+2) (a:=s.aL) (b:=s.aL+1) (bx:=s.aL+3) (c0:=ov) (s0:=Y) b1 p1 hM w_ w_ w_ ?_ l [] _ _ Y rfl (.refl w.mw) w1 ?_ ?_ ?_ ?_;intro e2 a5 s2 e4 c hW;have b2:=(c.old (s.aL+3) w_).trans b1;simp only[go_sem,seval,e4,b2];exact⟨_,rfl,rfl,⟨(c.old (s.aL+2) w_).trans p1,(c.old s.aL w_).trans hM,hW⟩,λk hk=>(c.old k w_).trans ((w.old k w_).trans (xs k hk)),by rw[c.aL,w.aL,xn],c.mw⟩
  all_goals simp_all [sN]
 all_goals simp only[aah,bS,oD,ct,cN,bC]
 all_goals rfl
theorem aC8(hg:∀o∈l,o.AL)(a3:(l.map Obj.id).Nodup)(hw:∀o∈l,aj o.Al 2=O->2<=J o.gT)(N:sX l ov p a b s)(go:o.AL)(hr:J o.gT<=900000)(ht:uq l o=O->∀e lc,K (.exit 0) ⟨e,43,lc⟩ s)(hf:uq l o=I->∀e lc,ac e 4=.bool I->K .ret ⟨e,43,lc⟩ s):
 ∀(rest c:cf)(e:ax)(lc:Ag.Loc),o.gT=c++rest->((ii (J c)).zip c).all (λq=>bif aj o.Al 5&&q.1==1 then dH l q.2 else(jU l q.2).isSome)=O->ac e 0=.ptr p 0->ac e 3=.Gt 3 1 0->lc.get 3 1=X o.cells->lc.gen 3=1->ac e 10=o.refsV->ac e 11=an (J o.gT)->ac e 12=an (J c)->W Q 64 (.loop xK) ⟨e,43,lc⟩ s K:=by
 have step:∀(c rest:cf)(r:ae),o.gT=c++r::rest->((ii (J c)).zip c).all (λq=>bif aj o.Al 5&&q.1==1 then dH l q.2 else(jU l q.2).isSome)=O->((bif aj o.Al 5&&J c==1 then dH l r else(jU l r).isSome)=O->((ii (c++[r]).length).zip (c++[r])).all (λq=>bif aj o.Al 5&&q.1==1 then dH l q.2 else(jU l q.2).isSome)=O)/\((bif aj o.Al 5&&J c==1 then dH l r else(jU l r).isSome)=I->uq l o=I):=by
  intro c rest r Y h2;have e1:(ii (c++[r]).length).zip (c++[r])=(ii (J c)).zip c++[(J c,r)]:=by
   rw[bI,bP,bC,List.range_succ,List.zip_append (by simp)];rfl
  refine⟨λh=>by grind,λh=>?_⟩;unfold uq;have hm:(J c,r)∈(ii (J o.gT)).zip o.gT:=by
   refine cq (i:=J c) ?_;rw[MI];refine⟨?_,by rw[Y];simp⟩;rw[List.getElem?_range];rw[Y];simp
  cases hc:((ii (J o.gT)).zip o.gT).all λp=>bif aj o.Al 5&&p.1==1 then dH l p.2 else(jU l p.2).isSome
  rfl
  grind
 intro rest
 induction rest with
 |nil=>
  intro c e lc Y h2 T R H U w u y;have a4:=cL Y;have b0:c=o.gT:=by rw[Y];simp
  refine aF ?_;simp only[go_sem,seval,xK,u,y,a4,bJ]
  grind [uq]
 |cons r rest ih=>
  intro c e lc Y h2 T R H U w u y
  let⟨hlt,hat⟩:=cR Y
  have C:=λlc k=>go.gT.at bM.2.2.1 hat lc k;have a0:=cm (n:=J c) w_
  let⟨st,sf⟩:=step c rest r Y h2
  have B:=N.hp;have V:aj ((J c:Nat):Int) 1=(J c==1):=by
   unfold aj;by_cases h:J c=1;rw[h];rfl
   grind
  have next:∀(e':ax)(F:Ag.Loc),(bif aj o.Al 5&&J c==1 then dH l r else(jU l r).isSome)=O->ac e' 0=.ptr p 0->ac e' 3=.Gt 3 1 0->F.get 3 1=X o.cells->F.gen 3=1->ac e' 10=o.refsV->ac e' 11=an (J o.gT)->ac e' 12=ah ((J c+1:Nat):Int)->W Q 64 (.loop xK) ⟨e',43,F⟩ s K:=λe' F hc e0 e3 a5 a6 a9 a8 a7=>
   ih (c++[r]) e' F (by rw[Y];simp) (st hc) e0 e3 a5 a6 a9 a8 (by rw[a7];simp)
  simp only[Obj.cells]at H;cases h5:(aj o.Al 5&&J c==1)with
  |true=>
   have M:=h5;simp only[bg]at M;rw[h5,cT]at next sf
   have j:=nM gn KW Mz N.ma r
   let⟨z,hz,hz2,hz3⟩:=adx a3 r
   rw[hz]at j;obtain⟨z1,z2,rfl⟩:∃a b,z=[a,b]:=by
    match z,hz2 with
    |[a,b],_=>exact⟨a,b,rfl⟩
   cases hn:dH l r with
   |false=>
    rw[hn]at j;refine aF ?_;simp only[go_sem,seval,xK,aw,T,R,H,U,w,u,y,hlt,C,V,M.1,M.2,B,j]
    grind [fA]
   |true=>
    rw[hn]at j;refine aF ?_;simp only[go_sem,seval,xK,aw,T,R,H,U,w,u,y,hlt,C,V,M.1,M.2,B,j,a0];refine next _ _ hn ?_ ?_ ?_ ?_ ?_ ?_ ?_<;>simp only[sL,seval,T,R,H,U,w,u,Obj.cells]
  |false=>
   rw[h5,cF]at next sf
   have j:=r9 gn D2 yA N.mb r;rcases Tw a3 hg hw r with⟨w1,w2⟩|⟨rr,w1,w2,v,w3,w4,w5⟩
   rw[w2]at j;have hn:(jU l r).isSome=I:=by rw[w1];rfl
   cases hk5:aj o.Al 5;refine aF ?_;simp only[go_sem,seval,xK,aw,T,R,H,U,w,u,y,hlt,C,hk5,B,j,aez]
   grind [fA]
   have a1:(J c==1)=I:=by rw[hk5,jo]at h5;exact h5
   refine aF ?_;simp only[go_sem,seval,xK,aw,T,R,H,U,w,u,y,hlt,C,V,hk5,a1,B,j,aez]
   grind [fA]
   ·rw[w3]at j
    have vc:=w4.gt;have hn:(jU l r).isSome=O:=by rw[w1];rfl
    have a2:=aC4 v rr w4 w2;cases hk5:aj o.Al 5 with
    |false=>
     refine aF ?_;simp only[go_sem,seval,xK,aw,T,R,H,U,w,u,y,hlt,C,hk5,B,j,vc,a2,a0];refine next _ _ hn ?_ ?_ ?_ ?_ ?_ ?_ ?_<;>simp only[sL,seval,T,R,H,U,w,u,Obj.cells]
    |true=>
     have a1:(J c==1)=I:=by rw[hk5,jo]at h5;exact h5
     refine aF ?_;simp only[go_sem,seval,xK,aw,T,R,H,U,w,u,y,hlt,C,V,hk5,a1,B,j,vc,a2,a0];refine next _ _ hn ?_ ?_ ?_ ?_ ?_ ?_ ?_<;>simp only[sL,seval,T,R,H,U,w,u,Obj.cells]
def aDq(w:No Q 64)(C:∀o∈l,o.AL)(j:(l.map Obj.id).Nodup)(z:∀o∈l,aj o.Al 2=O->2<=J o.gT)(N:sX l ov p a b s)(go:o.AL)(B:J o.gT<=900000):ai Q 64 [.ptr p 0,o.val] s (.bool (uq l o)) s:=by
 have y:=go.all;have u:=go.gT.lenS bM;refine ai.ofNZ at8 (aM ?_);simp only[go_sem,seval,Obj.val,Obj.cells,y,u];refine aC8 C j z N go B ?_ ?_ o.gT [] _ _ rfl rfl ?_ ?_ ?_ ?_ ?_ ?_ ?_;intro c e lc;simp only[go_sem,seval,c];intro c e lc F;simp only[go_sem,seval,F,c]
 all_goals simp_all [fA,iG,iK,Obj.cells]
def aFS{l:ba}(c:dY o=O)(j:aj o.Al 2=O):2<=J o.gT:=by
 have j:o.Al=2:=by simpa[aj]using j
 unfold dY at c;cases hb:lK o;simp only[lK,wz,decide_eq_false_iff_not]at hb;have h:=hb.1.2;rw[j]at h;have u:xL 2=2:=d_
 omega;rw[hb]at c;cases c
def aqF(lc:Ag.Loc)(m o:Nat)(i:aa):gm ag lc 116 (.ptr m o) i=(dP i).bind λi=>bif bq i 2 then X (.ptr m (o+i*1))else Z:=k_
def O3(lc:Ag.Loc)(m o:Nat)(i:aa):gm ag lc 210 (.ptr m o) i=(dP i).bind λi=>bif bq i 2 then X (.ptr m (o+i*1))else Z:=k_
def awS(a1:No Q 66)(u:Q.spec 51=X lf)(hg:∀o∈l,o.AL)(V:(l.map Obj.id).Nodup)(hw:∀o∈l,aj o.Al 2=O->2<=J o.gT)(Y:∀o∈l,J o.gT<=900000)(N:sX l ov p a b s)(H:s.gE<=s.aL)(go:o.AL)(hr:J o.gT=3):ai Q 66 [.ptr p 0,o.val] s (.bool (H4 l o)) s:=by
 have rc:=go.all;obtain⟨T,w,R,j⟩:∃x y z,o.gT=[x,y,z]:=by
  match h:o.gT,hr with
  |[x,y,z],_=>exact⟨x,y,z,rfl⟩
 have i0:∀lc,gm ag lc 25 o.refsV (ah 0)=X (.ro [.str T]):=λlc=>go.gT.at bM.2.2.1 (i:=0) (by rw[j];rfl) lc .i64;have i1:∀lc,gm ag lc 25 o.refsV (ah 1)=X (.ro [.str w]):=λlc=>go.gT.at bM.2.2.1 (i:=1) (by rw[j];rfl) lc .i64;have i2:∀lc,gm ag lc 25 o.refsV (ah 2)=X (.ro [.str R]):=λlc=>go.gT.at bM.2.2.1 (i:=2) (by rw[j];rfl) lc .i64;have F:=N.hp;have B:∀k,∃v r,(bR k (mP l l)).getD .Ge=v/\(jU l k).getD []=r/\au 1 aw v r/\J r<=1000000:=λk=>by
  rcases Tw V hg hw k with⟨c,w2⟩|⟨rr,c,w2,v,w3,w4,w5⟩
  exact⟨.Ge,[],w2,by rw[c];rfl,.inl R_,by simp⟩;refine⟨v,rr,w3,by rw[c];rfl,w4,?_⟩;unfold jU at c;rcases e:cD k l with _|q
  rw[e]at c;cases c;rw[e]at c;simp only[aG]at c
  let⟨_,c⟩:=aZ c
  cases c
  have:=Y q (oN e).1;omega
 let⟨v0,q0,a0,b0,c0,d0⟩:=B T
 let⟨v2,q2,a2,b2,c2,d2⟩:=B R
 have U:=r9 gn D2 yA (s:=s.top) N.mb T;have k2:=r9 gn D2 yA (s:=s.top) N.mb R;rw[a0]at U;rw[a2]at k2;have C:=c0.gt;have M:=c2.gt;have s0:=FK c0 d0 w;have s2:=FK c2 d2 w;have ht:H4 l o=(q0.contains w&&q2.contains w):=by
  unfold H4;rw[j];simp only[List.getD_cons_zero,List.getD_cons_succ,b0,b2]
 refine ai.ofNZ aua (aM ?_);cases e0:q0.contains w;rw[e0]at s0;simp only[go_sem,seval,Obj.val,Obj.cells,rc,H,F,i0,i1,U,C,u,s0,ht,e0];rw[e0]at s0;simp only[go_sem,seval,Obj.val,Obj.cells,rc,H,F,i0,i1,i2,U,k2,C,M,u,s0,s2,ht,e0]
variable{bo:Nat}
def adQ(u:No Q 113){w:Nat}{x y:Bool}{j c:ae}(C:s.get [] bo=X (.cells [.bool x,.bool y]))(F:s.get [] w=X (.cells [.str j,.str c]))(k:ae):ai Q 113 [.str k,.ptr bo 0,.ptr w 0] s (.bool ((x&&j==k)||(y&&c==k))) s:=by
 have B:dP (ah 0)=X 0:=rfl;have z:dP (ah 1)=X 1:=rfl;refine ai.ofNZ arS (aM ?_);cases x<;>cases y<;>cases h1:j==k<;>cases h2:c==k<;>
  simp only[go_sem,seval,C,F,B,z,O3,aqF,h1,h2,Bool.or_self]
def mV(l:ba)(r:ae):ae×ae:=Bm ((jU l r).getD [])
def mM(l:ba)(c:cf):ae×ae×Bool×Bool:=match c.map (mV l)with
 |[]=>([],[],O,O)
 |e::r=>r.foldl Ck (e.1,e.2,O,O)
def aDx(l:ba){c:cf}(r:ae)(h:c≠[]):mM l (c++[r])=Ck (mM l c) (mV l r):=by
 rcases c with _|⟨x,c⟩
 exact absurd rfl h
 simp_all [mM]
theorem akg(l:ba)(o:Obj):FM l o=((mM l o.gT).2.2.1||(mM l o.gT).2.2.2):=by
 have e:(o.gT.map λr=>Bm ((jU l r).getD []))=o.gT.map (mV l):=rfl
 grind [FM,mM]
theorem aFU{r:cf}(h:2<=J r):r[0]?=X (Bm r).1/\r[J r-1]?=X (Bm r).2:=by
 rcases r with _|⟨x,r⟩
 simp at h
 grind [Bm]
theorem akh(U:No Q 113)(hg:∀o∈l,o.AL)(a6:(l.map Obj.id).Nodup)(hw:∀o∈l,aj o.Al 2=O->2<=J o.gT)(b1:∀o∈l,J o.gT<=900000){s0:St}(N:sX l ov p a b s0)(pl:p<lo)(al:a<lo)(bl:b<lo)(go:o.AL)(hr:J o.gT<=900000)(hs:∀r∈o.gT,(jU l r).isSome=O)(hx:∀e lc s,ac e 6=.ptr (lo+1) 0->s.get [] (lo+1)=X (.cells [.bool (mM l o.gT).2.2.1,.bool (mM l o.gT).2.2.2])->(∀k,k<lo->s.get [] k=s0.get [] k)->s.aL=lo+2->s.gE<=s.aL->K (.exit 0) ⟨e,60,lc⟩ s):
 ∀(rest c:cf)(e:ax)(lc:Ag.Loc)(s:St),o.gT=c++rest->s.get [] lo=X (.cells [.str (mM l c).1,.str (mM l c).2.1])->s.get [] (lo+1)=X (.cells [.bool (mM l c).2.2.1,.bool (mM l c).2.2.2])->(∀k,k<lo->s.get [] k=s0.get [] k)->s.aL=lo+2->s.gE<=s.aL->ac e 0=.ptr p 0->ac e 5=.ptr lo 0->ac e 6=.ptr (lo+1) 0->ac e 15=o.refsV->ac e 16=an (J o.gT)->ac e 17=an (J c)->W Q 65 (.loop Kz) ⟨e,60,lc⟩ s K:=by
 intro rest
 induction rest with
 |nil=>
  intro c e lc s h1 B j R hn z r0 h5 h6 T F C;have a8:=cL h1;have a5:c=o.gT:=by rw[h1];simp
  refine aF ?_;simp only[go_sem,seval,Kz,F,C,a8,bJ];rw[a5]at j;exact hx _ _ _ (by simp only[sN,seval,h6]) j R hn z
 |cons r rest ih=>
  intro c e lc s h1 B j R hn z r0 h5 h6 T F C
  let⟨hlt,hat⟩:=cR h1
  have a4:=λlc k=>go.gT.at bM.2.2.1 hat lc k;have a1:=cm (n:=J c) w_;have a2:=hs r (cq hat)
  let⟨rr,w1,w2,v,w3,w4,w5⟩:=(Tw a6 hg hw r).resolve_left λh=>by rw[h.1]at a2;cases a2
  have b0:J rr<=900000:=by
   unfold jU at w1;rcases e:cD r l with _|q
   rw[e]at w1;cases w1
   grind [oN]
  have he:mV l r=Bm rr:=by unfold mV;rw[w1];rfl
  let⟨f0,f1⟩:=aFU w2
  rw[<-he]at f0 f1;have i0:∀lc,gm ag lc 25 v (ah 0)=X (.ro [.str (mV l r).1]):=λlc=>w4.at bM.2.2.1 (i:=0) f0 lc .i64;have i1:∀lc,gm ag lc 25 v (ah ((J rr-1:Nat):Int))=X (.ro [.str (mV l r).2]):=λlc=>w4.at bM.2.2.1 f1 lc .i64;have V:IntKind.i64.wrap (((J rr:Nat):Int)-1)=((J rr-1:Nat):Int):=by rw[kj w_ w_];omega
  have Y:=w4.lenS bM;have vc:=w4.gt;have a3:=(R p pl).trans N.hp;have a7:bf aa.str s b (mP l l):=(R b bl).trans N.mb;have a0:=r9 gn D2 yA a7 r;rw[w3]at a0;cases hz:aj ((J c:Nat):Int) 0 with
  |true=>
   have M:c=[]:=by
    have:((J c:Nat):Int)=0:=by simpa[aj]using hz
    exact qY w_
   obtain⟨u,H⟩:=cw (s.put lo (X (.cells [.str (mV l r).1,.str (mV l r).2])));refine aF ?_;simp only[go_sem,seval,Kz,aw,r0,T,F,C,hlt,a4,a3,a0,vc,z,i0,i1,Y,V,hz,sB,h5,a1,B,dh,dq,H];have e1:mM l (c++[r])=((mV l r).1,(mV l r).2,O,O):=by rw[M];rfl
   refine ih (c++[r]) _ _ u (db h1) ?_ ?_ (λk hk=>?_) ?_ ?_ ?_ ?_ ?_ ?_ ?_ ?_;rw[e1,<-H,aO,bS];rfl;rw[e1,<-H,aO,bN.2 (by omega:lo+1≠lo)];rw[M]at j;exact j
   grind [aO]
   rw[<-H];exact hn;rw[<-H];exact cG s lo _ z
   all_goals simp_all [sN]
  |false=>
   have M:c≠[]:=λe=>by rw[e]at hz;cases hz
   have c1:=adQ U (s:=s) j B (mV l r).2;have c2:=adQ U (s:=s) j B (mV l r).1;obtain⟨u,H⟩:=cw (s.put lo (X (.cells [.str (mV l r).1,.str (mV l r).2])));have a9:u.get [] (lo+1)=X (.cells [.bool (mM l c).2.2.1,.bool (mM l c).2.2.2]):=by rw[<-H,aO,bN.2 (by omega:lo+1≠lo)];exact j
   obtain⟨w,y⟩:∃w,u.put (lo+1) (X (.cells [.bool (Ck (mM l c) (mV l r)).2.2.1,.bool (Ck (mM l c) (mV l r)).2.2.2]))=w:=⟨_,rfl⟩;simp only[Ck]at y;refine aF ?_;simp only[go_sem,seval,Kz,aw,r0,T,F,C,hlt,a4,a3,a0,vc,z,i0,i1,Y,V,hz,sB,h5,h6];refine aU.of c1 d_ ?_;simp only[go_sem,seval,h5,h6];refine aU.of c2 d_ ?_;simp only[go_sem,seval,h5,h6,C,a1,B,a9,dh,dq,H,y,sB];have e1:=aDx l r M;refine ih (c++[r]) _ _ w (db h1) ?_ ?_ (λk hk=>?_) ?_ ?_ ?_ ?_ ?_ ?_ ?_ ?_;rw[e1,<-y,aO,bN.2 (by omega:lo≠lo+1),<-H,cF,aO,bS];rfl;rw[e1,<-y,aO,bS];rfl
   grind [aO]
   rw[<-y,<-H];exact hn
   grind [cG]
   all_goals simp only[sN,seval,r0,h5,h6,T,F,sA]
theorem akf(T:No Q 65)(c:No Q 113)(hg:∀o∈l,o.AL)(B:(l.map Obj.id).Nodup)(hw:∀o∈l,aj o.Al 2=O->2<=J o.gT)(F:∀o∈l,J o.gT<=900000)(N:sX l ov p a b s)(pl:p<s.aL)(al:a<s.aL)(bl:b<s.aL)(C:s.gE<=s.aL)(go:o.AL)(hr:J o.gT<=900000)(hs:∀r∈o.gT,(jU l r).isSome=O):
 ∃v s',ai Q 65 [.ptr p 0,o.val] s v s'/\(v=.bool (FM l o)/\(∀k,k<s.aL->s'.get [] k=s.get [] k)/\s.aL<=s'.aL/\s'.gE<=s'.aL):=by
 have rc:=go.all;have H:=go.gT.lenS bM;have V:dP (ah 0)=X 0:=rfl;have U:dP (ah 1)=X 1:=rfl;obtain⟨z,u⟩:=cw (s.new (.cells [.str [],.str []]));have R:z.aL=s.aL+1:=by rw[<-u];rfl
 obtain⟨y,j⟩:=cw ((z.new (.cells [.bool I,.bool I])).put (s.aL+1) (X (.cells [.bool O,.bool O])));have M:(z.new (.cells [.bool I,.bool I])).get [] (s.aL+1)=X (.cells [.bool I,.bool I]):=by rw[<-R];exact cr
 have yn:y.aL=s.aL+2:=by rw[<-j];show z.aL+1=_;omega
 have y1:y.get [] (s.aL+1)=X (.cells [.bool O,.bool O]):=by rw[<-j,aO,bS];rfl
 have y0:y.get [] s.aL=X (.cells [.str [],.str []]):=by rw[<-j,aO,bN.2 (by omega:s.aL≠s.aL+1),cF,cQ w_,<-u];exact cr
 have yo:∀k,k<s.aL->y.get [] k=s.get [] k:=λk hk=>by grind [aO,cQ]
 have ym:y.gE<=y.aL:=by
  rw[<-j,<-u];exact cG _ _ _ (co (co C))
 refine ai.ofNRZ at9 (aM ?_);simp only[go_sem,seval,Obj.val,Obj.cells,rc,H,u,R,dh,M,dq,j,sB];refine akh c hg B hw F (lo:=s.aL) (s0:=s) N pl al bl go hr hs ?_ o.gT [] _ _ y rfl y0 y1 yo yn ym ?_ ?_ ?_ ?_ ?_ ?_;intro e lc s1 Y w a2 a0 a1;rw[akg];cases e1:(mM l o.gT).2.2.1;rw[e1]at w;simp only[go_sem,seval,Y,w,V,U,O3]
 grind
 rw[e1]at w;simp only[go_sem,seval,Y,w,V,U,O3]
 grind
 all_goals simp only[aah,bS,oD,ct,cN,bC]
 all_goals rfl
def acE:∀(l:ba)(last:ae),lQ last l=O->∀q∈l,dY q=O
 |[],_,_,q,h=>by cases h
 |o::r,last,h,q,c=>by
  simp only[lQ]at h;cases hb:(!dY o||Ag.leBytes o.id last);rw[hb]at h;rcases dD.1 c with rfl|c
  simp only[wz,Bool.not_eq_false']at hb;exact hb.1;exact acE r o.id h q c;rw[hb]at h;cases h
def abZ(h:bm l=O)(c:o∈l):dY o=O:=by
 simp only[bm,bg]at h;exact acE l [] h.1 o c
def aEL(c:dY o=O)(u:aj o.Al 5=O):J o.gT=3:=by
 have j:o.Al=5:=by simpa[aj]using u
 unfold dY at c;cases hb:lK o;rw[hb]at c;cases ha:rm o.Al [] [] o.gT;have w:aj o.Al 1=I:=by rw[j];rfl
 rw[ha,w,u]at c;simp only[cF,cT,bg]at c;exact eq_of_beq c.1;rw[ha]at c;cases c;rw[hb]at c;cases c
def nG(l:ba)(o:Obj):Bool:=aj o.Al 4&&(uq l o&&!FM l o)
def lG(l:ba)(o:Obj):Bool:=aj o.Al 5&&(uq l o&&!H4 l o)
def acm(l:ba):az:=(l.filter (nG l)).map (λo=>fh 5 [o.id])++(l.filter (lG l)).map (λo=>fh 6 [o.id])
def H8(l:ba):aa:=fG 3 (acm l)
structure td (lo:Nat) (s:St) (ov cv:aa) (xs ys:az):Prop where
 l:bU 3 lo s ov xs
 r:bU 3 lo s cv ys
 ne:∀k,ov=.list 3 xs (.own k)->cv=.list 3 ys (.own k)->False
variable{ys:az}{cv:aa}
def td.swap(h:td lo s ov cv xs ys):td lo s cv ov ys xs:=⟨h.r,h.l,λk a b=>h.ne k b a⟩
def td.left(h:td lo s ov cv xs ys)(C:s.gE<=s.aL)(w:lo<=s.aL)(B:J xs<=900000)(x:aa):
 ∃c s',cJ ag [] 37 ov (.list 3 [x] .GT) I s=X (c,s')/\td lo s' c cv (xs++[x]) ys/\c.cells=[c]/\s.aL<=s'.aL/\s'.gE<=s'.aL/\∀n,n<lo->s'.get [] n=s.get [] n:=by
 let⟨s',a1,a2,a3,a4,a5,a6⟩:=UF iC.1 rfl d_ (y:=.list 3 [x] .GT) (ys:=[x]) h.l (by simp only[aaa,cU]) (by simp) (by rw[uJ];omega) C
 refine⟨_,s',a1,⟨.inr ⟨by simp,s.aL,rfl,a2,w,w_⟩,?_,λk j u=>?_⟩,rfl,w_,a5,λn V=>a6 n w_ λk F=>by have:=(h.l.token F).1;omega⟩;rcases h.r with T|⟨j,k,u,R,M,H⟩
 exact .inl T;refine .inr ⟨j,k,u,(a6 k H λU z e=>?_).trans R,M,w_⟩;subst e;exact h.ne k z u;injection j with _ _ j;injection j with j
 have:=(h.r.token u).2.1;omega
def td.keep(h:td lo s ov cv xs ys)(B:∀k,k<s.aL->s'.get [] k=s.get [] k)(C:s.aL<=s'.aL):td lo s' ov cv xs ys:=by
 refine⟨?_,?_,h.ne⟩;rcases h.l with z|⟨y,k,w,u,j,c⟩
 exact .inl z;exact .inr ⟨y,k,w,(B k c).trans u,j,w_⟩;rcases h.r with z|⟨y,k,w,u,j,c⟩
 exact .inl z;exact .inr ⟨y,k,w,(B k c).trans u,j,w_⟩
def avp{a b c:Int}(h:aj a b=O)(j:b≠c):aj a c=I:=by
 have h:a=b:=by simpa[aj]using h
 subst h;exact bN.2 j
def axw(b8:No Q 64)(b7:No Q 65)(b2:No Q 113)(b5:No Q 66)(c5:Q.spec 51=X lf)(ho:au 6 Obj.val ov l)(hg:∀o∈l,o.AL)(hl:J l<=900000)(U:∀o∈l,J o.gT<=900000)(hv:bm l=O){s0:St}(N:sX l ov p a b s0)(pl:p<lo)(al:a<lo)(bl:b<lo)(hx:∀e lc s rv tv,td lo s rv tv ((l.filter (nG l)).map λo=>fh 5 [o.id]) ((l.filter (lG l)).map λo=>fh 6 [o.id])->lo<=s.aL->s.gE<=s.aL->ac e 5=rv->ac e 6=tv->K (.exit 0) ⟨e,73,lc⟩ s):
 ∀(rest c:ba)(e:ax)(lc:Ag.Loc)(s:St)(rv tv:aa),l=c++rest->td lo s rv tv ((c.filter (nG l)).map λo=>fh 5 [o.id]) ((c.filter (lG l)).map λo=>fh 6 [o.id])->(∀k,k<lo->s.get [] k=s0.get [] k)->lo<=s.aL->s.gE<=s.aL->ac e 3=.ptr p 0->ac e 5=rv->ac e 6=tv->ac e 19=ov->ac e 20=an (J l)->ac e 21=an (J c)->W Q 26 (.loop DG) ⟨e,73,lc⟩ s K:=by
 have a9:=rQ hv;have hw:∀o∈l,aj o.Al 2=O->2<=J o.gT:=λo ho V=>aFS (l:=l) (abZ hv ho) V;intro rest
 induction rest with
 |nil=>
  intro c e lc s rv tv h1 T H b0 y z h5 Y w j u;have d2:=cL h1;have c9:c=l:=by rw[h1];simp
  refine aF ?_;simp only[go_sem,seval,DG,j,u,d2,bJ];rw[c9]at T;exact hx _ _ _ rv tv T b0 y (by simp only[sN,seval,h5]) (by simp only[sN,seval,Y])
 |cons o rest ih=>
  intro c e lc s rv tv h1 T H b0 y z h5 Y w j u
  let⟨hlt,hat⟩:=cR h1
  have R:=cq hat;have go:=hg o R;have rc:=go.all;have b1:=λlc k=>ho.at ek.2.2.1 hat lc k;have B:=cm (n:=J c) w_;have Ns:sX l ov p a b s:=N.mono H pl al bl;have M:=aDq b8 hg a9 hw Ns go (U o R);have c7:=T.l.gt;have c6:=T.r.gt;have lr:((c.filter (nG l)).map λo=>fh 5 [o.id]).length<=900000:=by
   rw[bh];have:=jF (nG l) c;omega
  have lt:((c.filter (lG l)).map λo=>fh 6 [o.id]).length<=900000:=by
   rw[bh];have:=jF (lG l) c;omega
  have fin:∀(e':ax)(a8:Ag.Loc)(s':St),nG l o=I->lG l o=I->(∀k,k<s.aL->s'.get [] k=s.get [] k)->s.aL<=s'.aL->s'.gE<=s'.aL->ac e' 3=.ptr p 0->ac e' 5=rv->ac e' 6=tv->ac e' 19=ov->ac e' 20=an (J l)->ac e' 21=ah ((J c+1:Nat):Int)->W Q 26 (.loop DG) ⟨e',73,a8⟩ s' K:=λe' a8 s' F C c4 d0 d1 g3 g5 g6 d6 d5 d4=>
   ih (c++[o]) e' a8 s' rv tv (by rw[h1];simp) (by rw[pA F,pA C];exact T.keep c4 d0) (λk V=>(c4 k w_).trans (H k V)) w_ d1 g3 g5 g6 d6 d5 (by rw[d4];simp)
  simp only[Obj.val,Obj.cells]at M;cases h4:aj o.Al 4 with
  |true=>
   have k5:=avp h4 (by decide:(4:Int)≠5);have C:lG l o=I:=by unfold lG;rw[k5];rfl
   refine aF ?_;simp only[go_sem,seval,DG,z,w,j,u,hlt,b1,h4,Obj.val,Obj.cells,rc];refine aU.of M d_ ?_;cases hs:uq l o with
   |false=>
    have F:nG l o=I:=by unfold nG;rw[hs,lZ,kU]
    simp only[go_sem,seval,z,u,B,k5];refine fin _ _ s F C (λ_ _=>rfl) (aC _) y ?_ ?_ ?_ ?_ ?_ ?_<;>simp only[sN,seval,z,h5,Y,w,j]
   |true=>
    have c8:∀r∈o.gT,(jU l r).isSome=O:=λr hr=>by
     let⟨i,hi⟩:=Cy hr
     have hm:(i,r)∈(ii (J o.gT)).zip o.gT:=by
      refine cq (i:=i) ?_;rw[MI];refine⟨?_,hi⟩;rw[List.getElem?_range];exact(ie.1 hi).1
     unfold uq at hs
     have:=fO.1 hs _ hm;simp only[k5,lZ,cF]at this;exact this
    have a7:=akf b7 b2 hg a9 hw U Ns w_ w_ w_ y go (U o R) c8;simp only[Obj.val,Obj.cells]at a7;simp only[go_sem,seval,z,rc];refine aU.ex a7 d_ ?_;rintro v s1 ⟨rfl,o1,c3,m1⟩;cases hc:FM l o with
    |true=>
     have F:nG l o=I:=by unfold nG;rw[hc,sO,kU,kU]
     simp only[go_sem,seval,z,u,B,k5];refine fin _ _ s1 F C o1 c3 m1 ?_ ?_ ?_ ?_ ?_ ?_<;>simp only[sN,seval,z,h5,Y,w,j]
    |false=>
     have F:nG l o=O:=by unfold nG;rw[h4,hs,hc];rfl
     let⟨rv',s2,a1,a2,a3,a4,a5,a6⟩:=(T.keep o1 c3).left m1 w_ lr (fh 5 [o.id])
     have e0:=a2.l.gt;simp only[fh,cZ,nY,aw]at a1;simp only[go_sem,seval,aw,z,h5,c7,sB,u,B,a1,a3];refine ih (c++[o]) _ _ s2 rv' tv (by rw[h1];simp) (by rw[vi F,pA C,dj];exact a2) (λk V=>(a6 k V).trans ((o1 k w_).trans (H k V))) w_ a5 ?_ ?_ ?_ ?_ ?_ ?_
     all_goals simp only[sN,seval,z,Y,w,j,sA]
  |false=>
   have F:nG l o=I:=by unfold nG;rw[h4];rfl
   cases h5':aj o.Al 5 with
   |false=>
    have C:lG l o=I:=by unfold lG;rw[h5'];rfl
    refine aF ?_;simp only[go_sem,seval,DG,z,w,j,u,hlt,b1,h4,Obj.val,Obj.cells,rc,B,h5'];refine fin _ _ s F C (λ_ _=>rfl) (aC _) y ?_ ?_ ?_ ?_ ?_ ?_<;>simp only[sN,seval,z,h5,Y,w,j]
   |true=>
    have a0:=awS b5 c5 hg a9 hw U Ns y go (aEL (abZ hv R) h5');simp only[Obj.val,Obj.cells]at a0;refine aF ?_;simp only[go_sem,seval,DG,z,w,j,u,hlt,b1,h4,Obj.val,Obj.cells,rc,h5'];refine aU.of M d_ ?_;cases hs:uq l o with
    |false=>
     have C:lG l o=I:=by unfold lG;rw[hs,lZ,kU]
     simp only[go_sem,seval,z,u,B];refine fin _ _ s F C (λ_ _=>rfl) (aC _) y ?_ ?_ ?_ ?_ ?_ ?_<;>simp only[sN,seval,z,h5,Y,w,j]
    |true=>
     simp only[go_sem,seval,z,rc];refine aU.of a0 d_ ?_;cases ht:H4 l o with
     |true=>
      have C:lG l o=I:=by unfold lG;rw[ht,sO,kU,kU]
      simp only[go_sem,seval,z,u,B];refine fin _ _ s F C (λ_ _=>rfl) (aC _) y ?_ ?_ ?_ ?_ ?_ ?_<;>simp only[sN,seval,z,h5,Y,w,j]
     |false=>
      have C:lG l o=O:=by unfold lG;rw[h5',hs,ht];rfl
      let⟨tv',s2,a1,a2,a3,a4,a5,a6⟩:=T.swap.left y b0 lt (fh 6 [o.id])
      have d7:=a2.l.gt;simp only[fh,cZ,nY,aw]at a1;simp only[go_sem,seval,aw,z,Y,c6,sB,u,B,a1,a3];refine ih (c++[o]) _ _ s2 rv tv' (by rw[h1];simp) (by rw[pA F,vi C,dj];exact a2.swap) (λk V=>(a6 k V).trans (H k V)) w_ a5 ?_ ?_ ?_ ?_ ?_ ?_
      all_goals simp only[sN,seval,z,h5,w,j,sA]
def ai9(b5:Q.spec 20=X gI)(u:No Q 135)(B:No Q 88)(z:No Q 112)(M:No Q 63)(H:No Q 64)(F:No Q 65)(w:No Q 113)(C:No Q 66)(U:Q.spec 51=X lf)(b8:No Q 26)(j:au 6 Obj.val ov l)(hg:∀o∈l,o.AL)(hl:J l<=900)(hr:∀o∈l,J o.gT<=999)(c:bm l=O)(hm:s.gE<=s.aL):
 ∃v s',ai Q 26 [.agg [ov]] s v s'/\fF s'.heap v (H8 l):=by
 have R:=j.cs;have b2:=j.lenS ek;refine ai.ofNRZ atr (aM ?_);simp only[go_sem,seval,R,sB];refine aU.ex (ax7 b5 u B z M j hg w_ (λo j=>by have:=hr o j;omega) c hm) d_ ?_;rintro v Y ⟨rfl,N,b7,n1,m1⟩;have a9:=N.hp;simp only[go_sem,seval,a9,R,b2];refine axw H F w C U j hg w_ (λo j=>by have:=hr o j;omega) c (lo:=Y.aL) (s0:=Y) N w_ w_ w_ ?_ l [] _ _ Y .Ge .Ge rfl ⟨.inl R_,.inl R_,λk h=>(by cases h)⟩ (λ_ _=>rfl) (aC _) m1 ?_ ?_ ?_ ?_ ?_ ?_;intro e lc s2 rv tv T b1 b0 h5 h6;have a0:=T.l.gt;have V:=T.r.gt;have he:cU [] O 3 tv s2=X ((l.filter (lG l)).map λo=>fh 6 [o.id]):=by
  rcases T.r with⟨e1,e2⟩|⟨_,k,e1,_⟩
  rw[e1,e2];rfl;rw[e1];simp only[aaa,cU]
 have hb:=jF (nG l) l;have c3:=jF (lG l) l
 let⟨ov',s3,a1,a2,a3,a4,a5,a6,a7⟩:=Fy (t:=37) iC.1 rfl d_ (s:=s2) (y:=tv) T.l he (by rw[bh,bh];omega) b1 b0
 have a8:=a2.gt;simp only[go_sem,seval,h5,h6,a0,V,a1,a7,a8];refine⟨_,rfl,4,Bs a2 λv c=>?_⟩;rcases fJ.1 c with c|c
 obtain⟨i,_,rfl⟩:=cy.1 c;exact F5 _ _ _;obtain⟨i,_,rfl⟩:=cy.1 c;exact F5 _ _ _
 all_goals simp only[aah,bS,oD,ct,cN,bC]
 all_goals rfl
def T8:dy:=[(20,gI),(51,lf)]
def af8:eh T8:=.cons vB (.cons Oh .nil)
def D9:Sp
 |[v]=>(kY v).bind λl=>bif my l then X (H8 l)else Z
 |_=>Z
def axu:cW ag 26 D9:=by
 intro args u c G h w xs C F;unfold D9 at c;split at c;simp only[ak]at c
 let⟨l,z,c⟩:=c
 let⟨j,c⟩:=aZ c
 have c:=sI c;subst c;obtain⟨v,rfl,z,B,M⟩:=qr z
 let⟨ht,v',y,hl'⟩:=pJ z B
 have y:di [.agg [v]]=[.agg [v']]:=by simp only[di,y]
 have j:=oC.1 j;refine iQ af8 (W:=[]) .nil (args:=[.agg [v]]) (by simp only[dR,ht,bZ]) (λH=>?_) G h w xs C F;rw[y];exact ai9 (Q:=QW T8 [] H) rfl R_ R_ R_ R_ R_ R_ R_ R_ rfl R_ hl' B j.len j.gT j.valid d_;cases c
def aW.cells(x:aW):az:=[.bool x.strict,.str x.area,ah x.Al,.str x.ifK,.str x.ifV,ah x.op,.str x.key,x.valuesV]
def aW.val(x:aW):aa:=.agg x.cells
structure aW.Ok (x:aW):Prop where
 vals:au 1 aw x.valuesV x.values
 pv:bn x.valuesV=true
 area:x.area.length<small
 key:x.key.length<small
 ifK:x.ifK.length<small
 len:x.values.length<=1000000
def zJ:N_->aa
 |some v=>.tup [.str v,.bool O]
 |none=>.tup [.str [],.bool I]
def mz:Sp
 |[v,.str k]=>(ff 2 te v).bind λl=>bif decide (J l<=1000000)then X (zJ (gM k l))else Z
 |_=>Z
variable{l:wf}
def OU(h:au 2 bW v l)(c:J l<=1000000)(k:ae):mz [v,.str k]=X (zJ (gM k l)):=by
 simp only[aaf,mz,oI IW h,c,dT]
variable{tv:aa}
def anq(T:au 2 bW tv l)(V:J l<=1000000){k:ae}(R:∀e lc,gM k l=Z->K (.exit 0) ⟨e,21,lc⟩ s)(U:∀e lc v,gM k l=X v->ac e 4=.str v->ac e 5=.bool O->K .ret ⟨e,21,lc⟩ s):
 ∀(rest c:wf)(e:ax)(lc:Ag.Loc),l=c++rest->gM k l=gM k rest->ac e 1=.str k->ac e 8=tv->ac e 9=an (J l)->ac e 10=an (J c)->W Q 140 (.loop JT) ⟨e,21,lc⟩ s K:=by
 intro rest
 induction rest with
 |nil=>
  intro c e lc C B y z w j;have H:=cL C;refine aF ?_;simp only[go_sem,seval,JT,w,j,H,bJ];exact R _ _ B
 |cons t rest M=>
  intro c e lc C B y z w j
  let⟨hlt,hat⟩:=cR C
  have u:=λlc k=>T.at kh.2.2.1 hat lc k;have F:=cm (n:=J c) w_;refine aF ?_;cases hd:t.1==k with
  |true=>
   simp only[go_sem,seval,JT,bW,y,z,w,j,hlt,u,hd];refine U _ _ t.2 (by rw[B];simp only[gM,hd,cT]) ?_ ?_
   all_goals simp only[sN,seval]
  |false=>
   simp only[go_sem,seval,JT,bW,y,z,w,j,hlt,u,hd,F];refine M (c++[t]) _ _ (db C) (by rw[B];simp only[gM,hd,cF]) ?_ ?_ ?_ ?_
   all_goals simp only[sN,seval,y,z,w,sA]
def ano(z:No Q 140)(j:au 2 bW tv l)(B:J l<=1000000)(k:ae)(s:St):ai Q 140 [tv,.str k] s (zJ (gM k l)) s:=by
 have w:=j.lenS kh;have y:=j.gt;have c:∃v s',ai Q 140 [tv,.str k] s v s'/\(v=zJ (gM k l)/\s'=s):=by
  refine ai.ofNRZ asb (aM ?_);simp only[go_sem,seval,w,y];refine anq j B (k:=k) ?_ ?_ l [] _ _ rfl rfl ?_ ?_ ?_ ?_;intro e lc u;simp only[go_sem,seval,u];exact⟨_,rfl,rfl⟩;intro e lc v u F C;simp only[go_sem,seval,u,F,C];exact⟨_,rfl,rfl⟩
  all_goals simp only[sN,seval,bC]
  all_goals rfl
 obtain⟨v,s',h,rfl,rfl⟩:=c;exact h
def afi(u:No Q 212)(v:ae)(s:St):ai Q 212 [.str v] s (.bool (tQ v)) s:=by
 refine ai.ofNZ as2 (aM ?_);have c:bT ((J v:Nat):Int) 200=decide (J v<=200):=by
  unfold bT;by_cases h:J v<=200;rw[dQ h,dQ];omega;rw[dN h,dN];omega
 cases hz:v== [];have j:tQ v=decide (J v<=200):=by unfold tQ;rw[hz];rfl
 simp only[go_sem,seval,hz,j,c,vw];have j:tQ v=I:=by unfold tQ;rw[hz];rfl
 simp only[go_sem,seval,hz,j]
def axN(c:No Q 212)(j:No Q 213)(v:ae)(s:St):ai Q 213 [.str v] s (.bool (!tQ v)) s:=by
 refine ai.ofNZ as3 (aM ?_);simp only[go_sem,seval];refine aU.of (afi c v s) d_ ?_;simp only[go_sem,seval]
def WY:cW ag 140 mz:=by
 intro j u c G C w xs y z;unfold mz at c;split at c;simp only[ak]at c
 let⟨l,h1,h⟩:=c
 let⟨h2,h⟩:=aZ h
 simp only[dE]at h2;have h:=sI h;subst h;have B:=ku (λ_ _ h=>IV h) h1
 let⟨h3,h4⟩:=m6 H3 B
 refine iQ (T:=[]) (W:=[]) .nil .nil (by simp only[dR,h3,dW,bn,bZ]) (λH=>?_) G C w xs y z;refine⟨_,_,ano R_ h4 h2 _ _,?_⟩;rename_i F k _;rcases gM k l with _|v
 exact⟨2,rfl⟩;exact⟨2,rfl⟩;cases c
def NB(a b:Bool):cP ag .neq 4 (.bool a) (.bool b)=X (.bool (!(a==b))):=k_
def Tk(a b j c:pb):cP ag .neq 103 (.agg [.str a,.str b]) (.agg [.str j,.str c])=X (.bool (!((a==j)&&(b==c)))):=by
 have h:cP ag .neq 103 (.agg [.str a,.str b]) (.agg [.str j,.str c])=((X (a==j)).bind λr=>bif r then(X (b==c)).bind λr=>bif r then X O else X I else X I).bind λr=>X (.bool (!r)):=k_
 rw[h];cases a==j<;>cases b==c<;>rfl
def rA(x:aW):Bool:= !(x.area== [])&&!eA x.area
def rI(x:aW):Bool:= !((x.ifK== [])&&(x.ifV== []))&&!(eA x.ifK&&tQ x.ifV)
def rO(x:aW):Bool:= !(aj x.op 2)&&(!(aj x.op 1)&&!(aj x.op 3))
def rL(x:aW):Bool:= !(aj x.op 2==decide (0<J x.values))
def aB5(x:aW):Ew x=(bif rA x then I else bif aR x.Al 0 then I else bif aR 5 x.Al then I else bif !eA x.key then I else bif rI x then I else bif rO x then I else bif rL x then I else bif decide (60<J x.values)then I else x.values.all tQ):=rfl
def O7(n:Nat):aR 0 ((n:Nat):Int)=decide (0<n):=by
 unfold aR;by_cases h:0<n;rw[dQ h,dQ];omega;rw[dN h,dN];omega
def XS(n:Nat):aR 60 ((n:Nat):Int)=decide (60<n):=by
 unfold aR;by_cases h:60<n;rw[dQ h,dQ];omega;rw[dN h,dN];omega
variable{lc:Ag.Loc}{N:mm}{x:aW}{e:ax}
def aAC(c:Q.spec 84=X jq)(B:x.Ok)(h1:ac e 1=.Gt 1 1 0)(u:lc.get 1 1=X x.cells)(y:lc.gen 1=1)(w:∀j,ac j 7=.bool (rA x)->ac j 1=.Gt 1 1 0->ac j 3=ac e 3->N ⟨j,72,lc⟩ s)(C:True):WV Q 138 xF ⟨e,72,lc⟩ s N:=by
 have z:=xR B.area;have F:x.cells=[.bool x.strict,.str x.area,ah x.Al,.str x.ifK,.str x.ifV,ah x.op,.str x.key,x.valuesV]:=rfl;rw[F]at u;unfold rA at w;cases hz:x.area== []with
 |true=>
  simp only[go_sem,seval,xF,xG,xH,h1,u,y,hz];refine w _ ?_ ?_ ?_<;>simp only[sN,seval,h1,hz]
  all_goals rfl
 |false=>
  simp only[go_sem,seval,xF,xG,xH,h1,u,y,hz,c,z];refine w _ ?_ ?_ ?_<;>simp only[sN,seval,h1,hz]
  all_goals rfl
def aAE(h1:ac e 1=.Gt 1 1 0)(j:ac e 3=.bool (aj x.op 2))(u:lc.get 1 1=X x.cells)(z:lc.gen 1=1)(w:∀c,ac c 45=.bool (rO x)->ac c 1=.Gt 1 1 0->ac c 3=.bool (aj x.op 2)->N ⟨c,72,lc⟩ s):WV Q 138 xH ⟨e,72,lc⟩ s N:=by
 have y:x.cells=[.bool x.strict,.str x.area,ah x.Al,.str x.ifK,.str x.ifV,ah x.op,.str x.key,x.valuesV]:=rfl;rw[y]at u;unfold rO at w;cases e2:aj x.op 2<;>cases e1:aj x.op 1<;>
  (rw[e2]at j;simp only[go_sem,seval,xF,xG,xH,h1,u,z,j,e1];refine w _ ?_ ?_ ?_<;>simp only[sN,seval,h1,j,e1,e2,sO,uF,Bool.and_true,jo,kU,lZ])
def aAD(c:Q.spec 84=X jq)(j:No Q 212)(C:x.Ok)(h1:ac e 1=.Gt 1 1 0)(u:lc.get 1 1=X x.cells)(z:lc.gen 1=1)(w:∀y,ac y 27=.bool (rI x)->ac y 1=.Gt 1 1 0->ac y 3=ac e 3->N ⟨y,72,lc⟩ s):WV Q 138 xG ⟨e,72,lc⟩ s N:=by
 have B:=xR C.ifK;have F:x.cells=[.bool x.strict,.str x.area,ah x.Al,.str x.ifK,.str x.ifV,ah x.op,.str x.key,x.valuesV]:=rfl;rw[F]at u;unfold rI at w;cases hz:((x.ifK== [])&&(x.ifV== []))with
 |true=>
  simp only[go_sem,seval,xF,xG,xH,h1,u,z,Tk,hz,sB];refine w _ ?_ ?_ ?_<;>simp only[sN,seval,h1,hz]
  all_goals rfl
 |false=>
  cases hn:eA x.ifK with
  |false=>
   simp only[go_sem,seval,xF,xG,xH,h1,u,z,Tk,hz,c,B,hn,sB];refine w _ ?_ ?_ ?_<;>simp only[sN,seval,h1,hz,hn]
   all_goals rfl
  |true=>
   simp only[go_sem,seval,xF,xG,xH,h1,u,z,Tk,hz,c,B,hn,sB];refine aU.of (afi j x.ifV s) d_ ?_;simp only[go_sem,seval,xF,xG,xH];refine w _ ?_ ?_ ?_<;>simp only[sN,seval,h1,hz,hn,jo,uF]
def aFw(u:Q.spec 84=X jq)(C:No Q 212)(B:No Q 213)(U:No Q 135)(V:No Q 88)(a2:No Q 138)(F:x.Ok)(s:St):ai Q 138 [x.val] s (.bool (Ew x)) s:=by
 have q1:=xR F.key;have vc:=F.vals.gt;have vs:=F.vals.scal;have H:=F.vals.lenS bM;have a0:=Gc U V F.vals F.len B.s (s:=s) (cap:=[]) (p:=λv=> !tQ v) λv _=>axN C B v s;have Y:Ag.Loc.get (Ag.Loc.set [] 1 1 x.cells) 1 1=X x.cells:=rfl;have j:Ag.Loc.gen (Ag.Loc.set [] 1 1 x.cells) 1=1:=rfl;obtain⟨lc,M⟩:=cw (Ag.Loc.set [] 1 1 x.cells);rw[M]at Y j;have hc:x.cells=[.bool x.strict,.str x.area,ah x.Al,.str x.ifK,.str x.ifV,ah x.op,.str x.key,x.valuesV]:=rfl;have c:=Y;rw[hc]at M c;rw[aB5];refine ai.ofNZ ar9 (aM ?_);simp only[go_sem,seval,aW.val,aW.cells,vc,vs,M,c,j];refine aAC u F ?_ Y j ?_ trivial;simp only[sN,seval];intro e1 R T a3;simp only[sN,seval]at a3;cases b1:rA x;rw[b1]at R;cases b2:aR x.Al 0;cases b3:aR 5 x.Al;cases b4:eA x.key;simp only[go_sem,seval,R,T,c,j,b2,b3,b4,u,q1];simp only[go_sem,seval,R,T,c,j,b2,b3,b4,u,q1];refine aAD u C F ?_ Y j ?_;simp only[sN,seval,T];intro e2 z c1 c3;simp only[sN,seval,a3]at c3;cases b5:rI x;rw[b5]at z;simp only[go_sem,seval,z,c1,c,j];refine aAE c1 c3 Y j ?_;intro e3 w d1 d3;cases b6:rO x;rw[b6]at w;cases b7:rL x;have y:=b7;unfold rL at y;cases b8:decide (60<J x.values);simp only[go_sem,seval,w,d1,d3,c,j,H,O7,XS,NB,y,b8,vc];refine aU.of a0 d_ ?_;simp only[go_sem,seval,CN];simp only[go_sem,seval,w,d1,d3,c,j,H,O7,XS,NB,y,b8,vc];have y:=b7;unfold rL at y;simp only[go_sem,seval,w,d1,d3,c,j,H,vc,O7,NB,y];rw[b6]at w;simp only[go_sem,seval,w,d1,c,j];rw[b5]at z;simp only[go_sem,seval,z,c1,c,j];simp only[go_sem,seval,R,T,c,j,b2,b3];simp only[go_sem,seval,R,T,c,j,b2];rw[b1]at R;simp only[go_sem,seval,R,T,c,j]
def zj:aa->Option aW
 |.agg [.bool st,.str a,.int .i64 k,.str ik,.str iv,.int .i64 op,.str key,vv]=>(ff 1 iV vv).bind λvs=>bif bn vv&&(bq (J a) small&&(bq (J key) small&&(bq (J ik) small&&aP (J vs) 1000000)))then X ⟨st,a,k,ik,iv,op,key,vv,vs⟩else Z
 |_=>Z
def UN(h:zj v=X x):v=x.val/\x.Ok:=by
 unfold zj at h;split at h;simp only[ak]at h
 let⟨vs,h1,h⟩:=h
 let⟨hb,h⟩:=aZ h
 cases h;simp only[bg]at hb;exact⟨rfl,ku (λ_ _ h=>pg h) h1,hb.1,gS hb.2.1,gS hb.2.2.1,gS hb.2.2.2.1,gS hb.2.2.2.2⟩;cases h
def ag8(c:x.Ok):zj x.val=X x:=by
 have j:=oI oo c.vals;have w:bq (J x.area) small=O:=bG c.area;have u:bq (J x.key) small=O:=bG c.key;have b3:bq (J x.ifK) small=O:=bG c.ifK;have b4:aP (J x.values) 1000000=O:=bG c.len;simp only[aac,zj,aW.val,aW.cells,j,c.pv,w,u,b3,b4]
def abX:∀{xs:az}{l:vy},jB zj xs=X l->∀x∈l,x.Ok
 |[],l,h=>by simp only[jB,aQ]at h;subst h;intro o j;cases j
 |x::xs,l,h=>by
  simp only[jB,ak,aQ]at h;obtain⟨a,w,r,u,rfl⟩:=h;intro y c;rcases dD.1 c with rfl|c
  exact(UN w).2;exact abX u y c
def abY:∀{l:vy},(∀x∈l,x.Ok)->jB zj (l.map aW.val)=X l
 |[],_=>rfl
 |x::l,h=>by
  simp only[cZ,jB,ag8 (h x gz),aG,abY (l:=l) λy c=>h y (ig _ c)]
def rz(v:aa):Option vy:=(ff 8 zj v).bind λl=>bif aP (J l) 1000000 then X l else Z
variable{l:vy}
def IQ(h:rz v=X l):au 8 aW.val v l/\(∀x∈l,x.Ok)/\J l<=1000000:=by
 unfold rz at h;simp only[ak]at h
 let⟨l',h1,h⟩:=h
 let⟨h2,h⟩:=aZ h
 cases h;refine⟨ku (λv a h=>(UN h).1) h1,?_,gS h2⟩;unfold ff at h1;split at h1;cases h1;intro o c;cases c
 let⟨_,h1⟩:=aZ h1
 exact abX h1;cases h1
def Bd(h:au 8 aW.val v l)(c:∀x∈l,x.Ok)(j:J l<=1000000):rz v=X l:=by
 have u:ff 8 zj v=X l:=by
  rcases h with⟨rfl,rfl⟩|⟨r,rfl⟩
  rfl;simp only[aaa,ff,abY c]
 have b:aP (J l) 1000000=O:=bG j;simp only[aaf,rz,u,b]
def adz(c:∀x∈l,x.Ok):pures (l.map aW.val)=O:=by
 rw[pures_all];intro v u;obtain⟨x,j,rfl⟩:=cy.1 u;simp only[aW.val,aW.cells,bn,pures,(c x j).pv,bZ]
def LO(h:au 8 aW.val v l)(c:∀x∈l,x.Ok):dW v=O/\au 8 aW.val (cx v) l:=by
 rcases h with⟨rfl,rfl⟩|⟨r,rfl⟩
 exact⟨rfl,.inl R_⟩;exact⟨by simpa[dW]using adz c,.inr (by
  simp only[cx,kF (adz c)];exact⟨_,rfl⟩)⟩
def aB7(U:Q.spec 84=X jq)(u:No Q 212)(j:No Q 213)(C:No Q 135)(F:No Q 88)(y:No Q 138)(z:No Q 137)(w:No Q 211)(B:No Q 136)(a1:No Q 90){sv:aa}(hs:au 8 aW.val sv l)(a0:∀x∈l,x.Ok)(M:J l<=1000000)(s:St):ai Q 90 [sv] s (.bool (nT l)) s:=by
 have T:=hs.gt;have H:=hs.lenS sF;have V:∀x∈l,ai Q 137 [x.val] s (.bool (!Ew x)) s:=λx hx=>by
  have ok:=a0 x hx;have vc:=ok.vals.gt;have vs:=ok.vals.scal;have c:=aFw U u j C F y ok s;simp only[aW.val,aW.cells]at c;refine ai.ofNZ ar8 (aM ?_);simp only[go_sem,seval,aW.val,aW.cells,vc,vs];refine aU.of c d_ ?_;simp only[go_sem,seval]
 have Y:ai Q 136 [sv,.func (.func 137) [] []] s (.bool (l.any λx=> !Ew x)) s:=Gb aiV B aqZ w sF hs (EK M) (λx _=>⟨(adP _ 0).trans rfl,rfl⟩) z.s V;have R:bT ((J l:Nat):Int) 200=decide (J l<=200):=by
  unfold bT;by_cases h:J l<=200;rw[dQ h,dQ];omega;rw[dN h,dN];omega
 refine ai.ofNZ au6 (aM ?_);cases hz:decide (J l<=200);have hr:nT l=I:=by unfold nT;rw[hz];rfl
 simp only[go_sem,seval,T,H,R,hz,hr];have hr:nT l=l.all Ew:=by unfold nT;rw[hz];rfl
 simp only[go_sem,seval,T,H,R,hz];refine aU.of Y d_ ?_;simp only[go_sem,seval,CN,hr]
def Cc:Sp
 |[v]=>(rz v).bind λl=>X (.bool (nT l))
 |_=>Z
def aB9(h:au 8 aW.val v l)(c:∀x∈l,x.Ok)(j:J l<=1000000):Cc [v]=X (.bool (nT l)):=by
 simp only[Cc,Bd h c j,aG]
def Uk:dy:=[(84,jq)]
def agl:eh Uk:=.cons Hi .nil
def aCa:cW ag 90 Cc:=by
 intro j u c G B w xs y z;unfold Cc at c;split at c;simp only[ak]at c
 let⟨l,h1,h⟩:=c
 have h:=sI h;subst h
 let⟨hl,ok,hle⟩:=IQ h1
 let⟨h3,h4⟩:=LO hl ok
 refine iQ agl (W:=[]) .nil (by simp only[dR,h3,bZ]) (λC=>?_) G B w xs y z;exact⟨_,_,aB7 (Q:=QW Uk [] C) rfl R_ R_ R_ R_ R_ R_ R_ R_ R_ h4 ok hle _,⟨1,rfl⟩⟩;cases c
abbrev Q4:=List (Pt×Bool)
def uh(l:ba)(f:Obj->Q4)(k:Int):Nat->cf->Q4
 |_,[]=>[]
 |i,r::rs=>match cD r l with
  |some q=>bif aj q.Al (ki k i)then f q++uh l f k (i+1) rs else [((0,0),I)]
  |none=>[((0,0),I)]
def tZ(l:ba):Nat->Obj->Q4
 |0,_=>[]
 |n+1,o=>bif aj o.Al 1 then [((o.x,o.y),O)]else uh l (tZ l n) o.Al 0 o.gT
structure kr (lo:Nat) (Kp:tB) (s s':St):Prop where
 get:∀k,(Kp k\/lo<=k)->k<s.aL->s'.get [] k=s.get [] k
 nx:s.aL<=s'.aL
 mw:s'.gE<=s'.aL
variable{Kp:tB}
def kr.refl(h:s.gE<=s.aL):kr lo Kp s s:=⟨λ_ _ _=>rfl,aC _,h⟩
def kr.trans{c:St}(h:kr lo Kp s s')(k:kr lo Kp s' c):kr lo Kp s c:=
 ⟨λj u w=>(k.get j u (by have:=h.nx;omega)).trans (h.get j u w),dg h.nx k.nx,k.mw⟩
def kr.all(u:∀k,k<s.aL->s'.get [] k=s.get [] k)(c:s.aL<=s'.aL)(j:s'.gE<=s'.aL):kr lo Kp s s':=⟨λk _ h=>u k h,c,j⟩
structure Fl (Q:ay) (n lo:Nat) (Kp:tB) (seq:Q4) (P:v_) (D:Q_):Prop where
 step:∀i x s,seq[i]?=some x->P i s->lo<=s.aL->s.gE<=s.aL->∃v s',iT Q n [aX x.1,.bool x.2] s v s'/\(kr lo Kp s s'/\((v=.bool true/\P (i+1) s')\/(v=.bool false/\D s')))
 grow:∀i s s',P i s->(∀k,k<lo->s'.get [] k=s.get [] k)->P i s'
 growD:∀s s',D s->(∀k,k<lo->s'.get [] k=s.get [] k)->D s'
 kpl:∀k,Kp k->k<lo
structure A3 (l:ba) (p b bo bp:Nat) (q:Obj) (s:St):Prop where
 o:s.get [] bo=some (.cells q.cells)
 q:s.get [] bp=some (.cells [.ptr p 0])
 hp:∃av bv,s.get [] p=some (.cells [av,.map b,bv])
 m:bf aa.str s b (jP l)
 lo:bo<s.aL
 lq:bp<s.aL
 lp:p<s.aL
 lm:b<s.aL
variable{l:ba}{q:Obj}
def A3.kept{c:Nat}(h:A3 l p b bo c q s)(k:kr lo Kp s s')(h1:Kp bo\/lo<=bo)(y:Kp c\/lo<=c)(w:Kp p\/lo<=p)(u:Kp b\/lo<=b):A3 l p b bo c q s':=by
 have j:=k.nx
 let⟨av,bv,hp⟩:=h.hp
 exact⟨(k.get bo h1 h.lo).trans h.o,(k.get c y h.lq).trans h.q,⟨av,bv,(k.get p w h.lp).trans hp⟩,(k.get b u h.lm).trans h.m,fP h.lo j,fP h.lq j,fP h.lp j,fP h.lm j⟩
def MZ(Q:ay)(l:ba)(p b:Nat)(f:Obj->Q4)(q:Obj):Prop:=
 ∀(n lo bo c:Nat)(Kp:tB)(P:v_)(D:Q_)(s:St),Fl Q n lo Kp (f q) P D->(Kp bo\/lo<=bo)->(Kp c\/lo<=c)->(Kp p\/lo<=p)->(Kp b\/lo<=b)->A3 l p b bo c q s->lo<=s.aL->s.gE<=s.aL->P 0 s->
  ∃v s',ai Q 264 [.yld n,.ptr bo 0,.ptr c 0] s v s'/\(v=.tup []/\kr lo Kp s s'/\(P (f q).length s'\/D s'))
def avq(u:No Q 265)(go:o.AL)(i:Nat)(s:St):ai Q 265 [o.val,an i] s (bu (ki o.Al i)) s:=by
 have j:=go.all;have c:aj ((i:Nat):Int) 1=(i==1):=by
  unfold aj;by_cases h:i=1;rw[h];rfl;rw[bN.2 h,bN];omega
 refine ai.ofNZ atq (aM ?_);cases e4:aj o.Al 4;cases e5:aj o.Al 5;simp only[go_sem,seval,Obj.val,Obj.cells,j,e4,e5,ki,bu];cases e1:i==1;simp only[go_sem,seval,Obj.val,Obj.cells,j,e4,e5,c,e1,ki,bu];simp only[go_sem,seval,Obj.val,Obj.cells,j,e4,e5,c,e1,ki,bu];simp only[go_sem,seval,Obj.val,Obj.cells,j,e4,ki,bu]
def acr(c:No Q 214)(w:q.AL)(p:Nat)(s:St):ai Q 214 [.ptr p 0,q.val] s (.func (.func 264) [] [.ptr (s.aL+1) 0,.ptr s.aL 0]) ((s.new (.cells [.ptr p 0])).new (.cells q.cells)):=by
 have j:=w.all;have u:(s.new (.cells [.ptr p 0])).aL=s.aL+1:=rfl;refine ai.ofNZ as4 (aM ?_);simp only[go_sem,seval,Obj.val,Obj.cells,j,I6,u,sB]
noncomputable abbrev Rv(E:ax)(x:MA):aH:=.loop 264 E 58 [50,51] GH GI x
variable{m:Nat}{P:v_}{D:Q_}{E:ax}
def aq6{bz base:Nat}{seq seqI:Q4}(C:Fl Q n lo Kp seq P D)(hs:∀i x,seqI[i]?=X x->seq[base+i]?=X x)(e3:ac E 3=.ptr bz 0)(zl:lo<=bz)(zm:bz<m):
 Fl Q m (m+1) (λk=>Kp k\/(lo<=k/\k<m)) seqI (λi s=>P (base+i) s/\s.get [] m=X (Rv E Z)/\s.get [] bz=X (.cells [.yld n])) (λs=>D s/\s.get [] m=X (Rv E (X .ret))):=by
 have u:=C.kpl;refine⟨λi x s hx ⟨R,F,V⟩ a0 T=>?_,λi s s' ⟨R,F,V⟩ y=>⟨C.grow _ _ _ R λk u=>y k w_,(y m w_).trans F,(y bz w_).trans V⟩,λs s' ⟨hd,F⟩ y=>⟨C.growD _ _ hd λk u=>y k w_,(y m w_).trans F⟩,λk j=>?_⟩;refine iT.any (ca:=Qa) (cb:=Qb) F rfl rfl atn ato ?_;refine aM ?_;obtain⟨w,H⟩:=cw (s.put m Z);have wn:w.aL=s.aL:=by rw[<-H];rfl
 obtain⟨z,B⟩:=cw ((w.new (.cells [ah 0,ah 0])).put w.aL (X (.cells [ah x.1.1,ah x.1.2])));have zn:z.aL=s.aL+1:=by rw[<-B];show w.aL+1=_;omega
 have M:∀k,k<s.aL->k≠m->z.get [] k=s.get [] k:=λk u c=>by rw[<-B,aO,bN.2 (by omega:k≠w.aL),cF,cQ w_,<-H,aO,bN.2 c];rfl
 have zw:z.gE<=z.aL:=by
  rw[<-B];refine cG _ _ _ (co ?_);rw[<-H];exact cG _ _ _ T
 have zk:z.get [] w.aL=X (.cells [ah x.1.1,ah x.1.2]):=by rw[<-B,aO,bS];rfl
 have Y:z.get [] bz=X (.cells [.yld n]):=(M bz w_ w_).trans V;have U:(w.new (.cells [ah 0,ah 0])).get [] w.aL=X (.cells [ah 0,ah 0]):=cr;have zp:P (base+i) z:=C.grow _ _ _ R λk u=>M k w_ w_
 let⟨v,s1,hy,K1,hv⟩:=C.step (base+i) x z (hs i x hx) zp w_ zw
 simp only[aX]at hy;have n1:=K1.nx;have fin:∀o,kr (m+1) (λk=>Kp k\/(lo<=k/\k<m)) s (s1.put m o):=λo=>by
  refine⟨λk j hl=>?_,by show s.aL<=s1.aL;omega,cG _ _ _ K1.mw⟩;have c:k≠m:=by
   rcases j with(h|h)|h
   have:=u k h;omega;omega;omega
  rw[aO,bN.2 c];refine(K1.get k ?_ w_).trans (M k hl c);rcases j with(h|h)|h
  exact .inl h;exact .inr h.1;exact .inr w_
 have b1:s1.get [] bz=X (.cells [.yld n]):=(K1.get bz (.inr zl) w_).trans Y;have same:∀o k,k<lo->(s1.put m o).get [] k=s1.get [] k:=λo k u=>by rw[aO,bN.2 (by omega:k≠m)];rfl
 simp only[go_sem,seval,Qa,H,aX,dh,U,dq,B,sB];refine aM ?_;simp only[go_sem,seval,Qb,e3,Y,zk,sB];refine AH.of hy d_ ?_;rcases hv with⟨rfl,p1⟩|⟨rfl,d1⟩
 simp only[go_sem,seval,lL,lS];refine⟨fin _,.inl ⟨C.grow _ _ _ p1 (same _),?_,?_⟩⟩;rw[aO,bS];rfl;rw[aO,bN.2 (by omega:bz≠m)];exact b1;simp only[go_sem,seval,lL,lS];refine⟨fin _,.inr ⟨C.growD _ _ d1 (same _),?_⟩⟩;rw[aO,bS];rfl;rcases j with h|h
 have:=u k h;have:=C.kpl k h;omega;omega
variable{rs:cf}{f:Obj->Q4}
def aBn{k:Int}{r:ae}(h:∀q,cD r l=X q->aj q.Al (ki k i)=I):uh l f k i (r::rs)=[((0,0),I)]:=by
 unfold uh;rcases e:cD r l with _|q
 rfl;simp only[h q e,cF]
def aBo{k:Int}{r:ae}(e:cD r l=X q)(h:aj q.Al (ki k i)=O):uh l f k i (r::rs)=f q++uh l f k (i+1) rs:=by
 conv=>lhs;unfold uh
 rw[e];simp only[h,cT]
def JI:tH ag 264=O:=k_
def axn(d7:No Q 264)(b1:No Q 214)(b0:No Q 265)(hg:∀o∈l,o.AL)(go:o.AL)(e0:J o.gT<=900000)(IH:∀(i:Nat)(r:ae)(q:Obj),o.gT[i]?=X r->cD r l=X q->aj q.Al (ki o.Al i)=O->MZ Q l p b f q){bp bz:Nat}{seq:Q4}(C:Fl Q n lo Kp seq P D)(k1:Kp bo\/lo<=bo)(k2:Kp bp\/lo<=bp)(k3:Kp p\/lo<=p)(k4:Kp b\/lo<=b){s0:St}(N0:A3 l p b bo bp o s0)(d6:s0.get [] bz=X (.cells [.yld n]))(zl:lo<=bz)(c3:bz<s0.aL)(e1:lo<=s0.aL)(hx:∀e lc s,P (J seq) s->kr lo Kp s0 s->K (.exit 0) ⟨e,58,lc⟩ s)(hr:∀e lc s,(P (J seq) s\/D s)->kr lo Kp s0 s->K .ret ⟨e,58,lc⟩ s):
 ∀(rest c:cf)(e:ax)(lc:Ag.Loc)(s:St)(done:Q4),o.gT=c++rest->seq=done++uh l f o.Al (J c) rest->P (J done) s->kr lo Kp s0 s->ac e 1=.ptr bo 0->ac e 2=.ptr bp 0->ac e 3=.ptr bz 0->ac e 18=o.refsV->ac e 19=an (J o.gT)->ac e 20=an (J c)->e.all jC=O->W Q 264 (.loop DF) ⟨e,58,lc⟩ s K:=by
 have rn:jC o.refsV=O:=by rcases go.gT with⟨e,_⟩|⟨k,e⟩<;>rw[e]<;>rfl
 intro rest
 induction rest with
 |nil=>
  intro c e lc s done h1 hq hp K1 r1 r2 r3 R B w hE;have d4:=cL h1;refine aF ?_;simp only[go_sem,seval,DF,B,w,d4,bJ];have hl:J seq=J done:=by rw[hq];simp[uh]
  exact hx _ _ _ (by rw[hl];exact hp) K1
 |cons r rest ih=>
  intro c e lc s done h1 hq hp K1 r1 r2 r3 R B w hE
  let⟨hlt,hat⟩:=cR h1
  have a6:=λlc k=>go.gT.at bM.2.2.1 hat lc k;have c8:=cm (n:=J c) w_;have rc:=go.all;have N:=N0.kept K1 k1 k2 k3 k4;have nx:=K1.nx;have d0:=K1.mw;have a8:s.get [] bz=X (.cells [.yld n]):=(K1.get bz (.inr zl) c3).trans d6
  let⟨av,bv,hps⟩:=N.hp
  have ho:=N.o;have a0:=N.q;have c6:=N.lo;have c4:=N.lq;have c5:=N.lp;have c7:=N.lm;simp only[Obj.cells]at ho;have j:=nM gn BI Ig N.m r;rw[BF]at j;have a7:(s.new (.cells [.str [],ah 0,ah 0,ah 0,.Ge,.Ge])).get [] s.aL=X (.cells [.str [],ah 0,ah 0,ah 0,.Ge,.Ge]):=cr;have box:∀cs,∃z,(s.new (.cells [.str [],ah 0,ah 0,ah 0,.Ge,.Ge])).put s.aL (X (.cells cs))=z/\z.aL=s.aL+1/\z.gE<=z.aL/\(∀k,k<s.aL->z.get [] k=s.get [] k)/\z.get [] s.aL=X (.cells cs):=λcs=>
   ⟨_,rfl,rfl,cG _ _ _ (co d0),λk F=>by rw[aO,bN.2 (by omega:k≠s.aL),cF,cQ F],by rw[aO,bS];rfl⟩
  have b7:∀(z:St),(∀q,cD r l=X q->aj q.Al (ki o.Al (J c))=I)->z.aL=s.aL+1->z.gE<=z.aL->(∀k,k<s.aL->z.get [] k=s.get [] k)->∃v s1,iT Q n [.agg [ah 0,ah 0],.bool I] z v s1/\((P (J seq) s1\/D s1)/\kr lo Kp s0 s1):=λz hb zn V H=>by
   have M:seq=done++[((0,0),I)]:=by rw[hq,aBn hb]
   let⟨v,s1,hy,K2,hv⟩:=C.step (J done) ((0,0),I) z (by rw[M];simp) (C.grow _ _ _ hp λk F=>H k w_) w_ V
   refine⟨v,s1,hy,?_,K1.trans ((kr.all H w_ V).trans K2)⟩;have hl:J seq=J done+1:=by rw[M];simp
   rw[hl];rcases hv with⟨_,h⟩|⟨_,h⟩
   exact .inl h;exact .inr h
  cases hob:cD r l with
  |none=>
   rw[hob]at j;simp only[n8,iu]at j
   let⟨z,hz,zn,V,H,zk⟩:=box [.str [],ah 0,ah 0,ah 0,.Ge,.Ge]
   let⟨v,s1,hy,hv,K2⟩:=b7 z (λq hq=>by rw[hob]at hq;cases hq) zn V H
   have zb:=(H bz w_).trans a8;refine aF ?_;simp only[go_sem,seval,DF,aw,r2,R,B,w,hlt,a6,a0,hps,j,dh,a7,dq,hz,r3,V,zb,sB];refine AH.of hy d_ ?_;simp only[go_sem,seval];exact hr _ _ _ hv K2
  |some q=>
   have gq:=hg q (oN hob).1;have a5:=gq.gT.gt;have a3:=gq.uP.gt;have a4:=gq.gT.scal;have a2:=gq.uP.scal;rw[hob]at j;simp only[kV,iu,Obj.val,Obj.cells]at j
   let⟨z,hz,zn,V,H,zk⟩:=box q.cells
   have zb:=(H bz w_).trans a8;have a9:=(H bo c6).trans ho;have b8:=(H bp c4).trans a0;simp only[Obj.cells]at hz zk;have T:=avq b0 go (J c) z.top;simp only[Obj.val,Obj.cells,bu]at T;cases F:aj q.Al (ki o.Al (J c))with
   |false=>
    let⟨v,s1,hy,hv,K2⟩:=b7 z (λq' c9=>by have e:q=q':=sI (hob.symm.trans c9);rw[<-e];exact F) zn V H
    refine aF ?_;simp only[go_sem,seval,DF,aw,r2,R,B,w,hlt,a6,a0,hps,j,dh,a7,dq,hz,Obj.val,Obj.cells,a5,a3,a4,a2,r1,zk,a9,rc,V];refine jx.quiet T d_ (by simp[fB,kE]) ?_;simp only[go_sem,seval,F,r3,zb,sB];refine AH.of hy d_ ?_;simp only[go_sem,seval];exact hr _ _ _ hv K2
   |true=>
    have M:seq=(done++f q)++uh l f o.Al (J c+1) rest:=by rw[hq,aBo hob F,oX]
    have U:=acr b1 gq p z
    let⟨y,hy,yn,ym,yo,yq,yob⟩:=vE (.cells [.ptr p 0]) (.cells q.cells) V
    have nn:(z.new (.cells [.ptr p 0])).aL=z.aL+1:=rfl;rw[hy]at U;simp only[Obj.val,Obj.cells]at U;refine aF ?_;simp only[go_sem,seval,DF,aw,r2,R,B,w,hlt,a6,a0,hps,j,dh,a7,dq,hz,Obj.val,Obj.cells,a5,a3,a4,a2,r1,zk,a9,rc,V];refine jx.quiet T d_ (by simp[fB,kE]) ?_;simp only[go_sem,seval,F,r2,b8,zk,a5,a3,a4,a2];refine aU.of U d_ ?_;simp only[go_sem,seval];have b2:∀(E:ax)(lc:Ag.Loc)(K':hP),ac E 3=.ptr bz 0->ac E 49=.func (.func 264) [] [.ptr (z.aL+1) 0,.ptr z.aL 0]->E.all jC=O->(∀Y,P (done++f q).length Y->kr lo Kp s0 Y->K' .normal ⟨E,58,lc⟩ Y)->(∀Y,D Y->kr lo Kp s0 Y->K' .ret ⟨E,58,lc⟩ Y)->W Q 264 (.rfun (.tmp 49) [50,51] GH GI) ⟨E,58,lc⟩ y K':=by
     intro E lc K' e3 b5 hE k5 k6
     let⟨u,hu,un,um,uo,ul⟩:=oL (Rv E Z) ym
     have uz:∀k,k<s.aL->u.get [] k=s.get [] k:=λk F=>(uo k w_).trans ((yo k w_).trans (H k F));have CI:=aq6 C (m:=y.aL) (base:=J done) (seqI:=f q) (λi x hx=>by
      rw[M,oX,List.getElem?_append_right w_,show J done+i-J done=i from w_];exact List.getElem?_append_left (ie.1 hx).1▸hx) e3 zl w_
     have NI:A3 l p b (z.aL+1) z.aL q u:=by
      refine⟨(uo _ w_).trans yob,(uo _ w_).trans yq,⟨av,bv,(uz p c5).trans hps⟩,(uz b c7).trans N.m,w_,w_,w_,w_⟩
     obtain⟨v,s1,a1,rfl,K2,hv⟩:=IH (J c) r q hat hob F y.aL (y.aL+1) (z.aL+1) z.aL _ _ _ u CI (.inl (.inr ⟨w_,w_⟩)) (.inl (.inr ⟨w_,w_⟩)) (by rcases k3 with h|h;exact .inl (.inl h);exact .inl (.inr ⟨h,w_⟩)) (by rcases k4 with h|h;exact .inl (.inl h);exact .inl (.inr ⟨h,w_⟩)) NI w_ um ⟨C.grow _ _ _ hp λk F=>uz k w_,ul,(uz bz w_).trans a8⟩;have n2:=K2.nx;have K3:∀o',kr lo Kp s0 (s1.put y.aL o'):=λo'=>by
      refine K1.trans ⟨λk d5 hl=>?_,by show s.aL<=s1.aL;omega,cG _ _ _ K2.mw⟩;rw[aO,bN.2 (by omega:k≠y.aL)];refine(K2.get k ?_ w_).trans (uz k hl);rcases d5 with h|h
      exact .inl (.inl h);exact .inl (.inr ⟨h,w_⟩)
     have same:∀o' k,k<lo->(s1.put y.aL o').get [] k=s1.get [] k:=λo' k F=>by rw[aO,bN.2 (by omega:k≠y.aL)];rfl
     rcases hv with⟨p1,m1,_⟩|⟨d1,m1⟩
     refine n9 (h:=264) (first:=[]) (captured:=[.ptr (z.aL+1) 0,.ptr z.aL 0]) (v:=.tup []) (s1:=s1) (by simp only[ey,b5]) (by rw[Std.P,JI,ZY,hE];rfl) (by rw[hu];exact a1) m1 (k5 _ (C.grow _ _ _ ?_ (same _)) (K3 _));rw[bI];exact p1;exact n9 (h:=264) (first:=[]) (captured:=[.ptr (z.aL+1) 0,.ptr z.aL 0]) (v:=.tup []) (s1:=s1) (by simp only[ey,b5]) (by rw[Std.P,JI,ZY,hE];rfl) (by rw[hu];exact a1) m1 (k6 _ (C.growD _ _ d1 (same _)) (K3 _))
    refine b2 _ _ _ ?_ ?_ ?_ ?_ ?_;simp only[sN,seval,r3];simp only[sN,seval]
    ·repeat' (first|exact hE|refine aB.all_set ?_ (by first|exact rfl|exact rn))
    ·intro Y p2 K2
     simp only[go_sem,seval,w,c8];refine ih (c++[r]) _ _ Y (done++f q) (by rw[h1];simp) (by rw[M];simp) p2 K2 ?_ ?_ ?_ ?_ ?_ ?_ ?_
     all_goals first
      |(simp only[sN,seval,r1,r2,r3,R,B,sA];done)
      |(repeat' (first|exact hE|refine aB.all_set ?_ (by first|exact rfl|exact rn)))
    intro Y d2 K2;simp only[go_sem,seval];exact hr _ _ _ (.inr d2) K2
def Vl(n:Nat):(aa.yld n).cells=[.yld n]:=rfl
def oA(k:Int):Nat:=bif aj k 1 then 1 else bif aj k 2||aj k 3 then 2 else 3
def akv{k:Int}(h:aj k 1=I):oA (ki k i)<oA k:=by
 have w:oA 1=1:=rfl;have y:oA 2=2:=rfl;have u:oA k=bif aj k 2||aj k 3 then 2 else 3:=by unfold oA;rw[h];rfl
 rw[u];unfold ki;cases j:aj k 4;cases c:aj k 5;show oA 1<_;rw[w];cases aj k 2||aj k 3<;>decide
 have c:k=5:=by simpa[aj]using c
 subst c;cases i==1;show oA 2<_;decide;show oA 1<_;decide;have j:k=4:=by simpa[aj]using j
 subst j;show oA 2<_;decide
def aru(B:No Q 264)(F:No Q 214)(z:No Q 265)(hg:∀o∈l,o.AL)(V:∀o∈l,J o.gT<=900000):∀(c:Nat)(o:Obj),o∈l->oA o.Al<=c->MZ Q l p b (tZ l c) o:=by
 intro c
 induction c with
 |zero=>
  intro o _ hd;have:0<oA o.Al:=by unfold oA;cases aj o.Al 1<;>cases aj o.Al 2||aj o.Al 3<;>decide
  omega
 |succ c ih=>
  intro o H hd n lo bo bp Kp P D s C k1 k2 k3 k4 N Y U hp;have go:=hg o H;have a0:=go.gT.lenS bM;have rc:=go.gT.gt;have rn:jC o.refsV=O:=by rcases go.gT with⟨e,_⟩|⟨k,e⟩<;>rw[e]<;>rfl
  have T:=N.lo;have a1:=N.lq;have a2:=N.lp;have a3:=N.lm
  let⟨u,hu,un,um,uo,uz⟩:=oL (.cells [.yld n]) U
  have K0:kr lo Kp s u:=.all uo w_ um;have j:=(uo bo T).trans N.o;have NU:=N.kept K0 k1 k2 k3 k4;have pu:=C.grow _ _ _ hp λk R=>uo k w_;simp only[Obj.cells]at j;refine ai.ofNRZ atp (aM ?_);cases h1:aj o.Al 1 with
  |true=>
   have w:tZ l (c+1) o=[((o.x,o.y),O)]:=by unfold tZ;rw[h1];rfl
   rw[w]at C⊢
   let⟨v,s1,hy,M,hv⟩:=C.step 0 ((o.x,o.y),O) u rfl pu w_ um
   simp only[aX]at hy;simp only[go_sem,seval,Vx,Vl,hu,j,uz,h1,sB];refine AH.of hy d_ ?_;simp only[go_sem,seval];refine⟨_,rfl,rfl,K0.trans M,?_⟩;rcases hv with⟨_,h⟩|⟨_,h⟩
   exact .inl h;exact .inr h
  |false=>
   have w:tZ l (c+1) o=uh l (tZ l c) o.Al 0 o.gT:=by
    (conv=>lhs;unfold tZ)
    rw[h1];rfl
   rw[w]at C⊢;have IH:∀(i:Nat)(r:ae)(q:Obj),o.gT[i]?=X r->cD r l=X q->aj q.Al (ki o.Al i)=O->MZ Q l p b (tZ l c) q:=λi r q _ hq R=>by
    have R:q.Al=ki o.Al i:=by simpa[aj]using R
    have:=akv (i:=i) h1;exact ih q (oN hq).1 (by rw[R];omega)
   simp only[go_sem,seval,Vx,Vl,hu,j,h1,rc,a0,sB];refine axn B F z hg go (V o H) IH C k1 k2 k3 k4 (s0:=u) (bz:=s.aL) NU uz Y w_ w_ ?_ ?_ o.gT [] _ _ u [] rfl rfl pu (.refl um) ?_ ?_ ?_ ?_ ?_ ?_ ?_;intro e lc s1 h M;simp only[go_sem,seval];exact⟨_,rfl,rfl,K0.trans M,.inl h⟩;intro e lc s1 h M;simp only[go_sem,seval];exact⟨_,rfl,rfl,K0.trans M,h⟩
   all_goals first
    |(simp only[sN,seval,bC];done)
    |(simp only[sN,seval,bC];rfl)
    |(repeat' (first|exact rfl|refine aB.all_set ?_ (by first|exact rfl|exact rn)))
noncomputable abbrev Ru(E:ax)(x:MA):aH:=.loop 141 E 55 [45,46] Gw Gx x
def vp(r:oa)(q:Pt×Bool):Bool:=q.2&&!aR (sE r q.1) 0
def qD(l:ba)(id area:ae):Bool:=match cD id l,vR l area with
 |some o,X r=>(tZ l 3 o).all (vp r)
 |_,_=>I
def ad1{c:ba}(w:c=l)(B:(l.map Obj.id).Nodup){s0:St}{L:df}(F:wT l c p a b lo s0 s L bv)(k:ae):(bR k L=Z/\vR l k=Z)\/∃v r,bR k L=X v/\vR l k=X r/\au 2 aX v r:=by
 subst w;cases e:bR k L with
 |some v=>
  let⟨o,ho,C,r,h2,h3⟩:=F.rings _ (DR e)
  have C:k=o.id:=C;refine .inr ⟨v,r,rfl,?_,h3⟩;unfold vR;rw[C,Ea B ho];exact h2
 |none=>
  refine .inl ⟨rfl,?_⟩;rcases j:vR c k with _|r
  rfl;exfalso;unfold vR at j;rcases ho:cD k c with _|o
  rw[ho]at j;cases j;rw[ho]at j;have j:t8 c o=X r:=j
  let⟨hm,hid⟩:=oN ho
  have R:k∈L.map (·.1):=by
   rw[F.ids];refine cy.2 ⟨o,yK.2 ⟨hm,?_⟩,hid⟩;unfold oJ;rw[j];rfl
  let⟨x,hx,hxk⟩:=cy.1 R
  have:∀{M:df},x∈M->bR k M≠Z:=by
   intro M
   induction M with
   |nil=>intro h;cases h
   |cons y M H=>
    intro h z
    let⟨a,u⟩:=y
    simp only[bR]at z;by_cases q:k=a;rw[iP q]at z;cases z;rw[iN q]at z;rcases dD.1 h with h|h
    subst h;exact q hxk.symm;exact H h z
  exact this hx e
def aq5(F:Q.spec 215=X Cd){q1 rb:Nat}{r:oa}(hr:au 2 aX rv r){seq:Q4}(e6:ac E 6=.ptr q1 0)(a0:ac E 10=.ptr rb 0)(a5:q1<m)(a4:rb<m)(T:rb≠q1):
 Fl Q m (m+1) (λk=>k<m/\k≠q1) seq (λi s=>s.get [] m=X (Ru E Z)/\s.get [] q1=X (.cells [.bool I])/\s.get [] rb=X (.cells [rv])/\(seq.take i).all (vp r)=O) (λs=>s.get [] m=X (Ru E (X .ret))/\s.get [] q1=X (.cells [.bool I])/\seq.all (vp r)=I):=by
 have V:=hr.gt;refine⟨λi x s hx ⟨U,j,hb,Y⟩ a6 a1=>?_,λi s s' ⟨U,j,hb,Y⟩ M=>⟨(M m w_).trans U,(M q1 w_).trans j,(M rb w_).trans hb,Y⟩,λs s' ⟨U,j,Y⟩ M=>⟨(M m w_).trans U,(M q1 w_).trans j,Y⟩,λk hk=>w_⟩;have y:Cd [rv,aX x.1]=X (bu (sE r x.1)):=by simp only[Cd,qs hr,aG,FA]
 refine iT.any (ca:=Pp) (cb:=Gv) U rfl rfl asc asd ?_;refine aM ?_;obtain⟨w,hw⟩:=cw (s.put m Z);have wn:w.aL=s.aL:=by rw[<-hw];rfl
 obtain⟨z,R⟩:=cw ((w.new (.cells [ah 0,ah 0])).put w.aL (X (.cells [ah x.1.1,ah x.1.2])));have zn:z.aL=s.aL+1:=by rw[<-R];show w.aL+1=_;omega
 have zo:∀k,k<s.aL->k≠m->z.get [] k=s.get [] k:=λk hk T=>by rw[<-R,aO,bN.2 (by omega:k≠w.aL),cF,cQ w_,<-hw,aO,bN.2 T];rfl
 have zw:z.gE<=z.aL:=by
  rw[<-R];refine cG _ _ _ (co ?_);rw[<-hw];exact cG _ _ _ a1
 have zk:z.get [] w.aL=X (.cells [ah x.1.1,ah x.1.2]):=by rw[<-R,aO,bS];rfl
 have zb:z.get [] rb=X (.cells [rv]):=(zo rb w_ w_).trans hb;have z1:z.get [] q1=X (.cells [.bool I]):=(zo q1 w_ w_).trans j;have a3:(w.new (.cells [ah 0,ah 0])).get [] w.aL=X (.cells [ah 0,ah 0]):=cr;have fin:∀(u:St)(o:sh),(∀k,k<s.aL->k≠m->k≠q1->u.get [] k=s.get [] k)->s.aL<=u.aL->u.gE<=u.aL->kr (m+1) (λk=>k<m/\k≠q1) s (u.put m o):=λu o B hn a2=>by
  refine⟨λk hk hl=>?_,hn,cG _ _ _ a2⟩;rw[aO,bN.2 (by omega:k≠m)];exact B k hl w_ w_
 simp only[go_sem,seval,Pp,hw,aX,dh,a3,dq,R,sB];refine aM ?_;cases hin:vp r x with
 |false=>
  have C:seq.all (vp r)=I:=by
   cases hc:seq.all (vp r);rfl
   have:=fO.1 hc x (cq hx);rw[hin]at this;cases this
  obtain⟨u,B⟩:=cw (z.put q1 (X (.cells [.bool I])));have un:u.aL=s.aL+1:=by rw[<-B];exact zn
  have um:u.gE<=u.aL:=by rw[<-B];exact cG _ _ _ zw
  have uo:∀k,k<s.aL->k≠m->k≠q1->u.get [] k=s.get [] k:=λk j H h3=>by rw[<-B,aO,bN.2 h3];exact zo k j H
  have u1:u.get [] q1=X (.cells [.bool I]):=by rw[<-B,aO,bS];rfl
  cases H:x.2;simp only[go_sem,seval,Gv,e6,z1,dh,dq,B,H,lL,lS];refine⟨fin u _ uo w_ um,.inr ⟨?_,?_,C⟩⟩;rw[aO,bS];rfl;rw[aO,bN.2 (by omega:q1≠m)];exact u1;have hs:aR (sE r x.1) 0=O:=by
   unfold vp at hin;rw[H,jo]at hin;simpa using hin
  have c:=y;simp only[aX,bu]at c;simp only[go_sem,seval,Gv,e6,a0,z1,zb,zk,V,dh,dq,B,H,F,c,hs,lL,lS];refine⟨fin u _ uo w_ um,.inr ⟨?_,?_,C⟩⟩;rw[aO,bS];rfl;rw[aO,bN.2 (by omega:q1≠m)];exact u1
 |true=>
  unfold vp at hin;simp only[bg,Bool.not_eq_true']at hin;have c:=y;simp only[aX,bu]at c;simp only[go_sem,seval,Gv,e6,a0,z1,zb,zk,V,F,c,hin.1,hin.2,lL,lS];refine⟨fin z _ (λk j H _=>zo k j H) w_ zw,.inl ⟨?_,?_,?_,?_⟩⟩;rw[aO,bS];rfl;rw[aO,bN.2 (by omega:q1≠m)];exact z1;rw[aO,bN.2 (by omega:rb≠m)];exact zb;rw[List.take_add_one,hx,List.all_append,Y];simp only[Option.toList_some,pZ,List.all_nil,vp,hin.1,hin.2,uF,bZ]
def akw(k:Int):oA k<=3:=by unfold oA;cases aj k 1<;>cases aj k 2||aj k 3<;>decide
variable{area:ae}
def arm{id:ae}(h:cD id l=Z):qD l id area=I:=by unfold qD;rw[h]
def arn{id:ae}(h:vR l area=Z):qD l id area=I:=by
 unfold qD;rw[h];cases cD id l<;>rfl
def aro{id:ae}{r:oa}(h:cD id l=X o)(c:vR l area=X r):qD l id area=(tZ l 3 o).all (vp r):=by unfold qD;rw[h,c]
def arj(c9:Q.spec 20=X gI)(c4:Q.spec 103=X pR)(a9:No Q 58)(c3:Q.spec 215=X Cd)(a8:No Q 264)(a0:No Q 214)(a7:No Q 265)(d1:No Q 141)(ho:au 6 Obj.val ov l)(hg:∀o∈l,o.AL)(hl:J l<=900000)(b8:∀o∈l,J o.gT<=900000)(hv:bm l=O)(id area:ae)(hm:s.gE<=s.aL):
 ∃v s',ai Q 141 [.agg [ov],.str id,.str area] s v s'/\v=.bool (qD l id area):=by
 have c7:=ho.cs;have c8:=Gm ho;have b7:=rQ hv
 let⟨y0,hy0,y0n,y0m,_,y0a,y0b⟩:=vE (.cells [ov]) (.cells [.bool I]) hm
 have c6:(s.new (.cells [ov])).aL=s.aL+1:=rfl;refine ai.ofNRZ ase (aM ?_);simp only[go_sem,seval,u6,c7,c8,c6,hy0,y0a,LC,sB];refine aU.ex (acF c9 c4 a9 ho hg hl b8 hv y0m) d_ ?_;rintro v s1 ⟨rfl,d2,L,bv,T,b1⟩;have nx:=T.nx;have C:=T.hp;have H:s1.get [] (s.aL+1)=X (.cells [.bool I]):=(T.old _ w_ w_ w_).trans ((b1 _ w_).trans y0b);have B:=nM gn BI Ig T.mb id;rw[BF]at B;have V:(s1.new (.cells [.str [],ah 0,ah 0,ah 0,.Ge,.Ge])).get [] s1.aL=X (.cells [.str [],ah 0,ah 0,ah 0,.Ge,.Ge]):=cr;have box:∀cs,∃z,(s1.new (.cells [.str [],ah 0,ah 0,ah 0,.Ge,.Ge])).put s1.aL (X (.cells cs))=z/\z.aL=s1.aL+1/\z.gE<=z.aL/\(∀k,k<s1.aL->z.get [] k=s1.get [] k)/\z.get [] s1.aL=X (.cells cs):=λcs=>
  ⟨_,rfl,rfl,cG _ _ _ (co T.mw),λk hk=>by rw[aO,bN.2 (by omega:k≠s1.aL),cF,cQ hk],by rw[aO,bS];rfl⟩
 have F:∀(z:St)(v:aa),z.gE<=z.aL->∃y,(z.new (.cells [.Ge])).put z.aL (X (.cells [v]))=y/\y.aL=z.aL+1/\y.gE<=y.aL/\(∀k,k<z.aL->y.get [] k=z.get [] k)/\y.get [] z.aL=X (.cells [v]):=λz v hz=>
  ⟨_,rfl,rfl,cG _ _ _ (co hz),λk hk=>by rw[aO,bN.2 (by omega:k≠z.aL),cF,cQ hk],by rw[aO,bS];rfl⟩
 have Y:∀z:St,(z.new (.cells [.Ge])).get [] z.aL=X (.cells [.Ge]):=λz=>cr;cases hob:cD id l with
 |none=>
  rw[hob]at B;simp only[n8,iu]at B
  let⟨z,hz,zn,zm,zo,zk⟩:=box [.str [],ah 0,ah 0,ah 0,.Ge,.Ge]
  have M:=(zo _ w_).trans C;have a4:bf aa.str z y0.aL L:=(zo _ w_).trans T.ma;have c:=nM gn BJ E5 a4 area;have j:=arm (area:=area) hob;have d5:∀U b2,iu .Ge (bR area L)=.tup [U,.bool b2]->U.cells=[U]->U.gt=O->∃w,w=iu .Ge (bR area L):=λ_ _ _ _ _=>⟨_,rfl⟩;rcases ad1 rfl b7 T area with⟨g1,g2⟩|⟨U,r,g1,g2,g3⟩
  rw[g1]at c;simp only[iu]at c
  let⟨y,hy,yn,ym,yo,yk⟩:=F z .Ge zm
  have y1:=(yo (s.aL+1) w_).trans ((zo _ w_).trans H);simp only[go_sem,seval,u6,HF,C,B,dh,V,dq,hz,M,c,Y,hy,y1,aO];exact⟨_,rfl,by rw[j]⟩;rw[g1]at c;simp only[iu]at c;have a2:=g3.gt;have a3:=Gm g3
  let⟨y,hy,yn,ym,yo,yk⟩:=F z U zm
  have y1:=(yo (s.aL+1) w_).trans ((zo _ w_).trans H);simp only[go_sem,seval,u6,HF,C,B,dh,V,dq,hz,M,c,a2,a3,Y,hy,y1,aO];exact⟨_,rfl,by rw[j]⟩
 |some o=>
  have b5:=(oN hob).1;have go:=hg o b5;have rc:=go.all;rw[hob]at B;simp only[kV,iu,Obj.val,Obj.cells]at B
  let⟨z,hz,zn,zm,zo,zk⟩:=box o.cells
  simp only[Obj.cells]at hz zk;have M:=(zo _ w_).trans C;have a4:bf aa.str z y0.aL L:=(zo _ w_).trans T.ma;have c:=nM gn BJ E5 a4 area;rcases ad1 rfl b7 T area with⟨g1,g2⟩|⟨U,r,g1,g2,g3⟩
  have j:=arn (id:=id) g2;rw[g1]at c;simp only[iu]at c
  let⟨y,hy,yn,ym,yo,yk⟩:=F z .Ge zm
  have y1:=(yo (s.aL+1) w_).trans ((zo _ w_).trans H);simp only[go_sem,seval,u6,HF,C,B,rc,dh,V,dq,hz,M,c,Y,hy,y1,aO];exact⟨_,rfl,by rw[j]⟩
  ·have j:=aro hob g2
   rw[g1]at c;simp only[iu]at c;have a2:=g3.gt;have a3:=Gm g3
   let⟨y,hy,yn,ym,yo,yk⟩:=F z U zm
   have y1:=(yo (s.aL+1) w_).trans ((zo _ w_).trans H);have yz:=(yo s1.aL w_).trans zk;have R:=acr a0 go (y0.aL+2) y
   let⟨x,hx,xn,xm,xo,xq,xob⟩:=vE (.cells [.ptr (y0.aL+2) 0]) (.cells o.cells) ym
   have d4:(y.new (.cells [.ptr (y0.aL+2) 0])).aL=y.aL+1:=rfl;rw[hx]at R;simp only[Obj.val,Obj.cells]at R;simp only[go_sem,seval,u6,HF,C,B,rc,dh,V,dq,hz,M,c,a2,a3,Y,hy,yz];refine aU.of R d_ ?_;simp only[go_sem,seval,u6];have b0:∀(E:ax)(lc:Ag.Loc)(K':hP),ac E 6=.ptr (s.aL+1) 0->ac E 10=.ptr z.aL 0->ac E 44=.func (.func 264) [] [.ptr (y.aL+1) 0,.ptr y.aL 0]->E.all jC=O->(∀s2,qD l id area=O->s2.get [] (s.aL+1)=X (.cells [.bool I])->K' .normal ⟨E,55,lc⟩ s2)->(∀s2,qD l id area=I->s2.get [] (s.aL+1)=X (.cells [.bool I])->K' .ret ⟨E,55,lc⟩ s2)->W Q 141 (.rfun (.tmp 44) [45,46] Gw Gx) ⟨E,55,lc⟩ x K':=by
    intro E lc K' e6 d0 c5 hE k5 k6
    let⟨u,hu,un,um,uo,ul⟩:=oL (Ru E Z) xm
    have uz:∀k,k<y.aL->u.get [] k=y.get [] k:=λk hk=>(uo k w_).trans (xo k hk);have us:∀k,k<s1.aL->u.get [] k=s1.get [] k:=λk hk=>(uz k w_).trans ((yo k w_).trans (zo k hk));have CI:=aq5 c3 (m:=x.aL) (q1:=s.aL+1) (rb:=z.aL) g3 (seq:=tZ l 3 o) e6 d0 w_ w_ w_;have NI:A3 l (y0.aL+2) (y0.aL+1) (y.aL+1) y.aL o u:=by
     refine⟨(uo _ w_).trans xob,(uo _ w_).trans xq,⟨_,bv,(us _ w_).trans C⟩,(us _ w_).trans T.mb,w_,w_,w_,w_⟩
    obtain⟨v,s3,a1,rfl,K2,hv⟩:=aru a8 a0 a7 hg b8 3 o b5 (akw _) x.aL (x.aL+1) (y.aL+1) y.aL _ _ _ u CI (.inl ⟨w_,w_⟩) (.inl ⟨w_,w_⟩) (.inl ⟨w_,w_⟩) (.inl ⟨w_,w_⟩) NI w_ um ⟨ul,(us _ w_).trans H,(uz _ w_).trans yk,rfl⟩;rcases hv with⟨m1,p1,_,ha⟩|⟨m1,p1,ha⟩
    refine n9 (h:=264) (first:=[]) (captured:=[.ptr (y.aL+1) 0,.ptr y.aL 0]) (v:=.tup []) (s1:=s3) (by simp only[ey,c5]) (by rw[Std.P,JI,YU,hE];rfl) (by rw[hu];exact a1) m1 (k5 _ ?_ ?_);rw[j,<-ha,List.take_of_length_le (aC _)];rw[aO,bN.2 (by omega:s.aL+1≠x.aL)];exact p1;refine n9 (h:=264) (first:=[]) (captured:=[.ptr (y.aL+1) 0,.ptr y.aL 0]) (v:=.tup []) (s1:=s3) (by simp only[ey,c5]) (by rw[Std.P,JI,YU,hE];rfl) (by rw[hu];exact a1) m1 (k6 _ ?_ ?_);rw[j,ha];rw[aO,bN.2 (by omega:s.aL+1≠x.aL)];exact p1
   have rn:jC U=O:=by rcases g3 with⟨e,_⟩|⟨k,e⟩<;>rw[e]<;>rfl
   refine b0 _ _ _ ?_ ?_ ?_ ?_ ?_ ?_;simp only[sN,seval];simp only[sN,seval];simp only[sN,seval]
   ·repeat' (first|exact rfl|refine aB.all_set ?_ (by first|exact rfl|exact rn))
   intro s2 a5 a6;simp only[go_sem,seval,u6,a6,dh,dq,aO];exact⟨_,rfl,by rw[a5]⟩;intro s2 a5 a6;simp only[go_sem,seval,u6,a6];exact⟨_,rfl,by rw[a5]⟩
def T6:dy:=[(20,gI),(103,pR),(215,Cd)]
def af6:eh T6:=.cons vB (.cons L0 (.cons aCL .nil))
def tP:Sp
 |[v,.str id,.str area]=>(kY v).bind λl=>bif my l then X (.bool (qD l id area))else Z
 |_=>Z
def arl:cW ag 141 tP:=by
 intro args u c G h w xs F H;unfold tP at c;split at c;rename_i T id area;simp only[ak]at c
 let⟨l,B,c⟩:=c
 let⟨y,c⟩:=aZ c
 have c:=sI c;subst c;obtain⟨v,rfl,B,C,U⟩:=qr B
 let⟨ht,v',z,hl'⟩:=pJ B C
 have z:di [.agg [v],.str id,.str area]=[.agg [v'],.str id,.str area]:=by simp only[di,z];rfl
 have y:=oC.1 y;refine iQ af6 (W:=[]) .nil (args:=[.agg [v],.str id,.str area]) (by show(dW (.agg [v])&&_)=O;rw[ht];rfl) (λR=>?_) G h w xs F H;rw[z];obtain⟨v,s',j,rfl⟩:=arj (Q:=QW T6 [] R) rfl rfl R_ rfl R_ R_ R_ R_ hl' C (by have:=y.len;omega) (λo M=>by have:=y.gT o M;omega) y.valid id area (s:=s0) d_;exact⟨_,_,j,1,rfl⟩;cases c
def lH(l:ba)(x:aW)(o:Obj):Bool:=Oi x o&&(!vu x o&&((x.area== [])||qD l o.id x.area))
def cA(x:aW)(o:Obj):Bool:= !(aj x.Al 0)&&!(aj x.Al o.Al)
def cB(x:aW)(o:Obj):Bool:= !(x.ifK== [])&&!(gM x.ifK o.uP==X x.ifV)
theorem akc(x:aW)(o:Obj):Oi x o=(!cA x o&&!cB x o):=by
 grind [Oi,cA,cB]
def ark(h:au 6 Obj.val v l)(w:∀o∈l,o.AL)(c:my l=O)(id area:ae):tP [.agg [v],.str id,.str area]=X (.bool (qD l id area)):=by
 have u:J l<small:=by
  have:=(oC.1 c).len;have j:=aab;omega
 simp only[aaf,tP,rp h w u,c]
def WZ(g:N_):∃v b,zJ g=.tup [.str v,.bool b]/\((∃w,g=X w/\v=w/\b=O)\/(g=Z/\v=[]/\b=I)):=by
 rcases g with _|v
 exact⟨_,_,rfl,.inr ⟨rfl,rfl,rfl⟩⟩;exact⟨_,_,rfl,.inl ⟨v,rfl,rfl,rfl⟩⟩
variable{xb:Nat}
def aAF(h1:ac e 1=.ptr xb 0)(y:ac e 3=.Gt 3 1 0)(u:lc.get 3 1=X o.cells)(z:lc.gen 3=1)(j:s.get [] xb=X (.cells x.cells))(w:∀c,ac c 19=.bool (cA x o)->ac c 1=.ptr xb 0->ac c 2=ac e 2->ac c 3=.Gt 3 1 0->N ⟨c,84,lc⟩ s):WV Q 139 vq ⟨e,84,lc⟩ s N:=by
 unfold cA at w;simp only[aW.cells]at j;simp only[Obj.cells]at u;cases hz:aj x.Al 0;simp only[go_sem,seval,vq,tR,vr,h1,y,u,z,j,hz]
 simp_all [sN]
 simp only[go_sem,seval,vq,tR,vr,h1,j,hz]
 simp_all [sN]
def aAH(h1:ac e 1=.ptr xb 0)(C:ac e 3=.Gt 3 1 0)(w:(∃v,gM x.ifK o.uP=X v/\ac e 5=.str v/\ac e 6=.bool O)\/(gM x.ifK o.uP=Z/\ac e 5=.str []/\ac e 6=.bool I))(j:s.get [] xb=X (.cells x.cells))(B:∀c,ac c 43=.bool (cB x o)->ac c 1=.ptr xb 0->ac c 2=ac e 2->ac c 3=.Gt 3 1 0->N ⟨c,84,lc⟩ s):WV Q 139 vr ⟨e,84,lc⟩ s N:=by
 unfold cB at B;simp only[aW.cells]at j;cases hz:x.ifK== [];rcases w with⟨v,z,y,u⟩|⟨z,y,u⟩
 simp only[go_sem,seval,vq,tR,vr,h1,y,u,j,hz]
 simp_all [sN]
 simp only[go_sem,seval,vq,tR,vr,h1,y,u,j,hz]
 simp_all [sN]
 simp only[go_sem,seval,vq,tR,vr,h1,j,hz]
 simp_all [sN]
variable{mb:Nat}
theorem aAG(c:Q.spec 141=X tP)(z:au 6 Obj.val ov l)(F:∀o∈l,o.AL)(H:my l=O){k:Bool}(h1:ac e 1=.ptr xb 0)(R:ac e 2=.ptr mb 0)(M:ac e 3=.Gt 3 1 0)(y:lc.get 3 1=X o.cells)(T:lc.gen 3=1)(w:ac e 9=.bool k)(j:s.get [] xb=X (.cells x.cells))(C:s.get [] mb=X (.cells [ov]))(U:∀B,ac B 4=.bool (!k&&((x.area== [])||qD l o.id x.area))->N ⟨B,84,lc⟩ s):WV Q 139 tR ⟨e,84,lc⟩ s N:=by
 simp only[aW.cells]at j;simp only[Obj.cells]at y;have u:=z.gt;have q:=ark z F H o.id x.area;cases k;cases hz:x.area== [];simp only[go_sem,seval,vq,tR,vr,h1,R,M,y,T,w,j,C,LC,hz,u,c,q]
 grind [fA]
 simp only[go_sem,seval,vq,tR,vr,h1,w,j,hz]
 grind [fA]
 simp only[go_sem,seval,vq,tR,vr,w]
 grind [fA]
theorem aib(c:Q.spec 140=X mz)(a4:Q.spec 51=X lf)(a0:Q.spec 141=X tP)(a5:No Q 139)(ho:au 6 Obj.val ov l)(hg:∀o∈l,o.AL)(hf:my l=O)(ok:x.Ok)(go:o.AL)(ht:J o.uP<=1000000)(hx:s.get [] xb=X (.cells x.cells))(hm:s.get [] mb=X (.cells [ov])):ai Q 139 [o.val,.ptr xb 0,.ptr mb 0] s (.bool (lH l x o)) s:=by
 have R:=go.all;have vc:=ok.vals.gt;have q1:=OU go.uP ht x.ifK;have U:=OU go.uP ht x.key;have Y:=akc x o;have l1:Ag.Loc.get (Ag.Loc.set [] 3 1 o.cells) 3 1=X o.cells:=rfl;have F:Ag.Loc.gen (Ag.Loc.set [] 3 1 o.cells) 3=1:=rfl;obtain⟨lc,M⟩:=cw (Ag.Loc.set [] 3 1 o.cells);rw[M]at l1 F;have u:=l1;simp only[Obj.cells]at M u;have y:=hx;simp only[aW.cells]at y;refine ai.ofNZ asa (aM ?_);simp only[go_sem,seval,Obj.val,Obj.cells,R,M];refine aAF (x:=x) (o:=o) ?_ ?_ l1 F hx ?_;simp only[sN,seval];simp only[sN,seval];intro e1 B a1 a2 a3;simp only[sN,seval]at a2;cases bA:cA x o with
 |true=>
  have hb:lH l x o=I:=by unfold lH;rw[Y,bA];rfl
  rw[bA]at B;simp only[go_sem,seval,B,hb]
 |false=>
  rw[bA]at B
  let⟨v5,b6,hg5,hd5⟩:=WZ (gM x.ifK o.uP)
  rw[hg5]at q1;simp only[go_sem,seval,B,a1,a3,u,F,y,R,c,q1];refine aAH (x:=x) (o:=o) ?_ ?_ ?_ hx ?_;simp only[sN,seval,a1];simp only[sN,seval,a3];rcases hd5 with⟨w,e1,rfl,rfl⟩|⟨e1,rfl,rfl⟩<;>simp_all [sN]
  intro e2 j c1 c2 z;simp only[sN,seval,a2]at c2;cases bB:cB x o with
  |true=>
   have hb:lH l x o=I:=by unfold lH;rw[Y,bB,sO,kU];rfl
   rw[bB]at j;simp only[go_sem,seval,j,hb]
  |false=>
   rw[bB]at j;have fin:∀T,ac T 1=.ptr xb 0->ac T 2=.ptr mb 0->ac T 3=.Gt 3 1 0->∀k,k=vu x o->ac T 9=.bool k->∀N:mm,(∀e2,ac e2 4=.bool (lH l x o)->N ⟨e2,84,lc⟩ s)->WV Q 139 tR ⟨T,84,lc⟩ s N:=λT c1 c2 z k C c9 N hN=>by
    refine aAG a0 ho hg hf c1 c2 z l1 F c9 hx hm λe2 H=>hN e2 ?_
    grind [lH]
   let⟨v7,b8,hg7,hd7⟩:=WZ (gM x.key o.uP)
   rw[hg7]at U;have V:(gM x.key o.uP).isNone= !b8/\(gM x.key o.uP).isSome=b8:=by
    rcases hd7 with⟨w,e1,rfl,rfl⟩|⟨e1,rfl,rfl⟩<;>rw[e1]<;>exact R_
   cases e3:aj x.op 3 with
   |true=>
    have C:(!b8)=vu x o:=by unfold vu;rw[e3,cT,V.1]
    simp only[go_sem,seval,j,c1,z,u,F,y,R,c,U,e3];refine fin _ ?_ ?_ ?_ _ C ?_ _ ?_
    any_goals simp only[sN,seval,c1,c2,z]
    intro e4 H;simp only[go_sem,seval,H]
   |false=>
    cases e2':aj x.op 2 with
    |false=>
     have C:b8=vu x o:=by unfold vu;rw[e3,e2',cF,cF,V.2]
     simp only[go_sem,seval,j,c1,z,u,F,y,R,c,U,e3,e2'];refine fin _ ?_ ?_ ?_ _ C ?_ _ ?_
     any_goals simp only[sN,seval,c1,c2,z]
     intro e4 H;simp only[go_sem,seval,H]
    |true=>
     rcases hd7 with⟨w,f1,rfl,rfl⟩|⟨f1,rfl,rfl⟩
     ·have C:x.values.contains v7=vu x o:=by unfold vu;rw[e3,e2',cF,cT,f1]
      have q3:=FK ok.vals ok.len v7;simp only[go_sem,seval,j,c1,z,u,F,y,R,vc,c,U,e3,e2',a4,q3];refine fin _ ?_ ?_ ?_ _ C ?_ _ ?_
      any_goals simp only[sN,seval,c1,c2,z]
      intro e4 H;simp only[go_sem,seval,H]
     ·have C:O=vu x o:=by unfold vu;rw[e3,e2',cF,cT,f1]
      simp only[go_sem,seval,j,c1,z,u,F,y,R,c,U,e3,e2'];refine fin _ ?_ ?_ ?_ _ C ?_ _ ?_
      any_goals simp only[sN,seval,c1,c2,z]
      intro e4 H;simp only[go_sem,seval,H]
def oB(f:Nat×ae):aa:=.agg [an f.1,.str f.2]
abbrev s_:=List (Nat×ae)
def Jm(l:ba)(k:Nat)(x:aW):s_:=(l.filter (lH l x)).map λo=>(k,o.id)
def pB(l:ba):Nat->vy->s_
 |_,[]=>[]
 |k,x::r=>Jm l k x++pB l (k+1) r
def OH(l:ba):∀(r:vy)(k:Nat),(pB l k r).length<=J r*J l
 |[],_=>Nat.zero_le _
 |x::r,k=>by
  have:=OH l r (k+1);have h:=jF (lH l x) l;simp only[pB,Jm,bI,bh,bP,Nat.succ_mul];omega
def aia(j:No Q 91)(z:au 6 Obj.val ov l)(u:x.Ok)(s:St):ai Q 91 [.agg [ov],x.val] s (.func (.func 139) [] [.ptr (s.aL+1) 0,.ptr s.aL 0]) ((s.new (.cells [ov])).new (.cells x.cells)):=by
 have c:=z.cs;have w:=u.vals.gt;have vs:=u.vals.scal;have y:(s.new (.cells [ov])).aL=s.aL+1:=rfl;refine ai.ofNZ au7 (aM ?_);simp only[go_sem,seval,c,aW.val,aW.cells,w,vs,y,sB]
def amN(b2:Q.spec 140=X mz)(b5:Q.spec 51=X lf)(b1:Q.spec 141=X tP)(V:No Q 139)(ho:au 6 Obj.val ov l)(hg:∀o∈l,o.AL)(hf:my l=O)(ht:∀o∈l,J o.uP<=1000000)(ok:x.Ok){k nr:Nat}{bse:s_}(c8:J bse+J l<=900000){s0:St}(Y:s0.get [] xb=X (.cells x.cells))(a9:s0.get [] mb=X (.cells [ov]))(xl:xb<s0.aL)(ml:mb<s0.aL)(hx:∀e lc s tv,bU 2 lo s tv ((bse++Jm l k x).map oB)->og s0 s->lo<=s.aL->(∀k,k<lo->s.get [] k=s0.get [] k)->ac e 1=rv->ac e 2=.Gt 2 1 0->lc.get 2 1=X [ov]->lc.gen 2=1->ac e 5=tv->ac e 19=rv->ac e 20=an nr->ac e 21=an k->K (.exit 2) ⟨e,49,lc⟩ s):
 ∀(rest c:ba)(e:ax)(lc:Ag.Loc)(s:St)(tv:aa),l=c++rest->bU 2 lo s tv ((bse++(c.filter (lH l x)).map λo=>(k,o.id)).map oB)->og s0 s->lo<=s.aL->(∀k,k<lo->s.get [] k=s0.get [] k)->ac e 1=rv->ac e 2=.Gt 2 1 0->lc.get 2 1=X [ov]->lc.gen 2=1->ac e 5=tv->ac e 6=an k->ac e 8=.func (.func 139) [] [.ptr xb 0,.ptr mb 0]->ac e 19=rv->ac e 20=an nr->ac e 21=an k->ac e 30=ov->ac e 31=an (J l)->ac e 32=an (J c)->W Q 44 (.loop Qo) ⟨e,49,lc⟩ s K:=by
 intro rest
 induction rest with
 |nil=>
  intro c e lc s tv U T w z B r1 r2 l2 g2 h5 h6 h8 M H F C u j;have c5:=cL U;have c3:c=l:=by rw[U];simp
  refine aF ?_;simp only[go_sem,seval,Qo,u,j,c5,bJ];rw[c3]at T;refine hx _ _ _ tv T w z B ?_ ?_ l2 g2 ?_ ?_ ?_ ?_<;>simp only[sN,seval,r1,r2,h5,M,H,F]
 |cons o rest ih=>
  intro c e lc s tv U T w z B r1 r2 l2 g2 h5 h6 h8 M H F C u j
  let⟨hlt,hat⟩:=cR U
  have a8:=cq hat;have go:=hg o a8;have rc:=go.all;have c6:=λlc k=>ho.at ek.2.2.1 hat lc k;have c7:J l<=900:=(oC.1 hf).len;have a0:=cm (n:=J c) w_;have b8:=(w.old xb xl (by rw[Y];simp)).trans Y;have c4:=(w.old mb ml (by rw[a9];simp)).trans a9;have R:=aib b2 b5 b1 V ho hg hf ok go (ht o a8) (s:=s) b8 c4;simp only[Obj.val,Obj.cells]at R;have b7:=T.gt;have b0:(bse++(c.filter (lH l x)).map λo=>(k,o.id)).length<=900000:=by
   rw[bI,bh]
   have:=jF (lH l x) c;omega
  refine aF ?_;simp only[go_sem,seval,Qo,h8,C,u,j,hlt,c6,Obj.val,Obj.cells,rc];refine aU.of R d_ ?_;cases hb:lH l x o with
  |false=>
   simp only[go_sem,seval,j,a0];refine ih (c++[o]) _ _ s tv (db U) (by rw[pA hb];exact T) w z B ?_ ?_ ?_ ?_ ?_ ?_ ?_ ?_ ?_ ?_ ?_ ?_ ?_
   all_goals simp only[sL,seval,r1,r2,l2,g2,h5,h6,h8,M,H,F,C,u,sA]
  |true=>
   let⟨tv',s1,a1,a2,a3,a4,a5,a6,a7⟩:=CP (t:=98) L4.1 rfl d_ (s:=s) (y:=.list 2 [oB (k,o.id)] .GT) (x:=oB (k,o.id)) T (by simp only[aaa,cU]) (by rw[bh];exact b0) z w.mw
   simp only[oB]at a1;simp only[go_sem,seval,h5,h6,b7,sB,j,a0,a1,a3];refine ih (c++[o]) _ _ s1 tv' (by rw[U];simp) (by
    have e:(bse++((c++[o]).filter (lH l x)).map λo=>(k,o.id)).map oB=(bse++(c.filter (lH l x)).map λo=>(k,o.id)).map oB++[oB (k,o.id)]:=by rw[vi hb];simp
    rw[e];exact a2) (w.app a4 a5 a6) w_ (λk w=>(a7 k w).trans (B k w)) ?_ ?_ ?_ ?_ ?_ ?_ ?_ ?_ ?_ ?_ ?_ ?_ ?_
   all_goals simp only[sL,seval,r1,r2,l2,g2,h6,h8,M,H,F,C,u,sA]
variable{rl:vy}
def am2(a0:Q.spec 140=X mz)(a1:Q.spec 51=X lf)(Y:Q.spec 141=X tP)(M:No Q 139)(R:No Q 91)(ho:au 6 Obj.val ov l)(hg:∀o∈l,o.AL)(hf:my l=O)(ht:∀o∈l,J o.uP<=1000000)(a5:au 8 aW.val rv rl)(ok:∀x∈rl,x.Ok)(a4:J rl<=200){s9:St}(hx:∀e lc s tv,bU 2 lo s tv ((pB l 0 rl).map oB)->s.gE<=s.aL->lo<=s.aL->(∀k,k<lo->s.get [] k=s9.get [] k)->ac e 5=tv->K (.exit 0) ⟨e,49,lc⟩ s):
 ∀(rest j:vy)(e:ax)(lc:Ag.Loc)(s:St)(tv:aa)(c:s_),rl=j++rest->c++pB l (J j) rest=pB l 0 rl->bU 2 lo s tv (c.map oB)->lo<=s.aL->s.gE<=s.aL->(∀k,k<lo->s.get [] k=s9.get [] k)->ac e 1=rv->ac e 2=.Gt 2 1 0->lc.get 2 1=X [ov]->lc.gen 2=1->ac e 5=tv->ac e 19=rv->ac e 20=an (J rl)->ac e 21=an (J j)->W Q 44 (.loop Qp) ⟨e,49,lc⟩ s K:=by
 have a8:J l<=900:=(oC.1 hf).len;have c9:(pB l 0 rl).length<=200*900:=dg (OH l rl 0) (n7 a4 a8);have V:=ho.gt;have a7:=ho.lenS ek;intro rest
 induction rest with
 |nil=>
  intro j e lc s tv c h1 H hO U C h9 r1 r2 l2 g2 h5 F B y;have a9:=cL h1;refine aF ?_;simp only[go_sem,seval,Qp,B,y,a9,bJ];have H:c=pB l 0 rl:=by rw[<-H];exact(jV c).symm
  subst H;exact hx _ _ _ tv hO C U h9 (by simp only[sN,seval,h5])
 |cons x rest ih=>
  intro j e lc s tv c h1 H hO U C h9 r1 r2 l2 g2 h5 F B y
  let⟨hlt,hat⟩:=cR h1
  have w:=ok x (cq hat);have vc:=w.vals.gt;have vs:=w.vals.scal;have b1:=λlc k=>a5.at sF.2.2.1 hat lc k;have a3:=cm (n:=J j) w_;have b2:J c+J l<=900000:=by
   have:=congrArg List.length H;rw[bI]at this;omega
  have u:=aia R ho w s
  let⟨z,hz,zn,zm,zo,z0,z1⟩:=vE (.cells [ov]) (.cells x.cells) C
  have nn:(s.new (.cells [ov])).aL=s.aL+1:=rfl;rw[hz]at u;simp only[aW.val,aW.cells]at u;have b7:bU 2 lo z tv ((c++(([]:ba).filter (lH l x)).map λo=>(J j,o.id)).map oB):=by
   have e:(c++(([]:ba).filter (lH l x)).map λo=>(J j,o.id))=c:=by simp
   rw[e];rcases hO with h|⟨q1,k,q2,q3,q4,q5⟩
   exact .inl h;exact .inr ⟨q1,k,q2,(zo k q5).trans q3,q4,w_⟩
  refine aF ?_;simp only[go_sem,seval,Qp,r2,l2,g2,F,B,y,hlt,b1,aW.val,aW.cells,vc,vs,V];refine aU.of u d_ ?_;simp only[go_sem,seval,r2,l2,g2,a7,V];refine amN a0 a1 Y M ho hg hf ht w (rv:=rv) (xb:=s.aL+1) (mb:=s.aL) (lo:=lo) (k:=J j) (nr:=J rl) (bse:=c) b2 (s0:=z) z1 z0 w_ w_ ?_ l [] _ _ z tv rfl b7 (.refl zm) w_ (λ_ _=>rfl) ?_ ?_ ?_ ?_ ?_ ?_ ?_ ?_ ?_ ?_ ?_ ?_ ?_
  ·intro e1 c8 s1 a2 b5 b0 T a6 c1 c2 b8 c3 c5 c7 c6 c4
   simp only[go_sem,seval,c4,a3];refine ih (j++[x]) _ _ s1 a2 (c++Jm l (J j) x) (by rw[h1];simp) ?_ b5 T b0.mw (λk hk=>(a6 k hk).trans ((zo k w_).trans (h9 k hk))) ?_ ?_ ?_ ?_ ?_ ?_ ?_ ?_;rw[<-H,oX,bI];rfl
   all_goals simp only[sL,seval,c1,c2,b8,c3,c5,c7,c6,sA]
  all_goals simp only[sL,seval,r1,r2,l2,g2,h5,F,B,y,bC]
  all_goals rfl
def amA(j:Q.spec 90=X Cc)(a2:Q.spec 20=X gI)(C:Q.spec 140=X mz)(F:Q.spec 51=X lf)(B:Q.spec 141=X tP)(u:No Q 139)(w:No Q 91)(a3:No Q 44)(M:au 6 Obj.val ov l)(hg:∀o∈l,o.AL)(hf:my l=O)(ht:∀o∈l,J o.uP<=1000000)(c:au 8 aW.val rv rl)(ok:∀x∈rl,x.Ok)(U:J rl<=1000000)(hm:s.gE<=s.aL):
 ∃v s',ai Q 44 [.agg [ov],rv] s v s'/\(au 2 oB v (bif nT rl then pB l 0 rl else [])/\s'.gE<=s'.aL/\s.aL<=s'.aL/\∀k,k<s.aL->s'.get [] k=s.get [] k):=by
 have a4:=aab;have a5:J l<=900:=(oC.1 hf).len;have hv:bm l=O:=(oC.1 hf).valid;have z:=M.cs;have a6:=Gm M;have y:=c.gt;have T:=c.lenS sF;have H:=aB9 c ok U;have q2:=xP M hg w_;rw[hv]at q2;refine ai.ofNRZ atJ (aM ?_);cases hr:nT rl with
 |false=>
  rw[hr]at H;simp only[go_sem,seval,z,y,j,H];exact⟨_,rfl,.inl R_,hm,λ_ _=>trivial⟩
 |true=>
  have V:J rl<=200:=by
   unfold nT at hr;simp only[bg,dE]at hr;exact hr.1
  rw[hr]at H;simp only[go_sem,seval,z,y,T,j,H,a2,q2];refine am2 C F B u w M hg hf ht c ok V (lo:=s.aL) (s9:=s) ?_ rl [] _ _ s .Ge [] rfl rfl (.inl R_) (aC _) hm (λ_ _=>rfl) ?_ ?_ ?_ ?_ ?_ ?_ ?_ ?_;intro e lc s1 tv hO a0 a1 Y h5;have R:=hO.gt;simp only[go_sem,seval,h5,R];exact⟨_,rfl,hO.isL,a0,a1,Y⟩
  all_goals simp only[aah,bS,oD,ct,cN,bC]
  all_goals rfl
def FC(l:ba)(rl:vy)(o:Obj):Bool:=nT rl&&rl.any λx=>x.strict&&lH l x o
def LN(l:ba)(rl:vy):az:=(l.filter (FC l rl)).map λo=>fh 7 [o.id]
def AE(l:ba)(rl:vy):aa:=fG 3 (LN l rl)
theorem KU{l:ba}{f:Nat×ae}:∀{r:vy}{k:Nat},f∈pB l k r↔∃j x,f.1=k+j/\r[j]?=X x/\∃o∈l,o.id=f.2/\lH l x o=O
 |[],k=>by simp[pB]
 |x::r,k=>by
  rw[pB,fJ,KU (r:=r)];constructor;rintro(h|⟨j,y,w,c,u⟩);obtain⟨o,C,rfl⟩:=cy.1 h
  grind
  exact⟨j+1,y,w_,by simpa using c,u⟩;rintro⟨j,y,w,c,o,u,B,z⟩;rcases j with _|j
  simp only[List.getElem?_cons_zero,aQ]at c;subst c;refine .inl (cy.2 ⟨o,yK.2 ⟨u,z⟩,?_⟩);rw[B];exact Prod.ext w.symm rfl
  grind
def H1(rl:vy)(i:Nat):Bool:=match rl[i]? with|some x=>x.strict|none=>I
def xr(rl:vy)(c:s_)(k:ae):Bool:=c.any λf=>H1 rl f.1&&f.2==k
theorem ahe(c:(l.map Obj.id).Nodup)(y:o∈l):xr rl (bif nT rl then pB l 0 rl else []) o.id=FC l rl o:=by
 unfold xr FC;cases nT rl;rfl;rw[cT,jo,Bool.eq_iff_iff];simp only[E8,bg,bE];constructor;rintro⟨f,B,u,w⟩
 let⟨j,x,e1,e2,q,hq,e3,e4⟩:=KU.1 B
 rw[dS]at e1;unfold H1 at u;rw[e1,e2]at u;have C:q=o:=by
  have a:=Ea c hq;have b:=Ea c y;rw[e3,w,b]at a;exact(sI a).symm
 grind
 rintro⟨x,z,u,w⟩
 let⟨j,hj⟩:=Cy z
 refine⟨(j,o.id),KU.2 ⟨j,x,by simp,hj,o,y,rfl,w⟩,?_,rfl⟩;unfold H1;rw[hj];exact u
theorem aAM{fv:aa}(M:au 8 aW.val rv rl)(ok:∀x∈rl,x.Ok){y:s_}(a3:au 2 oB fv y)(a7:J y<=900000)(a4:∀f∈y,f.1<J rl){s0:St}(hx:∀e lc s B,ac e 2=.Gt 2 1 0->lc.get 2 1=X [ov]->lc.gen 2=1->ac e 5=.map a->du a s0 s->bf aa.str s a B->(∀k,(bR k B).getD (.bool I)=.bool (xr rl y k))->K (.exit 0) ⟨e,50,lc⟩ s):
 ∀(rest c:s_)(e:ax)(lc:Ag.Loc)(s:St)(B:df),y=c++rest->du a s0 s->bf aa.str s a B->(∀k,(bR k B).getD (.bool I)=.bool (xr rl c k))->
  ac e 1=rv->ac e 2=.Gt 2 1 0->lc.get 2 1=X [ov]->lc.gen 2=1->ac e 5=.map a->ac e 14=fv->ac e 15=an (J y)->ac e 16=an (J c)->W Q 22 (.loop J7) ⟨e,50,lc⟩ s K:=by
 intro rest
 induction rest with
 |nil=>
  intro c e lc s B z U V hB Y r2 l2 g2 h5 w u j;have a2:=cL z;have a1:c=y:=by rw[z];simp
  refine aF ?_;simp only[go_sem,seval,J7,u,j,a2,bJ];rw[a1]at hB;exact hx _ _ _ B (by simp only[sN,seval,r2]) l2 g2 (by simp only[sN,seval,h5]) U V hB
 |cons f rest ih=>
  intro c e lc s B z U V hB Y r2 l2 g2 h5 w u j
  let⟨hlt,hat⟩:=cR z
  have T:=λlc k=>a3.at L4.2.2.1 hat lc k;have H:=cm (n:=J c) w_;obtain⟨x,F⟩:∃x,rl[f.1]?=X x:=⟨_,dA (a4 f (cq hat))⟩;have R:=λlc k=>M.at sF.2.2.1 F lc k;have C:=M.gt;have a6:H1 rl f.1=x.strict:=by unfold H1;rw[F]
  have a5:∀k,xr rl (c++[f]) k=(xr rl c k||(x.strict&&f.2==k)):=λk=>by
   simp_all [xr]
  cases hst:x.strict with
  |false=>
   refine aF ?_;simp only[go_sem,seval,J7,oB,Y,w,u,j,hlt,T,R,H,C,aW.val,aW.cells,hst];refine ih (c++[f]) _ _ s B (db z) U V (λk=>by grind) ?_ ?_ ?_ ?_ ?_ ?_ ?_ ?_<;>simp_all [sL]
  |true=>
   have a0:=lY gn D3 V f.2 (.bool O);refine aF ?_;simp only[go_sem,seval,J7,oB,Y,h5,w,u,j,hlt,T,R,H,C,aW.val,aW.cells,hst,a0];refine ih (c++[f]) _ _ _ (dp f.2 (.bool O) B) (by rw[z];simp) (U.put _) bf.put (λk=>?_) ?_ ?_ ?_ ?_ ?_ ?_ ?_ ?_
   grind [G7]
   all_goals simp_all [sL]
theorem aBU(ho:au 6 Obj.val ov l)(hl:J l<=900000){g:ae->Bool}(al:a<lo){B:df}{s0:St}(hM:bf aa.str s0 a B)(hB:∀k,(bR k B).getD (.bool I)=.bool (g k))(hx:∀e lc s tv,bU 3 lo s tv ((l.filter λo=>g o.id).map λo=>fh 7 [o.id])->ac e 8=tv->K (.exit 2) ⟨e,50,lc⟩ s):
 ∀(rest c:ba)(e:ax)(lc:Ag.Loc)(s:St)(tv:aa),l=c++rest->bU 3 lo s tv ((c.filter λo=>g o.id).map λo=>fh 7 [o.id])->(∀k,k<lo->s.get [] k=s0.get [] k)->lo<=s.aL->s.gE<=s.aL->ac e 5=.map a->ac e 8=tv->ac e 31=ov->ac e 32=an (J l)->ac e 33=an (J c)->W Q 22 (.loop J8) ⟨e,50,lc⟩ s K:=by
 intro rest
 induction rest with
 |nil=>
  intro c e lc s tv M U w H F V h8 C u z;have a8:=cL M;have a0:c=l:=by rw[M];simp
  refine aF ?_;simp only[go_sem,seval,J8,u,z,a8,bJ];rw[a0]at U;exact hx _ _ _ tv U (by simp only[sN,seval,h8])
 |cons o rest ih=>
  intro c e lc s tv M U w H F V h8 C u z
  let⟨hlt,hat⟩:=cR M
  have T:=λlc k=>ho.at ek.2.2.1 hat lc k;have R:=cm (n:=J c) w_;have a9:bf aa.str s a B:=(w a al).trans hM;have j:=r9 gn D3 TF a9 o.id;rw[hB]at j;have Y:=U.gt;cases hg:g o.id with
  |false=>
   rw[hg]at j;refine aF ?_;simp only[go_sem,seval,J8,V,C,u,z,hlt,T,R,Obj.val,Obj.cells,j];refine ih (c++[o]) _ _ s tv (db M) (by grind) w H F ?_ ?_ ?_ ?_ ?_<;>simp_all [sN]
  |true=>
   rw[hg]at j
   let⟨tv',s1,a1,a2,a3,a4,a5,a6,a7⟩:=CP (t:=37) iC.1 rfl d_ (s:=s) (y:=.list 3 [fh 7 [o.id]] .GT) (x:=fh 7 [o.id]) U (by simp only[aaa,cU]) (by
    grind) H F
   simp only[fh,cZ,nY,aw]at a1;refine aF ?_;simp only[go_sem,seval,J8,aw,V,h8,C,u,z,hlt,T,Obj.val,Obj.cells,j,Y,sB,R,a1,a3];refine ih (c++[o]) _ _ s1 tv' (by rw[M];simp) (by grind) (λk hk=>(a7 k hk).trans (w k hk)) w_ a5 ?_ ?_ ?_ ?_ ?_
   all_goals simp only[sN,seval,V,C,u,sA]
theorem ai6(T:Q.spec 90=X Cc)(b1:Q.spec 20=X gI)(U:Q.spec 140=X mz)(V:Q.spec 51=X lf)(R:Q.spec 141=X tP)(y:No Q 139)(C:No Q 91)(F:No Q 44)(b7:No Q 22)(w:au 6 Obj.val ov l)(hg:∀o∈l,o.AL)(hf:my l=O)(ht:∀o∈l,J o.uP<=1000000)(j:au 8 aW.val rv rl)(ok:∀x∈rl,x.Ok)(a4:J rl<=1000000)(hm:s.gE<=s.aL):
 ∃v s',ai Q 22 [.agg [ov],rv] s v s'/\fF s'.heap v (AE l rl):=by
 have a8:J l<=900:=(oC.1 hf).len;have a6:=rQ (oC.1 hf).valid;have M:=w.cs;have a7:=w.lenS ek;have a3:=j.gt;obtain⟨Y,u⟩:=cw ((bif nT rl then pB l 0 rl else []));have a9:J Y<=900000:=by
  rw[<-u];cases hr:nT rl;simp;have a5:J rl<=200:=by
   unfold nT at hr;simp only[bg,dE]at hr;exact hr.1
  have:=dg (OH l rl 0) (n7 a5 a8);rw[cT];omega
 have b0:∀f∈Y,f.1<J rl:=λf h=>by
  grind [KU]
 obtain⟨z,hz⟩:=cw (s.new (.map [] 0));have zn:z.aL=s.aL+1:=by rw[<-hz];rfl
 have zm:z.gE<=z.aL:=by rw[<-hz];exact co hm
 have za:bf aa.str z s.aL []:=by rw[<-hz];exact cr
 have a0:=amA T b1 U V R y C F w hg hf ht j ok a4 zm;refine ai.ofNRZ as9 (aM ?_);simp only[go_sem,seval,M,a3,jA,hz,sB];refine aU.ex a0 d_ ?_;rintro fv s1 ⟨c,m1,n1,o1⟩;rw[u]at c;have b5:=c.gt;have b2:=c.lenS L4;have a1:bf aa.str s1 s.aL []:=(o1 _ w_).trans za;simp only[go_sem,seval,b5,b2];refine aAM j ok c a9 b0 (a:=s.aL) (s0:=s1) (ov:=ov) ?_ Y [] _ _ s1 [] rfl (.refl m1) a1 (λk=>rfl) ?_ ?_ ?_ ?_ ?_ ?_ ?_ ?_
 ·intro e lc s2 B r2 l2 g2 h5 hb hM hB
  have n2:=hb.aL;simp only[go_sem,seval,r2,l2,g2,M,a7];refine aBU w w_ (g:=xr rl Y) (a:=s.aL) (lo:=s2.aL) w_ (s0:=s2) hM hB ?_ l [] _ _ s2 .Ge rfl (.inl R_) (λ_ _=>rfl) (aC _) hb.mw ?_ ?_ ?_ ?_ ?_;intro e3 b8 s3 tv hO h8;have a2:=hO.gt;have H:(l.filter λo=>xr rl Y o.id)=l.filter (FC l rl):=List.filter_congr λo w=>by rw[<-u];exact ahe a6 w
  rw[H]at hO;simp only[go_sem,seval,h8,a2];refine⟨_,rfl,4,Bs hO λv hv=>?_⟩;obtain⟨i,_,rfl⟩:=cy.1 hv;exact F5 _ _ _
  all_goals simp_all [sN]
 all_goals simp only[aah,bS,oD,ct,cN,bC]
 all_goals rfl
def Uj:dy:=[(90,Cc),(20,gI),(140,mz),(51,lf),(141,tP)]
def agk:eh Uj:=.cons aCa (.cons vB (.cons WY (.cons Oh (.cons arl .nil))))
theorem aEy(h:bm l=O):∀o∈l,J o.uP<=1000000:=λo c=>by
 grind [bm,RZ,jt]
def An:Sp
 |[v,r]=>(kY v).bind λl=>(rz r).bind λrl=>bif my l then X (AE l rl)else Z
 |_=>Z
def aB6:cW ag 22 An:=by
 intro args u c G h w xs B C;unfold An at c;split at c;rename_i H r;simp only[ak]at c
 let⟨l,y,rl,hrl,c⟩:=c
 let⟨hf,c⟩:=aZ c
 have c:=sI c;subst c;obtain⟨v,rfl,y,z,M⟩:=qr y
 let⟨hrl,ok,hle⟩:=IQ hrl
 let⟨ht,v',j,hl'⟩:=pJ y z
 let⟨ht2,hrl'⟩:=LO hrl ok
 have j:di [.agg [v],r]=[.agg [v'],cx r]:=by simp only[di,j]
 refine iQ agk (W:=[]) .nil (args:=[.agg [v],r]) (by simp only[dR,ht,ht2,bZ]) (λF=>?_) G h w xs B C;rw[j];exact ai6 (Q:=QW Uj [] F) rfl rfl rfl rfl rfl R_ R_ R_ R_ hl' z hf (aEy (oC.1 hf).valid) hrl' ok hle d_;cases c
def ss(o:Obj):ae×Bool:=match gM Aq o.uP with|some v=>(v,eA v)|none=>([],I)
def adi(h:gM Aq o.uP=Z):ss o=([],I):=by unfold ss;rw[h]
def adj{v:ae}(h:gM Aq o.uP=X v):ss o=(v,eA v):=by unfold ss;rw[h]
def aq7(name:ae)(o:Obj):zQ name o=(!(ss o).2||(ss o).1==name):=by
 unfold zQ afo;rcases h:gM Aq o.uP with _|v
 rw[adi h];rfl;rw[adj h];simp only[aG];cases eA v<;>simp
def ae0:∀{l:wf}{last:ae},uA last l=O->∀{k v:ae},gM k l=X v->J v<=200
 |[],_,_,_,_,hq=>by cases hq
 |t::r,last,h,k,v,hq=>by
  simp only[uA]at h;cases hb:Mp last t;rw[hb]at h;simp only[gM]at hq;cases hk:t.1==k;rw[hk]at hq;exact ae0 (l:=r) (last:=t.1) h hq;rw[hk]at hq;simp only[cT,aQ]at hq;subst hq;simp only[Mp,wz,decide_eq_false_iff_not,Nat.not_lt]at hb;exact hb.2;rw[hb]at h;cases h
def aEx{l:wf}(h:jt l=O){k v:ae}(c:gM k l=X v):J v<=200:=by
 unfold jt at h;simp only[bg]at h;exact ae0 h.1 c
def aEs{l:wf}(h:jt l=O):J l<=1000000:=by
 unfold jt at h;simp only[bg,dE]at h;omega
def azx(c:Q.spec 140=X mz)(u:Q.spec 84=X jq)(z:No Q 116)(go:o.AL)(C:jt o.uP=O)(s:St):ai Q 116 [o.val] s (.tup [.str (ss o).1,.bool (ss o).2]) s:=by
 have B:=go.all;have H:=aab;have j:mz [o.tagsV,.str [118,105,101,119]]=X (zJ (gM Aq o.uP)):=OU go.uP (aEs C) Aq;have w:∃v s',ai Q 116 [o.val] s v s'/\(v=.tup [.str (ss o).1,.bool (ss o).2]/\s'=s):=by
  refine ai.ofNRZ arV (aM ?_);rcases hq:gM Aq o.uP with _|v
  rw[hq]at j;simp only[zJ]at j;have y:=adi hq;simp only[go_sem,seval,Obj.val,Obj.cells,B,c,j,y];exact⟨_,rfl,rfl⟩;rw[hq]at j;simp only[zJ]at j;have F:=xR (s:=v) (by have:=aEx C hq;omega);have y:=adj hq;simp only[go_sem,seval,Obj.val,Obj.cells,B,c,j,u,F,y];exact⟨_,rfl,rfl⟩
 obtain⟨v,s',h,rfl,rfl⟩:=w;exact h
variable{nb:Nat}
def ax9(c:No Q 68){name:ae}(j:s.get [] nb=X (.cells [.str name]))(v:ae)(d:Bool):ai Q 68 [.str v,.bool d,.ptr nb 0] s (.bool (!d||v==name)) s:=by
 refine ai.ofNZ auc (aM ?_);cases d;simp only[go_sem,seval];simp only[go_sem,seval,j]
variable{wb:Nat}
def axV(u:Q.spec 140=X mz)(w:Q.spec 84=X jq)(j:No Q 116)(y:No Q 68)(C:No Q 115)(go:o.AL)(M:jt o.uP=O){name:ae}(z:s.gE<=s.aL)(H:s.get [] wb=X (.cells [.func (.func 68) [] [.ptr nb 0]]))(R:s.get [] nb=X (.cells [.str name])):ai Q 115 [o.val,.ptr wb 0] s (.bool (zQ name o)) s:=by
 have F:=go.all;have c:=azx u w j go M s.top;have B:=ax9 y (s:=s.top) R (ss o).1 (ss o).2;simp only[Obj.val,Obj.cells]at c;refine ai.ofNZ arU ?_;refine aM ?_;simp only[go_sem,seval,Obj.val,Obj.cells,F,H,z];refine jx.quiet c d_ (by simp[fB,kE]) ?_;simp only[go_sem,seval];refine jx.quiet B d_ (by simp[fB,kE]) ?_;simp only[go_sem,seval,aq7]
def amz(V:Q.spec 140=X mz)(Y:Q.spec 84=X jq)(H:No Q 116)(a0:No Q 68)(M:No Q 115)(ho:au 6 Obj.val ov l)(hg:∀o∈l,o.AL)(ht:∀o∈l,jt o.uP=O)(hl:J l<=900000){name:ae}{s0:St}(hw:s0.get [] wb=X (.cells [.func (.func 68) [] [.ptr nb 0]]))(hn:s0.get [] nb=X (.cells [.str name]))(wl:wb<lo)(nl:nb<lo)(hx:∀e lc s tv,bU 6 lo s tv ((jb l name).map Obj.val)->s.gE<=s.aL->lo<=s.aL->(∀k,k<lo->s.get [] k=s0.get [] k)->ac e 5=tv->K (.exit 0) ⟨e,23,lc⟩ s):
 ∀(rest c:ba)(e:ax)(lc:Ag.Loc)(s:St)(tv:aa),l=c++rest->bU 6 lo s tv ((jb c name).map Obj.val)->(∀k,k<lo->s.get [] k=s0.get [] k)->lo<=s.aL->s.gE<=s.aL->ac e 1=.func (.func 115) [] [.ptr wb 0]->ac e 5=tv->ac e 8=ov->ac e 9=an (J l)->ac e 10=an (J c)->W Q 114 (.loop Pm) ⟨e,23,lc⟩ s K:=by
 intro rest
 induction rest with
 |nil=>
  intro c e lc s tv F C j z u r1 h5 h8 U w;have b0:=cL F;have a9:c=l:=by rw[F];simp
  refine aF ?_;simp only[go_sem,seval,Pm,U,w,b0,bJ];rw[a9]at C;exact hx _ _ _ tv C u z j (by simp only[sN,seval,h5])
 |cons o rest ih=>
  intro c e lc s tv F C j z u r1 h5 h8 U w
  let⟨hlt,hat⟩:=cR F
  have T:=cq hat;have go:=hg o T;have rc:=go.all;have b1:=λlc k=>ho.at ek.2.2.1 hat lc k;have R:=cm (n:=J c) w_;have B:=axV V Y H a0 M go (ht o T) (s:=s) u ((j wb wl).trans hw) ((j nb nl).trans hn);simp only[Obj.val,Obj.cells]at B;have a8:=C.gt;refine aF ?_;simp only[go_sem,seval,Pm,r1,h8,U,w,hlt,b1,Obj.val,Obj.cells,rc];refine aU.of B d_ ?_;cases hb:zQ name o with
  |false=>
   simp only[go_sem,seval,w,R];refine ih (c++[o]) _ _ s tv (db F) (by unfold jb;rw[pA hb];exact C) j z u ?_ ?_ ?_ ?_ ?_
   all_goals simp only[sN,seval,r1,h5,h8,U,sA]
  |true=>
   let⟨tv',s1,a1,a2,a3,a4,a5,a6,a7⟩:=CP (t:=22) ek.1 rfl d_ (s:=s) (y:=.list 6 [o.val] .GT) (x:=o.val) C (by simp only[aaa,cU]) (by
    rw[bh]
    have:=jF (zQ name) c;unfold jb;omega) z u
   simp only[Obj.val,Obj.cells]at a1;simp only[go_sem,seval,h5,a8,rc,sB,w,R,a1,a3];refine ih (c++[o]) _ _ s1 tv' (by rw[F];simp) (by
    have e:jb (c++[o]) name=jb c name++[o]:=by
     show List.filter (zQ name) _=List.filter (zQ name) _++_;exact vi hb
    rw[e,dj];exact a2) (λk hk=>(a7 k hk).trans (j k hk)) w_ a5 ?_ ?_ ?_ ?_ ?_
   all_goals simp only[sN,seval,r1,h8,U,sA]
def amx(u:Q.spec 140=X mz)(w:Q.spec 84=X jq)(c:No Q 116)(y:No Q 68)(j:No Q 115)(M:No Q 114)(B:au 6 Obj.val ov l)(hg:∀o∈l,o.AL)(ht:∀o∈l,jt o.uP=O)(hl:J l<=900000){name:ae}(C:s.gE<=s.aL)(hw:s.get [] wb=X (.cells [.func (.func 68) [] [.ptr nb 0]]))(hn:s.get [] nb=X (.cells [.str name]))(T:wb<s.aL)(V:nb<s.aL):
 ∃v s',ai Q 114 [ov,.func (.func 115) [] [.ptr wb 0]] s v s'/\(bU 6 s.aL s' v ((jb l name).map Obj.val)/\s'.gE<=s'.aL/\s.aL<=s'.aL/\∀k,k<s.aL->s'.get [] k=s.get [] k):=by
 have H:=B.gt;have F:=B.lenS ek;refine ai.ofNRZ arT (aM ?_);simp only[go_sem,seval,H,F];refine amz u w c y j B hg ht hl (lo:=s.aL) (name:=name) (s0:=s) hw hn T V ?_ l [] _ _ s .Ge rfl (.inl R_) (λ_ _=>rfl) (aC _) C ?_ ?_ ?_ ?_ ?_;intro e lc s1 tv R m1 Y U h5;have z:=R.gt;simp only[go_sem,seval,h5,z];exact⟨_,rfl,R,m1,Y,U⟩
 all_goals simp only[sN,seval,bC]
 all_goals rfl
def t6(l:ba)(name:ae):ba:=bif bm l then jb l name else []
def vF(l:ba):aa:=fG 6 (l.map Obj.val)
def ax3:∀l:ba,au 6 Obj.val (vF l) l
 |[]=>.inl R_
 |_::_=>.inr ⟨_,rfl⟩
def H7(l:ba)(name:ae):(jb l name).Sublist l:=List.filter_sublist
def ayi(l:ba)(name:ae):(t6 l name).Sublist l:=by
 unfold t6;cases bm l;exact List.nil_sublist _;exact H7 l name
def am5{h:aB aH}(w:bU 6 lo s ov (l.map Obj.val))(u:∀o∈l,o.AL):fF h (.agg [ov]) (.agg [vF l]):=by
 have e:=Bs (h:=h) w (k:=4) λv c=>by
  obtain⟨o,j,rfl⟩:=cy.1 c;exact WK h (u o j) 0
 refine⟨6,?_⟩;show(da (b9 h 5) [ov]).bind (λr=>X (aa.agg r))=_;simp only[da,e,aG];rfl
def ax1(z:Q.spec 20=X gI)(B:Q.spec 140=X mz)(C:Q.spec 84=X jq)(c:No Q 116)(H:No Q 68)(j:No Q 115)(u:No Q 114)(V:No Q 67)(w:au 6 Obj.val ov l)(T:∀o∈l,o.AL)(hl:J l<=900000){name:ae}(R:s.gE<=s.aL)(hn:s.get [] nb=X (.cells [.str name]))(nl:nb<s.aL):
 ∃v s',ai Q 67 [.agg [ov],.func (.func 68) [] [.ptr nb 0]] s v s'/\bU 6 (s.aL+1) s' v ((t6 l name).map Obj.val):=by
 have a0:=aab;have y:=w.cs;have F:=xP w T w_;refine ai.ofNRZ aub (aM ?_);cases hv:bm l with
 |false=>
  rw[hv]at F;simp only[go_sem,seval,y,FG,z,F];exact⟨_,rfl,.inl ⟨rfl,by unfold t6;rw[hv];rfl⟩⟩
 |true=>
  rw[hv]at F;have nn:(s.new (.cells [.func (.func 68) [] [.ptr nb 0]])).aL=s.aL+1:=rfl;have M:(s.new (.cells [.func (.func 68) [] [.ptr nb 0]])).get [] nb=X (.cells [.str name]):=by rw[cQ nl];exact hn
  have ht:∀o∈l,jt o.uP=O:=λo w=>by
   simp only[bm,bg]at hv;exact RZ l [] hv.1 o w
  simp only[go_sem,seval,y,FG,z,F];refine aU.ex (amx B C c H j u w T ht hl (wb:=s.aL) (nb:=nb) (name:=name) (s:=s.new (.cells [.func (.func 68) [] [.ptr nb 0]])) (co R) cr M w_ w_) d_ ?_;rintro v s1 ⟨U,m1,n1,o1⟩;have Y:=U.gt;simp only[go_sem,seval,Y];have e:t6 l name=jb l name:=by unfold t6;rw[hv];rfl
  rw[e];exact⟨_,rfl,U⟩
def ax8(R:Q.spec 20=X gI)(w:Q.spec 140=X mz)(y:Q.spec 84=X jq)(c:No Q 116)(B:No Q 68)(j:No Q 115)(u:No Q 114)(C:No Q 67)(U:No Q 27)(z:au 6 Obj.val ov l)(T:∀o∈l,o.AL)(Y:J l<=900000)(name:ae)(F:s.gE<=s.aL):
 ∃v s',ai Q 27 [.agg [ov],.str name] s v s'/\fF s'.heap v (.agg [vF (t6 l name)]):=by
 have H:=z.cs;refine ai.ofNRZ att (aM ?_);simp only[go_sem,seval,H,sB];refine aU.ex (ax1 R w y c B j u C z T Y (nb:=s.aL) (name:=name) (s:=s.new (.cells [.str name])) (co F) cr (iA _)) d_ ?_;rintro v s1 M;have V:=M.gt;have vs:v.cells=[v]:=by rcases M with⟨rfl,_⟩|⟨_,k,rfl,_⟩<;>rfl
 simp only[go_sem,seval,V,vs,sB];exact⟨_,rfl,am5 M λo z=>T o ((ayi l name).subset z)⟩
def Ub:dy:=[(20,gI),(140,mz),(84,jq)]
def agc:eh Ub:=.cons vB (.cons WY (.cons Hi .nil))
def Cp:Sp
 |[v,.str name]=>(kY v).bind λl=>bif decide (J l<=900000)then X (.agg [vF (t6 l name)])else Z
 |_=>Z
def aFC(h:au 6 Obj.val v l)(u:∀o∈l,o.AL)(j:J l<=900000)(name:ae):Cp [.agg [v],.str name]=X (.agg [vF (t6 l name)]):=by
 have c:=aab;simp only[aaf,Cp,rp h u w_,j,dT]
def aFD:cW ag 27 Cp:=by
 intro args u c G h w xs B C;unfold Cp at c;split at c;rename_i H name;simp only[ak]at c
 let⟨l,y,c⟩:=c
 let⟨hf,c⟩:=aZ c
 simp only[dE]at hf;have c:=sI c;subst c;obtain⟨v,rfl,y,z,M⟩:=qr y
 let⟨ht,v',j,hl'⟩:=pJ y z
 have j:di [.agg [v],.str name]=[.agg [v'],.str name]:=by simp only[di,j];rfl
 refine iQ agc (W:=[]) .nil (args:=[.agg [v],.str name]) (by show(dW (.agg [v])&&_)=O;rw[ht];rfl) (λF=>?_) G h w xs B C;rw[j];exact ax8 (Q:=QW Ub [] F) rfl rfl rfl R_ R_ R_ R_ R_ R_ hl' z hf name d_;cases c
def dK(l:ba):Nat:=(l.map λo=>J o.gT).sum
structure wP (l:ba):Prop where
 valid:bm l=true
 len:l.length<=900
 gT:dK l<=999
def Jo(l:ba):Bool:=bm l&&(decide (J l<=900)&&decide (dK l<=999))
def Jp:Jo l=O↔wP l:=by
 unfold Jo;simp only[bg,dE];exact⟨λ⟨a,b,c⟩=>⟨a,b,c⟩,λ⟨a,b,c⟩=>⟨a,b,c⟩⟩
def aBv{r:ba}(h:r.Sublist l):dK r<=dK l:=by
 induction h with
 |slnil=>exact aC _
 |cons a _ c=>simp only[dK,cZ,wE]at c⊢;omega
 |cons_cons a _ c=>simp only[dK,cZ,wE]at c⊢;omega
def adS:∀{l:ba}{o:Obj},o∈l->J o.gT<=dK l
 |a::l,o,h=>by
  simp only[dK,cZ,wE];rcases dD.1 h with rfl|h
  omega
  have:=adS h;unfold dK at this;omega
def abB(l:ba):∀r:ba,(r.flatMap (kA l)).length<=dK r
 |[]=>aC _
 |o::r=>by
  rw[List.flatMap_cons,bI];have j:=abA l o;have c:=abB l r;simp only[dK,cZ,wE]at c⊢;omega
def awK{r:ba}(h:bm l=O)(c:r.Sublist l):bm r=O:=by
 simp only[bm,bg,dE]at h⊢
 let⟨h1,h2⟩:=xu l [] h.1
 exact⟨La r [] (λq j=>sm l [] h.1 q (c.subset j)) (λk u=>h1 k ((c.map _).subset u)) (h2.sublist (c.map _)),dg c.length_le h.2⟩
def wP.sub{r:ba}(h:wP l)(c:r.Sublist l):wP r:=⟨awK h.valid c,dg c.length_le h.len,dg (aBv c) h.gT⟩
def wP.fine(h:wP l):TN l:=by
 refine⟨h.valid,h.len,λo c=>dg (adS c) h.gT,?_⟩;unfold iJ;rw[(HY _).length_eq];have w:=adk l;have u:=abB l l;have j:=h.gT;omega
def ND(P:Program)(mk:aI)(t t2:TypeId)(mu:Bool)(x y:aa)(s:St):fZ P mk .copy [t,t2] mu [x,y] s=rK P mk t x y s:=rfl
def aGh(j:Ih)(c:Q1):gX (.call ⟨.builtin .copy,j,c⟩)=1:=rfl
def an1(h:vx)(d:ir)(e:ax)(j:Ih)(c:Q1):bK h d e (.call ⟨.builtin .copy,j,c⟩)=.all:=rfl
variable{f:FuncId}{d:ir}{g:SG}{mk:aI}
def Se{Q:ay}(c t2:TypeId)(x:Operand):dJ Q f ⟨d,.convert c t2 x,g⟩ mk ⟨e,sz,lc⟩ s=(evc e x).bind λa=>fu (ow Q.P c t2 a) lc s:=rfl
def Sg{Q:ay}(t:TypeId)(l c:Operand):dJ Q f ⟨d,.makeSlice t l c,g⟩ mk ⟨e,sz,lc⟩ s=(ev e l).bind λl=>(ev e c).bind λc=>gu (nN Q.P t l c (aA (oG (Q.hint f) d) 2) s) lc:=rfl
def KQ(mk:aI)(sz m o l c:Nat)(s:St):fN ag mk 26 (.arr sz m o l c) s=X (an l):=k_
theorem ab9(l c:aa)(mu:Bool)(s:St):nN ag 26 l c mu s=(dP l).bind λl=>(dP c).bind λc=>bif aP l c&&aP (c*8) 1099511627776&&aP c 1099511627776 then
 bif aA l 0&&!mu then X (.list 1 [] (.own s.aL),s.new .tok)
 else X (.arr 1 s.aL 0 l l,s.new (.cells (fD [ah 0] l)))
 else Z:=k_
variable{x:Operand}
def aC0{j:Nat}(w:j<=n)(u:ev e x=X (an j))(mk:aI)(s:St):eC ag mk 26 (.arr 1 m 0 n n) (X x) Z Z e s=X (.arr 1 m j (n-j) (n-j)):=by
 have y:∀(lo c:sq),eC ag mk 26 (.arr 1 m 0 n n) lo c Z e s=(dI e c n).bind λh=>(dI e lo 0).bind λl=>bif aA 1 1&&aP l h&&aP h n&&aP n n&&O then X (.arr 1 m (0+l*1) (h-l) (n-l))else Z:=by intro lo c;kernel_rfl
 have B:aP j n=O:=bG w;have z:aP n n=O:=bG (aC _);rw[y,RQ,RR,u];show(bif aA 1 1&&aP j n&&aP n n&&aP n n&&O then X (aa.arr 1 m (0+j*1) (n-j) (n-j))else Z)=_;rw[B,z,dS,yO];rfl
def aCZ{j:Nat}(w:j<=n)(u:ev e x=X (an j))(mk:aI)(s:St):eC ag mk 26 (.arr 1 m 0 n n) Z (X x) Z e s=X (.arr 1 m 0 j n):=by
 have y:∀(lo c:sq),eC ag mk 26 (.arr 1 m 0 n n) lo c Z e s=(dI e c n).bind λh=>(dI e lo 0).bind λl=>bif aA 1 1&&aP l h&&aP h n&&aP n n&&O then X (.arr 1 m (0+l*1) (h-l) (n-l))else Z:=by intro lo c;kernel_rfl
 have B:aP j n=O:=bG w;have z:aP 0 j=O:=bG (Nat.zero_le _);have b3:aP n n=O:=bG (aC _);rw[y,RQ,RR,u];show(bif aA 1 1&&aP 0 j&&aP j n&&aP n n&&O then X (aa.arr 1 m (0+0*1) (j-0) (n-0))else Z)=_;rw[B,z,b3];rfl
def Tq(f:g_)(h:(ii 1000).all f=O)(c:n<1000):f n=O:=fO.1 h n (List.mem_range.2 c)
def afg(c:n<1000):IntKind.u64.wrap (n:Int)=n:=by
 have:=Tq (λn=>aj (IntKind.u64.wrap (n:Int)) n) k_ c;exact of_decide_eq_true this
def aE2(c:n<1000):cP ag .and 269 (.int .u64 (n:Int)) (.int .u64 4294967295)=X (.int .u64 (n:Int)):=by
 have:=Tq (λn=>aj (IntKind.u64.wrap (((BitVec.ofInt IntKind.u64.bits (n:Int)) &&& (BitVec.ofInt IntKind.u64.bits 4294967295)).toNat:Nat)) n) k_ c;have h:IntKind.u64.wrap (((BitVec.ofInt IntKind.u64.bits (n:Int)) &&& (BitVec.ofInt IntKind.u64.bits 4294967295)).toNat:Nat)=(n:Int):=of_decide_eq_true this;show X (aa.int .u64 (IntKind.u64.wrap _))=_;rw[h]
def aFd(c:n<1000):cP ag .shr 269 (.int .u64 (n:Int)) (.int .u64 32)=X (.int .u64 0):=by
 have:=Tq (λn=>aj ((n:Int).fdiv (2 ^ (min (32:Int).toNat IntKind.u64.bits))) 0) k_ c;have h:((n:Int).fdiv (2 ^ (min (32:Int).toNat IntKind.u64.bits)))=0:=of_decide_eq_true this;show X (aa.int .u64 ((n:Int).fdiv _))=_;rw[h]
def aFc(c:n<1000):cP ag .mul 269 (.int .u64 1) (.int .u64 (n:Int))=X (.int .u64 (n:Int)):=by
 show X (aa.int .u64 (IntKind.u64.wrap (1*(n:Int))))=_;rw[Int.one_mul,afg c]
def aFb(n:Nat):cP ag .mul 269 (.int .u64 0) (.int .u64 (n:Int))=X (.int .u64 0):=by
 show X (aa.int .u64 (IntKind.u64.wrap (0*(n:Int))))=_;rw[Int.zero_mul];rfl
def aE3:cP ag .and 269 (.int .u64 1) (.int .u64 4294967295)=X (.int .u64 1):=k_
def aE4:cP ag .shr 269 (.int .u64 1) (.int .u64 32)=X (.int .u64 0):=k_
def aE5:cP ag .add 269 (.int .u64 0) (.int .u64 0)=X (.int .u64 0):=k_
def aE6:cP ag .and 269 (.int .u64 0) (.int .u64 4294967295)=X (.int .u64 0):=k_
def aE7:cP ag .shr 269 (.int .u64 0) (.int .u64 32)=X (.int .u64 0):=k_
def aE8:cP ag .mul 269 (.int .u64 1) (.int .u64 0)=X (.int .u64 0):=k_
def aE9:cP ag .mul 269 (.int .u64 0) (.int .u64 0)=X (.int .u64 0):=k_
def aff:cP ag .gtr 195 (.int .u64 0) (.int .u64 0)=X (.bool I):=k_
theorem aFa(c:n<1000):cP ag .gtr 195 (.int .u64 (n:Int)) (.int .u64 9223372036854775807)=X (.bool I):=by
 show X (aa.bool (aR 9223372036854775807 (n:Int)))=_
 grind [aR]
def aFe:ow ag 3 195 (ah 1)=X (.int .u64 1):=k_
def aFg(c:n<1000):ow ag 3 195 (ah (n:Int))=X (.int .u64 (n:Int)):=by
 have:ow ag 3 195 (ah (n:Int))=X (.int .u64 (IntKind.u64.wrap (n:Int))):=k_
 rw[this,afg c]
theorem aFf(c:n<1000):ow ag 195 3 (.int .u64 (n:Int))=X (ah (n:Int)):=by
 have:ow ag 195 3 (.int .u64 (n:Int))=X (ah (IntKind.i64.wrap (n:Int))):=k_
 grind [kj]
def kg(k:Int)(j n:Nat):az:=gK j (ah k)++gK (n-j) (ah 0)
theorem Wy(k:Int):∀n,aq (gK n (ah k))=gK n (ah k)
 |0=>rfl
 |n+1=>by rw[MP,aq,Wy k n];rfl
theorem Vu(k:Int):∀n,chunk I 1 n (gK n (ah k))=X (gK n (ah k))
 |0=>rfl
 |n+1=>by
  rw[MP];show(chunk I 1 n (gK n (ah k))).bind _=_;rw[Vu k n];rfl
theorem adW:∀n,fD [ah 0] n=gK n (ah 0)
 |0=>rfl
 |n+1=>by rw[fD,adW n,MP];rfl
def aki{k:Int}{r:gV}(w:0<n)(y:s.get [] m=X (.cells (gK n (ah 0)))):rK ag [] 26 (.arr 1 m 0 n n) (.list 1 [ah k] r) s=X (ah ((1:Nat):Int),s.put m (X (.cells (kg k 1 n)))):=by
 obtain⟨n,rfl⟩:∃j,n=j+1:=⟨n-1,w_⟩;have u:gR (gK (n+1) (ah 0)) 0 [ah k]=X (kg k 1 (n+1)):=by
  have c:aP (0+ [ah k].length) (gK (n+1) (ah 0)).length=O:=bG (by simp);unfold gR;rw[c];rfl
 have e:eG (n+1) [ah k]=[ah k]:=by simp
 have f:aq [ah k]=[ah k]:=rfl
 simp_all [rK,iO,cU]
theorem akj{j:Nat}{k:Int}(C:j<=n)(F:s.get [] m=X (.cells (kg k j n))):rK ag [] 26 (.arr 1 m j (n-j) (n-j)) (.arr 1 m 0 j n) s=X (ah ((min (n-j) j:Nat):Int),s.put m (X (.cells (kg k (j+min (n-j) j) n)))):=by
 have c1:cut (kg k j n) 0 (j*1)=X (gK j (ah k)):=by
  have e:((kg k j n).drop 0).take (j*1)=gK j (ah k):=by simp[kg]
  have b:aA (gK j (ah k)).length (j*1)=O:=by rw[zzq,yO,cd];simp
  show(bif aA (((kg k j n).drop 0).take (j*1)).length (j*1)then X (((kg k j n).drop 0).take (j*1))else Z)=_;rw[e,b];rfl
 have H:(gK j (ah k)).take (n-j)=gK (min (n-j) j) (ah k):=List.take_replicate;have B:gR (kg k j n) j (gK (min (n-j) j) (ah k))=X (kg k (j+min (n-j) j) n):=by
  have c:min (n-j) j<=n-j:=Nat.min_le_left _ _;generalize min (n-j) j=w at c⊢;have z:aP (j+(gK w (ah k)).length) (kg k j n).length=O:=bG (by simp[kg];omega);unfold gR;rw[z,cT];congr 1;have y:(kg k j n).take j=gK j (ah k):=by simp[kg]
  have u:(kg k j n).drop (j+(gK w (ah k)).length)=gK (n-(j+w)) (ah 0):=by
   simp[kg,List.drop_append];omega
  rw[y,u,<-oX];unfold kg;rw[List.replicate_append_replicate]
 grind [rK,iO,cU,cd,Vu,Wy,zzq]
structure uU (s:St) (v:aa) (L:q_):Prop where
 gt:v.gt=true
 len:∀mk s',fN ag mk 26 v s'=some (an L.length)
 cell:∀{i:Nat}{k:Int},L[i]?=some k->∃p,p.gt=true/\(∀lc,gm ag lc 26 v (an i)=some p)/\∀lc,lh ag [] 3 p lc s=some (ah k)
def uU.ofList(s:St)(L:q_)(r:gV):uU s (.list 1 (L.map bu) r) L:=by
 have h:au 1 bu (.list 1 (L.map bu) r) L:=.inr ⟨r,rfl⟩;refine⟨rfl,h.lenS iO,λ{i k} c=>⟨.ro [ah k],rfl,λlc=>h.at iO.2.2.1 c lc .i64,λlc=>?_⟩⟩;rw[Rr,sw];rfl
theorem uU.ofRow{k:Int}(w:s.get [] m=X (.cells (kg k n n))):uU s (.arr 1 m 0 n n) (gK n k):=by
 refine⟨rfl,λmk s'=>by rw[KQ,zzq],λ{i x} c=>?_⟩;have u:i<n:=by
  have:=(ie.1 c).1;rwa [zzq]at this
 have j:k=x:=by
  let⟨h1,h2⟩:=ie.1 c
  rw[List.getElem_replicate]at h2;exact h2
 subst j;refine⟨.ptr m (0+i*1),rfl,λlc=>?_,λlc=>?_⟩
 grind [bq,bG,iO,nP,cd]
 grind [xO,qF,sw,kg]
theorem aBG{k:Int}(hn:n<1000){s0:St}(y:∀e lc s,ac e 7=.arr 1 m 0 n n->s.get [] m=X (.cells (kg k n n))->du m s0 s->K (.exit 0) ⟨e,48,lc⟩ s):
 ∀(f j:Nat)(e:ax)(lc:Ag.Loc)(s:St),n-j<=f->0<j->j<=n->s.get [] m=X (.cells (kg k j n))->du m s0 s->ac e 7=.arr 1 m 0 n n->ac e 8=an j->W Q 92 (.loop GV) ⟨e,48,lc⟩ s K:=by
 intro f
 induction f with
 |zero=>
  intro j e lc s hf Y c R M w z;have u:j=n:=w_
  subst u;refine aF ?_;simp only[go_sem,eG,eD,ct,eM,cN,eP,eT,eL,eN,eR,eO,reduceCtorEq,eJ,GV,w,z,KQ,bJ]
  simp_all [sN]
 |succ f V=>
  intro j e lc s hf Y c R M w z;rcases Nat.lt_or_ge j n with F|a0
  ·have H:s.top.get [] m=X (.cells (kg k j n)):=R
   have cp:=akj (m:=m) (n:=n) (j:=j) (k:=k) (s:=s.top) c H;have C:=M.mw;have B:IntKind.i64.wrap (((j:Nat):Int)+((min (n-j) j:Nat):Int))=((j+min (n-j) j:Nat):Int):=by
    rw[kj w_ w_];omega
   have U:=λ(e:ax) (x:Operand) (y:ev e x=X (an j)) (mk:aI) (s:St)=>aC0 (m:=m) c y mk s;have T:=λ(e:ax) (x:Operand) (y:ev e x=X (an j)) (mk:aI) (s:St)=>aCZ (m:=m) c y mk s;refine aF ?_;simp only[go_sem,eG,eD,ct,eM,cN,eP,eT,eL,eN,eR,eO,reduceCtorEq,eJ,GV,w,z,KQ,F,U,T,ND,aGh,an1,cp,B,cP,JN,C];refine V (j+min (n-j) j) _ _ _ w_ w_ w_ ?_ (M.putT _) ?_ ?_
   grind [j6,aO]
   all_goals simp only[sN,ct,cN,w]
  have u:j=n:=w_
  subst u;refine aF ?_;simp only[go_sem,eG,eD,ct,eM,cN,eP,eT,eL,eN,eR,eO,reduceCtorEq,eJ,GV,w,z,KQ,bJ]
  simp_all [sN]
def axb(u:No Q 217)(j:n<1000)(s:St):ai Q 217 [.int .u64 1,.int .u64 (n:Int)] s (.tup [.int .u64 0,.int .u64 (n:Int)]) s:=by
 have B:=aE2 j;have z:=aFd j;have y:=aFc j;have w:=aFb n;have c:∃v s',ai Q 217 [.int .u64 1,.int .u64 (n:Int)] s v s'/\(v=.tup [.int .u64 0,.int .u64 (n:Int)]/\s'=s):=by
  refine ai.ofNRZ as6 (aM ?_);simp only[go_sem,eG,eD,ct,eM,cN,eP,eT,eL,eN,eR,eO,reduceCtorEq,eJ,B,z,y,w,aE3,aE4,aE5,aE6,aE7,aE8,aE9];exact⟨_,rfl,rfl⟩
 obtain⟨v,s',h,rfl,rfl⟩:=c;exact h
def axa(u:No Q 142)(c:No Q 217)(w:n<1000)(s:St):ai Q 142 [.int .u64 1,.int .u64 (n:Int)] s (.tup [.int .u64 0,.int .u64 (n:Int)]) s:=by
 have j:∃v s',ai Q 142 [.int .u64 1,.int .u64 (n:Int)] s v s'/\(v=.tup [.int .u64 0,.int .u64 (n:Int)]/\s'=s):=by
  refine ai.ofNRZ asf (aM ?_);simp only[go_sem,eG,eD,ct,eM,cN,eP,eT,eL,eN,eR,eO,reduceCtorEq,eJ];refine aU.of (axb c w s) d_ ?_;simp only[go_sem,eG,eD,ct,eM,cN,eP,eT,eL,eN,eR,eO,reduceCtorEq,eJ];exact⟨_,rfl,rfl⟩
 obtain⟨v,s',h,rfl,rfl⟩:=j;exact h
theorem adV(j:No Q 142)(c:No Q 217)(R:No Q 92)(w:n<1000)(k:Int)(r:gV)(T:s.gE<=s.aL):
 ∃v s',ai Q 92 [.list 1 [ah k] r,an n] s v s'/\(uU s' v (gK n k)/\s'.aL=s.aL+1/\s'.gE<=s'.aL/\∀i,i<s.aL->s'.get [] i=s.get [] i):=by
 have Y:∀mk s',fN ag mk 26 (.list 1 [ah k] r) s'=X (ah 1):=λmk s'=>by rw[iO.2.2.2.2.2];rfl
 have u:aR ((n:Nat):Int) 0=I:=by
  unfold aR;rw[dN];omega
 have e1:=aFg w;have V:=aFf w;have U:=aFa w;have b1:aP n n=O:=bG (aC _);have b2:aP (n*8) 1099511627776=O:=bG w_;have b3:aP n 1099511627776=O:=bG w_;have bb:(aP n n&&aP (n*8) 1099511627776&&aP n 1099511627776)=O:=by rw[b1,b2,b3];rfl
 refine ai.ofNRZ au8 (aM ?_);simp only[go_sem,eG,eD,ct,eM,cN,eP,eT,eL,eN,eR,eO,reduceCtorEq,eJ,Se,Sg,Y,u,aFe,e1];refine aU.of (axa j c w s) d_ ?_;rcases Nat.eq_zero_or_pos n with y|y
 subst y;have z:∀s,nN ag 26 (ah ((0:Nat):Int)) (ah ((0:Nat):Int)) I s=X (.list 1 [] (.own s.aL),s.new .tok):=λs=>by rw[ab9];rfl
 have M:∀k r t s,rK ag [] 26 (.list 1 [] t) (.list 1 [ah k] r) s=X (ah 0,s):=λk r t s=>by
  simp only[aaa,rK,iO,aG,cU]
 have l0:∀mk t s',fN ag mk 26 (.list 1 [] t) s'=X (ah 0):=λmk t s'=>by rw[iO.2.2.2.2.2];rfl
 simp only[go_sem,eG,eD,ct,eM,cN,eP,eT,eL,eN,eR,eO,reduceCtorEq,eJ,Se,Sg,aff,V,U,z,ND,M];refine aF ?_;have F:aR (0:Int) ((0:Nat):Int)=I:=rfl;have C:aR (0:Int) 0=I:=rfl;simp only[go_sem,eG,eD,ct,eM,cN,eP,eT,eL,eN,eR,eO,reduceCtorEq,eJ,GV,l0,F,C];refine⟨_,rfl,uU.ofList _ [] _,co T,λi B=>cQ B⟩
 ·have z:∀s,nN ag 26 (ah ((n:Nat):Int)) (ah ((n:Nat):Int)) I s=X (.arr 1 s.aL 0 n n,s.new (.cells (gK n (ah 0)))):=λs=>by
   grind [cd,ab9,nP,adW]
  have M:=aki (s:=s.new (.cells (gK n (ah 0)))) (m:=s.aL) (k:=k) (r:=r) y cr;simp only[go_sem,eG,eD,ct,eM,cN,eP,eT,eL,eN,eR,eO,reduceCtorEq,eJ,Se,Sg,aff,V,U,z,ND,M];refine aBG (m:=s.aL) (k:=k) w (s0:=s.new (.cells (gK n (ah 0)))) ?_ (n-1) 1 _ _ _ (aC _) Nat.one_pos y ?_ ((du.refl (co T)).put _) ?_ ?_;intro e lc s1 h7 hg H;simp only[go_sem,eG,eD,ct,eM,cN,eP,eT,eL,eN,eR,eO,reduceCtorEq,eJ,h7];exact⟨_,rfl,uU.ofRow hg,H.aL,H.mw,λi B=>(H.old i w_).trans (cQ B)⟩
  all_goals simp_all [aO,sN]
def aw6(e:ax)(x:Operand)(s:St):jA ag 106 e (X x) s=(ev e x).bind fun
 |.int _ _=>X (.map s.aL,s.new (.map [] 0))
 |_=>Z:=k_
def wu(o:Obj):q_:=(ii (J o.gT)).map (ki o.Al)
def aFK(h:aj o.Al 5=I):wu o=gK (J o.gT) (bif aj o.Al 4 then 2 else 1):=by
 unfold wu;have e:∀i,ki o.Al i=bif aj o.Al 4 then 2 else 1:=λi=>by
  unfold ki;rw[h,lZ,Bool.or_false]
 rw[List.map_congr_left (g:=λ_=>bif aj o.Al 4 then(2:Int)else 1) λi _=>e i,List.map_const',CA]
def aFL(h:aj o.Al 5=O)(c:J o.gT=3):wu o=[2,1,2]:=by
 have e:o.Al=5:=of_decide_eq_true h;unfold wu;rw[c,e];decide
def axW(ho:au 6 Obj.val ov l)(hg:∀o∈l,o.AL)(hl:J l<=1000000)(B:(l.map Obj.id).Nodup){s0:St}(hx:∀e lc s,ac e 3=.map b->du b s0 s->bf aa.str s b (jP l)->K (.exit 0) ⟨e,23,lc⟩ s):
 ∀(rest c:ba)(e:ax)(lc:Ag.Loc)(s:St),l=c++rest->du b s0 s->bf aa.str s b (jP c)->ac e 3=.map b->ac e 11=ov->ac e 12=an (J l)->ac e 13=an (J c)->W Q 45 (.loop Qr) ⟨e,23,lc⟩ s K:=by
 intro rest
 induction rest with
 |nil=>
  intro c e lc s z Y T F y j w;have U:=cL z;have M:c=l:=by rw[z];simp
  refine aF ?_;simp only[go_sem,seval,Qr,j,w,U,bJ];exact hx _ _ _ (by simp only[sN,seval,F]) Y (by rw[<-M];exact T)
 |cons o rest ih=>
  intro c e lc s z Y T F y j w
  let⟨hlt,hat⟩:=cR z
  have go:=hg o (cq hat);have rc:=go.all;have V:=λlc k=>ho.at ek.2.2.1 hat lc k;have H:=cm (n:=J c) w_;have R:bR o.id (jP c)=Z:=by
   rw[BF,BP,n8];intro hc;rw[z,dj]at B;exact(CB.1 B).2.2 _ hc o.id (by simp) rfl
  have u:=lY gn BI T o.id o.val;have C:dp o.id o.val (jP c)=jP (c++[o]):=by
   rw[rS R];unfold jP;rw[dj];rfl
  rw[C]at u;simp only[Obj.val,Obj.cells]at u;refine aF ?_;simp only[go_sem,seval,Qr,F,y,j,w,hlt,V,H,Obj.val,Obj.cells,rc,u];refine ih (c++[o]) _ _ _ (db z) (Y.put _) bf.put ?_ ?_ ?_ ?_<;>simp only[sL,seval,F,y,j,sA]
def ax0(C:No Q 45)(c:au 6 Obj.val ov l)(R:∀o∈l,o.AL)(H:J l<=1000000)(j:(l.map Obj.id).Nodup)(F:s.gE<=s.aL):
 ∃v s',ai Q 45 [.agg [ov]] s v s'/\(v=.map s.aL/\bf aa.str s' s.aL (jP l)/\s'.aL=s.aL+1/\s'.gE<=s'.aL/\∀i,i<s.aL->s'.get [] i=s.get [] i):=by
 have w:=c.cs;have u:=c.lenS ek
 let⟨z,hz,zn,zm,zo,_⟩:=oL (.map [] 0) F
 have B:bf aa.str z s.aL (jP []):=by rw[<-hz];exact cr
 refine ai.ofNRZ atK (aM ?_);simp only[go_sem,seval,w,u,aw6,hz];refine axW c R H j (b:=s.aL) (s0:=z) ?_ l [] _ _ z rfl (.refl zm) B ?_ ?_ ?_ ?_;intro e lc V U y T;simp only[go_sem,seval,U];exact⟨_,rfl,rfl,T,by rw[y.aL];exact zn,y.mw,λi M=>(y.old i w_).trans (zo i M)⟩
 all_goals simp only[aah,bS,oD,ct,cN,bC]
 all_goals rfl
def aFJ(j:No Q 142)(c:No Q 217)(u:No Q 92)(H:No Q 46)(go:o.AL)(M:J o.gT<1000)(U:aj o.Al 5=O->J o.gT=3)(F:s.gE<=s.aL):
 ∃v s',ai Q 46 [o.val] s v s'/\(uU s' v (wu o)/\s.aL<=s'.aL/\s'.gE<=s'.aL/\∀i,i<s.aL->s'.get [] i=s.get [] i):=by
 have z:=go.all;have w:=go.gT.lenS bM;refine ai.ofNRZ atL (aM ?_);cases e5:aj o.Al 5;rw[aFK e5];cases e4:aj o.Al 4;simp only[go_sem,seval,Obj.val,Obj.cells,z,w,e5,e4,sB];refine aU.ex (adV j c u M 1 .GT F) d_ ?_;rintro v R ⟨A,T,C,B⟩;have y:=A.gt;simp only[go_sem,seval,y];exact⟨_,rfl,A,w_,C,B⟩;simp only[go_sem,seval,Obj.val,Obj.cells,z,w,e5,e4,sB];refine aU.ex (adV j c u M 2 .GT F) d_ ?_;rintro v R ⟨A,T,C,B⟩;have y:=A.gt;simp only[go_sem,seval,y];exact⟨_,rfl,A,w_,C,B⟩;simp only[go_sem,seval,Obj.val,Obj.cells,z,e5,sB];rw[aFL e5 (U e5)];exact⟨_,rfl,uU.ofList s [2,1,2] _,F,λ_ _=>trivial⟩
