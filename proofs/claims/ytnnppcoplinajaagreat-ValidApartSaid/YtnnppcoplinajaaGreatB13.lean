/- Lemmas for ValidApart. -/
import Derived.Test.YtnnppcoplinajaaGreatB9
import Derived.Test.YtnnppcoplinajaaGreatB12
import Derived.Test.YtnnppcoplinajaaGreatAg3
set_option linter.all false
open Bool renaming and_eq_true→bu,and_false→gN,and_self→cw,false_and→dW,false_or→kg,not_eq_true'→awP,not_false→hG,not_true→fp,or_eq_false_iff→v9,true_and→eH
open List renaming all_cons→ju,all_eq_true→f8,append_assoc→ny,append_nil→kC,drop→bP,eq_nil_of_length_eq_zero→uv,getD_eq_getElem?_getD→nA,getElem?_append_left→BA,getElem?_append_right→wd,getElem?_cons_succ→jO,getElem?_cons_zero→iw,getElem?_eq_getElem→gn,getElem?_eq_some_iff→nY,getElem?_map→jf,getElem?_of_mem→we,getElem?_zip_eq_some→La,getElem_mem→xR,length_append→cJ,length_cons→bH,length_filter_le→kT,length_map→ce,length_nil→bn,length_tail→xS,map_append→ff,map_cons→fy,map_eq_nil_iff→xT,map_nil→uB,mem_append→lj,mem_cons_of_mem→iE,mem_cons_self→iL,mem_cons→fc,mem_map→dy,mem_of_getElem?→eP,nodup_append→wf,range→ix,take→df
open Nat renaming beq→aQ,ble_eq_true_of_le→cP,ble→bw,blt→bm,eq_of_beq_eq_true→jP,le_of_ble_eq_true→fW,le_refl→br,le_succ_of_le→cq,le_trans→fA,lt_irrefl→cD,lt_of_lt_of_le→hJ,lt_succ_self→kU,mul_le_mul→rf,mul_one→xU,not_lt_zero→Hb,reduceAdd→bQ,reduceBEq→ah,reduceDiv→eR,reduceEqDiff→eI,reduceLT→aB,reduceLeDiff→cK,reduceMod→ep,reduceMul→ee,reducePow→uO,reduceSub→ey
open Option renaming bind_eq_some_iff→ak,bind_some→au,map_none→sF,map_some→kn
open Option.some renaming injEq→aJ
open Go.Proofs.Tryz renaming prog→ae
open Go.Ag.W renaming drawX→iT,loopC→bG,loopE→lk,rfun→oS
open Go.Ag.WC renaming sound→co
namespace Go.Proofs.YtnnppcoplinajaaGreat
open Go.Ag
variable{Q:aH}[Std Q]
def iQ(p:Pt):Bool:=(cr (-4194304) p.1&&cr p.1 4194304)&&(cr (-4194304) p.2&&cr p.2 4194304)
variable{p:Pt}
def QP(h:iQ p=true):(-4194304<=p.1/\p.1<=4194304)/\(-4194304<=p.2/\p.2<=4194304):=by
 simp only[iQ,cr,bu,dE] at h;exact h
def KM{x y:Int}(d: -4194304<=x/\x<=4194304)(c: -4194304<=y/\y<=4194304): -8388608<=x-y/\x-y<=8388608:=by omega
def arQ(d:No Q 442){a b c:Pt}(M:iQ a=true)(J:iQ b=true)(I:iQ c=true)(s:St):aq Q 442 [aU a,aU b,aU c] s (cd (vS a b c)) s:=by
 have⟨a1,a2⟩:=QP M;have⟨b1,b2⟩:=QP J;have⟨c1,c2⟩:=QP I;have C:=DC b1 a1;have B:=DC c2 b2;have z:=DC b2 a2;have y:=DC c1 b1;have u:=KM b1 a1;have m:=KM c2 b2;have d3:=KM b2 a2;have j:=KM c1 b1;have H:=FM u m;have F:=FM d3 j;have R:=ayX u m;have O:=ayX d3 j;have w:IntKind.i64.wrap ((b.1-a.1)*(c.2-b.2)-(b.2-a.2)*(c.1-b.1))=(b.1-a.1)*(c.2-b.2)-(b.2-a.2)*(c.1-b.1):=iC (by omega) (by omega);refine aq.ofNZ akM (co ?_);simp only[go_sem,seval,aU,cd,vS,C,B,z,y,H,F,w,qy]
def adc(c:No Q 443)(a n b:Int)(s:St):aq Q 443 [ic a,ic n,ic b] s (.bool (rt a n b)) s:=by
 have d:rt a n b=(cr (min a b) n&&cr n (max a b)):=rfl;refine aq.ofNZ akO (co ?_);rw[d];cases e1:cr (min a b) n with
 |false=>simp only[go_sem,seval,ru,sY,e1,dW]
 |true=>simp only[go_sem,seval,ru,sY,e1,eH]
def zI:Sp
 | [u,v,w]=>(jT u).bind fun a=>(jT v).bind fun b=>(jT w).bind fun c=>bif iQ a&&(iQ b&&iQ c) then some (cd (vS a b c)) else none
 |_=>none
def arN{a b c:Pt}(m:iQ a=true)(j:iQ b=true)(d:iQ c=true):zI [aU a,aU b,aU c]=some (cd (vS a b c)):=by
 simp only[akZ,zI,wB,m,j,d,cw]
def arO:db ae 442 zI:=by
 refine GK (T:=[]) .nil (W:=[]) .nil fun j u h=>?_;unfold zI at h;split at h;simp only[ak] at h;obtain⟨a,y,b,w,c,m,h⟩:=h;obtain⟨d,h⟩:=bh h;simp only[bu] at d;have h:=sI h;subst h;rw[mj y,mj w,mj m];exact⟨rfl,fun z=>⟨_,_,arQ (Q:=QW [] [] z) ⟨rfl,rfl⟩ d.1 d.2.1 d.2.2 _,1,rfl⟩⟩;cases h
def wG:Sp
 | [.int .i64 a,.int .i64 n,.int .i64 b]=>some (.bool (rt a n b))
 |_=>none
def adb:db ae 443 wG:=by
 refine GK (T:=[]) .nil (W:=[]) .nil fun c u h=>?_;unfold wG at h;split at h;have h:=sI h;subst h;exact⟨rfl,fun d=>⟨_,_,adc (Q:=QW [] [] d) ⟨rfl,rfl⟩ _ _ _ _,1,rfl⟩⟩;cases h
theorem Dr(r:List Pt):(gz r).length=r.length:=by
 unfold gz;rw[List.length_zip,cJ,xS,List.length_take];omega
variable{i:Nat}
def Dq{r:List Pt}(hi:i<r.length):(gz r)[i]? =some (fw r i):=by
 have c:(i+1) % r.length<r.length:=Nat.mod_lt _ (by omega);rw[aaf (gn hi) (gn c)];unfold gz;rw[La];refine⟨gn hi,?_⟩;by_cases e:i+1<r.length;have:i<r.tail.length:=by rw[xS];omega
 rw[BA this,List.getElem?_tail,gn e];simp only[Nat.mod_eq_of_lt e];have m:i+1=r.length:=by omega
 have:r.tail.length<=i:=by rw[xS];omega
 rw[wd this,xS];have j:i-(r.length-1)=0:=by omega
 have d:(i+1) % r.length=0:=by rw[m,Nat.mod_self]
 rw[j,List.getElem?_take,iP (by omega)];simp only[d];rw[gn]
noncomputable abbrev awS(E:ax)(x:Option Ex):aR:=.loop 342 E 88 [11,12] Fl Fm x
structure Ll (e e':ax):Prop where
 h3:ac e' 3=ac e 3
 h4:ac e' 4=ac e 4
 h5:ac e' 5=ac e 5
 h7:ac e' 7=ac e 7
 h8:ac e' 8=ac e 8
variable{lc:Ag.Loc}{N:Fr->St->Prop}{T:Int}{b3 b7:Nat}{s:St}{e:ax}{S:bT}
def apn(c:Q.spec 443=some wG)(w:ac e 3= .ptr b3 0)(u:ac e 7= .ptr b7 0)(m:ac e 8=ic T)(g3:s.get [] b3=some (.cells [ic p.1,ic p.2]))(j:s.get [] b7=some (.cells (bX S).cells))(h: ∀y,ac y 19= .bool (an T 0&&(rt S.1.1 p.1 S.2.1&&rt S.1.2 p.2 S.2.2))->Ll e y->N ⟨y,88,lc⟩ s):WV Q 342 WM ⟨e,88,lc⟩ s N:=by
 simp only[bX,gD] at j;have d:wG [ic S.1.1,ic p.1,ic S.2.1]=some (.bool (rt S.1.1 p.1 S.2.1)):=rfl;have z:wG [ic S.1.2,ic p.2,ic S.2.2]=some (.bool (rt S.1.2 p.2 S.2.2)):=rfl;cases c1:an T 0 with
 |false=>
  simp only[go_sem,seval,WM,WN,WO,w,u,m,g3,j,aW,aY,c1];refine h _ ?_ ⟨?_,?_,?_,?_,?_⟩
  all_goals simp only[sN,seval,c1,dW]
 |true=>
  cases c2:rt S.1.1 p.1 S.2.1 with
  |false=>
   rw[c2] at d;simp only[go_sem,seval,WM,WN,WO,w,u,m,g3,j,aW,aY,c1,c,d];refine h _ ?_ ⟨?_,?_,?_,?_,?_⟩
   all_goals simp only[sN,seval,c1,c2,dW,gN]
  |true=>
   rw[c2] at d;simp only[go_sem,seval,WM,WN,WO,w,u,m,g3,j,aW,aY,c1,c,d,z];refine h _ ?_ ⟨?_,?_,?_,?_,?_⟩
   all_goals simp only[sN,seval,c1,c2,eH]
def apo(m:ac e 3= .ptr b3 0)(j:ac e 7= .ptr b7 0)(d:ac e 8=ic T)(g3:s.get [] b3=some (.cells [ic p.1,ic p.2]))(c:s.get [] b7=some (.cells (bX S).cells))(h: ∀u,ac u 44= .bool (cr S.1.2 p.2&&(bc p.2 S.2.2&&bc 0 T))->Ll e u->N ⟨u,88,lc⟩ s):WV Q 342 WN ⟨e,88,lc⟩ s N:=by
 simp only[bX,gD] at c;cases c1:cr S.1.2 p.2 with
 |false=>
  simp only[go_sem,seval,WM,WN,WO,m,j,d,g3,c,aW,aY,c1];refine h _ ?_ ⟨?_,?_,?_,?_,?_⟩
  all_goals simp only[sN,seval,c1,dW]
 |true=>
  cases c2:bc p.2 S.2.2 with
  |false=>
   simp only[go_sem,seval,WM,WN,WO,m,j,d,g3,c,aW,aY,c1,c2];refine h _ ?_ ⟨?_,?_,?_,?_,?_⟩
   all_goals simp only[sN,seval,c1,c2,dW,gN]
  |true=>
   simp only[go_sem,seval,WM,WN,WO,m,j,d,g3,c,aW,aY,c1,c2];refine h _ ?_ ⟨?_,?_,?_,?_,?_⟩
   all_goals simp only[sN,seval,c1,c2,eH]
def apq(m:ac e 3= .ptr b3 0)(j:ac e 7= .ptr b7 0)(d:ac e 8=ic T)(g3:s.get [] b3=some (.cells [ic p.1,ic p.2]))(c:s.get [] b7=some (.cells (bX S).cells))(h: ∀u,ac u 65= .bool (bc p.2 S.1.2&&(cr S.2.2 p.2&&bc T 0))->Ll e u->N ⟨u,88,lc⟩ s):WV Q 342 WO ⟨e,88,lc⟩ s N:=by
 simp only[bX,gD] at c;cases c1:bc p.2 S.1.2 with
 |false=>
  simp only[go_sem,seval,WM,WN,WO,m,j,d,g3,c,aW,aY,c1];refine h _ ?_ ⟨?_,?_,?_,?_,?_⟩
  all_goals simp only[sN,seval,c1,dW]
 |true=>
  cases c2:cr S.2.2 p.2 with
  |false=>
   simp only[go_sem,seval,WM,WN,WO,m,j,d,g3,c,aW,aY,c1,c2];refine h _ ?_ ⟨?_,?_,?_,?_,?_⟩
   all_goals simp only[sN,seval,c1,c2,dW,gN]
  |true=>
   simp only[go_sem,seval,WM,WN,WO,m,j,d,g3,c,aW,aY,c1,c2];refine h _ ?_ ⟨?_,?_,?_,?_,?_⟩
   all_goals simp only[sN,seval,c1,c2,eH]
structure mN (b5:Nat) (s0 s:St):Prop where
 old: ∀j,j<s0.aL->j≠b5->s.get [] j=s0.get [] j
 mw:s.gt<=s.aL
 lt:s0.aL<s.aL
 ci:s.ci=s0.ci
variable{l:List bT}
def Xo{w:Int}:yU p (S::l) w=bif A6 S p then 0 else yU p l (w+v6 S p):=rfl
variable{n:Int}{b4 b5:Nat}{E:ax}
def amd(a2:Q.spec 442=some zI)(a1:Q.spec 443=some wG)(wa:iQ S.1=true)(wb:iQ S.2=true)(wp:iQ p=true)(hi:i<=2000){s0:St}(a7:s0.get [] b3=some (.cells [ic p.1,ic p.2]))(a0:s0.get [] b4=some (.cells [ic 0]))(l3:b3<s0.aL)(l4:b4<s0.aL)(l5:b5<s0.aL)(d3:b3≠b5)(d4:b4≠b5)(e3:ac E 3= .ptr b3 0)(e4:ac E 4= .ptr b4 0)(e5:ac E 5= .ptr b5 0)(hI:mN b5 s0 s)(hl:s.get [] s0.aL=some (awS E none))(a3:s.get [] b5=some (.cells [ic n]))(hn: -(i:Int)<=n/\n<=i):
 ∃v s',ji Q s0.aL [uM i,bX S] s.top v s'/\(s'.ci=s.ci/\s.aL<=s'.aL/\mN b5 s0 (s.rX s')/\((v= .bool true/\A6 S p=false/\s'.get [] s0.aL=some (awS E none)/\s'.get [] b5=some (.cells [ic (n+v6 S p)]))\/(v= .bool false/\A6 S p=true/\s'.get [] s0.aL=some (awS E (some .ret))))):=by
 have a8:=hI.lt;have a5:=hI.mw;have hq:=arN wa wb wp;obtain⟨T,hT⟩:=ct (vS S.1 S.2 p);rw[hT] at hq;simp only[aU,cd] at hq;have a4:A6 S p=(an T 0&&(rt S.1.1 p.1 S.2.1&&rt S.1.2 p.2 S.2.2)):=by rw[<-hT];rfl
 have c:v6 S p=bif(cr S.1.2 p.2&&(bc p.2 S.2.2&&bc 0 T)) then 1 else bif(bc p.2 S.1.2&&(cr S.2.2 p.2&&bc T 0)) then-1 else 0:=by rw[<-hT];rfl
 refine ji.any (ca:=N8) (cb:=N9) (show s.top.get [] s0.aL=_ from hl) rfl rfl akn ako ?_;refine co ?_;obtain⟨w,hw⟩:=ct (s.top.put s0.aL none);have wn:w.aL=s.aL:=by rw[<-hw];rfl
 have wo: ∀j,j≠s0.aL->w.get [] j=s.get [] j:=fun j B=>by rw[<-hw,aX,bN.2 B];rfl
 have wm:w.gt<=w.aL:=by rw[<-hw];exact dh s.top _ _ (br _)
 obtain⟨z,I⟩:=ct ((w.new (.cells [ic 0,ic 0,ic 0,ic 0])).put w.aL (some (.cells (bX S).cells)));have zn:z.aL=s.aL+1:=by rw[<-I,<-wn];rfl
 have zc:z.ci=s.ci:=by rw[<-I,<-hw];rfl
 have zm:z.gt<=z.aL:=by rw[<-I];exact dh _ _ _ (cq wm)
 have zk:z.get [] w.aL=some (.cells (bX S).cells):=by rw[<-I,aX,bS];rfl
 have zs: ∀j,j<s.aL->j≠s0.aL->z.get [] j=s.get [] j:=fun j B d=>by rw[<-I,aX,bN.2 (by omega:j≠w.aL),cF,cz (by omega),wo j d]
 have V: ∀j,j<s0.aL->j≠b5->z.get [] j=s0.get [] j:=fun j B d=>(zs j (by omega) (by omega)).trans (hI.old j B d);have z3:=(V b3 l3 d3).trans a7;have z4:=(V b4 l4 d4).trans a0;have z5:=(zs b5 (by omega) (by omega)).trans a3;simp only[bX,gD] at I;have a6:(w.new (.cells [ic 0,ic 0,ic 0,ic 0])).get [] w.aL=some (.cells [ic 0,ic 0,ic 0,ic 0]):=cW;simp only[go_sem,seval,WM,WN,WO,N8,bX,hw,dn,a6,dp,I,bj,bg,aZ,bf,evc];have fin: ∀(u:St) (o:Option Ex),(∀j,j<s0.aL->j≠b5->u.get [] j=s0.get [] j)->u.aL=s.aL+1->u.ci=s.ci->u.gt<=u.aL->(u.put s0.aL (some (awS E o))).ci=s.ci/\s.aL<=(u.put s0.aL (some (awS E o))).aL/\mN b5 s0 (s.rX (u.put s0.aL (some (awS E o))))/\(u.put s0.aL (some (awS E o))).get [] s0.aL=some (awS E o)/\(u.put s0.aL (some (awS E o))).get [] b5=u.get [] b5:=fun u o q1 q2 q3 q4=>by
  have qn:(u.put s0.aL (some (awS E o))).aL=s.aL+1:=q2;refine⟨q3,by omega,⟨fun j B d=>?_,pW a5 (by omega),?_,q3.trans hI.ci⟩,by rw[aX,bS];rfl,by rw[aX,bN.2 (by omega:b5≠s0.aL)];rfl⟩;rw[mY,aX,bN.2 (by omega:j≠s0.aL)];exact q1 j B d;show s0.aL<(u.put s0.aL (some (awS E o))).aL;omega
 refine co ?_;have Z:=zk;simp only[bX,gD] at Z;simp only[go_sem,seval,N9,e3,z3,Z,aW,aY,a2,hq];refine apn a1 (b3:=b3) (b7:=w.aL) (p:=p) (S:=S) (T:=T) ?_ ?_ ?_ z3 zk ?_;simp only[sN,seval,e3];simp only[sN,seval];simp only[sN,seval];intro e1 C ⟨k3,k4,k5,k7,k8⟩;simp only[sN,seval,e3,e4,e5] at k3 k4 k5 k7 k8;rw[<-a4] at C;cases ho:A6 S p with
 |true=>
  rw[ho] at C;obtain⟨y,m⟩:=ct (z.put b4 (some (.cells [ic 0])));have yo: ∀j,j<s0.aL->j≠b5->y.get [] j=s0.get [] j:=fun j B d=>by
   rw[<-m,aX];cases e:j==b4 with
   |true=>
    have:=eq_of_beq e;subst this;exact a0.symm
   |false=>exact V j B d
  obtain⟨U,R,O,M,Y⟩:=fin y (some .ret) yo (by rw[<-m];exact zn) (by rw[<-m];exact zc) (by rw[<-m];exact dh _ _ _ zm);simp only[go_sem,seval,WM,WN,WO,C,k4,z4,dn,dp,m,jI,jL];exact⟨U,R,O,.inr M⟩
 |false=>
  rw[ho] at C;simp only[go_sem,seval,WM,C];refine apo (b3:=b3) (b7:=w.aL) (p:=p) (S:=S) (T:=T) k3 k7 k8 z3 zk ?_;intro b0 H ⟨j3,j4,j5,j7,j8⟩;cases h7:(cr S.1.2 p.2&&(bc p.2 S.2.2&&bc 0 T)) with
  |true=>
   rw[h7] at H c;have c:v6 S p=1:=c;obtain⟨y,m⟩:=ct (z.put b5 (some (.cells [ic (n+1)])));have J:IntKind.i64.wrap (n+1)=n+1:=iC (by omega) (by omega);have yo: ∀j,j<s0.aL->j≠b5->y.get [] j=s0.get [] j:=fun j B d=>by rw[<-m,aX,bN.2 d];exact V j B d
   obtain⟨U,R,O,M,Y⟩:=fin y none yo (by rw[<-m];exact zn) (by rw[<-m];exact zc) (by rw[<-m];exact dh _ _ _ zm);have y5:y.get [] b5=some (.cells [ic (n+1)]):=by rw[<-m,aX,bS];rfl
   simp only[go_sem,seval,WM,WN,WO,H,j5,k5,z5,aW,aY,J,dn,dp,m,jI,jL];exact⟨U,R,O,.inl ⟨M,by rw[c];exact Y.trans y5⟩⟩
  |false=>
   rw[h7] at H c;simp only[go_sem,seval,WM,WN,H];refine apq (b3:=b3) (b7:=w.aL) (p:=p) (S:=S) (T:=T) (j3.trans k3) (j7.trans k7) (j8.trans k8) z3 zk ?_;intro a9 F ⟨i3,i4,i5,i7,i8⟩;cases h9:(bc p.2 S.1.2&&(cr S.2.2 p.2&&bc T 0)) with
   |true=>
    rw[h9] at F c;have c:v6 S p= -1:=c;obtain⟨y,m⟩:=ct (z.put b5 (some (.cells [ic (n-1)])));have J:IntKind.i64.wrap (n-1)=n-1:=iC (by omega) (by omega);have yo: ∀j,j<s0.aL->j≠b5->y.get [] j=s0.get [] j:=fun j B d=>by rw[<-m,aX,bN.2 d];exact V j B d
    obtain⟨U,R,O,M,Y⟩:=fin y none yo (by rw[<-m];exact zn) (by rw[<-m];exact zc) (by rw[<-m];exact dh _ _ _ zm);have y5:y.get [] b5=some (.cells [ic (n-1)]):=by rw[<-m,aX,bS];rfl
    simp only[go_sem,seval,WM,WN,WO,F,i5,j5,k5,z5,aW,aY,J,dn,dp,m,jI,jL];exact⟨U,R,O,.inl ⟨M,by rw[c];exact Y.trans y5⟩⟩
   |false=>
    rw[h9] at F c;have c:v6 S p=0:=c;obtain⟨U,R,O,M,Y⟩:=fin z none V zn zc zm;simp only[go_sem,seval,WM,WN,WO,F,jI,jL];exact⟨U,R,O,.inl ⟨M,by rw[c,Int.add_zero];exact Y.trans z5⟩⟩
def WK:(dY Fl&&dY Fm)=true:=by kernel_rfl
def asR{r:List Pt}(c:r.all iQ=true)(hi:i<r.length):iQ (fw r i).1=true/\iQ (fw r i).2=true:=by
 have h:=f8.1 c;have d:(i+1) % r.length<r.length:=Nat.mod_lt _ (by omega);unfold fw;rw[gn hi,gn d];exact⟨h _ (xR _),h _ (xR _)⟩
def asS(S:bT)(p:Pt): -1<=v6 S p/\v6 S p<=1:=by
 unfold v6;cases (cr S.1.2 p.2&&(bc p.2 S.2.2&&bc 0 (vS S.1 S.2 p))) with
 |true=>simp
 |false=>
  cases (bc p.2 S.1.2&&(cr S.2.2 p.2&&bc (vS S.1 S.2 p) 0))<;>simp
variable{K:Ex->Fr->St->Prop}{bx:Nat}{rv:aa}
def amc(u:No Q 339)(F:Q.spec 442=some zI)(C:Q.spec 443=some wG){r:List Pt}(hr:ay 2 aU rv r)(z:r.length<=2000)(hn:r.all iQ=true)(wp:iQ p=true){s0:St}(U:s0.get [] bx=some (.cells [rv]))(Z:s0.get [] b3=some (.cells [ic p.1,ic p.2]))(Y:s0.get [] b4=some (.cells [ic 0]))(V:s0.get [] b5=some (.cells [ic 0]))(lx:bx<s0.aL)(l3:b3<s0.aL)(l4:b4<s0.aL)(l5:b5<s0.aL)(dx:bx≠b5)(d3:b3≠b5)(d4:b4≠b5)(e3:ac E 3= .ptr b3 0)(e4:ac E 4= .ptr b4 0)(e5:ac E 5= .ptr b5 0)(H:ac E 10= .func (.func 339) [] [.ptr bx 0])(hE:E.all jY=true)(O:s0.gt<=s0.aL)(hk: ∀x I,mN b5 s0 I->((x= .normal/\ ∃w,I.get [] b5=some (.cells [ic w])/\qI r p=bif an w 0 then-1 else 1)\/(x= .ret/\qI r p=0))->K x ⟨E,88,lc⟩ I):W Q 342 (.rfun (.tmp 10) [11,12] Fl Fm) ⟨E,88,lc⟩ s0 K:=by
 obtain⟨v,s',m,rfl,h⟩:=Bk u hr z (bx:=bx) (n:=s0.aL) (P:=fun i s=>mN b5 s0 s/\s.get [] s0.aL=some (awS E none)/\ ∃w:Int,(-(i:Int)<=w/\w<=i)/\s.get [] b5=some (.cells [ic w])/\yU p ((gz r).drop i) w=qI r p) (D:=fun s=>mN b5 s0 s/\s.get [] s0.aL=some (awS E (some .ret))/\qI r p=0) (fun k s h=>(h.1.old bx lx dx).trans U) (fun k s h=>h.1.mw) (fun i s hi ⟨c,B,w,hw,h5,d⟩=>by
  obtain⟨wa,wb⟩:=asR hn hi;obtain⟨v,s',q1,q2,q3,q4,q5⟩:=amd F C wa wb wp (by omega:i<=2000) Z Y l3 l4 l5 d3 d4 e3 e4 e5 c B h5 hw;rw[TP (Dq hi),Xo] at d;refine⟨v,s',q1,q2,q3,?_⟩;rcases q5 with⟨rfl,J,h1,h2⟩|⟨rfl,J,h1⟩
  rw[J] at d;have hb:=asS (fw r i) p;exact .inl ⟨rfl,q4,h1,_,by omega,h2,d⟩;rw[J] at d;exact .inr ⟨rfl,q4,h1,d.symm⟩) (s:=s0.new (awS E none)) ⟨⟨fun j R _=>cz R,cq O,kU _,rfl⟩,cW,0,by simp,(cz l5).trans V,rfl⟩
 have y:mN b5 s0 s'->mN b5 s0 (s'.put s0.aL none):=fun c=>⟨fun j R M=>by rw[aX,bN.2 (by omega:j≠s0.aL)];exact c.old j R M,dh _ _ _ c.mw,c.lt,c.ci⟩;rcases h with⟨c,d,w,hw,h5,B⟩|⟨c,d,B⟩
 refine oS (h:=339) (first:=[]) (captured:=[.ptr bx 0]) (v:=.tup []) (s1:=s') (by simp only[aA,H]) (by rw[Std.P,rJ,WK,hE];rfl) m d (hk _ _ (y c) (.inl ⟨rfl,w,?_,?_⟩));rw[aX,bN.2 (by omega:b5≠s0.aL)];exact h5;rw[<-B,List.drop_eq_nil_of_le (by rw[Dr];exact br _)];rfl;exact oS (h:=339) (first:=[]) (captured:=[.ptr bx 0]) (v:=.tup []) (s1:=s') (by simp only[aA,H]) (by rw[Std.P,rJ,WK,hE];rfl) m d (hk _ _ (y c) (.inr ⟨rfl,B⟩))
def ami(m:No Q 339)(z:No Q 235)(O:Q.spec 442=some zI)(M:Q.spec 443=some wG)(a4:No Q 342){r:List Pt}(U:ay 2 aU rv r)(J:r.length<=2000)(hn:r.all iQ=true)(wp:iQ p=true)(a1:s.gt<=s.aL):
 ∃v s',aq Q 342 [rv,aU p] s v s'/\v=ic (qI r p):=by
 have a3:=U.ge;have a0:=vH U;obtain⟨x,C⟩:=ct ((s.new (.cells [ic p.1,ic p.2])).new (.cells [ic 0]));have I:(s.new (.cells [ic p.1,ic p.2])).aL=s.aL+1:=rfl;have xn:x.aL=s.aL+2:=by rw[<-C];rfl
 have xm:x.gt<=x.aL:=by rw[<-C];exact cq (cq a1)
 have x0:x.get [] s.aL=some (.cells [ic p.1,ic p.2]):=by rw[<-C,cz (by rw[I];omega)];exact cW
 have x1:x.get [] (s.aL+1)=some (.cells [ic 0]):=by rw[<-C];exact cW
 obtain⟨w,F⟩:=ct ((x.new (.cells [ic 0])).put x.aL (some (.cells [ic 0])));have a2:(x.new (.cells [ic 0])).get [] x.aL=some (.cells [ic 0]):=cW;have wn:w.aL=s.aL+3:=by
  rw[<-F];show x.aL+1=_;omega
 have wm:w.gt<=w.aL:=by rw[<-F];exact dh _ _ _ (cq xm)
 have wk:w.get [] x.aL=some (.cells [ic 0]):=by rw[<-F,aX,bS];rfl
 have Y: ∀j,j<x.aL->w.get [] j=x.get [] j:=fun j hj=>by rw[<-F,aX,bN.2 (by omega:j≠x.aL),cF,cz hj]
 have c:=Bj z U w;obtain⟨u,H⟩:=ct (w.new (.cells [rv]));have un:u.aL=s.aL+4:=by
  rw[<-H];show w.aL+1=_;omega
 have um:u.gt<=u.aL:=by rw[<-H];exact cq wm
 have uk:u.get [] w.aL=some (.cells [rv]):=by rw[<-H];exact cW
 have R: ∀j,j<w.aL->u.get [] j=w.get [] j:=fun j hj=>by rw[<-H,cz hj]
 rw[H] at c;refine aq.ofNRZ akp (co ?_);simp only[go_sem,seval,WM,WN,WO,aU,a3,I,C,a2,dn,dp,F];refine cG.of c (by decide) ?_;simp only[go_sem,seval,WM,WN,WO];refine amc m O M U J hn wp (bx:=w.aL) (b3:=s.aL) (b4:=s.aL+1) (b5:=x.aL) (s0:=u) uk ?_ ?_ ?_ (by omega) (by omega) (by omega) (by omega) (by omega) (by omega) (by omega) ?_ ?_ ?_ ?_ ?_ um ?_;rw[R _ (by omega),Y _ (by omega)];exact x0;rw[R _ (by omega),Y _ (by omega)];exact x1;rw[R _ (by omega)];exact wk;simp only[sN,seval];simp only[sN,seval];simp only[sN,seval];simp only[sN,seval]
 ·repeat' (first|exact rfl|refine aC.all_set ?_ (by first|exact a0|rfl))
 intro ex Z hI hc;have b4:Z.get [] (s.aL+1)=some (.cells [ic 0]):=by rw[hI.old _ (by omega) (by omega),R _ (by omega),Y _ (by omega)];exact x1
 rcases hc with⟨rfl,wi,h5,d⟩|⟨rfl,d⟩
 cases hz:an wi 0 with
 |true=>
  rw[hz] at d;obtain⟨y,B⟩:=ct (Z.put (s.aL+1) (some (.cells [ic (-1)])));have V:y.get [] (s.aL+1)=some (.cells [ic (-1)]):=by rw[<-B,aX,bS];rfl
  simp only[go_sem,seval,WM,WN,WO,aW,h5,hz,aY,dn,b4,dp,B,V];exact⟨_,rfl,by rw[d];rfl⟩
 |false=>
  rw[hz] at d;obtain⟨y,B⟩:=ct (Z.put (s.aL+1) (some (.cells [ic 1])));have V:y.get [] (s.aL+1)=some (.cells [ic 1]):=by rw[<-B,aX,bS];rfl
  simp only[go_sem,seval,WM,WN,WO,aW,h5,hz,aY,dn,b4,dp,B,V];exact⟨_,rfl,by rw[d];rfl⟩
 simp only[go_sem,seval,WM,WN,WO,aW,b4,aY];exact⟨_,rfl,by rw[d]⟩
def vm:Sp
 | [u,v]=>(rm u).bind fun r=>(jT v).bind fun p=>bif decide (r.length<=2000)&&(r.all iQ&&iQ p) then some (cd (qI r p)) else none
 |_=>none
def RJ:dX:=[(442,zI),(443,wG)]
def ab9:dR RJ:=.cons arO (.cons adb .nil)
variable{v:aa}
def Xv{r:List Pt}(h:ay 2 aU v r)(h1:r.length<=2000)(d:r.all iQ=true)(c:iQ p=true):vm [v,aU p]=some (cd (qI r p)):=by
 simp only[akZ,vm,qx h,wB,dQ h1,d,c,cw]
def Xw:db ae 342 vm:=by
 intro j u h G C w xs m y;unfold vm at h;split at h;simp only[ak] at h;obtain⟨r,I,p,H,h⟩:=h;obtain⟨d,h⟩:=bh h;simp only[bu,dE] at d;have h:=sI h;subst h;obtain⟨_,F,z⟩:=wC I;have B:=mj H;subst B;refine j9 ab9 (W:=[]) .nil (by simp only[eO,F,eH];rfl) (fun J=>?_) G C w xs m y;obtain⟨v,s',c,rfl⟩:=ami (Q:=QW RJ [] J) ⟨rfl,rfl⟩ ⟨rfl,rfl⟩ rfl rfl ⟨rfl,rfl⟩ z d.1 d.2.1 d.2.2 (s:=s0) (by decide);exact⟨_,_,c,1,rfl⟩;cases h
def BJ(sz lo:Nat)(s:St)(ov:aa)(xs:List aa):Prop:= ∃k,ov= .list sz xs (.own k)/\s.get [] k=some .tok/\lo<=k/\k<s.aL
variable{xs:List aa}{lo:Nat}{ov:aa}
def BJ.ge{sz:Nat}(h:BJ sz lo s ov xs):ov.ge=true:=by
 obtain⟨k,rfl,_⟩:=h;rfl
def acL{t:TypeId}{E:EI}{sz:Nat}(F:lV ae t=some E)(w:E.n=sz)(C:E.b<=88){y y0:aa}(h:BJ sz lo s ov xs)(j:eE [] E.g E.n y s=some [y0])(d:xs.length<=900000)(z:s.gt<=s.aL):
 ∃c s',fF ae [] t ov y false s=some (c,s')/\BJ sz lo s' c (xs++[y0])/\s'.ci=s.ci/\s.aL<=s'.aL/\s'.gt<=s'.aL/\(∀n,n<lo->s'.get [] n=s.get [] n):=by
 subst w;obtain⟨k,rfl,B,I,H⟩:=h;have m:jc (xs.length+ [y0].length) E.b=true:=vI (by simp only[bH,bn];omega) C;refine⟨.list E.n (xs++[y0]) (.own s.aL),(s.put k none).new .tok,?_,⟨s.aL,rfl,by rw[fk,lR,bS];rfl,by omega,kU _⟩,rfl,Nat.le_succ _,cq (dh s k none z),fun n u=>?_⟩;simp only[afo,fF,F,au,j,jG,B,m,cw];rw[fk,lR,bN.2 (by omega),cF,aX,bN.2 (by omega)];rfl
def zJ(p:Pt):Pt:=(2*p.1,2*p.2)
def xh(h:bk p=true):(-2097152<=p.1/\p.1<=2097152)/\(-2097152<=p.2/\p.2<=2097152):=by
 simp only[bk,bc,bu,awP,decide_eq_false_iff_not] at h;omega
def aeD{r:List Pt}(h:r.all bk=true):(o7 r).all iQ=true:=by
 rw[f8];intro q c;obtain⟨p,d,rfl⟩:=dy.1 c
 have:=xh (f8.1 h p d);simp only[iQ,cr,bu,dE];omega
def arW(c:No Q 341)(m:bk p=true)(s:St):aq Q 341 [aU p] s (aU (zJ p)) s:=by
 have u:=xh m;have j:IntKind.i64.wrap (2*p.1)=2*p.1:=iC (by omega) (by omega);have d:IntKind.i64.wrap (2*p.2)=2*p.2:=iC (by omega) (by omega);have h: ∃v s',aq Q 341 [aU p] s v s'/\(v=aU (zJ p)/\s'=s):=by
  refine aq.ofNRZ akl (co ?_);simp only[go_sem,seval,aU,zJ,j,d,qy,bj,bg,aZ,bf,evc];exact⟨_,rfl,by simp[zJ,aU]⟩
 obtain⟨_,_,h,rfl,rfl⟩:=h;exact h
def amt(H:No Q 341){r:List Pt}(hr:ay 2 aU rv r)(a9:r.length<=2000)(hn:r.all bk=true){s0:St}(hx: ∀e lc s ov,BJ 2 lo s ov ((o7 r).map aU)->(∀k,k<lo->s.get [] k=s0.get [] k)->s.gt<=s.aL->lo<=s.aL->s.ci=s0.ci->ac e 5=ov->K (.exit 0) ⟨e,25,lc⟩ s):
 ∀(d c:List Pt) (e:ax) (lc:Ag.Loc) (s:St) (ov:aa),r=c++d->BJ 2 lo s ov ((o7 c).map aU)->(∀k,k<lo->s.get [] k=s0.get [] k)->s.gt<=s.aL->lo<=s.aL->s.ci=s0.ci->ac e 5=ov->ac e 1= .func (.func 341) [] []->ac e 11=rv->ac e 12=uM r.length->ac e 13=uM c.length->W Q 340 (.loop N7) ⟨e,25,lc⟩ s K:=by
 intro d
 induction d with
 |nil=>
  intro c e lc s ov F R z w M B U h0 C m j;have a7:c.length=r.length:=by rw[F];simp
  have Z:c=r:=by rw[F];simp
  refine bG ?_;simp only[go_sem,seval,N7,m,j,a7,cD];rw[Z] at R;exact hx _ _ _ ov R z w M B (by simp only[sN,seval,U])
 |cons p d ih=>
  intro c e lc s ov F R z w M B U h0 C m j;have a0:c.length<r.length:=by rw[F];simp
  have O:r[c.length]? =some p:=by rw[F];simp
  have a8:=fun lc k=>hr.at pB.2.2.1 O lc k;have Y:=dB (n:=c.length) (by omega);have hp:=f8.1 hn p (eP O);have u:=arW H hp s;have J:=R.ge;obtain⟨V,s1,a1,a2,a3,a4,a5,a6⟩:=acL (t:=218) pB.1 rfl (by decide) (s:=s) (y:=.list 2 [aU (zJ p)] .uP) (y0:=aU (zJ p)) R (by simp only[afo,eE]) (by simp only[ce,o7];omega) w;have I:=a2.ge;simp only[aU] at u a1;refine bG ?_;simp only[go_sem,seval,N7,h0,U,C,m,j,a0,a8,aU,J];refine cG.of u (by decide) ?_;simp only[go_sem,seval,U,j,Y,J,I,a1,bj,bg,aZ,bf,evc];refine ih (c++[p]) _ _ s1 V (by rw[F];simp) (by
   have e1:(o7 (c++[p])).map aU=(o7 c).map aU++[aU (zJ p)]:=by simp[o7,zJ]
   rw[e1];exact a2) (fun k hk=>(a6 k hk).trans (z k hk)) a5 (by omega) (a3.trans B) ?_ ?_ ?_ ?_ ?_
  all_goals simp only[sN,seval,h0,C,m,sA]
def amu(I:No Q 340)(c:No Q 341){r:List Pt}(u:ay 2 aU rv r)(j:r.length<=2000)(R:r.all bk=true)(w:s.gt<=s.aL):
 ∃v s',aq Q 340 [rv,.func (.func 341) [] []] s v s'/\(ay 2 aU v (o7 r)/\(∀k,k<s.aL->s'.get [] k=s.get [] k)/\s.aL<=s'.aL/\s'.gt<=s'.aL/\s'.ci=s.ci):=by
 have F:=u.ge;have B:=u.lenS pB;have y:ow ae 218 (ic 0) (uM r.length) false s=some (.list 2 [] (.own s.aL),s.new .tok):=by
  have Z:bw 0 r.length=true:=cP (Nat.zero_le _);have Y:bw (r.length*16) 1099511627776=true:=cP (by omega);have V:bw r.length 1099511627776=true:=cP (by omega);have O:dS (ic 0)=some 0:=rfl;simp only[akZ,ow,pB,O,oz,Z,Y,V,cw];rfl
 refine aq.ofNRZ akj (co ?_);simp only[go_sem,seval,F,B,Py,y];refine amt c u j R (lo:=s.aL) (s0:=s.new .tok) ?_ r [] _ _ (s.new .tok) (.list 2 [] (.own s.aL)) rfl ⟨s.aL,rfl,cW,br _,kU _⟩ (fun _ _=>rfl) (cq w) (Nat.le_succ _) rfl ?_ ?_ ?_ ?_ ?_;intro e lc s1 ov M C d z H U;have m:=M.ge;simp only[go_sem,seval,U,m];refine⟨_,rfl,?_,fun k J=>(C k J).trans (cz J),z,d,H⟩;obtain⟨k,rfl,_⟩:=M;exact .inr ⟨_,rfl⟩
 all_goals simp only[sN,seval,bn]
 all_goals rfl
def Nb(lc:Ag.Loc)(m o:Nat)(i:aa):ja ae lc 303 (.ptr m o) i=(dS i).bind fun i=>bif bm i 3 then some (.ptr m (o+i*1)) else none:=by kernel_rfl
noncomputable abbrev rQ(E:ax)(x:Option Ex):aR:=.loop 236 E 38 [13,14] Fb Fc x
def CR(x:bT):Pt:=(x.1.1+x.2.1,x.1.2+x.2.2)
def kG(l:List bT)(s:List Pt)(v:Int):Nat:=(l.filter fun x=>an (qI (o7 s) (CR x)) v).length
theorem wN(l:List bT)(S:bT)(s:List Pt)(v:Int):kG (l++[S]) s v=kG l s v+bif an (qI (o7 s) (CR S)) v then 1 else 0:=by
 grind [kG]
def Mp(l:List bT)(s:List Pt)(v:Int):kG l s v<=l.length:=kT _ _
def Xp{p:Pt}: ∀ {l:List bT} {w:Int},yU p l w=1\/yU p l w=0\/yU p l w= -1
 | [],w=>by
   show(bif an w 0 then(-1:Int) else 1)=1\/(bif an w 0 then(-1:Int) else 1)=0\/(bif an w 0 then(-1:Int) else 1)= -1;cases an w 0<;>simp
 |S::l,w=>by
  rw[Xo];cases A6 S p with
  |true=>exact .inr (.inl rfl)
  |false=>exact Xp
def kH(c:Nat×Nat×Nat):List aa:=[uM c.1,uM c.2.1,uM c.2.2]
def lN(l:List bT)(s:List Pt):Nat×Nat×Nat:=(kG l s 1,kG l s 0,kG l s (-1))
variable{t:List Pt}{b6:Nat}{bv:aa}
theorem amI(m:Q.spec 342=some vm)(a4:t.length<=2000)(ht:t.all bk=true)(O:ay 2 aU bv (o7 t))(na:bk S.1=true)(nb:bk S.2=true)(a6:l.length<=2000){s0:St}(a3:s0.get [] b6=some (.cells [bv]))(l5:b5<s0.aL)(l6:b6<s0.aL)(d6:b6≠b5)(e5:ac E 5= .ptr b5 0)(e6:ac E 6= .ptr b6 0)(hI:mN b5 s0 s)(hl:s.get [] s0.aL=some (rQ E none))(a0:s.get [] b5=some (.cells (kH (lN l t)))):
 ∃v s',ji Q s0.aL [uM i,bX S] s.top v s'/\(s'.ci=s.ci/\s.aL<=s'.aL/\mN b5 s0 (s.rX s')/\v= .bool true/\s'.get [] s0.aL=some (rQ E none)/\s'.get [] b5=some (.cells (kH (lN (l++[S]) t)))):=by
 have a5:=hI.lt;have a1:=hI.mw;have n1:=xh na;have n2:=xh nb;have C:=O.ge;have u:iQ (CR S)=true:=by
  have h1: -4194304<=S.1.1+S.2.1/\S.1.1+S.2.1<=4194304:=by omega
  have h2: -4194304<=S.1.2+S.2.2/\S.1.2+S.2.2<=4194304:=by omega
  simp only[iQ,CR,cr,bu,dE];exact⟨⟨dQ h1.1,dQ h1.2⟩,dQ h2.1,dQ h2.2⟩
 have I:=Xv O (by grind [o7]) (aeD ht) u;obtain⟨L,R⟩:=ct (qI (o7 t) (CR S));have hv:L=1\/L=0\/L= -1:=by rw[<-R];exact Xp
 rw[R] at I;simp only[aU,cd,CR] at I;have w1:IntKind.i64.wrap (S.1.1+S.2.1)=S.1.1+S.2.1:=iC (by omega) (by omega);have w2:IntKind.i64.wrap (S.1.2+S.2.2)=S.1.2+S.2.2:=iC (by omega) (by omega);refine ji.any (ca:=NW) (cb:=Fa) (show s.top.get [] s0.aL=_ from hl) rfl rfl ajh aji ?_;refine co ?_;obtain⟨w,H⟩:=ct (s.top.put s0.aL none);have wn:w.aL=s.aL:=by rw[<-H];rfl
 have wo: ∀j,j≠s0.aL->w.get [] j=s.get [] j:=fun j J=>by rw[<-H,aX,bN.2 J];rfl
 have wm:w.gt<=w.aL:=by rw[<-H];exact dh s.top _ _ (br _)
 obtain⟨z,F⟩:=ct ((w.new (.cells [ic 0,ic 0,ic 0,ic 0])).put w.aL (some (.cells (bX S).cells)));have zn:z.aL=s.aL+1:=by rw[<-F,<-wn];rfl
 have zc:z.ci=s.ci:=by rw[<-F,<-H];rfl
 have zm:z.gt<=z.aL:=by rw[<-F];exact dh _ _ _ (cq wm)
 have zk:z.get [] w.aL=some (.cells (bX S).cells):=by rw[<-F,aX,bS];rfl
 have zs: ∀j,j<s.aL->j≠s0.aL->z.get [] j=s.get [] j:=fun j J B=>by grind [aX,cz]
 have zo: ∀j,j<s0.aL->j≠b5->z.get [] j=s0.get [] j:=fun j J B=>(zs j (by omega) (by omega)).trans (hI.old j J B);have z6:=(zo b6 l6 d6).trans a3;have z5:=(zs b5 (by omega) (by omega)).trans a0;simp only[bX,gD] at F zk;have a2:(w.new (.cells [ic 0,ic 0,ic 0,ic 0])).get [] w.aL=some (.cells [ic 0,ic 0,ic 0,ic 0]):=cW;simp only[go_sem,df,bP,ah,aB,bQ,ee,ey,eI,cK,uO,ep,reduceCtorEq,eR,NW,bX,H,dn,a2,dp,F,bj,bg,aZ,bf,evc];have fin: ∀(y:St) (c:List aa),z.put b5 (some (.cells c))=y->(y.put s0.aL (some (rQ E none))).ci=s.ci/\s.aL<=(y.put s0.aL (some (rQ E none))).aL/\mN b5 s0 (s.rX (y.put s0.aL (some (rQ E none))))/\(y.put s0.aL (some (rQ E none))).get [] s0.aL=some (rQ E none)/\(y.put s0.aL (some (rQ E none))).get [] b5=some (.cells c):=fun y c d=>by
  have yn:y.aL=s.aL+1:=by rw[<-d];exact zn
  have qn:(y.put s0.aL (some (rQ E none))).aL=s.aL+1:=yn;have yc:y.ci=s.ci:=by rw[<-d];exact zc
  refine⟨yc,by omega,⟨fun j J B=>?_,pW a1 (by omega),?_,yc.trans hI.ci⟩,by rw[aX,bS];rfl,?_⟩
  grind [mY,aX]
  show s0.aL<(y.put s0.aL (some (rQ E none))).aL;omega
  grind [aX]
 have k1:=Mp l t 1;have k2:=Mp l t 0;have k3:=Mp l t (-1);have q1:=dB (n:=kG l t 1) (by omega);have q2:=dB (n:=kG l t 0) (by omega);have q3:=dB (n:=kG l t (-1)) (by omega);have m0:dS (ic 0)=some 0:=rfl;have m1:dS (ic 1)=some 1:=rfl;have m2:dS (ic 2)=some 2:=rfl;have v0:IntKind.i64.wrap (1-1)=0:=by rfl
 have v1:IntKind.i64.wrap (1-0)=1:=by rfl
 have v2:IntKind.i64.wrap (1- -1)=2:=by rfl
 simp only[kH,lN] at z5;refine co ?_;rcases hv with rfl|rfl|rfl
 have M:lN (l++[S]) t=(kG l t 1+1,kG l t 0,kG l t (-1)):=by
  unfold lN;rw[wN,wN,wN,R];rfl
 obtain⟨y,d⟩:=ct (z.put b5 (some (.cells (kH (lN (l++[S]) t)))));obtain⟨f1,Z,Y,V,U⟩:=fin y _ d;rw[M] at d;simp only[kH] at d;simp only[go_sem,df,bP,ah,aB,bQ,ee,ey,eI,cK,uO,ep,reduceCtorEq,eR,Fa,e5,e6,z5,z6,zk,C,aW,aY,sj,w1,w2,m,I,v0,Nb,m0,q1,dn,dp,d,jI,jL,bj,bg,aZ,bf,evc];exact⟨f1,Z,Y,V,U⟩;have M:lN (l++[S]) t=(kG l t 1,kG l t 0+1,kG l t (-1)):=by
  unfold lN;rw[wN,wN,wN,R];rfl
 obtain⟨y,d⟩:=ct (z.put b5 (some (.cells (kH (lN (l++[S]) t)))));obtain⟨f1,Z,Y,V,U⟩:=fin y _ d;rw[M] at d;simp only[kH] at d;simp only[go_sem,df,bP,ah,aB,bQ,ee,ey,eI,cK,uO,ep,reduceCtorEq,eR,Fa,e5,e6,z5,z6,zk,C,aW,aY,sj,w1,w2,m,I,v1,Nb,m1,q2,dn,dp,d,jI,jL,bj,bg,aZ,bf,evc];exact⟨f1,Z,Y,V,U⟩;have M:lN (l++[S]) t=(kG l t 1,kG l t 0,kG l t (-1)+1):=by
  unfold lN;rw[wN,wN,wN,R];rfl
 obtain⟨y,d⟩:=ct (z.put b5 (some (.cells (kH (lN (l++[S]) t)))));obtain⟨f1,Z,Y,V,U⟩:=fin y _ d;rw[M] at d;simp only[kH] at d;simp only[go_sem,df,bP,ah,aB,bQ,ee,ey,eI,cK,uO,ep,reduceCtorEq,eR,Fa,e5,e6,z5,z6,zk,C,aW,aY,sj,w1,w2,m,I,v2,Nb,m2,q3,dn,dp,d,jI,jL,bj,bg,aZ,bf,evc];exact⟨f1,Z,Y,V,U⟩
theorem amH(d:No Q 339)(y:Q.spec 342=some vm){r:List Pt}(hr:ay 2 aU rv r)(w:r.length<=2000)(hn:r.all bk=true)(u:t.length<=2000)(ht:t.all bk=true)(J:ay 2 aU bv (o7 t)){s0:St}(I:s0.get [] bx=some (.cells [rv]))(M:s0.get [] b6=some (.cells [bv]))(O:s0.get [] b5=some (.cells [ic 0,ic 0,ic 0]))(lx:bx<s0.aL)(U:b5<s0.aL)(l6:b6<s0.aL)(dx:bx≠b5)(d6:b6≠b5)(e5:ac E 5= .ptr b5 0)(e6:ac E 6= .ptr b6 0)(R:ac E 12= .func (.func 339) [] [.ptr bx 0])(hE:E.all jY=true)(F:s0.gt<=s0.aL)(hk: ∀z,mN b5 s0 z->z.get [] b5=some (.cells (kH (lN (gz r) t)))->K .normal ⟨E,38,lc⟩ z):W Q 236 (.rfun (.tmp 12) [13,14] Fb Fc) ⟨E,38,lc⟩ s0 K:=by
 obtain⟨v,s',m,rfl,h⟩:=Bk d hr w (bx:=bx) (n:=s0.aL) (P:=fun i s=>mN b5 s0 s/\s.get [] s0.aL=some (rQ E none)/\s.get [] b5=some (.cells (kH (lN ((gz r).take i) t)))) (D:=fun _=>False) (fun k s h=>(h.1.old bx lx dx).trans I) (fun k s h=>h.1.mw) (fun i s V ⟨c,hl,Y⟩=>by
  obtain⟨na,nb⟩:=Bc hn V;obtain⟨v,s',q1,q2,q3,q4,rfl,q5,Z⟩:=amI y u ht J na nb (l:=(gz r).take i) (i:=i) (by grind) M U l6 d6 e5 e6 c hl Y;refine⟨_,s',q1,q2,q3,.inl ⟨rfl,q4,q5,?_⟩⟩;have e:(gz r).take (i+1)=(gz r).take i++[fw r i]:=by
   rw[List.take_add_one,Dq V];rfl
  rw[e];exact Z) (s:=s0.new (rQ E none)) ⟨⟨fun j H _=>cz H,cq F,kU _,rfl⟩,cW,(cz U).trans O⟩
 have B:mN b5 s0 s'->mN b5 s0 (s'.put s0.aL none):=fun c=>⟨fun j H C=>by rw[aX,bN.2 (by omega:j≠s0.aL)];exact c.old j H C,dh _ _ _ c.mw,c.lt,c.ci⟩;rcases h with⟨c,hg,Y⟩|h
 refine oS (h:=339) (first:=[]) (captured:=[.ptr bx 0]) (v:=.tup []) (s1:=s') (by simp only[aA,R]) (by rw[Std.P,rJ,ajk,hE];rfl) m hg (hk _ (B c) ?_)
 grind [aX,Dr]
 exact h.elim
variable{tv:aa}
theorem amJ(F:No Q 339)(H:No Q 235)(U:Q.spec 342=some vm)(C:No Q 340)(B:No Q 341)(a8:No Q 236){r:List Pt}(Z:ay 2 aU rv r)(O:r.length<=2000)(hn:r.all bk=true)(z:ay 2 aU tv t)(d:t.length<=2000)(ht:t.all bk=true)(a3:s.gt<=s.aL):
 ∃v s',aq Q 236 [rv,tv] s v s'/\v= .agg (kH (lN (gz r) t)):=by
 have R:=Z.ge;have a1:=z.ge;have a2:=vH Z;have a0:=vH z;obtain⟨x,I⟩:=ct ((s.new (.cells [ic 0,ic 0,ic 0])).new (.cells [ic 0,ic 0,ic 0]));have M:(s.new (.cells [ic 0,ic 0,ic 0])).aL=s.aL+1:=rfl;have xn:x.aL=s.aL+2:=by rw[<-I];rfl
 have xm:x.gt<=x.aL:=by rw[<-I];exact cq (cq a3)
 have x0:x.get [] s.aL=some (.cells [ic 0,ic 0,ic 0]):=by rw[<-I,cz (by rw[M];omega)];exact cW
 have x1:x.get [] (s.aL+1)=some (.cells [ic 0,ic 0,ic 0]):=by rw[<-I];exact cW
 have V:=amu C B z d ht xm;refine aq.ofNRZ ajj (co ?_);simp only[go_sem,df,bP,ah,aB,bQ,ee,ey,eI,cK,uO,ep,reduceCtorEq,eR,R,a1,M,I];refine cG.ex V (by decide) ?_;rintro bv y ⟨c,yo,yn,ym,yc⟩;have a6:=c.ge;have a5:=c.scal;obtain⟨w,Y⟩:=ct ((y.new (.cells [.oZ])).put y.aL (some (.cells [bv])));have a4:(y.new (.cells [.oZ])).get [] y.aL=some (.cells [.oZ]):=cW;have cn:aa.oZ.cells=[.oZ]:=rfl;have wn:w.aL=y.aL+1:=by rw[<-Y];rfl
 have wm:w.gt<=w.aL:=by rw[<-Y];exact dh _ _ _ (cq ym)
 have wk:w.get [] y.aL=some (.cells [bv]):=by rw[<-Y,aX,bS];rfl
 have wo: ∀j,j<y.aL->w.get [] j=y.get [] j:=fun j hj=>by grind [aX,cz]
 have m:=Bj H Z w;obtain⟨u,J⟩:=ct (w.new (.cells [rv]));have un:u.aL=y.aL+2:=by
  rw[<-J];show w.aL+1=_;omega
 have um:u.gt<=u.aL:=by rw[<-J];exact cq wm
 have uk:u.get [] w.aL=some (.cells [rv]):=by rw[<-J];exact cW
 have uo: ∀j,j<w.aL->u.get [] j=w.get [] j:=fun j hj=>by rw[<-J,cz hj]
 rw[J] at m;simp only[go_sem,df,bP,ah,aB,bQ,ee,ey,eI,cK,uO,ep,reduceCtorEq,eR,a6,a5,cn,a4,dn,dp,Y,R];refine cG.of m (by decide) ?_;simp only[go_sem,df,bP,ah,aB,bQ,ee,ey,eI,cK,uO,ep,reduceCtorEq,eR];refine amH F U Z O hn d ht c (bx:=w.aL) (b5:=s.aL+1) (b6:=y.aL) (s0:=u) uk ?_ ?_ (by omega) (by omega) (by omega) (by omega) (by omega) ?_ ?_ ?_ ?_ um ?_;rw[uo _ (by omega)];exact wk
 grind
 simp only[sN,ah,bQ];simp only[sN,ah,bQ];simp only[sN,ah,bQ]
 ·have a7:=vH c
  repeat' (first|exact rfl|refine aC.all_set ?_ (by first|exact a2|exact a0|exact a7|rfl))
 intro s2 hI h5;have h4:s2.get [] s.aL=some (.cells [ic 0,ic 0,ic 0]):=by rw[hI.old _ (by omega) (by omega),uo _ (by omega),wo _ (by omega),yo _ (by omega)];exact x0
 obtain⟨q,hq⟩:=ct (s2.put s.aL (some (.cells (kH (lN (gz r) t)))));have qk:q.get [] s.aL=some (.cells (kH (lN (gz r) t))):=by rw[<-hq,aX,bS];rfl
 simp only[kH] at h5 hq qk;simp only[go_sem,df,bP,ah,aB,bQ,ee,ey,eI,cK,uO,ep,reduceCtorEq,eR,aW,h5,aY,dn,h4,dp,hq,qk];exact⟨_,rfl,rfl⟩
def xg:Sp
 | [u,v]=>(rm u).bind fun r=>(rm v).bind fun t=>bif(decide (r.length<=2000)&&r.all bk)&&(decide (t.length<=2000)&&t.all bk) then some (.agg (kH (lN (gz r) t))) else none
 |_=>none
def XT{u:aa}{r:List Pt}(h:ay 2 aU u r)(m:ay 2 aU v t)(h1:r.length<=2000)(j:r.all bk=true)(d:t.length<=2000)(c:t.all bk=true):xg [u,v]=some (.agg (kH (lN (gz r) t))):=by
 simp only[akZ,xg,qx h,qx m,dQ h1,j,dQ d,c,cw]
def RK:dX:=[(342,vm)]
def aca:dR RK:=.cons Xw .nil
def amG:db ae 236 xg:=by
 intro j u h G C w xs m y;unfold xg at h;split at h;simp only[ak] at h;obtain⟨r,J,t,I,h⟩:=h;obtain⟨d,h⟩:=bh h;simp only[bu,dE] at d;have h:=sI h;subst h;obtain⟨_,H,B⟩:=wC J;obtain⟨_,F,z⟩:=wC I;refine j9 aca (W:=[]) .nil (by simp only[eO,H,F,cw]) (fun M=>?_) G C w xs m y;obtain⟨v,s',c,rfl⟩:=amJ (Q:=QW RK [] M) ⟨rfl,rfl⟩ ⟨rfl,rfl⟩ rfl ⟨rfl,rfl⟩ ⟨rfl,rfl⟩ ⟨rfl,rfl⟩ B d.1.1 d.1.2 z d.2.1 d.2.2 (s:=s0) (by decide);exact⟨_,_,c,2,rfl⟩;cases h
def FO:Sp
 | [v]=>(jT v).bind fun p=>some (.bool (bk p))
 |_=>none
def am7:db ae 430 FO:=by
 refine GK (T:=[]) .nil (W:=[]) .nil fun c u h=>?_;unfold FO at h;split at h;simp only[ak] at h;obtain⟨p,d,h⟩:=h;have h:=sI h;subst h;rw[mj d];exact⟨rfl,fun j=>⟨_,_,X3 (Q:=QW [] [] j) ⟨rfl,rfl⟩ p _,1,rfl⟩⟩;cases h
def X5(h:bk p=true):iQ p=true:=by
 have:=xh h;have d: -4194304<=p.1/\p.1<=4194304:=by omega
 have c: -4194304<=p.2/\p.2<=4194304:=by omega
 simp only[iQ,cr,bu];exact⟨⟨dQ d.1,dQ d.2⟩,dQ c.1,dQ c.2⟩
def P6{r:List Pt}(h:kz r=true):pz r=true:=by
 unfold kz at h;simp only[bu] at h;exact h.1
def aqz(c:Q.spec 229=some qe)(d:Q.spec 430=some FO)(y:Q.spec 342=some vm)(C:No Q 406){r:List Pt}(B:ay 2 aU rv r)(p:Pt)(s:St):aq Q 406 [rv,aU p] s (cd (sn r p)) s:=by
 have j:=B.ge;have m:=Ky B;have z:FO [.agg [ic p.1,ic p.2]]=some (.bool (bk p)):=rfl;have h: ∃v s',aq Q 406 [rv,aU p] s v s'/\(v=cd (sn r p)/\s'=s):=by
  refine aq.ofNRZ akz (co ?_);cases e1:kz r with
  |false=>
   have u:sn r p= -1:=by unfold sn;rw[e1];rfl
   rw[e1] at m;simp only[go_sem,seval,aU,j,c,m];exact⟨_,rfl,by rw[u];rfl⟩
  |true=>
   rw[e1] at m;cases e2:bk p with
   |false=>
    have u:sn r p= -1:=by unfold sn;rw[e1,e2];rfl
    rw[e2] at z;simp only[go_sem,seval,aU,j,c,m,d,z];exact⟨_,rfl,by rw[u];rfl⟩
   |true=>
    have u:sn r p=qI r p:=by unfold sn;rw[e1,e2];rfl
    rw[e2] at z;obtain⟨⟨_,w⟩,I⟩:=Dk (P6 e1);have F:=Xv B w (by rw[f8];exact fun x H=>X5 (f8.1 I x H)) (X5 e2);simp only[aU,cd] at F;simp only[go_sem,seval,aU,j,c,m,d,z,y,F];exact⟨_,rfl,by rw[u];rfl⟩
 obtain⟨_,_,h,rfl,rfl⟩:=h;exact h
def Bi:Sp
 | [u,v]=>(rm u).bind fun r=>(jT v).bind fun p=>some (cd (sn r p))
 |_=>none
def RL:dX:=[(229,qe),(430,FO),(342,vm)]
def acb:dR RL:=.cons Kz (.cons am7 (.cons Xw .nil))
def aqy:db ae 406 Bi:=by
 intro c u h G z w xs d j;unfold Bi at h;split at h;simp only[ak] at h;obtain⟨r,F,p,C,h⟩:=h;have h:=sI h;subst h;obtain⟨_,B,m⟩:=wC F;have y:=mj C;subst y;refine j9 acb (W:=[]) .nil (by simp only[eO,B,eH];rfl) (fun H=>?_) G z w xs d j;exact⟨_,_,aqz (Q:=QW RL [] H) rfl rfl rfl ⟨rfl,rfl⟩ m p s0,1,rfl⟩;cases h
noncomputable abbrev qK(E:ax)(x:Option Ex):aR:=.loop 141 E 71 [25,26] EV EX x
noncomputable abbrev qL(E:ax)(x:Option Ex):aR:=.loop 141 E 71 [21,22] EW EY x
def VL:(dY EW&&dY EY)=true:=by kernel_rfl
variable{A:bT}
theorem apJ(c:Q.spec 225=some lD){B:bT}(n1:bk A.1=true)(n2:bk A.2=true)(n3:bk B.1=true)(n4:bk B.2=true){s0:St}(a3:s0.get [] b4=some (.cells [ic 0]))(a2:s0.get [] b6=some (.cells (bX A).cells))(l4:b4<s0.aL)(l6:b6<s0.aL)(V:ac E 4= .ptr b4 0)(U:ac E 6= .ptr b6 0){k:Nat}(R:iG [] 0 s0 s)(hl:s.get [] s0.aL=some (qK E none)):
 ∃v s',ji Q s0.aL [uM k,bX B] s.top v s'/\(s'.ci=s.ci/\s.aL<=s'.aL/\iG [] 0 s0 (s.rX s')/\((v= .bool true/\s'.get [] s0.aL=some (qK E none)/\oK A B=false)\/(v= .bool false/\s'.get [] s0.aL=some (qK E (some .ret))/\oK A B=true))):=by
 have C:=OQ n1 n2 n3 n4;have a4:=R.lt;have a0:=R.mw;obtain⟨M,hM⟩:=ct (ld A B);have Z:oK A B=(an M 2||(an M 3||an M 5)):=by rw[<-hM];rfl
 rw[hM] at C;refine ji.any (ca:=Ny) (cb:=CA) (show s.top.get [] s0.aL=_ from hl) rfl rfl ah3 ah5 ?_;refine co ?_;obtain⟨w,I⟩:=ct (s.top.put s0.aL none);have wn:w.aL=s.aL:=by rw[<-I];rfl
 have wo: ∀j,j≠s0.aL->w.get [] j=s.get [] j:=fun j J=>by rw[<-I,aX,bN.2 J];rfl
 have wm:w.gt<=w.aL:=by rw[<-I];exact dh s.top _ _ (br _)
 obtain⟨z,m⟩:=ct ((w.new (.cells [ic 0,ic 0,ic 0,ic 0])).put w.aL (some (.cells (bX B).cells)));have zn:z.aL=s.aL+1:=by rw[<-m,<-wn];rfl
 have zc:z.ci=s.ci:=by rw[<-m,<-I];rfl
 have zm:z.gt<=z.aL:=by rw[<-m];exact dh _ _ _ (cq wm)
 have F:z.get [] w.aL=some (.cells (bX B).cells):=by rw[<-m,aX,bS];rfl
 have Y: ∀j,j<s0.aL->z.get [] j=s0.get [] j:=fun j J=>by
  rw[<-m,aX,bN.2 (by omega:j≠w.aL),cF,cz (by omega),wo j (by omega)];exact R.old j J
 have O:=(Y b4 l4).trans a3;have H:=(Y b6 l6).trans a2;simp only[bX,gD,cd] at m C F H;have a1:(w.new (.cells [ic 0,ic 0,ic 0,ic 0])).get [] w.aL=some (.cells [ic 0,ic 0,ic 0,ic 0]):=cW;simp only[go_sem,seval,lB,VM,Ny,bX,I,dn,a1,dp,m,bj,bg,aZ,bf,evc];have fin: ∀(d:St) (o:Option Ex),(∀j,j<s0.aL->d.get [] j=s0.get [] j)->d.aL=s.aL+1->d.ci=s.ci->d.gt<=d.aL->(d.put s0.aL (some (qK E o))).ci=s.ci/\s.aL<=(d.put s0.aL (some (qK E o))).aL/\iG [] 0 s0 (s.rX (d.put s0.aL (some (qK E o))))/\(d.put s0.aL (some (qK E o))).get [] s0.aL=some (qK E o):=fun d o q1 q2 q3 q4=>by
  have qn:(d.put s0.aL (some (qK E o))).aL=s.aL+1:=q2;refine⟨q3,by omega,⟨fun j J=>?_,pW a0 (by omega),?_,q3.trans R.ci⟩,by rw[aX,bS];rfl⟩
  grind [mY,aX]
  show s0.aL<(d.put s0.aL (some (qK E o))).aL;omega
 obtain⟨y,u⟩:=ct (z.put b4 (some (.cells [ic 0])));have yo: ∀j,j<s0.aL->y.get [] j=s0.get [] j:=fun j J=>by
  grind [aX]
 obtain⟨f1,f2,f3,f4⟩:=fin z none Y zn zc zm;obtain⟨g1,g2,g3,g4⟩:=fin y (some .ret) yo (by rw[<-u];exact zn) (by rw[<-u];exact zc) (by rw[<-u];exact dh _ _ _ zm);refine co ?_;cases c1:an M 2 with
 |true=>
  simp only[go_sem,seval,lB,VM,CA,V,U,O,H,F,aW,aY,c,C,c1,dn,dp,u,jI,jL];exact⟨g1,g2,g3,.inr ⟨g4,by rw[Z,c1];rfl⟩⟩
 |false=>
  cases c2:an M 3 with
  |true=>
   simp only[go_sem,seval,lB,VM,CA,V,U,O,H,F,aW,aY,c,C,c1,c2,dn,dp,u,jI,jL];exact⟨g1,g2,g3,.inr ⟨g4,by rw[Z,c1,c2];rfl⟩⟩
  |false=>
   cases c3:an M 5 with
   |true=>
    simp only[go_sem,seval,lB,VM,CA,V,U,O,H,F,aW,aY,c,C,c1,c2,c3,dn,dp,u,jI,jL];exact⟨g1,g2,g3,.inr ⟨g4,by rw[Z,c1,c2,c3];rfl⟩⟩
   |false=>
    simp only[go_sem,seval,lB,VM,CA,V,U,O,H,F,aW,aY,c,C,c1,c2,c3,dn,dp,jI,jL]
    grind
theorem apI(u:No Q 339)(F:Q.spec 225=some lD)(I:ay 2 aU tv t)(z:t.length<=2000)(hn:t.all bk=true)(n1:bk A.1=true)(n2:bk A.2=true){s0:St}(O:s0.get [] bx=some (.cells [tv]))(U:s0.get [] b4=some (.cells [ic 0]))(R:s0.get [] b6=some (.cells (bX A).cells))(lx:bx<s0.aL)(l4:b4<s0.aL)(l6:b6<s0.aL)(e4:ac E 4= .ptr b4 0)(e6:ac E 6= .ptr b6 0)(H:ac E 24= .func (.func 339) [] [.ptr bx 0])(hE:E.all jY=true)(J:s0.gt<=s0.aL)(B: ∀x Y,iG [] 0 s0 Y->((x= .normal/\ ∀j,j<t.length->oK A (fw t j)=false)\/(x= .ret/\ ∃j,j<t.length/\oK A (fw t j)=true))->K x ⟨E,71,[]⟩ Y):W Q 141 (.rfun (.tmp 24) [25,26] EV EX) ⟨E,71,[]⟩ s0 K:=by
 obtain⟨v,s',d,rfl,h⟩:=Bk u I z (bx:=bx) (n:=s0.aL) (P:=fun k s=>iG [] 0 s0 s/\s.get [] s0.aL=some (qK E none)/\ ∀j,j<k->oK A (fw t j)=false) (D:=fun s=>iG [] 0 s0 s/\s.get [] s0.aL=some (qK E (some .ret))/\ ∃j,j<t.length/\oK A (fw t j)=true) (fun k s h=>(h.1.old bx lx).trans O) (fun k s h=>h.1.mw) (fun k s B ⟨c,hl,y⟩=>by
  obtain⟨n3,n4⟩:=Bc hn B;obtain⟨v,s',q1,q2,q3,Z,q5⟩:=apJ F n1 n2 n3 n4 (k:=k) U R l4 l6 e4 e6 c hl;refine⟨v,s',q1,q2,q3,?_⟩;rcases q5 with⟨rfl,V,h2⟩|⟨rfl,V,h2⟩
  refine .inl ⟨rfl,Z,V,fun j m=>?_⟩
  grind
  exact .inr ⟨rfl,Z,V,k,B,h2⟩) (s:=s0.new (qK E none)) ⟨⟨fun j m=>cz m,cq J,kU _,rfl⟩,cW,fun j m=>absurd m (Hb _)⟩
 have w:iG [] 0 s0 s'->iG [] 0 s0 (s'.put s0.aL none):=fun c=>⟨fun j m=>by rw[aX,bN.2 (by omega:j≠s0.aL)];exact c.old j m,dh _ _ _ c.mw,c.lt,c.ci⟩;rcases h with⟨c,M,y⟩|⟨c,M,C⟩
 exact oS (h:=339) (first:=[]) (captured:=[.ptr bx 0]) (v:=.tup []) (s1:=s') (by simp only[aA,H]) (by rw[Std.P,rJ,VK,hE];rfl) d M (B _ _ (w c) (.inl ⟨rfl,y⟩));exact oS (h:=339) (first:=[]) (captured:=[.ptr bx 0]) (v:=.tup []) (s1:=s') (by simp only[aA,H]) (by rw[Std.P,rJ,VK,hE];rfl) d M (B _ _ (w c) (.inr ⟨rfl,C⟩))
def apH(H:No Q 339)(I:No Q 235)(R:Q.spec 225=some lD)(c:ay 2 aU tv t)(M:t.length<=2000)(hn:t.all bk=true)(n1:bk A.1=true)(n2:bk A.2=true){s0:St}(a3:s0.get [] b3=some (.cells [tv]))(a2:s0.get [] b4=some (.cells [ic 0]))(l3:b3<s0.aL)(l4:b4<s0.aL)(e3:ac E 3= .ptr b3 0)(e4:ac E 4= .ptr b4 0)(hE:E.all jY=true)(U:iG [] 0 s0 s)(hl:s.get [] s0.aL=some (qL E none)):
 ∃v s',ji Q s0.aL [uM i,bX A] s.top v s'/\(s'.ci=s.ci/\s.aL<=s'.aL/\iG [] 0 s0 (s.rX s')/\((v= .bool true/\s'.get [] s0.aL=some (qL E none)/\ ∀j,j<t.length->oK A (fw t j)=false)\/(v= .bool false/\s'.get [] s0.aL=some (qL E (some .ret))/\ ∃j,j<t.length/\oK A (fw t j)=true))):=by
 have a4:=U.lt;have Z:=U.mw;have a1:=c.ge;have V:=vH c;refine ji.any (ca:=Nz) (cb:=NA) (show s.top.get [] s0.aL=_ from hl) rfl rfl ah4 ah6 ?_;refine co ?_;obtain⟨w,J⟩:=ct (s.top.put s0.aL none);have wn:w.aL=s.aL:=by rw[<-J];rfl
 have wo: ∀j,j≠s0.aL->w.get [] j=s.get [] j:=fun j d=>by rw[<-J,aX,bN.2 d];rfl
 have wm:w.gt<=w.aL:=by rw[<-J];exact dh s.top _ _ (br _)
 obtain⟨z,B⟩:=ct ((w.new (.cells [ic 0,ic 0,ic 0,ic 0])).put w.aL (some (.cells (bX A).cells)));have zn:z.aL=s.aL+1:=by rw[<-B,<-wn];rfl
 have zc:z.ci=s.ci:=by rw[<-B,<-J];rfl
 have zm:z.gt<=z.aL:=by rw[<-B];exact dh _ _ _ (cq wm)
 have zk:z.get [] w.aL=some (.cells (bX A).cells):=by rw[<-B,aX,bS];rfl
 have zo: ∀j,j<s0.aL->z.get [] j=s0.get [] j:=fun j d=>by
  rw[<-B,aX,bN.2 (by omega:j≠w.aL),cF,cz (by omega),wo j (by omega)];exact U.old j d
 have z3:=(zo b3 l3).trans a3;simp only[bX,gD] at B;have a0:(w.new (.cells [ic 0,ic 0,ic 0,ic 0])).get [] w.aL=some (.cells [ic 0,ic 0,ic 0,ic 0]):=cW;simp only[go_sem,seval,lB,VM,Nz,bX,J,dn,a0,dp,B,bj,bg,aZ,bf,evc];refine co ?_;have y:=Bj I c z;obtain⟨x,F⟩:=ct (z.new (.cells [tv]));have xn:x.aL=s.aL+2:=by
  rw[<-F];show z.aL+1=_;omega
 have xm:x.gt<=x.aL:=by rw[<-F];exact cq zm
 have xc:x.ci=s.ci:=by rw[<-F];exact zc
 have xk:x.get [] z.aL=some (.cells [tv]):=by rw[<-F];exact cW
 have xo: ∀j,j<z.aL->x.get [] j=z.get [] j:=fun j d=>by rw[<-F,cz d]
 have m: ∀j,j<s0.aL->x.get [] j=s0.get [] j:=fun j d=>(xo j (by omega)).trans (zo j d);rw[F] at y;simp only[go_sem,seval,lB,VM,NA,e3,z3,aW,aY,sj,a1];refine cG.of y (by decide) ?_;simp only[go_sem,seval,lB,VM];refine apI H R c M hn n1 n2 (bx:=z.aL) (b4:=b4) (b6:=w.aL) (s0:=x) xk ((m b4 l4).trans a2) ?_ (by omega) (by omega) (by omega) ?_ ?_ ?_ ?_ xm ?_;rw[xo _ (by omega)];exact zk;simp only[sN,seval,e4];simp only[sN,seval];simp only[sN,seval]
 ·repeat' (first|exact hE|refine aC.all_set ?_ (by first|exact V|rfl))
 intro ex u C hc;have n2:=C.lt;have g1: ∀(o:Option Ex),(u.put s0.aL (some (qL E o))).ci=s.ci/\s.aL<=(u.put s0.aL (some (qL E o))).aL/\iG [] 0 s0 (s.rX (u.put s0.aL (some (qL E o))))/\(u.put s0.aL (some (qL E o))).get [] s0.aL=some (qL E o):=fun o=>by
  have qn:(u.put s0.aL (some (qL E o))).aL=u.aL:=rfl;have qc:(u.put s0.aL (some (qL E o))).ci=s.ci:=C.ci.trans xc;refine⟨qc,by omega,⟨fun j d=>?_,pW Z (by omega),?_,qc.trans U.ci⟩,by rw[aX,bS];rfl⟩;rw[mY,aX,bN.2 (by omega:j≠s0.aL)];exact(C.old j (by omega)).trans (m j d);show s0.aL<u.aL;omega
 rcases hc with⟨rfl,Y⟩|⟨rfl,O⟩
 obtain⟨f1,f2,f3,f4⟩:=g1 none;exact⟨f1,f2,f3,.inl ⟨rfl,f4,Y⟩⟩;obtain⟨f1,f2,f3,f4⟩:=g1 (some .ret);exact⟨f1,f2,f3,.inr ⟨rfl,f4,O⟩⟩
theorem apG(d:No Q 339)(u:No Q 235)(H:Q.spec 225=some lD){r:List Pt}(hr:ay 2 aU rv r)(R:r.length<=2000)(M:r.all bk=true)(J:ay 2 aU tv t)(z:t.length<=2000)(hn:t.all bk=true){s0:St}(V:s0.get [] bx=some (.cells [rv]))(Z:s0.get [] b3=some (.cells [tv]))(Y:s0.get [] b4=some (.cells [ic 0]))(lx:bx<s0.aL)(l3:b3<s0.aL)(l4:b4<s0.aL)(e3:ac E 3= .ptr b3 0)(e4:ac E 4= .ptr b4 0)(I:ac E 20= .func (.func 339) [] [.ptr bx 0])(hE:E.all jY=true)(O:s0.gt<=s0.aL)(B: ∀x s2,iG [] 0 s0 s2->((x= .normal/\ ∀i,i<r.length-> ∀j,j<t.length->oK (fw r i) (fw t j)=false)\/(x= .ret/\ ∃i,i<r.length/\ ∃j,j<t.length/\oK (fw r i) (fw t j)=true))->K x ⟨E,71,lc⟩ s2):W Q 141 (.rfun (.tmp 20) [21,22] EW EY) ⟨E,71,lc⟩ s0 K:=by
 obtain⟨v,s',m,rfl,h⟩:=Bk d hr R (bx:=bx) (n:=s0.aL) (P:=fun k s=>iG [] 0 s0 s/\s.get [] s0.aL=some (qL E none)/\ ∀i,i<k-> ∀j,j<t.length->oK (fw r i) (fw t j)=false) (D:=fun s=>iG [] 0 s0 s/\s.get [] s0.aL=some (qL E (some .ret))/\ ∃i,i<r.length/\ ∃j,j<t.length/\oK (fw r i) (fw t j)=true) (fun k s h=>(h.1.old bx lx).trans V) (fun k s h=>h.1.mw) (fun k s B ⟨c,hl,y⟩=>by
  obtain⟨n1,n2⟩:=Bc M B;obtain⟨v,s',q1,q2,q3,q4,q5⟩:=apH d u H J z hn n1 n2 (i:=k) Z Y l3 l4 e3 e4 hE c hl;refine⟨v,s',q1,q2,q3,?_⟩;rcases q5 with⟨rfl,h1,h2⟩|⟨rfl,h1,h2⟩
  refine .inl ⟨rfl,q4,h1,fun i hi=>?_⟩
  grind
  exact .inr ⟨rfl,q4,h1,k,B,h2⟩) (s:=s0.new (qL E none)) ⟨⟨fun j C=>cz C,cq O,kU _,rfl⟩,cW,fun j C=>absurd C (Hb _)⟩
 have w:iG [] 0 s0 s'->iG [] 0 s0 (s'.put s0.aL none):=fun c=>⟨fun j C=>by rw[aX,bN.2 (by omega:j≠s0.aL)];exact c.old j C,dh _ _ _ c.mw,c.lt,c.ci⟩;rcases h with⟨c,U,y⟩|⟨c,U,F⟩
 exact oS (h:=339) (first:=[]) (captured:=[.ptr bx 0]) (v:=.tup []) (s1:=s') (by simp only[aA,I]) (by rw[Std.P,rJ,VL,hE];rfl) m U (B _ _ (w c) (.inl ⟨rfl,y⟩));exact oS (h:=339) (first:=[]) (captured:=[.ptr bx 0]) (v:=.tup []) (s1:=s') (by simp only[aA,I]) (by rw[Std.P,rJ,VL,hE];rfl) m U (B _ _ (w c) (.inr ⟨rfl,F⟩))
def Hr{r:List Pt}{f:bT->Bool}:(gz r).any f=true↔ ∃i,i<r.length/\f (fw r i)=true:=by
 rw[List.any_eq_true];constructor;rintro⟨x,j,h⟩;obtain⟨i,c,rfl⟩:=List.getElem_of_mem j;have d:i<r.length:=by rw[Dr] at c;exact c
 have:=Dq d;rw[gn c] at this;injection this with this
 exact⟨i,d,by rw[<-this];exact h⟩;rintro⟨i,c,h⟩;exact⟨_,eP (Dq c),h⟩
def Ia(n:Nat):bc 0 ((n:Nat):Int)=decide (0<n):=decide_eq_decide.2 (by omega)
def AG(s:St)(n:Nat)(o:Option aR):(s.put n o).get [] n=o:=by rw[aX,bS];rfl
def apL(u:Q.spec 236=some xg){c d:Nat×Nat×Nat}(y:rv.ge=true)(w:tv.ge=true)(q1:xg [rv,tv]=some (.agg (kH c)))(z:xg [tv,rv]=some (.agg (kH d)))(F:ac E 0=rv)(C:ac E 3= .ptr b3 0)(g3:s.get [] b3=some (.cells [tv]))(j:s.gt<=s.aL)(B: ∀e,ac e 4=ac E 4->ac e 9= .rd 9 1 0->ac e 10= .rd 10 1 0->K .normal ⟨e,71,(Loc.set [] 9 1 (kH c)).set 10 1 (kH d)⟩ s):W Q 141 (.draw VM lB) ⟨E,71,[]⟩ s K:=by
 have m:=kZ j;simp only[kH] at q1 z;refine iT j ?_;simp only[go_sem,lB,seval,VM,F,C,g3,y,w,aW,aY,sj,u,q1,z,m,bj,bg,aZ,bf,evc];refine B _ ?_ ?_ ?_
 all_goals simp only[abc,gw,dj,bQ,ah]
def apM(a0:No Q 339)(J:No Q 235)(a6:Q.spec 225=some lD)(z:Q.spec 229=some qe)(a5:Q.spec 236=some xg)(a8:No Q 141){r:List Pt}(O:ay 2 aU rv r)(m:ay 2 aU tv t)(a7:s.gt<=s.aL):
 ∃v s',aq Q 141 [rv,tv] s v s'/\v=cd (qa r t):=by
 have I:=O.ge;have F:=m.cs;have a2:=vH O;have a1:=vH m;have V:=Ky O;have p2:=Ky m;obtain⟨x,M⟩:=ct ((s.new (.cells [tv])).new (.cells [ic 0]));have H:(s.new (.cells [tv])).aL=s.aL+1:=rfl;have xn:x.aL=s.aL+2:=by rw[<-M];rfl
 have xm:x.gt<=x.aL:=by rw[<-M];exact cq (cq a7)
 have x0:x.get [] s.aL=some (.cells [tv]):=by rw[<-M,cz (by rw[H];omega)];exact cW
 have x1:x.get [] (s.aL+1)=some (.cells [ic 0]):=by rw[<-M];exact cW
 refine aq.ofNRZ ah7 ?_;refine WE.sound ?_;cases e1:kz r with
 |false=>
  have hs:qa r t=0:=by unfold qa;rw[e1];rfl
  rw[e1] at V;simp only[go_sem,seval,lB,VM,I,F,H,M,z,V,x0,x1,aW,aY,dn,dp,AG];exact⟨_,rfl,by rw[hs];rfl⟩
 |true=>
  rw[e1] at V;cases e2:kz t with
  |false=>
   have hs:qa r t=0:=by unfold qa;rw[e1,e2];rfl
   rw[e2] at p2;simp only[go_sem,seval,lB,VM,I,F,H,M,z,V,p2,x0,x1,aW,aY,sj,dn,dp,AG];exact⟨_,rfl,by rw[hs];rfl⟩
  |true=>
   rw[e2] at p2;obtain⟨⟨_,U⟩,R⟩:=Dk (P6 e1);obtain⟨⟨_,y⟩,hn⟩:=Dk (P6 e2);have C:=Bj J O x;obtain⟨u,hu⟩:=ct (x.new (.cells [rv]));have un:u.aL=s.aL+3:=by
    rw[<-hu];show x.aL+1=_;omega
   have um:u.gt<=u.aL:=by rw[<-hu];exact cq xm
   have uk:u.get [] x.aL=some (.cells [rv]):=by rw[<-hu];exact cW
   have uo: ∀j,j<x.aL->u.get [] j=x.get [] j:=fun j hj=>by rw[<-hu,cz hj]
   rw[hu] at C;simp only[go_sem,seval,lB,VM,I,F,H,M,z,V,p2,x0,aW,aY,sj];refine cG.of C (by decide) ?_;simp only[go_sem,seval,lB,VM];refine apG a0 J a6 O U R m y hn (bx:=x.aL) (b3:=s.aL) (b4:=s.aL+1) (s0:=u) uk ((uo _ (by omega)).trans x0) ((uo _ (by omega)).trans x1) (by omega) (by omega) (by omega) ?_ ?_ ?_ ?_ um ?_;simp only[sN,seval];simp only[sN,seval];simp only[sN,seval]
   ·repeat' (first|exact rfl|refine aC.all_set ?_ (by first|exact a2|exact a1|rfl))
   intro ex s2 hI hc;have g3:s2.get [] s.aL=some (.cells [tv]):=(hI.old _ (by omega)).trans ((uo _ (by omega)).trans x0);have g4:s2.get [] (s.aL+1)=some (.cells [ic 0]):=(hI.old _ (by omega)).trans ((uo _ (by omega)).trans x1);rcases hc with⟨rfl,a3⟩|⟨rfl,i,hi,j,hj,a4⟩
   have d:((gz r).any fun a=>(gz t).any fun b=>oK a b)=false:=by
    rw[Bool.eq_false_iff];intro h;obtain⟨i,hi,h⟩:=Hr.1 h;obtain⟨j,hj,h⟩:=Hr.1 h;rw[a3 i hi j hj] at h;cases h
   have q1:=XT O m U R y hn;have q2:=XT m O y hn U R;obtain⟨b1,h1⟩: ∃b,bc 0 ((kG (gz r) t 1:Nat):Int)=b:=⟨_,rfl⟩;obtain⟨b2,h2⟩: ∃b,bc 0 ((kG (gz r) t (-1):Nat):Int)=b:=⟨_,rfl⟩;obtain⟨b3,Z⟩: ∃b,bc 0 ((kG (gz t) r 1:Nat):Int)=b:=⟨_,rfl⟩;obtain⟨b4,Y⟩: ∃b,bc 0 ((kG (gz t) r (-1):Nat):Int)=b:=⟨_,rfl⟩;have c:qa r t=bif(b1&&b2)||(b3&&b4) then 0 else bif b1 then 2 else bif b3 then 3 else bif b2 then 1 else 4:=by
    unfold qa;rw[e1,e2,d,<-h1,<-h2,<-Z,<-Y,Ia,Ia,Ia,Ia];rfl
   have a9:=kZ hI.mw;have m0:dS (ic 0)=some 0:=rfl;have m2:dS (ic 2)=some 2:=rfl;simp only[go_sem,seval];refine apL a5 I F.1 q1 q2 (b3:=s.aL) ?_ ?_ g3 hI.mw ?_;simp only[sN,seval];simp only[sN,seval];intro e w h9 B;simp only[sN,seval] at w;clear a2 a1 V p2 C q1 q2 a3 d;simp only[kH,lN];cases b1 with
   |true=>
    cases b2 with
    |true=>
     simp only[go_sem,seval,lB,VM,g4,w,h9,B,aW,aY,AI,m0,m2,h1,h2,Z,Y,dn,dp,AG];exact⟨_,rfl,by rw[c];rfl⟩
    |false=>
     cases b3 with
     |true=>cases b4<;>simp only[go_sem,seval,lB,VM,g4,w,h9,B,aW,aY,AI,m0,m2,h1,h2,Z,Y,dn,dp,AG]<;>exact⟨_,rfl,by rw[c];rfl⟩
     |false=>
      simp only[go_sem,seval,lB,VM,g4,w,h9,B,aW,aY,AI,m0,m2,h1,h2,Z,Y,dn,dp,AG];exact⟨_,rfl,by rw[c];rfl⟩
   |false=>
    cases b3 with
    |true=>cases b4<;>simp only[go_sem,seval,lB,VM,g4,w,h9,B,aW,aY,AI,m0,m2,h1,h2,Z,Y,dn,dp,AG]<;>exact⟨_,rfl,by rw[c,dW];rfl⟩
    |false=>cases b2<;>simp only[go_sem,seval,lB,VM,g4,w,h9,B,aW,aY,AI,m0,m2,h1,h2,Z,Y,dn,dp,AG]<;>exact⟨_,rfl,by rw[c,dW,dW];rfl⟩
   have d:((gz r).any fun a=>(gz t).any fun b=>oK a b)=true:=Hr.2 ⟨i,hi,Hr.2 ⟨j,hj,a4⟩⟩;have hs:qa r t=0:=by unfold qa;rw[e1,e2,d];rfl
   simp only[go_sem,seval,lB,VM,g4,aW,aY];exact⟨_,rfl,by rw[hs];rfl⟩
def zt:Sp
 | [u,v]=>(rm u).bind fun r=>(rm v).bind fun t=>some (cd (qa r t))
 |_=>none
def RM:dX:=[(225,lD),(229,qe),(236,xg)]
def acd:dR RM:=.cons OS (.cons Kz (.cons amG .nil))
def apK:db ae 141 zt:=by
 intro d u h G B w xs j m;unfold zt at h;split at h;simp only[ak] at h;obtain⟨r,I,t,H,h⟩:=h;have h:=sI h;subst h;obtain⟨_,F,z⟩:=wC I;obtain⟨_,C,y⟩:=wC H;refine j9 acd (W:=[]) .nil (by simp only[eO,F,C,cw]) (fun J=>?_) G B w xs j m;obtain⟨v,s',c,rfl⟩:=apM (Q:=QW RM [] J) ⟨rfl,rfl⟩ ⟨rfl,rfl⟩ rfl rfl rfl ⟨rfl,rfl⟩ z y (s:=s0) (by decide);exact⟨_,_,c,1,rfl⟩;cases h
def Dj:Sp
 | [v]=>(rm v).bind fun r=>some (.bool (pz r))
 |_=>none
def apE{r:List Pt}(h:ay 2 aU v r):Dj [v]=some (.bool (pz r)):=by
 simp only[Dj,qx h,au]
def apF:db ae 326 Dj:=by
 intro c u h G y w xs d j;unfold Dj at h;split at h;simp only[ak] at h;obtain⟨r,B,h⟩:=h;have h:=sI h;subst h;obtain⟨_,z,m⟩:=wC B;refine j9 (T:=[]) .nil (W:=[]) .nil (by simp only[eO,z,cw]) (fun C=>?_) G y w xs d j;exact⟨_,_,ZM (Q:=QW [] [] C) ⟨rfl,rfl⟩ ⟨rfl,rfl⟩ ⟨rfl,rfl⟩ ⟨rfl,rfl⟩ ⟨rfl,rfl⟩ m s0,1,rfl⟩;cases h
noncomputable abbrev CO(E:ax)(x:Option Ex):aR:=.loop 329 E 31 [11,12] Fj Fk x
def pL(S:bT):Int:=(S.1.1+S.2.1)*(S.2.2-S.1.2)
def qY(l:List bT):Int:=l.foldl (fun n S=>n+pL S) 0
def ql(r:List Pt):Int:=bif pz r then qY (gz r) else 0
def aaG(l:List bT)(S:bT):qY (l++[S])=qY l+pL S:=by unfold qY;rw[List.foldl_append];rfl
def LJ(h1:bk S.1=true)(c:bk S.2=true): -70368744177664<=pL S/\pL S<=70368744177664:=by
 have a:=xh h1;have b:=xh c;exact ayX (by omega) (by omega)
theorem arT(R:bk S.1=true)(nb:bk S.2=true)(hi:i<=2000){s0:St}(l3:b3<s0.aL)(e3:ac E 3= .ptr b3 0)(B:mN b3 s0 s)(hl:s.get [] s0.aL=some (CO E none))(F:s.get [] b3=some (.cells [ic n]))(hn: -(i*70368744177664:Int)<=n/\n<=i*70368744177664):
 ∃v s',ji Q s0.aL [uM i,bX S] s.top v s'/\(s'.ci=s.ci/\s.aL<=s'.aL/\mN b3 s0 (s.rX s')/\v= .bool true/\s'.get [] s0.aL=some (CO E none)/\s'.get [] b3=some (.cells [ic (n+pL S)])):=by
 have a0:=B.lt;have H:=B.mw;have n1:=xh R;have n2:=xh nb;have ab:=LJ R nb;have w1:IntKind.i64.wrap (S.1.1+S.2.1)=S.1.1+S.2.1:=iC (by omega) (by omega);have w2:IntKind.i64.wrap (S.2.2-S.1.2)=S.2.2-S.1.2:=iC (by omega) (by omega);have w3:IntKind.i64.wrap ((S.1.1+S.2.1)*(S.2.2-S.1.2))=pL S:=FM (by omega) (by omega);have w4:IntKind.i64.wrap (n+pL S)=n+pL S:=iC (by omega) (by omega);refine ji.any (ca:=N4) (cb:=N5) (show s.top.get [] s0.aL=_ from hl) rfl rfl aj9 aka ?_;refine co ?_;obtain⟨w,m⟩:=ct (s.top.put s0.aL none);have wn:w.aL=s.aL:=by rw[<-m];rfl
 have wo: ∀j,j≠s0.aL->w.get [] j=s.get [] j:=fun j u=>by rw[<-m,aX,bN.2 u];rfl
 have wm:w.gt<=w.aL:=by rw[<-m];exact dh s.top _ _ (br _)
 obtain⟨z,d⟩:=ct ((w.new (.cells [ic 0,ic 0,ic 0,ic 0])).put w.aL (some (.cells (bX S).cells)));have U:z.aL=s.aL+1:=by rw[<-d,<-wn];rfl
 have V:z.ci=s.ci:=by rw[<-d,<-m];rfl
 have zm:z.gt<=z.aL:=by rw[<-d];exact dh _ _ _ (cq wm)
 have M:z.get [] w.aL=some (.cells (bX S).cells):=by rw[<-d,aX,bS];rfl
 have J: ∀j,j<s.aL->j≠s0.aL->z.get [] j=s.get [] j:=fun j u c=>by grind [aX,cz]
 have zo: ∀j,j<s0.aL->j≠b3->z.get [] j=s0.get [] j:=fun j u c=>(J j (by omega) (by omega)).trans (B.old j u c);have Y:=(J b3 (by omega) (by omega)).trans F;simp only[bX,gD] at d M;have I:(w.new (.cells [ic 0,ic 0,ic 0,ic 0])).get [] w.aL=some (.cells [ic 0,ic 0,ic 0,ic 0]):=cW;simp only[go_sem,seval,N4,bX,m,dn,I,dp,d,bj,bg,aZ,bf,evc];obtain⟨y,C⟩:=ct (z.put b3 (some (.cells [ic (n+pL S)])));have Z:y.aL=s.aL+1:=by rw[<-C];exact U
 have qn:(y.put s0.aL (some (CO E none))).aL=s.aL+1:=Z;have O:y.ci=s.ci:=by rw[<-C];exact V
 refine co ?_;simp only[go_sem,seval,N5,e3,Y,M,aW,aY,w1,w2,w3,w4,qy,dn,dp,C,jI,jL];refine⟨O,(by show s.aL<=y.aL;omega),⟨fun j u c=>?_,pW H (by show s.aL<=y.aL;omega),?_,O.trans B.ci⟩,?_,?_⟩
 grind [mY,aX]
 show s0.aL<(y.put s0.aL (some (CO E none))).aL;omega
 all_goals grind [aX]
theorem arU(w:No Q 339)(y:No Q 235)(d:Q.spec 326=some Dj)(a0:No Q 329){r:List Pt}(F:ay 2 aU rv r)(V:s.gt<=s.aL):
 ∃v s',aq Q 329 [rv] s v s'/\v=cd (ql r):=by
 have I:=F.ge;have U:=vH F;have J:=apE F;refine aq.ofNRZ akb (co ?_);cases e1:pz r with
 |false=>
  have R:ql r=0:=by unfold ql;rw[e1];rfl
  rw[e1] at J;simp only[go_sem,seval,I,d,J];exact⟨_,rfl,by rw[R];rfl⟩
 |true=>
  have R:ql r=qY (gz r):=by unfold ql;rw[e1];rfl
  rw[e1] at J;obtain⟨⟨_,H⟩,hn⟩:=Dk e1;obtain⟨x,M⟩:=ct ((s.new (.cells [ic 0])).put s.aL (some (.cells [ic 0])));have Y:(s.new (.cells [ic 0])).get [] s.aL=some (.cells [ic 0]):=cW;have xn:x.aL=s.aL+1:=by rw[<-M];rfl
  have xm:x.gt<=x.aL:=by rw[<-M];exact dh _ _ _ (cq V)
  have x0:x.get [] s.aL=some (.cells [ic 0]):=by rw[<-M,aX,bS];rfl
  have m:=Bj y F x;obtain⟨u,B⟩:=ct (x.new (.cells [rv]));have un:u.aL=s.aL+2:=by
   rw[<-B];show x.aL+1=_;omega
  have um:u.gt<=u.aL:=by rw[<-B];exact cq xm
  have uk:u.get [] x.aL=some (.cells [rv]):=by rw[<-B];exact cW
  have u0:u.get [] s.aL=some (.cells [ic 0]):=by rw[<-B,cz (by omega)];exact x0
  rw[B] at m;simp only[go_sem,seval,I,d,J,dn,Y,dp,M];refine cG.of m (by decide) ?_;simp only[go_sem,seval];have z: ∀(E:ax) (K:Ex->Fr->St->Prop),ac E 3= .ptr s.aL 0->ac E 10= .func (.func 339) [] [.ptr x.aL 0]->E.all jY=true->(∀c,c.get [] s.aL=some (.cells [ic (qY (gz r))])->K .normal ⟨E,31,[]⟩ c)->W Q 329 (.rfun (.tmp 10) [11,12] Fj Fk) ⟨E,31,[]⟩ u K:=by
   intro E K e3 Z hE hk;obtain⟨v,s',C,rfl,h⟩:=Bk w F H (bx:=x.aL) (n:=u.aL) (P:=fun i c=>mN s.aL u c/\c.get [] u.aL=some (CO E none)/\c.get [] s.aL=some (.cells [ic (qY ((gz r).take i))])/\(-(i*70368744177664:Int)<=qY ((gz r).take i)/\qY ((gz r).take i)<=i*70368744177664)) (D:=fun _=>False) (fun k s h=>(h.1.old x.aL (by omega) (by omega)).trans uk) (fun k s h=>h.1.mw) (fun i c hi ⟨hI,hl,O,hb⟩=>by
    obtain⟨na,nb⟩:=Bc hn hi;obtain⟨v,s',q1,q2,q3,q4,rfl,q5,q6⟩:=arT (Q:=Q) na nb (i:=i) (by omega) (by omega) e3 hI hl O hb;have ab:=LJ na nb;have e:(gz r).take (i+1)=(gz r).take i++[fw r i]:=by
     rw[List.take_add_one,Dq hi];rfl
    refine⟨_,s',q1,q2,q3,.inl ⟨rfl,q4,q5,?_,?_⟩⟩;rw[e,aaG];exact q6;rw[e,aaG];omega) (s:=u.new (CO E none)) ⟨⟨fun j hj _=>cz hj,cq um,kU _,rfl⟩,cW,(cz (by omega)).trans u0,by simp[qY]⟩
   rcases h with⟨hI,hg,O,_⟩|h
   refine oS (h:=339) (first:=[]) (captured:=[.ptr x.aL 0]) (v:=.tup []) (s1:=s') (by simp only[aA,Z]) (by rw[Std.P,rJ,akc,hE];rfl) C hg (hk _ ?_)
   grind [aX,Dr]
   exact h.elim
  refine z _ _ ?_ ?_ ?_ ?_;simp only[sN,seval];simp only[sN,seval]
  ·repeat' (first|exact rfl|refine aC.all_set ?_ (by first|exact U|rfl))
  intro c O;simp only[go_sem,seval,aW,O,aY];exact⟨_,rfl,by rw[R];rfl⟩
def Bo:Sp
 | [v]=>(rm v).bind fun r=>some (cd (ql r))
 |_=>none
def RN:dX:=[(326,Dj)]
def ace:dR RN:=.cons apF .nil
def arR:db ae 329 Bo:=by
 intro d u h G z w xs j m;unfold Bo at h;split at h;simp only[ak] at h;obtain⟨r,C,h⟩:=h;have h:=sI h;subst h;obtain⟨_,B,y⟩:=wC C;refine j9 ace (W:=[]) .nil (by simp only[eO,B,cw]) (fun F=>?_) G z w xs j m;obtain⟨v,s',c,rfl⟩:=arU (Q:=QW RN [] F) ⟨rfl,rfl⟩ ⟨rfl,rfl⟩ rfl ⟨rfl,rfl⟩ y (s:=s0) (by decide);exact⟨_,_,c,1,rfl⟩;cases h
def Hj(s:St)(m:Nat)(L:List (ag×aa)):Prop:=s.get [] m=some (.fix (.map (dw aa.str 0 L) L.length))
def amk{t:TypeId}{e:TypeId}{z:aa}(j: ∀k:ag,lP ae t (.str k)=some (9,e))(d:eV ae e=some z){m:Nat}{l:List (ag×aa)}(c:Hj s m l)(k:ag):ou ae [] t (.map m) (.str k) false s=some ((cI k l).getD z):=by
 have c:s.get [] m=_:=c;simp only[ou,j,au,d,AZ,c,Cm jA l k 0 0];cases cI k l<;>rfl
def mB(L:List (ag×aa))(k:ag):List Pt:=((cI k L).bind rm).getD []
def gA(L:List (ag×aa))(k:ag):Int:=max (ql (mB L k)) (-ql (mB L k))
def mh(L:List (ag×aa)):Prop:= ∀x∈L, ∃r,ay 2 aU x.2 r
def CM{α:Type}[DecidableEq α]{k:α}{v:aa}: ∀ {L:List (α×aa)},cI k L=some v->(k,v)∈L
 | [],h=>by cases h
 |(a,u)::l,h=>by
  simp only[cI] at h;by_cases e:k=a;rw[iP e] at h;injection h with h;subst h;subst e;exact iL
  rw[iN e] at h;exact iE _ (CM h)
def PU{L:List (ag×aa)}(h:mh L)(k:ag):ay 2 aU ((cI k L).getD .oZ) (mB L k):=by
 unfold mB;cases e:cI k L with
 |none=>exact .inl ⟨rfl,rfl⟩
 |some v=>
  obtain⟨r,c⟩:=h _ (CM e);simp only[Option.getD_some,au,qx c];exact c
def asm(k:IntKind)(n:Int):Bq .neg (.int k n)=some (.int k (k.wrap (0-n))):=rfl
def aaF: ∀(l:List bT) (n:Int),(∀S∈l, -70368744177664<=pL S/\pL S<=70368744177664)->n-l.length*70368744177664<=l.foldl (fun n S=>n+pL S) n/\l.foldl (fun n S=>n+pL S) n<=n+l.length*70368744177664
 | [],n,_=>by simp
 |S::l,n,h=>by
  have j:=h S iL;have d:=aaF l (n+pL S) fun T c=>h T (iE _ c);simp only[List.foldl_cons,bH];omega
def arS(r:List Pt): -140737488355328000<=ql r/\ql r<=140737488355328000:=by
 unfold ql;cases e:pz r with
 |false=>
  show(-140737488355328000:Int)<=0/\(0:Int)<=140737488355328000;decide
 |true=>
  obtain⟨⟨_,u⟩,j⟩:=Dk e;have h:=aaF (gz r) 0 fun S m=>by
   obtain⟨i,d⟩:=we m;have c:i<r.length:=by
    have:=(nY.1 d).1;rwa [Dr] at this
   rw[Dq c] at d;injection d with d;subst d
   obtain⟨a,b⟩:=Bc j c;exact LJ a b
  rw[Dr] at h;show _<=qY _/\qY _<=_;unfold qY;omega
def o6(L:List (ag×aa))(a b:ag):Int:=mz [jx (gA L a) (gA L b),gu a b]
def aam(u:No Q 233)(d:Q.spec 329=some Bo){p a:Nat}{L:List (ag×aa)}(F:mh L)(B:s.get [] p=some (.fix (.cells [.map a])))(C:Hj s a L)(k:ag):aq Q 233 [.ptr p 0,.str k] s (cd (gA L k)) s:=by
 have j:=PU F k;have c:=amk CU GX C k;obtain⟨v,z⟩:=ct ((cI k L).getD .oZ);rw[z] at j c;have m:=j.ge;have w:Bo [v]=some (cd (ql (mB L k))):=by simp only[Bo,qx j,au]
 have H:=arS (mB L k);have y:IntKind.i64.wrap (0-ql (mB L k))= -ql (mB L k):=by rw[iC (by omega) (by omega)];omega
 refine aq.ofNZ ajd (co ?_);simp only[go_sem,seval,y8,aW,B,OM,c,m,d,w,cd,asm,y,ru,gA]
def aed(B:No Q 231)(c:No Q 233)(d:Q.spec 329=some Bo)(u:Q.spec 232=some o5)(w:Q.spec 228=some pO)(z:Q.spec 108=some vA)(j:s.gt<=s.aL){p a:Nat}{L:List (ag×aa)}(I:mh L)(F:s.get [] bx=some (.fix (.cells [.ptr p 0])))(C:s.get [] p=some (.fix (.cells [.map a])))(H:Hj s a L)(x y:ag):aq Q 231 [.str x,.str y,.ptr bx 0] s (cd (o6 L x y)) s:=by
 have c1:=aam c d (s:=s.top) I C H x;have c2:=aam c d (s:=s.top) I C H y;have O:o5 [ic (gA L x),ic (gA L y)]=some (ic (jx (gA L x) (gA L y))):=rfl;have M:pO [.str x,.str y]=some (ic (gu x y)):=rfl;have J:vA [.list 1 [ic (jx (gA L x) (gA L y)),ic (gu x y)] .uP]=some (ic (o6 L x y)):=rfl;have m:=kZ j;refine aq.ofNZ aja ?_;refine WE.sound ?_;simp only[go_sem,seval];refine iT j ?_;simp only[go_sem,IR,seval,aW,F,OM];refine kY.quiet c1 (by decide) (by simp[fo,pD]) ?_;simp only[go_sem,IR,seval,aW,F,OM];refine kY.quiet c2 (by decide) (by simp[fo,pD]) ?_;simp only[go_sem,IR,seval,cd,u,O,w,M,z,J,ng,m,bj,bg,aZ,bf,evc]
end Go.Proofs.YtnnppcoplinajaaGreat
namespace Go.Proofs.YtnnppcoplinajaaGreat
open Go.Ag
open Go.Sort (putRow grow Holds SWO)
noncomputable def AH(bx p a:Nat)(es:List dK)(c:Nat):aC aR:=((aC.nil.set bx (some (.fix (.cells [.ptr p 0])))).set p (some (.fix (.cells [.map a])))).set a (some (.fix (.map es c)))
def AF(G:Gh)(bx p a:Nat):Gh where
 at_ n:=if n=bx\/n=p\/n=a then G.at_ n else none
 ro:=G.plain.ro
 dim:=G.dim
def agB(G:Gh)(bx p a:Nat):G.plain.le (AF G bx p a):=⟨fun _ _ e=>(by cases e),fun _ _ _ e=>e,fun _ _ e=>e⟩
variable{x:Addr}{G:Gh}{a bx n p:Nat}
theorem H6(h:(AF G bx p a).at_ n=some x):(n=bx\/n=p\/n=a)/\G.at_ n=some x:=by
 have h:(if n=bx\/n=p\/n=a then G.at_ n else none)=some x:=h
 grind
def Cr(e:n=bx\/n=p\/n=a)(h:G.at_ n=some x):(AF G bx p a).at_ n=some x:=by
 show(if n=bx\/n=p\/n=a then G.at_ n else none)=some x;rw[iP e];exact h
def QK(es:List dK):List dK:=es.map fun e=>⟨e.key,de e.val,e.born⟩
def TU{G G2:Gh}(c:G.plain.le G2): ∀ {es:List dK} {ms:List MapEntry},agG G es ms->(∀e∈es,bL e.key=true/\d8 e.val=true)->agG G2 (QK es) ms
 |_,_,.nil,_=>.nil
 |_,_,.cons (e:=e) x l,h=>by
  obtain⟨m,j⟩:=h e iL;exact .cons ⟨(x.key.onto (Ka G) m).mono c,(VR.top (Ka G) x.val j).mono c,x.born⟩ (TU c l fun e d=>h e (iE _ d))
theorem Ct(bx p a:Nat)(es:List dK)(c n:Nat):(AH bx p a es c).get n=if n=a then some (.fix (.map es c)) else if n=p then some (.fix (.cells [.map a])) else if n=bx then some (.fix (.cells [.ptr p 0])) else none:=by
 simp only[AH,aC.get_set];rfl
variable{α:Type}
theorem YA{x y:α}{i:Nat}(h:[x][i]? =some y):i=0/\y=x:=by
 grind
variable{c1:List aa}{h:aC aR}
def wr3{w:World}(wr:WR G h w){c2:List aa}{es:List dK}{c:Nat}(Z:h.get bx=some (.cells (.ptr p 0::c1)))(O:h.get p=some (.cells (.map a::c2)))(M:h.get a=some (.map es c))(he: ∀e∈es,bL e.key=true/\d8 e.val=true):WR (AF G bx p a) (AH bx p a (QK es) c) w:=by
 have a1:a≠p:=fun e=>by rw[e,O] at M;cases M
 have a2:a≠bx:=fun e=>by rw[e,Z] at M;cases M
 have a0:p≠bx:=fun e=>by rw[e,Z] at O;cases O
 have R:=agB G bx p a;have old: ∀n,n=bx\/n=p\/n=a-> ∃o,h.get n=some o/\o≠ .tok:=by
  rintro n (rfl|rfl|rfl);exact⟨_,Z,fun e=>by cases e⟩;exact⟨_,O,fun e=>by cases e⟩;exact⟨_,M,fun e=>by cases e⟩
 refine⟨fun n o d=>?_,fun n m x y hn hm j hy he=>?_,fun b o v hv=>?_,fun n ob x i v hn j z=>?_,wr.dim,fun n x j=>wr.below n x (H6 j).2⟩;rw[Ct] at d;by_cases J:n=a;rw[iP J] at d;injection d with d;subst d;subst J
 obtain⟨Y,I,H,ES,F,U⟩:=wr.obj n _ M;exact⟨Y,Cr (.inr (.inr rfl)) I,H,ES,F,TU R U he⟩;rw[iN J] at d;by_cases V:n=p;rw[iP V] at d;injection d with d;subst d;subst V
 obtain⟨Y,I,H,C,e,F,U,h5⟩:=wr.obj n _ O;refine⟨Y,Cr (.inr (.inl rfl)) I,H,C,e,F,U,fun i v z=>?_⟩;obtain⟨rfl,rfl⟩:=YA z;obtain⟨q1,x,q2,q3⟩:=h5 0 (.map a) rfl;refine⟨q1,x,q2,?_⟩;cases q3 with
 |map B=>exact .map (Cr (.inr (.inr rfl)) B)
 rw[iN V] at d;by_cases e3:n=bx;rw[iP e3] at d;injection d with d;subst d;subst e3
 obtain⟨Y,I,H,C,e,F,U,h5⟩:=wr.obj n _ Z;refine⟨Y,Cr (.inl rfl) I,H,C,e,F,U,fun i v z=>?_⟩;obtain⟨rfl,rfl⟩:=YA z;obtain⟨q1,x,q2,q3⟩:=h5 0 (.ptr p 0) rfl;refine⟨q1,x,q2,?_⟩;cases q3 with
 |ptr B=>exact .ptr (Cr (.inr (.inl rfl)) B)
 rw[iN e3] at d;cases d;obtain⟨J,j⟩:=H6 j;obtain⟨V,hy⟩:=H6 hy;obtain⟨o1,g1,_⟩:=old n J;obtain⟨o2,g2,_⟩:=old m V;exact wr.sep n m x y (by rw[g1];simp) (by rw[g2];simp) j hy he;obtain⟨I,x,H,F⟩:=wr.plain.ro b o v hv;exact⟨I,x,H,F.mono R⟩;obtain⟨J,j⟩:=H6 j;obtain⟨o1,g1,g2⟩:=old n J;have z:((G.ro x.block i).bind fun v=>if bL v=true then some v else none)=some v:=z;simp only[ak] at z;obtain⟨u,hu,_⟩:=z;exact absurd (wr.apart n o1 x i u g1 j hu).1 g2
def TX: ∀(L:List (ag×aa)) (n:Nat),QK (dw aa.str n L)=dw aa.str n (L.map fun x=>(x.1,de x.2))
 | [],_=>rfl
 |(k,v)::L,n=>by
  simp only[dw,fy];rw[<-TX L (n+1)];rfl
def Xy(k:ag): ∀L:List (ag×aa),cI k (L.map fun x=>(x.1,de x.2))=(cI k L).map de
 | []=>rfl
 |(a,v)::L=>by
  simp only[fy,cI];by_cases e:k=a;rw[iP e,iP e];rfl;rw[iN e,iN e];exact Xy k L
def ZT{L:List (ag×aa)}(d:mh L)(k:ag):mB (L.map fun x=>(x.1,de x.2)) k=mB L k:=by
 unfold mB;rw[Xy];cases e:cI k L with
 |none=>rfl
 |some v=>
  obtain⟨r,c⟩:=d _ (CM e);have j:=(pU Gb c).2;simp only[kn,au,qx c,qx j]
def apQ{L:List (ag×aa)}(m:mh L):mh (L.map fun x=>(x.1,de x.2)):=fun x d=>by
 obtain⟨y,c,rfl⟩:=dy.1 d;obtain⟨r,j⟩:=m y c;exact⟨r,(pU Gb j).2⟩
def aeU{L:List (ag×aa)}(j:mh L): ∀e∈dw aa.str n L,bL e.key=true/\d8 e.val=true:=fun e d=>by
 obtain⟨x,w,u,m⟩:=MA L n e d;obtain⟨r,c⟩:=j x (eP w);rw[u,m];exact⟨rfl,(pU Gb c).1⟩
def Hm:dX:=[(329,Bo),(232,o5),(228,pO),(108,vA)]
def abT:dR Hm:=.cons arR (.cons HH (.cons Mi (.cons Y1 .nil)))
theorem aec{W:World}(wr:WR G h W){c2:List aa}{L:List (ag×aa)}(hL:mh L)(hb:h.get bx=some (.cells (.ptr p 0::c1)))(Z:h.get p=some (.cells (.map a::c2)))(U:h.get a=some (.map (dw aa.str 0 L) L.length)){M:Value}(hx:VR G (.ptr bx 0) M)(x y:ag):
 Calls ae 231 (#[.string ⟨⟨x⟩⟩,.string ⟨⟨y⟩⟩]++ #[M]) W fun e w=>e= .returned (.int .i64 (o6 L x y))/\ ∃q a1,w=grow (W.drewN q) a1:=by
 have F:=wr3 wr hb Z U (aeU hL);rw[TX] at F;obtain⟨L',B⟩: ∃L',(L.map fun x=>(x.1,de x.2))=L':=⟨_,rfl⟩;have a6:L.length=L'.length:=by rw[<-B,ce]
 have a5:mh L':=by rw[<-B];exact apQ hL
 have a8:o6 L x y=o6 L' x y:=by
  unfold o6 gA;rw[<-B,ZT hL,ZT hL]
 rw[B,a6] at F;rw[a8];obtain⟨N,hN⟩:=ct (bx+p+a+1);obtain⟨j,z⟩: ∃j:St,(⟨AH bx p a (dw aa.str 0 L') L'.length,N,N,0⟩:St)=j:=⟨_,rfl⟩;have a3:a≠p:=fun e=>by rw[e,Z] at U;cases U
 have a4:a≠bx:=fun e=>by rw[e,hb] at U;cases U
 have a2:p≠bx:=fun e=>by rw[e,hb] at Z;cases Z
 have sg: ∀n,j.get [] n=(AH bx p a (dw aa.str 0 L') L'.length).get n:=fun n=>by rw[<-z];rfl
 have gb:j.get [] bx=some (.fix (.cells [.ptr p 0])):=by rw[sg,Ct,iN (Ne.symm a4),iN (Ne.symm a2),iP rfl]
 have gp:j.get [] p=some (.fix (.cells [.map a])):=by rw[sg,Ct,iN (Ne.symm a3),iP rfl]
 have ga:Hj j a L':=by
  show j.get [] a=_;rw[sg,Ct,iP rfl]
 have R:=aed (Q:=QW Hm [] fun _=>0) ⟨rfl,rfl⟩ ⟨rfl,rfl⟩ rfl rfl rfl rfl (s:=j) (by rw[<-z];exact br _) a5 gb gp ga x y;obtain⟨n,hn⟩:=R;have a7:j.ci=0:=by rw[<-z]
 have C: ∀ch,(cy ((QW Hm [] fun _=>0).at ch) n).call 231 [.str x,.str y,.ptr bx 0] [] j=some (cd (o6 L' x y),j):=fun ch=>
  (tL (QW Hm [] fun _=>0) n).call 231 _ [] (fun _=>0) j _ j hn ch fun i hi=>by rw[a7] at hi;omega
 have hv:ck (AF G bx p a) [.str x,.str y,.ptr bx 0] [.string ⟨⟨x⟩⟩,.string ⟨⟨y⟩⟩,M]:=by
  refine .cons (.str x) (.cons (.str y) (.cons ?_ .nil));cases hx with
  |ptr a9=>exact .ptr (Cr (.inl rfl) a9)
 have a0:mg [] (fun m=>N<=m) (AF G bx p a) j j W:=by
  refine⟨fun m hm=>?_,.refl _ _,by rw[<-z];exact F,fun m _ hA=>?_⟩
  grind [Ct]
  have hA:N<=m:=hA;show(if m=bx\/m=p\/m=a then G.at_ m else none)=none;rw[iN (by omega)]
 have hc:=(Sd (U2 abT (W:=[]) .nil) n).1 231 [.str x,.str y,.ptr bx 0] [] j j (AF G bx p a) W [.string ⟨⟨x⟩⟩,.string ⟨⟨y⟩⟩,M] (fun _=>0) (fun m=>N<=m) a0 hv (fun _=>(by decide:0<1000000)) (fun J _ _=>⟨_,j,C J,fun m V h2=>by omega⟩);rcases hc with⟨y',w,V,_⟩|⟨_,h2⟩
 have eg:=Go.Proofs.enters_of Tryz.func231 (by kernel_rfl) rfl ⟨[.string ⟨⟨x⟩⟩,.string ⟨⟨y⟩⟩,M]⟩ W;have V:(callFunc 231 ⟨[.string ⟨⟨x⟩⟩,.string ⟨⟨y⟩⟩,M]⟩).run ae W=_:=V;rw[eg] at V;cases V;refine Calls.mono h2 ?_;rintro e w ⟨v,rfl,J,u,s',b0,G',c⟩;have I:=c.eval;rw[C J] at I;simp only[aJ,Prod.mk.injEq] at I;obtain⟨rfl,rfl⟩:=I;have O:=c.val;cases O;refine⟨rfl,w.drawn-W.drawn,w.heap.extract W.heap.size w.heap.size,?_⟩;have Y:=c.ext.quiet;have b1:=c.ext.size;have H:w.heap=W.heap++w.heap.extract W.heap.size w.heap.size:=by
  apply Array.ext_getElem?;intro i;by_cases hi:i<W.heap.size;rw[Array.getElem?_append_left hi];refine c.ext.keepW i hi ?_;rintro⟨n,ad,o,d,q2,q3,_⟩;have d:j.heap.get n=some o:=d;rw[<-z] at d;have d:(AH _ _ _ _ _).get n=some o:=d;rw[Ct] at d;by_cases e1:n=a;rw[iP e1] at d;injection d with d;subst d;cases q2
  rw[iN e1] at d;by_cases e2:n=p;rw[iP e2] at d;injection d with d;subst d;cases q2
  rw[iN e2] at d;by_cases e3:n=bx;rw[iP e3] at d;injection d with d;subst d;cases q2
  rw[iN e3] at d;cases d
  grind
 have hd:=Y.2.2.2.2.2;refine abv H Y.2.2.2.2.1 ?_ Y.1 Y.2.1;show w.drawn=W.drawn+(w.drawn-W.drawn);omega
theorem HJ{L:List (ag×aa)}{a b:ag}:o6 L a b<0↔(gA L a<gA L b\/(gA L a=gA L b/\dz a b<0)):=by
 grind [o6,Pq,HI,jx,bc,an]
theorem aro(L:List (ag×aa)):SWO (ltOf (o6 L)) where
 irrefl x:=by
  simp only[ltOf,decide_eq_false_iff_not,HJ,En];omega
 trans x y z h1 h2:=by
  grind [ltOf,HJ,Eo]
 ntrans x y z h1 h2:=by
  grind [ltOf,HJ,uU,B7,Eo]
theorem arM(L:List (ag×aa))(x y:ag)(h1:ltOf (o6 L) x y=false)(c:ltOf (o6 L) y x=false):x=y:=by
 grind [ltOf,HJ,B7,uU]
def vO(L:List (ag×aa))(l:List ag):List ag:=l.mergeSort fun x y=> !(ltOf (o6 L)) y x
def Qc(L:List (ag×aa))(l:List ag):(vO L l).Perm l:=List.mergeSort_perm _ _
def Gm{α:Type}(x:Option α)(k:α->Rd):Rd:=match x with|some a=>k a|none=>.ret none
def PK:aR->Option Nat
 | .cells (.ptr p o::_)=>bif aQ o 0 then some p else none
 |_=>none
def OP:aR->Option Nat
 | .cells (.map a::_)=>some a
 |_=>none
noncomputable def Ey(o:aR):Option (List (ag×aa)):=by
 classical exact if h: ∃L:List (ag×aa),o= .map (dw aa.str 0 L) L.length/\mh L then some h.choose else none
theorem aeR{o:aR}{L:List (ag×aa)}(h:Ey o=some L):o= .map (dw aa.str 0 L) L.length/\mh L:=by
 unfold Ey at h;split at h
 all_goals grind
theorem TT: ∀ {L M:List (ag×aa)} {n:Nat},dw aa.str n L=dw aa.str n M->L=M
 | [],[],_,_=>rfl
 | [],_::_,_,h=>by cases h
 |_::_,[],_,h=>by cases h
 |(a,u)::L,(b,v)::M,n,h=>by
  simp only[dw,List.cons.injEq,dK.mk.injEq,aa.str.injEq] at h;obtain⟨⟨rfl,rfl,_⟩,h⟩:=h;rw[TT h]
theorem aeQ{L:List (ag×aa)}(c:mh L):Ey (.map (dw aa.str 0 L) L.length)=some L:=by
 have d: ∃M:List (ag×aa),(aR.map (dw aa.str 0 L) L.length)= .map (dw aa.str 0 M) M.length/\mh M:=⟨L,rfl,c⟩
 grind [Ey,TT]
noncomputable def GI(bx len:Nat)(cs:List aa):Rd:=.ask bx fun o=>Gm (PK o) fun p=>.ask p fun o=>Gm (OP o) fun a=>.ask a fun o=>Gm (Ey o) fun L=>
 t6 (bif aQ cs.length len&&bw len 1000000 then(wD cs).bind fun l=>some ((vO L l).map aG) else none)
noncomputable def Dv:List aa->Option pH
 | [.arr k m 0 len _,.func (.func g) [] [.ptr bx 0]]=>bif aQ k 1&&aQ g 231 then some (some (m,GI bx len)) else none
 | [.oZ,.func (.func g) [] [.ptr _ 0]]=>bif aQ g 231 then some none else none
 |_=>none
variable{g:Nat->Option aR}
def PM{x:Option α}{k:α->Rd}{v:aa}(h:gm g (Gm x k)=some v): ∃a,x=some a/\gm g (k a)=some v:=by
 cases x with
 |none=>cases h
 |some a=>exact⟨a,rfl,h⟩
theorem aq2{len:Nat}{cs cs':List aa}(h:gm g (GI bx len cs)=some (.agg cs')): ∃(p a:Nat) (c1 c2:List aa) (L:List (ag×aa)) (l:List ag),g bx=some (.cells (.ptr p 0::c1))/\g p=some (.cells (.map a::c2))/\g a=some (.map (dw aa.str 0 L) L.length)/\mh L/\cs=l.map aG/\l.length=len/\len<=1000000/\cs'=(vO L l).map aG:=by
 unfold GI at h;simp only[gm,ak] at h;obtain⟨H,R,h⟩:=h;obtain⟨p,c,h⟩:=PM h;simp only[gm,ak] at h;obtain⟨F,O,h⟩:=h;obtain⟨a,w,h⟩:=PM h;simp only[gm,ak] at h;obtain⟨C,M,h⟩:=h;obtain⟨L,y,z⟩:=PM h;obtain⟨rfl,I⟩:=aeR y;have h:=Gl z;obtain⟨d,h⟩:=bh h;simp only[bu] at d;simp only[ak,aJ] at h;obtain⟨l,B,J⟩:=h;have u:=LO B;have j:=jP d.1;have m:=fW d.2;unfold PK at c;split at c;obtain⟨e,c⟩:=bh c;have e:=jP e;injection c with c;subst c;subst e
 unfold OP at w
 grind
 cases c
variable{l:List ag}
theorem arj(h:l.map aG= .ptr p 0::c1):False:=by
 cases l with
 |nil=>cases h
 |cons x l=>injection h with h _;cases h
theorem ark(h:l.map aG= .map a::c1):False:=by
 cases l with
 |nil=>cases h
 |cons x l=>injection h with h _;cases h
theorem aqU:uN 230 Dv:=by
 intro c8 G h w xs wr hx;refine⟨fun c=>?_,fun n gf cs d4 c hl hg=>?_⟩
 ·unfold Dv at c
  split at c
  grind
  ·cases hx with
   |cons p q=>
   cases q with
   |cons q r=>
   cases r;cases p;refine .inr ⟨Go.Proofs.enters_of Tryz.func230 (by kernel_rfl) rfl _ _,(AnyF.slices_SortFunc_none (P:=ae) (ρ:=Tryz.sortF230_ren) {Tryz.sortF230 with } none 0 _ w).mono ?_⟩;rintro e Y ⟨rfl,rfl⟩;exact⟨_,rfl,G,wr,.refl,.tup .nil⟩
  cases c
 ·unfold Dv at c
  split at c
  ·rename_i k m len c6 g bx
   obtain⟨hb,c⟩:=bh c;simp only[bu] at hb;have e1:=jP hb.1;have e2:=jP hb.2;subst e1;subst e2;injection c with c;injection c with c;injection c with b1 b0
   subst b1;subst b0;obtain⟨p,a,c1,c2,L,l,gb,gp,ga,hL,rfl,rfl,c9,rfl⟩:=aq2 hg;cases hx with
   |cons x1 x2=>
   cases x2 with
   |cons x2 x3=>
   cases x3;cases x2 with
   |func u1 u2=>
   cases u1;cases u2 with
   |cons b2 u3=>
   cases u3;rename_i px;obtain⟨ad,b,a2,rfl,R,u,c7,c5,d,B,hd⟩:=LK x1;obtain⟨b',H,_,C,e,hC,O,c3⟩:=wr.obj m _ hl;rw[R] at H;injection H with H;subst H
   rw[O] at B;injection B with B
   have a4:bx≠m:=fun e=>by grind [arj]
   have a3:p≠m:=fun e=>by grind [ark]
   have a5:a≠m:=fun e=>by rw[e,hl] at ga;cases ga
   have d1: ∀i (V:i<l.length),C[b.off+i]? =some (encStr l[i]):=fun i V=>by
    obtain⟨_,x,a7,a6⟩:=c3 i (aG l[i]) (by grind);cases a6;exact a7
   have z: ∀n I (F:Array ag),F.size=l.length-> ∃U,WR U (h.set m (some (.cells (F.toList.map aG)))) (grow (putRow encStr (Sort.ahead w n) b.block b.off F) I)/\cZ G h w U (h.set m (some (.cells (F.toList.map aG)))) (grow (putRow encStr (Sort.ahead w n) b.block b.off F) I) 0 0/\VR U (.tup []) (.tuple #[]):=fun n I F a0=>by
    refine Kn wr hl R encStr F n I (fun C' e' d2=>?_) (fun i v V=>?_)
    grind
    rw[jf,Option.map_eq_some_iff] at V;obtain⟨s,c,rfl⟩:=V;rw[Array.getElem?_toList] at c;obtain⟨V,d0⟩:=Array.getElem?_eq_some_iff.1 c;refine⟨V,rfl,?_⟩;have:F[i]! =s:=by rw[getElem!_def,c]
    rw[this];exact .str s
   have a9:(vO L l).length=l.length:=(Qc L l).length_eq;rcases c5 with h0|⟨M,J⟩
   have b8:l=[]:=uv h0;subst b8;refine .inr ⟨Go.Proofs.enters_of Tryz.func230 (by kernel_rfl) rfl _ _,(AnyF.slices_SortFunc_none (P:=ae) (ρ:=Tryz.sortF230_ren) {Tryz.sortF230 with } (some ad) a2 _ w).mono ?_⟩;rintro e' Y ⟨rfl,rfl⟩;obtain⟨U,g1,g2,g3⟩:=z 0 #[] #[] rfl;have hw:grow (putRow encStr (Sort.ahead Y 0) b.block b.off #[]) #[]=Y:=by
    rw[Go.Sort.grow_empty,Go.Sort.ahead_zero];exact Go.Sort.putRow_self encStr Y b.block b.off _ (fun j hj=>by simp at hj)
   grind
   obtain⟨ab,ao,d5⟩:=ad;simp only at M J u;subst M;subst J;subst u;have hH:Holds encStr w b.block b.off l.toArray:=fun j hj=>by
    grind [World.frozen?,o0]
   have c4:=wr.below m b R;have a1:CmpLays1 ae 231 #[px] encStr (o6 L) b.block b.off l.toArray.size w:=fun n I F a0 x y=>by
    obtain⟨U,g1,g2,_⟩:=z n I F (by simpa using a0);exact aec g1 hL (by rw[aC.get_set,iN a4];exact gb) (by rw[aC.get_set,iN a3];exact gp) (by rw[aC.get_set,iN a5];exact ga) (b2.mono g2.le) x y
   have Z:=Any.slices_SortFunc_total Tryz.sortF230 encStr (fun _=>rfl) (o6 L) (aro L) 231 #[px] b.block b.off a2 l.toArray w (Go.Proofs.enters_of Tryz.func231 (by kernel_rfl) rfl) a1 hH c4 (by simp;omega) (arM L);have a8:l.toArray.size=l.length:=by simp
   rw[a8] at Z;refine .inr ⟨Go.Proofs.enters_of Tryz.func230 (by kernel_rfl) rfl _ _,Z.mono ?_⟩;rintro e' Y ⟨rfl,n,I,rfl⟩;obtain⟨U,g1,g2,g3⟩:=z n I (vO L l).toArray (by simpa using a9);exact⟨_,rfl,U,g1,g2,g3⟩
  all_goals grind
end Go.Proofs.YtnnppcoplinajaaGreat
namespace Go.Proofs.YtnnppcoplinajaaGreat
open Go.Ag
variable{Q:aH}[Std Q]
def kx(l:List Obj):List (ag×aa):=l.map fun o=>(o.id,o.val)
theorem AX(k:ag): ∀l:List Obj,cI k (kx l)=(dP k l).map Obj.val
 | []=>rfl
 |o::l=>by
  have c:=AX k l
  grind [kx,cI,dP]
theorem C4{k:ag}: ∀ {l:List Obj},k ∉ l.map Obj.id->dP k l=none
 | [],_=>rfl
 |o::l,h=>by
  have d:(k==o.id)=false:=by
   simp only[fy,fc,not_or] at h;simpa using h.1
  have c:=C4 (k:=k) (l:=l) fun j=>h (by grind);simp only[dP,d,cF,c]
variable{K:Ex->Fr->St->Prop}{l:List Obj}{b p:Nat}{bv ov:aa}
def ani(ho:ay 6 Obj.val ov l)(hl:l.length<=1000000)(z:(l.map Obj.id).Nodup){av:aa}{s0:St}(hp:s0.get [] p=some (.cells [av,.map b,bv]))(R:p≠b)(hx: ∀e lc s,ac e 3= .ptr p 0->ac e 1= .rd 1 1 0->lc.gen 1=1->lc.get 1 1=some [ov]->lc.gen 7=0->eL b s0 s->bR aa.str s b (kx l)->K (.exit 0) ⟨e,97,lc⟩ s):
 ∀(d c:List Obj) (e:ax) (lc:Ag.Loc) (s:St),l=c++d->eL b s0 s->bR aa.str s b (kx c)->
  ac e 3= .ptr p 0->ac e 1= .rd 1 1 0->lc.gen 1=1->lc.get 1 1=some [ov]->lc.gen 7=0->ac e 21=ov->ac e 22=uM l.length->ac e 23=uM c.length->W Q 137 (.loop Ir) ⟨e,97,lc⟩ s K:=by
 intro d
 induction d with
 |nil=>
  intro c e lc s y C Y F H g1 I g7 w j u;have a0:c.length=l.length:=by rw[y];simp
  have O:c=l:=by rw[y];simp
  refine bG ?_;simp only[go_sem,seval,Ir,j,u,a0,cD];exact hx _ _ _ (by simp only[sN,seval,F]) (by simp only[sN,seval,H]) g1 I g7 C (by rw[<-O];exact Y)
 |cons o d ih=>
  intro c e lc s y C Y F H g1 I g7 w j u;have Z:c.length<l.length:=by rw[y];simp
  have a2:l[c.length]? =some o:=by rw[y];simp
  have a1:=fun lc k=>ho.at gX.2.2.1 a2 lc k;have J:=dB (n:=c.length) (by omega);have U:cI o.id (kx c)=none:=by
   rw[AX,C4,sF];intro hc;rw[y,ff] at z;exact(wf.1 z).2.2 _ hc o.id (by simp) rfl
  have M:s.get [] p=some (.cells [av,.map b,bv]):=(C.old p R).trans hp;have V:bR aa.str s.top b (kx c):=Y;have m:=vU jA yY V o.id o.val;have B:fe o.id o.val (kx c)=kx (c++[o]):=by
   rw[vj U];unfold kx;rw[ff];rfl
  rw[B] at m;simp only[Obj.val,Obj.cells] at m;refine bG ?_;simp only[go_sem,seval,Ir,F,w,j,u,Z,a1,J,M,C.mw,aW,aY,Obj.val,Obj.cells,m];refine ih (c++[o]) _ _ _ (by rw[y];simp) (C.putT _) ?_ ?_ ?_ ?_ ?_ ?_ ?_ ?_ ?_;show St.get _ [] b=_;rw[mY,aX,bS];rfl
  all_goals simp only[abc,dj,cY,ah,F,H,g1,I,g7,w,j,sA]
structure Lj (p g7:Nat) (c7:List aa) (ov:aa) (n i:Nat) (e:ax) (lc:Ag.Loc):Prop where
 h3:ac e 3= .ptr p 0
 h7:ac e 7= .rd 7 g7 0
 q7:lc.gen 7=g7
 l7:lc.get 7 g7=some c7
 h36:ac e 36=ov
 h37:ac e 37=uM n
 h38:ac e 38=uM i
variable{i lo n:Nat}{rv:aa}
theorem anq{gE:List ag}(Z:ay 1 aG rv gE)(b8:gE.length<=900000){g7:Nat}{c7:List aa}{av:aa}{s0:St}(hp:s0.get [] p=some (.cells [av,.map b,bv]))(hM:bR aa.str s0 b (kx l))(J:p<lo)(a9:b<lo)(hx: ∀e lc s v,gE.all (ei l)=true->cR 2 lo s v ((gE.map (fJ l)).map aU)->(∀k,k<lo->s.get [] k=s0.get [] k)->s.gt<=s.aL->lo<=s.aL->ac e 8=v->Lj p g7 c7 ov n i e lc->K (.exit 4) ⟨e,97,lc⟩ s)(hc: ∀e lc s,gE.all (ei l)=false->(∀k,k<lo->s.get [] k=s0.get [] k)->s.gt<=s.aL->lo<=s.aL->Lj p g7 c7 ov n i e lc->K (.exit 3) ⟨e,97,lc⟩ s):
 ∀(m c:List ag) (e:ax) (lc:Ag.Loc) (s:St) (v:aa),gE=c++m->c.all (ei l)=true->cR 2 lo s v ((c.map (fJ l)).map aU)->(∀k,k<lo->s.get [] k=s0.get [] k)->s.gt<=s.aL->lo<=s.aL->ac e 8=v->ac e 46=rv->ac e 47=uM gE.length->ac e 48=uM c.length->Lj p g7 c7 ov n i e lc->W Q 137 (.loop Cy) ⟨e,97,lc⟩ s K:=by
 intro m
 induction m with
 |nil=>
  intro c e lc s v H hn U j z B V C w u F;have a8:c.length=gE.length:=by rw[H];simp
  have J:c=gE:=by rw[H];simp
  refine bG ?_;simp only[go_sem,seval,Cy,w,u,a8,cD];rw[J] at U hn;refine hx _ _ _ v hn U j z B ?_ ⟨?_,?_,F.q7,F.l7,?_,?_,?_⟩
  all_goals simp only[sN,seval,V,F.h3,F.h7,F.h36,F.h37,F.h38]
 |cons r m ih=>
  intro c e lc s v H hn U j z B V C w u F;have M:c.length<gE.length:=by rw[H];simp
  have b0:gE[c.length]? =some r:=by rw[H];simp
  have R:=fun lc k=>Z.at cH.2.2.1 b0 lc k;have Y:=dB (n:=c.length) (by omega);have I:s.get [] p=some (.cells [av,.map b,bv]):=(j p J).trans hp;have b1:bR aa.str s b (kx l):=(j b a9).trans hM;have d:=yW jA yY zP b1 r;rw[AX] at d;have vc:=U.ge;have e3:=F.h3;have e7:=F.h7;cases hq:dP r l with
  |none=>
   have hb:gE.all (ei l)=false:=by
    rw[H,List.all_append,ju];have:ei l r=false:=by simp only[ei,pV,hq];rfl
    rw[this];simp
   rw[hq] at d;simp only[sF,oB] at d;refine bG ?_;simp only[go_sem,seval,Cy,aG,e3,C,w,u,M,R,I,aW,aY,d,fh];refine hc _ _ _ hb j z B ⟨?_,?_,?_,?_,?_,?_,?_⟩
   all_goals simp only[abK,dj,cY,ah,F.h3,F.h7,F.q7,F.l7,F.h36,F.h37,F.h38]
  |some q=>
   rw[hq] at d;simp only[kn,oB,Obj.val,Obj.cells] at d;cases O:an q.nR 1 with
   |false=>
    have hb:gE.all (ei l)=false:=by
     rw[H,List.all_append,ju];have:ei l r=false:=by simp only[ei,pV,hq];exact O
     rw[this];simp
    refine bG ?_;simp only[go_sem,seval,Cy,aG,e3,C,w,u,M,R,I,aW,aY,d,fh,O];refine hc _ _ _ hb j z B ⟨?_,?_,?_,?_,?_,?_,?_⟩
    all_goals simp only[abK,dj,cY,ah,F.h3,F.h7,F.q7,F.l7,F.h36,F.h37,F.h38]
   |true=>
    have b2:ei l r=true:=by simp only[ei,pV,hq];exact O
    have a0:aU (fJ l r)= .agg [ic q.x,ic q.y]:=by simp only[Gi hq,aU]
    obtain⟨v',s1,a1,a2,a3,a4,a5,a6,a7⟩:=Eb (t:=218) pB.1 rfl (by decide) (s:=s) (y:=.list 2 [aU (fJ l r)] .uP) (ys:=[aU (fJ l r)]) U (by simp only[afo,eE]) (by
     grind) B z
    rw[a0] at a1;refine bG ?_;simp only[go_sem,seval,Cy,aG,e3,V,C,w,u,M,R,I,aW,aY,d,fh,O];simp only[go_sem,seval,V,vc,u,Y,a1,a7,bj,bg,aZ,bf,evc];refine ih (c++[r]) _ _ s1 v' (by rw[H];simp) ?_ ?_ (fun k O=>(a6 k O).trans (j k O)) a5 (by omega) ?_ ?_ ?_ ?_ ⟨?_,?_,?_,?_,?_,?_,?_⟩
    grind
    grind
    all_goals simp only[abc,dj,cY,ah,C,w,F.h3,F.h7,F.q7,F.l7,F.h36,F.h37,F.h38,sA]
def oY(l:List Obj)(o:Obj):Bool:=match zu l o with|some r=> !kz r|none=>false
def ph(l:List Obj)(o:Obj):Bool:=(tY l o).isSome
structure wz (l pre:List Obj) (p a b lo:Nat) (s0 s:St) (L:List (ag×aa)) (bv:aa):Prop where
 hp:s.get [] p=some (.cells [.map a,.map b,bv])
 ma:bR aa.str s a L
 mb:bR aa.str s b (kx l)
 ids:L.map (·.1)=(pre.filter (ph l)).map Obj.id
 rings: ∀x∈L, ∃o∈pre,x.1=o.id/\ ∃r,tY l o=some r/\ay 2 aU x.2 r
 bad:cR 1 lo s bv (((pre.filter (oY l)).map Obj.id).map aG)
 old: ∀k,k<lo->k≠p->k≠a->s.get [] k=s0.get [] k
 mw:s.gt<=s.aL
 nx:lo<=s.aL
variable{α:Type}
theorem tm{f:α->Bool}{l:List α}{x:α}(h:f x=true):(l++[x]).filter f=l.filter f++[x]:=by
 grind
theorem o9{f:α->Bool}{l:List α}{x:α}(h:f x=false):(l++[x]).filter f=l.filter f:=by
 grind
variable{a:Nat}{o:Obj}{s s':St}
theorem wz.skip{c:List Obj}{s0:St}{L:List (ag×aa)}(I:wz l c p a b lo s0 s L bv)(h1:ph l o=false)(R:oY l o=false)(d: ∀k,k<s.aL->s'.get [] k=s.get [] k)(H:s'.gt<=s'.aL)(Y:s.aL<=s'.aL)(F:p<lo)(O:a<lo)(M:b<lo):wz l (c++[o]) p a b lo s0 s' L bv:=by
 have V:=I.nx;refine⟨(d p (by omega)).trans I.hp,(d a (by omega)).trans I.ma,(d b (by omega)).trans I.mb,by rw[o9 h1];exact I.ids,fun x C=>?_,?_,fun k J B z=>(d k (by omega)).trans (I.old k J B z),H,by omega⟩;obtain⟨U,m,j⟩:=I.rings x C
 grind
 rw[o9 R];rcases I.bad with h|⟨m,k,j,y,w,u⟩
 exact .inl h;exact .inr ⟨m,k,j,(d k u).trans y,w,by omega⟩
theorem am0(b0:Q.spec 229=some qe)(ho:ay 6 Obj.val ov l)(hg: ∀o∈l,o.oM)(hl:l.length<=900000)(hr: ∀o∈l,o.gE.length<=900000)(f5:(l.map Obj.id).Nodup)(M:p<lo)(b8:a<lo)(b2:b<lo)(d1:p≠a)(e6:p≠b)(f1:a≠b){s0:St}(J: ∀e lc s L bv,ac e 3= .ptr p 0->wz l l p a b lo s0 s L bv->K (.exit 2) ⟨e,97,lc⟩ s):
 ∀(z c:List Obj) (e:ax) (lc:Ag.Loc) (s:St) (L:List (ag×aa)) (bv:aa),l=c++z->wz l c p a b lo s0 s L bv->
  ac e 3= .ptr p 0->ac e 36=ov->ac e 37=uM l.length->ac e 38=uM c.length->W Q 137 (.loop Cz) ⟨e,97,lc⟩ s K:=by
 intro z
 induction z with
 |nil=>
  intro c e lc s L bv h1 I h3 a0 U R;have f0:c.length=l.length:=by rw[h1];simp
  have M:c=l:=by rw[h1];simp
  refine bG ?_;simp only[go_sem,seval,Cz,U,R,f0,cD];exact J _ _ _ L bv (by simp only[sN,seval,h3]) (by rw[M] at I;exact I)
 |cons o z ih=>
  intro c e lc s L bv h1 I h3 a0 U R;have d5:c.length<l.length:=by rw[h1];simp
  have e2:l[c.length]? =some o:=by rw[h1];simp
  have d2:o∈l:=eP e2;have go:=hg o d2;have rc:=go.gE.ge;have e9:=go.gE.lenS cH;have d6:=fun lc k=>ho.at gX.2.2.1 e2 lc k;have Y:=dB (n:=c.length) (by omega);have next: ∀(e':ax) (c9:Ag.Loc) (s':St) (L':List (ag×aa)) (B:aa),wz l (c++[o]) p a b lo s0 s' L' B->ac e' 3= .ptr p 0->ac e' 36=ov->ac e' 37=uM l.length->ac e' 38=uM c.length->W Q 137 (.loop Cz) ⟨(e'.set 95 (some (ic ((c.length+1:Nat):Int)))).set 38 (some (ic ((c.length+1:Nat):Int))),97,c9⟩ s' K:=fun e' c9 s' L' B I' e3 f7 f6 V=>by
   refine ih (c++[o]) _ _ s' L' B (by rw[h1];simp) I' ?_ ?_ ?_ ?_
   all_goals simp_all [sN]
  cases hk:an o.nR 3 with
  |false=>
   have j:zu l o=none:=by unfold zu;rw[hk];rfl
   have H:ph l o=false:=by unfold ph tY;rw[j];rfl
   have C:oY l o=false:=by unfold oY;rw[j]
   refine bG ?_;simp only[go_sem,seval,Cz,h3,a0,U,R,d5,d6,Y,hk,Obj.val,Obj.cells];refine next _ _ s L bv (I.skip H C (fun _ _=>rfl) I.mw (br _) M b8 b2) ?_ ?_ ?_ ?_
   all_goals simp_all [sN]
  |true=>
   refine lk ?_;simp only[go_sem,seval,Cz,h3,a0,U,R,d5,d6,hk,Obj.val,Obj.cells,rc,e9];have nx:=I.nx;refine anq go.gE (hr o d2) (c7:=[.str o.id,ic o.nR,ic o.x,ic o.y,o.refsV,o.tagsV]) (p:=p) (b:=b) (lo:=s.aL) (n:=l.length) (i:=c.length) (ov:=ov) (av:=.map a) (bv:=bv) (s0:=s) I.hp I.mb (by omega) (by omega) ?_ ?_ o.gE [] _ _ s .oZ rfl rfl (.inl ⟨rfl,rfl⟩) (fun _ _=>rfl) I.mw (br _) ?_ ?_ ?_ ?_ ⟨?_,?_,rfl,?_,?_,?_,?_⟩
   ·intro e1 c8 s1 v O hO w m a9 h8 F
    have j:zu l o=some (o.gE.map (fJ l)):=by unfold zu;rw[hk,O];rfl
    have vc:=hO.ge;have q1:=Ky hO.isL;have e3:=F.h3;have e7:=F.h7;have f3:=F.q7;have c6:=F.l7;have V:=F.h38;obtain⟨g,b1⟩:=ct (c8.gen 7);rw[<-f3,b1] at e7 c6;have Z:s1.get [] p=some (.cells [.map a,.map b,bv]):=(w p (by omega)).trans I.hp;cases hs:kz (o.gE.map (fJ l)) with
    |false=>
     have H:ph l o=false:=by unfold ph tY;rw[j];simp[hs]
     have C:oY l o=true:=by unfold oY;rw[j];simp[hs]
     rw[hs] at q1;have e0:cR 1 lo s1 bv (((c.filter (oY l)).map Obj.id).map aG):=by
      rcases I.bad with h|⟨q1,k,q2,q3,q4,q5⟩
      exact .inl h;exact .inr ⟨q1,k,q2,(w k q5).trans q3,q4,by omega⟩
     have d7:((c.filter (oY l)).map Obj.id).length<=900000:=by
      rw[ce]
      have:=kT (oY l) c;omega
     obtain⟨B,s2,a1,a2,a3,a4,a5,a6,a7,a8⟩:=LG (t:=25) cH.1 rfl (by decide) (enc:=aG) e0 o.id d7 (by omega) m;simp only[aG] at a1;have f4:=e0.ge;obtain⟨u,hu⟩:=ct (s1.rX s2);rw[hu] at a2 a5 a6;have un:u.aL=s2.aL:=by rw[<-hu];rfl
     have e4:u.get [] p=some (.cells [.map a,.map b,bv]):=(a6 p M).trans Z;have d:=(eL.refl a5:eL p u u).putT (some (.cells [.map a,.map b,B]));simp only[go_sem,seval,h8,vc,b0,q1];refine iT m ?_;have d4:=kZ m;simp only[go_sem,EU,Ip,Iq,seval,e3,e7,c6,b1,Z,aW,aY,f4,d4,aG,bj,bg,aZ,bf,evc];simp only[go_sem,EU,Ip,Iq,seval,aG,a1,a3,a4,a7,a8,hu,e4,dn,dp,V,Y];refine next _ _ _ L B ⟨?_,?_,?_,?_,fun x J=>?_,?_,fun k hk H C=>?_,d.mw,?_⟩ ?_ ?_ ?_ ?_
     rw[mY,aX,bS];rfl;exact(d.old a d1.symm).trans ((a6 a b8).trans ((w a (by omega)).trans I.ma));exact(d.old b e6.symm).trans ((a6 b b2).trans ((w b (by omega)).trans I.mb));rw[o9 H];exact I.ids;obtain⟨o',q1,q2⟩:=I.rings x J
     grind
     rw[tm C,ff];rcases a2 with⟨c1,c2⟩|⟨c1,k,c2,c3,c4,c5⟩
     simp at c2;exact .inr ⟨c1,k,c2,(d.old k (by omega)).trans c3,c4,by rw[d.aL];exact c5⟩;exact(d.old k H).trans ((a6 k hk).trans ((w k (by omega)).trans (I.old k hk H C)));rw[d.aL,un];omega
     all_goals simp only[sN,seval,F.h3,F.h36,F.h37,F.h38]
    |true=>
     have H:ph l o=true:=by unfold ph tY;rw[j];simp[hs]
     have e5:tY l o=some (o.gE.map (fJ l)):=by unfold tY;rw[j];simp[hs]
     have C:oY l o=false:=by unfold oY;rw[j];simp[hs]
     rw[hs] at q1;have f2:bR aa.str s1.top a L:=(w a (by omega)).trans I.ma;have e8:cI o.id L=none:=by
      cases hc:cI o.id L with
      |none=>rfl
      |some v'=>
       obtain⟨o',c1,c2,_⟩:=I.rings _ (CM hc)
       grind
     have d0:=vU jA CU f2 o.id v;rw[vj e8] at d0;have d:=(eL.refl m:eL a s1 s1).putT (some (.map (dw aa.str 0 (L++[(o.id,v)])) (L++[(o.id,v)]).length));simp only[go_sem,seval,h8,vc,b0,q1];refine iT m ?_;simp only[go_sem,EU,Ip,Iq,seval,e3,e7,c6,b1,h8,vc,Z,aW,aY,d0,V,Y];refine next _ _ _ (L++[(o.id,v)]) bv ⟨?_,?_,?_,?_,fun x J=>?_,?_,fun k hk H C=>?_,d.mw,?_⟩ ?_ ?_ ?_ ?_
     exact(d.old p d1).trans Z;show St.get _ [] a=_;rw[mY,aX,bS];rfl;exact(d.old b f1.symm).trans ((w b (by omega)).trans I.mb);rw[tm H,ff,ff,I.ids];rfl;rcases lj.1 J with J|J
     obtain⟨o',q1,q2⟩:=I.rings x J
     grind
     have J:=List.mem_singleton.1 J;subst J;exact⟨o,by simp,rfl,_,e5,hO.isL⟩;rw[o9 C];rcases I.bad with h|⟨c1,k,c2,c3,c4,c5⟩
     exact .inl h;exact .inr ⟨c1,k,c2,(d.old k (by omega)).trans ((w k c5).trans c3),c4,by rw[d.aL];omega⟩;exact(d.old k C).trans ((w k (by omega)).trans (I.old k hk H C));rw[d.aL];omega
     all_goals simp only[sN,seval,F.h3,F.h36,F.h37,F.h38]
   ·intro e1 c8 s1 O w m a9 F
    have j:zu l o=none:=by unfold zu;rw[O,gN];rfl
    have H:ph l o=false:=by unfold ph tY;rw[j];rfl
    have C:oY l o=false:=by unfold oY;rw[j]
    have V:=F.h38;simp only[go_sem,seval,V,Y];refine next _ _ s1 L bv (I.skip H C w m a9 M b8 b2) ?_ ?_ ?_ ?_
    all_goals simp only[sN,seval,F.h3,F.h36,F.h37,F.h38]
   all_goals simp only[sL,seval,h3,a0,U,R,bn]
   all_goals rfl
def Yp(J:Q.spec 31=some jK)(F:Q.spec 229=some qe)(U:No Q 137)(m:ay 6 Obj.val ov l)(hg: ∀o∈l,o.oM)(hl:l.length<=900000)(hr: ∀o∈l,o.gE.length<=900000)(Z:dD l=true)(hm:s.gt<=s.aL):
 ∃v s',aq Q 137 [.agg [ov]] s v s'/\(v= .ptr (s.aL+2) 0/\ ∃c L bv,wz l l (s.aL+2) s.aL (s.aL+1) (s.aL+3) c s' L bv/\ ∀k,k<s.aL->c.get [] k=s.get [] k):=by
 have a1:=ajJ;have w:=m.lenS gX;have B:=m.cs;have u:=yK Z;have V:=A0 m hg (by omega);rw[Z] at V;obtain⟨z,j⟩:=ct ((s.new (.map [] 0)).new (.map [] 0));have O:z.aL=s.aL+2:=by rw[<-j];rfl
 have Y:(s.new (.map [] 0)).aL=s.aL+1:=rfl;obtain⟨y,d⟩:=ct (z.new (.cells [.map s.aL,.map (s.aL+1),.oZ]));have yn:y.aL=s.aL+3:=by rw[<-d];show z.aL+1=_;omega
 have ym:y.gt<=y.aL:=by rw[<-d,<-j];exact cq (cq (cq hm))
 have R:y.get [] (s.aL+2)=some (.cells [.map s.aL,.map (s.aL+1),.oZ]):=by rw[<-d,<-O];exact cW
 have ya:y.get [] s.aL=some (.map [] 0):=by rw[<-d,cz (by omega),<-j,cz (by omega)];exact cW
 have yb:y.get [] (s.aL+1)=some (.map [] 0):=by rw[<-d,cz (by omega),<-j,<-Y];exact cW
 have yo: ∀k,k<s.aL->y.get [] k=s.get [] k:=fun k H=>by rw[<-d,cz (by omega),<-j,cz (by omega),cz H]
 refine aq.ofNRZ ahY (co ?_);simp only[go_sem,seval,w,B,J,V,m7,wJ,Ei,Y,j,O,d,bj,bg,aZ,bf,evc];refine ani m (by omega) u (p:=s.aL+2) (b:=s.aL+1) (av:=.map s.aL) (bv:=.oZ) (s0:=y) R (by omega) ?_ l [] _ _ y rfl (.refl ym) yb ?_ ?_ ?_ ?_ ?_ ?_ ?_ ?_
 ·intro e lc c M r1 g1 l1 g7 C hM
  have I0:wz l [] (s.aL+2) s.aL (s.aL+1) (s.aL+3) c c [] .oZ:=by
   refine⟨(C.old _ (by omega)).trans R,(C.old _ (by omega)).trans ya,hM,rfl,fun x hx=>(by cases hx),.inl ⟨rfl,rfl⟩,fun _ _ _ _=>rfl,C.mw,by rw[C.aL];omega⟩
  simp only[go_sem,seval,r1,l1,g1,w,B];refine am0 F m hg hl hr u (p:=s.aL+2) (a:=s.aL) (b:=s.aL+1) (lo:=s.aL+3) (by omega) (by omega) (by omega) (by omega) (by omega) (by omega) (s0:=c) ?_ l [] _ _ c [] .oZ rfl I0 ?_ ?_ ?_ ?_;intro e2 a0 s2 L bv M I;simp only[go_sem,seval,M];exact⟨_,rfl,rfl,c,L,bv,I,fun k H=>(C.old k (by omega)).trans (yo k H)⟩
  all_goals simp only[sN,seval,M,bn]
  all_goals rfl
 all_goals simp only[abc,alb,ah,bQ]
 all_goals rfl
def arZ:ae.underlying 214=some (.map 9 218):=by kernel_rfl
variable{v:aa}
def acD(c:No Q 139)(k:ag)(d:v.ge=true)(s:St):aq Q 139 [.str k,v] s (.bool true) s:=by
 refine aq.ofNZ ah1 (co ?_);simp only[go_sem,seval]
variable{bx:Nat}
def anr(hK: ∀i,1000000<=Q.kmax i)(B:No Q 139){it:Nat}{L:List (ag×aa)}(a9:L.length<1000000)(a8:mh L)(c1:it<lo)(c2:a<lo)(d1:a≠it){s0:St}{C:Ex->Fr->St->Prop}(hx: ∀e lc s ov (c:List ag),c.Perm (L.map (·.1))->kW 1 s ov (c.map aG)->(∀k,k<lo->k≠it->s.get [] k=s0.get [] k)->lo<=s.aL->s.gt<=s.aL->(∀r,amb ov=some r->lo<=r)->ac e 5=ov->ac e 2= .ptr bx 0->C (.exit 0) ⟨e,30,lc⟩ s):
 ∀(U:Nat) (seen:List Nat) (e:ax) (lc:Ag.Loc) (s:St) (ov:aa) (c:List ag),U+seen.length=L.length->jv aa.str s it a L seen->c=seen.map (fun b=>(L.getD b ([],.oZ)).1)->kW 1 s ov (c.map aG)->(∀k,k<lo->k≠it->s.get [] k=s0.get [] k)->lo<=s.aL->s.gt<=s.aL->(∀r,amb ov=some r->lo<=r)->ac e 5=ov->ac e 1= .func (.func 139) [] []->ac e 2= .ptr bx 0->ac e 12= .ptr it 0->W Q 138 (.loop Nx) ⟨e,30,lc⟩ s C:=by
 intro U
 induction U with
 |zero=>
  intro seen e lc s ov c hc I j O w J u d R Y V m;rcases I.aL Q.ch Q.kmax (fun i=>by have:=hK i;omega) with⟨hp,hn⟩|⟨b,p,s1,hb,hnm,hlt,_⟩
  refine bG ?_;simp only[go_sem,seval,Nx,m,yG,hn,fh,bj,bg,aZ,bf,evc];refine hx _ _ s ov c ?_ O w J u d (by simp only[sN,seval,R]) (by simp only[sN,seval,V]);rw[j];refine(hp.map _).trans ?_;have:(ix L.length).map (fun b=>(L.getD b ([],.oZ)).1)=L.map (·.1):=by
   refine List.ext_getElem (by simp) fun i h1 h2=>?_;have h2:i<L.length:=by simpa using h2
   simp[nA,h2]
  rw[this];omega
 |succ U ih=>
  intro seen e lc s ov c hc I j O w J u d R Y V m;rcases I.aL Q.ch Q.kmax (fun i=>by have:=hK i;omega) with⟨hp,hn⟩|⟨b,p,s1,hb,hnm,hlt,hn,ho,hi,hn1,hm1⟩
  have:=hp.length_eq;rw[List.length_range] at this;omega
  ·have I1:=I.go d1 hb hnm ho hi
   have a0:=jv.entry hi I1.hm hb;have H:s1.gt<=s1.aL:=by rw[hm1,hn1];exact dh s it none u
   have Z:=O.ge;obtain⟨r,z⟩:=a8 p (eP hb);have pc:=z.ge;have a7:kW 1 s1 ov (c.map aG):=O.mono (fun r z=>ho r (by have:=d r z;omega)) (by omega);have M:c.length<1000000:=by rw[j,ce];omega
   obtain⟨s3,a1,a2,a3,a4,a5,a6⟩:=LH (t:=25) cH.1 rfl (by decide) (aG p.1) (fun y hy=>by
    obtain⟨x,_,rfl⟩:=dy.1 hy;rfl) (by rw[ce];exact M) H a7
   simp only[aG] at a1;refine bG ?_;simp only[go_sem,seval,Nx,R,Y,m,yG,hn,EH,a0,fh,pc,bj,bg,aZ,bf,evc];refine cG.of (acD B p.1 pc s1) (by decide) ?_;simp only[go_sem,seval,R,Z,a1,iU,S8,bj,bg,aZ,bf,evc];refine ih (seen++[b]) _ _ s3 (.arr 1 s1.aL 0 ((c.map aG).length+1) ((c.map aG).length+1)) (c++[p.1]) (by rw[cJ];simp only[bH,bn];omega) ⟨?_,?_,I1.nd,I1.lt⟩ ?_ ?_ (fun k hk F=>?_) (by omega) a5 (fun r z=>?_) ?_ ?_ ?_ ?_;rw[a6 it (by omega) (fun e=>by have:=d it e;omega)];exact I1.hi;exact(a6 a (by omega) (fun e=>by have:=d a e;omega)).trans I1.hm;rw[ff,<-j];simp[nA,hb];rw[ff];exact a2;rw[a6 k (by omega) (fun e=>by have:=d k e;omega),ho k F];exact w k hk F;injection z with z
   omega
   all_goals simp only[sN,seval,Y,V,m,ce]
variable{c2:List aa}
def aq7(hK: ∀i,1000000<=Q.kmax i)(M:No Q 139)(w:Q.spec 230=none)(B:Q.specW 230=some Dv)(a7:No Q 138){L:List (ag×aa)}(a1:L.length<1000000)(a2:mh L)(hp:s.get [] p=some (.cells (.map a::c2)))(ha:bR aa.str s a L)(pl:p<s.aL)(al:a<s.aL)(a5:s.gt<=s.aL):
 ∃v s',aq Q 138 [.ptr p 0,.func (.func 139) [] []] s v s'/\ ∃c:List ag,c.Perm (L.map (·.1))/\kW 1 s' v (c.map aG)/\(∀k,k<s.aL->s'.get [] k=s.get [] k)/\s.aL<=s'.aL/\s'.gt<=s'.aL/\(∀r,amb v=some r->s.aL<=r):=by
 obtain⟨z,R⟩:=ct (s.new (.cells [.ptr p 0]));have zn:z.aL=s.aL+1:=by rw[<-R];rfl
 have zb:z.get [] s.aL=some (.cells [.ptr p 0]):=by rw[<-R];exact cW
 have zo: ∀k,k<s.aL->z.get [] k=s.get [] k:=fun k Y=>by rw[<-R,cz Y]
 have zm:z.gt<=z.aL:=by rw[<-R];exact cq a5
 have zp:=(zo p pl).trans hp;have za:bR aa.str z a L:=(zo a al).trans ha;have V:=jv.new arZ za;have hI:=jv.begin za (by omega);obtain⟨u,hu⟩:=ct (z.new (.iter (some a) L.length [] L.length));rw[hu] at V hI;have un:u.aL=s.aL+2:=by rw[<-hu];show z.aL+1=_;omega
 have uo: ∀k,k<z.aL->u.get [] k=z.get [] k:=fun k Y=>by rw[<-hu,cz Y]
 have um:u.gt<=u.aL:=by rw[<-hu];exact cq zm
 refine aq.ofNRZ ahZ (co ?_);simp only[go_sem,seval,L9,R,zb,zp,aW,aY,H3,V,bj,bg,aZ,bf,evc];refine anr hK M (it:=z.aL) (a:=a) (lo:=s.aL+2) (bx:=s.aL) a1 a2 (by omega) (by omega) (by omega) (s0:=u) ?_ L.length [] _ _ u .oZ [] (by simp) hI rfl (.inl ⟨rfl,rfl⟩) (fun _ _ _=>rfl) (by omega) um (fun r hr=>by cases hr) ?_ ?_ ?_ ?_;intro e lc y ov c d hO Z a9 C U h5 r2;have O:=hO.ge;have old: ∀k,k<s.aL->y.get [] k=s.get [] k:=fun k Y=>(Z k (by omega) (by omega)).trans ((uo k (by omega)).trans (zo k Y));have b8:c.length<1000000:=by rw[d.length_eq,ce];exact a1
 simp only[go_sem,seval,h5,r2,O,w,rR];have I: ∃v F,aq Q 230 [ov,.func (.func 231) [] [.ptr s.aL 0]] y v F/\(v= .tup []/\ ∃m:List ag,m.Perm (L.map (·.1))/\kW 1 F ov (m.map aG)/\(∀k,k<s.aL->F.get [] k=s.get [] k)/\s.aL<=F.aL/\F.gt<=F.aL):=by
  rcases hO with⟨rfl,h0⟩|⟨h0,k,rfl,hg,a6⟩
  have h0:=xT.1 h0;subst h0;exact⟨_,y,aq.specW0 w (Std.H _) B rfl,rfl,[],d,.inl ⟨rfl,rfl⟩,old,by omega,C⟩;have b0:=U k rfl;have gb:y.get [] s.aL=some (.cells [.ptr p 0]):=(Z _ (by omega) (by omega)).trans ((uo _ (by omega)).trans zb);have gp:y.get [] p=some (.cells (.map a::c2)):=(old p pl).trans hp;have ga:y.get [] a=some (.map (dw aa.str 0 L) L.length):=(old a al).trans ha;have a8:aQ (c.map aG).length (c.map aG).length=true:=Nat.beq_refl _;have a0:bw (c.map aG).length 1000000=true:=cP (by rw[ce];omega);have a3:gm (y.get []) (GI s.aL (c.map aG).length (aF (c.map aG)))=some (.agg ((vO L c).map aG)):=by
   rw[AA];simp only[afo,GI,gm,gb,au,PK,Gm,gp,OP,ga,aeQ a2,t6,a0,cw,LP]
  have a4:=(Qc L c).trans d;have J:((vO L c).map aG).length=(c.map aG).length:=by rw[ce,ce,(Qc L c).length_eq]
  refine⟨_,_,aq.specW (n:=k) (cs':=(vO L c).map aG) w (Std.H _) B rfl hg a3,rfl,vO L c,a4,.inr ⟨fun e=>?_,k,?_,?_,a6⟩,fun j hj=>?_,?_,dh y k _ C⟩;rw[e] at J;exact h0 (uv J.symm);rw[J];rw[aX,bS,AA];rfl;rw[aX,bN.2 (by omega:j≠k)];exact old j hj;show s.aL<=y.aL;omega
 refine cG.ex I (by decide) ?_;rintro v F ⟨rfl,m,b1,b2,b3,b4,b5⟩;simp only[go_sem,seval,h5,O];exact⟨_,rfl,m,b1,b2,b3,b4,b5,fun r hr=>by have:=U r hr;omega⟩
 all_goals simp only[sN,seval]
variable{xs:List aa}
def BL{t:TypeId}{E:EI}{sz:Nat}(H:lV ae t=some E)(B:E.n=sz)(F:E.b<=88){y x:aa}(h:cR sz lo s ov xs)(z:eE [] E.g E.n y s=some [x])(m:xs.length<=900000)(d:lo<=s.aL)(C:s.gt<=s.aL):
 ∃c s',fF ae [] t ov y false s=some (c,s')/\cR sz lo s' c (xs++[x])/\c.cells=[c]/\s'.aL=s.aL+1/\s'.gt<=s'.aL/\(∀n,n<s.aL->s.get [] n≠some .tok->s'.get [] n=s.get [] n)/\(∀n,n<lo->s'.get [] n=s.get [] n):=by
 obtain⟨s',R,O,U,M,J,w⟩:=Sh H B F h z (by simp) (by rw[List.length_singleton];omega) C;refine⟨_,s',R,.inr ⟨by simp,s.aL,rfl,O,d,by omega⟩,rfl,M,J,fun n u I=>w n u fun k j e=>?_,fun n u=>w n (by omega) fun k j e=>?_⟩;subst e;exact I (h.token j).2.2
 have:=(h.token j).1;omega
def fC(k:Int)(c:List ag):aa:=.agg [.str [],ic k,.list 1 (c.map aG) .uP]
structure oV (s s':St):Prop where
 old: ∀n,n<s.aL->s.get [] n≠some .tok->s'.get [] n=s.get [] n
 nx:s.aL<=s'.aL
 mw:s'.gt<=s'.aL
def oV.refl(h:s.gt<=s.aL):oV s s:=⟨fun _ _ _=>rfl,br _,h⟩
def oV.app{s1 s2:St}(h:oV s s1)(w:s2.aL=s1.aL+1)(d:s2.gt<=s2.aL)(j: ∀n,n<s1.aL->s1.get [] n≠some .tok->s2.get [] n=s1.get [] n):oV s s2:=by
 have u:=h.nx;refine⟨fun n m c=>?_,by omega,d⟩;have e:=h.old n m c;rw[j n (by omega) (by rw[e];exact c),e]
def am1{pv:aa}{B:List ag}(hB:ay 1 aG bv B)(hl:B.length<=900000){s0:St}(hx: ∀e lc s ov,cR 3 lo s ov (B.map fun i=>fC 3 [i])->oV s0 s->lo<=s.aL->ac e 3=pv->ac e 4=ov->K (.exit 0) ⟨e,76,lc⟩ s):
 ∀(d c:List ag) (e:ax) (lc:Ag.Loc) (s:St) (ov:aa),B=c++d->cR 3 lo s ov (c.map fun i=>fC 3 [i])->oV s0 s->lo<=s.aL->ac e 3=pv->ac e 4=ov->ac e 19=bv->ac e 20=uM B.length->ac e 21=uM c.length->W Q 60 (.loop Ow) ⟨e,76,lc⟩ s K:=by
 intro d
 induction d with
 |nil=>
  intro c e lc s ov z H I u Z J w m j;have U:c.length=B.length:=by rw[z];simp
  have O:c=B:=by rw[z];simp
  refine bG ?_;simp only[go_sem,seval,Ow,m,j,U,cD];rw[O] at H;exact hx _ _ _ ov H I u (by simp only[sN,seval,Z]) (by simp only[sN,seval,J])
 |cons x d ih=>
  intro c e lc s ov z H I u Z J w m j;have R:c.length<B.length:=by rw[z];simp
  have Y:B[c.length]? =some x:=by rw[z];simp
  have V:=fun lc k=>hB.at cH.2.2.1 Y lc k;have F:=dB (n:=c.length) (by omega);have C:=H.ge;obtain⟨M,s1,a1,a2,a3,a4,a5,a6,a7⟩:=BL (t:=35) j6.1 rfl (by decide) (s:=s) (y:=.list 3 [fC 3 [x]] .uP) (x:=fC 3 [x]) H (by simp only[afo,eE]) (by rw[ce];omega) u I.mw;have a0:=a2.ge;simp only[fC,fy,uB,aG] at a1;refine bG ?_;simp only[go_sem,seval,Ow,aG,J,w,m,j,R,V,F,C,bj,bg,aZ,bf,evc];simp only[go_sem,seval,aG,J,j,F,C,a1,a3,bj,bg,aZ,bf,evc];refine ih (c++[x]) _ _ s1 M (by rw[z];simp) (by rw[ff];exact a2) (I.app a4 a5 a6) (by omega) ?_ ?_ ?_ ?_ ?_
  all_goals simp only[sN,seval,Z,w,m,sA]
def HP(L:List (ag×aa))(q:ag×ag):Bool:=an (qa (mB L q.1) (mB L q.2)) 0
def lX(L:List (ag×aa))(l:List (ag×ag)):List aa:=(l.filter (HP L)).map fun q=>fC 4 [q.1,q.2]
def QH(L:List (ag×aa))(a b:List (ag×ag)):lX L (a++b)=lX L a++lX L b:=by
 unfold lX;rw[List.filter_append,ff]
variable{S:List ag}
def ano(O:Q.spec 141=some zt){r:Nat}{L:List (ag×aa)}(b0:mh L)(hl:S.length<=900000)(hi:i<S.length){x:ag}(c7:S[i]? =some x){bse:List aa}(c9:bse.length+S.length<=900000){s0:St}(hp:s0.get [] p=some (.cells (.map a::c2)))(ha:bR aa.str s0 a L)(hr:s0.get [] r=some (.cells (S.map aG)))(pl:p<s0.aL)(al:a<s0.aL)(rl:r<s0.aL)(hx: ∀e lc s ov,cR 3 lo s ov (bse++lX L ((S.drop (i+1)).map fun y=>(x,y)))->oV s0 s->lo<=s.aL->ac e 3= .ptr p 0->ac e 4=ov->ac e 7= .arr 1 r 0 S.length S.length->ac e 36= .arr 1 r 0 S.length S.length->ac e 37=uM S.length->ac e 38=uM i->K (.exit 4) ⟨e,76,lc⟩ s):
 ∀(j c:List ag) (e:ax) (lc:Ag.Loc) (s:St) (ov:aa),S.drop (i+1)=c++j->cR 3 lo s ov (bse++lX L (c.map fun y=>(x,y)))->oV s0 s->lo<=s.aL->ac e 3= .ptr p 0->ac e 4=ov->ac e 7= .arr 1 r 0 S.length S.length->ac e 9= .str x->ac e 36= .arr 1 r 0 S.length S.length->ac e 37=uM S.length->ac e 38=uM i->ac e 46= .arr 1 r (i+1) (S.length-(i+1)) (S.length-(i+1))->ac e 47=ic ((S.length-(i+1):Nat):Int)->ac e 48=uM c.length->W Q 60 (.loop CH) ⟨e,76,lc⟩ s K:=by
 intro j;have a8:(S.drop (i+1)).length=S.length-(i+1):=List.length_drop
 induction j with
 |nil=>
  intro c e lc s ov Z hO C B M h4 h7 J I H F w u d;have c5:c.length=S.length-(i+1):=by rw[<-a8,Z];simp
  have c4:c=S.drop (i+1):=by rw[Z];simp
  refine bG ?_;simp only[go_sem,seval,CH,u,d,c5,cD];rw[c4] at hO;refine hx _ _ _ ov hO C B ?_ ?_ ?_ ?_ ?_ ?_
  all_goals simp only[sN,seval,M,h4,h7,I,H,F]
 |cons y j ih=>
  intro c e lc s ov Z hO C B M h4 h7 J I H F w u d;have V:c.length<S.length-(i+1):=by rw[<-a8,Z];simp
  have c6:S[i+1+c.length]? =some y:=by
   have:(S.drop (i+1))[c.length]? =some y:=by rw[Z];simp
   rw[List.getElem?_drop] at this;exact this
  have U:=dB (n:=c.length) (by omega);have z:=(C.old p pl (by rw[hp];simp)).trans hp;have a9:bR aa.str s a L:=(C.old a al (by rw[show s0.get [] a=_ from ha];simp)).trans ha;have c3:=(C.old r rl (by rw[hr];simp)).trans hr;have a0:yT ae 9 (i+1+c.length*1) (s.get [] r)=some (.str y):=by
   rw[c3,aY,iB,xU,List.head?_drop,jf,c6];rfl
  have hb:bm c.length (S.length-(i+1))=true:=cP V;have m:s.gt<=s.aL:=C.mw;have k1:=tK jA CU GX (s:=s.top) a9 x;have k2:=tK jA CU GX (s:=s.top) a9 y;have r1:=PU b0 x;have r2:=PU b0 y;obtain⟨v1,b8⟩: ∃v,(cI x L).getD .oZ=v:=⟨_,rfl⟩;obtain⟨v2,b2⟩: ∃v,(cI y L).getD .oZ=v:=⟨_,rfl⟩;rw[b8] at r1 k1;rw[b2] at r2 k2;have c1:=r1.ge;have c2:=r2.ge;have q1:zt [v1,v2]=some (cd (qa (mB L x) (mB L y))):=by simp only[zt,qx r1,qx r2,au]
  have b1:=hO.ge;have c8:(lX L (c.map fun y=>(x,y))).length<=c.length:=by
   unfold lX;rw[ce];refine fA (kT _ _) ?_;rw[ce];exact br _
  cases hz:an (qa (mB L x) (mB L y)) 0 with
  |false=>
   have Y:cR 3 lo s ov (bse++lX L ((c++[y]).map fun y=>(x,y))):=by
    have:lX L [(x,y)]=[]:=by unfold lX HP;rw[List.filter_cons_of_neg (by rw[hz];exact Bool.false_ne_true)];rfl
    rw[ff,QH];show cR 3 lo s ov (bse++(_++lX L [(x,y)]));rw[this,kC];exact hO
   refine bG ?_;simp only[go_sem,seval,CH,M,J,w,u,d,V,hb,m,cH,aW,a0,z,aY,xL];simp only[go_sem,seval,CH,m,M,J,d,z,U,aW,aY,xL,k1,k2,c1,c2,O,q1,cd,hz];refine ih (c++[y]) _ _ s ov (by rw[Z];simp) Y C B ?_ ?_ ?_ ?_ ?_ ?_ ?_ ?_ ?_ ?_
   all_goals simp only[sN,seval,M,h4,h7,J,I,H,F,w,u,sA]
  |true=>
   obtain⟨R,s1,a1,a2,a3,a4,a5,a6,a7⟩:=BL (t:=35) j6.1 rfl (by decide) (s:=s) (y:=.list 3 [fC 4 [x,y]] .uP) (x:=fC 4 [x,y]) hO (by simp only[afo,eE]) (by rw[cJ];omega) B C.mw;simp only[fC,fy,uB,aG] at a1;have Y:cR 3 lo s1 R (bse++lX L ((c++[y]).map fun y=>(x,y))):=by
    have:lX L [(x,y)]=[fC 4 [x,y]]:=by unfold lX HP;simp[hz]
    rw[ff,QH];show cR 3 lo s1 R (bse++(_++lX L [(x,y)]));rw[this,<-ny];exact a2
   refine bG ?_;simp only[go_sem,seval,CH,M,J,w,u,d,V,hb,m,cH,aW,a0,z,aY,xL];simp only[go_sem,seval,CH,m,M,J,d,z,U,aW,aY,xL,k1,k2,c1,c2,O,q1,cd,hz];simp only[go_sem,seval,aG,h4,J,d,U,b1,a1,a3,bj,bg,aZ,bf,evc];refine ih (c++[y]) _ _ s1 R (by rw[Z];simp) Y (C.app a4 a5 a6) (by omega) ?_ ?_ ?_ ?_ ?_ ?_ ?_ ?_ ?_ ?_
   all_goals simp only[sN,seval,M,h7,J,I,H,F,w,u,sA]
def O6(e:ax)(x:Operand)(d:Nat):fR e (some x) d=(ev e x).bind dS:=rfl
def O5(e:ax)(d:Nat):fR e none d=some d:=rfl
def Gf(n o:Nat):eB ae .eql 212 (.ptr n o) .nilp=some (.bool false):=by kernel_rfl
theorem EF(h:aC aR)(k:Int)(c:List ag):cL h 3 (fC k c)=some (fC k c):=by
 have e:cL h 2 (.list 1 (c.map aG) .uP)=some (.list 1 (c.map aG) .uP):=H1 h (by rw[Gj];rfl) fun v d=>by
  obtain⟨x,_,rfl⟩:=dy.1 d;rfl
 show(dL (cL h 2) [.str [],ic k,.list 1 (c.map aG) .uP]).bind (fun r=>some (aa.agg r))=_;rw[yF fun v d=>?_];rfl;simp only[fc,List.not_mem_nil,or_false] at d;rcases d with rfl|rfl|rfl
 rfl;rfl;exact e
def Km(l:List Obj)(k:ag):List Pt:=(vD l k).getD []
def HO(l:List Obj)(q:ag×ag):Bool:=an (qa (Km l q.1) (Km l q.2)) 0
def wF(l:List Obj):List ag:=(l.filter (oY l)).map Obj.id
def lK(l:List Obj):List ag:=(l.filter (ph l)).map Obj.id
def axw(l:List Obj):List aa:=(wF l).map (fun i=>fC 3 [i])++((vC (lK l)).filter (HO l)).map fun q=>fC 4 [q.1,q.2]
def DH(l:List Obj):aa:=fI 3 (axw l)
theorem XS{α:Type}{q:α×α}: ∀ {l:List α},q∈vC l->q.1∈l/\q.2∈l
 | [],h=>by cases h
 |a::l,h=>by
  rcases lj.1 h with h|h
  grind
  have:=XS h
  grind
theorem PB{α:Type}: ∀l:List α,(vC l).length<=l.length*l.length
 | []=>br _
 |a::l=>by
  have:=PB l
  grind [vC,Nat.succ_mul,Nat.mul_succ]
variable{k:ag}
theorem ZR(m:(l.map Obj.id).Nodup){L:List (ag×aa)}(hi:L.map (·.1)=lK l)(j: ∀x∈L, ∃o∈l,x.1=o.id/\ ∃r,tY l o=some r/\ay 2 aU x.2 r)(c:k∈lK l):mB L k=Km l k:=by
 rw[<-hi] at c;cases e:cI k L with
 |none=>
  obtain⟨x,d,rfl⟩:=dy.1 c;exfalso;have: ∀ {M:List (ag×aa)},x∈M->cI x.1 M≠none:=by
   intro M
   induction M with
   |nil=>intro h;cases h
   |cons y M u=>
    grind [cI]
  exact this d e
 |some v=>
  obtain⟨o,w,C,r,B,z⟩:=j _ (CM e)
  grind [mB,Km,vD,FR,qx]
theorem ag5(h:dD l=true)(p:Obj->Bool){c:List ag}(u:c.Perm ((l.filter p).map Obj.id)):lW c=(l.filter p).map Obj.id:=by
 simp only[dD,bu] at h;have j:(l.map (·.id)).Pairwise (fun a b=>lQ a b=true):=(H9 l [] h.1).2.imp fun m=>by
  grind [Go.Proofs.bytesLess_eq,lQ]
 have d:((l.filter p).map Obj.id).Pairwise (fun a b=>lQ a b=true):=j.sublist (List.filter_sublist.map _)
 grind [List.Perm.eq_of_pairwise,lQ,Qd,GG]
def anm(U:Q.spec 141=some zt){r:Nat}{L:List (ag×aa)}(a5:mh L){tot:List aa}(a8:tot.length+S.length<=900000){s0:St}(hp:s0.get [] p=some (.cells (.map a::c2)))(ha:bR aa.str s0 a L)(hr:s0.get [] r=some (.cells (S.map aG)))(pl:p<s0.aL)(al:a<s0.aL)(rl:r<s0.aL)(hx: ∀e lc s ov,cR 3 lo s ov tot->oV s0 s->ac e 4=ov->K (.exit 2) ⟨e,76,lc⟩ s):
 ∀(d c:List ag) (e:ax) (lc:Ag.Loc) (s:St) (ov:aa) (j:List aa),S=c++d->j++lX L (vC d)=tot->cR 3 lo s ov j->oV s0 s->lo<=s.aL->ac e 3= .ptr p 0->ac e 4=ov->ac e 7= .arr 1 r 0 S.length S.length->ac e 36= .arr 1 r 0 S.length S.length->ac e 37=uM S.length->ac e 38=uM c.length->W Q 60 (.loop Fv) ⟨e,76,lc⟩ s K:=by
 intro d
 induction d with
 |nil=>
  intro c e lc s ov j z y hO V F h3 h4 h7 R w u;have a1:c.length=S.length:=by rw[z];simp
  refine bG ?_;simp only[go_sem,seval,Fv,w,u,a1,cD];have y:j=tot:=by rw[<-y];exact(kC j).symm
  subst y;exact hx _ _ _ ov hO V (by simp only[sN,seval,h4])
 |cons x d ih=>
  intro c e lc s ov j z y hO V F h3 h4 h7 R w u;have m:c.length<S.length:=by rw[z];simp
  have M:S[c.length]? =some x:=by rw[z];simp
  have J:S.drop (c.length+1)=d:=by rw[z];simp
  have a9:j.length<=tot.length:=by rw[<-y,cJ];omega
  have B:=dB (n:=c.length) (by omega);have Z:=(V.old r rl (by rw[hr];simp)).trans hr;have I:yT ae 9 (0+c.length*1) (s.get [] r)=some (.str x):=by
   rw[Z,aY,iB,xU,Nat.zero_add,List.head?_drop,jf,M];rfl
  rw[Nat.zero_add] at I;have hb:bm c.length S.length=true:=cP m;have a4:bw (c.length+1) S.length=true:=cP m;have a3:bw S.length S.length=true:=cP (br _);have H:c.length+1<=S.length:=m;have a0:dS (ic (((c.length+1:Nat):Int)))=some (c.length+1):=rfl;refine bG ?_;simp only[go_sem,seval,Fv,h3,h7,R,w,u,m,hb,cH,iU,aW,I];simp only[go_sem,seval,Fv,h7,u,B,a4,a3,H,a0,PA,P8,O6,O5,yQ,iU,xU,br];refine ano U a5 (i:=c.length) (x:=x) (S:=S) (by omega) m M (bse:=j) (by omega) (s0:=s0) hp ha hr pl al rl ?_ d [] _ _ s ov J (by show cR 3 lo s ov (j++[]);rw[kC];exact hO) V F ?_ ?_ ?_ ?_ ?_ ?_ ?_ ?_ ?_ ?_
  ·intro e1 a7 s1 Y O a2 C g3 g4 g7 b1 b0 a6
   rw[J] at O;simp only[go_sem,seval,a6,B];refine ih (c++[x]) _ _ s1 Y _ (by rw[z];simp) ?_ O a2 C ?_ ?_ ?_ ?_ ?_ ?_;rw[ny,<-QH];exact y
   all_goals simp_all [sN]
  all_goals simp_all [sN]
  all_goals rfl
theorem adU(hK: ∀i,1000000<=Q.kmax i)(f2:Q.spec 31=some jK)(c9:Q.spec 229=some qe)(d0:Q.spec 141=some zt)(a6:No Q 137)(a4:No Q 139)(c8:Q.spec 230=none)(a3:Q.specW 230=some Dv)(z:Q.spec 140=none)(F:Q.specW 140=some GJ)(a5:No Q 138)(g0:No Q 60)(ho:ay 6 Obj.val ov l)(hg: ∀o∈l,o.oM)(hl:l.length<=900)(hr: ∀o∈l,o.gE.length<=999)(hv:dD l=true)(hm:s.gt<=s.aL):
 ∃v s',aq Q 60 [.agg [ov]] s v s'/\fY s'.heap v (DH l):=by
 have e8:=ho.cs;have c3:=yK hv;refine aq.ofNRZ ak4 (co ?_);simp only[go_sem,seval,e8,bj,bg,aZ,bf,evc];refine cG.ex (Yp f2 c9 a6 ho hg (by omega) (fun o ho=>by have:=hr o ho;omega) hv hm) (by decide) ?_;rintro v M ⟨rfl,s1,L,bv,I,f5⟩;have nx:=I.nx;have a1:=I.bad.isL;have f4:=a1.ge;have e9:=a1.lenS cH;have g8:(wF l).length<=900:=by unfold wF;rw[ce];have:=kT (oY l) l;omega
 have Z:=I.hp;have c7:mh L:=fun x hx=>let⟨_,_,_,r,_,h⟩:=I.rings x hx;⟨r,h⟩
 have f1:L.length<=900:=by
  have:=congrArg List.length I.ids;rw[ce,ce] at this
  have:=kT (ph l) l;omega
 have np:(aa.ptr (s.aL+2) 0)= .ptr (s.aL+2) 0:=rfl;have f3:(aa.nilp).ge=true:=rfl;simp only[go_sem,seval,Z,aW,aY,f4,e9,f3,Gf,bj,bg,aZ,bf,evc];refine am1 a1 (by show(wF l).length<=_;omega) (lo:=M.aL) (s0:=M) (pv:=.ptr (s.aL+2) 0) ?_ _ [] _ _ M .oZ rfl (.inl ⟨rfl,rfl⟩) (.refl I.mw) (br _) ?_ ?_ ?_ ?_ ?_
 ·intro e lc s3 R f0 a0 f6 e3 e4
  have a7:=(a0.old (s.aL+2) (by omega) (by rw[Z];simp)).trans Z;have b2:bR aa.str s3 s.aL L:=(a0.old s.aL (by omega) (by rw[show M.get [] s.aL=_ from I.ma];simp)).trans I.ma;have d1:=aq7 hK a4 c8 a3 a5 (by omega) c7 a7 b2 (by omega) (by omega) a0.mw;simp only[go_sem,seval,e3,bj,bg,aZ,bf,evc];refine cG.ex d1 (by decide) ?_;rintro v s4 ⟨c,y,O,a9,b0,b1,b8⟩;have vc:=O.ge;have f7:c.length<=900:=by rw[y.length_eq,ce];exact f1
  have hS:lW c=lK l:=ag5 hv (ph l) (by rw[<-I.ids];exact y);have V: ∃w d,aq Q 140 [v] s4 w d/\(w= .tup []/\kW 1 d v ((lK l).map aG)/\(∀k,k<s3.aL->d.get [] k=s3.get [] k)/\s3.aL<=d.aL/\d.gt<=d.aL):=by
   rcases O with⟨rfl,C⟩|⟨C,k,rfl,c5,e2⟩
   have C:=xT.1 C;subst C;exact⟨_,s4,aq.specW0 z (Std.H _) F rfl,rfl,.inl ⟨rfl,by rw[<-hS];rfl⟩,a9,b0,b1⟩;have g6:=b8 k rfl;have g5:(lW c).length=c.length:=(GG c).length_eq;have c6:bm (c.map aG).length 1000001=true:=cP (by rw[ce];omega);rw[AA] at c5;have e1:gm (s4.get []) (t6 (bif aQ (c.map aG).length (c.map aG).length&&bm (c.map aG).length 1000001 then(wD (c.map aG)).bind fun l=>some ((lW l).map aG) else none))=some (.agg ((lW c).map aG)):=by
    rw[c6,Nat.beq_refl,cw,cT,LP];rfl
   refine⟨_,_,aq.specW (n:=k) (cs':=(lW c).map aG) z (Std.H _) F rfl c5 e1,rfl,.inr ⟨fun e=>?_,k,?_,?_,e2⟩,fun j hj=>?_,?_,dh s4 k _ b1⟩
   grind [ce]
   grind
   rw[aX,bS,hS,AA];rfl
   grind [aX]
   exact b0
  simp only[go_sem,seval,vc,z,bj,bg,aZ,bf,evc];refine cG.ex V (by decide) ?_;rintro w d ⟨rfl,Y,m,g2,d5⟩;have a2:cR 3 M.aL d R ((wF l).map fun i=>fC 3 [i]):=by
   rcases f0 with h|⟨q1,k,q2,q3,q4,q5⟩
   exact .inl h;exact .inr ⟨q1,k,q2,(m k q5).trans q3,q4,by omega⟩
  have d2:=(m (s.aL+2) (by omega)).trans a7;have d6:bR aa.str d s.aL L:=(m s.aL (by omega)).trans b2;have hid:(lK l).length<=900:=by unfold lK;rw[ce];have:=kT (ph l) l;omega
  have u:(wF l).map (fun i=>fC 3 [i])++lX L (vC (lK l))=axw l:=by
   unfold axw lX;congr 2;refine List.filter_congr fun q hq=>?_;obtain⟨m1,m2⟩:=XS hq;unfold HP HO;rw[ZR c3 I.ids I.rings m1,ZR c3 I.ids I.rings m2]
  have d7:(axw l).length+(lK l).length<=900000:=by
   unfold axw;rw[cJ,ce,ce];have h1:=kT (HO l) (vC (lK l));have h2:=PB (lK l);have h3:(lK l).length*(lK l).length<=900*900:=rf hid hid;omega
  have d4:=a2.ge;have J: ∀(s':St) (U:aa),cR 3 M.aL s' U (axw l)->fY s'.heap U (DH l):=fun s' U hO=>by
   refine⟨4,AE hO fun v hv=>?_⟩
   grind [EF,axw]
  rcases Y with⟨rfl,C⟩|⟨C,r,rfl,c4,e0⟩
  have C:=xT.1 C;rw[C] at u;have B:cR 3 M.aL d R (axw l):=by rw[<-u];simpa[lX,vC] using a2
  simp only[go_sem,seval,cH,bj,bg,aZ,bf,evc];refine bG ?_;have e7:bc (0:Int) ((0:Nat):Int)=false:=rfl;have e5:bc (0:Int) 0=false:=rfl;simp only[go_sem,seval,Fv,cD,e4,d4,e7,e5];exact⟨_,rfl,J _ _ B⟩
  ·rw[ce]
   rw[AA] at c4;simp only[go_sem,seval,yQ,iU,bj,bg,aZ,bf,evc];refine anm d0 c7 (S:=lK l) (lo:=M.aL) (tot:=axw l) d7 (s0:=d) d2 d6 c4 (by omega) (by omega) e0 ?_ (lK l) [] _ _ d R _ rfl u a2 (.refl d5) (by omega) ?_ ?_ ?_ ?_ ?_ ?_;intro e6 g3 s6 g1 B g7 g4;have a8:=B.ge;simp only[go_sem,seval,g4,a8];exact⟨_,rfl,J _ _ B⟩
   all_goals simp_all [sN]
   all_goals rfl
 all_goals simp only[abc,alb,ah,bQ]
 all_goals rfl
def RF:dX:=[(31,jK),(229,qe),(141,zt)]
def ab5:dR RF:=.cons xd (.cons Kz (.cons apK .nil))
noncomputable def RT:sV:=[(230,Dv),(140,GJ)]
def acm:sW RT:=.cons aqU (.cons aq5 .nil)
def C2:Sp
 | [v]=>(lz v).bind fun l=>bif mU l then some (DH l) else none
 |_=>none
def anb:db ae 60 C2:=by
 intro args u c G h w xs B F;unfold C2 at c;split at c;simp only[ak] at c;obtain⟨l,y,c⟩:=c;obtain⟨d,c⟩:=bh c;have c:=sI c;subst c;obtain⟨v,rfl,y,z,J⟩:=rk y;obtain⟨H,C,j,m⟩:=qQ y z;have j:en [.agg [v]]=[.agg [C]]:=by simp only[en,j]
 have d:=pf.1 d;refine j9 ab5 acm (args:=[.agg [v]]) (by simp only[eO,H,cw]) (fun I=>?_) G h w xs B F;rw[j];exact adU (Q:=QW RF RT I) (fun _=>br _) rfl rfl rfl ⟨rfl,rfl⟩ ⟨rfl,rfl⟩ rfl rfl rfl rfl ⟨rfl,rfl⟩ ⟨rfl,rfl⟩ m z d.len d.gE d.valid (by decide);cases c
theorem FC(f:Obj->Bool)(g:Obj->aa)(k:ag): ∀ {l:List Obj},(l.map Obj.id).Nodup->cI k ((l.filter f).map fun o=>(o.id,g o))=(dP k l).bind fun q=>bif f q then some (g q) else none
 | [],_=>rfl
 |o::l,h=>by
  have c:=List.nodup_cons.1 h;have d:=FC f g k (l:=l) c.2
  grind [dP,cI,C4]
def Ih(o:Obj):Bool:=an o.nR 1
def AQ(l:List Obj)(o:Obj):Bool:=an o.nR 2&&o.gE.all (ei l)
def nU(l:List Obj):List (ag×aa):=(l.filter Ih).map fun o=>(o.id,aU (o.x,o.y))
def nm(l c:List Obj):List (ag×aa):=(c.filter (AQ l)).map fun o=>(o.id,o.refsV)
def Zo(h:(l.map Obj.id).Nodup)(k:ag): ∃z,oB (.agg [ic 0,ic 0]) (cI k (nU l))= .tup [.agg z,.bool (ei l k)]/\z.length=2/\dG z=true:=by
 unfold nU;rw[FC _ _ _ h];unfold ei pV;cases e:dP k l with
 |none=>exact⟨_,rfl,rfl,rfl⟩
 |some q=>
  simp only[au,Ih];cases hk:an q.nR 1 with
  |true=>exact⟨_,rfl,rfl,rfl⟩
  |false=>exact⟨_,rfl,rfl,rfl⟩
variable{c0:aa}
theorem anp(ho:ay 6 Obj.val ov l)(hl:l.length<=1000000)(F:(l.map Obj.id).Nodup){c2:aa}{s0:St}(hb:s0.get [] bx=some (.cells [.ptr p 0]))(hp:s0.get [] p=some (.cells [c0,.map a,c2]))(U:p≠a)(a1:bx≠a)(hx: ∀e lc s,ac e 4= .ptr bx 0->ac e 1= .rd 1 1 0->lc.gen 1=1->lc.get 1 1=some [ov]->eL a s0 s->bR aa.str s a (nU l)->K (.exit 0) ⟨e,64,lc⟩ s):
 ∀(d c:List Obj) (e:ax) (lc:Ag.Loc) (s:St),l=c++d->eL a s0 s->bR aa.str s a (nU c)->
  ac e 4= .ptr bx 0->ac e 1= .rd 1 1 0->lc.gen 1=1->lc.get 1 1=some [ov]->ac e 19=ov->ac e 20=uM l.length->ac e 21=uM c.length->W Q 142 (.loop It) ⟨e,64,lc⟩ s K:=by
 intro d
 induction d with
 |nil=>
  intro c e lc s w hb M h4 r1 g1 l1 B u m;have Z:c.length=l.length:=by rw[w];simp
  have R:c=l:=by rw[w];simp
  refine bG ?_;simp only[go_sem,seval,It,u,m,Z,cD];exact hx _ _ _ (by simp only[sN,seval,h4]) (by simp only[sN,seval,r1]) g1 l1 hb (by rw[<-R];exact M)
 |cons o d ih=>
  intro c e lc s w j M h4 r1 g1 l1 B u m;have H:c.length<l.length:=by rw[w];simp
  have a2:l[c.length]? =some o:=by rw[w];simp
  have J:=fun lc k=>ho.at gX.2.2.1 a2 lc k;have C:=dB (n:=c.length) (by omega);cases hk:an o.nR 1 with
  |false=>
   have e1:nU (c++[o])=nU c:=by unfold nU;rw[o9 (f:=Ih) hk]
   refine bG ?_;simp only[go_sem,seval,It,B,u,m,H,J,C,hk,Obj.val,Obj.cells];refine ih (c++[o]) _ _ s (by rw[w];simp) j (by rw[e1];exact M) ?_ ?_ ?_ ?_ ?_ ?_ ?_
   all_goals simp_all [sL]
  |true=>
   have V:cI o.id (nU c)=none:=by
    rw[w,ff] at F;unfold nU;rw[FC _ _ _ (wf.1 F).1,C4];rfl
    grind
   have a0:s.get [] bx=some (.cells [.ptr p 0]):=(j.old bx a1).trans hb;have O:s.get [] p=some (.cells [c0,.map a,c2]):=(j.old p U).trans hp;have Y:bR aa.str s.top a (nU c):=M;have z:=vU jA FJ Y o.id (aU (o.x,o.y));have I:fe o.id (aU (o.x,o.y)) (nU c)=nU (c++[o]):=by
    rw[vj V];unfold nU;rw[tm (f:=Ih) hk,ff];rfl
   rw[I] at z;simp only[aU] at z;refine bG ?_;simp only[go_sem,seval,It,h4,B,u,m,H,J,C,hk,a0,O,j.mw,aW,aY,Obj.val,Obj.cells,z];refine ih (c++[o]) _ _ _ (by rw[w];simp) (j.putT _) ?_ ?_ ?_ ?_ ?_ ?_ ?_ ?_;show St.get _ [] a=_;rw[mY,aX,bS];rfl
   all_goals simp_all [sL]
def am2(j:No Q 237)(d:(l.map Obj.id).Nodup){c2:aa}(w:s.get [] bx=some (.cells [.ptr p 0]))(u:s.get [] p=some (.cells [c0,.map a,c2]))(y:bR aa.str s a (nU l))(id:ag):aq Q 237 [.str id,.ptr bx 0] s (.bool (!ei l id)) s:=by
 have c:=yW jA FJ DL y id;obtain⟨z,m,B,H⟩:=Zo d id;rw[m] at c;obtain⟨F,C,rfl⟩: ∃a b,z=[a,b]:=by
  match z,B with
  | [a,b],_=>exact⟨a,b,rfl⟩
 refine aq.ofNZ ajm (co ?_);simp only[go_sem,seval,w,u,aW,aY,c,fh]
theorem ant(J:No Q 261)(M:No Q 167)(B:No Q 237)(ho:ay 6 Obj.val ov l)(hg: ∀o∈l,o.oM)(hl:l.length<=1000000)(hr: ∀o∈l,o.gE.length<=1000000)(F:(l.map Obj.id).Nodup){s0:St}(hb:s0.get [] bx=some (.cells [.ptr p 0]))(hp:s0.get [] p=some (.cells [c0,.map a,.map b]))(ha:bR aa.str s0 a (nU l))(a4:p≠b)(a9:bx≠b)(b1:a≠b)(hx: ∀e lc s,ac e 4= .ptr bx 0->eL b s0 s->bR aa.str s b (nm l l)->K (.exit 2) ⟨e,64,lc⟩ s):
 ∀(u c:List Obj) (e:ax) (lc:Ag.Loc) (s:St),l=c++u->eL b s0 s->bR aa.str s b (nm l c)->
  ac e 4= .ptr bx 0->ac e 38=ov->ac e 39=uM l.length->ac e 40=uM c.length->W Q 142 (.loop Iu) ⟨e,64,lc⟩ s K:=by
 intro u
 induction u with
 |nil=>
  intro c e lc s z hb I C w m j;have a8:c.length=l.length:=by rw[z];simp
  have a3:c=l:=by rw[z];simp
  refine bG ?_;simp only[go_sem,seval,Iu,m,j,a8,cD];exact hx _ _ _ (by simp only[sN,seval,C]) hb (by rw[a3] at I;exact I)
 |cons o u ih=>
  intro c e lc s z d I C w m j;have Y:c.length<l.length:=by rw[z];simp
  have a2:l[c.length]? =some o:=by rw[z];simp
  have V:=eP a2;have go:=hg o V;have rc:=go.gE.ge;have a0:=fun lc k=>ho.at gX.2.2.1 a2 lc k;have y:=dB (n:=c.length) (by omega);have a1:s.get [] bx=some (.cells [.ptr p 0]):=(d.old bx a9).trans hb;have U:s.get [] p=some (.cells [c0,.map a,.map b]):=(d.old p a4).trans hp;have b0:bR aa.str s a (nU l):=(d.old a b1).trans ha;have R:=M7 J M go.gE (hr o V) B.s (s:=s) (cap:=[.ptr bx 0]) (p:=fun x=> !ei l x) fun x _=>am2 B F a1 U b0 x;have skip:AQ l o=false->nm l (c++[o])=nm l c:=fun h=>by unfold nm;rw[o9 h]
  cases hk:an o.nR 2 with
  |false=>
   have e1:=skip (by unfold AQ;rw[hk];rfl);refine bG ?_;simp only[go_sem,seval,Iu,C,w,m,j,Y,a0,y,hk,Obj.val,Obj.cells];refine ih (c++[o]) _ _ s (by rw[z];simp) d (by rw[e1];exact I) ?_ ?_ ?_ ?_
   all_goals simp only[sN,seval,C,w,m,sA]
  |true=>
   refine lk ?_;simp only[go_sem,seval,Iu,C,w,m,j,Y,a0,hk,Obj.val,Obj.cells,rc,rR];refine cG.of R (by decide) ?_;cases hn:o.gE.all (ei l) with
   |false=>
    have e1:=skip (by unfold AQ;rw[hn,gN]);have H:(o.gE.any fun x=> !ei l x)=true:=by
     have:=BK (ei l) o.gE;rw[hn] at this;simpa using this
    simp only[go_sem,seval,j,y,H];refine ih (c++[o]) _ _ s (by rw[z];simp) d (by rw[e1];exact I) ?_ ?_ ?_ ?_
    all_goals simp only[sN,seval,C,w,m,sA]
   |true=>
    have hw:AQ l o=true:=by unfold AQ;rw[hk,hn];rfl
    have H:(o.gE.any fun x=> !ei l x)=false:=by
     have:=BK (ei l) o.gE;rw[hn] at this;simpa using this
    have a5:cI o.id (nm l c)=none:=by
     rw[z,ff] at F;unfold nm;rw[FC _ _ _ (wf.1 F).1,C4];rfl
     grind
    have a7:bR aa.str s.top b (nm l c):=I;have O:=vU jA FK a7 o.id o.refsV;have Z:fe o.id o.refsV (nm l c)=nm l (c++[o]):=by
     rw[vj a5];unfold nm;rw[tm hw,ff];rfl
    rw[Z] at O;have a6:=d.mw;simp only[go_sem,seval,j,y,H];refine iT a6 ?_;simp only[go_sem,NC,VN,seval,C,j,y,a1,U,aW,aY,rc,O];refine ih (c++[o]) _ _ _ (by rw[z];simp) (d.putT _) ?_ ?_ ?_ ?_ ?_;show St.get _ [] b=_;rw[mY,aX,bS];rfl
    all_goals simp only[sN,seval,C,w,m,sA]
structure sK (l:List Obj) (ov:aa) (p a b:Nat) (s:St):Prop where
 hp:s.get [] p=some (.cells [ov,.map a,.map b])
 ma:bR aa.str s a (nU l)
 mb:bR aa.str s b (nm l l)
def sK.mono(h:sK l ov p a b s)(c: ∀k,k<n->s'.get [] k=s.get [] k)(d:p<n)(m:a<n)(j:b<n):sK l ov p a b s':=
 ⟨(c p d).trans h.hp,(c a m).trans h.ma,(c b j).trans h.mb⟩
theorem QJ(d:(l.map Obj.id).Nodup)(j: ∀o∈l,o.oM)(m: ∀o∈l,an o.nR 2=true->2<=o.gE.length)(k:ag):(kB l k=none/\(cI k (nm l l)).getD .oZ= .oZ)\/ ∃r,kB l k=some r/\2<=r.length/\ ∃v,(cI k (nm l l)).getD .oZ=v/\ay 1 aG v r/\bL v=true:=by
 unfold nm kB;rw[FC _ _ _ d];cases e:dP k l with
 |none=>exact .inl ⟨rfl,rfl⟩
 |some q=>
  have c:=(tS e).1;simp only[au,AQ];cases hk:(an q.nR 2&&q.gE.all (ei l)) with
  |false=>exact .inl ⟨rfl,rfl⟩
  |true=>
   refine .inr ⟨q.gE,rfl,m q c ?_,q.refsV,rfl,(j q c).gE,(j q c).pr⟩
   grind
def aaq:eB ae .eql 25 .oZ .oZ=some (.bool true):=by kernel_rfl
def aqN(n:Nat)(xs:List aa)(r:oW):eB ae .eql 25 (.list n xs r) .oZ=some (.bool false):=by kernel_rfl
def ER{enc:α->aa}{l:List α}(h:ay n enc v l):v.cells=[v]:=by
 rcases h with⟨rfl,_⟩|⟨k,rfl⟩<;>rfl
def aqO(v:aa)(r:List ag)(c:ay 1 aG v r)(h:2<=r.length):eB ae .eql 25 v .oZ=some (.bool false):=by
 rcases c with⟨_,rfl⟩|⟨k,rfl⟩
 simp at h;exact aqN _ _ _
theorem anF(Y:Q.spec 31=some jK)(u:No Q 261)(B:No Q 167)(w:No Q 237)(a0:No Q 142)(d:ay 6 Obj.val ov l)(hg: ∀o∈l,o.oM)(hl:l.length<=900000)(hr: ∀o∈l,o.gE.length<=900000)(hv:dD l=true)(hm:s.gt<=s.aL):
 ∃v s',aq Q 142 [.agg [ov]] s v s'/\(v= .tup [.ptr (s.aL+2) 0,.bool true]/\sK l ov (s.aL+2) s.aL (s.aL+1) s'/\(∀k,k<s.aL->s'.get [] k=s.get [] k)/\s'.aL=s.aL+4/\s'.gt<=s'.aL):=by
 have a2:=ajJ;have H:=d.lenS gX;have I:=d.cs;have V:=ER d;have F:=yK hv;have q1:=A0 d hg (by omega);rw[hv] at q1;obtain⟨z,C⟩:=ct ((s.new (.map [] 0)).new (.map [] 0));have zn:z.aL=s.aL+2:=by rw[<-C];rfl
 have nn:(s.new (.map [] 0)).aL=s.aL+1:=rfl;obtain⟨y,j⟩:=ct (z.new (.cells [ov,.map s.aL,.map (s.aL+1)]));have yn:y.aL=s.aL+3:=by rw[<-j];show z.aL+1=_;omega
 obtain⟨x,J⟩:=ct ((y.new (.cells [.nilp])).put (s.aL+3) (some (.cells [.ptr (s.aL+2) 0])));have U:(y.new (.cells [.nilp])).get [] (s.aL+3)=some (.cells [.nilp]):=by rw[<-yn];exact cW
 have xn:x.aL=s.aL+4:=by rw[<-J];show y.aL+1=_;omega
 have M: ∀k,k<s.aL+3->x.get [] k=y.get [] k:=fun k R=>by grind [aX,cz]
 have xb:x.get [] (s.aL+3)=some (.cells [.ptr (s.aL+2) 0]):=by rw[<-J,aX,bS];rfl
 have xp:x.get [] (s.aL+2)=some (.cells [ov,.map s.aL,.map (s.aL+1)]):=by rw[M _ (by omega),<-j,<-zn];exact cW
 have xa:x.get [] s.aL=some (.map [] 0):=by rw[M _ (by omega),<-j,cz (by omega),<-C,cz (by omega)];exact cW
 have xw:x.get [] (s.aL+1)=some (.map [] 0):=by rw[M _ (by omega),<-j,cz (by omega),<-C,<-nn];exact cW
 have xs: ∀k,k<s.aL->x.get [] k=s.get [] k:=fun k R=>by grind [cz]
 have xm:x.gt<=x.aL:=by
  rw[<-J];refine dh _ _ _ ?_;rw[<-j,<-C];exact cq (cq (cq (cq hm)))
 refine aq.ofNRZ ah8 (co ?_);have Z:(aa.nilp).cells=[.nilp]:=rfl;simp only[go_sem,seval,Z,H,I,V,Y,q1,m7,wJ,Ei,L9,nn,C,zn,j,yn,dn,U,dp,J,bj,bg,aZ,bf,evc];refine anp d (by omega) F (p:=s.aL+2) (a:=s.aL) (bx:=s.aL+3) (c0:=ov) (c2:=.map (s.aL+1)) (s0:=x) xb xp (by omega) (by omega) ?_ l [] _ _ x rfl (.refl xm) xa ?_ ?_ ?_ ?_ ?_ ?_ ?_
 ·intro e lc O e4 r1 g1 l1 m hM
  have b1:=(m.old (s.aL+3) (by omega)).trans xb;have p1:=(m.old (s.aL+2) (by omega)).trans xp;have w1:bR aa.str O (s.aL+1) (nm l []):=(m.old (s.aL+1) (by omega)).trans xw;simp only[go_sem,seval,r1,l1,g1,H,I];refine ant u B w d hg (by omega) (fun o d=>by have:=hr o d;omega) F (p:=s.aL+2) (a:=s.aL) (b:=s.aL+1) (bx:=s.aL+3) (c0:=ov) (s0:=O) b1 p1 hM (by omega) (by omega) (by omega) ?_ l [] _ _ O rfl (.refl m.mw) w1 ?_ ?_ ?_ ?_;intro e2 a1 s2 e4 c hW;have b2:=(c.old (s.aL+3) (by omega)).trans b1;simp only[go_sem,seval,e4,b2,aW,aY];exact⟨_,rfl,rfl,⟨(c.old (s.aL+2) (by omega)).trans p1,(c.old s.aL (by omega)).trans hM,hW⟩,fun k R=>(c.old k (by omega)).trans ((m.old k (by omega)).trans (xs k R)),by rw[c.aL,m.aL,xn],c.mw⟩
  all_goals simp_all [sN]
 all_goals simp only[abc,alb,ah,bQ]
 all_goals rfl
theorem aqR(hg: ∀o∈l,o.oM)(a2:(l.map Obj.id).Nodup)(hw: ∀o∈l,an o.nR 2=true->2<=o.gE.length)(N:sK l ov p a b s)(go:o.oM)(hr:o.gE.length<=900000)(ht:ue l o=true-> ∀e lc,K (.exit 0) ⟨e,43,lc⟩ s)(hf:ue l o=false-> ∀e lc,ac e 4= .bool false->K .ret ⟨e,43,lc⟩ s):
 ∀(d c:List ag) (e:ax) (lc:Ag.Loc),o.gE=c++d->((ix c.length).zip c).all (fun q=>bif an o.nR 5&&q.1==1 then ei l q.2 else(kB l q.2).isSome)=true->ac e 0= .ptr p 0->ac e 3= .rd 3 1 0->lc.get 3 1=some o.cells->lc.gen 3=1->ac e 10=o.refsV->ac e 11=uM o.gE.length->ac e 12=uM c.length->W Q 143 (.loop wZ) ⟨e,43,lc⟩ s K:=by
 have step: ∀(c d:List ag) (r:ag),o.gE=c++r::d->((ix c.length).zip c).all (fun q=>bif an o.nR 5&&q.1==1 then ei l q.2 else(kB l q.2).isSome)=true->((bif an o.nR 5&&c.length==1 then ei l r else(kB l r).isSome)=true->((ix (c++[r]).length).zip (c++[r])).all (fun q=>bif an o.nR 5&&q.1==1 then ei l q.2 else(kB l q.2).isSome)=true)/\((bif an o.nR 5&&c.length==1 then ei l r else(kB l r).isSome)=false->ue l o=false):=by
  intro c d r O h2;have e1:(ix (c++[r]).length).zip (c++[r])=(ix c.length).zip c++[(c.length,r)]:=by
   rw[cJ,bH,bn,List.range_succ,List.zip_append (by simp)];rfl
  refine⟨fun h=>by grind,fun h=>?_⟩;unfold ue;have hm:(c.length,r)∈(ix o.gE.length).zip o.gE:=by
   refine eP (i:=c.length) ?_;rw[La];refine⟨?_,by rw[O];simp⟩;rw[List.getElem?_range];rw[O];simp
  cases hc:((ix o.gE.length).zip o.gE).all fun p=>bif an o.nR 5&&p.1==1 then ei l p.2 else(kB l p.2).isSome with
  |false=>rfl
  |true=>
   grind
 intro d
 induction d with
 |nil=>
  intro c e lc O h2 M J H R u m w;have a4:c.length=o.gE.length:=by rw[O];simp
  have b2:c=o.gE:=by rw[O];simp
  refine bG ?_;simp only[go_sem,seval,wZ,m,w,a4,cD]
  grind [ue]
 |cons r d ih=>
  intro c e lc O h2 M J H R u m w;have B:c.length<o.gE.length:=by rw[O];simp
  have a5:o.gE[c.length]? =some r:=by rw[O];simp
  have C:=fun lc k=>go.gE.at cH.2.2.1 a5 lc k;have Y:=dB (n:=c.length) (by omega);obtain⟨st,sf⟩:=step c d r O h2;have y:=N.hp;have U:an ((c.length:Nat):Int) 1=(c.length==1):=by
   unfold an;by_cases h:c.length=1;rw[h];rfl
   grind
  have next: ∀(V:ax) (F:Ag.Loc),(bif an o.nR 5&&c.length==1 then ei l r else(kB l r).isSome)=true->ac V 0= .ptr p 0->ac V 3= .rd 3 1 0->F.get 3 1=some o.cells->F.gen 3=1->ac V 10=o.refsV->ac V 11=uM o.gE.length->ac V 12=ic ((c.length+1:Nat):Int)->W Q 143 (.loop wZ) ⟨V,43,F⟩ s K:=fun V F hc e0 e3 a6 a7 b0 a9 a8=>
   ih (c++[r]) V F (by rw[O];simp) (st hc) e0 e3 a6 a7 b0 a9 (by rw[a8];simp)
  simp only[Obj.cells] at H;cases h5:(an o.nR 5&&c.length==1) with
  |true=>
   have I:=h5;simp only[bu] at I;rw[h5,cT] at next sf
   have j:=yW jA FJ DL N.ma r;obtain⟨z,hz,a3,b1⟩:=Zo a2 r;rw[hz] at j;obtain⟨z1,z2,rfl⟩: ∃a b,z=[a,b]:=by
    match z,a3 with
    | [a,b],_=>exact⟨a,b,rfl⟩
   cases Z:ei l r with
   |false=>
    rw[Z] at j;refine bG ?_;simp only[go_sem,seval,wZ,aG,M,J,H,R,u,m,w,B,C,U,I.1,I.2,y,aW,aY,j,fh]
    grind [aj]
   |true=>
    rw[Z] at j;refine bG ?_;simp only[go_sem,seval,wZ,aG,M,J,H,R,u,m,w,B,C,U,I.1,I.2,y,aW,aY,j,fh,Y];refine next _ _ Z ?_ ?_ ?_ ?_ ?_ ?_ ?_
    all_goals simp only[sL,seval,M,J,H,R,u,m,Obj.cells]
  |false=>
   rw[h5,cF] at next sf
   have j:=tK jA FK v8 N.mb r;rcases QJ a2 hg hw r with⟨w1,w2⟩|⟨rr,w1,w2,v,w3,w4,w5⟩
   rw[w2] at j;have Z:(kB l r).isSome=false:=by rw[w1];rfl
   cases hk5:an o.nR 5 with
   |false=>
    refine bG ?_;simp only[go_sem,seval,wZ,aG,M,J,H,R,u,m,w,B,C,hk5,y,aW,aY,j,aaq]
    grind [aj]
   |true=>
    have a0:(c.length==1)=false:=by rw[hk5,eH] at h5;exact h5
    refine bG ?_;simp only[go_sem,seval,wZ,aG,M,J,H,R,u,m,w,B,C,U,hk5,a0,y,aW,aY,j,aaq]
    grind [aj]
   ·rw[w3] at j
    have vc:=w4.ge;have Z:(kB l r).isSome=true:=by rw[w1];rfl
    have a1:=aqO v rr w4 w2;cases hk5:an o.nR 5 with
    |false=>
     refine bG ?_;simp only[go_sem,seval,wZ,aG,M,J,H,R,u,m,w,B,C,hk5,y,aW,aY,j,vc,a1,Y];refine next _ _ Z ?_ ?_ ?_ ?_ ?_ ?_ ?_
     all_goals simp only[sL,seval,M,J,H,R,u,m,Obj.cells]
    |true=>
     have a0:(c.length==1)=false:=by rw[hk5,eH] at h5;exact h5
     refine bG ?_;simp only[go_sem,seval,wZ,aG,M,J,H,R,u,m,w,B,C,U,hk5,a0,y,aW,aY,j,vc,a1,Y];refine next _ _ Z ?_ ?_ ?_ ?_ ?_ ?_ ?_
     all_goals simp only[sL,seval,M,J,H,R,u,m,Obj.cells]
def ara(m:No Q 143)(z: ∀o∈l,o.oM)(d:(l.map Obj.id).Nodup)(w: ∀o∈l,an o.nR 2=true->2<=o.gE.length)(N:sK l ov p a b s)(go:o.oM)(y:o.gE.length<=900000):aq Q 143 [.ptr p 0,o.val] s (.bool (ue l o)) s:=by
 have u:=go.all;have j:=go.gE.lenS cH;refine aq.ofNZ ah9 (co ?_);simp only[go_sem,seval,Obj.val,Obj.cells,u,j];refine aqR z d w N go y ?_ ?_ o.gE [] _ _ rfl rfl ?_ ?_ ?_ ?_ ?_ ?_ ?_;intro c e lc;simp only[go_sem,seval,c];intro c e lc B;simp only[go_sem,seval,B,c]
 all_goals simp_all [aj,dj,cY,Obj.cells]
def asN{l:List Obj}(c:gH o=true)(d:an o.nR 2=true):2<=o.gE.length:=by
 have d:o.nR=2:=by simpa[an] using d
 unfold gH at c;cases hb:oo o with
 |true=>rw[hb] at c;cases c
 |false=>
  simp only[oo,v9,decide_eq_false_iff_not] at hb;have h:=hb.1.2;rw[d] at h;have j:tJ 2=2:=by decide
  omega
def agU(lc:Ag.Loc)(m o:Nat)(i:aa):ja ae lc 196 (.ptr m o) i=(dS i).bind fun i=>bif bm i 2 then some (.ptr m (o+i*1)) else none:=by kernel_rfl
def Nc(lc:Ag.Loc)(m o:Nat)(i:aa):ja ae lc 306 (.ptr m o) i=(dS i).bind fun i=>bif bm i 2 then some (.ptr m (o+i*1)) else none:=by kernel_rfl
def amx(U:No Q 145)(j:Q.spec 130=some pP)(hg: ∀o∈l,o.oM)(M:(l.map Obj.id).Nodup)(hw: ∀o∈l,an o.nR 2=true->2<=o.gE.length)(O: ∀o∈l,o.gE.length<=900000)(N:sK l ov p a b s)(C:s.gt<=s.aL)(go:o.oM)(hr:o.gE.length=3):aq Q 145 [.ptr p 0,o.val] s (.bool (GP l o)) s:=by
 have V:=go.all;obtain⟨I,m,H,d⟩: ∃x y z,o.gE=[x,y,z]:=by
  match h:o.gE,hr with
  | [x,y,z],_=>exact⟨x,y,z,rfl⟩
 have i0: ∀lc,ja ae lc 25 o.refsV (ic 0)=some (.ro [.str I]):=fun lc=>go.gE.at cH.2.2.1 (i:=0) (by rw[d];rfl) lc .i64;have i1: ∀lc,ja ae lc 25 o.refsV (ic 1)=some (.ro [.str m]):=fun lc=>go.gE.at cH.2.2.1 (i:=1) (by rw[d];rfl) lc .i64;have i2: ∀lc,ja ae lc 25 o.refsV (ic 2)=some (.ro [.str H]):=fun lc=>go.gE.at cH.2.2.1 (i:=2) (by rw[d];rfl) lc .i64;have B:=N.hp;have u: ∀k, ∃v r,(cI k (nm l l)).getD .oZ=v/\(kB l k).getD []=r/\ay 1 aG v r/\r.length<=1000000:=fun k=>by
  rcases QJ M hg hw k with⟨c,R⟩|⟨rr,c,R,v,w3,w4,w5⟩
  exact⟨.oZ,[],R,by rw[c];rfl,.inl ⟨rfl,rfl⟩,by simp⟩;refine⟨v,rr,w3,by rw[c];rfl,w4,?_⟩;unfold kB at c;cases e:dP k l with
  |none=>rw[e] at c;cases c
  |some q=>
   rw[e] at c;simp only[au] at c;obtain⟨_,c⟩:=bh c;injection c with c;subst c
   have:=O q (tS e).1;omega
 obtain⟨v0,Y,a0,b0,c0,d0⟩:=u I;obtain⟨v2,q2,a2,b2,c2,d2⟩:=u H;have J:=tK jA FK v8 (s:=s.top) N.mb I;have Z:=tK jA FK v8 (s:=s.top) N.mb H;rw[a0] at J;rw[a2] at Z;have w:=c0.ge;have F:=c2.ge;have s0:=Mu c0 d0 m;have s2:=Mu c2 d2 m;have ht:GP l o=(Y.contains m&&q2.contains m):=by
  unfold GP;rw[d];simp only[List.getD_cons_zero,List.getD_cons_succ,b0,b2]
 refine aq.ofNZ aic (co ?_);cases e0:Y.contains m with
 |false=>
  rw[e0] at s0;simp only[go_sem,seval,Obj.val,Obj.cells,V,C,B,aW,aY,xL,i0,i1,J,w,j,s0,ht,e0]
 |true=>
  rw[e0] at s0;simp only[go_sem,seval,Obj.val,Obj.cells,V,C,B,aW,aY,xL,i0,i1,i2,J,Z,w,F,j,s0,s2,ht,e0]
variable{bo:Nat}
def ZJ(j:No Q 238){m:Nat}{x y:Bool}{d c:ag}(z:s.get [] bo=some (.cells [.bool x,.bool y]))(B:s.get [] m=some (.cells [.str d,.str c]))(k:ag):aq Q 238 [.str k,.ptr bo 0,.ptr m 0] s (.bool ((x&&d==k)||(y&&c==k))) s:=by
 have w:dS (ic 0)=some 0:=rfl;have u:dS (ic 1)=some 1:=rfl;refine aq.ofNZ ajo (co ?_);cases x<;>cases y<;>cases h1:d==k<;>cases h2:c==k<;>
  simp only[go_sem,seval,z,B,aW,aY,w,u,Nc,agU,h1,h2,Bool.or_self]
def mR(l:List Obj)(r:ag):ag×ag:=Av ((kB l r).getD [])
def nj(l:List Obj)(c:List ag):ag×ag×Bool×Bool:=match c.map (mR l) with
 | []=>([],[],true,true)
 |e::r=>r.foldl Bn (e.1,e.2,true,true)
def ard(l:List Obj){c:List ag}(r:ag)(h:c≠ []):nj l (c++[r])=Bn (nj l c) (mR l r):=by
 cases c with
 |nil=>exact absurd rfl h
 |cons x c=>
  simp_all [nj]
theorem aev(l:List Obj)(o:Obj):Et l o=((nj l o.gE).2.2.1||(nj l o.gE).2.2.2):=by
 have e:(o.gE.map fun r=>Av ((kB l r).getD []))=o.gE.map (mR l):=rfl
 grind [Et,nj]
theorem asP{r:List ag}(h:2<=r.length):r[0]? =some (Av r).1/\r[r.length-1]? =some (Av r).2:=by
 cases r with
 |nil=>simp at h
 |cons x r=>
  grind [Av]
theorem aew(M:No Q 238)(hg: ∀o∈l,o.oM)(a7:(l.map Obj.id).Nodup)(hw: ∀o∈l,an o.nR 2=true->2<=o.gE.length)(b2: ∀o∈l,o.gE.length<=900000){s0:St}(N:sK l ov p a b s0)(pl:p<lo)(al:a<lo)(bl:b<lo)(go:o.oM)(hr:o.gE.length<=900000)(hs: ∀r∈o.gE,(kB l r).isSome=true)(hx: ∀e lc s,ac e 6= .ptr (lo+1) 0->s.get [] (lo+1)=some (.cells [.bool (nj l o.gE).2.2.1,.bool (nj l o.gE).2.2.2])->(∀k,k<lo->s.get [] k=s0.get [] k)->s.aL=lo+2->s.gt<=s.aL->K (.exit 0) ⟨e,60,lc⟩ s):
 ∀(j c:List ag) (e:ax) (lc:Ag.Loc) (s:St),o.gE=c++j->s.get [] lo=some (.cells [.str (nj l c).1,.str (nj l c).2.1])->s.get [] (lo+1)=some (.cells [.bool (nj l c).2.2.1,.bool (nj l c).2.2.2])->(∀k,k<lo->s.get [] k=s0.get [] k)->s.aL=lo+2->s.gt<=s.aL->ac e 0= .ptr p 0->ac e 5= .ptr lo 0->ac e 6= .ptr (lo+1) 0->ac e 15=o.refsV->ac e 16=uM o.gE.length->ac e 17=uM c.length->W Q 144 (.loop Iv) ⟨e,60,lc⟩ s K:=by
 intro j
 induction j with
 |nil=>
  intro c e lc s V B d I hn z r0 Z Y J C m;have a9:c.length=o.gE.length:=by rw[V];simp
  have a6:c=o.gE:=by rw[V];simp
  refine bG ?_;simp only[go_sem,seval,Iv,C,m,a9,cD];rw[a6] at d;exact hx _ _ _ (by simp only[sN,seval,Y]) d I hn z
 |cons r j ih=>
  intro c e lc s V B d I hn z r0 Z Y J C m;have a3:c.length<o.gE.length:=by rw[V];simp
  have a5:o.gE[c.length]? =some r:=by rw[V];simp
  have a4:=fun lc k=>go.gE.at cH.2.2.1 a5 lc k;have a0:=dB (n:=c.length) (by omega);have a1:=hs r (eP a5);obtain⟨rr,w1,w2,v,w3,w4,w5⟩:=(QJ a7 hg hw r).resolve_left fun h=>by rw[h.1] at a1;cases a1
  have b1:rr.length<=900000:=by
   unfold kB at w1;cases e:dP r l with
   |none=>rw[e] at w1;cases w1
   |some q=>
    grind [tS]
  have he:mR l r=Av rr:=by unfold mR;rw[w1];rfl
  obtain⟨f0,f1⟩:=asP w2;rw[<-he] at f0 f1;have i0: ∀lc,ja ae lc 25 v (ic 0)=some (.ro [.str (mR l r).1]):=fun lc=>w4.at cH.2.2.1 (i:=0) f0 lc .i64;have i1: ∀lc,ja ae lc 25 v (ic ((rr.length-1:Nat):Int))=some (.ro [.str (mR l r).2]):=fun lc=>w4.at cH.2.2.1 f1 lc .i64;have O:IntKind.i64.wrap (((rr.length:Nat):Int)-1)=((rr.length-1:Nat):Int):=by rw[iC (by omega) (by omega)];omega
  have R:=w4.lenS cH;have vc:=w4.ge;have a2:=(I p pl).trans N.hp;have a8:bR aa.str s b (nm l l):=(I b bl).trans N.mb;have U:=tK jA FK v8 a8 r;rw[w3] at U;cases hz:an ((c.length:Nat):Int) 0 with
  |true=>
   have H:c=[]:=by
    have:((c.length:Nat):Int)=0:=by simpa[an] using hz
    exact uv (by omega)
   obtain⟨u,F⟩:=ct (s.put lo (some (.cells [.str (mR l r).1,.str (mR l r).2])));refine bG ?_;simp only[go_sem,seval,Iv,aG,r0,J,C,m,a3,a4,a2,aW,aY,U,vc,z,i0,i1,R,O,hz,bj,bg,aZ,bf,evc];simp only[go_sem,seval,Z,m,a0,B,dn,dp,F,bj,bg,aZ,bf,evc];have e1:nj l (c++[r])=((mR l r).1,(mR l r).2,true,true):=by rw[H];rfl
   refine ih (c++[r]) _ _ u (by rw[V];simp) ?_ ?_ (fun k hk=>?_) ?_ ?_ ?_ ?_ ?_ ?_ ?_ ?_;rw[e1,<-F,aX,bS];rfl;rw[e1,<-F,aX,bN.2 (by omega:lo+1≠lo)];rw[H] at d;exact d
   grind [aX]
   rw[<-F];exact hn;rw[<-F];exact dh s lo _ z
   all_goals simp_all [sN]
  |false=>
   have H:c≠ []:=fun e=>by rw[e] at hz;cases hz
   have c1:=ZJ M (s:=s) d B (mR l r).2;have c2:=ZJ M (s:=s) d B (mR l r).1;obtain⟨u,F⟩:=ct (s.put lo (some (.cells [.str (mR l r).1,.str (mR l r).2])));have b0:u.get [] (lo+1)=some (.cells [.bool (nj l c).2.2.1,.bool (nj l c).2.2.2]):=by rw[<-F,aX,bN.2 (by omega:lo+1≠lo)];exact d
   obtain⟨w,y⟩: ∃w,u.put (lo+1) (some (.cells [.bool (Bn (nj l c) (mR l r)).2.2.1,.bool (Bn (nj l c) (mR l r)).2.2.2]))=w:=⟨_,rfl⟩;simp only[Bn] at y;refine bG ?_;simp only[go_sem,seval,Iv,aG,r0,J,C,m,a3,a4,a2,aW,aY,U,vc,z,i0,i1,R,O,hz,bj,bg,aZ,bf,evc];simp only[go_sem,seval,Z,Y,rR,bj,bg,aZ,bf,evc];refine cG.of c1 (by decide) ?_;simp only[go_sem,seval,Z,Y];refine cG.of c2 (by decide) ?_;simp only[go_sem,seval,Z,Y,m,a0,B,b0,dn,dp,F,y,bj,bg,aZ,bf,evc];have e1:=ard l r H;refine ih (c++[r]) _ _ w (by rw[V];simp) ?_ ?_ (fun k hk=>?_) ?_ ?_ ?_ ?_ ?_ ?_ ?_ ?_;rw[e1,<-y,aX,bN.2 (by omega:lo≠lo+1),<-F,cF,aX,bS];rfl;rw[e1,<-y,aX,bS];rfl
   grind [aX]
   rw[<-y,<-F];exact hn
   grind [dh]
   all_goals simp only[sN,seval,r0,Z,Y,J,C,sA]
theorem aeu(I:No Q 144)(c:No Q 238)(hg: ∀o∈l,o.oM)(u:(l.map Obj.id).Nodup)(hw: ∀o∈l,an o.nR 2=true->2<=o.gE.length)(B: ∀o∈l,o.gE.length<=900000)(N:sK l ov p a b s)(pl:p<s.aL)(al:a<s.aL)(bl:b<s.aL)(w:s.gt<=s.aL)(go:o.oM)(hr:o.gE.length<=900000)(hs: ∀r∈o.gE,(kB l r).isSome=true):
 ∃v s',aq Q 144 [.ptr p 0,o.val] s v s'/\(v= .bool (Et l o)/\(∀k,k<s.aL->s'.get [] k=s.get [] k)/\s.aL<=s'.aL/\s'.gt<=s'.aL):=by
 have rc:=go.all;have C:=go.gE.lenS cH;have M:dS (ic 0)=some 0:=rfl;have J:dS (ic 1)=some 1:=rfl;obtain⟨z,j⟩:=ct (s.new (.cells [.str [],.str []]));have H:z.aL=s.aL+1:=by rw[<-j];rfl
 obtain⟨y,d⟩:=ct ((z.new (.cells [.bool false,.bool false])).put (s.aL+1) (some (.cells [.bool true,.bool true])));have F:(z.new (.cells [.bool false,.bool false])).get [] (s.aL+1)=some (.cells [.bool false,.bool false]):=by rw[<-H];exact cW
 have U:y.aL=s.aL+2:=by rw[<-d];show z.aL+1=_;omega
 have Y:y.get [] (s.aL+1)=some (.cells [.bool true,.bool true]):=by rw[<-d,aX,bS];rfl
 have Z:y.get [] s.aL=some (.cells [.str [],.str []]):=by rw[<-d,aX,bN.2 (by omega:s.aL≠s.aL+1),cF,cz (by omega),<-j];exact cW
 have R: ∀k,k<s.aL->y.get [] k=s.get [] k:=fun k hk=>by grind [aX,cz]
 have V:y.gt<=y.aL:=by
  rw[<-d,<-j];exact dh _ _ _ (cq (cq w))
 refine aq.ofNRZ aia (co ?_);simp only[go_sem,seval,Obj.val,Obj.cells,rc,C,j,H,dn,F,dp,d,bj,bg,aZ,bf,evc];refine aew c hg u hw B (lo:=s.aL) (s0:=s) N pl al bl go hr hs ?_ o.gE [] _ _ y rfl Z Y R U V ?_ ?_ ?_ ?_ ?_ ?_;intro e lc s1 O m a2 a0 a1;rw[aev];cases e1:(nj l o.gE).2.2.1 with
 |true=>
  rw[e1] at m;simp only[go_sem,seval,O,m,aW,aY,M,J,Nc]
  grind
 |false=>
  rw[e1] at m;simp only[go_sem,seval,O,m,aW,aY,M,J,Nc]
  grind
 all_goals simp only[abc,alb,ah,bQ]
 all_goals rfl
def Yo: ∀(l:List Obj) (last:ag),nP last l=true-> ∀q∈l,gH q=true
 | [],_,_,q,h=>by cases h
 |o::r,last,h,q,c=>by
  simp only[nP] at h;cases hb:(!gH o||Ag.leBytes o.id last) with
  |true=>rw[hb] at h;cases h
  |false=>
   rw[hb] at h;rcases fc.1 c with rfl|c
   simp only[v9,Bool.not_eq_false'] at hb;exact hb.1;exact Yo r o.id h q c
def XI(h:dD l=true)(c:o∈l):gH o=true:=by
 simp only[dD,bu] at h;exact Yo l [] h.1 o c
def arP(c:gH o=true)(j:an o.nR 5=true):o.gE.length=3:=by
 have d:o.nR=5:=by simpa[an] using j
 unfold gH at c;cases hb:oo o with
 |true=>rw[hb] at c;cases c
 |false=>
  rw[hb] at c;cases ha:pK o.nR [] [] o.gE with
  |true=>rw[ha] at c;cases c
  |false=>
   have m:an o.nR 1=false:=by rw[d];rfl
   rw[ha,m,j] at c;simp only[cF,cT,bu] at c;exact eq_of_beq c.1
def od(l:List Obj)(o:Obj):Bool:=an o.nR 4&&(ue l o&& !Et l o)
def mn(l:List Obj)(o:Obj):Bool:=an o.nR 5&&(ue l o&& !GP l o)
def X6(l:List Obj):List aa:=(l.filter (od l)).map (fun o=>fC 5 [o.id])++(l.filter (mn l)).map (fun o=>fC 6 [o.id])
def GQ(l:List Obj):aa:=fI 3 (X6 l)
structure sR (lo:Nat) (s:St) (ov cv:aa) (xs ys:List aa):Prop where
 l:cR 3 lo s ov xs
 r:cR 3 lo s cv ys
 ne: ∀k,ov= .list 3 xs (.own k)->cv= .list 3 ys (.own k)->False
variable{ys:List aa}{cv:aa}
def sR.swap(h:sR lo s ov cv xs ys):sR lo s cv ov ys xs:=⟨h.r,h.l,fun k a b=>h.ne k b a⟩
def sR.left(h:sR lo s ov cv xs ys)(B:s.gt<=s.aL)(m:lo<=s.aL)(w:xs.length<=900000)(x:aa):
 ∃c s',fF ae [] 35 ov (.list 3 [x] .uP) false s=some (c,s')/\sR lo s' c cv (xs++[x]) ys/\c.cells=[c]/\s.aL<=s'.aL/\s'.gt<=s'.aL/\ ∀n,n<lo->s'.get [] n=s.get [] n:=by
 obtain⟨s',R,O,Z,Y,M,z⟩:=Sh j6.1 rfl (by decide) (y:=.list 3 [x] .uP) (ys:=[x]) h.l (by simp only[afo,eE]) (by simp) (by rw[List.length_singleton];omega) B;refine⟨_,s',R,⟨.inr ⟨by simp,s.aL,rfl,O,m,by omega⟩,?_,fun k d j=>?_⟩,rfl,by omega,M,fun n V=>z n (by omega) fun k C=>by have:=(h.l.token C).1;omega⟩;rcases h.r with J|⟨d,k,j,I,H,F⟩
 exact .inl J;refine .inr ⟨d,k,j,(z k F fun U u e=>?_).trans I,H,by omega⟩;subst e;exact h.ne k u j;injection d with _ _ d;injection d with d
 have:=(h.r.token j).2.1;omega
def sR.keep(h:sR lo s ov cv xs ys)(y: ∀k,k<s.aL->s'.get [] k=s.get [] k)(z:s.aL<=s'.aL):sR lo s' ov cv xs ys:=by
 refine⟨?_,?_,h.ne⟩;rcases h.l with w|⟨u,k,m,j,d,c⟩
 exact .inl w;exact .inr ⟨u,k,m,(y k c).trans j,d,by omega⟩;rcases h.r with w|⟨u,k,m,j,d,c⟩
 exact .inl w;exact .inr ⟨u,k,m,(y k c).trans j,d,by omega⟩
def alp{a b c:Int}(h:an a b=true)(d:b≠c):an a c=false:=by
 have h:a=b:=by simpa[an] using h
 subst h;exact bN.2 d
def anf(c3:No Q 143)(b8:No Q 144)(b1:No Q 238)(b2:No Q 145)(c9:Q.spec 130=some pP)(ho:ay 6 Obj.val ov l)(hg: ∀o∈l,o.oM)(hl:l.length<=900000)(O: ∀o∈l,o.gE.length<=900000)(hv:dD l=true){s0:St}(N:sK l ov p a b s0)(pl:p<lo)(al:a<lo)(bl:b<lo)(hx: ∀e lc s rv tv,sR lo s rv tv ((l.filter (od l)).map fun o=>fC 5 [o.id]) ((l.filter (mn l)).map fun o=>fC 6 [o.id])->lo<=s.aL->s.gt<=s.aL->ac e 5=rv->ac e 6=tv->K (.exit 0) ⟨e,73,lc⟩ s):
 ∀(z c:List Obj) (e:ax) (lc:Ag.Loc) (s:St) (rv tv:aa),l=c++z->sR lo s rv tv ((c.filter (od l)).map fun o=>fC 5 [o.id]) ((c.filter (mn l)).map fun o=>fC 6 [o.id])->(∀k,k<lo->s.get [] k=s0.get [] k)->lo<=s.aL->s.gt<=s.aL->ac e 3= .ptr p 0->ac e 5=rv->ac e 6=tv->ac e 19=ov->ac e 20=uM l.length->ac e 21=uM c.length->W Q 61 (.loop yO) ⟨e,73,lc⟩ s K:=by
 have a7:=yK hv;have hw: ∀o∈l,an o.nR 2=true->2<=o.gE.length:=fun o ho R=>asN (l:=l) (XI hv ho) R;intro z
 induction z with
 |nil=>
  intro c e lc s rv tv V T F a9 w u J I m j d;have d7:c.length=l.length:=by rw[V];simp
  have d4:c=l:=by rw[V];simp
  refine bG ?_;simp only[go_sem,seval,yO,j,d,d7,cD];rw[d4] at T;exact hx _ _ _ rv tv T a9 w (by simp only[sN,seval,J]) (by simp only[sN,seval,I])
 |cons o z ih=>
  intro c e lc s rv tv V T F a9 w u J I m j d;have a8:c.length<l.length:=by rw[V];simp
  have c8:l[c.length]? =some o:=by rw[V];simp
  have M:=eP c8;have go:=hg o M;have rc:=go.all;have b0:=fun lc k=>ho.at gX.2.2.1 c8 lc k;have y:=dB (n:=c.length) (by omega);have Ns:sK l ov p a b s:=N.mono F pl al bl;have H:=ara c3 hg a7 hw Ns go (O o M);have c5:=T.l.ge;have c4:=T.r.ge;have lr:((c.filter (od l)).map fun o=>fC 5 [o.id]).length<=900000:=by
   rw[ce];have:=kT (od l) c;omega
  have lt:((c.filter (mn l)).map fun o=>fC 6 [o.id]).length<=900000:=by
   rw[ce];have:=kT (mn l) c;omega
  have fin: ∀(U:ax) (a0:Ag.Loc) (s':St),od l o=false->mn l o=false->(∀k,k<s.aL->s'.get [] k=s.get [] k)->s.aL<=s'.aL->s'.gt<=s'.aL->ac U 3= .ptr p 0->ac U 5=rv->ac U 6=tv->ac U 19=ov->ac U 20=uM l.length->ac U 21=ic ((c.length+1:Nat):Int)->W Q 61 (.loop yO) ⟨U,73,a0⟩ s' K:=fun U a0 s' C B c7 d5 d6 g3 g5 g6 e2 e1 e0=>
   ih (c++[o]) U a0 s' rv tv (by rw[V];simp) (by rw[o9 C,o9 B];exact T.keep c7 d5) (fun k R=>(c7 k (by omega)).trans (F k R)) (by omega) d6 g3 g5 g6 e2 e1 (by rw[e0];simp)
  simp only[Obj.val,Obj.cells] at H;cases h4:an o.nR 4 with
  |true=>
   have k5:=alp h4 (by decide:(4:Int)≠5);have B:mn l o=false:=by unfold mn;rw[k5];rfl
   refine bG ?_;simp only[go_sem,seval,yO,u,m,j,d,a8,b0,h4,Obj.val,Obj.cells,rc];refine cG.of H (by decide) ?_;cases hs:ue l o with
   |false=>
    have C:od l o=false:=by unfold od;rw[hs,dW,gN]
    simp only[go_sem,seval,u,d,y,k5];refine fin _ _ s C B (fun _ _=>rfl) (br _) w ?_ ?_ ?_ ?_ ?_ ?_
    all_goals simp only[sN,seval,u,J,I,m,j]
   |true=>
    have d2: ∀r∈o.gE,(kB l r).isSome=true:=fun r hr=>by
     obtain⟨i,hi⟩:=we hr;have hm:(i,r)∈(ix o.gE.length).zip o.gE:=by
      refine eP (i:=i) ?_;rw[La];refine⟨?_,hi⟩;rw[List.getElem?_range];exact(nY.1 hi).1
     unfold ue at hs
     have:=f8.1 hs _ hm;simp only[k5,dW,cF] at this;exact this
    have Z:=aeu b8 b1 hg a7 hw O Ns (by omega) (by omega) (by omega) w go (O o M) d2;simp only[Obj.val,Obj.cells] at Z;simp only[go_sem,seval,u,rc];refine cG.ex Z (by decide) ?_;rintro v s1 ⟨rfl,o1,c6,m1⟩;cases hc:Et l o with
    |true=>
     have C:od l o=false:=by unfold od;rw[hc,fp,gN,gN]
     simp only[go_sem,seval,u,d,y,k5];refine fin _ _ s1 C B o1 c6 m1 ?_ ?_ ?_ ?_ ?_ ?_
     all_goals simp only[sN,seval,u,J,I,m,j]
    |false=>
     have C:od l o=true:=by unfold od;rw[h4,hs,hc];rfl
     obtain⟨d1,s2,a1,a2,a3,a4,a5,a6⟩:=(T.keep o1 c6).left m1 (by omega) lr (fC 5 [o.id]);have e4:=a2.l.ge;simp only[fC,fy,uB,aG] at a1;simp only[go_sem,seval,aG,u,J,c5,bj,bg,aZ,bf,evc];simp only[go_sem,seval,aG,J,d,y,c5,a1,a3,bj,bg,aZ,bf,evc];refine ih (c++[o]) _ _ s2 d1 tv (by rw[V];simp) (by rw[tm C,o9 B,ff];exact a2) (fun k R=>(a6 k R).trans ((o1 k (by omega)).trans (F k R))) (by omega) a5 ?_ ?_ ?_ ?_ ?_ ?_
     all_goals simp only[sN,seval,u,I,m,j,sA]
  |false=>
   have C:od l o=false:=by unfold od;rw[h4];rfl
   cases h5':an o.nR 5 with
   |false=>
    have B:mn l o=false:=by unfold mn;rw[h5'];rfl
    refine bG ?_;simp only[go_sem,seval,yO,u,m,j,d,a8,b0,h4,Obj.val,Obj.cells,rc];simp only[go_sem,seval,yO,u,d,y,h5'];refine fin _ _ s C B (fun _ _=>rfl) (br _) w ?_ ?_ ?_ ?_ ?_ ?_
    all_goals simp only[sN,seval,u,J,I,m,j]
   |true=>
    have Y:=amx b2 c9 hg a7 hw O Ns w go (arP (XI hv M) h5');simp only[Obj.val,Obj.cells] at Y;refine bG ?_;simp only[go_sem,seval,yO,u,m,j,d,a8,b0,h4,Obj.val,Obj.cells,rc];simp only[go_sem,seval,yO,u,h5',rc];refine cG.of H (by decide) ?_;cases hs:ue l o with
    |false=>
     have B:mn l o=false:=by unfold mn;rw[hs,dW,gN]
     simp only[go_sem,seval,u,d,y];refine fin _ _ s C B (fun _ _=>rfl) (br _) w ?_ ?_ ?_ ?_ ?_ ?_
     all_goals simp only[sN,seval,u,J,I,m,j]
    |true=>
     simp only[go_sem,seval,u,rc];refine cG.of Y (by decide) ?_;cases ht:GP l o with
     |true=>
      have B:mn l o=false:=by unfold mn;rw[ht,fp,gN,gN]
      simp only[go_sem,seval,u,d,y];refine fin _ _ s C B (fun _ _=>rfl) (br _) w ?_ ?_ ?_ ?_ ?_ ?_
      all_goals simp only[sN,seval,u,J,I,m,j]
     |false=>
      have B:mn l o=true:=by unfold mn;rw[h5',hs,ht];rfl
      obtain⟨d0,s2,a1,a2,a3,a4,a5,a6⟩:=T.swap.left w a9 lt (fC 6 [o.id]);have e3:=a2.l.ge;simp only[fC,fy,uB,aG] at a1;simp only[go_sem,seval,aG,u,I,c4,bj,bg,aZ,bf,evc];simp only[go_sem,seval,aG,I,d,y,c4,a1,a3,bj,bg,aZ,bf,evc];refine ih (c++[o]) _ _ s2 rv d0 (by rw[V];simp) (by rw[o9 C,tm B,ff];exact a2.swap) (fun k R=>(a6 k R).trans (F k R)) (by omega) a5 ?_ ?_ ?_ ?_ ?_ ?_
      all_goals simp only[sN,seval,u,J,m,j,sA]
def adV(a0:Q.spec 31=some jK)(j:No Q 261)(w:No Q 167)(u:No Q 237)(F:No Q 142)(C:No Q 143)(B:No Q 144)(m:No Q 238)(z:No Q 145)(I:Q.spec 130=some pP)(a9:No Q 61)(d:ay 6 Obj.val ov l)(hg: ∀o∈l,o.oM)(hl:l.length<=900)(hr: ∀o∈l,o.gE.length<=999)(c:dD l=true)(hm:s.gt<=s.aL):
 ∃v s',aq Q 61 [.agg [ov]] s v s'/\fY s'.heap v (GQ l):=by
 have H:=d.cs;have Z:=d.lenS gX;refine aq.ofNRZ ak5 (co ?_);simp only[go_sem,seval,H,bj,bg,aZ,bf,evc];refine cG.ex (anF a0 j w u F d hg (by omega) (fun o d=>by have:=hr o d;omega) c hm) (by decide) ?_;rintro v M ⟨rfl,N,a8,n1,m1⟩;have U:=N.hp;simp only[go_sem,seval,fh,U,aW,aY,H,Z];refine anf C B m z I d hg (by omega) (fun o d=>by have:=hr o d;omega) c (lo:=M.aL) (s0:=M) N (by omega) (by omega) (by omega) ?_ l [] _ _ M .oZ .oZ rfl ⟨.inl ⟨rfl,rfl⟩,.inl ⟨rfl,rfl⟩,fun k h=>(by cases h)⟩ (fun _ _=>rfl) (br _) m1 ?_ ?_ ?_ ?_ ?_ ?_;intro e lc s2 rv tv T Y V h5 h6;have O:=T.l.ge;have J:=T.r.ge;have he:eE [] true 3 tv s2=some ((l.filter (mn l)).map fun o=>fC 6 [o.id]):=by
  rcases T.r with⟨e1,e2⟩|⟨_,k,e1,_⟩
  rw[e1,e2];rfl;rw[e1];simp only[afo,eE]
 have hb:=kT (od l) l;have b1:=kT (mn l) l;obtain⟨b0,s3,a1,a2,a3,a4,a5,a6,a7⟩:=Eb (t:=35) j6.1 rfl (by decide) (s:=s2) (y:=tv) T.l he (by rw[ce,ce];omega) Y V;have R:=a2.ge;simp only[go_sem,seval,h5,h6,O,J,a1,a7,R];refine⟨_,rfl,4,AE a2 fun v c=>?_⟩;rcases lj.1 c with c|c
 obtain⟨i,_,rfl⟩:=dy.1 c;exact EF _ _ _;obtain⟨i,_,rfl⟩:=dy.1 c;exact EF _ _ _
 all_goals simp only[abc,alb,ah,bQ]
 all_goals rfl
def RE:dX:=[(31,jK),(130,pP)]
def ab4:dR RE:=.cons xd (.cons TH .nil)
def C3:Sp
 | [v]=>(lz v).bind fun l=>bif mU l then some (GQ l) else none
 |_=>none
def anc:db ae 61 C3:=by
 intro args u c G h w xs B F;unfold C3 at c;split at c;simp only[ak] at c;obtain⟨l,y,c⟩:=c;obtain⟨d,c⟩:=bh c;have c:=sI c;subst c;obtain⟨v,rfl,y,z,J⟩:=rk y;obtain⟨H,C,j,m⟩:=qQ y z;have j:en [.agg [v]]=[.agg [C]]:=by simp only[en,j]
 have d:=pf.1 d;refine j9 ab4 (W:=[]) .nil (args:=[.agg [v]]) (by simp only[eO,H,cw]) (fun I=>?_) G h w xs B F;rw[j];exact adV (Q:=QW RE [] I) rfl ⟨rfl,rfl⟩ ⟨rfl,rfl⟩ ⟨rfl,rfl⟩ ⟨rfl,rfl⟩ ⟨rfl,rfl⟩ ⟨rfl,rfl⟩ ⟨rfl,rfl⟩ ⟨rfl,rfl⟩ rfl ⟨rfl,rfl⟩ m z d.len d.gE d.valid (by decide);cases c
def aI.cells(x:aI):List aa:=[.bool x.strict,.str x.area,ic x.nR,.str x.ifK,.str x.ifV,ic x.op,.str x.key,x.valuesV]
def aI.val(x:aI):aa:=.agg x.cells
structure aI.Ok (x:aI):Prop where
 vals:ay 1 aG x.valuesV x.values
 pv:bL x.valuesV=true
 area:x.area.length<small
 key:x.key.length<small
 ifK:x.ifK.length<small
 len:x.values.length<=1000000
def yI:Option ag->aa
 |some v=>.tup [.str v,.bool true]
 |none=>.tup [.str [],.bool false]
def mV:Sp
 | [v,.str k]=>(eX 2 uS v).bind fun l=>bif decide (l.length<=1000000) then some (yI (dM k l)) else none
 |_=>none
variable{l:List fE}
def M3(h:ay 2 jd v l)(c:l.length<=1000000)(k:ag):mV [v,.str k]=some (yI (dM k l)):=by
 simp only[akZ,mV,mX Hz h,c,dT]
variable{tv:aa}
def agA(O:ay 2 jd tv l)(U:l.length<=1000000)(M: ∀e lc,dM k l=none->K (.exit 0) ⟨e,21,lc⟩ s)(R: ∀e lc v,dM k l=some v->ac e 4= .str v->ac e 5= .bool true->K .ret ⟨e,21,lc⟩ s):
 ∀(d c:List fE) (e:ax) (lc:Ag.Loc),l=c++d->dM k l=dM k d->ac e 1= .str k->ac e 8=tv->ac e 9=uM l.length->ac e 10=uM c.length->W Q 214 (.loop IL) ⟨e,21,lc⟩ s K:=by
 intro d
 induction d with
 |nil=>
  intro c e lc y C z B w j;have H:c.length=l.length:=by rw[y];simp
  refine bG ?_;simp only[go_sem,seval,IL,w,j,H,cD];exact M _ _ C
 |cons t d J=>
  intro c e lc y C z B w j;have m:c.length<l.length:=by rw[y];simp
  have I:l[c.length]? =some t:=by rw[y];simp
  have u:=fun lc k=>O.at ub.2.2.1 I lc k;have F:=dB (n:=c.length) (by omega);refine bG ?_;cases hd:t.1==k with
  |true=>
   simp only[go_sem,seval,IL,jd,z,B,w,j,m,u,hd];refine R _ _ t.2 (by rw[C];simp only[dM,hd,cT]) ?_ ?_
   all_goals simp only[sN,seval]
  |false=>
   simp only[go_sem,seval,IL,jd,z,B,w,j,m,u,hd,F];refine J (c++[t]) _ _ (by rw[y];simp) (by rw[C];simp only[dM,hd,cF]) ?_ ?_ ?_ ?_
   all_goals simp only[sN,seval,z,B,w,sA]
def agz(w:No Q 214)(d:ay 2 jd tv l)(y:l.length<=1000000)(k:ag)(s:St):aq Q 214 [tv,.str k] s (yI (dM k l)) s:=by
 have m:=d.lenS ub;have u:=d.ge;have c: ∃v s',aq Q 214 [tv,.str k] s v s'/\(v=yI (dM k l)/\s'=s):=by
  refine aq.ofNRZ aix (co ?_);simp only[go_sem,seval,m,u];refine agA d y (k:=k) ?_ ?_ l [] _ _ rfl rfl ?_ ?_ ?_ ?_;intro e lc j;simp only[go_sem,seval,j];exact⟨_,rfl,rfl⟩;intro e lc v j B z;simp only[go_sem,seval,j,B,z];exact⟨_,rfl,rfl⟩
  all_goals simp only[sN,seval,bn]
  all_goals rfl
 obtain⟨v,s',h,rfl,rfl⟩:=c;exact h
def abf(j:No Q 403)(v:ag)(s:St):aq Q 403 [.str v] s (.bool (tF v)) s:=by
 refine aq.ofNZ akt (co ?_);have c:cr ((v.length:Nat):Int) 200=decide (v.length<=200):=by
  unfold cr;by_cases h:v.length<=200;rw[dQ h,dQ];omega;rw[dN h,dN];omega
 cases hz:v== [] with
 |true=>
  have d:tF v=false:=by unfold tF;rw[hz];rfl
  simp only[go_sem,seval,hz,d]
 |false=>
  have d:tF v=decide (v.length<=200):=by unfold tF;rw[hz];rfl
  simp only[go_sem,seval,hz,d,c,lC]
def ann(c:No Q 403)(d:No Q 404)(v:ag)(s:St):aq Q 404 [.str v] s (.bool (!tF v)) s:=by
 refine aq.ofNZ akv (co ?_);simp only[go_sem,seval];refine cG.of (abf c v s) (by decide) ?_;simp only[go_sem,seval]
def UW:db ae 214 mV:=by
 intro j u c G B w xs m y;unfold mV at c;split at c;simp only[ak] at c;obtain⟨l,H,h⟩:=c;obtain⟨d,h⟩:=bh h;simp only[dE] at d;have h:=sI h;subst h;have z:=kr (fun _ _ h=>Hy h) H;obtain⟨F,C⟩:=pU Qw z;refine j9 (T:=[]) (W:=[]) .nil .nil (by simp only[eO,F,d8,bL,cw]) (fun J=>?_) G B w xs m y;refine⟨_,_,agz ⟨rfl,rfl⟩ C d _ _,?_⟩;rename_i I k _;cases dM k l with
 |none=>exact⟨2,rfl⟩
 |some v=>exact⟨2,rfl⟩
 cases c
def LW(a b:Bool):eB ae .neq 4 (.bool a) (.bool b)=some (.bool (!(a==b))):=by kernel_rfl
def QA(a b a' b':List UInt8):eB ae .neq 92 (.agg [.str a,.str b]) (.agg [.str a',.str b'])=some (.bool (!((a==a')&&(b==b')))):=by
 have h:eB ae .neq 92 (.agg [.str a,.str b]) (.agg [.str a',.str b'])=((some (a==a')).bind fun r=>bif r then(some (b==b')).bind fun r=>bif r then some true else some false else some false).bind fun r=>some (.bool (!r)):=by kernel_rfl
 rw[h];cases a==a'<;>cases b==b'<;>rfl
def rA(x:aI):Bool:= !(x.area== [])&& !gU x.area
def rI(x:aI):Bool:= !((x.ifK== [])&&(x.ifV== []))&& !(gU x.ifK&&tF x.ifV)
def rO(x:aI):Bool:= !(an x.op 2)&&(!(an x.op 1)&& !(an x.op 3))
def rL(x:aI):Bool:= !(an x.op 2==decide (0<x.values.length))
def ap6(x:aI):t8 x=(bif rA x then false else bif bc x.nR 0 then false else bif bc 5 x.nR then false else bif !gU x.key then false else bif rI x then false else bif rO x then false else bif rL x then false else bif decide (60<x.values.length) then false else x.values.all tF):=rfl
def Ng(n:Nat):bc 0 ((n:Nat):Int)=decide (0<n):=by
 unfold bc;by_cases h:0<n;rw[dQ h,dQ];omega;rw[dN h,dN];omega
def Vo(n:Nat):bc 60 ((n:Nat):Int)=decide (60<n):=by
 unfold bc;by_cases h:60<n;rw[dQ h,dQ];omega;rw[dN h,dN];omega
variable{lc:Ag.Loc}{N:Fr->St->Prop}{x:aI}{e:ax}
def aph(c:Q.spec 163=some jq)(w:x.Ok)(h1:ac e 1= .rd 1 1 0)(l1:lc.get 1 1=some x.cells)(m:lc.gen 1=1)(j: ∀d,ac d 7= .bool (rA x)->ac d 1= .rd 1 1 0->ac d 3=ac e 3->N ⟨d,72,lc⟩ s)(y:True):WV Q 297 ajx ⟨e,72,lc⟩ s N:=by
 have u:=y7 w.area;have z:x.cells=[.bool x.strict,.str x.area,ic x.nR,.str x.ifK,.str x.ifV,ic x.op,.str x.key,x.valuesV]:=rfl;rw[z] at l1;unfold rA at j;cases hz:x.area== [] with
 |true=>
  simp only[go_sem,seval,ajx,ajy,ajz,h1,l1,m,hz];refine j _ ?_ ?_ ?_
  all_goals simp only[sN,seval,h1,hz]
  all_goals rfl
 |false=>
  simp only[go_sem,seval,ajx,ajy,ajz,h1,l1,m,hz,c,u];refine j _ ?_ ?_ ?_
  all_goals simp only[sN,seval,h1,hz]
  all_goals rfl
def apj(h1:ac e 1= .rd 1 1 0)(d:ac e 3= .bool (an x.op 2))(l1:lc.get 1 1=some x.cells)(u:lc.gen 1=1)(j: ∀c,ac c 45= .bool (rO x)->ac c 1= .rd 1 1 0->ac c 3= .bool (an x.op 2)->N ⟨c,72,lc⟩ s):WV Q 297 ajz ⟨e,72,lc⟩ s N:=by
 have m:x.cells=[.bool x.strict,.str x.area,ic x.nR,.str x.ifK,.str x.ifV,ic x.op,.str x.key,x.valuesV]:=rfl;rw[m] at l1;unfold rO at j;cases e2:an x.op 2<;>cases e1:an x.op 1<;>
 ·rw[e2] at d
  simp only[go_sem,seval,ajx,ajy,ajz,h1,l1,u,d,e1];refine j _ ?_ ?_ ?_
  all_goals simp only[sN,seval,h1,d,e1,e2,fp,hG,Bool.and_true,eH,gN,dW]
def api(c:Q.spec 163=some jq)(d:No Q 403)(y:x.Ok)(h1:ac e 1= .rd 1 1 0)(l1:lc.get 1 1=some x.cells)(u:lc.gen 1=1)(j: ∀m,ac m 27= .bool (rI x)->ac m 1= .rd 1 1 0->ac m 3=ac e 3->N ⟨m,72,lc⟩ s):WV Q 297 ajy ⟨e,72,lc⟩ s N:=by
 have w:=y7 y.ifK;have z:x.cells=[.bool x.strict,.str x.area,ic x.nR,.str x.ifK,.str x.ifV,ic x.op,.str x.key,x.valuesV]:=rfl;rw[z] at l1;unfold rI at j;cases hz:((x.ifK== [])&&(x.ifV== [])) with
 |true=>
  simp only[go_sem,seval,ajx,ajy,ajz,h1,l1,u,QA,hz,bj,bg,aZ,bf,evc];refine j _ ?_ ?_ ?_
  all_goals simp only[sN,seval,h1,hz]
  all_goals rfl
 |false=>
  cases hn:gU x.ifK with
  |false=>
   simp only[go_sem,seval,ajx,ajy,ajz,h1,l1,u,QA,hz,c,w,hn,bj,bg,aZ,bf,evc];refine j _ ?_ ?_ ?_
   all_goals simp only[sN,seval,h1,hz,hn]
   all_goals rfl
  |true=>
   simp only[go_sem,seval,ajx,ajy,ajz,h1,l1,u,QA,hz,c,w,hn,bj,bg,aZ,bf,evc];refine cG.of (abf d x.ifV s) (by decide) ?_;simp only[go_sem,seval,ajx,ajy,ajz];refine j _ ?_ ?_ ?_
   all_goals simp only[sN,seval,h1,hz,hn,eH,hG]
def ass(j:Q.spec 163=some jq)(z:No Q 403)(y:No Q 404)(J:No Q 261)(M:No Q 167)(Y:No Q 297)(B:x.Ok)(s:St):aq Q 297 [x.val] s (.bool (t8 x)) s:=by
 have Z:=y7 B.key;have U:=B.vals.ge;have vs:=B.vals.scal;have C:=B.vals.lenS cH;have R:=M7 J M B.vals B.len y.s (s:=s) (cap:=[]) (p:=fun v=> !tF v) fun v _=>ann z y v s;have O:Ag.Loc.get (Ag.Loc.set [] 1 1 x.cells) 1 1=some x.cells:=rfl;have d:Ag.Loc.gen (Ag.Loc.set [] 1 1 x.cells) 1=1:=rfl;obtain⟨lc,F⟩:=ct (Ag.Loc.set [] 1 1 x.cells);rw[F] at O d;have hc:x.cells=[.bool x.strict,.str x.area,ic x.nR,.str x.ifK,.str x.ifV,ic x.op,.str x.key,x.valuesV]:=rfl;have c:=O;rw[hc] at F c;rw[ap6];refine aq.ofNZ ajw (co ?_);simp only[go_sem,seval,aI.val,aI.cells,U,vs,F,c,d];refine aph j B ?_ O d ?_ trivial;simp only[sN,seval];intro e1 H I a3;simp only[sN,seval] at a3;cases b1:rA x with
 |true=>
  rw[b1] at H;simp only[go_sem,seval,H,I,c,d]
 |false=>
  rw[b1] at H;cases b2:bc x.nR 0 with
  |true=>simp only[go_sem,seval,H,I,c,d,b2]
  |false=>
   cases b3:bc 5 x.nR with
   |true=>simp only[go_sem,seval,H,I,c,d,b2,b3]
   |false=>
    cases b4:gU x.key with
    |false=>simp only[go_sem,seval,H,I,c,d,b2,b3,b4,j,Z]
    |true=>
     simp only[go_sem,seval,H,I,c,d,b2,b3,b4,j,Z];refine api j z B ?_ O d ?_;simp only[sN,seval,I];intro e2 w c1 c3;simp only[sN,seval,a3] at c3;cases b5:rI x with
     |true=>
      rw[b5] at w;simp only[go_sem,seval,w,c1,c,d]
     |false=>
      rw[b5] at w;simp only[go_sem,seval,w,c1,c,d];refine apj c1 c3 O d ?_;intro e3 m V d3;cases b6:rO x with
      |true=>
       rw[b6] at m;simp only[go_sem,seval,m,V,c,d]
      |false=>
       rw[b6] at m;cases b7:rL x with
       |true=>
        have u:=b7;unfold rL at u;simp only[go_sem,seval,m,V,d3,c,d,C,U,Ng,LW,u]
       |false=>
        have u:=b7;unfold rL at u;cases b8:decide (60<x.values.length) with
        |true=>simp only[go_sem,seval,m,V,d3,c,d,C,Ng,Vo,LW,u,b8,U]
        |false=>
         simp only[go_sem,seval,m,V,d3,c,d,C,Ng,Vo,LW,u,b8,U];refine cG.of R (by decide) ?_;simp only[go_sem,seval,BK]
def x7:aa->Option aI
 | .agg [.bool st,.str a,.int .i64 k,.str ik,.str iv,.int .i64 op,.str key,vv]=>(eX 1 jl vv).bind fun vs=>bif bL vv&&(bm a.length small&&(bm key.length small&&(bm ik.length small&&bw vs.length 1000000))) then some ⟨st,a,k,ik,iv,op,key,vv,vs⟩ else none
 |_=>none
def Sn(h:x7 v=some x):v=x.val/\x.Ok:=by
 unfold x7 at h;split at h;simp only[ak] at h;obtain⟨vs,d,h⟩:=h;obtain⟨c,h⟩:=bh h;injection h with h;subst h
 simp only[bu] at c;exact⟨rfl,kr (fun _ _ h=>pM h) d,c.1,fW c.2.1,fW c.2.2.1,fW c.2.2.2.1,fW c.2.2.2.2⟩;cases h
def acT(c:x.Ok):x7 x.val=some x:=by
 have d:=mX oc c.vals;have m:bm x.area.length small=true:=cP c.area;have j:bm x.key.length small=true:=cP c.key;have b3:bm x.ifK.length small=true:=cP c.ifK;have b4:bw x.values.length 1000000=true:=cP c.len;simp only[akZ,x7,aI.val,aI.cells,d,c.pv,m,j,b3,b4,cw]
def XE: ∀ {xs:List aa} {l:List aI},iV x7 xs=some l-> ∀x∈l,x.Ok
 | [],l,h=>by simp only[iV,aJ] at h;subst h;intro o d;cases d
 |x::xs,l,h=>by
  simp only[iV,ak,aJ] at h;obtain⟨a,m,r,j,rfl⟩:=h;intro y c;rcases fc.1 c with rfl|c
  exact(Sn m).2;exact XE j y c
def XG: ∀ {l:List aI},(∀x∈l,x.Ok)->iV x7 (l.map aI.val)=some l
 | [],_=>rfl
 |x::l,h=>by
  simp only[fy,iV,acT (h x iL),au,XG (l:=l) fun y c=>h y (iE _ c)]
def sX(v:aa):Option (List aI):=(eX 8 x7 v).bind fun l=>bif bw l.length 1000000 then some l else none
variable{l:List aI}
def Ht(h:sX v=some l):ay 8 aI.val v l/\(∀x∈l,x.Ok)/\l.length<=1000000:=by
 unfold sX at h;simp only[ak] at h;obtain⟨m,c,h⟩:=h;obtain⟨j,h⟩:=bh h;injection h with h;subst h
 refine⟨kr (fun v a h=>(Sn h).1) c,?_,fW j⟩;unfold eX at c;split at c;injection c with c;subst c;intro o d;cases d
 obtain⟨_,c⟩:=bh c;exact XE c;cases c
def BM(h:ay 8 aI.val v l)(c: ∀x∈l,x.Ok)(d:l.length<=1000000):sX v=some l:=by
 have j:eX 8 x7 v=some l:=by
  rcases h with⟨rfl,rfl⟩|⟨r,rfl⟩
  rfl;simp only[afo,eX,XG c]
 have b:bw l.length 1000000=true:=cP d;simp only[akZ,sX,j,b]
def Zq(c: ∀x∈l,x.Ok):pures (l.map aI.val)=true:=by
 rw[Bd];intro v j;obtain⟨x,d,rfl⟩:=dy.1 j;simp only[aI.val,aI.cells,bL,pures,(c x d).pv,cw]
def Kq(h:ay 8 aI.val v l)(c: ∀x∈l,x.Ok):d8 v=true/\ay 8 aI.val (de v) l:=by
 rcases h with⟨rfl,rfl⟩|⟨r,rfl⟩
 exact⟨rfl,.inl ⟨rfl,rfl⟩⟩;exact⟨by simpa[d8] using Zq c,.inr (by
  simp only[de,lh (Zq c)];exact⟨_,rfl⟩)⟩
variable{sv:aa}
def ahc(hs:ay 8 aI.val sv l)(H: ∀x∈l,x.Ok)(V:l.length<=1000000)(y:Q.spec 296=none)(hg: ∀x∈l,aq Q 296 [x.val] s (.bool (!t8 x)) s){r:Int}(hx: ∀e,r= -1->K (.exit 0) ⟨e,19,lc⟩ s)(hr: ∀e,ac e 4=ic r->K .ret ⟨e,19,lc⟩ s):
 ∀(d c:List aI) (e:ax),l=c++d->r=kJ (fun x=> !t8 x) d c.length->ac e 0=sv->ac e 1= .func (.func 296) [] []->ac e 7=uM l.length->ac e 8=uM c.length->W Q 402 (.loop Ob) ⟨e,19,lc⟩ s K:=by
 intro d
 induction d with
 |nil=>
  intro c e z C R O B w;have J:c.length=l.length:=by rw[z];simp
  refine bG ?_;simp only[go_sem,seval,Ob,B,w,J,cD];exact hx _ C
 |cons x d Z=>
  intro c e z C R O B w;have I:c.length<l.length:=by rw[z];simp
  have u:l[c.length]? =some x:=by rw[z];simp
  have m:=eP u;have U:=H x m;have Y:=U.vals.ge;have vs:=U.vals.scal;have M:=fun lc k=>hs.at t9.2.2.1 u lc k;have F:=dB (n:=c.length) (by omega);have j:=hg x m;simp only[aI.val,aI.cells] at j;refine bG ?_;simp only[go_sem,seval,Ob,R,O,B,w,I,M,aI.val,aI.cells,Y,vs,y];refine cG.of j (by decide) ?_;cases hd:t8 x with
  |false=>
   simp only[go_sem,seval];exact hr _ (by simp only[sN,seval,w,C,kJ,hd,hG])
  |true=>
   simp only[go_sem,seval,w,F];refine Z (c++[x]) _ (by rw[z];simp) (by rw[C];simp only[kJ,hd,fp,cF,sA]) ?_ ?_ ?_ ?_
   all_goals simp only[sN,seval,R,O,B,sA]
def ap8(I:Q.spec 163=some jq)(u:No Q 403)(m:No Q 404)(z:No Q 261)(B:No Q 167)(w:No Q 297)(y:No Q 296)(Y:No Q 402)(Z:No Q 295)(a0:No Q 216)(U:ay 8 aI.val sv l)(C: ∀x∈l,x.Ok)(F:l.length<=1000000)(s:St):aq Q 216 [sv] s (.bool (oH l)) s:=by
 have c:=U.ge;have j:=U.lenS t9;have M: ∀x∈l,aq Q 296 [x.val] s (.bool (!t8 x)) s:=fun x hx=>by
  have R:=C x hx;have vc:=R.vals.ge;have vs:=R.vals.scal;have d:=ass I u m z B w R s;simp only[aI.val,aI.cells] at d;refine aq.ofNZ aju (co ?_);simp only[go_sem,seval,aI.val,aI.cells,vc,vs];refine cG.of d (by decide) ?_;simp only[go_sem,seval]
 have J:aq Q 402 [sv,.func (.func 296) [] []] s (cd (kJ (fun x=> !t8 x) l 0)) s:=by
  refine aq.ofNZ akr (co ?_);simp only[go_sem,seval,j,c];refine ahc U C F y.s M (r:=kJ (fun x=> !t8 x) l 0) ?_ ?_ l [] _ rfl rfl ?_ ?_ ?_ ?_;intro e hq;simp only[go_sem,seval,hq];rfl;intro e h4;simp only[go_sem,seval,h4];rfl
  all_goals simp only[sN,seval,bn]
  all_goals rfl
 have O:aq Q 295 [sv,.func (.func 296) [] []] s (.bool (l.any fun x=> !t8 x)) s:=by
  refine aq.ofNZ ajs (co ?_);simp only[go_sem,seval,c];refine cG.of J (by decide) ?_;simp only[go_sem,seval,cd,kE,EG]
 have H:cr ((l.length:Nat):Int) 200=decide (l.length<=200):=by
  unfold cr;by_cases h:l.length<=200;rw[dQ h,dQ];omega;rw[dN h,dN];omega
 refine aq.ofNZ aiz (co ?_);cases hz:decide (l.length<=200) with
 |false=>
  have V:oH l=false:=by unfold oH;rw[hz];rfl
  simp only[go_sem,seval,c,j,H,hz,V]
 |true=>
  have V:oH l=l.all t8:=by unfold oH;rw[hz];rfl
  simp only[go_sem,seval,c,j,H,hz];refine cG.of O (by decide) ?_;simp only[go_sem,seval,BK,V]
def Bh:Sp
 | [v]=>(sX v).bind fun l=>some (.bool (oH l))
 |_=>none
def ap9(h:ay 8 aI.val v l)(c: ∀x∈l,x.Ok)(d:l.length<=1000000):Bh [v]=some (.bool (oH l)):=by
 simp only[Bh,BM h c d,au]
def RQ:dX:=[(163,jq)]
def acg:dR RQ:=.cons O3 .nil
def aqa:db ae 216 Bh:=by
 intro m u c G C w xs y z;unfold Bh at c;split at c;simp only[ak] at c;obtain⟨l,I,h⟩:=c;have h:=sI h;subst h;obtain⟨B,j,d⟩:=Ht I;obtain⟨H,F⟩:=Kq B j;refine j9 acg (W:=[]) .nil (by simp only[eO,H,cw]) (fun J=>?_) G C w xs y z;exact⟨_,_,ap8 (Q:=QW RQ [] J) rfl ⟨rfl,rfl⟩ ⟨rfl,rfl⟩ ⟨rfl,rfl⟩ ⟨rfl,rfl⟩ ⟨rfl,rfl⟩ ⟨rfl,rfl⟩ ⟨rfl,rfl⟩ ⟨rfl,rfl⟩ ⟨rfl,rfl⟩ F j d _,⟨1,rfl⟩⟩;cases c
def t7(l:List Obj)(f:Obj->List (Pt×Bool))(k:Int):Nat->List ag->List (Pt×Bool)
 |_,[]=>[]
 |i,r::rs=>match dP r l with
  |some q=>bif an q.nR (kR k i) then f q++t7 l f k (i+1) rs else [((0,0),false)]
  |none=>[((0,0),false)]
def tR(l:List Obj):Nat->Obj->List (Pt×Bool)
 |0,_=>[]
 |n+1,o=>bif an o.nR 1 then [((o.x,o.y),true)] else t7 l (tR l n) o.nR 0 o.gE
structure kV (lo:Nat) (Kp:Nat->Prop) (s s':St):Prop where
 get: ∀k,(Kp k\/lo<=k)->k<s.aL->s'.get [] k=s.get [] k
 nx:s.aL<=s'.aL
 mw:s'.gt<=s'.aL
variable{Kp:Nat->Prop}
def kV.refl(h:s.gt<=s.aL):kV lo Kp s s:=⟨fun _ _ _=>rfl,br _,h⟩
def kV.trans{c:St}(h:kV lo Kp s s')(k:kV lo Kp s' c):kV lo Kp s c:=
 ⟨fun j d m=>(k.get j d (by have:=h.nx;omega)).trans (h.get j d m),fA h.nx k.nx,k.mw⟩
def kV.all(j: ∀k,k<s.aL->s'.get [] k=s.get [] k)(c:s.aL<=s'.aL)(d:s'.gt<=s'.aL):kV lo Kp s s':=⟨fun k _ h=>j k h,c,d⟩
structure D2 (Q:aH) (n lo:Nat) (Kp:Nat->Prop) (seq:List (Pt×Bool)) (P:Nat->St->Prop) (D:St->Prop):Prop where
 step: ∀i x s,seq[i]? =some x->P i s->lo<=s.aL->s.gt<=s.aL-> ∃v s',ji Q n [aU x.1,.bool x.2] s v s'/\(kV lo Kp s s'/\((v= .bool true/\P (i+1) s')\/(v= .bool false/\D s')))
 grow: ∀i s s',P i s->(∀k,k<lo->s'.get [] k=s.get [] k)->P i s'
 growD: ∀s s',D s->(∀k,k<lo->s'.get [] k=s.get [] k)->D s'
 kpl: ∀k,Kp k->k<lo
structure z7 (l:List Obj) (p b bo bp:Nat) (q:Obj) (s:St):Prop where
 o:s.get [] bo=some (.cells q.cells)
 q:s.get [] bp=some (.cells [.ptr p 0])
 hp: ∃av bv,s.get [] p=some (.cells [av,.map b,bv])
 m:bR aa.str s b (kx l)
 lo:bo<s.aL
 lq:bp<s.aL
 lp:p<s.aL
 lm:b<s.aL
variable{l:List Obj}{q:Obj}
def z7.kept{c:Nat}(h:z7 l p b bo c q s)(k:kV lo Kp s s')(h1:Kp bo\/lo<=bo)(y:Kp c\/lo<=c)(w:Kp p\/lo<=p)(u:Kp b\/lo<=b):z7 l p b bo c q s':=by
 have d:=k.nx;obtain⟨z,bv,j⟩:=h.hp;exact⟨(k.get bo h1 h.lo).trans h.o,(k.get c y h.lq).trans h.q,⟨z,bv,(k.get p w h.lp).trans j⟩,(k.get b u h.lm).trans h.m,hJ h.lo d,hJ h.lq d,hJ h.lp d,hJ h.lm d⟩
def Lk(Q:aH)(l:List Obj)(p b:Nat)(f:Obj->List (Pt×Bool))(q:Obj):Prop:=
 ∀(n lo bo c:Nat) (Kp:Nat->Prop) (P:Nat->St->Prop) (D:St->Prop) (s:St),D2 Q n lo Kp (f q) P D->(Kp bo\/lo<=bo)->(Kp c\/lo<=c)->(Kp p\/lo<=p)->(Kp b\/lo<=b)->z7 l p b bo c q s->lo<=s.aL->s.gt<=s.aL->P 0 s->
  ∃v s',aq Q 473 [.yld n,.ptr bo 0,.ptr c 0] s v s'/\(v= .tup []/\kV lo Kp s s'/\(P (f q).length s'\/D s'))
def alq(j:No Q 474)(go:o.oM)(i:Nat)(s:St):aq Q 474 [o.val,uM i] s (cd (kR o.nR i)) s:=by
 have d:=go.all;have c:an ((i:Nat):Int) 1=(i==1):=by
  unfold an;by_cases h:i=1;rw[h];rfl;rw[bN.2 h,bN];omega
 refine aq.ofNZ akV (co ?_);cases e4:an o.nR 4 with
 |true=>simp only[go_sem,seval,Obj.val,Obj.cells,d,e4,kR,cd,Bool.true_or]
 |false=>
  cases e5:an o.nR 5 with
  |false=>simp only[go_sem,seval,Obj.val,Obj.cells,d,e4,e5,kR,cd,kg,dW]
  |true=>
   cases e1:i==1 with
   |true=>simp only[go_sem,seval,Obj.val,Obj.cells,d,e4,e5,c,e1,kR,cd,kg,eH,fp]
   |false=>simp only[go_sem,seval,Obj.val,Obj.cells,d,e4,e5,c,e1,kR,cd,kg,eH,hG]
def Ya(c:No Q 405)(m:q.oM)(p:Nat)(s:St):aq Q 405 [.ptr p 0,q.val] s (.func (.func 473) [] [.ptr (s.aL+1) 0,.ptr s.aL 0]) ((s.new (.cells [.ptr p 0])).new (.cells q.cells)):=by
 have d:=m.all;have j:(s.new (.cells [.ptr p 0])).aL=s.aL+1:=rfl;refine aq.ofNZ akx (co ?_);simp only[go_sem,seval,Obj.val,Obj.cells,d,L9,j,bj,bg,aZ,bf,evc]
noncomputable abbrev JD(E:ax)(x:Option Ex):aR:=.loop 473 E 58 [50,51] Fo Fp x
variable{P:Nat->St->Prop}{D:St->Prop}{E:ax}
def ahk{bz m base:Nat}{seq seqI:List (Pt×Bool)}(C:D2 Q n lo Kp seq P D)(hs: ∀i x,seqI[i]? =some x->seq[base+i]? =some x)(e3:ac E 3= .ptr bz 0)(zl:lo<=bz)(zm:bz<m):
 D2 Q m (m+1) (fun k=>Kp k\/(lo<=k/\k<m)) seqI (fun i s=>P (base+i) s/\s.get [] m=some (JD E none)/\s.get [] bz=some (.cells [.yld n])) (fun s=>D s/\s.get [] m=some (JD E (some .ret))):=by
 have j:=C.kpl;refine⟨fun i x s hx ⟨J,F,R⟩ a0 M=>?_,fun i s s' ⟨J,F,R⟩ u=>⟨C.grow _ _ _ J fun k j=>u k (by omega),(u m (by omega)).trans F,(u bz (by omega)).trans R⟩,fun s s' ⟨hd,F⟩ u=>⟨C.growD _ _ hd fun k j=>u k (by omega),(u m (by omega)).trans F⟩,fun k d=>?_⟩;refine ji.any (ca:=Oc) (cb:=Od) F rfl rfl akR akS ?_;refine co ?_;obtain⟨w,H⟩:=ct (s.put m none);have wn:w.aL=s.aL:=by rw[<-H];rfl
 obtain⟨z,B⟩:=ct ((w.new (.cells [ic 0,ic 0])).put w.aL (some (.cells [ic x.1.1,ic x.1.2])));have zn:z.aL=s.aL+1:=by rw[<-B];show w.aL+1=_;omega
 have I: ∀k,k<s.aL->k≠m->z.get [] k=s.get [] k:=fun k j c=>by rw[<-B,aX,bN.2 (by omega:k≠w.aL),cF,cz (by omega),<-H,aX,bN.2 c];rfl
 have Y:z.gt<=z.aL:=by
  rw[<-B];refine dh _ _ _ (cq ?_);rw[<-H];exact dh _ _ _ M
 have zk:z.get [] w.aL=some (.cells [ic x.1.1,ic x.1.2]):=by rw[<-B,aX,bS];rfl
 have U:z.get [] bz=some (.cells [.yld n]):=(I bz (by omega) (by omega)).trans R;have O:(w.new (.cells [ic 0,ic 0])).get [] w.aL=some (.cells [ic 0,ic 0]):=cW;have Z:P (base+i) z:=C.grow _ _ _ J fun k j=>I k (by omega) (by omega);obtain⟨v,y,V,K1,hv⟩:=C.step (base+i) x z (hs i x hx) Z (by omega) Y;simp only[aU] at V;have n1:=K1.nx;have fin: ∀o,kV (m+1) (fun k=>Kp k\/(lo<=k/\k<m)) s (y.put m o):=fun o=>by
  refine⟨fun k d hl=>?_,by show s.aL<=y.aL;omega,dh _ _ _ K1.mw⟩;have c:k≠m:=by
   rcases d with(h|h)|h
   have:=j k h;omega;omega;omega
  rw[aX,bN.2 c];refine(K1.get k ?_ (by omega)).trans (I k hl c);rcases d with(h|h)|h
  exact .inl h;exact .inr h.1;exact .inr (by omega)
 have b1:y.get [] bz=some (.cells [.yld n]):=(K1.get bz (.inr zl) (by omega)).trans U;have same: ∀o k,k<lo->(y.put m o).get [] k=y.get [] k:=fun o k j=>by rw[aX,bN.2 (by omega:k≠m)];rfl
 simp only[go_sem,seval,Oc,H,aU,dn,O,dp,B,bj,bg,aZ,bf,evc];refine co ?_;simp only[go_sem,seval,Od,e3,U,zk,aW,aY,bj,bg,aZ,bf,evc];refine zN.of V (by decide) ?_;rcases hv with⟨rfl,p1⟩|⟨rfl,d1⟩
 simp only[go_sem,seval,jI,jL];refine⟨fin _,.inl ⟨C.grow _ _ _ p1 (same _),?_,?_⟩⟩;rw[aX,bS];rfl;rw[aX,bN.2 (by omega:bz≠m)];exact b1;simp only[go_sem,seval,jI,jL];refine⟨fin _,.inr ⟨C.growD _ _ d1 (same _),?_⟩⟩;rw[aX,bS];rfl;rcases d with h|h
 have:=j k h;have:=C.kpl k h;omega;omega
variable{k:Int}{rs:List ag}{f:Obj->List (Pt×Bool)}
def apv{r:ag}(h: ∀q,dP r l=some q->an q.nR (kR k i)=false):t7 l f k i (r::rs)=[((0,0),false)]:=by
 unfold t7;cases e:dP r l with
 |none=>rfl
 |some q=>simp only[h q e,cF]
def apw{r:ag}(e:dP r l=some q)(h:an q.nR (kR k i)=true):t7 l f k i (r::rs)=f q++t7 l f k (i+1) rs:=by
 conv=>lhs;unfold t7
 rw[e];simp only[h,cT]
def H8:tz ae 473=true:=by kernel_rfl
def am4(e2:No Q 473)(b1:No Q 405)(b0:No Q 474)(hg: ∀o∈l,o.oM)(go:o.oM)(e4:o.gE.length<=900000)(IH: ∀(i:Nat) (r:ag) (q:Obj),o.gE[i]? =some r->dP r l=some q->an q.nR (kR o.nR i)=true->Lk Q l p b f q){bp bz:Nat}{seq:List (Pt×Bool)}(C:D2 Q n lo Kp seq P D)(k1:Kp bo\/lo<=bo)(k2:Kp bp\/lo<=bp)(k3:Kp p\/lo<=p)(k4:Kp b\/lo<=b){s0:St}(N0:z7 l p b bo bp o s0)(e1:s0.get [] bz=some (.cells [.yld n]))(zl:lo<=bz)(c5:bz<s0.aL)(e5:lo<=s0.aL)(hx: ∀e lc s,P seq.length s->kV lo Kp s0 s->K (.exit 0) ⟨e,58,lc⟩ s)(hr: ∀e lc s,(P seq.length s\/D s)->kV lo Kp s0 s->K .ret ⟨e,58,lc⟩ s):
 ∀(d c:List ag) (e:ax) (lc:Ag.Loc) (s:St) (done:List (Pt×Bool)),o.gE=c++d->seq=done++t7 l f o.nR c.length d->P done.length s->kV lo Kp s0 s->ac e 1= .ptr bo 0->ac e 2= .ptr bp 0->ac e 3= .ptr bz 0->ac e 18=o.refsV->ac e 19=uM o.gE.length->ac e 20=uM c.length->e.all jY=true->W Q 473 (.loop CF) ⟨e,58,lc⟩ s K:=by
 have rn:jY o.refsV=true:=by rcases go.gE with⟨e,_⟩|⟨k,e⟩<;>rw[e]<;>rfl
 intro d
 induction d with
 |nil=>
  intro c e lc s done h1 hq hp K1 r1 r2 r3 M F B hE;have d7:c.length=o.gE.length:=by rw[h1];simp
  refine bG ?_;simp only[go_sem,seval,CF,F,B,d7,cD];have hl:seq.length=done.length:=by rw[hq];simp[t7]
  exact hx _ _ _ (by rw[hl];exact hp) K1
 |cons r d ih=>
  intro c e lc s done h1 hq hp K1 r1 r2 r3 M F B hE;have a5:c.length<o.gE.length:=by rw[h1];simp
  have b8:o.gE[c.length]? =some r:=by rw[h1];simp
  have a6:=fun lc k=>go.gE.at cH.2.2.1 b8 lc k;have d4:=dB (n:=c.length) (by omega);have rc:=go.all;have N:=N0.kept K1 k1 k2 k3 k4;have nx:=K1.nx;have d6:=K1.mw;have a8:s.get [] bz=some (.cells [.yld n]):=(K1.get bz (.inr zl) c5).trans e1;obtain⟨av,bv,Z⟩:=N.hp;have ho:=N.o;have Y:=N.q;have c9:=N.lo;have c7:=N.lq;have c8:=N.lp;have d0:=N.lm;simp only[Obj.cells] at ho;have j:=yW jA yY zP N.m r;rw[AX] at j;have a7:(s.new (.cells [.str [],ic 0,ic 0,ic 0,.oZ,.oZ])).get [] s.aL=some (.cells [.str [],ic 0,ic 0,ic 0,.oZ,.oZ]):=cW;have box: ∀cs, ∃z,(s.new (.cells [.str [],ic 0,ic 0,ic 0,.oZ,.oZ])).put s.aL (some (.cells cs))=z/\z.aL=s.aL+1/\z.gt<=z.aL/\(∀k,k<s.aL->z.get [] k=s.get [] k)/\z.get [] s.aL=some (.cells cs):=fun cs=>
   ⟨_,rfl,rfl,dh _ _ _ (cq d6),fun k w=>by rw[aX,bN.2 (by omega:k≠s.aL),cF,cz w],by rw[aX,bS];rfl⟩
  have bad: ∀(z:St),(∀q,dP r l=some q->an q.nR (kR o.nR c.length)=false)->z.aL=s.aL+1->z.gt<=z.aL->(∀k,k<s.aL->z.get [] k=s.get [] k)-> ∃v s1,ji Q n [.agg [ic 0,ic 0],.bool false] z v s1/\((P seq.length s1\/D s1)/\kV lo Kp s0 s1):=fun z hb zn U I=>by
   have J:seq=done++[((0,0),false)]:=by rw[hq,apv hb]
   obtain⟨v,s1,H,K2,hv⟩:=C.step done.length ((0,0),false) z (by rw[J];simp) (C.grow _ _ _ hp fun k w=>I k (by omega)) (by omega) U;refine⟨v,s1,H,?_,K1.trans ((kV.all I (by omega) U).trans K2)⟩;have hl:seq.length=done.length+1:=by rw[J];simp
   rw[hl];rcases hv with⟨_,h⟩|⟨_,h⟩
   exact .inl h;exact .inr h
  cases hob:dP r l with
  |none=>
   rw[hob] at j;simp only[sF,oB] at j;obtain⟨z,hz,zn,U,I,zk⟩:=box [.str [],ic 0,ic 0,ic 0,.oZ,.oZ];obtain⟨v,s1,H,hv,K2⟩:=bad z (fun q hq=>by rw[hob] at hq;cases hq) zn U I;have zb:=(I bz (by omega)).trans a8;refine bG ?_;simp only[go_sem,seval,CF,aG,r2,M,F,B,a5,a6,Y,Z,aW,aY,j,fh,dn,a7,dp,hz];simp only[go_sem,seval,r3,U,zb,aW,aY,bj,bg,aZ,bf,evc];refine zN.of H (by decide) ?_;simp only[go_sem,seval];exact hr _ _ _ hv K2
  |some q=>
   have gq:=hg q (tS hob).1;have a4:=gq.gE.ge;have a2:=gq.gT.ge;have a3:=gq.gE.scal;have a1:=gq.gT.scal;rw[hob] at j;simp only[kn,oB,Obj.val,Obj.cells] at j;obtain⟨z,hz,zn,U,I,zk⟩:=box q.cells;have zb:=(I bz (by omega)).trans a8;have a9:=(I bo c9).trans ho;have c4:=(I bp c7).trans Y;simp only[Obj.cells] at hz zk;have O:=alq b0 go c.length z.top;simp only[Obj.val,Obj.cells,cd] at O;cases w:an q.nR (kR o.nR c.length) with
   |false=>
    obtain⟨v,s1,H,hv,K2⟩:=bad z (fun q' d5=>by have e:q=q':=sI (hob.symm.trans d5);rw[<-e];exact w) zn U I;refine lk ?_;simp only[go_sem,seval,CF,aG,r2,M,F,B,a5,a6,Y,Z,aW,aY,j,fh,dn,a7,dp,hz,Obj.val,Obj.cells,a4,a2,a3,a1];refine iT U ?_;simp only[go_sem,CE,seval,r1,zk,a9,aW,aY,rc];refine kY.quiet O (by decide) (by simp[fo,pD]) ?_;simp only[go_sem,CE,seval,w];simp only[go_sem,seval,r3,zb,aW,aY,bj,bg,aZ,bf,evc];refine zN.of H (by decide) ?_;simp only[go_sem,seval];exact hr _ _ _ hv K2
   |true=>
    have J:seq=(done++f q)++t7 l f o.nR (c.length+1) d:=by rw[hq,apw hob w,ny]
    have R:=Ya b1 gq p z;obtain⟨y,H⟩:=ct ((z.new (.cells [.ptr p 0])).new (.cells q.cells));have nn:(z.new (.cells [.ptr p 0])).aL=z.aL+1:=rfl;have yn:y.aL=z.aL+2:=by rw[<-H];rfl
    have yo: ∀k,k<z.aL->y.get [] k=z.get [] k:=fun k w=>by rw[<-H,cz (by omega),cz w]
    have yq:y.get [] z.aL=some (.cells [.ptr p 0]):=by rw[<-H,cz (by omega)];exact cW
    have c6:y.get [] (z.aL+1)=some (.cells q.cells):=by rw[<-H,<-nn];exact cW
    have ym:y.gt<=y.aL:=by rw[<-H];exact cq (cq U)
    rw[H] at R;simp only[Obj.val,Obj.cells] at R;refine lk ?_;simp only[go_sem,seval,CF,aG,r2,M,F,B,a5,a6,Y,Z,aW,aY,j,fh,dn,a7,dp,hz,Obj.val,Obj.cells,a4,a2,a3,a1];refine iT U ?_;simp only[go_sem,CE,seval,r1,zk,a9,aW,aY,rc];refine kY.quiet O (by decide) (by simp[fo,pD]) ?_;simp only[go_sem,CE,seval,w];simp only[go_sem,seval,r2,c4,zk,aW,aY,a4,a2,a3,a1];refine cG.of R (by decide) ?_;simp only[go_sem,seval];have b2: ∀(E:ax) (lc:Ag.Loc) (K':Ex->Fr->St->Prop),ac E 3= .ptr bz 0->ac E 49= .func (.func 473) [] [.ptr (z.aL+1) 0,.ptr z.aL 0]->E.all jY=true->(∀V,P (done++f q).length V->kV lo Kp s0 V->K' .normal ⟨E,58,lc⟩ V)->(∀V,D V->kV lo Kp s0 V->K' .ret ⟨E,58,lc⟩ V)->W Q 473 (.rfun (.tmp 49) [50,51] Fo Fp) ⟨E,58,lc⟩ y K':=by
     intro E lc K' e3 c3 hE k5 k6;obtain⟨u,hu⟩:=ct (y.new (JD E none));have un:u.aL=y.aL+1:=by rw[<-hu];rfl
     have uo: ∀k,k<y.aL->u.get [] k=y.get [] k:=fun k w=>by rw[<-hu,cz w]
     have ul:u.get [] y.aL=some (JD E none):=by rw[<-hu];exact cW
     have um:u.gt<=u.aL:=by rw[<-hu];exact cq ym
     have uz: ∀k,k<s.aL->u.get [] k=s.get [] k:=fun k w=>(uo k (by omega)).trans ((yo k (by omega)).trans (I k w));have CI:=ahk C (m:=y.aL) (base:=done.length) (seqI:=f q) (fun i x hx=>by
      rw[J,ny,wd (by omega),show done.length+i-done.length=i by omega];exact BA (nY.1 hx).1▸hx) e3 zl (by omega)
     have NI:z7 l p b (z.aL+1) z.aL q u:=by
      refine⟨(uo _ (by omega)).trans c6,(uo _ (by omega)).trans yq,⟨av,bv,(uz p c8).trans Z⟩,(uz b d0).trans N.m,by omega,by omega,by omega,by omega⟩
     obtain⟨v,s1,a0,rfl,K2,hv⟩:=IH c.length r q b8 hob w y.aL (y.aL+1) (z.aL+1) z.aL _ _ _ u CI (.inl (.inr ⟨by omega,by omega⟩)) (.inl (.inr ⟨by omega,by omega⟩)) (by rcases k3 with h|h;exact .inl (.inl h);exact .inl (.inr ⟨h,by omega⟩)) (by rcases k4 with h|h;exact .inl (.inl h);exact .inl (.inr ⟨h,by omega⟩)) NI (by omega) um ⟨C.grow _ _ _ hp fun k w=>uz k (by omega),ul,(uz bz (by omega)).trans a8⟩;have n2:=K2.nx;have K3: ∀o',kV lo Kp s0 (s1.put y.aL o'):=fun o'=>by
      refine K1.trans ⟨fun k e0 hl=>?_,by show s.aL<=s1.aL;omega,dh _ _ _ K2.mw⟩;rw[aX,bN.2 (by omega:k≠y.aL)];refine(K2.get k ?_ (by omega)).trans (uz k hl);rcases e0 with h|h
      exact .inl (.inl h);exact .inl (.inr ⟨h,by omega⟩)
     have same: ∀o' k,k<lo->(s1.put y.aL o').get [] k=s1.get [] k:=fun o' k w=>by rw[aX,bN.2 (by omega:k≠y.aL)];rfl
     rcases hv with⟨p1,m1,_⟩|⟨d1,m1⟩
     refine oS (h:=473) (first:=[]) (captured:=[.ptr (z.aL+1) 0,.ptr z.aL 0]) (v:=.tup []) (s1:=s1) (by simp only[aA,c3]) (by rw[Std.P,H8,WZ,hE];rfl) (by rw[hu];exact a0) m1 (k5 _ (C.grow _ _ _ ?_ (same _)) (K3 _));rw[cJ];exact p1;exact oS (h:=473) (first:=[]) (captured:=[.ptr (z.aL+1) 0,.ptr z.aL 0]) (v:=.tup []) (s1:=s1) (by simp only[aA,c3]) (by rw[Std.P,H8,WZ,hE];rfl) (by rw[hu];exact a0) m1 (k6 _ (C.growD _ _ d1 (same _)) (K3 _))
    refine b2 _ _ _ ?_ ?_ ?_ ?_ ?_;simp only[sN,seval,r3];simp only[sN,seval]
    ·repeat' (first|exact hE|refine aC.all_set ?_ (by first|exact rfl|exact rn))
    ·intro V p2 K2
     simp only[go_sem,seval,B,d4];refine ih (c++[r]) _ _ V (done++f q) (by rw[h1];simp) (by rw[J];simp) p2 K2 ?_ ?_ ?_ ?_ ?_ ?_ ?_
     all_goals first
      |(simp only[sN,seval,r1,r2,r3,M,F,sA];done)
      |(repeat' (first|exact hE|refine aC.all_set ?_ (by first|exact rfl|exact rn)))
    intro V d2 K2;simp only[go_sem,seval];exact hr _ _ _ (.inr d2) K2
def Ta(n:Nat):(aa.yld n).cells=[.yld n]:=rfl
def o8(k:Int):Nat:=bif an k 1 then 1 else bif an k 2||an k 3 then 2 else 3
def aeI(h:an k 1=false):o8 (kR k i)<o8 k:=by
 have m:o8 1=1:=rfl;have u:o8 2=2:=rfl;have j:o8 k=bif an k 2||an k 3 then 2 else 3:=by unfold o8;rw[h];rfl
 rw[j];unfold kR;cases d:an k 4 with
 |true=>
  have d:k=4:=by simpa[an] using d
  subst d;show o8 2<_;decide
 |false=>
  cases c:an k 5 with
  |true=>
   have c:k=5:=by simpa[an] using c
   subst c;cases i==1;show o8 2<_;decide;show o8 1<_;decide
  |false=>
   show o8 1<_;rw[m];cases an k 2||an k 3<;>decide
def ahx(B:No Q 473)(F:No Q 405)(z:No Q 474)(hg: ∀o∈l,o.oM)(U: ∀o∈l,o.gE.length<=900000): ∀(c:Nat) (o:Obj),o∈l->o8 o.nR<=c->Lk Q l p b (tR l c) o:=by
 intro c
 induction c with
 |zero=>
  intro o _ hd;have:0<o8 o.nR:=by unfold o8;cases an o.nR 1<;>cases an o.nR 2||an o.nR 3<;>decide
  omega
 |succ c ih=>
  intro o H hd n lo bo bp Kp P D s C k1 k2 k3 k4 N V R hp;have go:=hg o H;have Y:=go.gE.lenS cH;have rc:=go.gE.ge;have rn:jY o.refsV=true:=by rcases go.gE with⟨e,_⟩|⟨k,e⟩<;>rw[e]<;>rfl
  have O:=N.lo;have a0:=N.lq;have a1:=N.lp;have a2:=N.lm;obtain⟨u,m⟩:=ct (s.new (.cells [.yld n]));have un:u.aL=s.aL+1:=by rw[<-m];rfl
  have J: ∀k,k<s.aL->u.get [] k=s.get [] k:=fun k w=>by rw[<-m,cz w]
  have Z:u.get [] s.aL=some (.cells [.yld n]):=by rw[<-m];exact cW
  have M:u.gt<=u.aL:=by rw[<-m];exact cq R
  have K0:kV lo Kp s u:=.all J (by omega) M;have d:=(J bo O).trans N.o;have NU:=N.kept K0 k1 k2 k3 k4;have pu:=C.grow _ _ _ hp fun k w=>J k (by omega);simp only[Obj.cells] at d;refine aq.ofNRZ akT (co ?_);cases h1:an o.nR 1 with
  |true=>
   have j:tR l (c+1) o=[((o.x,o.y),true)]:=by unfold tR;rw[h1];rfl
   rw[j] at C ⊢;obtain⟨v,s1,hy,I,hv⟩:=C.step 0 ((o.x,o.y),true) u rfl pu (by omega) M;simp only[aU] at hy;simp only[go_sem,seval,Tt,Ta,m,d,Z,h1,aW,aY,bj,bg,aZ,bf,evc];refine zN.of hy (by decide) ?_;simp only[go_sem,seval];refine⟨_,rfl,rfl,K0.trans I,?_⟩;rcases hv with⟨_,h⟩|⟨_,h⟩
   exact .inl h;exact .inr h
  |false=>
   have j:tR l (c+1) o=t7 l (tR l c) o.nR 0 o.gE:=by
    (conv=>lhs;unfold tR)
    rw[h1];rfl
   rw[j] at C ⊢;have IH: ∀(i:Nat) (r:ag) (q:Obj),o.gE[i]? =some r->dP r l=some q->an q.nR (kR o.nR i)=true->Lk Q l p b (tR l c) q:=fun i r q _ hq w=>by
    have w:q.nR=kR o.nR i:=by simpa[an] using w
    have:=aeI (i:=i) h1;exact ih q (tS hq).1 (by rw[w];omega)
   simp only[go_sem,seval,Tt,Ta,m,d,h1,aW,aY,rc,Y,bj,bg,aZ,bf,evc];refine am4 B F z hg go (U o H) IH C k1 k2 k3 k4 (s0:=u) (bz:=s.aL) NU Z V (by omega) (by omega) ?_ ?_ o.gE [] _ _ u [] rfl rfl pu (.refl M) ?_ ?_ ?_ ?_ ?_ ?_ ?_;intro e lc s1 h I;simp only[go_sem,seval];exact⟨_,rfl,rfl,K0.trans I,.inl h⟩;intro e lc s1 h I;simp only[go_sem,seval];exact⟨_,rfl,rfl,K0.trans I,h⟩
   all_goals first
    |(simp only[sN,seval,bn];done)
    |(simp only[sN,seval,bn];rfl)
    |(repeat' (first|exact rfl|refine aC.all_set ?_ (by first|exact rfl|exact rn)))
noncomputable abbrev JC(E:ax)(x:Option Ex):aR:=.loop 299 E 55 [45,46] Ff Fg x
def vi(r:List Pt)(q:Pt×Bool):Bool:=q.2&& !bc (sn r q.1) 0
def qH(l:List Obj)(id area:ag):Bool:=match dP id l,vD l area with
 |some o,some r=>(tR l 3 o).all (vi r)
 |_,_=>false
def ZS{c:List Obj}(j:c=l)(B:(l.map Obj.id).Nodup){s0:St}{L:List (ag×aa)}(I:wz l c p a b lo s0 s L bv)(k:ag):(cI k L=none/\vD l k=none)\/ ∃v r,cI k L=some v/\vD l k=some r/\ay 2 aU v r:=by
 subst j;cases e:cI k L with
 |some v=>
  obtain⟨o,m,C,r,U,R⟩:=I.rings _ (CM e);have C:k=o.id:=C;refine .inr ⟨v,r,rfl,?_,R⟩;unfold vD;rw[C,FR B m];exact U
 |none=>
  refine .inl ⟨rfl,?_⟩;cases d:vD c k with
  |none=>rfl
  |some r=>
   exfalso;unfold vD at d;cases m:dP k c with
   |none=>rw[m] at d;cases d
   |some o=>
    rw[m] at d;have d:tY c o=some r:=d;obtain⟨J,hid⟩:=tS m;have O:k∈L.map (·.1):=by
     rw[I.ids];refine dy.2 ⟨o,List.mem_filter.2 ⟨J,?_⟩,hid⟩;unfold ph;rw[d];rfl
    obtain⟨x,H,z⟩:=dy.1 O;have: ∀ {M:List (ag×aa)},x∈M->cI k M≠none:=by
     intro M
     induction M with
     |nil=>intro h;cases h
     |cons y M F=>
      intro h w;obtain⟨a,u⟩:=y;simp only[cI] at w;by_cases q:k=a;rw[iP q] at w;cases w;rw[iN q] at w;rcases fc.1 h with h|h
      subst h;exact q z.symm;exact F h w
    exact this H e
def ahj(C:Q.spec 406=some Bi){m q1 rb:Nat}{r:List Pt}(hr:ay 2 aU rv r){seq:List (Pt×Bool)}(e6:ac E 6= .ptr q1 0)(U:ac E 10= .ptr rb 0)(a4:q1<m)(a3:rb<m)(J:rb≠q1):
 D2 Q m (m+1) (fun k=>k<m/\k≠q1) seq (fun i s=>s.get [] m=some (JC E none)/\s.get [] q1=some (.cells [.bool false])/\s.get [] rb=some (.cells [rv])/\(seq.take i).all (vi r)=true) (fun s=>s.get [] m=some (JC E (some .ret))/\s.get [] q1=some (.cells [.bool false])/\seq.all (vi r)=false):=by
 have O:=hr.ge;refine⟨fun i x s hx ⟨M,d,hb,R⟩ a5 a0=>?_,fun i s s' ⟨M,d,hb,R⟩ H=>⟨(H m (by omega)).trans M,(H q1 (by omega)).trans d,(H rb (by omega)).trans hb,R⟩,fun s s' ⟨M,d,R⟩ H=>⟨(H m (by omega)).trans M,(H q1 (by omega)).trans d,R⟩,fun k hk=>by omega⟩;have j:Bi [rv,aU x.1]=some (cd (sn r x.1)):=by simp only[Bi,qx hr,au,wB]
 refine ji.any (ca:=NX) (cb:=Fe) M rfl rfl ajF ajG ?_;refine co ?_;obtain⟨w,Z⟩:=ct (s.put m none);have wn:w.aL=s.aL:=by rw[<-Z];rfl
 obtain⟨z,I⟩:=ct ((w.new (.cells [ic 0,ic 0])).put w.aL (some (.cells [ic x.1.1,ic x.1.2])));have zn:z.aL=s.aL+1:=by rw[<-I];show w.aL+1=_;omega
 have V: ∀k,k<s.aL->k≠m->z.get [] k=s.get [] k:=fun k hk J=>by rw[<-I,aX,bN.2 (by omega:k≠w.aL),cF,cz (by omega),<-Z,aX,bN.2 J];rfl
 have zw:z.gt<=z.aL:=by
  rw[<-I];refine dh _ _ _ (cq ?_);rw[<-Z];exact dh _ _ _ a0
 have zk:z.get [] w.aL=some (.cells [ic x.1.1,ic x.1.2]):=by rw[<-I,aX,bS];rfl
 have zb:z.get [] rb=some (.cells [rv]):=(V rb (by omega) (by omega)).trans hb;have Y:z.get [] q1=some (.cells [.bool false]):=(V q1 (by omega) (by omega)).trans d;have a2:(w.new (.cells [ic 0,ic 0])).get [] w.aL=some (.cells [ic 0,ic 0]):=cW;have fin: ∀(u:St) (o:Option aR),(∀k,k<s.aL->k≠m->k≠q1->u.get [] k=s.get [] k)->s.aL<=u.aL->u.gt<=u.aL->kV (m+1) (fun k=>k<m/\k≠q1) s (u.put m o):=fun u o y hn a1=>by
  refine⟨fun k hk hl=>?_,hn,dh _ _ _ a1⟩;rw[aX,bN.2 (by omega:k≠m)];exact y k hl (by omega) (by omega)
 simp only[go_sem,seval,NX,Z,aU,dn,a2,dp,I,bj,bg,aZ,bf,evc];refine co ?_;cases hin:vi r x with
 |false=>
  have B:seq.all (vi r)=false:=by
   cases hc:seq.all (vi r) with
   |false=>rfl
   |true=>
    have:=f8.1 hc x (eP hx);rw[hin] at this;cases this
  obtain⟨u,y⟩:=ct (z.put q1 (some (.cells [.bool false])));have un:u.aL=s.aL+1:=by rw[<-y];exact zn
  have um:u.gt<=u.aL:=by rw[<-y];exact dh _ _ _ zw
  have uo: ∀k,k<s.aL->k≠m->k≠q1->u.get [] k=s.get [] k:=fun k d F h3=>by rw[<-y,aX,bN.2 h3];exact V k d F
  have u1:u.get [] q1=some (.cells [.bool false]):=by rw[<-y,aX,bS];rfl
  cases F:x.2 with
  |false=>
   simp only[go_sem,seval,Fe,e6,Y,dn,dp,y,F,jI,jL];refine⟨fin u _ uo (by omega) um,.inr ⟨?_,?_,B⟩⟩;rw[aX,bS];rfl;rw[aX,bN.2 (by omega:q1≠m)];exact u1
  |true=>
   have hs:bc (sn r x.1) 0=true:=by
    unfold vi at hin;rw[F,eH] at hin;simpa using hin
   have c:=j;simp only[aU,cd] at c;simp only[go_sem,seval,Fe,e6,U,Y,zb,zk,aW,aY,O,dn,dp,y,F,C,c,hs,jI,jL];refine⟨fin u _ uo (by omega) um,.inr ⟨?_,?_,B⟩⟩;rw[aX,bS];rfl;rw[aX,bN.2 (by omega:q1≠m)];exact u1
 |true=>
  unfold vi at hin;simp only[bu,awP] at hin;have c:=j;simp only[aU,cd] at c;simp only[go_sem,seval,Fe,e6,U,Y,zb,zk,aW,aY,O,C,c,hin.1,hin.2,jI,jL];refine⟨fin z _ (fun k d F _=>V k d F) (by omega) zw,.inl ⟨?_,?_,?_,?_⟩⟩;rw[aX,bS];rfl;rw[aX,bN.2 (by omega:q1≠m)];exact Y;rw[aX,bN.2 (by omega:rb≠m)];exact zb;rw[List.take_add_one,hx,List.all_append,R];simp only[Option.toList_some,ju,List.all_nil,vi,hin.1,hin.2,hG,cw]
def aeJ(k:Int):o8 k<=3:=by unfold o8;cases an k 1<;>cases an k 2||an k 3<;>decide
variable{area:ag}
def ahs{id:ag}(h:dP id l=none):qH l id area=false:=by unfold qH;rw[h]
def aht{id:ag}(h:vD l area=none):qH l id area=false:=by
 unfold qH;rw[h];cases dP id l<;>rfl
def ahu{id:ag}{r:List Pt}(h:dP id l=some o)(c:vD l area=some r):qH l id area=(tR l 3 o).all (vi r):=by unfold qH;rw[h,c]
def ahp(e0:Q.spec 31=some jK)(c8:Q.spec 229=some qe)(b0:No Q 137)(c7:Q.spec 406=some Bi)(a9:No Q 473)(a1:No Q 405)(a8:No Q 474)(e2:No Q 299)(ho:ay 6 Obj.val ov l)(hg: ∀o∈l,o.oM)(hl:l.length<=900000)(c6: ∀o∈l,o.gE.length<=900000)(hv:dD l=true)(id area:ag)(hm:s.gt<=s.aL):
 ∃v s',aq Q 299 [.agg [ov],.str id,.str area] s v s'/\v= .bool (qH l id area):=by
 have d6:=ho.cs;have d7:=ER ho;have c5:=yK hv;obtain⟨F,M⟩:=ct ((s.new (.cells [ov])).new (.cells [.bool false]));have b1:(s.new (.cells [ov])).aL=s.aL+1:=rfl;have e3:F.aL=s.aL+2:=by rw[<-M];rfl
 have d0:F.gt<=F.aL:=by rw[<-M];exact cq (cq hm)
 have d2:F.get [] s.aL=some (.cells [ov]):=by rw[<-M,cz (by omega)];exact cW
 have d1:F.get [] (s.aL+1)=some (.cells [.bool false]):=by rw[<-M,<-b1];exact cW
 refine aq.ofNRZ ajH (co ?_);simp only[go_sem,seval,ol,d6,d7,b1,M,d2,aW,aY,Ke,bj,bg,aZ,bf,evc];refine cG.ex (Yp e0 c8 b0 ho hg hl c6 hv d0) (by decide) ?_;rintro v s1 ⟨rfl,e4,L,bv,I,c3⟩;have nx:=I.nx;have B:=I.hp;have H:s1.get [] (s.aL+1)=some (.cells [.bool false]):=(I.old _ (by omega) (by omega) (by omega)).trans ((c3 _ (by omega)).trans d1);have j:=yW jA yY zP I.mb id;rw[AX] at j;have Z:(s1.new (.cells [.str [],ic 0,ic 0,ic 0,.oZ,.oZ])).get [] s1.aL=some (.cells [.str [],ic 0,ic 0,ic 0,.oZ,.oZ]):=cW;have box: ∀cs, ∃z,(s1.new (.cells [.str [],ic 0,ic 0,ic 0,.oZ,.oZ])).put s1.aL (some (.cells cs))=z/\z.aL=s1.aL+1/\z.gt<=z.aL/\(∀k,k<s1.aL->z.get [] k=s1.get [] k)/\z.get [] s1.aL=some (.cells cs):=fun cs=>
  ⟨_,rfl,rfl,dh _ _ _ (cq I.mw),fun k O=>by rw[aX,bN.2 (by omega:k≠s1.aL),cF,cz O],by rw[aX,bS];rfl⟩
 have C: ∀(z:St) (v:aa),z.gt<=z.aL-> ∃y,(z.new (.cells [.oZ])).put z.aL (some (.cells [v]))=y/\y.aL=z.aL+1/\y.gt<=y.aL/\(∀k,k<z.aL->y.get [] k=z.get [] k)/\y.get [] z.aL=some (.cells [v]):=fun z v hz=>
  ⟨_,rfl,rfl,dh _ _ _ (cq hz),fun k O=>by rw[aX,bN.2 (by omega:k≠z.aL),cF,cz O],by rw[aX,bS];rfl⟩
 have a0: ∀z:St,(z.new (.cells [.oZ])).get [] z.aL=some (.cells [.oZ]):=fun z=>cW;cases hob:dP id l with
 |none=>
  rw[hob] at j;simp only[sF,oB] at j;obtain⟨z,hz,zn,zm,U,zk⟩:=box [.str [],ic 0,ic 0,ic 0,.oZ,.oZ];have J:=(U _ (by omega)).trans B;have a5:bR aa.str z F.aL L:=(U _ (by omega)).trans I.ma;have c:=yW jA CU GX a5 area;have d:=ahs (area:=area) hob;have e5: ∀Y b2,oB .oZ (cI area L)= .tup [Y,.bool b2]->Y.cells=[Y]->Y.ge=true-> ∃w,w=oB .oZ (cI area L):=fun _ _ _ _ _=>⟨_,rfl⟩;rcases ZS rfl c5 I area with⟨g1,g2⟩|⟨Y,r,g1,g2,g3⟩
  rw[g1] at c;simp only[oB] at c;obtain⟨y,hy,yn,ym,V,yk⟩:=C z .oZ zm;have y1:=(V (s.aL+1) (by omega)).trans ((U _ (by omega)).trans H);simp only[go_sem,seval,ol,Gf,B,aW,aY,j,fh,dn,Z,dp,hz];simp only[go_sem,seval,ol,J,aW,aY,c,fh,Ei,dn,a0,dp,hy];simp only[go_sem,seval,ol,y1,aW,aY,dn,dp,aX];exact⟨_,rfl,by rw[d]⟩;rw[g1] at c;simp only[oB] at c;have a3:=g3.ge;have a4:=ER g3;obtain⟨y,hy,yn,ym,V,yk⟩:=C z Y zm;have y1:=(V (s.aL+1) (by omega)).trans ((U _ (by omega)).trans H);simp only[go_sem,seval,ol,Gf,B,aW,aY,j,fh,dn,Z,dp,hz];simp only[go_sem,seval,ol,J,aW,aY,c,fh,a3,a4,dn,a0,dp,hy];simp only[go_sem,seval,ol,y1,aW,aY,dn,dp,aX];exact⟨_,rfl,by rw[d]⟩
 |some o=>
  have c4:=(tS hob).1;have go:=hg o c4;have rc:=go.all;rw[hob] at j;simp only[kn,oB,Obj.val,Obj.cells] at j;obtain⟨z,hz,zn,zm,U,zk⟩:=box o.cells;simp only[Obj.cells] at hz zk;have J:=(U _ (by omega)).trans B;have a5:bR aa.str z F.aL L:=(U _ (by omega)).trans I.ma;have c:=yW jA CU GX a5 area;rcases ZS rfl c5 I area with⟨g1,g2⟩|⟨Y,r,g1,g2,g3⟩
  have d:=aht (id:=id) g2;rw[g1] at c;simp only[oB] at c;obtain⟨y,hy,yn,ym,V,yk⟩:=C z .oZ zm;have y1:=(V (s.aL+1) (by omega)).trans ((U _ (by omega)).trans H);simp only[go_sem,seval,ol,Gf,B,aW,aY,j,fh,rc,dn,Z,dp,hz];simp only[go_sem,seval,ol,J,aW,aY,c,fh,Ei,dn,a0,dp,hy];simp only[go_sem,seval,ol,y1,aW,aY,dn,dp,aX];exact⟨_,rfl,by rw[d]⟩
  ·have d:=ahu hob g2
   rw[g1] at c;simp only[oB] at c;have a3:=g3.ge;have a4:=ER g3;obtain⟨y,hy,yn,ym,V,yk⟩:=C z Y zm;have y1:=(V (s.aL+1) (by omega)).trans ((U _ (by omega)).trans H);have yz:=(V s1.aL (by omega)).trans zk;have R:=Ya a1 go (F.aL+2) y;obtain⟨x,hx⟩:=ct ((y.new (.cells [.ptr (F.aL+2) 0])).new (.cells o.cells));have d5:(y.new (.cells [.ptr (F.aL+2) 0])).aL=y.aL+1:=rfl;have xn:x.aL=y.aL+2:=by rw[<-hx];rfl
   have xo: ∀k,k<y.aL->x.get [] k=y.get [] k:=fun k O=>by rw[<-hx,cz (by omega),cz O]
   have xq:x.get [] y.aL=some (.cells [.ptr (F.aL+2) 0]):=by rw[<-hx,cz (by omega)];exact cW
   have d4:x.get [] (y.aL+1)=some (.cells o.cells):=by rw[<-hx,<-d5];exact cW
   have xm:x.gt<=x.aL:=by rw[<-hx];exact cq (cq ym)
   rw[hx] at R;simp only[Obj.val,Obj.cells] at R;simp only[go_sem,seval,ol,Gf,B,aW,aY,j,fh,rc,dn,Z,dp,hz];simp only[go_sem,seval,ol,J,aW,aY,c,fh,a3,a4,dn,a0,dp,hy];simp only[go_sem,seval,ol,yz,aW,aY,rc];refine cG.of R (by decide) ?_;simp only[go_sem,seval,ol];have b8: ∀(E:ax) (lc:Ag.Loc) (K':Ex->Fr->St->Prop),ac E 6= .ptr (s.aL+1) 0->ac E 10= .ptr z.aL 0->ac E 44= .func (.func 473) [] [.ptr (y.aL+1) 0,.ptr y.aL 0]->E.all jY=true->(∀s2,qH l id area=true->s2.get [] (s.aL+1)=some (.cells [.bool false])->K' .normal ⟨E,55,lc⟩ s2)->(∀s2,qH l id area=false->s2.get [] (s.aL+1)=some (.cells [.bool false])->K' .ret ⟨E,55,lc⟩ s2)->W Q 299 (.rfun (.tmp 44) [45,46] Ff Fg) ⟨E,55,lc⟩ x K':=by
    intro E lc K' e6 e1 c9 hE k5 k6;obtain⟨u,hu⟩:=ct (x.new (JC E none));have un:u.aL=x.aL+1:=by rw[<-hu];rfl
    have uo: ∀k,k<x.aL->u.get [] k=x.get [] k:=fun k O=>by rw[<-hu,cz O]
    have ul:u.get [] x.aL=some (JC E none):=by rw[<-hu];exact cW
    have um:u.gt<=u.aL:=by rw[<-hu];exact cq xm
    have uz: ∀k,k<y.aL->u.get [] k=y.get [] k:=fun k O=>(uo k (by omega)).trans (xo k O);have us: ∀k,k<s1.aL->u.get [] k=s1.get [] k:=fun k O=>(uz k (by omega)).trans ((V k (by omega)).trans (U k O));have CI:=ahj c7 (m:=x.aL) (q1:=s.aL+1) (rb:=z.aL) g3 (seq:=tR l 3 o) e6 e1 (by omega) (by omega) (by omega);have NI:z7 l (F.aL+2) (F.aL+1) (y.aL+1) y.aL o u:=by
     refine⟨(uo _ (by omega)).trans d4,(uo _ (by omega)).trans xq,⟨_,bv,(us _ (by omega)).trans B⟩,(us _ (by omega)).trans I.mb,by omega,by omega,by omega,by omega⟩
    obtain⟨v,s3,a2,rfl,K2,hv⟩:=ahx a9 a1 a8 hg c6 3 o c4 (aeJ _) x.aL (x.aL+1) (y.aL+1) y.aL _ _ _ u CI (.inl ⟨by omega,by omega⟩) (.inl ⟨by omega,by omega⟩) (.inl ⟨by omega,by omega⟩) (.inl ⟨by omega,by omega⟩) NI (by omega) um ⟨ul,(us _ (by omega)).trans H,(uz _ (by omega)).trans yk,rfl⟩;rcases hv with⟨m1,p1,_,ha⟩|⟨m1,p1,ha⟩
    refine oS (h:=473) (first:=[]) (captured:=[.ptr (y.aL+1) 0,.ptr y.aL 0]) (v:=.tup []) (s1:=s3) (by simp only[aA,c9]) (by rw[Std.P,H8,Wg,hE];rfl) (by rw[hu];exact a2) m1 (k5 _ ?_ ?_);rw[d,<-ha,List.take_of_length_le (br _)];rw[aX,bN.2 (by omega:s.aL+1≠x.aL)];exact p1;refine oS (h:=473) (first:=[]) (captured:=[.ptr (y.aL+1) 0,.ptr y.aL 0]) (v:=.tup []) (s1:=s3) (by simp only[aA,c9]) (by rw[Std.P,H8,Wg,hE];rfl) (by rw[hu];exact a2) m1 (k6 _ ?_ ?_);rw[d,ha];rw[aX,bN.2 (by omega:s.aL+1≠x.aL)];exact p1
   have rn:jY Y=true:=by rcases g3 with⟨e,_⟩|⟨k,e⟩<;>rw[e]<;>rfl
   refine b8 _ _ _ ?_ ?_ ?_ ?_ ?_ ?_;simp only[sN,seval];simp only[sN,seval];simp only[sN,seval]
   ·repeat' (first|exact rfl|refine aC.all_set ?_ (by first|exact rfl|exact rn))
   intro s2 a6 a7;simp only[go_sem,seval,ol,a7,aW,aY,dn,dp,aX];exact⟨_,rfl,by rw[a6]⟩;intro s2 a6 a7;simp only[go_sem,seval,ol,a7,aW,aY];exact⟨_,rfl,by rw[a6]⟩
def RD:dX:=[(31,jK),(229,qe),(406,Bi)]
def ab3:dR RD:=.cons xd (.cons Kz (.cons aqy .nil))
def tD:Sp
 | [v,.str id,.str area]=>(lz v).bind fun l=>bif mU l then some (.bool (qH l id area)) else none
 |_=>none
def ahr:db ae 299 tD:=by
 intro args u c G h w xs C H;unfold tD at c;split at c;rename_i O id area;simp only[ak] at c;obtain⟨l,z,c⟩:=c;obtain⟨j,c⟩:=bh c;have c:=sI c;subst c;obtain⟨v,rfl,z,B,R⟩:=rk z;obtain⟨I,F,m,y⟩:=qQ z B;have m:en [.agg [v],.str id,.str area]=[.agg [F],.str id,.str area]:=by simp only[en,m];rfl
 have j:=pf.1 j;refine j9 ab3 (W:=[]) .nil (args:=[.agg [v],.str id,.str area]) (by show(d8 (.agg [v])&&_)=true;rw[I];rfl) (fun M=>?_) G h w xs C H;rw[m];obtain⟨v,s',d,rfl⟩:=ahp (Q:=QW RD [] M) rfl rfl ⟨rfl,rfl⟩ rfl ⟨rfl,rfl⟩ ⟨rfl,rfl⟩ ⟨rfl,rfl⟩ ⟨rfl,rfl⟩ y B (by have:=j.len;omega) (fun o J=>by have:=j.gE o J;omega) j.valid id area (s:=s0) (by decide);exact⟨_,_,d,1,rfl⟩;cases c
def mo(l:List Obj)(x:aI)(o:Obj):Bool:=Mv x o&&(!vk x o&&((x.area== [])||qH l o.id x.area))
def cA(x:aI)(o:Obj):Bool:= !(an x.nR 0)&& !(an x.nR o.nR)
def cB(x:aI)(o:Obj):Bool:= !(x.ifK== [])&& !(dM x.ifK o.gT==some x.ifV)
theorem aet(x:aI)(o:Obj):Mv x o=(!cA x o&& !cB x o):=by
 grind [Mv,cA,cB]
def ahq(h:ay 6 Obj.val v l)(m: ∀o∈l,o.oM)(c:mU l=true)(id area:ag):tD [.agg [v],.str id,.str area]=some (.bool (qH l id area)):=by
 have j:l.length<small:=by
  have:=(pf.1 c).len;have d:=ajJ;omega
 simp only[akZ,tD,uQ h m j,c]
def UY(g:Option ag): ∃v b,yI g= .tup [.str v,.bool b]/\((∃w,g=some w/\v=w/\b=true)\/(g=none/\v=[]/\b=false)):=by
 cases g with
 |none=>exact⟨_,_,rfl,.inr ⟨rfl,rfl,rfl⟩⟩
 |some v=>exact⟨_,_,rfl,.inl ⟨v,rfl,rfl,rfl⟩⟩
variable{xb:Nat}
def apk(h1:ac e 1= .ptr xb 0)(u:ac e 3= .rd 3 1 0)(j:lc.get 3 1=some o.cells)(g3:lc.gen 3=1)(d:s.get [] xb=some (.cells x.cells))(m: ∀c,ac c 19= .bool (cA x o)->ac c 1= .ptr xb 0->ac c 2=ac e 2->ac c 3= .rd 3 1 0->N ⟨c,84,lc⟩ s):WV Q 298 ajC ⟨e,84,lc⟩ s N:=by
 unfold cA at m;simp only[aI.cells] at d;simp only[Obj.cells] at j;cases hz:an x.nR 0 with
 |true=>
  simp only[go_sem,seval,ajC,Wf,ajD,h1,d,aW,aY,hz]
  simp_all [sN]
 |false=>
  simp only[go_sem,seval,ajC,Wf,ajD,h1,u,j,g3,d,aW,aY,hz]
  simp_all [sN]
def apm(h1:ac e 1= .ptr xb 0)(z:ac e 3= .rd 3 1 0)(m:(∃v,dM x.ifK o.gT=some v/\ac e 5= .str v/\ac e 6= .bool true)\/(dM x.ifK o.gT=none/\ac e 5= .str []/\ac e 6= .bool false))(d:s.get [] xb=some (.cells x.cells))(y: ∀c,ac c 43= .bool (cB x o)->ac c 1= .ptr xb 0->ac c 2=ac e 2->ac c 3= .rd 3 1 0->N ⟨c,84,lc⟩ s):WV Q 298 ajD ⟨e,84,lc⟩ s N:=by
 unfold cB at y;simp only[aI.cells] at d;cases hz:x.ifK== [] with
 |true=>
  simp only[go_sem,seval,ajC,Wf,ajD,h1,d,aW,aY,hz]
  simp_all [sN]
 |false=>
  rcases m with⟨v,w,u,j⟩|⟨w,u,j⟩
  simp only[go_sem,seval,ajC,Wf,ajD,h1,u,j,d,aW,aY,hz]
  simp_all [sN]
  simp only[go_sem,seval,ajC,Wf,ajD,h1,u,j,d,aW,aY,hz]
  simp_all [sN]
variable{mb:Nat}
theorem apl(c:Q.spec 299=some tD)(w:ay 6 Obj.val ov l)(B: ∀o∈l,o.oM)(C:mU l=true){k:Bool}(h1:ac e 1= .ptr xb 0)(H:ac e 2= .ptr mb 0)(F:ac e 3= .rd 3 1 0)(u:lc.get 3 1=some o.cells)(g3:lc.gen 3=1)(m:ac e 9= .bool k)(d:s.get [] xb=some (.cells x.cells))(z:s.get [] mb=some (.cells [ov]))(I: ∀y,ac y 4= .bool (!k&&((x.area== [])||qH l o.id x.area))->N ⟨y,84,lc⟩ s):WV Q 298 Wf ⟨e,84,lc⟩ s N:=by
 simp only[aI.cells] at d;simp only[Obj.cells] at u;have j:=w.ge;have q:=ahq w B C o.id x.area;cases k with
 |true=>
  simp only[go_sem,seval,ajC,Wf,ajD,m]
  grind [aj]
 |false=>
  cases hz:x.area== [] with
  |true=>
   simp only[go_sem,seval,ajC,Wf,ajD,h1,m,d,aW,aY,hz]
   grind [aj]
  |false=>
   simp only[go_sem,seval,ajC,Wf,ajD,h1,H,F,u,g3,m,d,z,aW,aY,Ke,hz,j,c,q]
   grind [aj]
theorem adq(c:Q.spec 214=some mV)(V:Q.spec 130=some pP)(U:Q.spec 299=some tD)(a6:No Q 298)(ho:ay 6 Obj.val ov l)(hg: ∀o∈l,o.oM)(hf:mU l=true)(ok:x.Ok)(go:o.oM)(ht:o.gT.length<=1000000)(hx:s.get [] xb=some (.cells x.cells))(hm:s.get [] mb=some (.cells [ov])):aq Q 298 [o.val,.ptr xb 0,.ptr mb 0] s (.bool (mo l x o)) s:=by
 have H:=go.all;have vc:=ok.vals.ge;have q1:=M3 go.gT ht x.ifK;have J:=M3 go.gT ht x.key;have R:=aet x o;have l1:Ag.Loc.get (Ag.Loc.set [] 3 1 o.cells) 3 1=some o.cells:=rfl;have B:Ag.Loc.gen (Ag.Loc.set [] 3 1 o.cells) 3=1:=rfl;obtain⟨lc,F⟩:=ct (Ag.Loc.set [] 3 1 o.cells);rw[F] at l1 B;have j:=l1;simp only[Obj.cells] at F j;have m:=hx;simp only[aI.cells] at m;refine aq.ofNZ ajB (co ?_);simp only[go_sem,seval,Obj.val,Obj.cells,H,F];refine apk (x:=x) (o:=o) ?_ ?_ l1 B hx ?_;simp only[sN,seval];simp only[sN,seval];intro Z y a1 a2 a3;simp only[sN,seval] at a2;cases bA:cA x o with
 |true=>
  have hb:mo l x o=false:=by unfold mo;rw[R,bA];rfl
  rw[bA] at y;simp only[go_sem,seval,y,hb]
 |false=>
  rw[bA] at y;obtain⟨v5,b6,a4,a5⟩:=UY (dM x.ifK o.gT);rw[a4] at q1;simp only[go_sem,seval,y,a1,a3,j,B,m,aW,aY,H,c,q1,fh,iw,jO];refine apm (x:=x) (o:=o) ?_ ?_ ?_ hx ?_;simp only[sN,seval,a1];simp only[sN,seval,a3]
  ·rcases a5 with⟨w,Z,rfl,rfl⟩|⟨Z,rfl,rfl⟩
   all_goals simp_all [sN]
  intro Y d c1 c2 u;simp only[sN,seval,a2] at c2;cases bB:cB x o with
  |true=>
   have hb:mo l x o=false:=by unfold mo;rw[R,bB,fp,gN];rfl
   rw[bB] at d;simp only[go_sem,seval,d,hb]
  |false=>
   rw[bB] at d;have fin: ∀I,ac I 1= .ptr xb 0->ac I 2= .ptr mb 0->ac I 3= .rd 3 1 0-> ∀k,k=vk x o->ac I 9= .bool k-> ∀N:Fr->St->Prop,(∀Y,ac Y 4= .bool (mo l x o)->N ⟨Y,84,lc⟩ s)->WV Q 298 Wf ⟨I,84,lc⟩ s N:=fun I c1 c2 u k z c9 N hN=>by
    refine apl U ho hg hf c1 c2 u l1 B c9 hx hm fun Y C=>hN Y ?_
    grind [mo]
   obtain⟨v7,b8,a0,O⟩:=UY (dM x.key o.gT);rw[a0] at J;have M:(dM x.key o.gT).isNone= !b8/\(dM x.key o.gT).isSome=b8:=by
    rcases O with⟨w,Z,rfl,rfl⟩|⟨Z,rfl,rfl⟩<;>rw[Z]<;>exact⟨rfl,rfl⟩
   cases e3:an x.op 3 with
   |true=>
    have z:(!b8)=vk x o:=by unfold vk;rw[e3,cT,M.1]
    simp only[go_sem,seval,d,c1,u,j,B,m,aW,aY,H,c,J,fh,e3,iw,jO];refine fin _ ?_ ?_ ?_ _ z ?_ _ ?_
    any_goals simp only[sN,seval,c1,c2,u]
    intro e4 C;simp only[go_sem,seval,C]
   |false=>
    cases e2':an x.op 2 with
    |false=>
     have z:b8=vk x o:=by unfold vk;rw[e3,e2',cF,cF,M.2]
     simp only[go_sem,seval,d,c1,u,j,B,m,aW,aY,H,c,J,fh,e3,e2',iw,jO];refine fin _ ?_ ?_ ?_ _ z ?_ _ ?_
     any_goals simp only[sN,seval,c1,c2,u]
     intro e4 C;simp only[go_sem,seval,C]
    |true=>
     rcases O with⟨w,f1,rfl,rfl⟩|⟨f1,rfl,rfl⟩
     ·have z:x.values.contains v7=vk x o:=by unfold vk;rw[e3,e2',cF,cT,f1]
      have q3:=Mu ok.vals ok.len v7;simp only[go_sem,seval,d,c1,u,j,B,m,aW,aY,H,vc,c,J,fh,e3,e2',V,q3,iw,jO];refine fin _ ?_ ?_ ?_ _ z ?_ _ ?_
      any_goals simp only[sN,seval,c1,c2,u]
      intro e4 C;simp only[go_sem,seval,C]
     ·have z:true=vk x o:=by unfold vk;rw[e3,e2',cF,cT,f1]
      simp only[go_sem,seval,d,c1,u,j,B,m,aW,aY,H,c,J,fh,e3,e2',iw,jO];refine fin _ ?_ ?_ ?_ _ z ?_ _ ?_
      any_goals simp only[sN,seval,c1,c2,u]
      intro e4 C;simp only[go_sem,seval,C]
def pd(f:Nat×ag):aa:=.agg [uM f.1,.str f.2]
def HV(l:List Obj)(k:Nat)(x:aI):List (Nat×ag):=(l.filter (mo l x)).map fun o=>(k,o.id)
def pR(l:List Obj):Nat->List aI->List (Nat×ag)
 |_,[]=>[]
 |k,x::r=>HV l k x++pR l (k+1) r
def MM(l:List Obj): ∀(r:List aI) (k:Nat),(pR l k r).length<=r.length*l.length
 | [],_=>Nat.zero_le _
 |x::r,k=>by
  have:=MM l r (k+1);have h:=kT (mo l x) l;simp only[pR,HV,cJ,ce,bH,Nat.succ_mul];omega
def adp(d:No Q 217)(w:ay 6 Obj.val ov l)(j:x.Ok)(s:St):aq Q 217 [.agg [ov],x.val] s (.func (.func 298) [] [.ptr (s.aL+1) 0,.ptr s.aL 0]) ((s.new (.cells [ov])).new (.cells x.cells)):=by
 have c:=w.cs;have m:=j.vals.ge;have vs:=j.vals.scal;have u:(s.new (.cells [ov])).aL=s.aL+1:=rfl;refine aq.ofNZ aiB (co ?_);simp only[go_sem,seval,c,aI.val,aI.cells,m,vs,u,bj,bg,aZ,bf,evc]
def afT(b0:Q.spec 214=some mV)(b1:Q.spec 130=some pP)(a9:Q.spec 299=some tD)(O:No Q 298)(ho:ay 6 Obj.val ov l)(hg: ∀o∈l,o.oM)(hf:mU l=true)(ht: ∀o∈l,o.gT.length<=1000000)(ok:x.Ok){k nr:Nat}{bse:List (Nat×ag)}(c9:bse.length+l.length<=900000){s0:St}(U:s0.get [] xb=some (.cells x.cells))(Z:s0.get [] mb=some (.cells [ov]))(xl:xb<s0.aL)(ml:mb<s0.aL)(hx: ∀e lc s tv,cR 2 lo s tv ((bse++HV l k x).map pd)->oV s0 s->lo<=s.aL->(∀k,k<lo->s.get [] k=s0.get [] k)->ac e 1=rv->ac e 2= .rd 2 1 0->lc.get 2 1=some [ov]->lc.gen 2=1->ac e 5=tv->ac e 19=rv->ac e 20=uM nr->ac e 21=uM k->K (.exit 2) ⟨e,49,lc⟩ s):
 ∀(d c:List Obj) (e:ax) (lc:Ag.Loc) (s:St) (tv:aa),l=c++d->cR 2 lo s tv ((bse++(c.filter (mo l x)).map fun o=>(k,o.id)).map pd)->oV s0 s->lo<=s.aL->(∀k,k<lo->s.get [] k=s0.get [] k)->ac e 1=rv->ac e 2= .rd 2 1 0->lc.get 2 1=some [ov]->lc.gen 2=1->ac e 5=tv->ac e 6=uM k->ac e 8= .func (.func 298) [] [.ptr xb 0,.ptr mb 0]->ac e 19=rv->ac e 20=uM nr->ac e 21=uM k->ac e 30=ov->ac e 31=uM l.length->ac e 32=uM c.length->W Q 124 (.loop Nn) ⟨e,49,lc⟩ s K:=by
 intro d
 induction d with
 |nil=>
  intro c e lc s tv J M u w z r1 r2 l2 g2 h5 h6 h8 H F C B m j;have c6:c.length=l.length:=by rw[J];simp
  have c3:c=l:=by rw[J];simp
  refine bG ?_;simp only[go_sem,seval,Nn,m,j,c6,cD];rw[c3] at M;refine hx _ _ _ tv M u w z ?_ ?_ l2 g2 ?_ ?_ ?_ ?_
  all_goals simp only[sN,seval,r1,r2,h5,H,F,C]
 |cons o d ih=>
  intro c e lc s tv J M u w z r1 r2 l2 g2 h5 h6 h8 H F C B m j;have c5:c.length<l.length:=by rw[J];simp
  have a8:l[c.length]? =some o:=by rw[J];simp
  have Y:=eP a8;have go:=hg o Y;have rc:=go.all;have c7:=fun lc k=>ho.at gX.2.2.1 a8 lc k;have c8:l.length<=900:=(pf.1 hf).len;have V:=dB (n:=c.length) (by omega);have b8:=(u.old xb xl (by rw[U];simp)).trans U;have c4:=(u.old mb ml (by rw[Z];simp)).trans Z;have I:=adq b0 b1 a9 O ho hg hf ok go (ht o Y) (s:=s) b8 c4;simp only[Obj.val,Obj.cells] at I;have R:=M.ge;have a0:(bse++(c.filter (mo l x)).map fun o=>(k,o.id)).length<=900000:=by
   rw[cJ,ce]
   have:=kT (mo l x) c;omega
  refine bG ?_;simp only[go_sem,seval,Nn,h8,B,m,j,c5,c7,Obj.val,Obj.cells,rc];refine cG.of I (by decide) ?_;cases hb:mo l x o with
  |false=>
   simp only[go_sem,seval,j,V];refine ih (c++[o]) _ _ s tv (by rw[J];simp) (by rw[o9 hb];exact M) u w z ?_ ?_ ?_ ?_ ?_ ?_ ?_ ?_ ?_ ?_ ?_ ?_ ?_
   all_goals simp only[sL,seval,r1,r2,l2,g2,h5,h6,h8,H,F,C,B,m,sA]
  |true=>
   obtain⟨b2,s1,a1,a2,a3,a4,a5,a6,a7⟩:=BL (t:=184) P7.1 rfl (by decide) (s:=s) (y:=.list 2 [pd (k,o.id)] .uP) (x:=pd (k,o.id)) M (by simp only[afo,eE]) (by rw[ce];exact a0) w u.mw;simp only[pd] at a1;simp only[go_sem,seval,h5,h6,R,bj,bg,aZ,bf,evc];simp only[go_sem,seval,h5,j,V,R,a1,a3,bj,bg,aZ,bf,evc];refine ih (c++[o]) _ _ s1 b2 (by rw[J];simp) (by
    have e:(bse++((c++[o]).filter (mo l x)).map fun o=>(k,o.id)).map pd=(bse++(c.filter (mo l x)).map fun o=>(k,o.id)).map pd++[pd (k,o.id)]:=by rw[tm hb];simp
    rw[e];exact a2) (u.app a4 a5 a6) (by omega) (fun k u=>(a7 k u).trans (z k u)) ?_ ?_ ?_ ?_ ?_ ?_ ?_ ?_ ?_ ?_ ?_ ?_ ?_
   all_goals simp only[sL,seval,r1,r2,l2,g2,h6,h8,H,F,C,B,m,sA]
variable{rl:List aI}
def af9(Y:Q.spec 214=some mV)(Z:Q.spec 130=some pP)(V:Q.spec 299=some tD)(I:No Q 298)(J:No Q 217)(ho:ay 6 Obj.val ov l)(hg: ∀o∈l,o.oM)(hf:mU l=true)(ht: ∀o∈l,o.gT.length<=1000000)(a3:ay 8 aI.val rv rl)(ok: ∀x∈rl,x.Ok)(a2:rl.length<=200){s9:St}(hx: ∀e lc s tv,cR 2 lo s tv ((pR l 0 rl).map pd)->s.gt<=s.aL->lo<=s.aL->(∀k,k<lo->s.get [] k=s9.get [] k)->ac e 5=tv->K (.exit 0) ⟨e,49,lc⟩ s):
 ∀(j c:List aI) (e:ax) (lc:Ag.Loc) (s:St) (tv:aa) (d:List (Nat×ag)),rl=c++j->d++pR l c.length j=pR l 0 rl->cR 2 lo s tv (d.map pd)->lo<=s.aL->s.gt<=s.aL->(∀k,k<lo->s.get [] k=s9.get [] k)->ac e 1=rv->ac e 2= .rd 2 1 0->lc.get 2 1=some [ov]->lc.gen 2=1->ac e 5=tv->ac e 19=rv->ac e 20=uM rl.length->ac e 21=uM c.length->W Q 124 (.loop Np) ⟨e,49,lc⟩ s K:=by
 have a7:l.length<=900:=(pf.1 hf).len;have d0:(pR l 0 rl).length<=200*900:=fA (MM l rl 0) (rf a2 a7);have R:=ho.ge;have a6:=ho.lenS gX;intro j
 induction j with
 |nil=>
  intro c e lc s tv d h1 H hO O B h9 r1 r2 l2 g2 h5 C y w;have a8:c.length=rl.length:=by rw[h1];simp
  refine bG ?_;simp only[go_sem,seval,Np,y,w,a8,cD];have H:d=pR l 0 rl:=by rw[<-H];exact(kC d).symm
  subst H;exact hx _ _ _ tv hO B O h9 (by simp only[sN,seval,h5])
 |cons x j ih=>
  intro c e lc s tv d h1 H hO O B h9 r1 r2 l2 g2 h5 C y w;have a5:c.length<rl.length:=by rw[h1];simp
  have U:rl[c.length]? =some x:=by rw[h1];simp
  have u:=ok x (eP U);have vc:=u.vals.ge;have vs:=u.vals.scal;have b0:=fun lc k=>a3.at t9.2.2.1 U lc k;have a1:=dB (n:=c.length) (by omega);have b1:d.length+l.length<=900000:=by
   have:=congrArg List.length H;rw[cJ] at this;omega
  have m:=adp J ho u s;obtain⟨z,F⟩:=ct ((s.new (.cells [ov])).new (.cells x.cells));have nn:(s.new (.cells [ov])).aL=s.aL+1:=rfl;have zn:z.aL=s.aL+2:=by rw[<-F];rfl
  have zo: ∀k,k<s.aL->z.get [] k=s.get [] k:=fun k hk=>by rw[<-F,cz (by omega),cz hk]
  have zm:z.gt<=z.aL:=by rw[<-F];exact cq (cq B)
  have z0:z.get [] s.aL=some (.cells [ov]):=by rw[<-F,cz (by omega)];exact cW
  have z1:z.get [] (s.aL+1)=some (.cells x.cells):=by rw[<-F,<-nn];exact cW
  rw[F] at m;simp only[aI.val,aI.cells] at m;have b8:cR 2 lo z tv ((d++(([]:List Obj).filter (mo l x)).map fun o=>(c.length,o.id)).map pd):=by
   have e:(d++(([]:List Obj).filter (mo l x)).map fun o=>(c.length,o.id))=d:=by simp
   rw[e];rcases hO with h|⟨q1,k,q2,q3,q4,q5⟩
   exact .inl h;exact .inr ⟨q1,k,q2,(zo k q5).trans q3,q4,by omega⟩
  refine bG ?_;simp only[go_sem,seval,Np,r2,l2,g2,C,y,w,a5,b0,aI.val,aI.cells,vc,vs,R];refine cG.of m (by decide) ?_;simp only[go_sem,seval,r2,l2,g2,a6,R];refine afT Y Z V I ho hg hf ht u (rv:=rv) (xb:=s.aL+1) (mb:=s.aL) (lo:=lo) (k:=c.length) (nr:=rl.length) (bse:=d) b1 (s0:=z) z1 z0 (by omega) (by omega) ?_ l [] _ _ z tv rfl b8 (.refl zm) (by omega) (fun _ _=>rfl) ?_ ?_ ?_ ?_ ?_ ?_ ?_ ?_ ?_ ?_ ?_ ?_ ?_
  ·intro e1 c9 s1 a0 b2 a9 M a4 c1 c2 c3 c4 c5 c8 c7 c6
   simp only[go_sem,seval,c6,a1];refine ih (c++[x]) _ _ s1 a0 (d++HV l c.length x) (by rw[h1];simp) ?_ b2 M a9.mw (fun k hk=>(a4 k hk).trans ((zo k (by omega)).trans (h9 k hk))) ?_ ?_ ?_ ?_ ?_ ?_ ?_ ?_;rw[<-H,ny,cJ];rfl
   all_goals simp only[sL,seval,c1,c2,c3,c4,c5,c8,c7,sA]
  all_goals simp only[sL,seval,r1,r2,l2,g2,h5,C,y,w,bn]
  all_goals rfl
def afK(d:Q.spec 216=some Bh)(Y:Q.spec 31=some jK)(z:Q.spec 214=some mV)(B:Q.spec 130=some pP)(y:Q.spec 299=some tD)(j:No Q 298)(m:No Q 217)(Z:No Q 124)(F:ay 6 Obj.val ov l)(hg: ∀o∈l,o.oM)(V:mU l=true)(ht: ∀o∈l,o.gT.length<=1000000)(c:ay 8 aI.val rv rl)(ok: ∀x∈rl,x.Ok)(J:rl.length<=1000000)(hm:s.gt<=s.aL):
 ∃v s',aq Q 124 [.agg [ov],rv] s v s'/\(ay 2 pd v (bif oH rl then pR l 0 rl else [])/\s'.gt<=s'.aL/\s.aL<=s'.aL/\ ∀k,k<s.aL->s'.get [] k=s.get [] k):=by
 have a0:=ajJ;have a1:l.length<=900:=(pf.1 V).len;have hv:dD l=true:=(pf.1 V).valid;have w:=F.cs;have a2:=ER F;have u:=c.ge;have I:=c.lenS t9;have C:=ap9 c ok J;have q2:=A0 F hg (by omega);rw[hv] at q2;refine aq.ofNRZ ahB (co ?_);cases hr:oH rl with
 |false=>
  rw[hr] at C;simp only[go_sem,seval,w,u,d,C];exact⟨_,rfl,.inl ⟨rfl,rfl⟩,hm,fun _ _=>trivial⟩
 |true=>
  have M:rl.length<=200:=by
   unfold oH at hr;simp only[bu,dE] at hr;exact hr.1
  rw[hr] at C;simp only[go_sem,seval,w,u,I,d,C,Y,q2];refine af9 z B y j m F hg V ht c ok M (lo:=s.aL) (s9:=s) ?_ rl [] _ _ s .oZ [] rfl rfl (.inl ⟨rfl,rfl⟩) (br _) hm (fun _ _=>rfl) ?_ ?_ ?_ ?_ ?_ ?_ ?_ ?_;intro e lc s1 tv hO R U O h5;have H:=hO.ge;simp only[go_sem,seval,h5,H];exact⟨_,rfl,hO.isL,R,U,O⟩
  all_goals simp only[abc,alb,ah,bQ]
  all_goals rfl
