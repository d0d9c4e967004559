/- Lemmas for ValidParts. -/
import Derived.Test.YtnnppcoplinajaaGreatB9
import Derived.Test.YtnnppcoplinajaaGreatB12
import Derived.Test.YtnnppcoplinajaaGreatAg3
set_option linter.all false
open Bool renaming and_eq_true→bm,and_false→gh,and_self→bW,false_and→dA,false_ne_true→Kn,false_or→hZ,not_eq_true'→mQ,not_false→kp,not_true→jp,or_eq_false_iff→vE,true_and→en
open Classical renaming byContradiction→su
open List renaming all_cons→jq,all_eq_true→fu,append_assoc→lV,append_nil→nD,drop→bK,eq_nil_of_length_eq_zero→tZ,filter_append→Gx,filter_cons_of_neg→Bi,filter_cons_of_pos→DK,foldl_cons→t5,getD_eq_getElem?_getD→kU,getElem?_append_left→Bk,getElem?_append_right→t6,getElem?_eq_getElem→fE,getElem?_eq_some_iff→nF,getElem?_map→iw,getElem?_of_mem→t7,getElem?_zip_eq_some→Ks,getElem_mem→xD,length_append→cD,length_cons→dM,length_filter_le→kE,length_map→bP,length_nil→cV,length_tail→xE,map_append→eE,map_cons→eA,map_eq_nil_iff→zy,map_nil→t8,mem_append_left→sB,mem_append→jb,mem_cons_of_mem→fW,mem_cons_self→gF,mem_cons→dl,mem_map→cx,mem_of_getElem?→dB,nodup_append→vG,range→gV,take_of_length_le→qY,take→cM
open Nat renaming beq→aK,ble_eq_true_of_le→cE,ble→bn,blt→bh,eq_of_beq_eq_true→jr,le_of_ble_eq_true→fF,le_refl→bk,le_succ_of_le→bU,lt_irrefl→cq,lt_of_lt_of_le→gj,lt_succ_self→kF,mul_one→xI,not_lt_zero→GH,reduceAdd→bG,reduceBEq→ai,reduceDiv→dY,reduceEqDiff→dU,reduceLT→ay,reduceLeDiff→cy,reduceMod→dC,reduceMul→dw,reducePow→dD,reduceSub→dG,zero_add→eH
open Option renaming bind_eq_some_iff→aj,bind_some→bg,map_none→sD,map_some→jI
open Option.some renaming injEq→aH
open Go.Proofs.Tryz renaming prog→ah
open Go.Ag.W renaming drawX→gK,loopC→bq,loopE→lz,rfun→ou
open Go.Ag.WC renaming sound→bT
namespace Go.Proofs.YtnnppcoplinajaaGreat
open Go.Ag
variable{Q:aD}[Std Q]
def XC:(dv ET&&dv EV)=true:=by kernel_rfl
def acp{r:List Pt}(h:oX r=true):(jR r=true↔ ∀i,i<r.length-> ∀k,k<i->nj r i k=true):=by
 unfold jR;rw[h,en,fu];simp only[List.mem_range,fu]
variable{i k:Nat}
def avv{r:List Pt}(j:i<r.length)(d:k<i)(h:nj r i k=false):jR r=false:=by
 cases e:jR r with
 |false=>rfl
 |true=>
  have c:oX r=true:=by unfold jR at e;simp only[bm] at e;exact e.1
  have:=(acp c).1 e i j k d;rw[h] at this;cases this
def Da{r:List Pt}(h:oX r=true):(3<=r.length/\r.length<=2000)/\r.all bf=true:=by
 unfold oX at h;simp only[bm,dE] at h;exact⟨⟨h.1,h.2.1⟩,h.2.2⟩
variable{lc:Ag.Loc}{K:Ex->Fr->St->Prop}{b3 bx:Nat}{rv:aa}{E:aw}
def avr(d:No Q 339)(B:No Q 235)(I:Q.spec 225=some kN){r:List Pt}(hr:ax 2 aN rv r)(u:oX r=true){by' b2:Nat}{s0:St}(U:s0.get [] bx=some (.cells [rv]))(R:s0.get [] by'=some (.cells [rv]))(Y:s0.get [] b2=some (.cells [.bool false]))(V:s0.get [] b3=some (.cells [aM r.length]))(lx:bx<s0.aL)(ly:by'<s0.aL)(l2:b2<s0.aL)(l3:b3<s0.aL)(e1:ac E 1= .ptr bx 0)(e2:ac E 2= .ptr b2 0)(e3:ac E 3= .ptr b3 0)(J:ac E 16= .func (.func 339) [] [.ptr by' 0])(Z:E.all jB=true)(M:s0.gt<=s0.aL)(F: ∀x s2,gM r 0 s0 s2->((x= .normal/\jR r=true)\/(x= .ret/\jR r=false))->K x ⟨E,54,lc⟩ s2):W Q 229 (.rfun (.tmp 16) [17,18] ET EV) ⟨E,54,lc⟩ s0 K:=by
 obtain⟨⟨a0,w⟩,hn⟩:=Da u;obtain⟨v,s',m,rfl,h⟩:=AZ d hr w (bx:=by') (n:=s0.aL) (P:=fun i s=>gM r 0 s0 s/\s.get [] s0.aL=some (qG E none)/\ ∀j,j<i-> ∀k,k<j->nj r j k=true) (D:=fun s=>gM r 0 s0 s/\s.get [] s0.aL=some (qG E (some .ret))/\jR r=false) (fun k s h=>(h.1.old by' ly).trans R) (fun k s h=>h.1.mw) (fun i s hi ⟨c,hl,y⟩=>by
  obtain⟨v,s',q1,q2,q3,q4,q5⟩:=avq d B I hr w hn hi U Y V lx l2 l3 e1 e2 e3 Z c hl;refine⟨v,s',q1,q2,q3,?_⟩;rcases q5 with⟨rfl,h1,h2⟩|⟨rfl,h1,k,h2,h3⟩
  refine .inl ⟨rfl,q4,h1,fun j z k F=>?_⟩;by_cases e:j=i;subst e;exact h2 k F;exact y j (by omega) k F;exact .inr ⟨rfl,q4,h1,avv hi h2 h3⟩) (s:=s0.new (qG E none)) ⟨⟨fun j z=>ck z,bU M,kF _,rfl⟩,cG,fun j z=>absurd z (GH _)⟩
 have C:gM r 0 s0 s'->gM r 0 s0 (s'.put s0.aL none):=fun c=>⟨fun j z=>by rw[aR,bN.2 (by omega:j≠s0.aL)];exact c.old j z,cR _ _ _ c.mw,c.lt,c.ci⟩;rcases h with⟨c,O,y⟩|⟨c,O,H⟩
 exact ou (h:=339) (first:=[]) (captured:=[.ptr by' 0]) (v:=.tup []) (s1:=s') (by simp only[dR,J]) (by rw[Std.P,rE,XC,Z];rfl) m O (F _ _ (C c) (.inl ⟨rfl,(acp u).2 y⟩));exact ou (h:=339) (first:=[]) (captured:=[.ptr by' 0]) (v:=.tup []) (s1:=s') (by simp only[dR,J]) (by rw[Std.P,rE,XC,Z];rfl) m O (F _ _ (C c) (.inr ⟨rfl,H⟩))
variable{s:St}
def avx(M:No Q 495)(U:No Q 428)(O:No Q 430)(R:No Q 429)(Y:No Q 326)(V:No Q 339)(m:No Q 235)(a1:Q.spec 225=some kN)(a7:No Q 229){r:List Pt}(J:ax 2 aN rv r)(a4:s.gt<=s.aL):
 ∃v s',aq Q 229 [rv] s v s'/\(v= .bool (jR r)/\(∀j,j<s.aL->s'.get [] j=s.get [] j)/\s.aL<=s'.aL/\s'.gt<=s'.aL/\s'.ci=s.ci):=by
 have a0:=J.cs;have a3:=vh J;have a5:=J.lenS mH;obtain⟨x,B⟩:=bZ ((s.new (.cells [rv])).new (.cells [.bool false]));have C:(s.new (.cells [rv])).aL=s.aL+1:=rfl;have xn:x.aL=s.aL+2:=by rw[<-B];rfl
 have xm:x.gt<=x.aL:=by rw[<-B];exact bU (bU a4)
 have x0:x.get [] s.aL=some (.cells [rv]):=by rw[<-B,ck (by rw[C];omega)];exact cG
 have x1:x.get [] (s.aL+1)=some (.cells [.bool false]):=by rw[<-B];exact cG
 have xo: ∀j,j<s.aL->x.get [] j=s.get [] j:=fun j d=>by rw[<-B,ck (by rw[C];omega),ck d]
 have xc:x.ci=s.ci:=by rw[<-B];rfl
 have a2:=abO M U O R Y J x;refine aq.ofNRZ an9 (bT ?_);simp only[go_sem,seval,a0,C,B,aP,x0,aQ,qQ];refine ct.of a2 (by decide) ?_;cases hreg:oX r with
 |false=>
  have hs:jR r=false:=by unfold jR;rw[hreg];rfl
  obtain⟨y,c⟩:=bZ (x.put (s.aL+1) (some (.cells [.bool false])));have yk:y.get [] (s.aL+1)=some (.cells [.bool false]):=by rw[<-c,aR,bS];rfl
  simp only[go_sem,seval,cO,x1,cS,c,aP,yk,aQ];refine⟨_,rfl,by rw[hs],fun j d=>?_,?_,?_,?_⟩;rw[<-c,aR,bN.2 (by omega:j≠s.aL+1)];exact xo j d;rw[<-c];show s.aL<=x.aL;omega;rw[<-c];exact cR _ _ _ xm;rw[<-c];exact xc
 |true=>
  obtain⟨w,H⟩:=bZ ((x.new (.cells [ag 0])).put x.aL (some (.cells [aM r.length])));have a6:(x.new (.cells [ag 0])).get [] x.aL=some (.cells [ag 0]):=cG;have wn:w.aL=s.aL+3:=by
   rw[<-H];show x.aL+1=_;omega
  have wm:w.gt<=w.aL:=by rw[<-H];exact cR _ _ _ (bU xm)
  have wk:w.get [] x.aL=some (.cells [aM r.length]):=by rw[<-H,aR,bS];rfl
  have wo: ∀j,j<x.aL->w.get [] j=x.get [] j:=fun j d=>by rw[<-H,aR,bN.2 (by omega:j≠x.aL),cF,ck d]
  have wc:w.ci=s.ci:=by rw[<-H];exact xc
  have w0:=(wo s.aL (by omega)).trans x0;have z:=AY m J w;obtain⟨u,I⟩:=bZ (w.new (.cells [rv]));have un:u.aL=s.aL+4:=by
   rw[<-I];show w.aL+1=_;omega
  have um:u.gt<=u.aL:=by rw[<-I];exact bU wm
  have uk:u.get [] w.aL=some (.cells [rv]):=by rw[<-I];exact cG
  have Z: ∀j,j<w.aL->u.get [] j=w.get [] j:=fun j d=>by rw[<-I,ck d]
  have uc:u.ci=s.ci:=by rw[<-I];exact wc
  rw[I] at z;simp only[go_sem,seval,aP,x0,aQ,qQ,a0,a5,cO,a6,cS,H,w0];refine ct.of z (by decide) ?_;simp only[go_sem,seval];refine avr V m a1 J hreg (bx:=s.aL) (by':=w.aL) (b2:=s.aL+1) (b3:=x.aL) (s0:=u) ?_ uk ?_ ?_ (by omega) (by omega) (by omega) (by omega) ?_ ?_ ?_ ?_ ?_ um ?_;rw[Z _ (by omega)];exact w0;rw[Z _ (by omega),wo _ (by omega)];exact x1;rw[Z _ (by omega)];exact wk;simp only[sN,seval];simp only[sN,seval];simp only[sN,seval];simp only[sN,seval]
  ·repeat' (first|exact rfl|refine aC.all_set ?_ (by first|exact a3|rfl))
  intro ex s2 F hc;have n2:=F.lt;have b2:s2.get [] (s.aL+1)=some (.cells [.bool false]):=by rw[F.old _ (by omega),Z _ (by omega),wo _ (by omega)];exact x1
  have old: ∀j,j<s.aL->s2.get [] j=s.get [] j:=fun j d=>by rw[F.old _ (by omega),Z _ (by omega),wo _ (by omega)];exact xo j d
  rcases hc with⟨rfl,hs⟩|⟨rfl,hs⟩
  obtain⟨y,c⟩:=bZ (s2.put (s.aL+1) (some (.cells [.bool true])));have yk:y.get [] (s.aL+1)=some (.cells [.bool true]):=by rw[<-c,aR,bS];rfl
  simp only[go_sem,seval,cO,b2,cS,c,aP,yk,aQ];refine⟨_,rfl,by rw[hs],fun j d=>?_,?_,?_,?_⟩;rw[<-c,aR,bN.2 (by omega:j≠s.aL+1)];exact old j d;rw[<-c];show s.aL<=s2.aL;omega;rw[<-c];exact cR _ _ _ F.mw;rw[<-c];exact F.ci.trans uc;simp only[go_sem,seval,aP,b2,aQ];exact⟨_,rfl,by rw[hs],old,by omega,F.mw,F.ci.trans uc⟩
def rk(v:aa):Option (List Pt):=ek 2 jw v
variable{v:aa}
def vU{r:List Pt}(h:rk v=some r):ax 2 aN v r/\dL v=true/\ax 2 aN (cW v) r:=by
 have c:ax 2 aN v r:=jN (fun _ _ h=>lH h) h;exact⟨c,n7 FO c⟩
theorem qi{r:List Pt}(h:ax 2 aN v r):rk v=some r:=by
 rcases h with⟨rfl,rfl⟩|⟨k,rfl⟩
 rfl;show(bif aK 2 2 then hJ jw (r.map aN) else none)=_;exact yH vT r
def pQ:Sp
 | [v]=>(rk v).bind fun r=>some (.bool (jR r))
 |_=>none
def J0{r:List Pt}(h:ax 2 aN v r):pQ [v]=some (.bool (jR r)):=by
 simp only[pQ,qi h,bg]
def SU:dp:=[(225,kN)]
def aet:du SU:=.cons Pu .nil
def J1:cQ ah 229 pQ:=by
 intro d u h G z w xs j m;unfold pQ at h;split at h;simp only[aj] at h;obtain⟨r,C,h⟩:=h;have h:=sI h;subst h;obtain⟨_,B,y⟩:=vU C;refine jo aet (W:=[]) .nil (by simp only[ei,B,bW]) (fun F=>?_) G z w xs j m;obtain⟨v,s',c,rfl,_⟩:=avx (Q:=QW SU [] F) ⟨rfl,rfl⟩ ⟨rfl,rfl⟩ ⟨rfl,rfl⟩ ⟨rfl,rfl⟩ ⟨rfl,rfl⟩ ⟨rfl,rfl⟩ ⟨rfl,rfl⟩ rfl ⟨rfl,rfl⟩ y (s:=s0) (by decide);exact⟨_,_,c,1,rfl⟩;cases h
def gY(p:Pt):Bool:=(bV (-4194304) p.1&&bV p.1 4194304)&&(bV (-4194304) p.2&&bV p.2 4194304)
variable{p:Pt}
def RU(h:gY p=true):(-4194304<=p.1/\p.1<=4194304)/\(-4194304<=p.2/\p.2<=4194304):=by
 simp only[gY,bV,bm,dE] at h;exact h
def Kd{x y:Int}(d: -4194304<=x/\x<=4194304)(c: -4194304<=y/\y<=4194304): -8388608<=x-y/\x-y<=8388608:=by omega
def awU(d:No Q 442){a b c:Pt}(M:gY a=true)(J:gY b=true)(I:gY c=true)(s:St):aq Q 442 [aN a,aN b,aN c] s (bO (vu a b c)) s:=by
 have⟨a1,a2⟩:=RU M;have⟨b1,b2⟩:=RU J;have⟨c1,c2⟩:=RU I;have C:=Dv b1 a1;have B:=Dv c2 b2;have z:=Dv b2 a2;have y:=Dv c1 b1;have u:=Kd b1 a1;have m:=Kd c2 b2;have d3:=Kd b2 a2;have j:=Kd c1 b1;have H:=Fz u m;have F:=Fz d3 j;have R:=CF u m;have O:=CF d3 j;have w:IntKind.i64.wrap ((b.1-a.1)*(c.2-b.2)-(b.2-a.2)*(c.1-b.1))=(b.1-a.1)*(c.2-b.2)-(b.2-a.2)*(c.1-b.1):=jE (by omega) (by omega);refine aq.ofNZ apd (bT ?_);simp only[go_sem,seval,aN,bO,vu,C,B,z,y,H,F,w,ql]
def afH(c:No Q 443)(a n b:Int)(s:St):aq Q 443 [ag a,ag n,ag b] s (.bool (rm a n b)) s:=by
 have d:rm a n b=(bV (min a b) n&&bV n (max a b)):=rfl;refine aq.ofNZ ape (bT ?_);rw[d];cases e1:bV (min a b) n with
 |false=>simp only[go_sem,seval,rp,sR,e1,dA]
 |true=>simp only[go_sem,seval,rp,sR,e1,en]
def zh:Sp
 | [u,v,w]=>(jw u).bind fun a=>(jw v).bind fun b=>(jw w).bind fun c=>bif gY a&&(gY b&&gY c) then some (bO (vu a b c)) else none
 |_=>none
def awR{a b c:Pt}(m:gY a=true)(j:gY b=true)(d:gY c=true):zh [aN a,aN b,aN c]=some (bO (vu a b c)):=by
 simp only[dW,zh,vT,m,j,d,bW]
def awS:cQ ah 442 zh:=by
 refine Gg (T:=[]) .nil (W:=[]) .nil fun j u h=>?_;unfold zh at h;split at h;simp only[aj] at h;obtain⟨a,y,b,w,c,m,h⟩:=h;obtain⟨d,h⟩:=aY h;simp only[bm] at d;have h:=sI h;subst h;rw[lH y,lH w,lH m];exact⟨rfl,fun z=>⟨_,_,awU (Q:=QW [] [] z) ⟨rfl,rfl⟩ d.1 d.2.1 d.2.2 _,1,rfl⟩⟩;cases h
def v8:Sp
 | [.int .i64 a,.int .i64 n,.int .i64 b]=>some (.bool (rm a n b))
 |_=>none
def afG:cQ ah 443 v8:=by
 refine Gg (T:=[]) .nil (W:=[]) .nil fun c u h=>?_;unfold v8 at h;split at h;have h:=sI h;subst h;exact⟨rfl,fun d=>⟨_,_,afH (Q:=QW [] [] d) ⟨rfl,rfl⟩ _ _ _ _,1,rfl⟩⟩;cases h
theorem Dh(r:List Pt):(fK r).length=r.length:=by
 unfold fK;rw[List.length_zip,cD,xE,List.length_take];omega
def Dg{r:List Pt}(c:i<r.length):(fK r)[i]? =some (eD r i):=by
 have d:(i+1) % r.length<r.length:=Nat.mod_lt _ (by omega);rw[aci (fE c) (fE d)];unfold fK;rw[Ks];refine⟨fE c,?_⟩;by_cases e:i+1<r.length;have:i<r.tail.length:=by rw[xE];omega
 rw[Bk this,List.getElem?_tail,fE e];simp only[Nat.mod_eq_of_lt e];have u:i+1=r.length:=by omega
 have:r.tail.length<=i:=by rw[xE];omega
 rw[t6 this,xE];have m:i-(r.length-1)=0:=by omega
 have j:(i+1) % r.length=0:=by rw[u,Nat.mod_self]
 rw[m,List.getElem?_take,iP (by omega)];simp only[j];rw[fE]
noncomputable abbrev pC(E:aw)(x:Option Ex):aJ:=.loop 342 E 88 [11,12] Fb Fc x
structure KO (e e':aw):Prop where
 h3:ac e' 3=ac e 3
 h4:ac e' 4=ac e 4
 h5:ac e' 5=ac e 5
 h7:ac e' 7=ac e 7
 h8:ac e' 8=ac e 8
variable{N:Fr->St->Prop}{T:Int}{b7:Nat}{e:aw}{S:bI}
def at0(c:Q.spec 443=some v8)(w:ac e 3= .ptr b3 0)(u:ac e 7= .ptr b7 0)(m:ac e 8=ag T)(g3:s.get [] b3=some (.cells [ag p.1,ag p.2]))(j:s.get [] b7=some (.cells (bL S).cells))(h: ∀y,ac y 19= .bool (an T 0&&(rm S.1.1 p.1 S.2.1&&rm S.1.2 p.2 S.2.2))->KO e y->N ⟨y,88,lc⟩ s):WV Q 342 j9 ⟨e,88,lc⟩ s N:=by
 simp only[bL,lK] at j;have d:v8 [ag S.1.1,ag p.1,ag S.2.1]=some (.bool (rm S.1.1 p.1 S.2.1)):=rfl;have z:v8 [ag S.1.2,ag p.2,ag S.2.2]=some (.bool (rm S.1.2 p.2 S.2.2)):=rfl;cases c1:an T 0 with
 |false=>
  simp only[go_sem,seval,j9,kA,kM,w,u,m,g3,j,aP,aQ,c1];refine h _ ?_ ⟨?_,?_,?_,?_,?_⟩
  all_goals simp only[sN,seval,c1,dA]
 |true=>
  cases c2:rm S.1.1 p.1 S.2.1 with
  |false=>
   rw[c2] at d;simp only[go_sem,seval,j9,kA,kM,w,u,m,g3,j,aP,aQ,c1,c,d];refine h _ ?_ ⟨?_,?_,?_,?_,?_⟩
   all_goals simp only[sN,seval,c1,c2,dA,gh]
  |true=>
   rw[c2] at d;simp only[go_sem,seval,j9,kA,kM,w,u,m,g3,j,aP,aQ,c1,c,d,z];refine h _ ?_ ⟨?_,?_,?_,?_,?_⟩
   all_goals simp only[sN,seval,c1,c2,en]
def at1(m:ac e 3= .ptr b3 0)(j:ac e 7= .ptr b7 0)(d:ac e 8=ag T)(g3:s.get [] b3=some (.cells [ag p.1,ag p.2]))(c:s.get [] b7=some (.cells (bL S).cells))(h: ∀u,ac u 44= .bool (bV S.1.2 p.2&&(aV p.2 S.2.2&&aV 0 T))->KO e u->N ⟨u,88,lc⟩ s):WV Q 342 kA ⟨e,88,lc⟩ s N:=by
 simp only[bL,lK] at c;cases c1:bV S.1.2 p.2 with
 |false=>
  simp only[go_sem,seval,j9,kA,kM,m,j,d,g3,c,aP,aQ,c1];refine h _ ?_ ⟨?_,?_,?_,?_,?_⟩
  all_goals simp only[sN,seval,c1,dA]
 |true=>
  cases c2:aV p.2 S.2.2 with
  |false=>
   simp only[go_sem,seval,j9,kA,kM,m,j,d,g3,c,aP,aQ,c1,c2];refine h _ ?_ ⟨?_,?_,?_,?_,?_⟩
   all_goals simp only[sN,seval,c1,c2,dA,gh]
  |true=>
   simp only[go_sem,seval,j9,kA,kM,m,j,d,g3,c,aP,aQ,c1,c2];refine h _ ?_ ⟨?_,?_,?_,?_,?_⟩
   all_goals simp only[sN,seval,c1,c2,en]
def at2(m:ac e 3= .ptr b3 0)(j:ac e 7= .ptr b7 0)(d:ac e 8=ag T)(g3:s.get [] b3=some (.cells [ag p.1,ag p.2]))(c:s.get [] b7=some (.cells (bL S).cells))(h: ∀u,ac u 65= .bool (aV p.2 S.1.2&&(bV S.2.2 p.2&&aV T 0))->KO e u->N ⟨u,88,lc⟩ s):WV Q 342 kM ⟨e,88,lc⟩ s N:=by
 simp only[bL,lK] at c;cases c1:aV p.2 S.1.2 with
 |false=>
  simp only[go_sem,seval,j9,kA,kM,m,j,d,g3,c,aP,aQ,c1];refine h _ ?_ ⟨?_,?_,?_,?_,?_⟩
  all_goals simp only[sN,seval,c1,dA]
 |true=>
  cases c2:bV S.2.2 p.2 with
  |false=>
   simp only[go_sem,seval,j9,kA,kM,m,j,d,g3,c,aP,aQ,c1,c2];refine h _ ?_ ⟨?_,?_,?_,?_,?_⟩
   all_goals simp only[sN,seval,c1,c2,dA,gh]
  |true=>
   simp only[go_sem,seval,j9,kA,kM,m,j,d,g3,c,aP,aQ,c1,c2];refine h _ ?_ ⟨?_,?_,?_,?_,?_⟩
   all_goals simp only[sN,seval,c1,c2,en]
structure l8 (b5:Nat) (s0 s:St):Prop where
 old: ∀j,j<s0.aL->j≠b5->s.get [] j=s0.get [] j
 mw:s.gt<=s.aL
 lt:s0.aL<s.aL
 ci:s.ci=s0.ci
variable{l:List bI}
def Y8{w:Int}:yE p (S::l) w=bif AH S p then 0 else yE p l (w+vC S p):=rfl
variable{n:Int}{b4 b5:Nat}
def aqI(a2:Q.spec 442=some zh)(a1:Q.spec 443=some v8)(wa:gY S.1=true)(wb:gY S.2=true)(wp:gY p=true)(hi:i<=2000){s0:St}(a7:s0.get [] b3=some (.cells [ag p.1,ag p.2]))(a0:s0.get [] b4=some (.cells [ag 0]))(l3:b3<s0.aL)(l4:b4<s0.aL)(l5:b5<s0.aL)(d3:b3≠b5)(d4:b4≠b5)(e3:ac E 3= .ptr b3 0)(e4:ac E 4= .ptr b4 0)(e5:ac E 5= .ptr b5 0)(hI:l8 b5 s0 s)(hl:s.get [] s0.aL=some (pC E none))(a3:s.get [] b5=some (.cells [ag n]))(hn: -(i:Int)<=n/\n<=i):
 ∃v s',iy Q s0.aL [aM i,bL S] s.top v s'/\(s'.ci=s.ci/\s.aL<=s'.aL/\l8 b5 s0 (s.Gt s')/\((v= .bool true/\AH S p=false/\s'.get [] s0.aL=some (pC E none)/\s'.get [] b5=some (.cells [ag (n+vC S p)]))\/(v= .bool false/\AH S p=true/\s'.get [] s0.aL=some (pC E (some .ret))))):=by
 have a8:=hI.lt;have a5:=hI.mw;have hq:=awR wa wb wp;obtain⟨T,hT⟩:=bZ (vu S.1 S.2 p);rw[hT] at hq;simp only[aN,bO] at hq;have a4:AH S p=(an T 0&&(rm S.1.1 p.1 S.2.1&&rm S.1.2 p.2 S.2.2)):=by rw[<-hT];rfl
 have c:vC S p=bif(bV S.1.2 p.2&&(aV p.2 S.2.2&&aV 0 T)) then 1 else bif(aV p.2 S.1.2&&(bV S.2.2 p.2&&aV T 0)) then-1 else 0:=by rw[<-hT];rfl
 refine iy.any (ca:=OG) (cb:=OH) (show s.top.get [] s0.aL=_ from hl) rfl rfl ao0 ao1 ?_;refine bT ?_;obtain⟨w,hw⟩:=bZ (s.top.put s0.aL none);have wn:w.aL=s.aL:=by rw[<-hw];rfl
 have wo: ∀j,j≠s0.aL->w.get [] j=s.get [] j:=fun j B=>by rw[<-hw,aR,bN.2 B];rfl
 have wm:w.gt<=w.aL:=by rw[<-hw];exact cR s.top _ _ (bk _)
 obtain⟨z,I⟩:=bZ ((w.new (.cells [ag 0,ag 0,ag 0,ag 0])).put w.aL (some (.cells (bL S).cells)));have zn:z.aL=s.aL+1:=by rw[<-I,<-wn];rfl
 have zc:z.ci=s.ci:=by rw[<-I,<-hw];rfl
 have zm:z.gt<=z.aL:=by rw[<-I];exact cR _ _ _ (bU wm)
 have zk:z.get [] w.aL=some (.cells (bL S).cells):=by rw[<-I,aR,bS];rfl
 have zs: ∀j,j<s.aL->j≠s0.aL->z.get [] j=s.get [] j:=fun j B d=>by rw[<-I,aR,bN.2 (by omega:j≠w.aL),cF,ck (by omega),wo j d]
 have V: ∀j,j<s0.aL->j≠b5->z.get [] j=s0.get [] j:=fun j B d=>(zs j (by omega) (by omega)).trans (hI.old j B d);have z3:=(V b3 l3 d3).trans a7;have z4:=(V b4 l4 d4).trans a0;have z5:=(zs b5 (by omega) (by omega)).trans a3;simp only[bL,lK] at I;have a6:(w.new (.cells [ag 0,ag 0,ag 0,ag 0])).get [] w.aL=some (.cells [ag 0,ag 0,ag 0,ag 0]):=cG;simp only[go_sem,seval,j9,kA,kM,OG,bL,hw,cO,a6,cS,I,bj,bc,aX,aZ,evc];have fin: ∀(u:St) (o:Option Ex),(∀j,j<s0.aL->j≠b5->u.get [] j=s0.get [] j)->u.aL=s.aL+1->u.ci=s.ci->u.gt<=u.aL->(u.put s0.aL (some (pC E o))).ci=s.ci/\s.aL<=(u.put s0.aL (some (pC E o))).aL/\l8 b5 s0 (s.Gt (u.put s0.aL (some (pC E o))))/\(u.put s0.aL (some (pC E o))).get [] s0.aL=some (pC E o)/\(u.put s0.aL (some (pC E o))).get [] b5=u.get [] b5:=fun u o q1 q2 q3 q4=>by
  have qn:(u.put s0.aL (some (pC E o))).aL=s.aL+1:=q2;refine⟨q3,by omega,⟨fun j B d=>?_,pB a5 (by omega),?_,q3.trans hI.ci⟩,by rw[aR,bS];rfl,by rw[aR,bN.2 (by omega:b5≠s0.aL)];rfl⟩;rw[lL,aR,bN.2 (by omega:j≠s0.aL)];exact q1 j B d;show s0.aL<(u.put s0.aL (some (pC E o))).aL;omega
 refine bT ?_;have Z:=zk;simp only[bL,lK] at Z;simp only[go_sem,seval,OH,e3,z3,Z,aP,aQ,a2,hq];refine at0 a1 (b3:=b3) (b7:=w.aL) (p:=p) (S:=S) (T:=T) ?_ ?_ ?_ z3 zk ?_;simp only[sN,seval,e3];simp only[sN,seval];simp only[sN,seval];intro e1 C ⟨k3,k4,k5,k7,k8⟩;simp only[sN,seval,e3,e4,e5] at k3 k4 k5 k7 k8;rw[<-a4] at C;cases ho:AH S p with
 |true=>
  rw[ho] at C;obtain⟨y,m⟩:=bZ (z.put b4 (some (.cells [ag 0])));have yo: ∀j,j<s0.aL->j≠b5->y.get [] j=s0.get [] j:=fun j B d=>by
   rw[<-m,aR];cases e:j==b4 with
   |true=>
    have:=eq_of_beq e;subst this;exact a0.symm
   |false=>exact V j B d
  obtain⟨U,R,O,M,Y⟩:=fin y (some .ret) yo (by rw[<-m];exact zn) (by rw[<-m];exact zc) (by rw[<-m];exact cR _ _ _ zm);simp only[go_sem,seval,j9,kA,kM,C,k4,z4,cO,cS,m,jg,jj];exact⟨U,R,O,.inr M⟩
 |false=>
  rw[ho] at C;simp only[go_sem,seval,j9,C];refine at1 (b3:=b3) (b7:=w.aL) (p:=p) (S:=S) (T:=T) k3 k7 k8 z3 zk ?_;intro b0 H ⟨j3,j4,j5,j7,j8⟩;cases h7:(bV S.1.2 p.2&&(aV p.2 S.2.2&&aV 0 T)) with
  |true=>
   rw[h7] at H c;have c:vC S p=1:=c;obtain⟨y,m⟩:=bZ (z.put b5 (some (.cells [ag (n+1)])));have J:IntKind.i64.wrap (n+1)=n+1:=jE (by omega) (by omega);have yo: ∀j,j<s0.aL->j≠b5->y.get [] j=s0.get [] j:=fun j B d=>by rw[<-m,aR,bN.2 d];exact V j B d
   obtain⟨U,R,O,M,Y⟩:=fin y none yo (by rw[<-m];exact zn) (by rw[<-m];exact zc) (by rw[<-m];exact cR _ _ _ zm);have y5:y.get [] b5=some (.cells [ag (n+1)]):=by rw[<-m,aR,bS];rfl
   simp only[go_sem,seval,j9,kA,kM,H,j5,k5,z5,aP,aQ,J,cO,cS,m,jg,jj];exact⟨U,R,O,.inl ⟨M,by rw[c];exact Y.trans y5⟩⟩
  |false=>
   rw[h7] at H c;simp only[go_sem,seval,j9,kA,H];refine at2 (b3:=b3) (b7:=w.aL) (p:=p) (S:=S) (T:=T) (j3.trans k3) (j7.trans k7) (j8.trans k8) z3 zk ?_;intro a9 F ⟨i3,i4,i5,i7,i8⟩;cases h9:(aV p.2 S.1.2&&(bV S.2.2 p.2&&aV T 0)) with
   |true=>
    rw[h9] at F c;have c:vC S p= -1:=c;obtain⟨y,m⟩:=bZ (z.put b5 (some (.cells [ag (n-1)])));have J:IntKind.i64.wrap (n-1)=n-1:=jE (by omega) (by omega);have yo: ∀j,j<s0.aL->j≠b5->y.get [] j=s0.get [] j:=fun j B d=>by rw[<-m,aR,bN.2 d];exact V j B d
    obtain⟨U,R,O,M,Y⟩:=fin y none yo (by rw[<-m];exact zn) (by rw[<-m];exact zc) (by rw[<-m];exact cR _ _ _ zm);have y5:y.get [] b5=some (.cells [ag (n-1)]):=by rw[<-m,aR,bS];rfl
    simp only[go_sem,seval,j9,kA,kM,F,i5,j5,k5,z5,aP,aQ,J,cO,cS,m,jg,jj];exact⟨U,R,O,.inl ⟨M,by rw[c];exact Y.trans y5⟩⟩
   |false=>
    rw[h9] at F c;have c:vC S p=0:=c;obtain⟨U,R,O,M,Y⟩:=fin z none V zn zc zm;simp only[go_sem,seval,j9,kA,kM,F,jg,jj];exact⟨U,R,O,.inl ⟨M,by rw[c,Int.add_zero];exact Y.trans z5⟩⟩
def Yo:(dv Fb&&dv Fc)=true:=by kernel_rfl
def axN{r:List Pt}(c:r.all gY=true)(d:i<r.length):gY (eD r i).1=true/\gY (eD r i).2=true:=by
 have h:=fu.1 c;have j:(i+1) % r.length<r.length:=Nat.mod_lt _ (by omega);unfold eD;rw[fE d,fE j];exact⟨h _ (xD _),h _ (xD _)⟩
def axO(S:bI)(p:Pt): -1<=vC S p/\vC S p<=1:=by
 unfold vC;cases (bV S.1.2 p.2&&(aV p.2 S.2.2&&aV 0 (vu S.1 S.2 p))) with
 |true=>simp
 |false=>
  cases (aV p.2 S.1.2&&(bV S.2.2 p.2&&aV (vu S.1 S.2 p) 0))<;>simp
def aqH(u:No Q 339)(F:Q.spec 442=some zh)(C:Q.spec 443=some v8){r:List Pt}(hr:ax 2 aN rv r)(z:r.length<=2000)(hn:r.all gY=true)(wp:gY p=true){s0:St}(U:s0.get [] bx=some (.cells [rv]))(Z:s0.get [] b3=some (.cells [ag p.1,ag p.2]))(Y:s0.get [] b4=some (.cells [ag 0]))(V:s0.get [] b5=some (.cells [ag 0]))(lx:bx<s0.aL)(l3:b3<s0.aL)(l4:b4<s0.aL)(l5:b5<s0.aL)(dx:bx≠b5)(d3:b3≠b5)(d4:b4≠b5)(e3:ac E 3= .ptr b3 0)(e4:ac E 4= .ptr b4 0)(e5:ac E 5= .ptr b5 0)(H:ac E 10= .func (.func 339) [] [.ptr bx 0])(hE:E.all jB=true)(O:s0.gt<=s0.aL)(hk: ∀x I,l8 b5 s0 I->((x= .normal/\ ∃w,I.get [] b5=some (.cells [ag w])/\qB r p=bif an w 0 then-1 else 1)\/(x= .ret/\qB r p=0))->K x ⟨E,88,lc⟩ I):W Q 342 (.rfun (.tmp 10) [11,12] Fb Fc) ⟨E,88,lc⟩ s0 K:=by
 obtain⟨v,s',m,rfl,h⟩:=AZ u hr z (bx:=bx) (n:=s0.aL) (P:=fun i s=>l8 b5 s0 s/\s.get [] s0.aL=some (pC E none)/\ ∃w:Int,(-(i:Int)<=w/\w<=i)/\s.get [] b5=some (.cells [ag w])/\yE p ((fK r).drop i) w=qB r p) (D:=fun s=>l8 b5 s0 s/\s.get [] s0.aL=some (pC E (some .ret))/\qB r p=0) (fun k s h=>(h.1.old bx lx dx).trans U) (fun k s h=>h.1.mw) (fun i s hi ⟨c,B,w,hw,h5,d⟩=>by
  obtain⟨wa,wb⟩:=axN hn hi;obtain⟨v,s',q1,q2,q3,q4,q5⟩:=aqI F C wa wb wp (by omega:i<=2000) Z Y l3 l4 l5 d3 d4 e3 e4 e5 c B h5 hw;rw[Vh (Dg hi),Y8] at d;refine⟨v,s',q1,q2,q3,?_⟩;rcases q5 with⟨rfl,J,h1,h2⟩|⟨rfl,J,h1⟩
  rw[J] at d;have hb:=axO (eD r i) p;exact .inl ⟨rfl,q4,h1,_,by omega,h2,d⟩;rw[J] at d;exact .inr ⟨rfl,q4,h1,d.symm⟩) (s:=s0.new (pC E none)) ⟨⟨fun j R _=>ck R,bU O,kF _,rfl⟩,cG,0,by simp,(ck l5).trans V,rfl⟩
 have y:l8 b5 s0 s'->l8 b5 s0 (s'.put s0.aL none):=fun c=>⟨fun j R M=>by rw[aR,bN.2 (by omega:j≠s0.aL)];exact c.old j R M,cR _ _ _ c.mw,c.lt,c.ci⟩;rcases h with⟨c,d,w,hw,h5,B⟩|⟨c,d,B⟩
 refine ou (h:=339) (first:=[]) (captured:=[.ptr bx 0]) (v:=.tup []) (s1:=s') (by simp only[dR,H]) (by rw[Std.P,rE,Yo,hE];rfl) m d (hk _ _ (y c) (.inl ⟨rfl,w,?_,?_⟩));rw[aR,bN.2 (by omega:b5≠s0.aL)];exact h5;rw[<-B,List.drop_eq_nil_of_le (by rw[Dh];exact bk _)];rfl;exact ou (h:=339) (first:=[]) (captured:=[.ptr bx 0]) (v:=.tup []) (s1:=s') (by simp only[dR,H]) (by rw[Std.P,rE,Yo,hE];rfl) m d (hk _ _ (y c) (.inr ⟨rfl,B⟩))
def aqN(m:No Q 339)(z:No Q 235)(O:Q.spec 442=some zh)(M:Q.spec 443=some v8)(a4:No Q 342){r:List Pt}(U:ax 2 aN rv r)(J:r.length<=2000)(hn:r.all gY=true)(wp:gY p=true)(a1:s.gt<=s.aL):
 ∃v s',aq Q 342 [rv,aN p] s v s'/\v=ag (qB r p):=by
 have a3:=U.ge;have a0:=vh U;obtain⟨x,C⟩:=bZ ((s.new (.cells [ag p.1,ag p.2])).new (.cells [ag 0]));have I:(s.new (.cells [ag p.1,ag p.2])).aL=s.aL+1:=rfl;have xn:x.aL=s.aL+2:=by rw[<-C];rfl
 have xm:x.gt<=x.aL:=by rw[<-C];exact bU (bU a1)
 have x0:x.get [] s.aL=some (.cells [ag p.1,ag p.2]):=by rw[<-C,ck (by rw[I];omega)];exact cG
 have x1:x.get [] (s.aL+1)=some (.cells [ag 0]):=by rw[<-C];exact cG
 obtain⟨w,F⟩:=bZ ((x.new (.cells [ag 0])).put x.aL (some (.cells [ag 0])));have a2:(x.new (.cells [ag 0])).get [] x.aL=some (.cells [ag 0]):=cG;have wn:w.aL=s.aL+3:=by
  rw[<-F];show x.aL+1=_;omega
 have wm:w.gt<=w.aL:=by rw[<-F];exact cR _ _ _ (bU xm)
 have wk:w.get [] x.aL=some (.cells [ag 0]):=by rw[<-F,aR,bS];rfl
 have Y: ∀j,j<x.aL->w.get [] j=x.get [] j:=fun j hj=>by rw[<-F,aR,bN.2 (by omega:j≠x.aL),cF,ck hj]
 have c:=AY z U w;obtain⟨u,H⟩:=bZ (w.new (.cells [rv]));have un:u.aL=s.aL+4:=by
  rw[<-H];show w.aL+1=_;omega
 have um:u.gt<=u.aL:=by rw[<-H];exact bU wm
 have uk:u.get [] w.aL=some (.cells [rv]):=by rw[<-H];exact cG
 have R: ∀j,j<w.aL->u.get [] j=w.get [] j:=fun j hj=>by rw[<-H,ck hj]
 rw[H] at c;refine aq.ofNRZ ao2 (bT ?_);simp only[go_sem,seval,j9,kA,kM,aN,a3,I,C,a2,cO,cS,F];refine ct.of c (by decide) ?_;simp only[go_sem,seval,j9,kA,kM];refine aqH m O M U J hn wp (bx:=w.aL) (b3:=s.aL) (b4:=s.aL+1) (b5:=x.aL) (s0:=u) uk ?_ ?_ ?_ (by omega) (by omega) (by omega) (by omega) (by omega) (by omega) (by omega) ?_ ?_ ?_ ?_ ?_ um ?_;rw[R _ (by omega),Y _ (by omega)];exact x0;rw[R _ (by omega),Y _ (by omega)];exact x1;rw[R _ (by omega)];exact wk;simp only[sN,seval];simp only[sN,seval];simp only[sN,seval];simp only[sN,seval]
 ·repeat' (first|exact rfl|refine aC.all_set ?_ (by first|exact a0|rfl))
 intro ex Z hI hc;have b4:Z.get [] (s.aL+1)=some (.cells [ag 0]):=by rw[hI.old _ (by omega) (by omega),R _ (by omega),Y _ (by omega)];exact x1
 rcases hc with⟨rfl,wi,h5,d⟩|⟨rfl,d⟩
 cases hz:an wi 0 with
 |true=>
  rw[hz] at d;obtain⟨y,B⟩:=bZ (Z.put (s.aL+1) (some (.cells [ag (-1)])));have V:y.get [] (s.aL+1)=some (.cells [ag (-1)]):=by rw[<-B,aR,bS];rfl
  simp only[go_sem,seval,j9,kA,kM,aP,h5,hz,aQ,cO,b4,cS,B,V];exact⟨_,rfl,by rw[d];rfl⟩
 |false=>
  rw[hz] at d;obtain⟨y,B⟩:=bZ (Z.put (s.aL+1) (some (.cells [ag 1])));have V:y.get [] (s.aL+1)=some (.cells [ag 1]):=by rw[<-B,aR,bS];rfl
  simp only[go_sem,seval,j9,kA,kM,aP,h5,hz,aQ,cO,b4,cS,B,V];exact⟨_,rfl,by rw[d];rfl⟩
 simp only[go_sem,seval,j9,kA,kM,aP,b4,aQ];exact⟨_,rfl,by rw[d]⟩
def uX:Sp
 | [u,v]=>(rk u).bind fun r=>(jw v).bind fun p=>bif decide (r.length<=2000)&&(r.all gY&&gY p) then some (bO (qB r p)) else none
 |_=>none
def SV:dp:=[(442,zh),(443,v8)]
def aeu:du SV:=.cons awS (.cons afG .nil)
def Zg{r:List Pt}(h:ax 2 aN v r)(j:r.length<=2000)(d:r.all gY=true)(c:gY p=true):uX [v,aN p]=some (bO (qB r p)):=by
 simp only[dW,uX,qi h,vT,dQ j,d,c,bW]
def Zh:cQ ah 342 uX:=by
 intro j u h G C w xs m y;unfold uX at h;split at h;simp only[aj] at h;obtain⟨r,I,p,H,h⟩:=h;obtain⟨d,h⟩:=aY h;simp only[bm,dE] at d;have h:=sI h;subst h;obtain⟨_,F,z⟩:=vU I;have B:=lH H;subst B;refine jo aeu (W:=[]) .nil (by simp only[ei,F,en];rfl) (fun J=>?_) G C w xs m y;obtain⟨v,s',c,rfl⟩:=aqN (Q:=QW SV [] J) ⟨rfl,rfl⟩ ⟨rfl,rfl⟩ rfl rfl ⟨rfl,rfl⟩ z d.1 d.2.1 d.2.2 (s:=s0) (by decide);exact⟨_,_,c,1,rfl⟩;cases h
def Bu(sz lo:Nat)(s:St)(ov:aa)(xs:List aa):Prop:= ∃k,ov= .list sz xs (.own k)/\s.get [] k=some .tok/\lo<=k/\k<s.aL
variable{xs:List aa}{lo:Nat}{ov:aa}
def Bu.ge{sz:Nat}(h:Bu sz lo s ov xs):ov.ge=true:=by
 obtain⟨k,rfl,_⟩:=h;rfl
def afe{t:TypeId}{E:EI}{sz:Nat}(F:lQ ah t=some E)(w:E.n=sz)(C:E.b<=88){y y0:aa}(h:Bu sz lo s ov xs)(j:em [] E.g E.n y s=some [y0])(d:xs.length<=900000)(z:s.gt<=s.aL):
 ∃c s',fB ah [] t ov y false s=some (c,s')/\Bu sz lo s' c (xs++[y0])/\s'.ci=s.ci/\s.aL<=s'.aL/\s'.gt<=s'.aL/\(∀n,n<lo->s'.get [] n=s.get [] n):=by
 subst w;obtain⟨k,rfl,B,I,H⟩:=h;have m:iY (xs.length+ [y0].length) E.b=true:=vi (by simp only[fh];omega) C;refine⟨.list E.n (xs++[y0]) (.own s.aL),(s.put k none).new .tok,?_,⟨s.aL,rfl,by rw[eT,mA,bS];rfl,by omega,kF _⟩,rfl,Nat.le_succ _,bU (cR s k none z),fun n u=>?_⟩;simp only[fH,fB,F,bg,j,jM,B,m,bW];rw[eT,mA,bN.2 (by omega),cF,aR,bN.2 (by omega)];rfl
def zi(p:Pt):Pt:=(2*p.1,2*p.2)
def wO(h:bf p=true):(-2097152<=p.1/\p.1<=2097152)/\(-2097152<=p.2/\p.2<=2097152):=by
 simp only[bf,aV,bm,mQ,decide_eq_false_iff_not] at h;omega
def ahC{r:List Pt}(h:r.all bf=true):(oI r).all gY=true:=by
 rw[fu];intro q c;obtain⟨p,d,rfl⟩:=cx.1 c
 have:=wO (fu.1 h p d);simp only[gY,bV,bm,dE];omega
def aw0(c:No Q 341)(m:bf p=true)(s:St):aq Q 341 [aN p] s (aN (zi p)) s:=by
 have u:=wO m;have j:IntKind.i64.wrap (2*p.1)=2*p.1:=jE (by omega) (by omega);have d:IntKind.i64.wrap (2*p.2)=2*p.2:=jE (by omega) (by omega);have h: ∃v s',aq Q 341 [aN p] s v s'/\(v=aN (zi p)/\s'=s):=by
  refine aq.ofNRZ aoZ (bT ?_);simp only[go_sem,seval,aN,zi,j,d,ql,bj,bc,aX,aZ,evc];exact⟨_,rfl,by simp[zi,aN]⟩
 obtain⟨_,_,h,rfl,rfl⟩:=h;exact h
def aqY(H:No Q 341){r:List Pt}(hr:ax 2 aN rv r)(a9:r.length<=2000)(hn:r.all bf=true){s0:St}(hx: ∀e lc s ov,Bu 2 lo s ov ((oI r).map aN)->(∀k,k<lo->s.get [] k=s0.get [] k)->s.gt<=s.aL->lo<=s.aL->s.ci=s0.ci->ac e 5=ov->K (.exit 0) ⟨e,25,lc⟩ s):
 ∀(d c:List Pt) (e:aw) (lc:Ag.Loc) (s:St) (ov:aa),r=c++d->Bu 2 lo s ov ((oI c).map aN)->(∀k,k<lo->s.get [] k=s0.get [] k)->s.gt<=s.aL->lo<=s.aL->s.ci=s0.ci->ac e 5=ov->ac e 1= .func (.func 341) [] []->ac e 11=rv->ac e 12=aM r.length->ac e 13=aM c.length->W Q 340 (.loop OE) ⟨e,25,lc⟩ s K:=by
 intro d
 induction d with
 |nil=>
  intro c e lc s ov F R z w M B U h0 C m j;have a7:c.length=r.length:=by rw[F];simp
  have Z:c=r:=by rw[F];simp
  refine bq ?_;simp only[go_sem,seval,OE,m,j,a7,cq];rw[Z] at R;exact hx _ _ _ ov R z w M B (by simp only[sN,seval,U])
 |cons p d ih=>
  intro c e lc s ov F R z w M B U h0 C m j;have a0:c.length<r.length:=by rw[F];simp
  have O:r[c.length]? =some p:=by rw[F];simp
  have a8:=fun lc k=>hr.at mH.2.2.1 O lc k;have Y:=dg (n:=c.length) (by omega);have hp:=fu.1 hn p (dB O);have u:=aw0 H hp s;have J:=R.ge;obtain⟨V,s1,a1,a2,a3,a4,a5,a6⟩:=afe (t:=218) mH.1 rfl (by decide) (s:=s) (y:=.list 2 [aN (zi p)] .GE) (y0:=aN (zi p)) R (by simp only[fH,em]) (by simp only[bP,oI];omega) w;have I:=a2.ge;simp only[aN] at u a1;refine bq ?_;simp only[go_sem,seval,OE,h0,U,C,m,j,a0,a8,aN,J];refine ct.of u (by decide) ?_;simp only[go_sem,seval,U,j,Y,J,I,a1,bj,bc,aX,aZ,evc];refine ih (c++[p]) _ _ s1 V (by rw[F];simp) (by
   have e1:(oI (c++[p])).map aN=(oI c).map aN++[aN (zi p)]:=by simp[oI,zi]
   rw[e1];exact a2) (fun k hk=>(a6 k hk).trans (z k hk)) a5 (by omega) (a3.trans B) ?_ ?_ ?_ ?_ ?_
  all_goals simp only[sN,seval,h0,C,m,sA]
def aqZ(I:No Q 340)(c:No Q 341){r:List Pt}(u:ax 2 aN rv r)(j:r.length<=2000)(R:r.all bf=true)(w:s.gt<=s.aL):
 ∃v s',aq Q 340 [rv,.func (.func 341) [] []] s v s'/\(ax 2 aN v (oI r)/\(∀k,k<s.aL->s'.get [] k=s.get [] k)/\s.aL<=s'.aL/\s'.gt<=s'.aL/\s'.ci=s.ci):=by
 have F:=u.ge;have B:=u.lenS mH;have y:n9 ah 218 (ag 0) (aM r.length) false s=some (.list 2 [] (.own s.aL),s.new .tok):=by
  have Z:bn 0 r.length=true:=cE (Nat.zero_le _);have Y:bn (r.length*16) 1099511627776=true:=cE (by omega);have V:bn r.length 1099511627776=true:=cE (by omega);have O:dr (ag 0)=some 0:=rfl;simp only[dW,n9,mH,O,pE,Z,Y,V,bW];rfl
 refine aq.ofNRZ aoY (bT ?_);simp only[go_sem,seval,F,B,Qb,y];refine aqY c u j R (lo:=s.aL) (s0:=s.new .tok) ?_ r [] _ _ (s.new .tok) (.list 2 [] (.own s.aL)) rfl ⟨s.aL,rfl,cG,bk _,kF _⟩ (fun _ _=>rfl) (bU w) (Nat.le_succ _) rfl ?_ ?_ ?_ ?_ ?_;intro e lc s1 ov M C d z H U;have m:=M.ge;simp only[go_sem,seval,U,m];refine⟨_,rfl,?_,fun k J=>(C k J).trans (ck J),z,d,H⟩;obtain⟨k,rfl,_⟩:=M;exact .inr ⟨_,rfl⟩
 all_goals simp only[sN,seval,cV]
 all_goals rfl
def Nl(lc:Ag.Loc)(m o:Nat)(i:aa):ii ah lc 303 (.ptr m o) i=(dr i).bind fun i=>bif bh i 3 then some (.ptr m (o+i*1)) else none:=by kernel_rfl
noncomputable abbrev rK(E:aw)(x:Option Ex):aJ:=.loop 236 E 38 [13,14] EX EY x
def CA(x:bI):Pt:=(x.1.1+x.2.1,x.1.2+x.2.2)
def jZ(l:List bI)(s:List Pt)(v:Int):Nat:=(l.filter fun x=>an (qB (oI s) (CA x)) v).length
theorem wf(l:List bI)(S:bI)(s:List Pt)(v:Int):jZ (l++[S]) s v=jZ l s v+bif an (qB (oI s) (CA S)) v then 1 else 0:=by
 grind [jZ]
def Me(l:List bI)(s:List Pt)(v:Int):jZ l s v<=l.length:=kE _ _
def Y9{p:Pt}: ∀ {l:List bI} {w:Int},yE p l w=1\/yE p l w=0\/yE p l w= -1
 | [],w=>by
   show(bif an w 0 then(-1:Int) else 1)=1\/(bif an w 0 then(-1:Int) else 1)=0\/(bif an w 0 then(-1:Int) else 1)= -1;cases an w 0<;>simp
 |S::l,w=>by
  rw[Y8];cases AH S p with
  |true=>exact .inr (.inl rfl)
  |false=>exact Y9
def j0(c:Nat×Nat×Nat):List aa:=[aM c.1,aM c.2.1,aM c.2.2]
def lf(l:List bI)(s:List Pt):Nat×Nat×Nat:=(jZ l s 1,jZ l s 0,jZ l s (-1))
variable{t:List Pt}{b6:Nat}{bv:aa}
theorem ard(m:Q.spec 342=some uX)(a4:t.length<=2000)(ht:t.all bf=true)(O:ax 2 aN bv (oI t))(na:bf S.1=true)(nb:bf S.2=true)(a6:l.length<=2000){s0:St}(a3:s0.get [] b6=some (.cells [bv]))(l5:b5<s0.aL)(l6:b6<s0.aL)(d6:b6≠b5)(e5:ac E 5= .ptr b5 0)(e6:ac E 6= .ptr b6 0)(hI:l8 b5 s0 s)(hl:s.get [] s0.aL=some (rK E none))(a0:s.get [] b5=some (.cells (j0 (lf l t)))):
 ∃v s',iy Q s0.aL [aM i,bL S] s.top v s'/\(s'.ci=s.ci/\s.aL<=s'.aL/\l8 b5 s0 (s.Gt s')/\v= .bool true/\s'.get [] s0.aL=some (rK E none)/\s'.get [] b5=some (.cells (j0 (lf (l++[S]) t)))):=by
 have a5:=hI.lt;have a1:=hI.mw;have n1:=wO na;have n2:=wO nb;have C:=O.ge;have u:gY (CA S)=true:=by
  have h1: -4194304<=S.1.1+S.2.1/\S.1.1+S.2.1<=4194304:=by omega
  have h2: -4194304<=S.1.2+S.2.2/\S.1.2+S.2.2<=4194304:=by omega
  simp only[gY,CA,bV,bm,dE];exact⟨⟨dQ h1.1,dQ h1.2⟩,dQ h2.1,dQ h2.2⟩
 have I:=Zg O (by grind [oI]) (ahC ht) u;obtain⟨L,R⟩:=bZ (qB (oI t) (CA S));have hv:L=1\/L=0\/L= -1:=by rw[<-R];exact Y9
 rw[R] at I;simp only[aN,bO,CA] at I;have w1:IntKind.i64.wrap (S.1.1+S.2.1)=S.1.1+S.2.1:=jE (by omega) (by omega);have w2:IntKind.i64.wrap (S.1.2+S.2.2)=S.1.2+S.2.2:=jE (by omega) (by omega);refine iy.any (ca:=On) (cb:=EW) (show s.top.get [] s0.aL=_ from hl) rfl rfl aof aog ?_;refine bT ?_;obtain⟨w,H⟩:=bZ (s.top.put s0.aL none);have wn:w.aL=s.aL:=by rw[<-H];rfl
 have wo: ∀j,j≠s0.aL->w.get [] j=s.get [] j:=fun j J=>by rw[<-H,aR,bN.2 J];rfl
 have wm:w.gt<=w.aL:=by rw[<-H];exact cR s.top _ _ (bk _)
 obtain⟨z,F⟩:=bZ ((w.new (.cells [ag 0,ag 0,ag 0,ag 0])).put w.aL (some (.cells (bL S).cells)));have zn:z.aL=s.aL+1:=by rw[<-F,<-wn];rfl
 have zc:z.ci=s.ci:=by rw[<-F,<-H];rfl
 have zm:z.gt<=z.aL:=by rw[<-F];exact cR _ _ _ (bU wm)
 have zk:z.get [] w.aL=some (.cells (bL S).cells):=by rw[<-F,aR,bS];rfl
 have zs: ∀j,j<s.aL->j≠s0.aL->z.get [] j=s.get [] j:=fun j J B=>by grind [aR,ck]
 have zo: ∀j,j<s0.aL->j≠b5->z.get [] j=s0.get [] j:=fun j J B=>(zs j (by omega) (by omega)).trans (hI.old j J B);have z6:=(zo b6 l6 d6).trans a3;have z5:=(zs b5 (by omega) (by omega)).trans a0;simp only[bL,lK] at F zk;have a2:(w.new (.cells [ag 0,ag 0,ag 0,ag 0])).get [] w.aL=some (.cells [ag 0,ag 0,ag 0,ag 0]):=cG;simp only[go_sem,cM,bK,ai,ay,bG,dw,dG,dU,cy,dD,dC,reduceCtorEq,dY,On,bL,H,cO,a2,cS,F,bj,bc,aX,aZ,evc];have fin: ∀(y:St) (c:List aa),z.put b5 (some (.cells c))=y->(y.put s0.aL (some (rK E none))).ci=s.ci/\s.aL<=(y.put s0.aL (some (rK E none))).aL/\l8 b5 s0 (s.Gt (y.put s0.aL (some (rK E none))))/\(y.put s0.aL (some (rK E none))).get [] s0.aL=some (rK E none)/\(y.put s0.aL (some (rK E none))).get [] b5=some (.cells c):=fun y c d=>by
  have yn:y.aL=s.aL+1:=by rw[<-d];exact zn
  have qn:(y.put s0.aL (some (rK E none))).aL=s.aL+1:=yn;have yc:y.ci=s.ci:=by rw[<-d];exact zc
  refine⟨yc,by omega,⟨fun j J B=>?_,pB a1 (by omega),?_,yc.trans hI.ci⟩,by rw[aR,bS];rfl,?_⟩
  grind [lL,aR]
  show s0.aL<(y.put s0.aL (some (rK E none))).aL;omega
  grind [aR]
 have k1:=Me l t 1;have k2:=Me l t 0;have k3:=Me l t (-1);have q1:=dg (n:=jZ l t 1) (by omega);have q2:=dg (n:=jZ l t 0) (by omega);have q3:=dg (n:=jZ l t (-1)) (by omega);have m0:dr (ag 0)=some 0:=rfl;have m1:dr (ag 1)=some 1:=rfl;have m2:dr (ag 2)=some 2:=rfl;have v0:IntKind.i64.wrap (1-1)=0:=by rfl
 have v1:IntKind.i64.wrap (1-0)=1:=by rfl
 have v2:IntKind.i64.wrap (1- -1)=2:=by rfl
 simp only[j0,lf] at z5;refine bT ?_;rcases hv with rfl|rfl|rfl
 have M:lf (l++[S]) t=(jZ l t 1+1,jZ l t 0,jZ l t (-1)):=by
  unfold lf;rw[wf,wf,wf,R];rfl
 obtain⟨y,d⟩:=bZ (z.put b5 (some (.cells (j0 (lf (l++[S]) t)))));obtain⟨f1,Z,Y,V,U⟩:=fin y _ d;rw[M] at d;simp only[j0] at d;simp only[go_sem,cM,bK,ai,ay,bG,dw,dG,dU,cy,dD,dC,reduceCtorEq,dY,EW,e5,e6,z5,z6,zk,C,aP,aQ,qQ,w1,w2,m,I,v0,Nl,m0,q1,cO,cS,d,jg,jj,bj,bc,aX,aZ,evc];exact⟨f1,Z,Y,V,U⟩;have M:lf (l++[S]) t=(jZ l t 1,jZ l t 0+1,jZ l t (-1)):=by
  unfold lf;rw[wf,wf,wf,R];rfl
 obtain⟨y,d⟩:=bZ (z.put b5 (some (.cells (j0 (lf (l++[S]) t)))));obtain⟨f1,Z,Y,V,U⟩:=fin y _ d;rw[M] at d;simp only[j0] at d;simp only[go_sem,cM,bK,ai,ay,bG,dw,dG,dU,cy,dD,dC,reduceCtorEq,dY,EW,e5,e6,z5,z6,zk,C,aP,aQ,qQ,w1,w2,m,I,v1,Nl,m1,q2,cO,cS,d,jg,jj,bj,bc,aX,aZ,evc];exact⟨f1,Z,Y,V,U⟩;have M:lf (l++[S]) t=(jZ l t 1,jZ l t 0,jZ l t (-1)+1):=by
  unfold lf;rw[wf,wf,wf,R];rfl
 obtain⟨y,d⟩:=bZ (z.put b5 (some (.cells (j0 (lf (l++[S]) t)))));obtain⟨f1,Z,Y,V,U⟩:=fin y _ d;rw[M] at d;simp only[j0] at d;simp only[go_sem,cM,bK,ai,ay,bG,dw,dG,dU,cy,dD,dC,reduceCtorEq,dY,EW,e5,e6,z5,z6,zk,C,aP,aQ,qQ,w1,w2,m,I,v2,Nl,m2,q3,cO,cS,d,jg,jj,bj,bc,aX,aZ,evc];exact⟨f1,Z,Y,V,U⟩
theorem arc(d:No Q 339)(y:Q.spec 342=some uX){r:List Pt}(hr:ax 2 aN rv r)(w:r.length<=2000)(hn:r.all bf=true)(u:t.length<=2000)(ht:t.all bf=true)(J:ax 2 aN bv (oI t)){s0:St}(I:s0.get [] bx=some (.cells [rv]))(M:s0.get [] b6=some (.cells [bv]))(O:s0.get [] b5=some (.cells [ag 0,ag 0,ag 0]))(lx:bx<s0.aL)(U:b5<s0.aL)(l6:b6<s0.aL)(dx:bx≠b5)(d6:b6≠b5)(e5:ac E 5= .ptr b5 0)(e6:ac E 6= .ptr b6 0)(R:ac E 12= .func (.func 339) [] [.ptr bx 0])(hE:E.all jB=true)(F:s0.gt<=s0.aL)(hk: ∀z,l8 b5 s0 z->z.get [] b5=some (.cells (j0 (lf (fK r) t)))->K .normal ⟨E,38,lc⟩ z):W Q 236 (.rfun (.tmp 12) [13,14] EX EY) ⟨E,38,lc⟩ s0 K:=by
 obtain⟨v,s',m,rfl,h⟩:=AZ d hr w (bx:=bx) (n:=s0.aL) (P:=fun i s=>l8 b5 s0 s/\s.get [] s0.aL=some (rK E none)/\s.get [] b5=some (.cells (j0 (lf ((fK r).take i) t)))) (D:=fun _=>False) (fun k s h=>(h.1.old bx lx dx).trans I) (fun k s h=>h.1.mw) (fun i s V ⟨c,hl,Y⟩=>by
  obtain⟨na,nb⟩:=AN hn V;obtain⟨v,s',q1,q2,q3,q4,rfl,q5,Z⟩:=ard y u ht J na nb (l:=(fK r).take i) (i:=i) (by grind) M U l6 d6 e5 e6 c hl Y;refine⟨_,s',q1,q2,q3,.inl ⟨rfl,q4,q5,?_⟩⟩;have e:(fK r).take (i+1)=(fK r).take i++[eD r i]:=by
   rw[List.take_add_one,Dg V];rfl
  rw[e];exact Z) (s:=s0.new (rK E none)) ⟨⟨fun j H _=>ck H,bU F,kF _,rfl⟩,cG,(ck U).trans O⟩
 have B:l8 b5 s0 s'->l8 b5 s0 (s'.put s0.aL none):=fun c=>⟨fun j H C=>by rw[aR,bN.2 (by omega:j≠s0.aL)];exact c.old j H C,cR _ _ _ c.mw,c.lt,c.ci⟩;rcases h with⟨c,hg,Y⟩|h
 refine ou (h:=339) (first:=[]) (captured:=[.ptr bx 0]) (v:=.tup []) (s1:=s') (by simp only[dR,R]) (by rw[Std.P,rE,aoi,hE];rfl) m hg (hk _ (B c) ?_)
 grind [aR,Dh]
 exact h.elim
variable{tv:aa}
theorem are(F:No Q 339)(H:No Q 235)(U:Q.spec 342=some uX)(C:No Q 340)(B:No Q 341)(a8:No Q 236){r:List Pt}(Z:ax 2 aN rv r)(O:r.length<=2000)(hn:r.all bf=true)(z:ax 2 aN tv t)(d:t.length<=2000)(ht:t.all bf=true)(a3:s.gt<=s.aL):
 ∃v s',aq Q 236 [rv,tv] s v s'/\v= .agg (j0 (lf (fK r) t)):=by
 have R:=Z.ge;have a1:=z.ge;have a2:=vh Z;have a0:=vh z;obtain⟨x,I⟩:=bZ ((s.new (.cells [ag 0,ag 0,ag 0])).new (.cells [ag 0,ag 0,ag 0]));have M:(s.new (.cells [ag 0,ag 0,ag 0])).aL=s.aL+1:=rfl;have xn:x.aL=s.aL+2:=by rw[<-I];rfl
 have xm:x.gt<=x.aL:=by rw[<-I];exact bU (bU a3)
 have x0:x.get [] s.aL=some (.cells [ag 0,ag 0,ag 0]):=by rw[<-I,ck (by rw[M];omega)];exact cG
 have x1:x.get [] (s.aL+1)=some (.cells [ag 0,ag 0,ag 0]):=by rw[<-I];exact cG
 have V:=aqZ C B z d ht xm;refine aq.ofNRZ aoh (bT ?_);simp only[go_sem,cM,bK,ai,ay,bG,dw,dG,dU,cy,dD,dC,reduceCtorEq,dY,R,a1,M,I];refine ct.ex V (by decide) ?_;rintro bv y ⟨c,yo,yn,ym,yc⟩;have a6:=c.ge;have a5:=c.scal;obtain⟨w,Y⟩:=bZ ((y.new (.cells [.AL])).put y.aL (some (.cells [bv])));have a4:(y.new (.cells [.AL])).get [] y.aL=some (.cells [.AL]):=cG;have cn:aa.AL.cells=[.AL]:=rfl;have wn:w.aL=y.aL+1:=by rw[<-Y];rfl
 have wm:w.gt<=w.aL:=by rw[<-Y];exact cR _ _ _ (bU ym)
 have wk:w.get [] y.aL=some (.cells [bv]):=by rw[<-Y,aR,bS];rfl
 have wo: ∀j,j<y.aL->w.get [] j=y.get [] j:=fun j hj=>by grind [aR,ck]
 have m:=AY H Z w;obtain⟨u,J⟩:=bZ (w.new (.cells [rv]));have un:u.aL=y.aL+2:=by
  rw[<-J];show w.aL+1=_;omega
 have um:u.gt<=u.aL:=by rw[<-J];exact bU wm
 have uk:u.get [] w.aL=some (.cells [rv]):=by rw[<-J];exact cG
 have uo: ∀j,j<w.aL->u.get [] j=w.get [] j:=fun j hj=>by rw[<-J,ck hj]
 rw[J] at m;simp only[go_sem,cM,bK,ai,ay,bG,dw,dG,dU,cy,dD,dC,reduceCtorEq,dY,a6,a5,cn,a4,cO,cS,Y,R];refine ct.of m (by decide) ?_;simp only[go_sem,cM,bK,ai,ay,bG,dw,dG,dU,cy,dD,dC,reduceCtorEq,dY];refine arc F U Z O hn d ht c (bx:=w.aL) (b5:=s.aL+1) (b6:=y.aL) (s0:=u) uk ?_ ?_ (by omega) (by omega) (by omega) (by omega) (by omega) ?_ ?_ ?_ ?_ um ?_;rw[uo _ (by omega)];exact wk
 grind
 simp only[sN,ai,bG];simp only[sN,ai,bG];simp only[sN,ai,bG]
 ·have a7:=vh c
  repeat' (first|exact rfl|refine aC.all_set ?_ (by first|exact a2|exact a0|exact a7|rfl))
 intro s2 hI h5;have h4:s2.get [] s.aL=some (.cells [ag 0,ag 0,ag 0]):=by rw[hI.old _ (by omega) (by omega),uo _ (by omega),wo _ (by omega),yo _ (by omega)];exact x0
 obtain⟨q,hq⟩:=bZ (s2.put s.aL (some (.cells (j0 (lf (fK r) t)))));have qk:q.get [] s.aL=some (.cells (j0 (lf (fK r) t))):=by rw[<-hq,aR,bS];rfl
 simp only[j0] at h5 hq qk;simp only[go_sem,cM,bK,ai,ay,bG,dw,dG,dU,cy,dD,dC,reduceCtorEq,dY,aP,h5,aQ,cO,h4,cS,hq,qk];exact⟨_,rfl,rfl⟩
def wL:Sp
 | [u,v]=>(rk u).bind fun r=>(rk v).bind fun t=>bif(decide (r.length<=2000)&&r.all bf)&&(decide (t.length<=2000)&&t.all bf) then some (.agg (j0 (lf (fK r) t))) else none
 |_=>none
def ZF{u:aa}{r:List Pt}(h:ax 2 aN u r)(w:ax 2 aN v t)(m:r.length<=2000)(j:r.all bf=true)(d:t.length<=2000)(c:t.all bf=true):wL [u,v]=some (.agg (j0 (lf (fK r) t))):=by
 simp only[dW,wL,qi h,qi w,dQ m,j,dQ d,c,bW]
def SW:dp:=[(342,uX)]
def aev:du SW:=.cons Zh .nil
def arb:cQ ah 236 wL:=by
 intro j u h G C w xs m y;unfold wL at h;split at h;simp only[aj] at h;obtain⟨r,J,t,I,h⟩:=h;obtain⟨d,h⟩:=aY h;simp only[bm,dE] at d;have h:=sI h;subst h;obtain⟨_,H,B⟩:=vU J;obtain⟨_,F,z⟩:=vU I;refine jo aev (W:=[]) .nil (by simp only[ei,H,F,bW]) (fun M=>?_) G C w xs m y;obtain⟨v,s',c,rfl⟩:=are (Q:=QW SW [] M) ⟨rfl,rfl⟩ ⟨rfl,rfl⟩ rfl ⟨rfl,rfl⟩ ⟨rfl,rfl⟩ ⟨rfl,rfl⟩ B d.1.1 d.1.2 z d.2.1 d.2.2 (s:=s0) (by decide);exact⟨_,_,c,2,rfl⟩;cases h
def FB:Sp
 | [v]=>(jw v).bind fun p=>some (.bool (bf p))
 |_=>none
def arC:cQ ah 430 FB:=by
 refine Gg (T:=[]) .nil (W:=[]) .nil fun c u h=>?_;unfold FB at h;split at h;simp only[aj] at h;obtain⟨p,d,h⟩:=h;have h:=sI h;subst h;rw[lH d];exact⟨rfl,fun j=>⟨_,_,ZO (Q:=QW [] [] j) ⟨rfl,rfl⟩ p _,1,rfl⟩⟩;cases h
def ZQ(h:bf p=true):gY p=true:=by
 have:=wO h;have d: -4194304<=p.1/\p.1<=4194304:=by omega
 have c: -4194304<=p.2/\p.2<=4194304:=by omega
 simp only[gY,bV,bm];exact⟨⟨dQ d.1,dQ d.2⟩,dQ c.1,dQ c.2⟩
def QZ{r:List Pt}(h:jR r=true):oX r=true:=by
 unfold jR at h;simp only[bm] at h;exact h.1
def avn(c:Q.spec 229=some pQ)(d:Q.spec 430=some FB)(y:Q.spec 342=some uX)(C:No Q 406){r:List Pt}(B:ax 2 aN rv r)(p:Pt)(s:St):aq Q 406 [rv,aN p] s (bO (si r p)) s:=by
 have j:=B.ge;have m:=J0 B;have z:FB [.agg [ag p.1,ag p.2]]=some (.bool (bf p)):=rfl;have h: ∃v s',aq Q 406 [rv,aN p] s v s'/\(v=bO (si r p)/\s'=s):=by
  refine aq.ofNRZ ao8 (bT ?_);cases e1:jR r with
  |false=>
   have u:si r p= -1:=by unfold si;rw[e1];rfl
   rw[e1] at m;simp only[go_sem,seval,aN,j,c,m];exact⟨_,rfl,by rw[u];rfl⟩
  |true=>
   rw[e1] at m;cases e2:bf p with
   |false=>
    have u:si r p= -1:=by unfold si;rw[e1,e2];rfl
    rw[e2] at z;simp only[go_sem,seval,aN,j,c,m,d,z];exact⟨_,rfl,by rw[u];rfl⟩
   |true=>
    have u:si r p=qB r p:=by unfold si;rw[e1,e2];rfl
    rw[e2] at z;obtain⟨⟨_,w⟩,I⟩:=Da (QZ e1);have F:=Zg B w (by rw[fu];exact fun x H=>ZQ (fu.1 I x H)) (ZQ e2);simp only[aN,bO] at F;simp only[go_sem,seval,aN,j,c,m,d,z,y,F];exact⟨_,rfl,by rw[u];rfl⟩
 obtain⟨_,_,h,rfl,rfl⟩:=h;exact h
def AX:Sp
 | [u,v]=>(rk u).bind fun r=>(jw v).bind fun p=>some (bO (si r p))
 |_=>none
def SX:dp:=[(229,pQ),(430,FB),(342,uX)]
def aew:du SX:=.cons J1 (.cons arC (.cons Zh .nil))
def avm:cQ ah 406 AX:=by
 intro c u h G z w xs d j;unfold AX at h;split at h;simp only[aj] at h;obtain⟨r,F,p,C,h⟩:=h;have h:=sI h;subst h;obtain⟨_,B,m⟩:=vU F;have y:=lH C;subst y;refine jo aew (W:=[]) .nil (by simp only[ei,B,en];rfl) (fun H=>?_) G z w xs d j;exact⟨_,_,avn (Q:=QW SX [] H) rfl rfl rfl ⟨rfl,rfl⟩ m p s0,1,rfl⟩;cases h
noncomputable abbrev qE(E:aw)(x:Option Ex):aJ:=.loop 141 E 71 [25,26] EH EK x
noncomputable abbrev qF(E:aw)(x:Option Ex):aJ:=.loop 141 E 71 [21,22] EJ EL x
def Xi:(dv EJ&&dv EL)=true:=by kernel_rfl
variable{A:bI}
theorem aux(c:Q.spec 225=some kN){B:bI}(n1:bf A.1=true)(n2:bf A.2=true)(n3:bf B.1=true)(n4:bf B.2=true){s0:St}(a3:s0.get [] b4=some (.cells [ag 0]))(a2:s0.get [] b6=some (.cells (bL A).cells))(l4:b4<s0.aL)(l6:b6<s0.aL)(V:ac E 4= .ptr b4 0)(U:ac E 6= .ptr b6 0)(R:gM [] 0 s0 s)(hl:s.get [] s0.aL=some (qE E none)):
 ∃v s',iy Q s0.aL [aM k,bL B] s.top v s'/\(s'.ci=s.ci/\s.aL<=s'.aL/\gM [] 0 s0 (s.Gt s')/\((v= .bool true/\s'.get [] s0.aL=some (qE E none)/\om A B=false)\/(v= .bool false/\s'.get [] s0.aL=some (qE E (some .ret))/\om A B=true))):=by
 have C:=Ps n1 n2 n3 n4;have a4:=R.lt;have a0:=R.mw;obtain⟨M,hM⟩:=bZ (gX A B);have Z:om A B=(an M 2||(an M 3||an M 5)):=by rw[<-hM];rfl
 rw[hM] at C;refine iy.any (ca:=NM) (cb:=Cl) (show s.top.get [] s0.aL=_ from hl) rfl rfl am0 am2 ?_;refine bT ?_;obtain⟨w,I⟩:=bZ (s.top.put s0.aL none);have wn:w.aL=s.aL:=by rw[<-I];rfl
 have wo: ∀j,j≠s0.aL->w.get [] j=s.get [] j:=fun j J=>by rw[<-I,aR,bN.2 J];rfl
 have wm:w.gt<=w.aL:=by rw[<-I];exact cR s.top _ _ (bk _)
 obtain⟨z,m⟩:=bZ ((w.new (.cells [ag 0,ag 0,ag 0,ag 0])).put w.aL (some (.cells (bL B).cells)));have zn:z.aL=s.aL+1:=by rw[<-m,<-wn];rfl
 have zc:z.ci=s.ci:=by rw[<-m,<-I];rfl
 have zm:z.gt<=z.aL:=by rw[<-m];exact cR _ _ _ (bU wm)
 have F:z.get [] w.aL=some (.cells (bL B).cells):=by rw[<-m,aR,bS];rfl
 have Y: ∀j,j<s0.aL->z.get [] j=s0.get [] j:=fun j J=>by
  rw[<-m,aR,bN.2 (by omega:j≠w.aL),cF,ck (by omega),wo j (by omega)];exact R.old j J
 have O:=(Y b4 l4).trans a3;have H:=(Y b6 l6).trans a2;simp only[bL,lK,bO] at m C F H;have a1:(w.new (.cells [ag 0,ag 0,ag 0,ag 0])).get [] w.aL=some (.cells [ag 0,ag 0,ag 0,ag 0]):=cG;simp only[go_sem,seval,kK,kL,NM,bL,I,cO,a1,cS,m,bj,bc,aX,aZ,evc];have fin: ∀(d:St) (o:Option Ex),(∀j,j<s0.aL->d.get [] j=s0.get [] j)->d.aL=s.aL+1->d.ci=s.ci->d.gt<=d.aL->(d.put s0.aL (some (qE E o))).ci=s.ci/\s.aL<=(d.put s0.aL (some (qE E o))).aL/\gM [] 0 s0 (s.Gt (d.put s0.aL (some (qE E o))))/\(d.put s0.aL (some (qE E o))).get [] s0.aL=some (qE E o):=fun d o q1 q2 q3 q4=>by
  have qn:(d.put s0.aL (some (qE E o))).aL=s.aL+1:=q2;refine⟨q3,by omega,⟨fun j J=>?_,pB a0 (by omega),?_,q3.trans R.ci⟩,by rw[aR,bS];rfl⟩
  grind [lL,aR]
  show s0.aL<(d.put s0.aL (some (qE E o))).aL;omega
 obtain⟨y,u⟩:=bZ (z.put b4 (some (.cells [ag 0])));have yo: ∀j,j<s0.aL->y.get [] j=s0.get [] j:=fun j J=>by
  grind [aR]
 obtain⟨f1,f2,f3,f4⟩:=fin z none Y zn zc zm;obtain⟨g1,g2,g3,g4⟩:=fin y (some .ret) yo (by rw[<-u];exact zn) (by rw[<-u];exact zc) (by rw[<-u];exact cR _ _ _ zm);refine bT ?_;cases c1:an M 2 with
 |true=>
  simp only[go_sem,seval,kK,kL,Cl,V,U,O,H,F,aP,aQ,c,C,c1,cO,cS,u,jg,jj];exact⟨g1,g2,g3,.inr ⟨g4,by rw[Z,c1];rfl⟩⟩
 |false=>
  cases c2:an M 3 with
  |true=>
   simp only[go_sem,seval,kK,kL,Cl,V,U,O,H,F,aP,aQ,c,C,c1,c2,cO,cS,u,jg,jj];exact⟨g1,g2,g3,.inr ⟨g4,by rw[Z,c1,c2];rfl⟩⟩
  |false=>
   cases c3:an M 5 with
   |true=>
    simp only[go_sem,seval,kK,kL,Cl,V,U,O,H,F,aP,aQ,c,C,c1,c2,c3,cO,cS,u,jg,jj];exact⟨g1,g2,g3,.inr ⟨g4,by rw[Z,c1,c2,c3];rfl⟩⟩
   |false=>
    simp only[go_sem,seval,kK,kL,Cl,V,U,O,H,F,aP,aQ,c,C,c1,c2,c3,cO,cS,jg,jj]
    grind
theorem auw(u:No Q 339)(F:Q.spec 225=some kN)(I:ax 2 aN tv t)(z:t.length<=2000)(hn:t.all bf=true)(n1:bf A.1=true)(n2:bf A.2=true){s0:St}(O:s0.get [] bx=some (.cells [tv]))(U:s0.get [] b4=some (.cells [ag 0]))(R:s0.get [] b6=some (.cells (bL A).cells))(lx:bx<s0.aL)(l4:b4<s0.aL)(l6:b6<s0.aL)(e4:ac E 4= .ptr b4 0)(e6:ac E 6= .ptr b6 0)(H:ac E 24= .func (.func 339) [] [.ptr bx 0])(hE:E.all jB=true)(J:s0.gt<=s0.aL)(B: ∀x Y,gM [] 0 s0 Y->((x= .normal/\ ∀j,j<t.length->om A (eD t j)=false)\/(x= .ret/\ ∃j,j<t.length/\om A (eD t j)=true))->K x ⟨E,71,[]⟩ Y):W Q 141 (.rfun (.tmp 24) [25,26] EH EK) ⟨E,71,[]⟩ s0 K:=by
 obtain⟨v,s',d,rfl,h⟩:=AZ u I z (bx:=bx) (n:=s0.aL) (P:=fun k s=>gM [] 0 s0 s/\s.get [] s0.aL=some (qE E none)/\ ∀j,j<k->om A (eD t j)=false) (D:=fun s=>gM [] 0 s0 s/\s.get [] s0.aL=some (qE E (some .ret))/\ ∃j,j<t.length/\om A (eD t j)=true) (fun k s h=>(h.1.old bx lx).trans O) (fun k s h=>h.1.mw) (fun k s B ⟨c,hl,y⟩=>by
  obtain⟨n3,n4⟩:=AN hn B;obtain⟨v,s',q1,q2,q3,Z,q5⟩:=aux F n1 n2 n3 n4 (k:=k) U R l4 l6 e4 e6 c hl;refine⟨v,s',q1,q2,q3,?_⟩;rcases q5 with⟨rfl,V,h2⟩|⟨rfl,V,h2⟩
  refine .inl ⟨rfl,Z,V,fun j m=>?_⟩
  grind
  exact .inr ⟨rfl,Z,V,k,B,h2⟩) (s:=s0.new (qE E none)) ⟨⟨fun j m=>ck m,bU J,kF _,rfl⟩,cG,fun j m=>absurd m (GH _)⟩
 have w:gM [] 0 s0 s'->gM [] 0 s0 (s'.put s0.aL none):=fun c=>⟨fun j m=>by rw[aR,bN.2 (by omega:j≠s0.aL)];exact c.old j m,cR _ _ _ c.mw,c.lt,c.ci⟩;rcases h with⟨c,M,y⟩|⟨c,M,C⟩
 exact ou (h:=339) (first:=[]) (captured:=[.ptr bx 0]) (v:=.tup []) (s1:=s') (by simp only[dR,H]) (by rw[Std.P,rE,Xh,hE];rfl) d M (B _ _ (w c) (.inl ⟨rfl,y⟩));exact ou (h:=339) (first:=[]) (captured:=[.ptr bx 0]) (v:=.tup []) (s1:=s') (by simp only[dR,H]) (by rw[Std.P,rE,Xh,hE];rfl) d M (B _ _ (w c) (.inr ⟨rfl,C⟩))
def auv(H:No Q 339)(I:No Q 235)(R:Q.spec 225=some kN)(c:ax 2 aN tv t)(M:t.length<=2000)(hn:t.all bf=true)(n1:bf A.1=true)(n2:bf A.2=true){s0:St}(a3:s0.get [] b3=some (.cells [tv]))(a2:s0.get [] b4=some (.cells [ag 0]))(l3:b3<s0.aL)(l4:b4<s0.aL)(e3:ac E 3= .ptr b3 0)(e4:ac E 4= .ptr b4 0)(hE:E.all jB=true)(U:gM [] 0 s0 s)(hl:s.get [] s0.aL=some (qF E none)):
 ∃v s',iy Q s0.aL [aM i,bL A] s.top v s'/\(s'.ci=s.ci/\s.aL<=s'.aL/\gM [] 0 s0 (s.Gt s')/\((v= .bool true/\s'.get [] s0.aL=some (qF E none)/\ ∀j,j<t.length->om A (eD t j)=false)\/(v= .bool false/\s'.get [] s0.aL=some (qF E (some .ret))/\ ∃j,j<t.length/\om A (eD t j)=true))):=by
 have a4:=U.lt;have Z:=U.mw;have a1:=c.ge;have V:=vh c;refine iy.any (ca:=NN) (cb:=NP) (show s.top.get [] s0.aL=_ from hl) rfl rfl am1 am3 ?_;refine bT ?_;obtain⟨w,J⟩:=bZ (s.top.put s0.aL none);have wn:w.aL=s.aL:=by rw[<-J];rfl
 have wo: ∀j,j≠s0.aL->w.get [] j=s.get [] j:=fun j d=>by rw[<-J,aR,bN.2 d];rfl
 have wm:w.gt<=w.aL:=by rw[<-J];exact cR s.top _ _ (bk _)
 obtain⟨z,B⟩:=bZ ((w.new (.cells [ag 0,ag 0,ag 0,ag 0])).put w.aL (some (.cells (bL A).cells)));have zn:z.aL=s.aL+1:=by rw[<-B,<-wn];rfl
 have zc:z.ci=s.ci:=by rw[<-B,<-J];rfl
 have zm:z.gt<=z.aL:=by rw[<-B];exact cR _ _ _ (bU wm)
 have zk:z.get [] w.aL=some (.cells (bL A).cells):=by rw[<-B,aR,bS];rfl
 have zo: ∀j,j<s0.aL->z.get [] j=s0.get [] j:=fun j d=>by
  rw[<-B,aR,bN.2 (by omega:j≠w.aL),cF,ck (by omega),wo j (by omega)];exact U.old j d
 have z3:=(zo b3 l3).trans a3;simp only[bL,lK] at B;have a0:(w.new (.cells [ag 0,ag 0,ag 0,ag 0])).get [] w.aL=some (.cells [ag 0,ag 0,ag 0,ag 0]):=cG;simp only[go_sem,seval,kK,kL,NN,bL,J,cO,a0,cS,B,bj,bc,aX,aZ,evc];refine bT ?_;have y:=AY I c z;obtain⟨x,F⟩:=bZ (z.new (.cells [tv]));have xn:x.aL=s.aL+2:=by
  rw[<-F];show z.aL+1=_;omega
 have xm:x.gt<=x.aL:=by rw[<-F];exact bU zm
 have xc:x.ci=s.ci:=by rw[<-F];exact zc
 have xk:x.get [] z.aL=some (.cells [tv]):=by rw[<-F];exact cG
 have xo: ∀j,j<z.aL->x.get [] j=z.get [] j:=fun j d=>by rw[<-F,ck d]
 have m: ∀j,j<s0.aL->x.get [] j=s0.get [] j:=fun j d=>(xo j (by omega)).trans (zo j d);rw[F] at y;simp only[go_sem,seval,kK,kL,NP,e3,z3,aP,aQ,qQ,a1];refine ct.of y (by decide) ?_;simp only[go_sem,seval,kK,kL];refine auw H R c M hn n1 n2 (bx:=z.aL) (b4:=b4) (b6:=w.aL) (s0:=x) xk ((m b4 l4).trans a2) ?_ (by omega) (by omega) (by omega) ?_ ?_ ?_ ?_ xm ?_;rw[xo _ (by omega)];exact zk;simp only[sN,seval,e4];simp only[sN,seval];simp only[sN,seval]
 ·repeat' (first|exact hE|refine aC.all_set ?_ (by first|exact V|rfl))
 intro ex u C hc;have n2:=C.lt;have g1: ∀(o:Option Ex),(u.put s0.aL (some (qF E o))).ci=s.ci/\s.aL<=(u.put s0.aL (some (qF E o))).aL/\gM [] 0 s0 (s.Gt (u.put s0.aL (some (qF E o))))/\(u.put s0.aL (some (qF E o))).get [] s0.aL=some (qF E o):=fun o=>by
  have qn:(u.put s0.aL (some (qF E o))).aL=u.aL:=rfl;have qc:(u.put s0.aL (some (qF E o))).ci=s.ci:=C.ci.trans xc;refine⟨qc,by omega,⟨fun j d=>?_,pB Z (by omega),?_,qc.trans U.ci⟩,by rw[aR,bS];rfl⟩;rw[lL,aR,bN.2 (by omega:j≠s0.aL)];exact(C.old j (by omega)).trans (m j d);show s0.aL<u.aL;omega
 rcases hc with⟨rfl,Y⟩|⟨rfl,O⟩
 obtain⟨f1,f2,f3,f4⟩:=g1 none;exact⟨f1,f2,f3,.inl ⟨rfl,f4,Y⟩⟩;obtain⟨f1,f2,f3,f4⟩:=g1 (some .ret);exact⟨f1,f2,f3,.inr ⟨rfl,f4,O⟩⟩
theorem auu(d:No Q 339)(u:No Q 235)(H:Q.spec 225=some kN){r:List Pt}(hr:ax 2 aN rv r)(R:r.length<=2000)(M:r.all bf=true)(J:ax 2 aN tv t)(z:t.length<=2000)(hn:t.all bf=true){s0:St}(V:s0.get [] bx=some (.cells [rv]))(Z:s0.get [] b3=some (.cells [tv]))(Y:s0.get [] b4=some (.cells [ag 0]))(lx:bx<s0.aL)(l3:b3<s0.aL)(l4:b4<s0.aL)(e3:ac E 3= .ptr b3 0)(e4:ac E 4= .ptr b4 0)(I:ac E 20= .func (.func 339) [] [.ptr bx 0])(hE:E.all jB=true)(O:s0.gt<=s0.aL)(B: ∀x s2,gM [] 0 s0 s2->((x= .normal/\ ∀i,i<r.length-> ∀j,j<t.length->om (eD r i) (eD t j)=false)\/(x= .ret/\ ∃i,i<r.length/\ ∃j,j<t.length/\om (eD r i) (eD t j)=true))->K x ⟨E,71,lc⟩ s2):W Q 141 (.rfun (.tmp 20) [21,22] EJ EL) ⟨E,71,lc⟩ s0 K:=by
 obtain⟨v,s',m,rfl,h⟩:=AZ d hr R (bx:=bx) (n:=s0.aL) (P:=fun k s=>gM [] 0 s0 s/\s.get [] s0.aL=some (qF E none)/\ ∀i,i<k-> ∀j,j<t.length->om (eD r i) (eD t j)=false) (D:=fun s=>gM [] 0 s0 s/\s.get [] s0.aL=some (qF E (some .ret))/\ ∃i,i<r.length/\ ∃j,j<t.length/\om (eD r i) (eD t j)=true) (fun k s h=>(h.1.old bx lx).trans V) (fun k s h=>h.1.mw) (fun k s B ⟨c,hl,y⟩=>by
  obtain⟨n1,n2⟩:=AN M B;obtain⟨v,s',q1,q2,q3,q4,q5⟩:=auv d u H J z hn n1 n2 (i:=k) Z Y l3 l4 e3 e4 hE c hl;refine⟨v,s',q1,q2,q3,?_⟩;rcases q5 with⟨rfl,h1,h2⟩|⟨rfl,h1,h2⟩
  refine .inl ⟨rfl,q4,h1,fun i hi=>?_⟩
  grind
  exact .inr ⟨rfl,q4,h1,k,B,h2⟩) (s:=s0.new (qF E none)) ⟨⟨fun j C=>ck C,bU O,kF _,rfl⟩,cG,fun j C=>absurd C (GH _)⟩
 have w:gM [] 0 s0 s'->gM [] 0 s0 (s'.put s0.aL none):=fun c=>⟨fun j C=>by rw[aR,bN.2 (by omega:j≠s0.aL)];exact c.old j C,cR _ _ _ c.mw,c.lt,c.ci⟩;rcases h with⟨c,U,y⟩|⟨c,U,F⟩
 exact ou (h:=339) (first:=[]) (captured:=[.ptr bx 0]) (v:=.tup []) (s1:=s') (by simp only[dR,I]) (by rw[Std.P,rE,Xi,hE];rfl) m U (B _ _ (w c) (.inl ⟨rfl,y⟩));exact ou (h:=339) (first:=[]) (captured:=[.ptr bx 0]) (v:=.tup []) (s1:=s') (by simp only[dR,I]) (by rw[Std.P,rE,Xi,hE];rfl) m U (B _ _ (w c) (.inr ⟨rfl,F⟩))
def GX{r:List Pt}{f:bI->Bool}:(fK r).any f=true↔ ∃i,i<r.length/\f (eD r i)=true:=by
 rw[List.any_eq_true];constructor;rintro⟨x,j,h⟩;obtain⟨i,c,rfl⟩:=List.getElem_of_mem j;have d:i<r.length:=by rw[Dh] at c;exact c
 have:=Dg d;rw[fE c] at this;injection this with this
 exact⟨i,d,by rw[<-this];exact h⟩;rintro⟨i,c,h⟩;exact⟨_,dB (Dg c),h⟩
def HG(n:Nat):aV 0 ((n:Nat):Int)=decide (0<n):=decide_eq_decide.2 (by omega)
def Af(s:St)(n:Nat)(o:Option aJ):(s.put n o).get [] n=o:=by rw[aR,bS];rfl
def auz(u:Q.spec 236=some wL){c d:Nat×Nat×Nat}(y:rv.ge=true)(w:tv.ge=true)(q1:wL [rv,tv]=some (.agg (j0 c)))(z:wL [tv,rv]=some (.agg (j0 d)))(F:ac E 0=rv)(C:ac E 3= .ptr b3 0)(g3:s.get [] b3=some (.cells [tv]))(j:s.gt<=s.aL)(B: ∀e,ac e 4=ac E 4->ac e 9= .Ge 9 1 0->ac e 10= .Ge 10 1 0->K .normal ⟨e,71,(Loc.set [] 9 1 (j0 c)).set 10 1 (j0 d)⟩ s):W Q 141 (.draw kL kK) ⟨E,71,[]⟩ s K:=by
 have m:=m8 j;simp only[j0] at q1 z;refine gK j ?_;simp only[go_sem,kK,seval,kL,F,C,g3,y,w,aP,aQ,qQ,u,q1,z,m,bj,bc,aX,aZ,evc];refine B _ ?_ ?_ ?_
 all_goals simp only[aW,uM,gw,bG,ai]
def auA(a0:No Q 339)(J:No Q 235)(a6:Q.spec 225=some kN)(z:Q.spec 229=some pQ)(a5:Q.spec 236=some wL)(a8:No Q 141){r:List Pt}(O:ax 2 aN rv r)(m:ax 2 aN tv t)(a7:s.gt<=s.aL):
 ∃v s',aq Q 141 [rv,tv] s v s'/\v=bO (pN r t):=by
 have I:=O.ge;have F:=m.cs;have a2:=vh O;have a1:=vh m;have V:=J0 O;have p2:=J0 m;obtain⟨x,M⟩:=bZ ((s.new (.cells [tv])).new (.cells [ag 0]));have H:(s.new (.cells [tv])).aL=s.aL+1:=rfl;have xn:x.aL=s.aL+2:=by rw[<-M];rfl
 have xm:x.gt<=x.aL:=by rw[<-M];exact bU (bU a7)
 have x0:x.get [] s.aL=some (.cells [tv]):=by rw[<-M,ck (by rw[H];omega)];exact cG
 have x1:x.get [] (s.aL+1)=some (.cells [ag 0]):=by rw[<-M];exact cG
 refine aq.ofNRZ am4 ?_;refine WE.sound ?_;cases e1:jR r with
 |false=>
  have hs:pN r t=0:=by unfold pN;rw[e1];rfl
  rw[e1] at V;simp only[go_sem,seval,kK,kL,I,F,H,M,z,V,x0,x1,aP,aQ,cO,cS,Af];exact⟨_,rfl,by rw[hs];rfl⟩
 |true=>
  rw[e1] at V;cases e2:jR t with
  |false=>
   have hs:pN r t=0:=by unfold pN;rw[e1,e2];rfl
   rw[e2] at p2;simp only[go_sem,seval,kK,kL,I,F,H,M,z,V,p2,x0,x1,aP,aQ,qQ,cO,cS,Af];exact⟨_,rfl,by rw[hs];rfl⟩
  |true=>
   rw[e2] at p2;obtain⟨⟨_,U⟩,R⟩:=Da (QZ e1);obtain⟨⟨_,y⟩,hn⟩:=Da (QZ e2);have C:=AY J O x;obtain⟨u,hu⟩:=bZ (x.new (.cells [rv]));have un:u.aL=s.aL+3:=by
    rw[<-hu];show x.aL+1=_;omega
   have um:u.gt<=u.aL:=by rw[<-hu];exact bU xm
   have uk:u.get [] x.aL=some (.cells [rv]):=by rw[<-hu];exact cG
   have uo: ∀j,j<x.aL->u.get [] j=x.get [] j:=fun j hj=>by rw[<-hu,ck hj]
   rw[hu] at C;simp only[go_sem,seval,kK,kL,I,F,H,M,z,V,p2,x0,aP,aQ,qQ];refine ct.of C (by decide) ?_;simp only[go_sem,seval,kK,kL];refine auu a0 J a6 O U R m y hn (bx:=x.aL) (b3:=s.aL) (b4:=s.aL+1) (s0:=u) uk ((uo _ (by omega)).trans x0) ((uo _ (by omega)).trans x1) (by omega) (by omega) (by omega) ?_ ?_ ?_ ?_ um ?_;simp only[sN,seval];simp only[sN,seval];simp only[sN,seval]
   ·repeat' (first|exact rfl|refine aC.all_set ?_ (by first|exact a2|exact a1|rfl))
   intro ex s2 hI hc;have g3:s2.get [] s.aL=some (.cells [tv]):=(hI.old _ (by omega)).trans ((uo _ (by omega)).trans x0);have g4:s2.get [] (s.aL+1)=some (.cells [ag 0]):=(hI.old _ (by omega)).trans ((uo _ (by omega)).trans x1);rcases hc with⟨rfl,a3⟩|⟨rfl,i,hi,j,hj,a4⟩
   have d:((fK r).any fun a=>(fK t).any fun b=>om a b)=false:=by
    rw[Bool.eq_false_iff];intro h;obtain⟨i,hi,h⟩:=GX.1 h;obtain⟨j,hj,h⟩:=GX.1 h;rw[a3 i hi j hj] at h;cases h
   have q1:=ZF O m U R y hn;have q2:=ZF m O y hn U R;obtain⟨b1,h1⟩: ∃b,aV 0 ((jZ (fK r) t 1:Nat):Int)=b:=⟨_,rfl⟩;obtain⟨b2,h2⟩: ∃b,aV 0 ((jZ (fK r) t (-1):Nat):Int)=b:=⟨_,rfl⟩;obtain⟨b3,Z⟩: ∃b,aV 0 ((jZ (fK t) r 1:Nat):Int)=b:=⟨_,rfl⟩;obtain⟨b4,Y⟩: ∃b,aV 0 ((jZ (fK t) r (-1):Nat):Int)=b:=⟨_,rfl⟩;have c:pN r t=bif(b1&&b2)||(b3&&b4) then 0 else bif b1 then 2 else bif b3 then 3 else bif b2 then 1 else 4:=by
    unfold pN;rw[e1,e2,d,<-h1,<-h2,<-Z,<-Y,HG,HG,HG,HG];rfl
   have a9:=m8 hI.mw;have m0:dr (ag 0)=some 0:=rfl;have m2:dr (ag 2)=some 2:=rfl;simp only[go_sem,seval];refine auz a5 I F.1 q1 q2 (b3:=s.aL) ?_ ?_ g3 hI.mw ?_;simp only[sN,seval];simp only[sN,seval];intro e w h9 B;simp only[sN,seval] at w;clear a2 a1 V p2 C q1 q2 a3 d;simp only[j0,lf];cases b1 with
   |true=>
    cases b2 with
    |true=>
     simp only[go_sem,seval,kK,kL,g4,w,h9,B,aP,aQ,yi,m0,m2,h1,h2,Z,Y,cO,cS,Af];exact⟨_,rfl,by rw[c];rfl⟩
    |false=>
     cases b3 with
     |true=>cases b4<;>simp only[go_sem,seval,kK,kL,g4,w,h9,B,aP,aQ,yi,m0,m2,h1,h2,Z,Y,cO,cS,Af]<;>exact⟨_,rfl,by rw[c];rfl⟩
     |false=>
      simp only[go_sem,seval,kK,kL,g4,w,h9,B,aP,aQ,yi,m0,m2,h1,h2,Z,Y,cO,cS,Af];exact⟨_,rfl,by rw[c];rfl⟩
   |false=>
    cases b3 with
    |true=>cases b4<;>simp only[go_sem,seval,kK,kL,g4,w,h9,B,aP,aQ,yi,m0,m2,h1,h2,Z,Y,cO,cS,Af]<;>exact⟨_,rfl,by rw[c,dA];rfl⟩
    |false=>cases b2<;>simp only[go_sem,seval,kK,kL,g4,w,h9,B,aP,aQ,yi,m0,m2,h1,h2,Z,Y,cO,cS,Af]<;>exact⟨_,rfl,by rw[c,dA,dA];rfl⟩
   have d:((fK r).any fun a=>(fK t).any fun b=>om a b)=true:=GX.2 ⟨i,hi,GX.2 ⟨j,hj,a4⟩⟩;have hs:pN r t=0:=by unfold pN;rw[e1,e2,d];rfl
   simp only[go_sem,seval,kK,kL,g4,aP,aQ];exact⟨_,rfl,by rw[hs];rfl⟩
def yU:Sp
 | [u,v]=>(rk u).bind fun r=>(rk v).bind fun t=>some (bO (pN r t))
 |_=>none
def SY:dp:=[(225,kN),(229,pQ),(236,wL)]
def aex:du SY:=.cons Pu (.cons J1 (.cons arb .nil))
def auy:cQ ah 141 yU:=by
 intro d u h G B w xs j m;unfold yU at h;split at h;simp only[aj] at h;obtain⟨r,I,t,H,h⟩:=h;have h:=sI h;subst h;obtain⟨_,F,z⟩:=vU I;obtain⟨_,C,y⟩:=vU H;refine jo aex (W:=[]) .nil (by simp only[ei,F,C,bW]) (fun J=>?_) G B w xs j m;obtain⟨v,s',c,rfl⟩:=auA (Q:=QW SY [] J) ⟨rfl,rfl⟩ ⟨rfl,rfl⟩ rfl rfl rfl ⟨rfl,rfl⟩ z y (s:=s0) (by decide);exact⟨_,_,c,1,rfl⟩;cases h
def C9:Sp
 | [v]=>(rk v).bind fun r=>some (.bool (oX r))
 |_=>none
def aus{r:List Pt}(h:ax 2 aN v r):C9 [v]=some (.bool (oX r)):=by
 simp only[C9,qi h,bg]
def aut:cQ ah 326 C9:=by
 intro c u h G y w xs d j;unfold C9 at h;split at h;simp only[aj] at h;obtain⟨r,B,h⟩:=h;have h:=sI h;subst h;obtain⟨_,z,m⟩:=vU B;refine jo (T:=[]) .nil (W:=[]) .nil (by simp only[ei,z,bW]) (fun C=>?_) G y w xs d j;exact⟨_,_,abO (Q:=QW [] [] C) ⟨rfl,rfl⟩ ⟨rfl,rfl⟩ ⟨rfl,rfl⟩ ⟨rfl,rfl⟩ ⟨rfl,rfl⟩ m s0,1,rfl⟩;cases h
noncomputable abbrev Cx(E:aw)(x:Option Ex):aJ:=.loop 329 E 31 [11,12] E9 Fa x
def pd(S:bI):Int:=(S.1.1+S.2.1)*(S.2.2-S.1.2)
def qU(l:List bI):Int:=l.foldl (fun n S=>n+pd S) 0
def pY(r:List Pt):Int:=bif oX r then qU (fK r) else 0
def acO(l:List bI)(S:bI):qU (l++[S])=qU l+pd S:=by unfold qU;rw[List.foldl_append];rfl
def Lj(d:bf S.1=true)(c:bf S.2=true): -70368744177664<=pd S/\pd S<=70368744177664:=by
 have a:=wO d;have b:=wO c;exact CF (by omega) (by omega)
def awX(R:bf S.1=true)(nb:bf S.2=true)(hi:i<=2000){s0:St}(l3:b3<s0.aL)(e3:ac E 3= .ptr b3 0)(C:l8 b3 s0 s)(hl:s.get [] s0.aL=some (Cx E none))(F:s.get [] b3=some (.cells [ag n]))(hn: -(i*70368744177664:Int)<=n/\n<=i*70368744177664):
 ∃v s',iy Q s0.aL [aM i,bL S] s.top v s'/\(s'.ci=s.ci/\s.aL<=s'.aL/\l8 b3 s0 (s.Gt s')/\v= .bool true/\s'.get [] s0.aL=some (Cx E none)/\s'.get [] b3=some (.cells [ag (n+pd S)])):=by
 have a0:=C.lt;have H:=C.mw;have n1:=wO R;have n2:=wO nb;have ab:=Lj R nb;have w1:IntKind.i64.wrap (S.1.1+S.2.1)=S.1.1+S.2.1:=jE (by omega) (by omega);have w2:IntKind.i64.wrap (S.2.2-S.1.2)=S.2.2-S.1.2:=jE (by omega) (by omega);have w3:IntKind.i64.wrap ((S.1.1+S.2.1)*(S.2.2-S.1.2))=pd S:=Fz (by omega) (by omega);have w4:IntKind.i64.wrap (n+pd S)=n+pd S:=jE (by omega) (by omega);refine iy.any (ca:=Oz) (cb:=OA) (show s.top.get [] s0.aL=_ from hl) rfl rfl aoO aoP ?_;refine bT ?_;obtain⟨w,B⟩:=bZ (s.top.put s0.aL none);have wn:w.aL=s.aL:=by rw[<-B];rfl
 have wo: ∀j,j≠s0.aL->w.get [] j=s.get [] j:=fun j m=>by rw[<-B,aR,bN.2 m];rfl
 have wm:w.gt<=w.aL:=by rw[<-B];exact cR s.top _ _ (bk _)
 obtain⟨z,d⟩:=bZ ((w.new (.cells [ag 0,ag 0,ag 0,ag 0])).put w.aL (some (.cells (bL S).cells)));have V:z.aL=s.aL+1:=by rw[<-d,<-wn];rfl
 have Y:z.ci=s.ci:=by rw[<-d,<-B];rfl
 have zm:z.gt<=z.aL:=by rw[<-d];exact cR _ _ _ (bU wm)
 have M:z.get [] w.aL=some (.cells (bL S).cells):=by rw[<-d,aR,bS];rfl
 have J: ∀j,j<s.aL->j≠s0.aL->z.get [] j=s.get [] j:=fun j m c=>by rw[<-d,aR,bN.2 (by omega:j≠w.aL),cF,ck (by omega),wo j c]
 have U: ∀j,j<s0.aL->j≠b3->z.get [] j=s0.get [] j:=fun j m c=>(J j (by omega) (by omega)).trans (C.old j m c);have Z:=(J b3 (by omega) (by omega)).trans F;simp only[bL,lK] at d M;have I:(w.new (.cells [ag 0,ag 0,ag 0,ag 0])).get [] w.aL=some (.cells [ag 0,ag 0,ag 0,ag 0]):=cG;simp only[go_sem,seval,Oz,bL,B,cO,I,cS,d,bj,bc,aX,aZ,evc];obtain⟨y,u⟩:=bZ (z.put b3 (some (.cells [ag (n+pd S)])));have yn:y.aL=s.aL+1:=by rw[<-u];exact V
 have qn:(y.put s0.aL (some (Cx E none))).aL=s.aL+1:=yn;have O:y.ci=s.ci:=by rw[<-u];exact Y
 refine bT ?_;simp only[go_sem,seval,OA,e3,Z,M,aP,aQ,w1,w2,w3,w4,ql,cO,cS,u,jg,jj];refine⟨O,(by show s.aL<=y.aL;omega),⟨fun j m c=>?_,pB H (by show s.aL<=y.aL;omega),?_,O.trans C.ci⟩,?_,?_⟩;rw[lL,aR,bN.2 (by omega:j≠s0.aL),cF,<-u,aR,bN.2 c];exact U j m c;show s0.aL<(y.put s0.aL (some (Cx E none))).aL;omega;rw[aR,bS];rfl;rw[aR,bN.2 (by omega:b3≠s0.aL),cF,<-u,aR,bS];rfl
def awY(y:No Q 339)(z:No Q 235)(d:Q.spec 326=some C9)(a0:No Q 329){r:List Pt}(H:ax 2 aN rv r)(V:s.gt<=s.aL):
 ∃v s',aq Q 329 [rv] s v s'/\v=bO (pY r):=by
 have J:=H.ge;have U:=vh H;have M:=aus H;refine aq.ofNRZ aoQ (bT ?_);cases e1:oX r with
 |false=>
  have R:pY r=0:=by unfold pY;rw[e1];rfl
  rw[e1] at M;simp only[go_sem,seval,J,d,M];exact⟨_,rfl,by rw[R];rfl⟩
 |true=>
  have R:pY r=qU (fK r):=by unfold pY;rw[e1];rfl
  rw[e1] at M;obtain⟨⟨_,I⟩,hn⟩:=Da e1;obtain⟨x,O⟩:=bZ ((s.new (.cells [ag 0])).put s.aL (some (.cells [ag 0])));have Y:(s.new (.cells [ag 0])).get [] s.aL=some (.cells [ag 0]):=cG;have xn:x.aL=s.aL+1:=by rw[<-O];rfl
  have xm:x.gt<=x.aL:=by rw[<-O];exact cR _ _ _ (bU V)
  have x0:x.get [] s.aL=some (.cells [ag 0]):=by rw[<-O,aR,bS];rfl
  have m:=AY z H x;obtain⟨u,C⟩:=bZ (x.new (.cells [rv]));have un:u.aL=s.aL+2:=by
   rw[<-C];show x.aL+1=_;omega
  have um:u.gt<=u.aL:=by rw[<-C];exact bU xm
  have uk:u.get [] x.aL=some (.cells [rv]):=by rw[<-C];exact cG
  have u0:u.get [] s.aL=some (.cells [ag 0]):=by rw[<-C,ck (by omega)];exact x0
  rw[C] at m;simp only[go_sem,seval,J,d,M,cO,Y,cS,O];refine ct.of m (by decide) ?_;simp only[go_sem,seval];have B: ∀(E:aw) (K:Ex->Fr->St->Prop),ac E 3= .ptr s.aL 0->ac E 10= .func (.func 339) [] [.ptr x.aL 0]->E.all jB=true->(∀c,c.get [] s.aL=some (.cells [ag (qU (fK r))])->K .normal ⟨E,31,[]⟩ c)->W Q 329 (.rfun (.tmp 10) [11,12] E9 Fa) ⟨E,31,[]⟩ u K:=by
   intro E K e3 Z hE hk;obtain⟨v,s',F,rfl,h⟩:=AZ y H I (bx:=x.aL) (n:=u.aL) (P:=fun i c=>l8 s.aL u c/\c.get [] u.aL=some (Cx E none)/\c.get [] s.aL=some (.cells [ag (qU ((fK r).take i))])/\(-(i*70368744177664:Int)<=qU ((fK r).take i)/\qU ((fK r).take i)<=i*70368744177664)) (D:=fun _=>False) (fun k s h=>(h.1.old x.aL (by omega) (by omega)).trans uk) (fun k s h=>h.1.mw) (fun i c hi ⟨hI,hl,w,hb⟩=>by
    obtain⟨na,nb⟩:=AN hn hi;obtain⟨v,s',q1,q2,q3,q4,rfl,q5,q6⟩:=awX (Q:=Q) na nb (i:=i) (by omega) (by omega) e3 hI hl w hb;have ab:=Lj na nb;have e:(fK r).take (i+1)=(fK r).take i++[eD r i]:=by
     rw[List.take_add_one,Dg hi];rfl
    refine⟨_,s',q1,q2,q3,.inl ⟨rfl,q4,q5,?_,?_⟩⟩;rw[e,acO];exact q6;rw[e,acO];omega) (s:=u.new (Cx E none)) ⟨⟨fun j hj _=>ck hj,bU um,kF _,rfl⟩,cG,(ck (by omega)).trans u0,by simp[qU]⟩
   rcases h with⟨hI,hg,w,_⟩|h
   refine ou (h:=339) (first:=[]) (captured:=[.ptr x.aL 0]) (v:=.tup []) (s1:=s') (by simp only[dR,Z]) (by rw[Std.P,rE,aoR,hE];rfl) F hg (hk _ ?_);rw[aR,bN.2 (by omega:s.aL≠u.aL)];rw[qY (by rw[Dh];exact bk _)] at w;exact w;exact h.elim
  refine B _ _ ?_ ?_ ?_ ?_;simp only[sN,seval];simp only[sN,seval]
  ·repeat' (first|exact rfl|refine aC.all_set ?_ (by first|exact U|rfl))
  intro c w;simp only[go_sem,seval,aP,w,aQ];exact⟨_,rfl,by rw[R];rfl⟩
def A7:Sp
 | [v]=>(rk v).bind fun r=>some (bO (pY r))
 |_=>none
def SZ:dp:=[(326,C9)]
def aey:du SZ:=.cons aut .nil
def awV:cQ ah 329 A7:=by
 intro d u h G z w xs j m;unfold A7 at h;split at h;simp only[aj] at h;obtain⟨r,C,h⟩:=h;have h:=sI h;subst h;obtain⟨_,B,y⟩:=vU C;refine jo aey (W:=[]) .nil (by simp only[ei,B,bW]) (fun F=>?_) G z w xs j m;obtain⟨v,s',c,rfl⟩:=awY (Q:=QW SZ [] F) ⟨rfl,rfl⟩ ⟨rfl,rfl⟩ rfl ⟨rfl,rfl⟩ y (s:=s0) (by decide);exact⟨_,_,c,1,rfl⟩;cases h
def GN(s:St)(m:Nat)(L:List (ae×aa)):Prop:=s.get [] m=some (.fix (.map (cX aa.str 0 L) L.length))
def aqP{t:TypeId}{e:TypeId}{z:aa}(j: ∀k:ae,lh ah t (.str k)=some (9,e))(d:dX ah e=some z){m:Nat}{l:List (ae×aa)}(c:GN s m l)(k:ae):n8 ah [] t (.map m) (.str k) false s=some ((cu k l).getD z):=by
 have c:s.get [] m=_:=c;simp only[n8,j,bg,d,Az,c,B5 im l k 0 0];cases cu k l<;>rfl
def lP(L:List (ae×aa))(k:ae):List Pt:=((cu k L).bind rk).getD []
def fL(L:List (ae×aa))(k:ae):Int:=max (pY (lP L k)) (-pY (lP L k))
def lD(L:List (ae×aa)):Prop:= ∀x∈L, ∃r,ax 2 aN x.2 r
def Cv{α:Type}[DecidableEq α]{k:α}{v:aa}: ∀ {L:List (α×aa)},cu k L=some v->(k,v)∈L
 | [],h=>by cases h
 |(a,u)::l,h=>by
  simp only[cu] at h;by_cases e:k=a;rw[iP e] at h;injection h with h;subst h;subst e;exact gF
  rw[iN e] at h;exact fW _ (Cv h)
def QG{L:List (ae×aa)}(h:lD L)(k:ae):ax 2 aN ((cu k L).getD .AL) (lP L k):=by
 unfold lP;cases e:cu k L with
 |none=>exact .inl ⟨rfl,rfl⟩
 |some v=>
  obtain⟨r,c⟩:=h _ (Cv e);simp only[Option.getD_some,bg,qi c];exact c
def axp(k:IntKind)(n:Int):A9 .neg (.int k n)=some (.int k (k.wrap (0-n))):=rfl
def acN: ∀(l:List bI) (n:Int),(∀S∈l, -70368744177664<=pd S/\pd S<=70368744177664)->n-l.length*70368744177664<=l.foldl (fun n S=>n+pd S) n/\l.foldl (fun n S=>n+pd S) n<=n+l.length*70368744177664
 | [],n,_=>by simp
 |S::l,n,h=>by
  have j:=h S gF;have d:=acN l (n+pd S) fun T c=>h T (fW _ c);simp only[t5,dM];omega
def awW(r:List Pt): -140737488355328000<=pY r/\pY r<=140737488355328000:=by
 unfold pY;cases e:oX r with
 |false=>
  show(-140737488355328000:Int)<=0/\(0:Int)<=140737488355328000;decide
 |true=>
  obtain⟨⟨_,u⟩,j⟩:=Da e;have h:=acN (fK r) 0 fun S m=>by
   obtain⟨i,d⟩:=t7 m;have c:i<r.length:=by
    have:=(nF.1 d).1;rwa [Dh] at this
   rw[Dg c] at d;injection d with d;subst d
   obtain⟨a,b⟩:=AN j c;exact Lj a b
  rw[Dh] at h;show _<=qU _/\qU _<=_;unfold qU;omega
def oH(L:List (ae×aa))(a b:ae):Int:=lO [iO (fL L a) (fL L b),fI a b]
def acq(u:No Q 233)(d:Q.spec 329=some A7){p a:Nat}{L:List (ae×aa)}(F:lD L)(B:s.get [] p=some (.fix (.cells [.map a])))(C:GN s a L)(k:ae):aq Q 233 [.ptr p 0,.str k] s (bO (fL L k)) s:=by
 have j:=QG F k;have c:=aqP AB DD C k;obtain⟨v,z⟩:=bZ ((cu k L).getD .AL);rw[z] at j c;have m:=j.ge;have w:A7 [v]=some (bO (pY (lP L k))):=by simp only[A7,qi j,bg]
 have H:=awW (lP L k);have y:IntKind.i64.wrap (0-pY (lP L k))= -pY (lP L k):=by rw[jE (by omega) (by omega)];omega
 refine aq.ofNZ aod (bT ?_);simp only[go_sem,seval,wP,aP,B,Pm,c,m,d,w,bO,axp,y,rp,fL]
def aha(B:No Q 231)(c:No Q 233)(d:Q.spec 329=some A7)(u:Q.spec 232=some oG)(w:Q.spec 228=some pk)(z:Q.spec 108=some ve)(j:s.gt<=s.aL){p a:Nat}{L:List (ae×aa)}(I:lD L)(F:s.get [] bx=some (.fix (.cells [.ptr p 0])))(C:s.get [] p=some (.fix (.cells [.map a])))(H:GN s a L)(x y:ae):aq Q 231 [.str x,.str y,.ptr bx 0] s (bO (oH L x y)) s:=by
 have c1:=acq c d (s:=s.top) I C H x;have c2:=acq c d (s:=s.top) I C H y;have O:oG [ag (fL L x),ag (fL L y)]=some (ag (iO (fL L x) (fL L y))):=rfl;have M:pk [.str x,.str y]=some (ag (fI x y)):=rfl;have J:ve [.list 1 [ag (iO (fL L x) (fL L y)),ag (fI x y)] .GE]=some (ag (oH L x y)):=rfl;have m:=m8 j;refine aq.ofNZ aob ?_;refine WE.sound ?_;simp only[go_sem,seval];refine gK j ?_;simp only[go_sem,Ie,seval,aP,F,Pm];refine jY.quiet c1 (by decide) (by simp[eh,mL]) ?_;simp only[go_sem,Ie,seval,aP,F,Pm];refine jY.quiet c2 (by decide) (by simp[eh,mL]) ?_;simp only[go_sem,Ie,seval,bO,u,O,w,M,z,J,kT,m,bj,bc,aX,aZ,evc]
end Go.Proofs.YtnnppcoplinajaaGreat
namespace Go.Proofs.YtnnppcoplinajaaGreat
open Go.Ag
open Go.Sort (putRow grow Holds SWO)
noncomputable def Ai(bx p a:Nat)(es:List dj)(c:Nat):aC aJ:=((aC.nil.set bx (some (.fix (.cells [.ptr p 0])))).set p (some (.fix (.cells [.map a])))).set a (some (.fix (.map es c)))
def Ae(G:Gh)(bx p a:Nat):Gh where
 at_ n:=if n=bx\/n=p\/n=a then G.at_ n else none
 ro:=G.plain.ro
 dim:=G.dim
def ajH(G:Gh)(bx p a:Nat):G.plain.le (Ae G bx p a):=⟨fun _ _ e=>(by cases e),fun _ _ _ e=>e,fun _ _ e=>e⟩
variable{x:Addr}{G:Gh}{a bx n p:Nat}
def HC(h:(Ae G bx p a).at_ n=some x):(n=bx\/n=p\/n=a)/\G.at_ n=some x:=by
 have h:(if n=bx\/n=p\/n=a then G.at_ n else none)=some x:=h;by_cases e:n=bx\/n=p\/n=a;rw[iP e] at h;exact⟨e,h⟩;rw[iN e] at h;cases h
def Ca(e:n=bx\/n=p\/n=a)(h:G.at_ n=some x):(Ae G bx p a).at_ n=some x:=by
 show(if n=bx\/n=p\/n=a then G.at_ n else none)=some x;rw[iP e];exact h
def RN(es:List dj):List dj:=es.map fun e=>⟨e.key,cW e.val,e.born⟩
def Vl{G G2:Gh}(c:G.plain.le G2): ∀ {es:List dj} {ms:List MapEntry},gl G es ms->(∀e∈es,bH e.key=true/\dL e.val=true)->gl G2 (RN es) ms
 |_,_,.nil,_=>.nil
 |_,_,.cons (e:=e) x l,h=>by
  obtain⟨m,j⟩:=h e gF;exact .cons ⟨(x.key.onto (JH G) m).mono c,(VR.top (JH G) x.val j).mono c,x.born⟩ (Vl c l fun e d=>h e (fW _ d))
def Cd(bx p a:Nat)(es:List dj)(c n:Nat):(Ai bx p a es c).get n=if n=a then some (.fix (.map es c)) else if n=p then some (.fix (.cells [.map a])) else if n=bx then some (.fix (.cells [.ptr p 0])) else none:=by
 simp only[Ai,aC.get_set];rfl
variable{α:Type}
def aao{x y:α}{i:Nat}(h:[x][i]? =some y):i=0/\y=x:=by
 cases i with
 |zero=>exact⟨rfl,(sI h).symm⟩
 |succ i=>simp at h
variable{c1:List aa}{h:aC aJ}
def wr3{w:World}(wr:WR G h w){c2:List aa}{es:List dj}{c:Nat}(Z:h.get bx=some (.cells (.ptr p 0::c1)))(O:h.get p=some (.cells (.map a::c2)))(M:h.get a=some (.map es c))(he: ∀e∈es,bH e.key=true/\dL e.val=true):WR (Ae G bx p a) (Ai bx p a (RN es) c) w:=by
 have a1:a≠p:=fun e=>by rw[e,O] at M;cases M
 have a2:a≠bx:=fun e=>by rw[e,Z] at M;cases M
 have a0:p≠bx:=fun e=>by rw[e,Z] at O;cases O
 have R:=ajH G bx p a;have old: ∀n,n=bx\/n=p\/n=a-> ∃o,h.get n=some o/\o≠ .tok:=by
  rintro n (rfl|rfl|rfl);exact⟨_,Z,fun e=>by cases e⟩;exact⟨_,O,fun e=>by cases e⟩;exact⟨_,M,fun e=>by cases e⟩
 refine⟨fun n o d=>?_,fun n m x y hn hm j hy he=>?_,fun b o v hv=>?_,fun n ob x i v hn j z=>?_,wr.dim,fun n x j=>wr.below n x (HC j).2⟩;rw[Cd] at d;by_cases J:n=a;rw[iP J] at d;injection d with d;subst d;subst J
 obtain⟨Y,I,H,ES,F,U⟩:=wr.obj n _ M;exact⟨Y,Ca (.inr (.inr rfl)) I,H,ES,F,Vl R U he⟩;rw[iN J] at d;by_cases V:n=p;rw[iP V] at d;injection d with d;subst d;subst V
 obtain⟨Y,I,H,C,e,F,U,h5⟩:=wr.obj n _ O;refine⟨Y,Ca (.inr (.inl rfl)) I,H,C,e,F,U,fun i v z=>?_⟩;obtain⟨rfl,rfl⟩:=aao z;obtain⟨q1,x,q2,q3⟩:=h5 0 (.map a) rfl;refine⟨q1,x,q2,?_⟩;cases q3 with
 |map B=>exact .map (Ca (.inr (.inr rfl)) B)
 rw[iN V] at d;by_cases e3:n=bx;rw[iP e3] at d;injection d with d;subst d;subst e3
 obtain⟨Y,I,H,C,e,F,U,h5⟩:=wr.obj n _ Z;refine⟨Y,Ca (.inl rfl) I,H,C,e,F,U,fun i v z=>?_⟩;obtain⟨rfl,rfl⟩:=aao z;obtain⟨q1,x,q2,q3⟩:=h5 0 (.ptr p 0) rfl;refine⟨q1,x,q2,?_⟩;cases q3 with
 |ptr B=>exact .ptr (Ca (.inr (.inl rfl)) B)
 rw[iN e3] at d;cases d;obtain⟨J,j⟩:=HC j;obtain⟨V,hy⟩:=HC hy;obtain⟨o1,g1,_⟩:=old n J;obtain⟨o2,g2,_⟩:=old m V;exact wr.sep n m x y (by rw[g1];simp) (by rw[g2];simp) j hy he;obtain⟨I,x,H,F⟩:=wr.plain.ro b o v hv;exact⟨I,x,H,F.mono R⟩;obtain⟨J,j⟩:=HC j;obtain⟨o1,g1,g2⟩:=old n J;have z:((G.ro x.block i).bind fun v=>if bH v=true then some v else none)=some v:=z;simp only[aj] at z;obtain⟨u,hu,_⟩:=z;exact absurd (wr.apart n o1 x i u g1 j hu).1 g2
def Vo: ∀(L:List (ae×aa)) (n:Nat),RN (cX aa.str n L)=cX aa.str n (L.map fun x=>(x.1,cW x.2))
 | [],_=>rfl
 |(k,v)::L,n=>by
  simp only[cX,eA];rw[<-Vo L (n+1)];rfl
def Zj(k:ae): ∀L:List (ae×aa),cu k (L.map fun x=>(x.1,cW x.2))=(cu k L).map cW
 | []=>rfl
 |(a,v)::L=>by
  simp only[eA,cu];by_cases e:k=a;rw[iP e,iP e];rfl;rw[iN e,iN e];exact Zj k L
def abY{L:List (ae×aa)}(d:lD L)(k:ae):lP (L.map fun x=>(x.1,cW x.2)) k=lP L k:=by
 unfold lP;rw[Zj];cases e:cu k L with
 |none=>rfl
 |some v=>
  obtain⟨r,c⟩:=d _ (Cv e);have j:=(n7 FO c).2;simp only[jI,bg,qi c,qi j]
def auD{L:List (ae×aa)}(m:lD L):lD (L.map fun x=>(x.1,cW x.2)):=fun x d=>by
 obtain⟨y,c,rfl⟩:=cx.1 d;obtain⟨r,j⟩:=m y c;exact⟨r,(n7 FO j).2⟩
def ahU{L:List (ae×aa)}(j:lD L): ∀e∈cX aa.str n L,bH e.key=true/\dL e.val=true:=fun e d=>by
 obtain⟨x,w,u,m⟩:=Mu L n e d;obtain⟨r,c⟩:=j x (dB w);rw[u,m];exact⟨rfl,(n7 FO c).1⟩
def GR:dp:=[(329,A7),(232,oG),(228,pk),(108,ve)]
def aee:du GR:=.cons awV (.cons Hb (.cons L8 (.cons aaP .nil)))
def ag9{W:World}(wr:WR G h W){c2:List aa}{L:List (ae×aa)}(hL:lD L)(hb:h.get bx=some (.cells (.ptr p 0::c1)))(Z:h.get p=some (.cells (.map a::c2)))(U:h.get a=some (.map (cX aa.str 0 L) L.length)){M:Value}(hx:VR G (.ptr bx 0) M)(x y:ae):
 Calls ah 231 (#[.string ⟨⟨x⟩⟩,.string ⟨⟨y⟩⟩]++ #[M]) W fun e z=>e= .returned (.int .i64 (oH L x y))/\ ∃q a1,z=grow (W.drewN q) a1:=by
 have F:=wr3 wr hb Z U (ahU hL);rw[Vo] at F;obtain⟨L',B⟩: ∃L',(L.map fun x=>(x.1,cW x.2))=L':=⟨_,rfl⟩;have a6:L.length=L'.length:=by rw[<-B,bP]
 have a5:lD L':=by rw[<-B];exact auD hL
 have a8:oH L x y=oH L' x y:=by
  unfold oH fL;rw[<-B,abY hL,abY hL]
 rw[B,a6] at F;rw[a8];obtain⟨N,hN⟩:=bZ (bx+p+a+1);obtain⟨j,w⟩: ∃j:St,(⟨Ai bx p a (cX aa.str 0 L') L'.length,N,N,0⟩:St)=j:=⟨_,rfl⟩;have a3:a≠p:=fun e=>by rw[e,Z] at U;cases U
 have a4:a≠bx:=fun e=>by rw[e,hb] at U;cases U
 have a2:p≠bx:=fun e=>by rw[e,hb] at Z;cases Z
 have sg: ∀n,j.get [] n=(Ai bx p a (cX aa.str 0 L') L'.length).get n:=fun n=>by rw[<-w];rfl
 have gb:j.get [] bx=some (.fix (.cells [.ptr p 0])):=by rw[sg,Cd,iN (Ne.symm a4),iN (Ne.symm a2),iP rfl]
 have gp:j.get [] p=some (.fix (.cells [.map a])):=by rw[sg,Cd,iN (Ne.symm a3),iP rfl]
 have ga:GN j a L':=by
  show j.get [] a=_;rw[sg,Cd,iP rfl]
 have R:=aha (Q:=QW GR [] fun _=>0) ⟨rfl,rfl⟩ ⟨rfl,rfl⟩ rfl rfl rfl rfl (s:=j) (by rw[<-w];exact bk _) a5 gb gp ga x y;obtain⟨n,hn⟩:=R;have a7:j.ci=0:=by rw[<-w]
 have C: ∀ch,(b9 ((QW GR [] fun _=>0).at ch) n).call 231 [.str x,.str y,.ptr bx 0] [] j=some (bO (oH L' x y),j):=fun ch=>
  (tE (QW GR [] fun _=>0) n).call 231 _ [] (fun _=>0) j _ j hn ch fun i hi=>by rw[a7] at hi;omega
 have hv:bR (Ae G bx p a) [.str x,.str y,.ptr bx 0] [.string ⟨⟨x⟩⟩,.string ⟨⟨y⟩⟩,M]:=by
  refine .cons (.str x) (.cons (.str y) (.cons ?_ .nil));cases hx with
  |ptr a9=>exact .ptr (Ca (.inl rfl) a9)
 have a0:lC [] (fun m=>N<=m) (Ae G bx p a) j j W:=by
  refine⟨fun m hm=>?_,.refl _ _,by rw[<-w];exact F,fun m _ hA=>?_⟩;have hm:N<=m:=by rw[<-w] at hm;exact hm
  rw[<-w];show(Ai _ _ _ _ _).get m=none;rw[Cd,iN (by omega),iN (by omega),iN (by omega)];have hA:N<=m:=hA;show(if m=bx\/m=p\/m=a then G.at_ m else none)=none;rw[iN (by omega)]
 have hc:=(Tx (V8 aee (W:=[]) .nil) n).1 231 [.str x,.str y,.ptr bx 0] [] j j (Ae G bx p a) W [.string ⟨⟨x⟩⟩,.string ⟨⟨y⟩⟩,M] (fun _=>0) (fun m=>N<=m) a0 hv (fun _=>(by decide:0<1000000)) (fun J _ _=>⟨_,j,C J,fun m V h2=>by omega⟩);rcases hc with⟨y',z,V,_⟩|⟨_,h2⟩
 have eg:=Go.Proofs.enters_of Tryz.func231 (by kernel_rfl) rfl ⟨[.string ⟨⟨x⟩⟩,.string ⟨⟨y⟩⟩,M]⟩ W;have V:(callFunc 231 ⟨[.string ⟨⟨x⟩⟩,.string ⟨⟨y⟩⟩,M]⟩).run ah W=_:=V;rw[eg] at V;cases V;refine Calls.mono h2 ?_;rintro e z ⟨v,rfl,J,u,s',b0,G',c⟩;have I:=c.eval;rw[C J] at I;simp only[aH,Prod.mk.injEq] at I;obtain⟨rfl,rfl⟩:=I;have O:=c.val;cases O;refine⟨rfl,z.drawn-W.drawn,z.heap.extract W.heap.size z.heap.size,?_⟩;have Y:=c.ext.quiet;have b1:=c.ext.size;have H:z.heap=W.heap++z.heap.extract W.heap.size z.heap.size:=by
  apply Array.ext_getElem?;intro i;by_cases hi:i<W.heap.size;rw[Array.getElem?_append_left hi];refine c.ext.keepW i hi ?_;rintro⟨n,ad,o,d,q2,q3,_⟩;have d:j.heap.get n=some o:=d;rw[<-w] at d;have d:(Ai _ _ _ _ _).get n=some o:=d;rw[Cd] at d;by_cases e1:n=a;rw[iP e1] at d;injection d with d;subst d;cases q2
  rw[iN e1] at d;by_cases e2:n=p;rw[iP e2] at d;injection d with d;subst d;cases q2
  rw[iN e2] at d;by_cases e3:n=bx;rw[iP e3] at d;injection d with d;subst d;cases q2
  rw[iN e3] at d;cases d;rw[Array.getElem?_append_right (by omega),Array.getElem?_extract];by_cases hj:i-W.heap.size<z.heap.size-W.heap.size;rw[iP (by omega),show W.heap.size+(i-W.heap.size)=i by omega];rw[iN (by omega),Array.getElem?_eq_none (by omega)]
 have hd:=Y.2.2.2.2.2;refine adJ H Y.2.2.2.2.1 ?_ Y.1 Y.2.1;show z.drawn=W.drawn+(z.drawn-W.drawn);omega
def Hd{L:List (ae×aa)}{a b:ae}:oH L a b<0↔(fL L a<fL L b\/(fL L a=fL L b/\db a b<0)):=by
 unfold oH;rw[P5,Hc];unfold iO;by_cases h1:fL L a<fL L b;simp[aV,an,h1];by_cases h2:fL L b<fL L a;have: ¬fL L a=fL L b:=by omega
 simp[aV,an,h1,h2,this];have:fL L a=fL L b:=by omega
 simp[aV,an,this]
def awl(L:List (ae×aa)):SWO (ltOf (oH L)) where
 irrefl x:=by
  simp only[ltOf,decide_eq_false_iff_not,Hd,Ec];omega
 trans x y z c h2:=by
  simp only[ltOf,dE,Hd] at*;rcases c with c|⟨c,w⟩<;>rcases h2 with h2|⟨h2,u⟩
  exact .inl (by omega);exact .inl (by omega);exact .inl (by omega);exact .inr ⟨by omega,Ed w u⟩
 ntrans x y z c h2:=by
  simp only[ltOf,decide_eq_false_iff_not,Hd] at*;intro h3;rcases h3 with h3|⟨h3,d⟩
  by_cases e:fL L x<fL L y;exact c (.inl e);exact h2 (.inl (by omega));by_cases e:fL L x<fL L y;exact c (.inl e);by_cases e2:fL L y<fL L z;exact h2 (.inl e2);have B:fL L x=fL L y:=by omega
  have j:fL L y=fL L z:=by omega
  rcases Int.lt_trichotomy (db x y) 0 with q|q|q
  exact c (.inr ⟨B,q⟩);rw[uy q] at d;exact h2 (.inr ⟨j,d⟩);have m:db y x<0:=by rw[BO x y];omega
  exact h2 (.inr ⟨j,Ed m d⟩)
def awQ(L:List (ae×aa))(x y:ae)(d:ltOf (oH L) x y=false)(c:ltOf (oH L) y x=false):x=y:=by
 simp only[ltOf,decide_eq_false_iff_not,Hd] at d c;have m: ¬db x y<0:=fun q=>by
  by_cases e:fL L x=fL L y;exact d (.inr ⟨e,q⟩);exact d (.inl (su fun j=>c (.inl (by omega))))
 have j: ¬db y x<0:=fun q=>by
  by_cases e:fL L y=fL L x;exact c (.inr ⟨e,q⟩);exact c (.inl (su fun j=>d (.inl (by omega))))
 rw[BO x y] at j;exact uy (by omega)
def vp(L:List (ae×aa))(l:List ae):List ae:=l.mergeSort fun x y=> !(ltOf (oH L)) y x
def Q7(L:List (ae×aa))(l:List ae):(vp L l).Perm l:=List.mergeSort_perm _ _
def FW{α:Type}(x:Option α)(k:α->Rd):Rd:=match x with|some a=>k a|none=>.ret none
def Qn:aJ->Option Nat
 | .cells (.ptr p o::_)=>bif aK o 0 then some p else none
 |_=>none
def Pp:aJ->Option Nat
 | .cells (.map a::_)=>some a
 |_=>none
noncomputable def El(o:aJ):Option (List (ae×aa)):=by
 classical exact if h: ∃L:List (ae×aa),o= .map (cX aa.str 0 L) L.length/\lD L then some h.choose else none
def ahR{o:aJ}{L:List (ae×aa)}(h:El o=some L):o= .map (cX aa.str 0 L) L.length/\lD L:=by
 unfold El at h;split at h;rename_i c;injection h with h;subst h
 exact c.choose_spec;cases h
def Vk: ∀ {L M:List (ae×aa)} {n:Nat},cX aa.str n L=cX aa.str n M->L=M
 | [],[],_,_=>rfl
 | [],_::_,_,h=>by cases h
 |_::_,[],_,h=>by cases h
 |(a,u)::L,(b,v)::M,n,h=>by
  simp only[cX,List.cons.injEq,dj.mk.injEq,aa.str.injEq] at h;obtain⟨⟨rfl,rfl,_⟩,h⟩:=h;rw[Vk h]
def ahQ{L:List (ae×aa)}(d:lD L):El (.map (cX aa.str 0 L) L.length)=some L:=by
 have c: ∃M:List (ae×aa),(aJ.map (cX aa.str 0 L) L.length)= .map (cX aa.str 0 M) M.length/\lD M:=⟨L,rfl,d⟩;unfold El;rw[dif_pos c];have h:=c.choose_spec.1;injection h with h _
 exact congrArg some (Vk h).symm
noncomputable def Gd(bx len:Nat)(cs:List aa):Rd:=.ask bx fun o=>FW (Qn o) fun p=>.ask p fun o=>FW (Pp o) fun a=>.ask a fun o=>FW (El o) fun L=>
 tN (bif aK cs.length len&&bn len 1000000 then(vW cs).bind fun l=>some ((vp L l).map aA) else none)
noncomputable def Dm:List aa->Option o7
 | [.arr k m 0 len _,.func (.func g) [] [.ptr bx 0]]=>bif aK k 1&&aK g 231 then some (some (m,Gd bx len)) else none
 | [.AL,.func (.func g) [] [.ptr _ 0]]=>bif aK g 231 then some none else none
 |_=>none
variable{g:Nat->Option aJ}
def Qp{x:Option α}{k:α->Rd}{v:aa}(h:fC g (FW x k)=some v): ∃a,x=some a/\fC g (k a)=some v:=by
 cases x with
 |none=>cases h
 |some a=>exact⟨a,rfl,h⟩
def avS{len:Nat}{cs cs':List aa}(h:fC g (Gd bx len cs)=some (.agg cs')): ∃(p a:Nat) (c1 c2:List aa) (L:List (ae×aa)) (l:List ae),g bx=some (.cells (.ptr p 0::c1))/\g p=some (.cells (.map a::c2))/\g a=some (.map (cX aa.str 0 L) L.length)/\lD L/\cs=l.map aA/\l.length=len/\len<=1000000/\cs'=(vp L l).map aA:=by
 unfold Gd at h;simp only[fC,aj] at h;obtain⟨R,J,h⟩:=h;obtain⟨p,c,h⟩:=Qp h;simp only[fC,aj] at h;obtain⟨O,I,h⟩:=h;obtain⟨a,d,h⟩:=Qp h;simp only[fC,aj] at h;obtain⟨M,H,h⟩:=h;obtain⟨L,z,B⟩:=Qp h;obtain⟨rfl,y⟩:=ahR z;have h:=FV B;obtain⟨w,h⟩:=aY h;simp only[bm] at w;simp only[aj,aH] at h;obtain⟨l,F,C⟩:=h;have m:=Lq F;have j:=jr w.1;have u:=fF w.2;unfold Qn at c;split at c;obtain⟨e,c⟩:=aY c;have e:=jr e;injection c with c;subst c;subst e
 unfold Pp at d;split at d;injection d with d;subst d
 exact⟨_,_,_,_,L,l,J,I,H,y,m,by rw[<-j,m,bP],u,C.symm⟩;cases d;cases c
variable{l:List ae}
def awg(h:l.map aA= .ptr p 0::c1):False:=by
 cases l with
 |nil=>cases h
 |cons x l=>injection h with h _;cases h
def awh(h:l.map aA= .map a::c1):False:=by
 cases l with
 |nil=>cases h
 |cons x l=>injection h with h _;cases h
def avK:uj 230 Dm:=by
 intro d0 G h w xs wr hx;refine⟨fun c=>?_,fun n gf cs d4 c hl hg=>?_⟩
 ·unfold Dm at c
  split at c;obtain⟨_,c⟩:=aY c;cases c
  ·cases hx with
   |cons p q=>
   cases q with
   |cons q r=>
   cases r;cases p;refine .inr ⟨Go.Proofs.enters_of Tryz.func230 (by kernel_rfl) rfl _ _,(AnyF.slices_SortFunc_none (P:=ah) (ρ:=Tryz.sortF230_ren) {Tryz.sortF230 with } none 0 _ w).mono ?_⟩;rintro e w' ⟨rfl,rfl⟩;exact⟨_,rfl,G,wr,.refl,.tup .nil⟩
  cases c
 ·unfold Dm at c
  split at c
  ·rename_i k m len c8 g bx
   obtain⟨hb,c⟩:=aY c;simp only[bm] at hb;have e1:=jr hb.1;have e2:=jr hb.2;subst e1;subst e2;injection c with c;injection c with c;injection c with b2 b1
   subst b2;subst b1;obtain⟨p,a,c1,c2,L,l,gb,gp,ga,hL,rfl,rfl,d1,rfl⟩:=avS hg;cases hx with
   |cons x1 x2=>
   cases x2 with
   |cons x2 x3=>
   cases x3;cases x2 with
   |func u1 u2=>
   cases u1;cases u2 with
   |cons b8 u3=>
   cases u3;rename_i px;obtain⟨ad,b,a4,rfl,Z,B,c9,c6,d,u,hd⟩:=Lk x1;obtain⟨b',I,_,C,e,hC,Y,c4⟩:=wr.obj m _ hl;rw[Z] at I;injection I with I;subst I
   rw[Y] at u;injection u with u
   have a6:bx≠m:=fun e=>by rw[e,hl] at gb;injection gb with gb;injection gb with gb;exact awg gb
   have a5:p≠m:=fun e=>by rw[e,hl] at gp;injection gp with gp;injection gp with gp;exact awh gp
   have a7:a≠m:=fun e=>by rw[e,hl] at ga;cases ga
   have c7: ∀i (U:i<l.length),C[b.off+i]? =some (encStr l[i]):=fun i U=>by
    obtain⟨_,x,a9,a8⟩:=c4 i (aA l[i]) (by rw[iw,fE U];rfl);cases a8;exact a9
   have F: ∀n J (H:Array ae),H.size=l.length-> ∃R,WR R (h.set m (some (.cells (H.toList.map aA)))) (grow (putRow encStr (Sort.ahead w n) b.block b.off H) J)/\cJ G h w R (h.set m (some (.cells (H.toList.map aA)))) (grow (putRow encStr (Sort.ahead w n) b.block b.off H) J) 0 0/\VR R (.tup []) (.tuple #[]):=fun n J H V=>by
    refine JS wr hl Z encStr H n J (fun C' e' z=>?_) (fun i v U=>?_);rw[hC] at z;injection z with z;injection z with z _ _;subst z
    rw[V,u];omega;rw[iw,Option.map_eq_some_iff] at U;obtain⟨s,c,rfl⟩:=U;rw[Array.getElem?_toList] at c;obtain⟨U,d2⟩:=Array.getElem?_eq_some_iff.1 c;refine⟨U,rfl,?_⟩;have:H[i]! =s:=by rw[getElem!_def,c]
    rw[this];exact .str s
   have a1:(vp L l).length=l.length:=(Q7 L l).length_eq;rcases c6 with h0|⟨O,M⟩
   have c3:l=[]:=tZ h0;subst c3;refine .inr ⟨Go.Proofs.enters_of Tryz.func230 (by kernel_rfl) rfl _ _,(AnyF.slices_SortFunc_none (P:=ah) (ρ:=Tryz.sortF230_ren) {Tryz.sortF230 with } (some ad) a4 _ w).mono ?_⟩;rintro e' w' ⟨rfl,rfl⟩;obtain⟨R,g1,g2,g3⟩:=F 0 #[] #[] rfl;have hw:grow (putRow encStr (Sort.ahead w' 0) b.block b.off #[]) #[]=w':=by
    rw[Go.Sort.grow_empty,Go.Sort.ahead_zero];exact Go.Sort.putRow_self encStr w' b.block b.off _ (fun j hj=>by simp at hj)
   rw[hw] at g1 g2;rw[tZ (l:=vp L []) a1];exact⟨_,rfl,R,g1,g2,g3⟩;obtain⟨ab,ao,d5⟩:=ad;simp only at O M B;subst O;subst M;subst B;have hH:Holds encStr w b.block b.off l.toArray:=fun j hj=>by
    have a2:j<l.length:=by simpa using hj
    refine⟨?_,by simp[World.frozen?,hC]⟩;rw[oE hC,c7 j a2];simp[a2]
   have c5:=wr.below m b Z;have a3:CmpLays1 ah 231 #[px] encStr (oH L) b.block b.off l.toArray.size w:=fun n J H V x y=>by
    obtain⟨R,g1,g2,_⟩:=F n J H (by simpa using V);exact ag9 g1 hL (by rw[aC.get_set,iN a6];exact gb) (by rw[aC.get_set,iN a5];exact gp) (by rw[aC.get_set,iN a7];exact ga) (b8.mono g2.le) x y
   have a0:=Any.slices_SortFunc_total Tryz.sortF230 encStr (fun _=>rfl) (oH L) (awl L) 231 #[px] b.block b.off a4 l.toArray w (Go.Proofs.enters_of Tryz.func231 (by kernel_rfl) rfl) a3 hH c5 (by simp;omega) (awQ L);have b0:l.toArray.size=l.length:=by simp
   rw[b0] at a0;refine .inr ⟨Go.Proofs.enters_of Tryz.func230 (by kernel_rfl) rfl _ _,a0.mono ?_⟩;rintro e' w' ⟨rfl,n,J,rfl⟩;obtain⟨R,g1,g2,g3⟩:=F n J (vp L l).toArray (by simpa using a1);exact⟨_,rfl,R,g1,g2,g3⟩
  obtain⟨_,c⟩:=aY c;cases c;cases c
end Go.Proofs.YtnnppcoplinajaaGreat
namespace Go.Proofs.YtnnppcoplinajaaGreat
open Go.Ag
variable{Q:aD}[Std Q]
def ji(l:List Obj):List (ae×aa):=l.map fun o=>(o.id,o.val)
def yF(k:ae): ∀l:List Obj,cu k (ji l)=(cj k l).map Obj.val
 | []=>rfl
 |o::l=>by
  have c:=yF k l;simp only[ji,eA,cu,cj] at c ⊢;by_cases h:k=o.id;subst h;simp;have:(k==o.id)=false:=by simpa using h
  rw[iN h,this];exact c
def yJ{k:ae}: ∀ {l:List Obj},k ∉ l.map Obj.id->cj k l=none
 | [],_=>rfl
 |o::l,h=>by
  have j:(k==o.id)=false:=by
   simp only[eA,dl,not_or] at h;simpa using h.1
  have c:=yJ (k:=k) (l:=l) fun d=>h (by rw[eA];exact fW _ d);simp only[cj,j,cF,c]
variable{K:Ex->Fr->St->Prop}{l:List Obj}{b p:Nat}{bv ov:aa}
def arP(ho:ax 6 Obj.val ov l)(hl:l.length<=1000000)(z:(l.map Obj.id).Nodup){av:aa}{s0:St}(hp:s0.get [] p=some (.cells [av,.map b,bv]))(R:p≠b)(hx: ∀e lc s,ac e 3= .ptr p 0->ac e 1= .Ge 1 1 0->lc.gen 1=1->lc.get 1 1=some [ov]->lc.gen 7=0->dn b s0 s->bJ aa.str s b (ji l)->K (.exit 0) ⟨e,97,lc⟩ s):
 ∀(d c:List Obj) (e:aw) (lc:Ag.Loc) (s:St),l=c++d->dn b s0 s->bJ aa.str s b (ji c)->
  ac e 3= .ptr p 0->ac e 1= .Ge 1 1 0->lc.gen 1=1->lc.get 1 1=some [ov]->lc.gen 7=0->ac e 21=ov->ac e 22=aM l.length->ac e 23=aM c.length->W Q 137 (.loop HV) ⟨e,97,lc⟩ s K:=by
 intro d
 induction d with
 |nil=>
  intro c e lc s y C Y F H g1 I g7 w j u;have a0:c.length=l.length:=by rw[y];simp
  have O:c=l:=by rw[y];simp
  refine bq ?_;simp only[go_sem,seval,HV,j,u,a0,cq];exact hx _ _ _ (by simp only[sN,seval,F]) (by simp only[sN,seval,H]) g1 I g7 C (by rw[<-O];exact Y)
 |cons o d ih=>
  intro c e lc s y C Y F H g1 I g7 w j u;have Z:c.length<l.length:=by rw[y];simp
  have a2:l[c.length]? =some o:=by rw[y];simp
  have a1:=fun lc k=>ho.at fD.2.2.1 a2 lc k;have J:=dg (n:=c.length) (by omega);have U:cu o.id (ji c)=none:=by
   rw[yF,yJ,sD];intro hc;rw[y,eE] at z;exact(vG.1 z).2.2 _ hc o.id (by simp) rfl
  have M:s.get [] p=some (.cells [av,.map b,bv]):=(C.old p R).trans hp;have V:bJ aa.str s.top b (ji c):=Y;have m:=vz im uZ V o.id o.val;have B:ee o.id o.val (ji c)=ji (c++[o]):=by
   rw[uR U];unfold ji;rw[eE];rfl
  rw[B] at m;simp only[Obj.val,Obj.cells] at m;refine bq ?_;simp only[go_sem,seval,HV,F,w,j,u,Z,a1,J,M,C.mw,aP,aQ,Obj.val,Obj.cells,m];refine ih (c++[o]) _ _ _ (by rw[y];simp) (C.putT _) ?_ ?_ ?_ ?_ ?_ ?_ ?_ ?_ ?_;show St.get _ [] b=_;rw[lL,aR,bS];rfl
  all_goals simp only[aW,gw,gI,ai,F,H,g1,I,g7,w,j,sA]
structure KM (p g7:Nat) (c7:List aa) (ov:aa) (n i:Nat) (e:aw) (lc:Ag.Loc):Prop where
 h3:ac e 3= .ptr p 0
 h7:ac e 7= .Ge 7 g7 0
 q7:lc.gen 7=g7
 l7:lc.get 7 g7=some c7
 h36:ac e 36=ov
 h37:ac e 37=aM n
 h38:ac e 38=aM i
variable{i lo n:Nat}{rv:aa}
def arY{z:List ae}(a8:ax 1 aA rv z)(c4:z.length<=900000){g7:Nat}{c7:List aa}{av:aa}{s0:St}(hp:s0.get [] p=some (.cells [av,.map b,bv]))(hM:bJ aa.str s0 b (ji l))(M:p<lo)(b2:b<lo)(hx: ∀e lc s v,z.all (di l)=true->cP 2 lo s v ((z.map (dS l)).map aN)->(∀k,k<lo->s.get [] k=s0.get [] k)->s.gt<=s.aL->lo<=s.aL->ac e 8=v->KM p g7 c7 ov n i e lc->K (.exit 4) ⟨e,97,lc⟩ s)(hc: ∀e lc s,z.all (di l)=false->(∀k,k<lo->s.get [] k=s0.get [] k)->s.gt<=s.aL->lo<=s.aL->KM p g7 c7 ov n i e lc->K (.exit 3) ⟨e,97,lc⟩ s):
 ∀(m c:List ae) (e:aw) (lc:Ag.Loc) (s:St) (v:aa),z=c++m->c.all (di l)=true->cP 2 lo s v ((c.map (dS l)).map aN)->(∀k,k<lo->s.get [] k=s0.get [] k)->s.gt<=s.aL->lo<=s.aL->ac e 8=v->ac e 46=rv->ac e 47=aM z.length->ac e 48=aM c.length->KM p g7 c7 ov n i e lc->W Q 137 (.loop Cj) ⟨e,97,lc⟩ s K:=by
 intro m
 induction m with
 |nil=>
  intro c e lc s v I Y V j B C Z H w u F;have b1:c.length=z.length:=by rw[I];simp
  have M:c=z:=by rw[I];simp
  refine bq ?_;simp only[go_sem,seval,Cj,w,u,b1,cq];rw[M] at V Y;refine hx _ _ _ v Y V j B C ?_ ⟨?_,?_,F.q7,F.l7,?_,?_,?_⟩
  all_goals simp only[sN,seval,Z,F.h3,F.h7,F.h36,F.h37,F.h38]
 |cons r m ih=>
  intro c e lc s v I Y V j B C Z H w u F;have O:c.length<z.length:=by rw[I];simp
  have b8:z[c.length]? =some r:=by rw[I];simp
  have U:=fun lc k=>a8.at co.2.2.1 b8 lc k;have a0:=dg (n:=c.length) (by omega);have J:s.get [] p=some (.cells [av,.map b,bv]):=(j p M).trans hp;have c3:bJ aa.str s b (ji l):=(j b b2).trans hM;have d:=yG im uZ Bg c3 r;rw[yF] at d;have vc:=V.ge;have e3:=F.h3;have e7:=F.h7;cases hq:cj r l with
  |none=>
   have hb:z.all (di l)=false:=by
    rw[I,List.all_append,jq];have:di l r=false:=by simp only[di,mZ,hq];rfl
    rw[this];simp
   rw[hq] at d;simp only[sD,od] at d;refine bq ?_;simp only[go_sem,seval,Cj,aA,e3,H,w,u,O,U,J,aP,aQ,d,ew];refine hc _ _ _ hb j B C ⟨?_,?_,?_,?_,?_,?_,?_⟩
   all_goals simp only[dh,gw,gI,ai,F.h3,F.h7,F.q7,F.l7,F.h36,F.h37,F.h38]
  |some q=>
   rw[hq] at d;simp only[jI,od,Obj.val,Obj.cells] at d;cases R:an q.uP 1 with
   |false=>
    have hb:z.all (di l)=false:=by
     rw[I,List.all_append,jq];have:di l r=false:=by simp only[di,mZ,hq];exact R
     rw[this];simp
    refine bq ?_;simp only[go_sem,seval,Cj,aA,e3,H,w,u,O,U,J,aP,aQ,d,ew,R];refine hc _ _ _ hb j B C ⟨?_,?_,?_,?_,?_,?_,?_⟩
    all_goals simp only[dh,gw,gI,ai,F.h3,F.h7,F.q7,F.l7,F.h36,F.h37,F.h38]
   |true=>
    have b0:di l r=true:=by simp only[di,mZ,hq];exact R
    have a9:aN (dS l r)= .agg [ag q.x,ag q.y]:=by simp only[FT hq,aN]
    obtain⟨v',s1,a1,a2,a3,a4,a5,a6,a7⟩:=D2 (t:=218) mH.1 rfl (by decide) (s:=s) (y:=.list 2 [aN (dS l r)] .GE) (ys:=[aN (dS l r)]) V (by simp only[fH,em]) (by
     simp only[fh,bP];omega) C B
    rw[a9] at a1;refine bq ?_;simp only[go_sem,seval,Cj,aA,e3,Z,H,w,u,O,U,J,aP,aQ,d,ew,R];simp only[go_sem,seval,Z,vc,u,a0,a1,a7,bj,bc,aX,aZ,evc];refine ih (c++[r]) _ _ s1 v' (by rw[I];simp) ?_ ?_ (fun k R=>(a6 k R).trans (j k R)) a5 (by omega) ?_ ?_ ?_ ?_ ⟨?_,?_,?_,?_,?_,?_,?_⟩;rw[List.all_append,Y,jq,b0];rfl;rw[eE,eE];exact a2
    all_goals simp only[aW,gw,gI,ai,H,w,F.h3,F.h7,F.q7,F.l7,F.h36,F.h37,F.h38,sA]
def md(l:List Obj)(o:Obj):Bool:=match tP l o with|some r=> !jR r|none=>false
def mt(l:List Obj)(o:Obj):Bool:=(pL l o).isSome
structure vQ (l pre:List Obj) (p a b lo:Nat) (s0 s:St) (L:List (ae×aa)) (bv:aa):Prop where
 hp:s.get [] p=some (.cells [.map a,.map b,bv])
 ma:bJ aa.str s a L
 mb:bJ aa.str s b (ji l)
 ids:L.map (·.1)=(pre.filter (mt l)).map Obj.id
 rings: ∀x∈L, ∃o∈pre,x.1=o.id/\ ∃r,pL l o=some r/\ax 2 aN x.2 r
 bad:cP 1 lo s bv (((pre.filter (md l)).map Obj.id).map aA)
 old: ∀k,k<lo->k≠p->k≠a->s.get [] k=s0.get [] k
 mw:s.gt<=s.aL
 nx:lo<=s.aL
variable{α:Type}
def uJ{f:α->Bool}{l:List α}{x:α}(h:f x=true):(l++[x]).filter f=l.filter f++[x]:=by
 rw[Gx,DK h];rfl
def pn{f:α->Bool}{l:List α}{x:α}(h:f x=false):(l++[x]).filter f=l.filter f:=by
 rw[Gx,Bi (by rw[h];exact Kn)];simp
variable{a:Nat}{o:Obj}{s s':St}
def vQ.skip{c:List Obj}{s0:St}{L:List (ae×aa)}(I:vQ l c p a b lo s0 s L bv)(V:mt l o=false)(U:md l o=false)(d: ∀k,k<s.aL->s'.get [] k=s.get [] k)(J:s'.gt<=s'.aL)(Z:s.aL<=s'.aL)(H:p<lo)(R:a<lo)(O:b<lo):vQ l (c++[o]) p a b lo s0 s' L bv:=by
 have Y:=I.nx;refine⟨(d p (by omega)).trans I.hp,(d a (by omega)).trans I.ma,(d b (by omega)).trans I.mb,by rw[pn V];exact I.ids,fun x F=>?_,?_,fun k M C B=>(d k (by omega)).trans (I.old k M C B),J,by omega⟩;obtain⟨z,m,j⟩:=I.rings x F;exact⟨z,sB _ m,j⟩;rw[pn U];rcases I.bad with h|⟨m,k,j,y,w,u⟩
 exact .inl h;exact .inr ⟨m,k,j,(d k u).trans y,w,by omega⟩
def arv(b1:Q.spec 229=some pQ)(ho:ax 6 Obj.val ov l)(hg: ∀o∈l,o.Al)(hl:l.length<=900000)(hr: ∀o∈l,o.gE.length<=900000)(d5:(l.map Obj.id).Nodup)(R:p<lo)(c6:a<lo)(b8:b<lo)(d2:p≠a)(e9:p≠b)(f3:a≠b){s0:St}(O: ∀e lc s L bv,ac e 3= .ptr p 0->vQ l l p a b lo s0 s L bv->K (.exit 2) ⟨e,97,lc⟩ s):
 ∀(z c:List Obj) (e:aw) (lc:Ag.Loc) (s:St) (L:List (ae×aa)) (bv:aa),l=c++z->vQ l c p a b lo s0 s L bv->
  ac e 3= .ptr p 0->ac e 36=ov->ac e 37=aM l.length->ac e 38=aM c.length->W Q 137 (.loop Ck) ⟨e,97,lc⟩ s K:=by
 intro z
 induction z with
 |nil=>
  intro c e lc s L bv h1 I h3 V C B;have f2:c.length=l.length:=by rw[h1];simp
  have R:c=l:=by rw[h1];simp
  refine bq ?_;simp only[go_sem,seval,Ck,C,B,f2,cq];exact O _ _ _ L bv (by simp only[sN,seval,h3]) (by rw[R] at I;exact I)
 |cons o z ih=>
  intro c e lc s L bv h1 I h3 V C B;have d7:c.length<l.length:=by rw[h1];simp
  have e5:l[c.length]? =some o:=by rw[h1];simp
  have d4:o∈l:=dB e5;have go:=hg o d4;have rc:=go.gE.ge;have f1:=go.gE.lenS co;have e0:=fun lc k=>ho.at fD.2.2.1 e5 lc k;have a0:=dg (n:=c.length) (by omega);have next: ∀(e':aw) (d0:Ag.Loc) (s':St) (L':List (ae×aa)) (H:aa),vQ l (c++[o]) p a b lo s0 s' L' H->ac e' 3= .ptr p 0->ac e' 36=ov->ac e' 37=aM l.length->ac e' 38=aM c.length->W Q 137 (.loop Ck) ⟨(e'.set 95 (some (ag ((c.length+1:Nat):Int)))).set 38 (some (ag ((c.length+1:Nat):Int))),97,d0⟩ s' K:=fun e' d0 s' L' H I' e3 g0 f6 Y=>by
   refine ih (c++[o]) _ _ s' L' H (by rw[h1];simp) I' ?_ ?_ ?_ ?_
   all_goals simp only[sN,seval,e3,g0,f6,sA,eH]
  cases hk:an o.uP 3 with
  |false=>
   have j:tP l o=none:=by unfold tP;rw[hk];rfl
   have M:mt l o=false:=by unfold mt pL;rw[j];rfl
   have J:md l o=false:=by unfold md;rw[j]
   refine bq ?_;simp only[go_sem,seval,Ck,h3,V,C,B,d7,e0,a0,hk,Obj.val,Obj.cells];refine next _ _ s L bv (I.skip M J (fun _ _=>rfl) I.mw (bk _) R c6 b8) ?_ ?_ ?_ ?_
   all_goals simp only[sN,seval,h3,V,C,B]
  |true=>
   refine lz ?_;simp only[go_sem,seval,Ck,h3,V,C,B,d7,e0,hk,Obj.val,Obj.cells,rc,f1];have nx:=I.nx;refine arY go.gE (hr o d4) (c7:=[.str o.id,ag o.uP,ag o.x,ag o.y,o.refsV,o.tagsV]) (p:=p) (b:=b) (lo:=s.aL) (n:=l.length) (i:=c.length) (ov:=ov) (av:=.map a) (bv:=bv) (s0:=s) I.hp I.mb (by omega) (by omega) ?_ ?_ o.gE [] _ _ s .AL rfl rfl (.inl ⟨rfl,rfl⟩) (fun _ _=>rfl) I.mw (bk _) ?_ ?_ ?_ ?_ ⟨?_,?_,rfl,?_,?_,?_,?_⟩
   ·intro e1 c9 s1 v U hO w m b0 h8 F
    have j:tP l o=some (o.gE.map (dS l)):=by unfold tP;rw[hk,U];rfl
    have vc:=hO.ge;have Z:=J0 hO.isL;have e3:=F.h3;have e7:=F.h7;have f5:=F.q7;have c8:=F.l7;have Y:=F.h38;obtain⟨g,b2⟩:=bZ (c9.gen 7);rw[<-f5,b2] at e7 c8;have a9:s1.get [] p=some (.cells [.map a,.map b,bv]):=(w p (by omega)).trans I.hp;cases hs:jR (o.gE.map (dS l)) with
    |false=>
     have M:mt l o=false:=by unfold mt pL;rw[j];simp[hs]
     have J:md l o=true:=by unfold md;rw[j];simp[hs]
     rw[hs] at Z;have e4:cP 1 lo s1 bv (((c.filter (md l)).map Obj.id).map aA):=by
      rcases I.bad with h|⟨Z,k,q2,q3,q4,q5⟩
      exact .inl h;exact .inr ⟨Z,k,q2,(w k q5).trans q3,q4,by omega⟩
     have e2:((c.filter (md l)).map Obj.id).length<=900000:=by
      rw[bP]
      have:=kE (md l) c;omega
     obtain⟨H,s2,a1,a2,a3,a4,a5,a6,a7,a8⟩:=TC (t:=25) co.1 rfl (by decide) (enc:=aA) e4 o.id e2 (by omega) m;simp only[aA] at a1;have g1:=e4.ge;obtain⟨u,hu⟩:=bZ (s1.Gt s2);rw[hu] at a2 a5 a6;have un:u.aL=s2.aL:=by rw[<-hu];rfl
     have e6:u.get [] p=some (.cells [.map a,.map b,bv]):=(a6 p R).trans a9;have d:=(dn.refl a5:dn p u u).putT (some (.cells [.map a,.map b,H]));simp only[go_sem,seval,h8,vc,b1,Z];refine gK m ?_;have d6:=m8 m;simp only[go_sem,EG,HT,HU,seval,e3,e7,c8,b2,a9,aP,aQ,g1,d6,aA,bj,bc,aX,aZ,evc];simp only[go_sem,EG,HT,HU,seval,aA,a1,a3,a4,a7,a8,hu,e6,cO,cS,Y,a0];refine next _ _ _ L H ⟨?_,?_,?_,?_,fun x O=>?_,?_,fun k hk M J=>?_,d.mw,?_⟩ ?_ ?_ ?_ ?_
     rw[lL,aR,bS];rfl;exact(d.old a d2.symm).trans ((a6 a c6).trans ((w a (by omega)).trans I.ma));exact(d.old b e9.symm).trans ((a6 b b8).trans ((w b (by omega)).trans I.mb));rw[pn M];exact I.ids;obtain⟨o',Z,q2⟩:=I.rings x O;exact⟨o',sB _ Z,q2⟩;rw[uJ J,eE];rcases a2 with⟨c1,c2⟩|⟨c1,k,c2,c3,c4,c5⟩
     simp at c2;exact .inr ⟨c1,k,c2,(d.old k (by omega)).trans c3,c4,by rw[d.aL];exact c5⟩;exact(d.old k M).trans ((a6 k hk).trans ((w k (by omega)).trans (I.old k hk M J)));rw[d.aL,un];omega
     all_goals simp only[sN,seval,F.h3,F.h36,F.h37,F.h38]
    |true=>
     have M:mt l o=true:=by unfold mt pL;rw[j];simp[hs]
     have e8:pL l o=some (o.gE.map (dS l)):=by unfold pL;rw[j];simp[hs]
     have J:md l o=false:=by unfold md;rw[j];simp[hs]
     rw[hs] at Z;have f4:bJ aa.str s1.top a L:=(w a (by omega)).trans I.ma;have f0:cu o.id L=none:=by
      cases hc:cu o.id L with
      |none=>rfl
      |some v'=>
       obtain⟨o',c1,c2,_⟩:=I.rings _ (Cv hc);have c2:o.id=o'.id:=c2;rw[h1,eE] at d5;exact absurd c2.symm ((vG.1 d5).2.2 o'.id (List.mem_map_of_mem c1) o.id (by simp))
     have d1:=vz im AB f4 o.id v;rw[uR f0] at d1;have d:=(dn.refl m:dn a s1 s1).putT (some (.map (cX aa.str 0 (L++[(o.id,v)])) (L++[(o.id,v)]).length));simp only[go_sem,seval,h8,vc,b1,Z];refine gK m ?_;simp only[go_sem,EG,HT,HU,seval,e3,e7,c8,b2,h8,vc,a9,aP,aQ,d1,Y,a0];refine next _ _ _ (L++[(o.id,v)]) bv ⟨?_,?_,?_,?_,fun x O=>?_,?_,fun k hk M J=>?_,d.mw,?_⟩ ?_ ?_ ?_ ?_
     exact(d.old p d2).trans a9;show St.get _ [] a=_;rw[lL,aR,bS];rfl;exact(d.old b f3.symm).trans ((w b (by omega)).trans I.mb);rw[uJ M,eE,eE,I.ids];rfl;rcases jb.1 O with O|O
     obtain⟨o',Z,q2⟩:=I.rings x O;exact⟨o',sB _ Z,q2⟩;have O:=List.mem_singleton.1 O;subst O;exact⟨o,by simp,rfl,_,e8,hO.isL⟩;rw[pn J];rcases I.bad with h|⟨c1,k,c2,c3,c4,c5⟩
     exact .inl h;exact .inr ⟨c1,k,c2,(d.old k (by omega)).trans ((w k c5).trans c3),c4,by rw[d.aL];omega⟩;exact(d.old k J).trans ((w k (by omega)).trans (I.old k hk M J));rw[d.aL];omega
     all_goals simp only[sN,seval,F.h3,F.h36,F.h37,F.h38]
   ·intro e1 c9 s1 U w m b0 F
    have j:tP l o=none:=by unfold tP;rw[U,gh];rfl
    have M:mt l o=false:=by unfold mt pL;rw[j];rfl
    have J:md l o=false:=by unfold md;rw[j]
    have Y:=F.h38;simp only[go_sem,seval,Y,a0];refine next _ _ s1 L bv (I.skip M J w m b0 R c6 b8) ?_ ?_ ?_ ?_
    all_goals simp only[sN,seval,F.h3,F.h36,F.h37,F.h38]
   all_goals simp only[sL,seval,h3,V,C,B,cV]
   all_goals rfl
def aad(J:Q.spec 31=some jh)(F:Q.spec 229=some pQ)(U:No Q 137)(m:ax 6 Obj.val ov l)(hg: ∀o∈l,o.Al)(hl:l.length<=900000)(hr: ∀o∈l,o.gE.length<=900000)(Z:cZ l=true)(hm:s.gt<=s.aL):
 ∃v s',aq Q 137 [.agg [ov]] s v s'/\(v= .ptr (s.aL+2) 0/\ ∃c L bv,vQ l l (s.aL+2) s.aL (s.aL+1) (s.aL+3) c s' L bv/\ ∀k,k<s.aL->c.get [] k=s.get [] k):=by
 have a1:=i6;have w:=m.lenS fD;have B:=m.cs;have u:=qA Z;have V:=AA m hg (by omega);rw[Z] at V;obtain⟨z,j⟩:=bZ ((s.new (.map [] 0)).new (.map [] 0));have O:z.aL=s.aL+2:=by rw[<-j];rfl
 have Y:(s.new (.map [] 0)).aL=s.aL+1:=rfl;obtain⟨y,d⟩:=bZ (z.new (.cells [.map s.aL,.map (s.aL+1),.AL]));have yn:y.aL=s.aL+3:=by rw[<-d];show z.aL+1=_;omega
 have ym:y.gt<=y.aL:=by rw[<-d,<-j];exact bU (bU (bU hm))
 have R:y.get [] (s.aL+2)=some (.cells [.map s.aL,.map (s.aL+1),.AL]):=by rw[<-d,<-O];exact cG
 have ya:y.get [] s.aL=some (.map [] 0):=by rw[<-d,ck (by omega),<-j,ck (by omega)];exact cG
 have yb:y.get [] (s.aL+1)=some (.map [] 0):=by rw[<-d,ck (by omega),<-j,<-Y];exact cG
 have yo: ∀k,k<s.aL->y.get [] k=s.get [] k:=fun k H=>by rw[<-d,ck (by omega),<-j,ck (by omega),ck H]
 refine aq.ofNRZ amX (bT ?_);simp only[go_sem,seval,w,B,J,V,mz,uu,D8,Y,j,O,d,bj,bc,aX,aZ,evc];refine arP m (by omega) u (p:=s.aL+2) (b:=s.aL+1) (av:=.map s.aL) (bv:=.AL) (s0:=y) R (by omega) ?_ l [] _ _ y rfl (.refl ym) yb ?_ ?_ ?_ ?_ ?_ ?_ ?_ ?_
 ·intro e lc c M r1 g1 l1 g7 C hM
  have I0:vQ l [] (s.aL+2) s.aL (s.aL+1) (s.aL+3) c c [] .AL:=by
   refine⟨(C.old _ (by omega)).trans R,(C.old _ (by omega)).trans ya,hM,rfl,fun x hx=>(by cases hx),.inl ⟨rfl,rfl⟩,fun _ _ _ _=>rfl,C.mw,by rw[C.aL];omega⟩
  simp only[go_sem,seval,r1,l1,g1,w,B];refine arv F m hg hl hr u (p:=s.aL+2) (a:=s.aL) (b:=s.aL+1) (lo:=s.aL+3) (by omega) (by omega) (by omega) (by omega) (by omega) (by omega) (s0:=c) ?_ l [] _ _ c [] .AL rfl I0 ?_ ?_ ?_ ?_;intro e2 a0 s2 L bv M I;simp only[go_sem,seval,M];exact⟨_,rfl,rfl,c,L,bv,I,fun k H=>(C.old k (by omega)).trans (yo k H)⟩
  all_goals simp only[sN,seval,M,cV]
  all_goals rfl
 all_goals simp only[aW,nQ,ai,bG,cV]
 all_goals rfl
def aw3:ah.underlying 214=some (.map 9 218):=by kernel_rfl
variable{v:aa}
def ae5(c:No Q 139)(k:ae)(d:v.ge=true)(s:St):aq Q 139 [.str k,v] s (.bool true) s:=by
 refine aq.ofNZ amZ (bT ?_);simp only[go_sem,seval]
variable{bx:Nat}
def arZ(hK: ∀i,1000000<=Q.kmax i)(B:No Q 139){it:Nat}{L:List (ae×aa)}(a9:L.length<1000000)(a8:lD L)(c1:it<lo)(c2:a<lo)(d1:a≠it){s0:St}{C:Ex->Fr->St->Prop}(hx: ∀e lc s ov (c:List ae),c.Perm (L.map (·.1))->ku 1 s ov (c.map aA)->(∀k,k<lo->k≠it->s.get [] k=s0.get [] k)->lo<=s.aL->s.gt<=s.aL->(∀r,jD ov=some r->lo<=r)->ac e 5=ov->ac e 2= .ptr bx 0->C (.exit 0) ⟨e,30,lc⟩ s):
 ∀(U:Nat) (seen:List Nat) (e:aw) (lc:Ag.Loc) (s:St) (ov:aa) (c:List ae),U+seen.length=L.length->iK aa.str s it a L seen->c=seen.map (fun b=>(L.getD b ([],.AL)).1)->ku 1 s ov (c.map aA)->(∀k,k<lo->k≠it->s.get [] k=s0.get [] k)->lo<=s.aL->s.gt<=s.aL->(∀r,jD ov=some r->lo<=r)->ac e 5=ov->ac e 1= .func (.func 139) [] []->ac e 2= .ptr bx 0->ac e 12= .ptr it 0->W Q 138 (.loop NL) ⟨e,30,lc⟩ s C:=by
 intro U
 induction U with
 |zero=>
  intro seen e lc s ov c hc I j O w J u d R Y V m;rcases I.aL Q.ch Q.kmax (fun i=>by have:=hK i;omega) with⟨hp,hn⟩|⟨b,p,s1,hb,hnm,hlt,_⟩
  refine bq ?_;simp only[go_sem,seval,NL,m,ye,hn,ew,bj,bc,aX,aZ,evc];refine hx _ _ s ov c ?_ O w J u d (by simp only[sN,seval,R]) (by simp only[sN,seval,V]);rw[j];refine(hp.map _).trans ?_;have:(gV L.length).map (fun b=>(L.getD b ([],.AL)).1)=L.map (·.1):=by
   refine List.ext_getElem (by simp) fun i h1 h2=>?_;have h2:i<L.length:=by simpa using h2
   simp[kU,h2]
  rw[this];omega
 |succ U ih=>
  intro seen e lc s ov c hc I j O w J u d R Y V m;rcases I.aL Q.ch Q.kmax (fun i=>by have:=hK i;omega) with⟨hp,hn⟩|⟨b,p,s1,hb,hnm,hlt,hn,ho,hi,hn1,hm1⟩
  have:=hp.length_eq;rw[List.length_range] at this;omega
  ·have I1:=I.go d1 hb hnm ho hi
   have a0:=iK.entry hi I1.hm hb;have H:s1.gt<=s1.aL:=by rw[hm1,hn1];exact cR s it none u
   have Z:=O.ge;obtain⟨r,z⟩:=a8 p (dB hb);have pc:=z.ge;have a7:ku 1 s1 ov (c.map aA):=O.mono (fun r z=>ho r (by have:=d r z;omega)) (by omega);have M:c.length<1000000:=by rw[j,bP];omega
   obtain⟨s3,a1,a2,a3,a4,a5,a6⟩:=Li (t:=25) co.1 rfl (by decide) (aA p.1) (fun y hy=>by
    obtain⟨x,_,rfl⟩:=cx.1 hy;rfl) (by rw[bP];exact M) H a7
   simp only[aA] at a1;refine bq ?_;simp only[go_sem,seval,NL,R,Y,m,ye,hn,Ev,a0,ew,pc,bj,bc,aX,aZ,evc];refine ct.of (ae5 B p.1 pc s1) (by decide) ?_;simp only[go_sem,seval,R,Z,a1,hG,Uy,bj,bc,aX,aZ,evc];refine ih (seen++[b]) _ _ s3 (.arr 1 s1.aL 0 ((c.map aA).length+1) ((c.map aA).length+1)) (c++[p.1]) (by rw[cD];simp only[fh];omega) ⟨?_,?_,I1.nd,I1.lt⟩ ?_ ?_ (fun k hk F=>?_) (by omega) a5 (fun r z=>?_) ?_ ?_ ?_ ?_;rw[a6 it (by omega) (fun e=>by have:=d it e;omega)];exact I1.hi;exact(a6 a (by omega) (fun e=>by have:=d a e;omega)).trans I1.hm;rw[eE,<-j];simp[kU,hb];rw[eE];exact a2;rw[a6 k (by omega) (fun e=>by have:=d k e;omega),ho k F];exact w k hk F;injection z with z
   omega
   all_goals simp only[sN,seval,Y,V,m,bP]
variable{c2:List aa}
def avX(hK: ∀i,1000000<=Q.kmax i)(M:No Q 139)(w:Q.spec 230=none)(B:Q.specW 230=some Dm)(a7:No Q 138){L:List (ae×aa)}(a1:L.length<1000000)(a2:lD L)(hp:s.get [] p=some (.cells (.map a::c2)))(ha:bJ aa.str s a L)(pl:p<s.aL)(al:a<s.aL)(a5:s.gt<=s.aL):
 ∃v s',aq Q 138 [.ptr p 0,.func (.func 139) [] []] s v s'/\ ∃c:List ae,c.Perm (L.map (·.1))/\ku 1 s' v (c.map aA)/\(∀k,k<s.aL->s'.get [] k=s.get [] k)/\s.aL<=s'.aL/\s'.gt<=s'.aL/\(∀r,jD v=some r->s.aL<=r):=by
 obtain⟨z,R⟩:=bZ (s.new (.cells [.ptr p 0]));have zn:z.aL=s.aL+1:=by rw[<-R];rfl
 have zb:z.get [] s.aL=some (.cells [.ptr p 0]):=by rw[<-R];exact cG
 have zo: ∀k,k<s.aL->z.get [] k=s.get [] k:=fun k Y=>by rw[<-R,ck Y]
 have zm:z.gt<=z.aL:=by rw[<-R];exact bU a5
 have zp:=(zo p pl).trans hp;have za:bJ aa.str z a L:=(zo a al).trans ha;have V:=iK.new aw3 za;have hI:=iK.begin za (by omega);obtain⟨u,hu⟩:=bZ (z.new (.iter (some a) L.length [] L.length));rw[hu] at V hI;have un:u.aL=s.aL+2:=by rw[<-hu];show z.aL+1=_;omega
 have uo: ∀k,k<z.aL->u.get [] k=z.get [] k:=fun k Y=>by rw[<-hu,ck Y]
 have um:u.gt<=u.aL:=by rw[<-hu];exact bU zm
 refine aq.ofNRZ amY (bT ?_);simp only[go_sem,seval,Ha,R,zb,zp,aP,aQ,Hz,V,bj,bc,aX,aZ,evc];refine arZ hK M (it:=z.aL) (a:=a) (lo:=s.aL+2) (bx:=s.aL) a1 a2 (by omega) (by omega) (by omega) (s0:=u) ?_ L.length [] _ _ u .AL [] (by simp) hI rfl (.inl ⟨rfl,rfl⟩) (fun _ _ _=>rfl) (by omega) um (fun r hr=>by cases hr) ?_ ?_ ?_ ?_;intro e lc y ov c d hO Z a9 C U h5 r2;have O:=hO.ge;have old: ∀k,k<s.aL->y.get [] k=s.get [] k:=fun k Y=>(Z k (by omega) (by omega)).trans ((uo k (by omega)).trans (zo k Y));have b8:c.length<1000000:=by rw[d.length_eq,bP];exact a1
 simp only[go_sem,seval,h5,r2,O,w,pD];have I: ∃v F,aq Q 230 [ov,.func (.func 231) [] [.ptr s.aL 0]] y v F/\(v= .tup []/\ ∃m:List ae,m.Perm (L.map (·.1))/\ku 1 F ov (m.map aA)/\(∀k,k<s.aL->F.get [] k=s.get [] k)/\s.aL<=F.aL/\F.gt<=F.aL):=by
  rcases hO with⟨rfl,h0⟩|⟨h0,k,rfl,hg,a6⟩
  have h0:=zy.1 h0;subst h0;exact⟨_,y,aq.specW0 w (Std.H _) B rfl,rfl,[],d,.inl ⟨rfl,rfl⟩,old,by omega,C⟩;have b0:=U k rfl;have gb:y.get [] s.aL=some (.cells [.ptr p 0]):=(Z _ (by omega) (by omega)).trans ((uo _ (by omega)).trans zb);have gp:y.get [] p=some (.cells (.map a::c2)):=(old p pl).trans hp;have ga:y.get [] a=some (.map (cX aa.str 0 L) L.length):=(old a al).trans ha;have a8:aK (c.map aA).length (c.map aA).length=true:=Nat.beq_refl _;have a0:bn (c.map aA).length 1000000=true:=cE (by rw[bP];omega);have a3:fC (y.get []) (Gd s.aL (c.map aA).length (aF (c.map aA)))=some (.agg ((vp L c).map aA)):=by
   rw[Ac];simp only[fH,Gd,fC,gb,bg,Qn,FW,gp,Pp,ga,ahQ a2,tN,a0,bW,Lr]
  have a4:=(Q7 L c).trans d;have J:((vp L c).map aA).length=(c.map aA).length:=by rw[bP,bP,(Q7 L c).length_eq]
  refine⟨_,_,aq.specW (n:=k) (cs':=(vp L c).map aA) w (Std.H _) B rfl hg a3,rfl,vp L c,a4,.inr ⟨fun e=>?_,k,?_,?_,a6⟩,fun j hj=>?_,?_,cR y k _ C⟩;rw[e] at J;exact h0 (tZ J.symm);rw[J];rw[aR,bS,Ac];rfl;rw[aR,bN.2 (by omega:j≠k)];exact old j hj;show s.aL<=y.aL;omega
 refine ct.ex I (by decide) ?_;rintro v F ⟨rfl,m,b1,b2,b3,b4,b5⟩;simp only[go_sem,seval,h5,O];exact⟨_,rfl,m,b1,b2,b3,b4,b5,fun r hr=>by have:=U r hr;omega⟩
 all_goals simp only[sN,seval]
variable{xs:List aa}
def Bx{t:TypeId}{E:EI}{sz:Nat}(H:lQ ah t=some E)(B:E.n=sz)(F:E.b<=88){y x:aa}(h:cP sz lo s ov xs)(z:em [] E.g E.n y s=some [x])(m:xs.length<=900000)(d:lo<=s.aL)(C:s.gt<=s.aL):
 ∃c s',fB ah [] t ov y false s=some (c,s')/\cP sz lo s' c (xs++[x])/\c.cells=[c]/\s'.aL=s.aL+1/\s'.gt<=s'.aL/\(∀n,n<s.aL->s.get [] n≠some .tok->s'.get [] n=s.get [] n)/\(∀n,n<lo->s'.get [] n=s.get [] n):=by
 obtain⟨s',R,O,U,M,J,w⟩:=TD H B F h z (by simp) (by rw[List.length_singleton];omega) C;refine⟨_,s',R,.inr ⟨by simp,s.aL,rfl,O,d,by omega⟩,rfl,M,J,fun n u I=>w n u fun k j e=>?_,fun n u=>w n (by omega) fun k j e=>?_⟩;subst e;exact I (h.token j).2.2
 have:=(h.token j).1;omega
def eL(k:Int)(c:List ae):aa:=.agg [.str [],ag k,.list 1 (c.map aA) .GE]
structure oz (s s':St):Prop where
 old: ∀n,n<s.aL->s.get [] n≠some .tok->s'.get [] n=s.get [] n
 nx:s.aL<=s'.aL
 mw:s'.gt<=s'.aL
def oz.refl(h:s.gt<=s.aL):oz s s:=⟨fun _ _ _=>rfl,bk _,h⟩
def oz.app{s1 s2:St}(h:oz s s1)(w:s2.aL=s1.aL+1)(d:s2.gt<=s2.aL)(j: ∀n,n<s1.aL->s1.get [] n≠some .tok->s2.get [] n=s1.get [] n):oz s s2:=by
 have u:=h.nx;refine⟨fun n m c=>?_,by omega,d⟩;have e:=h.old n m c;rw[j n (by omega) (by rw[e];exact c),e]
def arw{pv:aa}{B:List ae}(hB:ax 1 aA bv B)(hl:B.length<=900000){s0:St}(hx: ∀e lc s ov,cP 3 lo s ov (B.map fun i=>eL 3 [i])->oz s0 s->lo<=s.aL->ac e 3=pv->ac e 4=ov->K (.exit 0) ⟨e,76,lc⟩ s):
 ∀(d c:List ae) (e:aw) (lc:Ag.Loc) (s:St) (ov:aa),B=c++d->cP 3 lo s ov (c.map fun i=>eL 3 [i])->oz s0 s->lo<=s.aL->ac e 3=pv->ac e 4=ov->ac e 19=bv->ac e 20=aM B.length->ac e 21=aM c.length->W Q 60 (.loop O1) ⟨e,76,lc⟩ s K:=by
 intro d
 induction d with
 |nil=>
  intro c e lc s ov z H I u Z J w m j;have U:c.length=B.length:=by rw[z];simp
  have O:c=B:=by rw[z];simp
  refine bq ?_;simp only[go_sem,seval,O1,m,j,U,cq];rw[O] at H;exact hx _ _ _ ov H I u (by simp only[sN,seval,Z]) (by simp only[sN,seval,J])
 |cons x d ih=>
  intro c e lc s ov z H I u Z J w m j;have R:c.length<B.length:=by rw[z];simp
  have Y:B[c.length]? =some x:=by rw[z];simp
  have V:=fun lc k=>hB.at co.2.2.1 Y lc k;have F:=dg (n:=c.length) (by omega);have C:=H.ge;obtain⟨M,s1,a1,a2,a3,a4,a5,a6,a7⟩:=Bx (t:=35) jn.1 rfl (by decide) (s:=s) (y:=.list 3 [eL 3 [x]] .GE) (x:=eL 3 [x]) H (by simp only[fH,em]) (by rw[bP];omega) u I.mw;have a0:=a2.ge;simp only[eL,eA,t8,aA] at a1;refine bq ?_;simp only[go_sem,seval,O1,aA,J,w,m,j,R,V,F,C,bj,bc,aX,aZ,evc];simp only[go_sem,seval,aA,J,j,F,C,a1,a3,bj,bc,aX,aZ,evc];refine ih (c++[x]) _ _ s1 M (by rw[z];simp) (by rw[eE];exact a2) (I.app a4 a5 a6) (by omega) ?_ ?_ ?_ ?_ ?_
  all_goals simp only[sN,seval,Z,w,m,sA]
def Hf(L:List (ae×aa))(q:ae×ae):Bool:=an (pN (lP L q.1) (lP L q.2)) 0
def lk(L:List (ae×aa))(l:List (ae×ae)):List aa:=(l.filter (Hf L)).map fun q=>eL 4 [q.1,q.2]
def RK(L:List (ae×aa))(a b:List (ae×ae)):lk L (a++b)=lk L a++lk L b:=by
 unfold lk;rw[Gx,eE]
variable{S:List ae}
def arW(O:Q.spec 141=some yU){r:Nat}{L:List (ae×aa)}(b0:lD L)(hl:S.length<=900000)(hi:i<S.length){x:ae}(c7:S[i]? =some x){bse:List aa}(c9:bse.length+S.length<=900000){s0:St}(hp:s0.get [] p=some (.cells (.map a::c2)))(ha:bJ aa.str s0 a L)(hr:s0.get [] r=some (.cells (S.map aA)))(pl:p<s0.aL)(al:a<s0.aL)(rl:r<s0.aL)(hx: ∀e lc s ov,cP 3 lo s ov (bse++lk L ((S.drop (i+1)).map fun y=>(x,y)))->oz s0 s->lo<=s.aL->ac e 3= .ptr p 0->ac e 4=ov->ac e 7= .arr 1 r 0 S.length S.length->ac e 36= .arr 1 r 0 S.length S.length->ac e 37=aM S.length->ac e 38=aM i->K (.exit 4) ⟨e,76,lc⟩ s):
 ∀(j c:List ae) (e:aw) (lc:Ag.Loc) (s:St) (ov:aa),S.drop (i+1)=c++j->cP 3 lo s ov (bse++lk L (c.map fun y=>(x,y)))->oz s0 s->lo<=s.aL->ac e 3= .ptr p 0->ac e 4=ov->ac e 7= .arr 1 r 0 S.length S.length->ac e 9= .str x->ac e 36= .arr 1 r 0 S.length S.length->ac e 37=aM S.length->ac e 38=aM i->ac e 46= .arr 1 r (i+1) (S.length-(i+1)) (S.length-(i+1))->ac e 47=ag ((S.length-(i+1):Nat):Int)->ac e 48=aM c.length->W Q 60 (.loop Cs) ⟨e,76,lc⟩ s K:=by
 intro j;have a8:(S.drop (i+1)).length=S.length-(i+1):=List.length_drop
 induction j with
 |nil=>
  intro c e lc s ov Z hO C B M h4 h7 J I H F w u d;have c5:c.length=S.length-(i+1):=by rw[<-a8,Z];simp
  have c4:c=S.drop (i+1):=by rw[Z];simp
  refine bq ?_;simp only[go_sem,seval,Cs,u,d,c5,cq];rw[c4] at hO;refine hx _ _ _ ov hO C B ?_ ?_ ?_ ?_ ?_ ?_
  all_goals simp only[sN,seval,M,h4,h7,I,H,F]
 |cons y j ih=>
  intro c e lc s ov Z hO C B M h4 h7 J I H F w u d;have V:c.length<S.length-(i+1):=by rw[<-a8,Z];simp
  have c6:S[i+1+c.length]? =some y:=by
   have:(S.drop (i+1))[c.length]? =some y:=by rw[Z];simp
   rw[List.getElem?_drop] at this;exact this
  have U:=dg (n:=c.length) (by omega);have z:=(C.old p pl (by rw[hp];simp)).trans hp;have a9:bJ aa.str s a L:=(C.old a al (by rw[show s0.get [] a=_ from ha];simp)).trans ha;have c3:=(C.old r rl (by rw[hr];simp)).trans hr;have a0:yD ah 9 (i+1+c.length*1) (s.get [] r)=some (.str y):=by
   rw[c3,aQ,gR,xI,List.head?_drop,iw,c6];rfl
  have hb:bh c.length (S.length-(i+1))=true:=cE V;have m:s.gt<=s.aL:=C.mw;have k1:=qC im AB DD (s:=s.top) a9 x;have k2:=qC im AB DD (s:=s.top) a9 y;have r1:=QG b0 x;have r2:=QG b0 y;obtain⟨v1,b8⟩: ∃v,(cu x L).getD .AL=v:=⟨_,rfl⟩;obtain⟨v2,b2⟩: ∃v,(cu y L).getD .AL=v:=⟨_,rfl⟩;rw[b8] at r1 k1;rw[b2] at r2 k2;have c1:=r1.ge;have c2:=r2.ge;have q1:yU [v1,v2]=some (bO (pN (lP L x) (lP L y))):=by simp only[yU,qi r1,qi r2,bg]
  have b1:=hO.ge;have c8:(lk L (c.map fun y=>(x,y))).length<=c.length:=by
   unfold lk;rw[bP];refine Nat.le_trans (kE _ _) ?_;rw[bP];exact bk _
  cases hz:an (pN (lP L x) (lP L y)) 0 with
  |false=>
   have Y:cP 3 lo s ov (bse++lk L ((c++[y]).map fun y=>(x,y))):=by
    have:lk L [(x,y)]=[]:=by unfold lk Hf;rw[Bi (by rw[hz];exact Kn)];rfl
    rw[eE,RK];show cP 3 lo s ov (bse++(_++lk L [(x,y)]));rw[this,nD];exact hO
   refine bq ?_;simp only[go_sem,seval,Cs,M,J,w,u,d,V,hb,m,co,aP,a0,z,aQ,xh];simp only[go_sem,seval,Cs,m,M,J,d,z,U,aP,aQ,xh,k1,k2,c1,c2,O,q1,bO,hz];refine ih (c++[y]) _ _ s ov (by rw[Z];simp) Y C B ?_ ?_ ?_ ?_ ?_ ?_ ?_ ?_ ?_ ?_
   all_goals simp only[sN,seval,M,h4,h7,J,I,H,F,w,u,sA]
  |true=>
   obtain⟨R,s1,a1,a2,a3,a4,a5,a6,a7⟩:=Bx (t:=35) jn.1 rfl (by decide) (s:=s) (y:=.list 3 [eL 4 [x,y]] .GE) (x:=eL 4 [x,y]) hO (by simp only[fH,em]) (by rw[cD];omega) B C.mw;simp only[eL,eA,t8,aA] at a1;have Y:cP 3 lo s1 R (bse++lk L ((c++[y]).map fun y=>(x,y))):=by
    have:lk L [(x,y)]=[eL 4 [x,y]]:=by unfold lk Hf;simp[hz]
    rw[eE,RK];show cP 3 lo s1 R (bse++(_++lk L [(x,y)]));rw[this,<-lV];exact a2
   refine bq ?_;simp only[go_sem,seval,Cs,M,J,w,u,d,V,hb,m,co,aP,a0,z,aQ,xh];simp only[go_sem,seval,Cs,m,M,J,d,z,U,aP,aQ,xh,k1,k2,c1,c2,O,q1,bO,hz];simp only[go_sem,seval,aA,h4,J,d,U,b1,a1,a3,bj,bc,aX,aZ,evc];refine ih (c++[y]) _ _ s1 R (by rw[Z];simp) Y (C.app a4 a5 a6) (by omega) ?_ ?_ ?_ ?_ ?_ ?_ ?_ ?_ ?_ ?_
   all_goals simp only[sN,seval,M,h7,J,I,H,F,w,u,sA]
def PJ(e:aw)(x:Operand)(d:Nat):eV e (some x) d=(ev e x).bind dr:=rfl
def PH(e:aw)(d:Nat):eV e none d=some d:=rfl
def FR(n o:Nat):dI ah .eql 212 (.ptr n o) .nilp=some (.bool false):=by kernel_rfl
theorem Et(h:aC aJ)(k:Int)(c:List ae):cC h 3 (eL k c)=some (eL k c):=by
 have e:cC h 2 (.list 1 (c.map aA) .GE)=some (.list 1 (c.map aA) .GE):=Hx h (by rw[AO];rfl) fun v d=>by
  obtain⟨x,_,rfl⟩:=cx.1 d;rfl
 show(dq (cC h 2) [.str [],ag k,.list 1 (c.map aA) .GE]).bind (fun r=>some (aa.agg r))=_;rw[yd fun v d=>?_];rfl;simp only[dl,List.not_mem_nil,or_false] at d;rcases d with rfl|rfl|rfl
 rfl;rfl;exact e
def AU(l:List Obj)(k:ae):List Pt:=(mF l k).getD []
def z7(l:List Obj)(q:ae×ae):Bool:=an (pN (AU l q.1) (AU l q.2)) 0
def v6(l:List Obj):List ae:=(l.filter (md l)).map Obj.id
def jd(l:List Obj):List ae:=(l.filter (mt l)).map Obj.id
def u4(l:List Obj):List aa:=(v6 l).map (fun i=>eL 3 [i])++((nu (jd l)).filter (z7 l)).map fun q=>eL 4 [q.1,q.2]
def DA(l:List Obj):aa:=io 3 (u4 l)
theorem Fv{α:Type}{q:α×α}: ∀ {l:List α},q∈nu l->q.1∈l/\q.2∈l
 | [],h=>by cases h
 |a::l,h=>by
  rcases jb.1 h with h|h
  grind
  have:=Fv h
  grind
theorem Qf{α:Type}: ∀l:List α,(nu l).length<=l.length*l.length
 | []=>bk _
 |a::l=>by
  have:=Qf l
  grind [nu,Nat.succ_mul,Nat.mul_succ]
variable{k:ae}
theorem abW(m:(l.map Obj.id).Nodup){L:List (ae×aa)}(u:L.map (·.1)=jd l)(j: ∀x∈L, ∃o∈l,x.1=o.id/\ ∃r,pL l o=some r/\ax 2 aN x.2 r)(c:k∈jd l):lP L k=AU l k:=by
 rw[<-u] at c;cases e:cu k L with
 |none=>
  obtain⟨x,d,rfl⟩:=cx.1 c;exfalso;have: ∀ {M:List (ae×aa)},x∈M->cu x.1 M≠none:=by
   intro M
   induction M with
   |nil=>intro h;cases h
   |cons y M w=>
    grind [cu]
  exact this d e
 |some v=>
  obtain⟨o,z,F,r,C,B⟩:=j _ (Cv e)
  grind [lP,AU,mF,CR,qi]
theorem al6(h:cZ l=true)(p:Obj->Bool){c:List ae}(u:c.Perm ((l.filter p).map Obj.id)):lj c=(l.filter p).map Obj.id:=by
 simp only[cZ,bm] at h;have j:(l.map (·.id)).Pairwise (fun a b=>li a b=true):=(EB l [] h.1).2.imp fun m=>by
  grind [Go.Proofs.bytesLess_eq,li]
 have d:((l.filter p).map Obj.id).Pairwise (fun a b=>li a b=true):=j.sublist (List.filter_sublist.map _)
 grind [List.Perm.eq_of_pairwise,li,Q8,Gc]
def arU(U:Q.spec 141=some yU){r:Nat}{L:List (ae×aa)}(a5:lD L){tot:List aa}(a8:tot.length+S.length<=900000){s0:St}(hp:s0.get [] p=some (.cells (.map a::c2)))(ha:bJ aa.str s0 a L)(hr:s0.get [] r=some (.cells (S.map aA)))(pl:p<s0.aL)(al:a<s0.aL)(rl:r<s0.aL)(hx: ∀e lc s ov,cP 3 lo s ov tot->oz s0 s->ac e 4=ov->K (.exit 2) ⟨e,76,lc⟩ s):
 ∀(d c:List ae) (e:aw) (lc:Ag.Loc) (s:St) (ov:aa) (j:List aa),S=c++d->j++lk L (nu d)=tot->cP 3 lo s ov j->oz s0 s->lo<=s.aL->ac e 3= .ptr p 0->ac e 4=ov->ac e 7= .arr 1 r 0 S.length S.length->ac e 36= .arr 1 r 0 S.length S.length->ac e 37=aM S.length->ac e 38=aM c.length->W Q 60 (.loop Fh) ⟨e,76,lc⟩ s K:=by
 intro d
 induction d with
 |nil=>
  intro c e lc s ov j z y hO V F h3 h4 h7 R w u;have a1:c.length=S.length:=by rw[z];simp
  refine bq ?_;simp only[go_sem,seval,Fh,w,u,a1,cq];have y:j=tot:=by rw[<-y];exact(nD j).symm
  subst y;exact hx _ _ _ ov hO V (by simp only[sN,seval,h4])
 |cons x d ih=>
  intro c e lc s ov j z y hO V F h3 h4 h7 R w u;have m:c.length<S.length:=by rw[z];simp
  have M:S[c.length]? =some x:=by rw[z];simp
  have J:S.drop (c.length+1)=d:=by rw[z];simp
  have a9:j.length<=tot.length:=by rw[<-y,cD];omega
  have B:=dg (n:=c.length) (by omega);have Z:=(V.old r rl (by rw[hr];simp)).trans hr;have I:yD ah 9 (0+c.length*1) (s.get [] r)=some (.str x):=by
   rw[Z,aQ,gR,xI,eH,List.head?_drop,iw,M];rfl
  rw[eH] at I;have hb:bh c.length S.length=true:=cE m;have a4:bn (c.length+1) S.length=true:=cE m;have a3:bn S.length S.length=true:=cE (bk _);have H:c.length+1<=S.length:=m;have a0:dr (ag (((c.length+1:Nat):Int)))=some (c.length+1):=rfl;refine bq ?_;simp only[go_sem,seval,Fh,h3,h7,R,w,u,m,hb,co,hG,aP,I];simp only[go_sem,seval,Fh,h7,u,B,a4,a3,H,a0,Qd,Q0,PJ,PH,yC,hG,xI,bk];refine arW U a5 (i:=c.length) (x:=x) (S:=S) (by omega) m M (bse:=j) (by omega) (s0:=s0) hp ha hr pl al rl ?_ d [] _ _ s ov J (by show cP 3 lo s ov (j++[]);rw[nD];exact hO) V F ?_ ?_ ?_ ?_ ?_ ?_ ?_ ?_ ?_ ?_
  ·intro e1 a7 s1 Y O a2 C g3 g4 g7 b1 b0 a6
   rw[J] at O;simp only[go_sem,seval,a6,B];refine ih (c++[x]) _ _ s1 Y _ (by rw[z];simp) ?_ O a2 C ?_ ?_ ?_ ?_ ?_ ?_;rw[lV,<-RK];exact y
   all_goals simp_all [sN]
  all_goals simp_all [sN]
  all_goals rfl
theorem agJ(hK: ∀i,1000000<=Q.kmax i)(f2:Q.spec 31=some jh)(c9:Q.spec 229=some pQ)(d0:Q.spec 141=some yU)(a6:No Q 137)(a4:No Q 139)(c8:Q.spec 230=none)(a3:Q.specW 230=some Dm)(z:Q.spec 140=none)(F:Q.specW 140=some Gf)(a5:No Q 138)(g1:No Q 60)(ho:ax 6 Obj.val ov l)(hg: ∀o∈l,o.Al)(hl:l.length<=900)(hr: ∀o∈l,o.gE.length<=999)(hv:cZ l=true)(hm:s.gt<=s.aL):
 ∃v s',aq Q 60 [.agg [ov]] s v s'/\gm s'.heap v (DA l):=by
 have e8:=ho.cs;have c3:=qA hv;refine aq.ofNRZ apw (bT ?_);simp only[go_sem,seval,e8,bj,bc,aX,aZ,evc];refine ct.ex (aad f2 c9 a6 ho hg (by omega) (fun o ho=>by have:=hr o ho;omega) hv hm) (by decide) ?_;rintro v M ⟨rfl,s1,L,bv,I,f5⟩;have nx:=I.nx;have a1:=I.bad.isL;have f4:=a1.ge;have e9:=a1.lenS co;have h4:(v6 l).length<=900:=by unfold v6;rw[bP];have:=kE (md l) l;omega
 have Z:=I.hp;have c7:lD L:=fun x hx=>let⟨_,_,_,r,_,h⟩:=I.rings x hx;⟨r,h⟩
 have f1:L.length<=900:=by
  have:=congrArg List.length I.ids;rw[bP,bP] at this
  have:=kE (mt l) l;omega
 have np:(aa.ptr (s.aL+2) 0)= .ptr (s.aL+2) 0:=rfl;have f3:(aa.nilp).ge=true:=rfl;simp only[go_sem,seval,Z,aP,aQ,f4,e9,f3,FR,bj,bc,aX,aZ,evc];refine arw a1 (by show(v6 l).length<=_;omega) (lo:=M.aL) (s0:=M) (pv:=.ptr (s.aL+2) 0) ?_ _ [] _ _ M .AL rfl (.inl ⟨rfl,rfl⟩) (.refl I.mw) (bk _) ?_ ?_ ?_ ?_ ?_
 ·intro e lc s3 R f0 a0 f6 e3 e4
  have a7:=(a0.old (s.aL+2) (by omega) (by rw[Z];simp)).trans Z;have b2:bJ aa.str s3 s.aL L:=(a0.old s.aL (by omega) (by rw[show M.get [] s.aL=_ from I.ma];simp)).trans I.ma;have d1:=avX hK a4 c8 a3 a5 (by omega) c7 a7 b2 (by omega) (by omega) a0.mw;simp only[go_sem,seval,e3,bj,bc,aX,aZ,evc];refine ct.ex d1 (by decide) ?_;rintro v s4 ⟨c,y,O,a9,b0,b1,b8⟩;have vc:=O.ge;have g0:c.length<=900:=by rw[y.length_eq,bP];exact f1
  have hS:lj c=jd l:=al6 hv (mt l) (by rw[<-I.ids];exact y);have V: ∃w d,aq Q 140 [v] s4 w d/\(w= .tup []/\ku 1 d v ((jd l).map aA)/\(∀k,k<s3.aL->d.get [] k=s3.get [] k)/\s3.aL<=d.aL/\d.gt<=d.aL):=by
   rcases O with⟨rfl,C⟩|⟨C,k,rfl,c5,e2⟩
   have C:=zy.1 C;subst C;exact⟨_,s4,aq.specW0 z (Std.H _) F rfl,rfl,.inl ⟨rfl,by rw[<-hS];rfl⟩,a9,b0,b1⟩;have g7:=b8 k rfl;have g6:(lj c).length=c.length:=(Gc c).length_eq;have c6:bh (c.map aA).length 1000001=true:=cE (by rw[bP];omega);rw[Ac] at c5;have e1:fC (s4.get []) (tN (bif aK (c.map aA).length (c.map aA).length&&bh (c.map aA).length 1000001 then(vW (c.map aA)).bind fun l=>some ((lj l).map aA) else none))=some (.agg ((lj c).map aA)):=by
    rw[c6,Nat.beq_refl,bW,cT,Lr];rfl
   refine⟨_,_,aq.specW (n:=k) (cs':=(lj c).map aA) z (Std.H _) F rfl c5 e1,rfl,.inr ⟨fun e=>?_,k,?_,?_,e2⟩,fun j hj=>?_,?_,cR s4 k _ b1⟩
   grind [bP]
   grind
   rw[aR,bS,hS,Ac];rfl
   grind [aR]
   exact b0
  simp only[go_sem,seval,vc,z,bj,bc,aX,aZ,evc];refine ct.ex V (by decide) ?_;rintro w d ⟨rfl,Y,m,g3,d5⟩;have a2:cP 3 M.aL d R ((v6 l).map fun i=>eL 3 [i]):=by
   rcases f0 with h|⟨q1,k,q2,q3,q4,q5⟩
   exact .inl h;exact .inr ⟨q1,k,q2,(m k q5).trans q3,q4,by omega⟩
  have d2:=(m (s.aL+2) (by omega)).trans a7;have d6:bJ aa.str d s.aL L:=(m s.aL (by omega)).trans b2;have hid:(jd l).length<=900:=by unfold jd;rw[bP];have:=kE (mt l) l;omega
  have u:(v6 l).map (fun i=>eL 3 [i])++lk L (nu (jd l))=u4 l:=by
   unfold u4 lk;congr 2;refine List.filter_congr fun q hq=>?_;obtain⟨m1,m2⟩:=Fv hq;unfold Hf z7;rw[abW c3 I.ids I.rings m1,abW c3 I.ids I.rings m2]
  have d7:(u4 l).length+(jd l).length<=900000:=by
   unfold u4;rw[cD,bP,bP];have h1:=kE (z7 l) (nu (jd l));have h2:=Qf (jd l);have h3:(jd l).length*(jd l).length<=900*900:=Nat.mul_le_mul hid hid;omega
  have d4:=a2.ge;have J: ∀(s':St) (U:aa),cP 3 M.aL s' U (u4 l)->gm s'.heap U (DA l):=fun s' U hO=>by
   refine⟨4,B7 hO fun v hv=>?_⟩
   grind [Et,u4]
  rcases Y with⟨rfl,C⟩|⟨C,r,rfl,c4,e0⟩
  have C:=zy.1 C;rw[C] at u;have B:cP 3 M.aL d R (u4 l):=by rw[<-u];simpa[lk,nu] using a2
  simp only[go_sem,seval,co,bj,bc,aX,aZ,evc];refine bq ?_;have e7:aV (0:Int) ((0:Nat):Int)=false:=rfl;have e5:aV (0:Int) 0=false:=rfl;simp only[go_sem,seval,Fh,cq,e4,d4,e7,e5];exact⟨_,rfl,J _ _ B⟩
  ·rw[bP]
   rw[Ac] at c4;simp only[go_sem,seval,yC,hG,bj,bc,aX,aZ,evc];refine arU d0 c7 (S:=jd l) (lo:=M.aL) (tot:=u4 l) d7 (s0:=d) d2 d6 c4 (by omega) (by omega) e0 ?_ (jd l) [] _ _ d R _ rfl u a2 (.refl d5) (by omega) ?_ ?_ ?_ ?_ ?_ ?_;intro e6 g5 s6 g2 B g8 g4;have a8:=B.ge;simp only[go_sem,seval,g4,a8];exact⟨_,rfl,J _ _ B⟩
   all_goals simp_all [sN]
   all_goals rfl
 all_goals simp only[aW,nQ,ai,bG,cV]
 all_goals rfl
def SS:dp:=[(31,jh),(229,pQ),(141,yU)]
def aer:du SS:=.cons wI (.cons J1 (.cons auy .nil))
noncomputable def S8:ri:=[(230,Dm),(140,Gf)]
def aeF:sQ S8:=.cons avK (.cons avV .nil)
def CN:Sp
 | [v]=>(lG v).bind fun l=>bif mp l then some (DA l) else none
 |_=>none
def arH:cQ ah 60 CN:=by
 intro args u c G h w xs B F;unfold CN at c;split at c;simp only[aj] at c;obtain⟨l,y,c⟩:=c;obtain⟨d,c⟩:=aY c;have c:=sI c;subst c;obtain⟨v,rfl,y,z,J⟩:=rj y;obtain⟨H,C,j,m⟩:=qK y z;have j:dz [.agg [v]]=[.agg [C]]:=by simp only[dz,j]
 have d:=oM.1 d;refine jo aer aeF (args:=[.agg [v]]) (by simp only[ei,H,bW]) (fun I=>?_) G h w xs B F;rw[j];exact agJ (Q:=QW SS S8 I) (fun _=>bk _) rfl rfl rfl ⟨rfl,rfl⟩ ⟨rfl,rfl⟩ rfl rfl rfl rfl ⟨rfl,rfl⟩ ⟨rfl,rfl⟩ m z d.len d.gE d.valid (by decide);cases c
def Fo(f:Obj->Bool)(g:Obj->aa)(k:ae): ∀ {l:List Obj},(l.map Obj.id).Nodup->cu k ((l.filter f).map fun o=>(o.id,g o))=(cj k l).bind fun q=>bif f q then some (g q) else none
 | [],_=>rfl
 |o::l,h=>by
  have j:=List.nodup_cons.1 h;have d:=Fo f g k (l:=l) j.2;simp only[cj];by_cases e:k=o.id;have c:(k==o.id)=true:=by simpa using e
  rw[c,cT,bg];cases hf:f o with
  |true=>
   rw[DK hf,eA,cu,iP e];rfl
  |false=>
   rw[Bi (by rw[hf];exact Kn),d,yJ (by rw[e];exact j.1)];rfl
  have c:(k==o.id)=false:=by simpa using e
  rw[c,cF,<-d];cases hf:f o with
  |true=>rw[DK hf,eA,cu,iN e]
  |false=>rw[Bi (by rw[hf];exact Kn)]
def HL(o:Obj):Bool:=an o.uP 1
def Aq(l:List Obj)(o:Obj):Bool:=an o.uP 2&&o.gE.all (di l)
def ny(l:List Obj):List (ae×aa):=(l.filter HL).map fun o=>(o.id,aN (o.x,o.y))
def mN(l c:List Obj):List (ae×aa):=(c.filter (Aq l)).map fun o=>(o.id,o.refsV)
def abA(h:(l.map Obj.id).Nodup)(k:ae): ∃z,od (.agg [ag 0,ag 0]) (cu k (ny l))= .tup [.agg z,.bool (di l k)]/\z.length=2/\de z=true:=by
 unfold ny;rw[Fo _ _ _ h];unfold di mZ;cases e:cj k l with
 |none=>exact⟨_,rfl,rfl,rfl⟩
 |some q=>
  simp only[bg,HL];cases hk:an q.uP 1 with
  |true=>exact⟨_,rfl,rfl,rfl⟩
  |false=>exact⟨_,rfl,rfl,rfl⟩
variable{c0:aa}
def arX(ho:ax 6 Obj.val ov l)(hl:l.length<=1000000)(C:(l.map Obj.id).Nodup){c2:aa}{s0:St}(hb:s0.get [] bx=some (.cells [.ptr p 0]))(hp:s0.get [] p=some (.cells [c0,.map a,c2]))(a0:p≠a)(a5:bx≠a)(hx: ∀e lc s,ac e 4= .ptr bx 0->ac e 1= .Ge 1 1 0->lc.gen 1=1->lc.get 1 1=some [ov]->dn a s0 s->bJ aa.str s a (ny l)->K (.exit 0) ⟨e,64,lc⟩ s):
 ∀(d c:List Obj) (e:aw) (lc:Ag.Loc) (s:St),l=c++d->dn a s0 s->bJ aa.str s a (ny c)->
  ac e 4= .ptr bx 0->ac e 1= .Ge 1 1 0->lc.gen 1=1->lc.get 1 1=some [ov]->ac e 19=ov->ac e 20=aM l.length->ac e 21=aM c.length->W Q 142 (.loop HX) ⟨e,64,lc⟩ s K:=by
 intro d
 induction d with
 |nil=>
  intro c e lc s z hb U M O V R u j w;have a3:c.length=l.length:=by rw[z];simp
  have Z:c=l:=by rw[z];simp
  refine bq ?_;simp only[go_sem,seval,HX,j,w,a3,cq];exact hx _ _ _ (by simp only[sN,seval,M]) (by simp only[sN,seval,O]) V R hb (by rw[<-Z];exact U)
 |cons o d ih=>
  intro c e lc s z m U M O V R u j w;have H:c.length<l.length:=by rw[z];simp
  have a6:l[c.length]? =some o:=by rw[z];simp
  have J:=fun lc k=>ho.at fD.2.2.1 a6 lc k;have F:=dg (n:=c.length) (by omega);cases hk:an o.uP 1 with
  |false=>
   have e1:ny (c++[o])=ny c:=by unfold ny;rw[pn (f:=HL) hk]
   refine bq ?_;simp only[go_sem,seval,HX,u,j,w,H,J,F,hk,Obj.val,Obj.cells];refine ih (c++[o]) _ _ s (by rw[z];simp) m (by rw[e1];exact U) ?_ ?_ ?_ ?_ ?_ ?_ ?_
   all_goals simp only[sL,seval,M,O,V,R,u,j,sA]
  |true=>
   have a1:cu o.id (ny c)=none:=by
    rw[z,eE] at C;unfold ny;rw[Fo _ _ _ (vG.1 C).1,yJ];rfl;intro hc;exact(vG.1 C).2.2 _ hc o.id (by simp) rfl
   have a4:s.get [] bx=some (.cells [.ptr p 0]):=(m.old bx a5).trans hb;have Y:s.get [] p=some (.cells [c0,.map a,c2]):=(m.old p a0).trans hp;have a2:bJ aa.str s.top a (ny c):=U;have B:=vz im CD a2 o.id (aN (o.x,o.y));have I:ee o.id (aN (o.x,o.y)) (ny c)=ny (c++[o]):=by
    rw[uR a1];unfold ny;rw[uJ (f:=HL) hk,eE];rfl
   rw[I] at B;simp only[aN] at B;refine bq ?_;simp only[go_sem,seval,HX,M,u,j,w,H,J,F,hk,a4,Y,m.mw,aP,aQ,Obj.val,Obj.cells,B];refine ih (c++[o]) _ _ _ (by rw[z];simp) (m.putT _) ?_ ?_ ?_ ?_ ?_ ?_ ?_ ?_;show St.get _ [] a=_;rw[lL,aR,bS];rfl
   all_goals simp only[sL,seval,M,O,V,R,u,j,sA]
def arx(j:No Q 237)(d:(l.map Obj.id).Nodup){c2:aa}(w:s.get [] bx=some (.cells [.ptr p 0]))(u:s.get [] p=some (.cells [c0,.map a,c2]))(y:bJ aa.str s a (ny l))(id:ae):aq Q 237 [.str id,.ptr bx 0] s (.bool (!di l id)) s:=by
 have c:=yG im CD Kl y id;obtain⟨z,m,B,H⟩:=abA d id;rw[m] at c;obtain⟨F,C,rfl⟩: ∃a b,z=[a,b]:=by
  match z,B with
  | [a,b],_=>exact⟨a,b,rfl⟩
 refine aq.ofNZ aoj (bT ?_);simp only[go_sem,seval,w,u,aP,aQ,c,ew]
def ar1(J:No Q 261)(M:No Q 167)(C:No Q 237)(ho:ax 6 Obj.val ov l)(hg: ∀o∈l,o.Al)(hl:l.length<=1000000)(hr: ∀o∈l,o.gE.length<=1000000)(z:(l.map Obj.id).Nodup){s0:St}(hb:s0.get [] bx=some (.cells [.ptr p 0]))(hp:s0.get [] p=some (.cells [c0,.map a,.map b]))(ha:bJ aa.str s0 a (ny l))(a4:p≠b)(a9:bx≠b)(b1:a≠b)(hx: ∀e lc s,ac e 4= .ptr bx 0->dn b s0 s->bJ aa.str s b (mN l l)->K (.exit 2) ⟨e,64,lc⟩ s):
 ∀(u c:List Obj) (e:aw) (lc:Ag.Loc) (s:St),l=c++u->dn b s0 s->bJ aa.str s b (mN l c)->
  ac e 4= .ptr bx 0->ac e 38=ov->ac e 39=aM l.length->ac e 40=aM c.length->W Q 142 (.loop HY) ⟨e,64,lc⟩ s K:=by
 intro u
 induction u with
 |nil=>
  intro c e lc s B hb I F w m j;have a8:c.length=l.length:=by rw[B];simp
  have a3:c=l:=by rw[B];simp
  refine bq ?_;simp only[go_sem,seval,HY,m,j,a8,cq];exact hx _ _ _ (by simp only[sN,seval,F]) hb (by rw[a3] at I;exact I)
 |cons o u ih=>
  intro c e lc s B d I F w m j;have Y:c.length<l.length:=by rw[B];simp
  have a2:l[c.length]? =some o:=by rw[B];simp
  have V:=dB a2;have go:=hg o V;have rc:=go.gE.ge;have a0:=fun lc k=>ho.at fD.2.2.1 a2 lc k;have y:=dg (n:=c.length) (by omega);have a1:s.get [] bx=some (.cells [.ptr p 0]):=(d.old bx a9).trans hb;have U:s.get [] p=some (.cells [c0,.map a,.map b]):=(d.old p a4).trans hp;have b0:bJ aa.str s a (ny l):=(d.old a b1).trans ha;have R:=Nh J M go.gE (hr o V) C.s (s:=s) (cap:=[.ptr bx 0]) (p:=fun x=> !di l x) fun x _=>arx C z a1 U b0 x;have skip:Aq l o=false->mN l (c++[o])=mN l c:=fun h=>by unfold mN;rw[pn h]
  cases hk:an o.uP 2 with
  |false=>
   have e1:=skip (by unfold Aq;rw[hk];rfl);refine bq ?_;simp only[go_sem,seval,HY,F,w,m,j,Y,a0,y,hk,Obj.val,Obj.cells];refine ih (c++[o]) _ _ s (by rw[B];simp) d (by rw[e1];exact I) ?_ ?_ ?_ ?_
   all_goals simp only[sN,seval,F,w,m,sA]
  |true=>
   refine lz ?_;simp only[go_sem,seval,HY,F,w,m,j,Y,a0,hk,Obj.val,Obj.cells,rc,pD];refine ct.of R (by decide) ?_;cases hn:o.gE.all (di l) with
   |false=>
    have e1:=skip (by unfold Aq;rw[hn,gh]);have H:(o.gE.any fun x=> !di l x)=true:=by
     have:=Bw (di l) o.gE;rw[hn] at this;simpa using this
    simp only[go_sem,seval,j,y,H];refine ih (c++[o]) _ _ s (by rw[B];simp) d (by rw[e1];exact I) ?_ ?_ ?_ ?_
    all_goals simp only[sN,seval,F,w,m,sA]
   |true=>
    have hw:Aq l o=true:=by unfold Aq;rw[hk,hn];rfl
    have H:(o.gE.any fun x=> !di l x)=false:=by
     have:=Bw (di l) o.gE;rw[hn] at this;simpa using this
    have a5:cu o.id (mN l c)=none:=by
     rw[B,eE] at z;unfold mN;rw[Fo _ _ _ (vG.1 z).1,yJ];rfl;intro hc;exact(vG.1 z).2.2 _ hc o.id (by simp) rfl
    have a7:bJ aa.str s.top b (mN l c):=I;have O:=vz im CE a7 o.id o.refsV;have Z:ee o.id o.refsV (mN l c)=mN l (c++[o]):=by
     rw[uR a5];unfold mN;rw[uJ hw,eE];rfl
    rw[Z] at O;have a6:=d.mw;simp only[go_sem,seval,j,y,H];refine gK a6 ?_;simp only[go_sem,NQ,Xj,seval,F,j,y,a1,U,aP,aQ,rc,O];refine ih (c++[o]) _ _ _ (by rw[B];simp) (d.putT _) ?_ ?_ ?_ ?_ ?_;show St.get _ [] b=_;rw[lL,aR,bS];rfl
    all_goals simp only[sN,seval,F,w,m,sA]
structure sH (l:List Obj) (ov:aa) (p a b:Nat) (s:St):Prop where
 hp:s.get [] p=some (.cells [ov,.map a,.map b])
 ma:bJ aa.str s a (ny l)
 mb:bJ aa.str s b (mN l l)
def sH.mono(h:sH l ov p a b s)(c: ∀k,k<n->s'.get [] k=s.get [] k)(d:p<n)(m:a<n)(j:b<n):sH l ov p a b s':=
 ⟨(c p d).trans h.hp,(c a m).trans h.ma,(c b j).trans h.mb⟩
theorem RM(d:(l.map Obj.id).Nodup)(j: ∀o∈l,o.Al)(m: ∀o∈l,an o.uP 2=true->2<=o.gE.length)(k:ae):(i9 l k=none/\(cu k (mN l l)).getD .AL= .AL)\/ ∃r,i9 l k=some r/\2<=r.length/\ ∃v,(cu k (mN l l)).getD .AL=v/\ax 1 aA v r/\bH v=true:=by
 unfold mN i9;rw[Fo _ _ _ d];cases e:cj k l with
 |none=>exact .inl ⟨rfl,rfl⟩
 |some q=>
  have c:=(mB e).1;simp only[bg,Aq];cases hk:(an q.uP 2&&q.gE.all (di l)) with
  |false=>exact .inl ⟨rfl,rfl⟩
  |true=>
   refine .inr ⟨q.gE,rfl,m q c ?_,q.refsV,rfl,(j q c).gE,(j q c).pr⟩
   grind
def acv:dI ah .eql 25 .AL .AL=some (.bool true):=by kernel_rfl
def avD(n:Nat)(xs:List aa)(r:nL):dI ah .eql 25 (.list n xs r) .AL=some (.bool false):=by kernel_rfl
def Ch{enc:α->aa}{l:List α}(h:ax n enc v l):v.cells=[v]:=by
 rcases h with⟨rfl,_⟩|⟨k,rfl⟩<;>rfl
def avE(v:aa)(r:List ae)(c:ax 1 aA v r)(h:2<=r.length):dI ah .eql 25 v .AL=some (.bool false):=by
 rcases c with⟨_,rfl⟩|⟨k,rfl⟩
 simp at h;exact avD _ _ _
theorem asc(Y:Q.spec 31=some jh)(u:No Q 261)(B:No Q 167)(w:No Q 237)(a0:No Q 142)(d:ax 6 Obj.val ov l)(hg: ∀o∈l,o.Al)(hl:l.length<=900000)(hr: ∀o∈l,o.gE.length<=900000)(hv:cZ l=true)(hm:s.gt<=s.aL):
 ∃v s',aq Q 142 [.agg [ov]] s v s'/\(v= .tup [.ptr (s.aL+2) 0,.bool true]/\sH l ov (s.aL+2) s.aL (s.aL+1) s'/\(∀k,k<s.aL->s'.get [] k=s.get [] k)/\s'.aL=s.aL+4/\s'.gt<=s'.aL):=by
 have a2:=i6;have H:=d.lenS fD;have I:=d.cs;have V:=Ch d;have F:=qA hv;have q1:=AA d hg (by omega);rw[hv] at q1;obtain⟨z,C⟩:=bZ ((s.new (.map [] 0)).new (.map [] 0));have zn:z.aL=s.aL+2:=by rw[<-C];rfl
 have nn:(s.new (.map [] 0)).aL=s.aL+1:=rfl;obtain⟨y,j⟩:=bZ (z.new (.cells [ov,.map s.aL,.map (s.aL+1)]));have yn:y.aL=s.aL+3:=by rw[<-j];show z.aL+1=_;omega
 obtain⟨x,J⟩:=bZ ((y.new (.cells [.nilp])).put (s.aL+3) (some (.cells [.ptr (s.aL+2) 0])));have U:(y.new (.cells [.nilp])).get [] (s.aL+3)=some (.cells [.nilp]):=by rw[<-yn];exact cG
 have xn:x.aL=s.aL+4:=by rw[<-J];show y.aL+1=_;omega
 have M: ∀k,k<s.aL+3->x.get [] k=y.get [] k:=fun k R=>by grind [aR,ck]
 have xb:x.get [] (s.aL+3)=some (.cells [.ptr (s.aL+2) 0]):=by rw[<-J,aR,bS];rfl
 have xp:x.get [] (s.aL+2)=some (.cells [ov,.map s.aL,.map (s.aL+1)]):=by rw[M _ (by omega),<-j,<-zn];exact cG
 have xa:x.get [] s.aL=some (.map [] 0):=by rw[M _ (by omega),<-j,ck (by omega),<-C,ck (by omega)];exact cG
 have xw:x.get [] (s.aL+1)=some (.map [] 0):=by rw[M _ (by omega),<-j,ck (by omega),<-C,<-nn];exact cG
 have xs: ∀k,k<s.aL->x.get [] k=s.get [] k:=fun k R=>by grind [ck]
 have xm:x.gt<=x.aL:=by
  rw[<-J];refine cR _ _ _ ?_;rw[<-j,<-C];exact bU (bU (bU (bU hm)))
 refine aq.ofNRZ am6 (bT ?_);have Z:(aa.nilp).cells=[.nilp]:=rfl;simp only[go_sem,seval,Z,H,I,V,Y,q1,mz,uu,D8,Ha,nn,C,zn,j,yn,cO,U,cS,J,bj,bc,aX,aZ,evc];refine arX d (by omega) F (p:=s.aL+2) (a:=s.aL) (bx:=s.aL+3) (c0:=ov) (c2:=.map (s.aL+1)) (s0:=x) xb xp (by omega) (by omega) ?_ l [] _ _ x rfl (.refl xm) xa ?_ ?_ ?_ ?_ ?_ ?_ ?_
 ·intro e lc O e4 r1 g1 l1 m hM
  have b1:=(m.old (s.aL+3) (by omega)).trans xb;have p1:=(m.old (s.aL+2) (by omega)).trans xp;have w1:bJ aa.str O (s.aL+1) (mN l []):=(m.old (s.aL+1) (by omega)).trans xw;simp only[go_sem,seval,r1,l1,g1,H,I];refine ar1 u B w d hg (by omega) (fun o d=>by have:=hr o d;omega) F (p:=s.aL+2) (a:=s.aL) (b:=s.aL+1) (bx:=s.aL+3) (c0:=ov) (s0:=O) b1 p1 hM (by omega) (by omega) (by omega) ?_ l [] _ _ O rfl (.refl m.mw) w1 ?_ ?_ ?_ ?_;intro e2 a1 s2 e4 c hW;have b2:=(c.old (s.aL+3) (by omega)).trans b1;simp only[go_sem,seval,e4,b2,aP,aQ];exact⟨_,rfl,rfl,⟨(c.old (s.aL+2) (by omega)).trans p1,(c.old s.aL (by omega)).trans hM,hW⟩,fun k R=>(c.old k (by omega)).trans ((m.old k (by omega)).trans (xs k R)),by rw[c.aL,m.aL,xn],c.mw⟩
  all_goals simp_all [sN]
 all_goals simp only[aW,nQ,ai,bG,cV]
 all_goals rfl
theorem avH(hg: ∀o∈l,o.Al)(a2:(l.map Obj.id).Nodup)(hw: ∀o∈l,an o.uP 2=true->2<=o.gE.length)(N:sH l ov p a b s)(go:o.Al)(hr:o.gE.length<=900000)(ht:pU l o=true-> ∀e lc,K (.exit 0) ⟨e,43,lc⟩ s)(hf:pU l o=false-> ∀e lc,ac e 4= .bool false->K .ret ⟨e,43,lc⟩ s):
 ∀(d c:List ae) (e:aw) (lc:Ag.Loc),o.gE=c++d->((gV c.length).zip c).all (fun q=>bif an o.uP 5&&q.1==1 then di l q.2 else(i9 l q.2).isSome)=true->ac e 0= .ptr p 0->ac e 3= .Ge 3 1 0->lc.get 3 1=some o.cells->lc.gen 3=1->ac e 10=o.refsV->ac e 11=aM o.gE.length->ac e 12=aM c.length->W Q 143 (.loop wC) ⟨e,43,lc⟩ s K:=by
 have step: ∀(c d:List ae) (r:ae),o.gE=c++r::d->((gV c.length).zip c).all (fun q=>bif an o.uP 5&&q.1==1 then di l q.2 else(i9 l q.2).isSome)=true->((bif an o.uP 5&&c.length==1 then di l r else(i9 l r).isSome)=true->((gV (c++[r]).length).zip (c++[r])).all (fun q=>bif an o.uP 5&&q.1==1 then di l q.2 else(i9 l q.2).isSome)=true)/\((bif an o.uP 5&&c.length==1 then di l r else(i9 l r).isSome)=false->pU l o=false):=by
  intro c d r O h2;have e1:(gV (c++[r]).length).zip (c++[r])=(gV c.length).zip c++[(c.length,r)]:=by
   rw[cD,dM,cV,List.range_succ,List.zip_append (by simp)];rfl
  refine⟨fun h=>by grind,fun h=>?_⟩;unfold pU;have hm:(c.length,r)∈(gV o.gE.length).zip o.gE:=by
   refine dB (i:=c.length) ?_;rw[Ks];refine⟨?_,by rw[O];simp⟩;rw[List.getElem?_range];rw[O];simp
  cases hc:((gV o.gE.length).zip o.gE).all fun p=>bif an o.uP 5&&p.1==1 then di l p.2 else(i9 l p.2).isSome with
  |false=>rfl
  |true=>
   grind
 intro d
 induction d with
 |nil=>
  intro c e lc O h2 M J H R u m w;have a4:c.length=o.gE.length:=by rw[O];simp
  have b2:c=o.gE:=by rw[O];simp
  refine bq ?_;simp only[go_sem,seval,wC,m,w,a4,cq]
  grind [pU]
 |cons r d ih=>
  intro c e lc O h2 M J H R u m w;have B:c.length<o.gE.length:=by rw[O];simp
  have a5:o.gE[c.length]? =some r:=by rw[O];simp
  have C:=fun lc k=>go.gE.at co.2.2.1 a5 lc k;have Y:=dg (n:=c.length) (by omega);obtain⟨st,sf⟩:=step c d r O h2;have y:=N.hp;have U:an ((c.length:Nat):Int) 1=(c.length==1):=by
   unfold an;by_cases h:c.length=1;rw[h];rfl
   grind
  have next: ∀(V:aw) (F:Ag.Loc),(bif an o.uP 5&&c.length==1 then di l r else(i9 l r).isSome)=true->ac V 0= .ptr p 0->ac V 3= .Ge 3 1 0->F.get 3 1=some o.cells->F.gen 3=1->ac V 10=o.refsV->ac V 11=aM o.gE.length->ac V 12=ag ((c.length+1:Nat):Int)->W Q 143 (.loop wC) ⟨V,43,F⟩ s K:=fun V F hc e0 e3 a6 a7 b0 a9 a8=>
   ih (c++[r]) V F (by rw[O];simp) (st hc) e0 e3 a6 a7 b0 a9 (by rw[a8];simp)
  simp only[Obj.cells] at H;cases h5:(an o.uP 5&&c.length==1) with
  |true=>
   have I:=h5;simp only[bm] at I;rw[h5,cT] at next sf
   have j:=yG im CD Kl N.ma r;obtain⟨z,hz,a3,b1⟩:=abA a2 r;rw[hz] at j;obtain⟨z1,z2,rfl⟩: ∃a b,z=[a,b]:=by
    match z,a3 with
    | [a,b],_=>exact⟨a,b,rfl⟩
   cases Z:di l r with
   |false=>
    rw[Z] at j;refine bq ?_;simp only[go_sem,seval,wC,aA,M,J,H,R,u,m,w,B,C,U,I.1,I.2,y,aP,aQ,j,ew]
    grind [iV]
   |true=>
    rw[Z] at j;refine bq ?_;simp only[go_sem,seval,wC,aA,M,J,H,R,u,m,w,B,C,U,I.1,I.2,y,aP,aQ,j,ew,Y];refine next _ _ Z ?_ ?_ ?_ ?_ ?_ ?_ ?_
    all_goals simp only[sL,seval,M,J,H,R,u,m,Obj.cells]
  |false=>
   rw[h5,cF] at next sf
   have j:=qC im CE tW N.mb r;rcases RM a2 hg hw r with⟨w1,w2⟩|⟨rr,w1,w2,v,w3,w4,w5⟩
   rw[w2] at j;have Z:(i9 l r).isSome=false:=by rw[w1];rfl
   cases hk5:an o.uP 5 with
   |false=>
    refine bq ?_;simp only[go_sem,seval,wC,aA,M,J,H,R,u,m,w,B,C,hk5,y,aP,aQ,j,acv]
    grind [iV]
   |true=>
    have a0:(c.length==1)=false:=by rw[hk5,en] at h5;exact h5
    refine bq ?_;simp only[go_sem,seval,wC,aA,M,J,H,R,u,m,w,B,C,U,hk5,a0,y,aP,aQ,j,acv]
    grind [iV]
   ·rw[w3] at j
    have vc:=w4.ge;have Z:(i9 l r).isSome=true:=by rw[w1];rfl
    have a1:=avE v rr w4 w2;cases hk5:an o.uP 5 with
    |false=>
     refine bq ?_;simp only[go_sem,seval,wC,aA,M,J,H,R,u,m,w,B,C,hk5,y,aP,aQ,j,vc,a1,Y];refine next _ _ Z ?_ ?_ ?_ ?_ ?_ ?_ ?_
     all_goals simp only[sL,seval,M,J,H,R,u,m,Obj.cells]
    |true=>
     have a0:(c.length==1)=false:=by rw[hk5,en] at h5;exact h5
     refine bq ?_;simp only[go_sem,seval,wC,aA,M,J,H,R,u,m,w,B,C,U,hk5,a0,y,aP,aQ,j,vc,a1,Y];refine next _ _ Z ?_ ?_ ?_ ?_ ?_ ?_ ?_
     all_goals simp only[sL,seval,M,J,H,R,u,m,Obj.cells]
def av0(m:No Q 143)(z: ∀o∈l,o.Al)(d:(l.map Obj.id).Nodup)(w: ∀o∈l,an o.uP 2=true->2<=o.gE.length)(N:sH l ov p a b s)(go:o.Al)(y:o.gE.length<=900000):aq Q 143 [.ptr p 0,o.val] s (.bool (pU l o)) s:=by
 have u:=go.all;have j:=go.gE.lenS co;refine aq.ofNZ am7 (bT ?_);simp only[go_sem,seval,Obj.val,Obj.cells,u,j];refine avH z d w N go y ?_ ?_ o.gE [] _ _ rfl rfl ?_ ?_ ?_ ?_ ?_ ?_ ?_;intro c e lc;simp only[go_sem,seval,c];intro c e lc B;simp only[go_sem,seval,B,c]
 all_goals simp_all [iV,gw,gI,Obj.cells]
def axI{l:List Obj}(c:fS o=true)(d:an o.uP 2=true):2<=o.gE.length:=by
 have d:o.uP=2:=by simpa[an] using d
 unfold fS at c;cases hb:nX o with
 |true=>rw[hb] at c;cases c
 |false=>
  simp only[nX,vE,decide_eq_false_iff_not] at hb;have h:=hb.1.2;rw[d] at h;have j:tB 2=2:=by decide
  omega
def alZ(lc:Ag.Loc)(m o:Nat)(i:aa):ii ah lc 196 (.ptr m o) i=(dr i).bind fun i=>bif bh i 2 then some (.ptr m (o+i*1)) else none:=by kernel_rfl
def Nm(lc:Ag.Loc)(m o:Nat)(i:aa):ii ah lc 306 (.ptr m o) i=(dr i).bind fun i=>bif bh i 2 then some (.ptr m (o+i*1)) else none:=by kernel_rfl
def aq2(U:No Q 145)(j:Q.spec 130=some pm)(hg: ∀o∈l,o.Al)(M:(l.map Obj.id).Nodup)(hw: ∀o∈l,an o.uP 2=true->2<=o.gE.length)(O: ∀o∈l,o.gE.length<=900000)(N:sH l ov p a b s)(C:s.gt<=s.aL)(go:o.Al)(hr:o.gE.length=3):aq Q 145 [.ptr p 0,o.val] s (.bool (zf l o)) s:=by
 have V:=go.all;obtain⟨I,m,H,d⟩: ∃x y z,o.gE=[x,y,z]:=by
  match h:o.gE,hr with
  | [x,y,z],_=>exact⟨x,y,z,rfl⟩
 have i0: ∀lc,ii ah lc 25 o.refsV (ag 0)=some (.ro [.str I]):=fun lc=>go.gE.at co.2.2.1 (i:=0) (by rw[d];rfl) lc .i64;have i1: ∀lc,ii ah lc 25 o.refsV (ag 1)=some (.ro [.str m]):=fun lc=>go.gE.at co.2.2.1 (i:=1) (by rw[d];rfl) lc .i64;have i2: ∀lc,ii ah lc 25 o.refsV (ag 2)=some (.ro [.str H]):=fun lc=>go.gE.at co.2.2.1 (i:=2) (by rw[d];rfl) lc .i64;have B:=N.hp;have u: ∀k, ∃v r,(cu k (mN l l)).getD .AL=v/\(i9 l k).getD []=r/\ax 1 aA v r/\r.length<=1000000:=fun k=>by
  rcases RM M hg hw k with⟨c,R⟩|⟨rr,c,R,v,w3,w4,w5⟩
  exact⟨.AL,[],R,by rw[c];rfl,.inl ⟨rfl,rfl⟩,by simp⟩;refine⟨v,rr,w3,by rw[c];rfl,w4,?_⟩;unfold i9 at c;cases e:cj k l with
  |none=>rw[e] at c;cases c
  |some q=>
   rw[e] at c;simp only[bg] at c;obtain⟨_,c⟩:=aY c;injection c with c;subst c
   have:=O q (mB e).1;omega
 obtain⟨v0,Y,a0,b0,c0,d0⟩:=u I;obtain⟨v2,q2,a2,b2,c2,d2⟩:=u H;have J:=qC im CE tW (s:=s.top) N.mb I;have Z:=qC im CE tW (s:=s.top) N.mb H;rw[a0] at J;rw[a2] at Z;have w:=c0.ge;have F:=c2.ge;have s0:=Mi c0 d0 m;have s2:=Mi c2 d2 m;have ht:zf l o=(Y.contains m&&q2.contains m):=by
  unfold zf;rw[d];simp only[List.getD_cons_zero,List.getD_cons_succ,b0,b2]
 refine aq.ofNZ anb (bT ?_);cases e0:Y.contains m with
 |false=>
  rw[e0] at s0;simp only[go_sem,seval,Obj.val,Obj.cells,V,C,B,aP,aQ,xh,i0,i1,J,w,j,s0,ht,e0]
 |true=>
  rw[e0] at s0;simp only[go_sem,seval,Obj.val,Obj.cells,V,C,B,aP,aQ,xh,i0,i1,i2,J,Z,w,F,j,s0,s2,ht,e0]
variable{bo:Nat}
def abL(j:No Q 238){m:Nat}{x y:Bool}{d c:ae}(z:s.get [] bo=some (.cells [.bool x,.bool y]))(B:s.get [] m=some (.cells [.str d,.str c]))(k:ae):aq Q 238 [.str k,.ptr bo 0,.ptr m 0] s (.bool ((x&&d==k)||(y&&c==k))) s:=by
 have w:dr (ag 0)=some 0:=rfl;have u:dr (ag 1)=some 1:=rfl;refine aq.ofNZ aok (bT ?_);cases x<;>cases y<;>cases h1:d==k<;>cases h2:c==k<;>
  simp only[go_sem,seval,z,B,aP,aQ,w,u,Nm,alZ,h1,h2,Bool.or_self]
def mh(l:List Obj)(r:ae):ae×ae:=z8 ((i9 l r).getD [])
def mJ(l:List Obj)(c:List ae):ae×ae×Bool×Bool:=match c.map (mh l) with
 | []=>([],[],true,true)
 |e::r=>r.foldl A5 (e.1,e.2,true,true)
def av3(l:List Obj){c:List ae}(r:ae)(h:c≠ []):mJ l (c++[r])=A5 (mJ l c) (mh l r):=by
 cases c with
 |nil=>exact absurd rfl h
 |cons x c=>
  unfold mJ;simp only[List.cons_append,eA,eE,t8,List.foldl_append,t5,List.foldl_nil]
def ahu(l:List Obj)(o:Obj):x5 l o=((mJ l o.gE).2.2.1||(mJ l o.gE).2.2.2):=by
 have e:(o.gE.map fun r=>z8 ((i9 l r).getD []))=o.gE.map (mh l):=rfl;unfold x5 mJ;rw[e];cases o.gE.map (mh l) with
 |nil=>rfl
 |cons x r=>rfl
def axK{r:List ae}(h:2<=r.length):r[0]? =some (z8 r).1/\r[r.length-1]? =some (z8 r).2:=by
 cases r with
 |nil=>simp at h
 |cons x r=>
  refine⟨rfl,?_⟩;unfold z8;rw[<-List.getLast?_eq_getElem?];simp[List.getLast?_cons]
def ahv(O:No Q 238)(hg: ∀o∈l,o.Al)(a7:(l.map Obj.id).Nodup)(hw: ∀o∈l,an o.uP 2=true->2<=o.gE.length)(a9: ∀o∈l,o.gE.length<=900000){s0:St}(N:sH l ov p a b s0)(pl:p<lo)(al:a<lo)(bl:b<lo)(go:o.Al)(hr:o.gE.length<=900000)(hs: ∀r∈o.gE,(i9 l r).isSome=true)(hx: ∀e lc s,ac e 6= .ptr (lo+1) 0->s.get [] (lo+1)=some (.cells [.bool (mJ l o.gE).2.2.1,.bool (mJ l o.gE).2.2.2])->(∀k,k<lo->s.get [] k=s0.get [] k)->s.aL=lo+2->s.gt<=s.aL->K (.exit 0) ⟨e,60,lc⟩ s):
 ∀(m c:List ae) (e:aw) (lc:Ag.Loc) (s:St),o.gE=c++m->s.get [] lo=some (.cells [.str (mJ l c).1,.str (mJ l c).2.1])->s.get [] (lo+1)=some (.cells [.bool (mJ l c).2.2.1,.bool (mJ l c).2.2.2])->(∀k,k<lo->s.get [] k=s0.get [] k)->s.aL=lo+2->s.gt<=s.aL->ac e 0= .ptr p 0->ac e 5= .ptr lo 0->ac e 6= .ptr (lo+1) 0->ac e 15=o.refsV->ac e 16=aM o.gE.length->ac e 17=aM c.length->W Q 144 (.loop HZ) ⟨e,60,lc⟩ s K:=by
 intro m
 induction m with
 |nil=>
  intro c e lc s h1 I d B hn z r0 Z Y J F C;have b0:c.length=o.gE.length:=by rw[h1];simp
  have a6:c=o.gE:=by rw[h1];simp
  refine bq ?_;simp only[go_sem,seval,HZ,F,C,b0,cq];rw[a6] at d;exact hx _ _ _ (by simp only[sN,seval,Y]) d B hn z
 |cons r m ih=>
  intro c e lc s h1 I d B hn z r0 Z Y J F C;have a3:c.length<o.gE.length:=by rw[h1];simp
  have a5:o.gE[c.length]? =some r:=by rw[h1];simp
  have a4:=fun lc k=>go.gE.at co.2.2.1 a5 lc k;have a0:=dg (n:=c.length) (by omega);have a1:=hs r (dB a5);obtain⟨rr,H,w2,v,w3,w4,w5⟩:=(RM a7 hg hw r).resolve_left fun h=>by rw[h.1] at a1;cases a1
  have b2:rr.length<=900000:=by
   unfold i9 at H;cases e:cj r l with
   |none=>rw[e] at H;cases H
   |some q=>
    rw[e] at H;simp only[bg] at H;obtain⟨_,H⟩:=aY H;injection H with H;subst H
    exact a9 q (mB e).1
  have he:mh l r=z8 rr:=by unfold mh;rw[H];rfl
  obtain⟨f0,f1⟩:=axK w2;rw[<-he] at f0 f1;have i0: ∀lc,ii ah lc 25 v (ag 0)=some (.ro [.str (mh l r).1]):=fun lc=>w4.at co.2.2.1 (i:=0) f0 lc .i64;have i1: ∀lc,ii ah lc 25 v (ag ((rr.length-1:Nat):Int))=some (.ro [.str (mh l r).2]):=fun lc=>w4.at co.2.2.1 f1 lc .i64;have R:IntKind.i64.wrap (((rr.length:Nat):Int)-1)=((rr.length-1:Nat):Int):=by rw[jE (by omega) (by omega)];omega
  have U:=w4.lenS co;have vc:=w4.ge;have a2:=(B p pl).trans N.hp;have a8:bJ aa.str s b (mN l l):=(B b bl).trans N.mb;have V:=qC im CE tW a8 r;rw[w3] at V;cases hz:an ((c.length:Nat):Int) 0 with
  |true=>
   have M:c=[]:=by
    have:((c.length:Nat):Int)=0:=by simpa[an] using hz
    exact tZ (by omega)
   obtain⟨u,y⟩:=bZ (s.put lo (some (.cells [.str (mh l r).1,.str (mh l r).2])));refine bq ?_;simp only[go_sem,seval,HZ,aA,r0,J,F,C,a3,a4,a2,aP,aQ,V,vc,z,i0,i1,U,R,hz,bj,bc,aX,aZ,evc];simp only[go_sem,seval,Z,C,a0,I,cO,cS,y,bj,bc,aX,aZ,evc];have e1:mJ l (c++[r])=((mh l r).1,(mh l r).2,true,true):=by rw[M];rfl
   refine ih (c++[r]) _ _ u (by rw[h1];simp) ?_ ?_ (fun k hk=>?_) ?_ ?_ ?_ ?_ ?_ ?_ ?_ ?_;rw[e1,<-y,aR,bS];rfl;rw[e1,<-y,aR,bN.2 (by omega:lo+1≠lo)];rw[M] at d;exact d;rw[<-y,aR,bN.2 (by omega:k≠lo)];exact B k hk;rw[<-y];exact hn;rw[<-y];exact cR s lo _ z
   all_goals simp only[sN,seval,r0,Z,Y,J,F,sA]
  |false=>
   have M:c≠ []:=fun e=>by rw[e] at hz;cases hz
   have c1:=abL O (s:=s) d I (mh l r).2;have c2:=abL O (s:=s) d I (mh l r).1;obtain⟨u,y⟩:=bZ (s.put lo (some (.cells [.str (mh l r).1,.str (mh l r).2])));have b1:u.get [] (lo+1)=some (.cells [.bool (mJ l c).2.2.1,.bool (mJ l c).2.2.2]):=by rw[<-y,aR,bN.2 (by omega:lo+1≠lo)];exact d
   obtain⟨w,j⟩: ∃w,u.put (lo+1) (some (.cells [.bool (A5 (mJ l c) (mh l r)).2.2.1,.bool (A5 (mJ l c) (mh l r)).2.2.2]))=w:=⟨_,rfl⟩;simp only[A5] at j;refine bq ?_;simp only[go_sem,seval,HZ,aA,r0,J,F,C,a3,a4,a2,aP,aQ,V,vc,z,i0,i1,U,R,hz,bj,bc,aX,aZ,evc];simp only[go_sem,seval,Z,Y,pD,bj,bc,aX,aZ,evc];refine ct.of c1 (by decide) ?_;simp only[go_sem,seval,Z,Y];refine ct.of c2 (by decide) ?_;simp only[go_sem,seval,Z,Y,C,a0,I,b1,cO,cS,y,j,bj,bc,aX,aZ,evc];have e1:=av3 l r M;refine ih (c++[r]) _ _ w (by rw[h1];simp) ?_ ?_ (fun k hk=>?_) ?_ ?_ ?_ ?_ ?_ ?_ ?_ ?_;rw[e1,<-j,aR,bN.2 (by omega:lo≠lo+1),<-y,cF,aR,bS];rfl;rw[e1,<-j,aR,bS];rfl;rw[<-j,aR,bN.2 (by omega:k≠lo+1),<-y,cF,aR,bN.2 (by omega:k≠lo)];exact B k hk;rw[<-j,<-y];exact hn;rw[<-j,<-y];exact cR _ _ _ (cR s lo _ z)
   all_goals simp only[sN,seval,r0,Z,Y,J,F,sA]
def aht(M:No Q 144)(d:No Q 238)(hg: ∀o∈l,o.Al)(B:(l.map Obj.id).Nodup)(hw: ∀o∈l,an o.uP 2=true->2<=o.gE.length)(F: ∀o∈l,o.gE.length<=900000)(N:sH l ov p a b s)(pl:p<s.aL)(al:a<s.aL)(bl:b<s.aL)(C:s.gt<=s.aL)(go:o.Al)(hr:o.gE.length<=900000)(hs: ∀r∈o.gE,(i9 l r).isSome=true):
 ∃v s',aq Q 144 [.ptr p 0,o.val] s v s'/\(v= .bool (x5 l o)/\(∀k,k<s.aL->s'.get [] k=s.get [] k)/\s.aL<=s'.aL/\s'.gt<=s'.aL):=by
 have rc:=go.all;have H:=go.gE.lenS co;have R:dr (ag 0)=some 0:=rfl;have O:dr (ag 1)=some 1:=rfl;obtain⟨z,j⟩:=bZ (s.new (.cells [.str [],.str []]));have J:z.aL=s.aL+1:=by rw[<-j];rfl
 obtain⟨y,c⟩:=bZ ((z.new (.cells [.bool false,.bool false])).put (s.aL+1) (some (.cells [.bool true,.bool true])));have I:(z.new (.cells [.bool false,.bool false])).get [] (s.aL+1)=some (.cells [.bool false,.bool false]):=by rw[<-J];exact cG
 have Y:y.aL=s.aL+2:=by rw[<-c];show z.aL+1=_;omega
 have y1:y.get [] (s.aL+1)=some (.cells [.bool true,.bool true]):=by rw[<-c,aR,bS];rfl
 have y0:y.get [] s.aL=some (.cells [.str [],.str []]):=by rw[<-c,aR,bN.2 (by omega:s.aL≠s.aL+1),cF,ck (by omega),<-j];exact cG
 have V: ∀k,k<s.aL->y.get [] k=s.get [] k:=fun k hk=>by rw[<-c,aR,bN.2 (by omega:k≠s.aL+1),cF,ck (by omega),<-j,ck hk]
 have Z:y.gt<=y.aL:=by
  rw[<-c,<-j];exact cR _ _ _ (bU (bU C))
 refine aq.ofNRZ am9 (bT ?_);simp only[go_sem,seval,Obj.val,Obj.cells,rc,H,j,J,cO,I,cS,c,bj,bc,aX,aZ,evc];refine ahv d hg B hw F (lo:=s.aL) (s0:=s) N pl al bl go hr hs ?_ o.gE [] _ _ y rfl y0 y1 V Y Z ?_ ?_ ?_ ?_ ?_ ?_;intro e lc s1 U w u a0 m;rw[ahu];cases e1:(mJ l o.gE).2.2.1 with
 |true=>
  rw[e1] at w;simp only[go_sem,seval,U,w,aP,aQ,R,O,Nm];exact⟨_,rfl,rfl,u,by omega,m⟩
 |false=>
  rw[e1] at w;simp only[go_sem,seval,U,w,aP,aQ,R,O,Nm];exact⟨_,rfl,rfl,u,by omega,m⟩
 all_goals simp only[aW,nQ,ai,bG,cV]
 all_goals rfl
def aac: ∀(l:List Obj) (last:ae),nh last l=true-> ∀q∈l,fS q=true
 | [],_,_,q,h=>by cases h
 |o::r,last,h,q,c=>by
  simp only[nh] at h;cases hb:(!fS o||Ag.leBytes o.id last) with
  |true=>rw[hb] at h;cases h
  |false=>
   rw[hb] at h;rcases dl.1 c with rfl|c
   simp only[vE,Bool.not_eq_false'] at hb;exact hb.1;exact aac r o.id h q c
def Zt(h:cZ l=true)(c:o∈l):fS o=true:=by
 simp only[cZ,bm] at h;exact aac l [] h.1 o c
def awT(c:fS o=true)(j:an o.uP 5=true):o.gE.length=3:=by
 have d:o.uP=5:=by simpa[an] using j
 unfold fS at c;cases hb:nX o with
 |true=>rw[hb] at c;cases c
 |false=>
  rw[hb] at c;cases ha:o9 o.uP [] [] o.gE with
  |true=>rw[ha] at c;cases c
  |false=>
   have m:an o.uP 1=false:=by rw[d];rfl
   rw[ha,m,j] at c;simp only[cF,cT,bm] at c;exact eq_of_beq c.1
def lI(l:List Obj)(o:Obj):Bool:=an o.uP 4&&(pU l o&& !x5 l o)
def kx(l:List Obj)(o:Obj):Bool:=an o.uP 5&&(pU l o&& !zf l o)
def ZR(l:List Obj):List aa:=(l.filter (lI l)).map (fun o=>eL 5 [o.id])++(l.filter (kx l)).map (fun o=>eL 6 [o.id])
def Gl(l:List Obj):aa:=io 3 (ZR l)
structure sP (lo:Nat) (s:St) (ov cv:aa) (xs ys:List aa):Prop where
 l:cP 3 lo s ov xs
 r:cP 3 lo s cv ys
 ne: ∀k,ov= .list 3 xs (.own k)->cv= .list 3 ys (.own k)->False
variable{ys:List aa}{cv:aa}
def sP.swap(h:sP lo s ov cv xs ys):sP lo s cv ov ys xs:=⟨h.r,h.l,fun k a b=>h.ne k b a⟩
def sP.left(h:sP lo s ov cv xs ys)(B:s.gt<=s.aL)(m:lo<=s.aL)(w:xs.length<=900000)(x:aa):
 ∃c s',fB ah [] 35 ov (.list 3 [x] .GE) false s=some (c,s')/\sP lo s' c cv (xs++[x]) ys/\c.cells=[c]/\s.aL<=s'.aL/\s'.gt<=s'.aL/\ ∀n,n<lo->s'.get [] n=s.get [] n:=by
 obtain⟨s',R,O,Z,Y,M,z⟩:=TD jn.1 rfl (by decide) (y:=.list 3 [x] .GE) (ys:=[x]) h.l (by simp only[fH,em]) (by simp) (by rw[List.length_singleton];omega) B;refine⟨_,s',R,⟨.inr ⟨by simp,s.aL,rfl,O,m,by omega⟩,?_,fun k d j=>?_⟩,rfl,by omega,M,fun n V=>z n (by omega) fun k C=>by have:=(h.l.token C).1;omega⟩;rcases h.r with J|⟨d,k,j,I,H,F⟩
 exact .inl J;refine .inr ⟨d,k,j,(z k F fun U u e=>?_).trans I,H,by omega⟩;subst e;exact h.ne k u j;injection d with _ _ d;injection d with d
 have:=(h.r.token j).2.1;omega
def sP.keep(h:sP lo s ov cv xs ys)(y: ∀k,k<s.aL->s'.get [] k=s.get [] k)(z:s.aL<=s'.aL):sP lo s' ov cv xs ys:=by
 refine⟨?_,?_,h.ne⟩;rcases h.l with w|⟨u,k,m,j,d,c⟩
 exact .inl w;exact .inr ⟨u,k,m,(y k c).trans j,d,by omega⟩;rcases h.r with w|⟨u,k,m,j,d,c⟩
 exact .inl w;exact .inr ⟨u,k,m,(y k c).trans j,d,by omega⟩
def apU{a b c:Int}(h:an a b=true)(d:b≠c):an a c=false:=by
 have h:a=b:=by simpa[an] using h
 subst h;exact bN.2 d
def arK(c3:No Q 143)(b8:No Q 144)(b1:No Q 238)(b2:No Q 145)(c9:Q.spec 130=some pm)(ho:ax 6 Obj.val ov l)(hg: ∀o∈l,o.Al)(hl:l.length<=900000)(O: ∀o∈l,o.gE.length<=900000)(hv:cZ l=true){s0:St}(N:sH l ov p a b s0)(pl:p<lo)(al:a<lo)(bl:b<lo)(hx: ∀e lc s rv tv,sP lo s rv tv ((l.filter (lI l)).map fun o=>eL 5 [o.id]) ((l.filter (kx l)).map fun o=>eL 6 [o.id])->lo<=s.aL->s.gt<=s.aL->ac e 5=rv->ac e 6=tv->K (.exit 0) ⟨e,73,lc⟩ s):
 ∀(z c:List Obj) (e:aw) (lc:Ag.Loc) (s:St) (rv tv:aa),l=c++z->sP lo s rv tv ((c.filter (lI l)).map fun o=>eL 5 [o.id]) ((c.filter (kx l)).map fun o=>eL 6 [o.id])->(∀k,k<lo->s.get [] k=s0.get [] k)->lo<=s.aL->s.gt<=s.aL->ac e 3= .ptr p 0->ac e 5=rv->ac e 6=tv->ac e 19=ov->ac e 20=aM l.length->ac e 21=aM c.length->W Q 61 (.loop yA) ⟨e,73,lc⟩ s K:=by
 have a7:=qA hv;have hw: ∀o∈l,an o.uP 2=true->2<=o.gE.length:=fun o ho R=>axI (l:=l) (Zt hv ho) R;intro z
 induction z with
 |nil=>
  intro c e lc s rv tv V T F a9 w u J I m j d;have d7:c.length=l.length:=by rw[V];simp
  have d4:c=l:=by rw[V];simp
  refine bq ?_;simp only[go_sem,seval,yA,j,d,d7,cq];rw[d4] at T;exact hx _ _ _ rv tv T a9 w (by simp only[sN,seval,J]) (by simp only[sN,seval,I])
 |cons o z ih=>
  intro c e lc s rv tv V T F a9 w u J I m j d;have a8:c.length<l.length:=by rw[V];simp
  have c8:l[c.length]? =some o:=by rw[V];simp
  have M:=dB c8;have go:=hg o M;have rc:=go.all;have b0:=fun lc k=>ho.at fD.2.2.1 c8 lc k;have y:=dg (n:=c.length) (by omega);have Ns:sH l ov p a b s:=N.mono F pl al bl;have H:=av0 c3 hg a7 hw Ns go (O o M);have c5:=T.l.ge;have c4:=T.r.ge;have lr:((c.filter (lI l)).map fun o=>eL 5 [o.id]).length<=900000:=by
   rw[bP];have:=kE (lI l) c;omega
  have lt:((c.filter (kx l)).map fun o=>eL 6 [o.id]).length<=900000:=by
   rw[bP];have:=kE (kx l) c;omega
  have fin: ∀(U:aw) (a0:Ag.Loc) (s':St),lI l o=false->kx l o=false->(∀k,k<s.aL->s'.get [] k=s.get [] k)->s.aL<=s'.aL->s'.gt<=s'.aL->ac U 3= .ptr p 0->ac U 5=rv->ac U 6=tv->ac U 19=ov->ac U 20=aM l.length->ac U 21=ag ((c.length+1:Nat):Int)->W Q 61 (.loop yA) ⟨U,73,a0⟩ s' K:=fun U a0 s' C B c7 d5 d6 g3 g5 g6 e2 e1 e0=>
   ih (c++[o]) U a0 s' rv tv (by rw[V];simp) (by rw[pn C,pn B];exact T.keep c7 d5) (fun k R=>(c7 k (by omega)).trans (F k R)) (by omega) d6 g3 g5 g6 e2 e1 (by rw[e0];simp)
  simp only[Obj.val,Obj.cells] at H;cases h4:an o.uP 4 with
  |true=>
   have k5:=apU h4 (by decide:(4:Int)≠5);have B:kx l o=false:=by unfold kx;rw[k5];rfl
   refine bq ?_;simp only[go_sem,seval,yA,u,m,j,d,a8,b0,h4,Obj.val,Obj.cells,rc];refine ct.of H (by decide) ?_;cases hs:pU l o with
   |false=>
    have C:lI l o=false:=by unfold lI;rw[hs,dA,gh]
    simp only[go_sem,seval,u,d,y,k5];refine fin _ _ s C B (fun _ _=>rfl) (bk _) w ?_ ?_ ?_ ?_ ?_ ?_
    all_goals simp only[sN,seval,u,J,I,m,j]
   |true=>
    have d2: ∀r∈o.gE,(i9 l r).isSome=true:=fun r hr=>by
     obtain⟨i,hi⟩:=t7 hr;have hm:(i,r)∈(gV o.gE.length).zip o.gE:=by
      refine dB (i:=i) ?_;rw[Ks];refine⟨?_,hi⟩;rw[List.getElem?_range];exact(nF.1 hi).1
     unfold pU at hs
     have:=fu.1 hs _ hm;simp only[k5,dA,cF] at this;exact this
    have Z:=aht b8 b1 hg a7 hw O Ns (by omega) (by omega) (by omega) w go (O o M) d2;simp only[Obj.val,Obj.cells] at Z;simp only[go_sem,seval,u,rc];refine ct.ex Z (by decide) ?_;rintro v s1 ⟨rfl,o1,c6,m1⟩;cases hc:x5 l o with
    |true=>
     have C:lI l o=false:=by unfold lI;rw[hc,jp,gh,gh]
     simp only[go_sem,seval,u,d,y,k5];refine fin _ _ s1 C B o1 c6 m1 ?_ ?_ ?_ ?_ ?_ ?_
     all_goals simp only[sN,seval,u,J,I,m,j]
    |false=>
     have C:lI l o=true:=by unfold lI;rw[h4,hs,hc];rfl
     obtain⟨d1,s2,a1,a2,a3,a4,a5,a6⟩:=(T.keep o1 c6).left m1 (by omega) lr (eL 5 [o.id]);have e4:=a2.l.ge;simp only[eL,eA,t8,aA] at a1;simp only[go_sem,seval,aA,u,J,c5,bj,bc,aX,aZ,evc];simp only[go_sem,seval,aA,J,d,y,c5,a1,a3,bj,bc,aX,aZ,evc];refine ih (c++[o]) _ _ s2 d1 tv (by rw[V];simp) (by rw[uJ C,pn B,eE];exact a2) (fun k R=>(a6 k R).trans ((o1 k (by omega)).trans (F k R))) (by omega) a5 ?_ ?_ ?_ ?_ ?_ ?_
     all_goals simp only[sN,seval,u,I,m,j,sA]
  |false=>
   have C:lI l o=false:=by unfold lI;rw[h4];rfl
   cases h5':an o.uP 5 with
   |false=>
    have B:kx l o=false:=by unfold kx;rw[h5'];rfl
    refine bq ?_;simp only[go_sem,seval,yA,u,m,j,d,a8,b0,h4,Obj.val,Obj.cells,rc];simp only[go_sem,seval,yA,u,d,y,h5'];refine fin _ _ s C B (fun _ _=>rfl) (bk _) w ?_ ?_ ?_ ?_ ?_ ?_
    all_goals simp only[sN,seval,u,J,I,m,j]
   |true=>
    have Y:=aq2 b2 c9 hg a7 hw O Ns w go (awT (Zt hv M) h5');simp only[Obj.val,Obj.cells] at Y;refine bq ?_;simp only[go_sem,seval,yA,u,m,j,d,a8,b0,h4,Obj.val,Obj.cells,rc];simp only[go_sem,seval,yA,u,h5',rc];refine ct.of H (by decide) ?_;cases hs:pU l o with
    |false=>
     have B:kx l o=false:=by unfold kx;rw[hs,dA,gh]
     simp only[go_sem,seval,u,d,y];refine fin _ _ s C B (fun _ _=>rfl) (bk _) w ?_ ?_ ?_ ?_ ?_ ?_
     all_goals simp only[sN,seval,u,J,I,m,j]
    |true=>
     simp only[go_sem,seval,u,rc];refine ct.of Y (by decide) ?_;cases ht:zf l o with
     |true=>
      have B:kx l o=false:=by unfold kx;rw[ht,jp,gh,gh]
      simp only[go_sem,seval,u,d,y];refine fin _ _ s C B (fun _ _=>rfl) (bk _) w ?_ ?_ ?_ ?_ ?_ ?_
      all_goals simp only[sN,seval,u,J,I,m,j]
     |false=>
      have B:kx l o=true:=by unfold kx;rw[h5',hs,ht];rfl
      obtain⟨d0,s2,a1,a2,a3,a4,a5,a6⟩:=T.swap.left w a9 lt (eL 6 [o.id]);have e3:=a2.l.ge;simp only[eL,eA,t8,aA] at a1;simp only[go_sem,seval,aA,u,I,c4,bj,bc,aX,aZ,evc];simp only[go_sem,seval,aA,I,d,y,c4,a1,a3,bj,bc,aX,aZ,evc];refine ih (c++[o]) _ _ s2 rv d0 (by rw[V];simp) (by rw[pn C,uJ B,eE];exact a2.swap) (fun k R=>(a6 k R).trans (F k R)) (by omega) a5 ?_ ?_ ?_ ?_ ?_ ?_
      all_goals simp only[sN,seval,u,J,m,j,sA]
def agK(a0:Q.spec 31=some jh)(j:No Q 261)(w:No Q 167)(u:No Q 237)(F:No Q 142)(C:No Q 143)(B:No Q 144)(m:No Q 238)(z:No Q 145)(I:Q.spec 130=some pm)(a9:No Q 61)(d:ax 6 Obj.val ov l)(hg: ∀o∈l,o.Al)(hl:l.length<=900)(hr: ∀o∈l,o.gE.length<=999)(c:cZ l=true)(hm:s.gt<=s.aL):
 ∃v s',aq Q 61 [.agg [ov]] s v s'/\gm s'.heap v (Gl l):=by
 have H:=d.cs;have Z:=d.lenS fD;refine aq.ofNRZ apx (bT ?_);simp only[go_sem,seval,H,bj,bc,aX,aZ,evc];refine ct.ex (asc a0 j w u F d hg (by omega) (fun o d=>by have:=hr o d;omega) c hm) (by decide) ?_;rintro v M ⟨rfl,N,a8,n1,m1⟩;have U:=N.hp;simp only[go_sem,seval,ew,U,aP,aQ,H,Z];refine arK C B m z I d hg (by omega) (fun o d=>by have:=hr o d;omega) c (lo:=M.aL) (s0:=M) N (by omega) (by omega) (by omega) ?_ l [] _ _ M .AL .AL rfl ⟨.inl ⟨rfl,rfl⟩,.inl ⟨rfl,rfl⟩,fun k h=>(by cases h)⟩ (fun _ _=>rfl) (bk _) m1 ?_ ?_ ?_ ?_ ?_ ?_;intro e lc s2 rv tv T Y V h5 h6;have O:=T.l.ge;have J:=T.r.ge;have he:em [] true 3 tv s2=some ((l.filter (kx l)).map fun o=>eL 6 [o.id]):=by
  rcases T.r with⟨e1,e2⟩|⟨_,k,e1,_⟩
  rw[e1,e2];rfl;rw[e1];simp only[fH,em]
 have hb:=kE (lI l) l;have b1:=kE (kx l) l;obtain⟨b0,s3,a1,a2,a3,a4,a5,a6,a7⟩:=D2 (t:=35) jn.1 rfl (by decide) (s:=s2) (y:=tv) T.l he (by rw[bP,bP];omega) Y V;have R:=a2.ge;simp only[go_sem,seval,h5,h6,O,J,a1,a7,R];refine⟨_,rfl,4,B7 a2 fun v c=>?_⟩;rcases jb.1 c with c|c
 obtain⟨i,_,rfl⟩:=cx.1 c;exact Et _ _ _;obtain⟨i,_,rfl⟩:=cx.1 c;exact Et _ _ _
 all_goals simp only[aW,nQ,ai,bG,cV]
 all_goals rfl
def SR:dp:=[(31,jh),(130,pm)]
def aeq:du SR:=.cons wI (.cons Vc .nil)
def CP:Sp
 | [v]=>(lG v).bind fun l=>bif mp l then some (Gl l) else none
 |_=>none
def arI:cQ ah 61 CP:=by
 intro args u c G h w xs B F;unfold CP at c;split at c;simp only[aj] at c;obtain⟨l,y,c⟩:=c;obtain⟨d,c⟩:=aY c;have c:=sI c;subst c;obtain⟨v,rfl,y,z,J⟩:=rj y;obtain⟨H,C,j,m⟩:=qK y z;have j:dz [.agg [v]]=[.agg [C]]:=by simp only[dz,j]
 have d:=oM.1 d;refine jo aeq (W:=[]) .nil (args:=[.agg [v]]) (by simp only[ei,H,bW]) (fun I=>?_) G h w xs B F;rw[j];exact agK (Q:=QW SR [] I) rfl ⟨rfl,rfl⟩ ⟨rfl,rfl⟩ ⟨rfl,rfl⟩ ⟨rfl,rfl⟩ ⟨rfl,rfl⟩ ⟨rfl,rfl⟩ ⟨rfl,rfl⟩ ⟨rfl,rfl⟩ rfl ⟨rfl,rfl⟩ m z d.len d.gE d.valid (by decide);cases c
def aG.cells(x:aG):List aa:=[.bool x.strict,.str x.area,ag x.uP,.str x.ifK,.str x.ifV,ag x.op,.str x.key,x.valuesV]
def aG.val(x:aG):aa:=.agg x.cells
structure aG.Ok (x:aG):Prop where
 vals:ax 1 aA x.valuesV x.values
 pv:bH x.valuesV=true
 area:x.area.length<small
 key:x.key.length<small
 ifK:x.ifK.length<small
 len:x.values.length<=1000000
def yg:Option ae->aa
 |some v=>.tup [.str v,.bool true]
 |none=>.tup [.str [],.bool false]
def mq:Sp
 | [v,.str k]=>(ek 2 ur v).bind fun l=>bif decide (l.length<=1000000) then some (yg (gz k l)) else none
 |_=>none
variable{l:List fO}
def Nd(h:ax 2 ki v l)(c:l.length<=1000000)(k:ae):mq [v,.str k]=some (yg (gz k l)):=by
 simp only[dW,mq,pA Lu h,c,dT]
variable{tv:aa}
def ajG(O:ax 2 ki tv l)(U:l.length<=1000000)(M: ∀e lc,gz k l=none->K (.exit 0) ⟨e,21,lc⟩ s)(R: ∀e lc v,gz k l=some v->ac e 4= .str v->ac e 5= .bool true->K .ret ⟨e,21,lc⟩ s):
 ∀(d c:List fO) (e:aw) (lc:Ag.Loc),l=c++d->gz k l=gz k d->ac e 1= .str k->ac e 8=tv->ac e 9=aM l.length->ac e 10=aM c.length->W Q 214 (.loop H8) ⟨e,21,lc⟩ s K:=by
 intro d
 induction d with
 |nil=>
  intro c e lc y C z B w j;have H:c.length=l.length:=by rw[y];simp
  refine bq ?_;simp only[go_sem,seval,H8,w,j,H,cq];exact M _ _ C
 |cons t d J=>
  intro c e lc y C z B w j;have m:c.length<l.length:=by rw[y];simp
  have I:l[c.length]? =some t:=by rw[y];simp
  have u:=fun lc k=>O.at sk.2.2.1 I lc k;have F:=dg (n:=c.length) (by omega);refine bq ?_;cases hd:t.1==k with
  |true=>
   simp only[go_sem,seval,H8,ki,z,B,w,j,m,u,hd];refine R _ _ t.2 (by rw[C];simp only[gz,hd,cT]) ?_ ?_
   all_goals simp only[sN,seval]
  |false=>
   simp only[go_sem,seval,H8,ki,z,B,w,j,m,u,hd,F];refine J (c++[t]) _ _ (by rw[y];simp) (by rw[C];simp only[gz,hd,cF]) ?_ ?_ ?_ ?_
   all_goals simp only[sN,seval,z,B,w,sA]
def ajF(w:No Q 214)(d:ax 2 ki tv l)(y:l.length<=1000000)(k:ae)(s:St):aq Q 214 [tv,.str k] s (yg (gz k l)) s:=by
 have m:=d.lenS sk;have u:=d.ge;have c: ∃v s',aq Q 214 [tv,.str k] s v s'/\(v=yg (gz k l)/\s'=s):=by
  refine aq.ofNRZ anv (bT ?_);simp only[go_sem,seval,m,u];refine ajG d y (k:=k) ?_ ?_ l [] _ _ rfl rfl ?_ ?_ ?_ ?_;intro e lc j;simp only[go_sem,seval,j];exact⟨_,rfl,rfl⟩;intro e lc v j B z;simp only[go_sem,seval,j,B,z];exact⟨_,rfl,rfl⟩
  all_goals simp only[sN,seval,cV]
  all_goals rfl
 obtain⟨v,s',h,rfl,rfl⟩:=c;exact h
def adl(j:No Q 403)(v:ae)(s:St):aq Q 403 [.str v] s (.bool (tq v)) s:=by
 refine aq.ofNZ ao5 (bT ?_);have c:bV ((v.length:Nat):Int) 200=decide (v.length<=200):=by
  unfold bV;by_cases h:v.length<=200;rw[dQ h,dQ];omega;rw[dN h,dN];omega
 cases hz:v== [] with
 |true=>
  have d:tq v=false:=by unfold tq;rw[hz];rfl
  simp only[go_sem,seval,hz,d]
 |false=>
  have d:tq v=decide (v.length<=200):=by unfold tq;rw[hz];rfl
  simp only[go_sem,seval,hz,d,c,uW]
def arV(c:No Q 403)(d:No Q 404)(v:ae)(s:St):aq Q 404 [.str v] s (.bool (!tq v)) s:=by
 refine aq.ofNZ ao6 (bT ?_);simp only[go_sem,seval];refine ct.of (adl c v s) (by decide) ?_;simp only[go_sem,seval]
def V0:cQ ah 214 mq:=by
 intro j u c G B w xs m y;unfold mq at c;split at c;simp only[aj] at c;obtain⟨l,H,h⟩:=c;obtain⟨d,h⟩:=aY h;simp only[dE] at d;have h:=sI h;subst h;have z:=jN (fun _ _ h=>Ls h) H;obtain⟨F,C⟩:=n7 RC z;refine jo (T:=[]) (W:=[]) .nil .nil (by simp only[ei,F,dL,bH,bW]) (fun J=>?_) G B w xs m y;refine⟨_,_,ajF ⟨rfl,rfl⟩ C d _ _,?_⟩;rename_i I k _;cases gz k l with
 |none=>exact⟨2,rfl⟩
 |some v=>exact⟨2,rfl⟩
 cases c
def Lz(a b:Bool):dI ah .neq 4 (.bool a) (.bool b)=some (.bool (!(a==b))):=by kernel_rfl
def RG(a b a' b':List UInt8):dI ah .neq 92 (.agg [.str a,.str b]) (.agg [.str a',.str b'])=some (.bool (!((a==a')&&(b==b')))):=by
 have h:dI ah .neq 92 (.agg [.str a,.str b]) (.agg [.str a',.str b'])=((some (a==a')).bind fun r=>bif r then(some (b==b')).bind fun r=>bif r then some true else some false else some false).bind fun r=>some (.bool (!r)):=by kernel_rfl
 rw[h];cases a==a'<;>cases b==b'<;>rfl
def rA(x:aG):Bool:= !(x.area== [])&& !jA x.area
def rI(x:aG):Bool:= !((x.ifK== [])&&(x.ifV== []))&& !(jA x.ifK&&tq x.ifV)
def rO(x:aG):Bool:= !(an x.op 2)&&(!(an x.op 1)&& !(an x.op 3))
def rL(x:aG):Bool:= !(an x.op 2==decide (0<x.values.length))
def auT(x:aG):tQ x=(bif rA x then false else bif aV x.uP 0 then false else bif aV 5 x.uP then false else bif !jA x.key then false else bif rI x then false else bif rO x then false else bif rL x then false else bif decide (60<x.values.length) then false else x.values.all tq):=rfl
def Nt(n:Nat):aV 0 ((n:Nat):Int)=decide (0<n):=by
 unfold aV;by_cases h:0<n;rw[dQ h,dQ];omega;rw[dN h,dN];omega
def WJ(n:Nat):aV 60 ((n:Nat):Int)=decide (60<n):=by
 unfold aV;by_cases h:60<n;rw[dQ h,dQ];omega;rw[dN h,dN];omega
variable{lc:Ag.Loc}{N:Fr->St->Prop}{x:aG}{e:aw}
def atU(c:Q.spec 163=some kO)(y:x.Ok)(d:ac e 1= .Ge 1 1 0)(l1:lc.get 1 1=some x.cells)(u:lc.gen 1=1)(m: ∀j,ac j 7= .bool (rA x)->ac j 1= .Ge 1 1 0->ac j 3=ac e 3->N ⟨j,72,lc⟩ s)(z:True):WV Q 297 wE ⟨e,72,lc⟩ s N:=by
 have w:=AC y.area;have B:x.cells=[.bool x.strict,.str x.area,ag x.uP,.str x.ifK,.str x.ifV,ag x.op,.str x.key,x.valuesV]:=rfl;rw[B] at l1;unfold rA at m;cases hz:x.area== [] with
 |true=>
  simp only[go_sem,seval,wE,wF,wG,d,l1,u,hz];refine m _ ?_ ?_ ?_
  all_goals simp only[sN,seval,d,hz]
  all_goals rfl
 |false=>
  simp only[go_sem,seval,wE,wF,wG,d,l1,u,hz,c,w];refine m _ ?_ ?_ ?_
  all_goals simp only[sN,seval,d,hz]
  all_goals rfl
def atW(m:ac e 1= .Ge 1 1 0)(d:ac e 3= .bool (an x.op 2))(l1:lc.get 1 1=some x.cells)(w:lc.gen 1=1)(j: ∀c,ac c 45= .bool (rO x)->ac c 1= .Ge 1 1 0->ac c 3= .bool (an x.op 2)->N ⟨c,72,lc⟩ s):WV Q 297 wG ⟨e,72,lc⟩ s N:=by
 have u:x.cells=[.bool x.strict,.str x.area,ag x.uP,.str x.ifK,.str x.ifV,ag x.op,.str x.key,x.valuesV]:=rfl;rw[u] at l1;unfold rO at j;cases e2:an x.op 2<;>cases e1:an x.op 1<;>
 ·rw[e2] at d
  simp only[go_sem,seval,wE,wF,wG,m,l1,w,d,e1];refine j _ ?_ ?_ ?_
  all_goals simp only[sN,seval,m,d,e1,e2,jp,kp,Bool.and_true,en,gh,dA]
def atV(c:Q.spec 163=some kO)(j:No Q 403)(z:x.Ok)(d:ac e 1= .Ge 1 1 0)(l1:lc.get 1 1=some x.cells)(w:lc.gen 1=1)(m: ∀u,ac u 27= .bool (rI x)->ac u 1= .Ge 1 1 0->ac u 3=ac e 3->N ⟨u,72,lc⟩ s):WV Q 297 wF ⟨e,72,lc⟩ s N:=by
 have y:=AC z.ifK;have B:x.cells=[.bool x.strict,.str x.area,ag x.uP,.str x.ifK,.str x.ifV,ag x.op,.str x.key,x.valuesV]:=rfl;rw[B] at l1;unfold rI at m;cases hz:((x.ifK== [])&&(x.ifV== [])) with
 |true=>
  simp only[go_sem,seval,wE,wF,wG,d,l1,w,RG,hz,bj,bc,aX,aZ,evc];refine m _ ?_ ?_ ?_
  all_goals simp only[sN,seval,d,hz]
  all_goals rfl
 |false=>
  cases hn:jA x.ifK with
  |false=>
   simp only[go_sem,seval,wE,wF,wG,d,l1,w,RG,hz,c,y,hn,bj,bc,aX,aZ,evc];refine m _ ?_ ?_ ?_
   all_goals simp only[sN,seval,d,hz,hn]
   all_goals rfl
  |true=>
   simp only[go_sem,seval,wE,wF,wG,d,l1,w,RG,hz,c,y,hn,bj,bc,aX,aZ,evc];refine ct.of (adl j x.ifV s) (by decide) ?_;simp only[go_sem,seval,wE,wF,wG];refine m _ ?_ ?_ ?_
   all_goals simp only[sN,seval,d,hz,hn,en,kp]
def axu(j:Q.spec 163=some kO)(z:No Q 403)(y:No Q 404)(J:No Q 261)(M:No Q 167)(Y:No Q 297)(B:x.Ok)(s:St):aq Q 297 [x.val] s (.bool (tQ x)) s:=by
 have Z:=AC B.key;have U:=B.vals.ge;have vs:=B.vals.scal;have C:=B.vals.lenS co;have R:=Nh J M B.vals B.len y.s (s:=s) (cap:=[]) (p:=fun v=> !tq v) fun v _=>arV z y v s;have O:Ag.Loc.get (Ag.Loc.set [] 1 1 x.cells) 1 1=some x.cells:=rfl;have d:Ag.Loc.gen (Ag.Loc.set [] 1 1 x.cells) 1=1:=rfl;obtain⟨lc,F⟩:=bZ (Ag.Loc.set [] 1 1 x.cells);rw[F] at O d;have hc:x.cells=[.bool x.strict,.str x.area,ag x.uP,.str x.ifK,.str x.ifV,ag x.op,.str x.key,x.valuesV]:=rfl;have c:=O;rw[hc] at F c;rw[auT];refine aq.ofNZ aot (bT ?_);simp only[go_sem,seval,aG.val,aG.cells,U,vs,F,c,d];refine atU j B ?_ O d ?_ trivial;simp only[sN,seval];intro e1 H I a3;simp only[sN,seval] at a3;cases b1:rA x with
 |true=>
  rw[b1] at H;simp only[go_sem,seval,H,I,c,d]
 |false=>
  rw[b1] at H;cases b2:aV x.uP 0 with
  |true=>simp only[go_sem,seval,H,I,c,d,b2]
  |false=>
   cases b3:aV 5 x.uP with
   |true=>simp only[go_sem,seval,H,I,c,d,b2,b3]
   |false=>
    cases b4:jA x.key with
    |false=>simp only[go_sem,seval,H,I,c,d,b2,b3,b4,j,Z]
    |true=>
     simp only[go_sem,seval,H,I,c,d,b2,b3,b4,j,Z];refine atV j z B ?_ O d ?_;simp only[sN,seval,I];intro e2 w c1 c3;simp only[sN,seval,a3] at c3;cases b5:rI x with
     |true=>
      rw[b5] at w;simp only[go_sem,seval,w,c1,c,d]
     |false=>
      rw[b5] at w;simp only[go_sem,seval,w,c1,c,d];refine atW c1 c3 O d ?_;intro e3 m V d3;cases b6:rO x with
      |true=>
       rw[b6] at m;simp only[go_sem,seval,m,V,c,d]
      |false=>
       rw[b6] at m;cases b7:rL x with
       |true=>
        have u:=b7;unfold rL at u;simp only[go_sem,seval,m,V,d3,c,d,C,U,Nt,Lz,u]
       |false=>
        have u:=b7;unfold rL at u;cases b8:decide (60<x.values.length) with
        |true=>simp only[go_sem,seval,m,V,d3,c,d,C,Nt,WJ,Lz,u,b8,U]
        |false=>
         simp only[go_sem,seval,m,V,d3,c,d,C,Nt,WJ,Lz,u,b8,U];refine ct.of R (by decide) ?_;simp only[go_sem,seval,Bw]
def xP:aa->Option aG
 | .agg [.bool st,.str a,.int .i64 k,.str ik,.str iv,.int .i64 op,.str key,vv]=>(ek 1 iL vv).bind fun vs=>bif bH vv&&(bh a.length small&&(bh key.length small&&(bh ik.length small&&bn vs.length 1000000))) then some ⟨st,a,k,ik,iv,op,key,vv,vs⟩ else none
 |_=>none
def TK(h:xP v=some x):v=x.val/\x.Ok:=by
 unfold xP at h;split at h;simp only[aj] at h;obtain⟨vs,d,h⟩:=h;obtain⟨c,h⟩:=aY h;injection h with h;subst h
 simp only[bm] at c;exact⟨rfl,jN (fun _ _ h=>pf h) d,c.1,fF c.2.1,fF c.2.2.1,fF c.2.2.2.1,fF c.2.2.2.2⟩;cases h
def afk(c:x.Ok):xP x.val=some x:=by
 have d:=pA pg c.vals;have m:bh x.area.length small=true:=cE c.area;have j:bh x.key.length small=true:=cE c.key;have b3:bh x.ifK.length small=true:=cE c.ifK;have b4:bn x.values.length 1000000=true:=cE c.len;simp only[dW,xP,aG.val,aG.cells,d,c.pv,m,j,b3,b4,bW]
def Zp: ∀ {xs:List aa} {l:List aG},hJ xP xs=some l-> ∀x∈l,x.Ok
 | [],l,h=>by simp only[hJ,aH] at h;subst h;intro o d;cases d
 |x::xs,l,h=>by
  simp only[hJ,aj,aH] at h;obtain⟨a,m,r,j,rfl⟩:=h;intro y c;rcases dl.1 c with rfl|c
  exact(TK m).2;exact Zp j y c
def Zr: ∀ {l:List aG},(∀x∈l,x.Ok)->hJ xP (l.map aG.val)=some l
 | [],_=>rfl
 |x::l,h=>by
  simp only[eA,hJ,afk (h x gF),bg,Zr (l:=l) fun y c=>h y (fW _ c)]
def vV(v:aa):Option (List aG):=(ek 8 xP v).bind fun l=>bif bn l.length 1000000 then some l else none
variable{l:List aG}
def Ln(h:vV v=some l):ax 8 aG.val v l/\(∀x∈l,x.Ok)/\l.length<=1000000:=by
 unfold vV at h;simp only[aj] at h;obtain⟨m,c,h⟩:=h;obtain⟨j,h⟩:=aY h;injection h with h;subst h
 refine⟨jN (fun v a h=>(TK h).1) c,?_,fF j⟩;unfold ek at c;split at c;injection c with c;subst c;intro o d;cases d
 obtain⟨_,c⟩:=aY c;exact Zp c;cases c
def Lp(h:ax 8 aG.val v l)(c: ∀x∈l,x.Ok)(d:l.length<=1000000):vV v=some l:=by
 have j:ek 8 xP v=some l:=by
  rcases h with⟨rfl,rfl⟩|⟨r,rfl⟩
  rfl;simp only[fH,ek,Zr c]
 have b:bn l.length 1000000=true:=cE d;simp only[dW,vV,j,b]
def abC(c: ∀x∈l,x.Ok):pures (l.map aG.val)=true:=by
 rw[AP];intro v j;obtain⟨x,d,rfl⟩:=cx.1 j;simp only[aG.val,aG.cells,bH,pures,(c x d).pv,bW]
def QL(h:ax 8 aG.val v l)(c: ∀x∈l,x.Ok):dL v=true/\ax 8 aG.val (cW v) l:=by
 rcases h with⟨rfl,rfl⟩|⟨r,rfl⟩
 exact⟨rfl,.inl ⟨rfl,rfl⟩⟩;exact⟨by simpa[dL] using abC c,.inr (by
  simp only[cW,kC (abC c)];exact⟨_,rfl⟩)⟩
variable{sv:aa}
def ame(hs:ax 8 aG.val sv l)(H: ∀x∈l,x.Ok)(V:l.length<=1000000)(y:Q.spec 296=none)(hg: ∀x∈l,aq Q 296 [x.val] s (.bool (!tQ x)) s){r:Int}(hx: ∀e,r= -1->K (.exit 0) ⟨e,19,lc⟩ s)(hr: ∀e,ac e 4=ag r->K .ret ⟨e,19,lc⟩ s):
 ∀(d c:List aG) (e:aw),l=c++d->r=j6 (fun x=> !tQ x) d c.length->ac e 0=sv->ac e 1= .func (.func 296) [] []->ac e 7=aM l.length->ac e 8=aM c.length->W Q 402 (.loop OL) ⟨e,19,lc⟩ s K:=by
 intro d
 induction d with
 |nil=>
  intro c e z C R O B w;have J:c.length=l.length:=by rw[z];simp
  refine bq ?_;simp only[go_sem,seval,OL,B,w,J,cq];exact hx _ C
 |cons x d Z=>
  intro c e z C R O B w;have I:c.length<l.length:=by rw[z];simp
  have u:l[c.length]? =some x:=by rw[z];simp
  have m:=dB u;have U:=H x m;have Y:=U.vals.ge;have vs:=U.vals.scal;have M:=fun lc k=>hs.at pS.2.2.1 u lc k;have F:=dg (n:=c.length) (by omega);have j:=hg x m;simp only[aG.val,aG.cells] at j;refine bq ?_;simp only[go_sem,seval,OL,R,O,B,w,I,M,aG.val,aG.cells,Y,vs,y];refine ct.of j (by decide) ?_;cases hd:tQ x with
  |false=>
   simp only[go_sem,seval];exact hr _ (by simp only[sN,seval,w,C,j6,hd,kp])
  |true=>
   simp only[go_sem,seval,w,F];refine Z (c++[x]) _ (by rw[z];simp) (by rw[C];simp only[j6,hd,jp,cF,sA]) ?_ ?_ ?_ ?_
   all_goals simp only[sN,seval,R,O,B,sA]
def auV(I:Q.spec 163=some kO)(u:No Q 403)(m:No Q 404)(z:No Q 261)(B:No Q 167)(w:No Q 297)(y:No Q 296)(Y:No Q 402)(Z:No Q 295)(a0:No Q 216)(U:ax 8 aG.val sv l)(C: ∀x∈l,x.Ok)(F:l.length<=1000000)(s:St):aq Q 216 [sv] s (.bool (ol l)) s:=by
 have c:=U.ge;have j:=U.lenS pS;have M: ∀x∈l,aq Q 296 [x.val] s (.bool (!tQ x)) s:=fun x hx=>by
  have R:=C x hx;have vc:=R.vals.ge;have vs:=R.vals.scal;have d:=axu I u m z B w R s;simp only[aG.val,aG.cells] at d;refine aq.ofNZ aos (bT ?_);simp only[go_sem,seval,aG.val,aG.cells,vc,vs];refine ct.of d (by decide) ?_;simp only[go_sem,seval]
 have J:aq Q 402 [sv,.func (.func 296) [] []] s (bO (j6 (fun x=> !tQ x) l 0)) s:=by
  refine aq.ofNZ ao4 (bT ?_);simp only[go_sem,seval,j,c];refine ame U C F y.s M (r:=j6 (fun x=> !tQ x) l 0) ?_ ?_ l [] _ rfl rfl ?_ ?_ ?_ ?_;intro e hq;simp only[go_sem,seval,hq];rfl;intro e h4;simp only[go_sem,seval,h4];rfl
  all_goals simp only[sN,seval,cV]
  all_goals rfl
 have O:aq Q 295 [sv,.func (.func 296) [] []] s (.bool (l.any fun x=> !tQ x)) s:=by
  refine aq.ofNZ aor (bT ?_);simp only[go_sem,seval,c];refine ct.of J (by decide) ?_;simp only[go_sem,seval,bO,nP,Eu]
 have H:bV ((l.length:Nat):Int) 200=decide (l.length<=200):=by
  unfold bV;by_cases h:l.length<=200;rw[dQ h,dQ];omega;rw[dN h,dN];omega
 refine aq.ofNZ anw (bT ?_);cases hz:decide (l.length<=200) with
 |false=>
  have V:ol l=false:=by unfold ol;rw[hz];rfl
  simp only[go_sem,seval,c,j,H,hz,V]
 |true=>
  have V:ol l=l.all tQ:=by unfold ol;rw[hz];rfl
  simp only[go_sem,seval,c,j,H,hz];refine ct.of O (by decide) ?_;simp only[go_sem,seval,Bw,V]
def AW:Sp
 | [v]=>(vV v).bind fun l=>some (.bool (ol l))
 |_=>none
def auW(h:ax 8 aG.val v l)(c: ∀x∈l,x.Ok)(d:l.length<=1000000):AW [v]=some (.bool (ol l)):=by
 simp only[AW,Lp h c d,bg]
def S5:dp:=[(163,kO)]
def aeA:du S5:=.cons PF .nil
def auX:cQ ah 216 AW:=by
 intro m u c G C w xs y z;unfold AW at c;split at c;simp only[aj] at c;obtain⟨l,I,h⟩:=c;have h:=sI h;subst h;obtain⟨B,j,d⟩:=Ln I;obtain⟨H,F⟩:=QL B j;refine jo aeA (W:=[]) .nil (by simp only[ei,H,bW]) (fun J=>?_) G C w xs y z;exact⟨_,_,auV (Q:=QW S5 [] J) rfl ⟨rfl,rfl⟩ ⟨rfl,rfl⟩ ⟨rfl,rfl⟩ ⟨rfl,rfl⟩ ⟨rfl,rfl⟩ ⟨rfl,rfl⟩ ⟨rfl,rfl⟩ ⟨rfl,rfl⟩ ⟨rfl,rfl⟩ F j d _,⟨1,rfl⟩⟩;cases c
def pM(l:List Obj)(f:Obj->List (Pt×Bool))(k:Int):Nat->List ae->List (Pt×Bool)
 |_,[]=>[]
 |i,r::rs=>match cj r l with
  |some q=>bif an q.uP (kj k i) then f q++pM l f k (i+1) rs else [((0,0),false)]
  |none=>[((0,0),false)]
def oU(l:List Obj):Nat->Obj->List (Pt×Bool)
 |0,_=>[]
 |n+1,o=>bif an o.uP 1 then [((o.x,o.y),true)] else pM l (oU l n) o.uP 0 o.gE
structure kr (lo:Nat) (Kp:Nat->Prop) (s s':St):Prop where
 get: ∀k,(Kp k\/lo<=k)->k<s.aL->s'.get [] k=s.get [] k
 nx:s.aL<=s'.aL
 mw:s'.gt<=s'.aL
variable{Kp:Nat->Prop}
def kr.refl(h:s.gt<=s.aL):kr lo Kp s s:=⟨fun _ _ _=>rfl,bk _,h⟩
def kr.trans{c:St}(h:kr lo Kp s s')(k:kr lo Kp s' c):kr lo Kp s c:=
 ⟨fun j d m=>(k.get j d (by have:=h.nx;omega)).trans (h.get j d m),Nat.le_trans h.nx k.nx,k.mw⟩
def kr.all(j: ∀k,k<s.aL->s'.get [] k=s.get [] k)(c:s.aL<=s'.aL)(d:s'.gt<=s'.aL):kr lo Kp s s':=⟨fun k _ h=>j k h,c,d⟩
structure DT (Q:aD) (n lo:Nat) (Kp:Nat->Prop) (seq:List (Pt×Bool)) (P:Nat->St->Prop) (D:St->Prop):Prop where
 step: ∀i x s,seq[i]? =some x->P i s->lo<=s.aL->s.gt<=s.aL-> ∃v s',iy Q n [aN x.1,.bool x.2] s v s'/\(kr lo Kp s s'/\((v= .bool true/\P (i+1) s')\/(v= .bool false/\D s')))
 grow: ∀i s s',P i s->(∀k,k<lo->s'.get [] k=s.get [] k)->P i s'
 growD: ∀s s',D s->(∀k,k<lo->s'.get [] k=s.get [] k)->D s'
 kpl: ∀k,Kp k->k<lo
structure zH (l:List Obj) (p b bo bp:Nat) (q:Obj) (s:St):Prop where
 o:s.get [] bo=some (.cells q.cells)
 q:s.get [] bp=some (.cells [.ptr p 0])
 hp: ∃av bv,s.get [] p=some (.cells [av,.map b,bv])
 m:bJ aa.str s b (ji l)
 lo:bo<s.aL
 lq:bp<s.aL
 lp:p<s.aL
 lm:b<s.aL
variable{l:List Obj}{q:Obj}
def zH.kept{c:Nat}(h:zH l p b bo c q s)(k:kr lo Kp s s')(z:Kp bo\/lo<=bo)(y:Kp c\/lo<=c)(w:Kp p\/lo<=p)(u:Kp b\/lo<=b):zH l p b bo c q s':=by
 have d:=k.nx;obtain⟨B,bv,j⟩:=h.hp;exact⟨(k.get bo z h.lo).trans h.o,(k.get c y h.lq).trans h.q,⟨B,bv,(k.get p w h.lp).trans j⟩,(k.get b u h.lm).trans h.m,gj h.lo d,gj h.lq d,gj h.lp d,gj h.lm d⟩
def KN(Q:aD)(l:List Obj)(p b:Nat)(f:Obj->List (Pt×Bool))(q:Obj):Prop:=
 ∀(n lo bo c:Nat) (Kp:Nat->Prop) (P:Nat->St->Prop) (D:St->Prop) (s:St),DT Q n lo Kp (f q) P D->(Kp bo\/lo<=bo)->(Kp c\/lo<=c)->(Kp p\/lo<=p)->(Kp b\/lo<=b)->zH l p b bo c q s->lo<=s.aL->s.gt<=s.aL->P 0 s->
  ∃v s',aq Q 473 [.yld n,.ptr bo 0,.ptr c 0] s v s'/\(v= .tup []/\kr lo Kp s s'/\(P (f q).length s'\/D s'))
def apV(j:No Q 474)(go:o.Al)(i:Nat)(s:St):aq Q 474 [o.val,aM i] s (bO (kj o.uP i)) s:=by
 have d:=go.all;have c:an ((i:Nat):Int) 1=(i==1):=by
  unfold an;by_cases h:i=1;rw[h];rfl;rw[bN.2 h,bN];omega
 refine aq.ofNZ apk (bT ?_);cases e4:an o.uP 4 with
 |true=>simp only[go_sem,seval,Obj.val,Obj.cells,d,e4,kj,bO,Bool.true_or]
 |false=>
  cases e5:an o.uP 5 with
  |false=>simp only[go_sem,seval,Obj.val,Obj.cells,d,e4,e5,kj,bO,hZ,dA]
  |true=>
   cases e1:i==1 with
   |true=>simp only[go_sem,seval,Obj.val,Obj.cells,d,e4,e5,c,e1,kj,bO,hZ,en,jp]
   |false=>simp only[go_sem,seval,Obj.val,Obj.cells,d,e4,e5,c,e1,kj,bO,hZ,en,kp]
def ZW(c:No Q 405)(m:q.Al)(p:Nat)(s:St):aq Q 405 [.ptr p 0,q.val] s (.func (.func 473) [] [.ptr (s.aL+1) 0,.ptr s.aL 0]) ((s.new (.cells [.ptr p 0])).new (.cells q.cells)):=by
 have d:=m.all;have j:(s.new (.cells [.ptr p 0])).aL=s.aL+1:=rfl;refine aq.ofNZ ao7 (bT ?_);simp only[go_sem,seval,Obj.val,Obj.cells,d,Ha,j,bj,bc,aX,aZ,evc]
noncomputable abbrev I8(E:aw)(x:Option Ex):aJ:=.loop 473 E 58 [50,51] Fd Fe x
variable{P:Nat->St->Prop}{D:St->Prop}{E:aw}
def amm{bz m base:Nat}{seq seqI:List (Pt×Bool)}(C:DT Q n lo Kp seq P D)(hs: ∀i x,seqI[i]? =some x->seq[base+i]? =some x)(e3:ac E 3= .ptr bz 0)(zl:lo<=bz)(zm:bz<m):
 DT Q m (m+1) (fun k=>Kp k\/(lo<=k/\k<m)) seqI (fun i s=>P (base+i) s/\s.get [] m=some (I8 E none)/\s.get [] bz=some (.cells [.yld n])) (fun s=>D s/\s.get [] m=some (I8 E (some .ret))):=by
 have j:=C.kpl;refine⟨fun i x s hx ⟨J,F,R⟩ a0 M=>?_,fun i s s' ⟨J,F,R⟩ u=>⟨C.grow _ _ _ J fun k j=>u k (by omega),(u m (by omega)).trans F,(u bz (by omega)).trans R⟩,fun s s' ⟨hd,F⟩ u=>⟨C.growD _ _ hd fun k j=>u k (by omega),(u m (by omega)).trans F⟩,fun k d=>?_⟩;refine iy.any (ca:=ON) (cb:=OO) F rfl rfl apg aph ?_;refine bT ?_;obtain⟨w,H⟩:=bZ (s.put m none);have wn:w.aL=s.aL:=by rw[<-H];rfl
 obtain⟨z,B⟩:=bZ ((w.new (.cells [ag 0,ag 0])).put w.aL (some (.cells [ag x.1.1,ag x.1.2])));have zn:z.aL=s.aL+1:=by rw[<-B];show w.aL+1=_;omega
 have I: ∀k,k<s.aL->k≠m->z.get [] k=s.get [] k:=fun k j c=>by rw[<-B,aR,bN.2 (by omega:k≠w.aL),cF,ck (by omega),<-H,aR,bN.2 c];rfl
 have Y:z.gt<=z.aL:=by
  rw[<-B];refine cR _ _ _ (bU ?_);rw[<-H];exact cR _ _ _ M
 have zk:z.get [] w.aL=some (.cells [ag x.1.1,ag x.1.2]):=by rw[<-B,aR,bS];rfl
 have U:z.get [] bz=some (.cells [.yld n]):=(I bz (by omega) (by omega)).trans R;have O:(w.new (.cells [ag 0,ag 0])).get [] w.aL=some (.cells [ag 0,ag 0]):=cG;have Z:P (base+i) z:=C.grow _ _ _ J fun k j=>I k (by omega) (by omega);obtain⟨v,y,V,K1,hv⟩:=C.step (base+i) x z (hs i x hx) Z (by omega) Y;simp only[aN] at V;have n1:=K1.nx;have fin: ∀o,kr (m+1) (fun k=>Kp k\/(lo<=k/\k<m)) s (y.put m o):=fun o=>by
  refine⟨fun k d hl=>?_,by show s.aL<=y.aL;omega,cR _ _ _ K1.mw⟩;have c:k≠m:=by
   rcases d with(h|h)|h
   have:=j k h;omega;omega;omega
  rw[aR,bN.2 c];refine(K1.get k ?_ (by omega)).trans (I k hl c);rcases d with(h|h)|h
  exact .inl h;exact .inr h.1;exact .inr (by omega)
 have b1:y.get [] bz=some (.cells [.yld n]):=(K1.get bz (.inr zl) (by omega)).trans U;have same: ∀o k,k<lo->(y.put m o).get [] k=y.get [] k:=fun o k j=>by rw[aR,bN.2 (by omega:k≠m)];rfl
 simp only[go_sem,seval,ON,H,aN,cO,O,cS,B,bj,bc,aX,aZ,evc];refine bT ?_;simp only[go_sem,seval,OO,e3,U,zk,aP,aQ,bj,bc,aX,aZ,evc];refine zr.of V (by decide) ?_;rcases hv with⟨rfl,p1⟩|⟨rfl,d1⟩
 simp only[go_sem,seval,jg,jj];refine⟨fin _,.inl ⟨C.grow _ _ _ p1 (same _),?_,?_⟩⟩;rw[aR,bS];rfl;rw[aR,bN.2 (by omega:bz≠m)];exact b1;simp only[go_sem,seval,jg,jj];refine⟨fin _,.inr ⟨C.growD _ _ d1 (same _),?_⟩⟩;rw[aR,bS];rfl;rcases d with h|h
 have:=j k h;have:=C.kpl k h;omega;omega
variable{k:Int}{rs:List ae}{f:Obj->List (Pt×Bool)}
def aui{r:ae}(h: ∀q,cj r l=some q->an q.uP (kj k i)=false):pM l f k i (r::rs)=[((0,0),false)]:=by
 unfold pM;cases e:cj r l with
 |none=>rfl
 |some q=>simp only[h q e,cF]
def auj{r:ae}(e:cj r l=some q)(h:an q.uP (kj k i)=true):pM l f k i (r::rs)=f q++pM l f k (i+1) rs:=by
 conv=>lhs;unfold pM
 rw[e];simp only[h,cT]
def HE:tg ah 473=true:=by kernel_rfl
def arz(e4:No Q 473)(b1:No Q 405)(b0:No Q 474)(hg: ∀o∈l,o.Al)(go:o.Al)(e5:o.gE.length<=900000)(IH: ∀(i:Nat) (r:ae) (q:Obj),o.gE[i]? =some r->cj r l=some q->an q.uP (kj o.uP i)=true->KN Q l p b f q){bp bz:Nat}{seq:List (Pt×Bool)}(C:DT Q n lo Kp seq P D)(k1:Kp bo\/lo<=bo)(k2:Kp bp\/lo<=bp)(k3:Kp p\/lo<=p)(k4:Kp b\/lo<=b){s0:St}(N0:zH l p b bo bp o s0)(e2:s0.get [] bz=some (.cells [.yld n]))(zl:lo<=bz)(c6:bz<s0.aL)(e6:lo<=s0.aL)(hx: ∀e lc s,P seq.length s->kr lo Kp s0 s->K (.exit 0) ⟨e,58,lc⟩ s)(hr: ∀e lc s,(P seq.length s\/D s)->kr lo Kp s0 s->K .ret ⟨e,58,lc⟩ s):
 ∀(d c:List ae) (e:aw) (lc:Ag.Loc) (s:St) (done:List (Pt×Bool)),o.gE=c++d->seq=done++pM l f o.uP c.length d->P done.length s->kr lo Kp s0 s->ac e 1= .ptr bo 0->ac e 2= .ptr bp 0->ac e 3= .ptr bz 0->ac e 18=o.refsV->ac e 19=aM o.gE.length->ac e 20=aM c.length->e.all jB=true->W Q 473 (.loop Cq) ⟨e,58,lc⟩ s K:=by
 have rn:jB o.refsV=true:=by rcases go.gE with⟨e,_⟩|⟨k,e⟩<;>rw[e]<;>rfl
 intro d
 induction d with
 |nil=>
  intro c e lc s done h1 hq hp K1 r1 r2 r3 M F B hE;have e0:c.length=o.gE.length:=by rw[h1];simp
  refine bq ?_;simp only[go_sem,seval,Cq,F,B,e0,cq];have hl:seq.length=done.length:=by rw[hq];simp[pM]
  exact hx _ _ _ (by rw[hl];exact hp) K1
 |cons r d ih=>
  intro c e lc s done h1 hq hp K1 r1 r2 r3 M F B hE;have a5:c.length<o.gE.length:=by rw[h1];simp
  have b8:o.gE[c.length]? =some r:=by rw[h1];simp
  have a6:=fun lc k=>go.gE.at co.2.2.1 b8 lc k;have d5:=dg (n:=c.length) (by omega);have rc:=go.all;have N:=N0.kept K1 k1 k2 k3 k4;have nx:=K1.nx;have d7:=K1.mw;have a8:s.get [] bz=some (.cells [.yld n]):=(K1.get bz (.inr zl) c6).trans e2;obtain⟨av,bv,Z⟩:=N.hp;have ho:=N.o;have Y:=N.q;have d0:=N.lo;have c8:=N.lq;have c9:=N.lp;have d4:=N.lm;simp only[Obj.cells] at ho;have j:=yG im uZ Bg N.m r;rw[yF] at j;have a7:(s.new (.cells [.str [],ag 0,ag 0,ag 0,.AL,.AL])).get [] s.aL=some (.cells [.str [],ag 0,ag 0,ag 0,.AL,.AL]):=cG;have box: ∀cs, ∃z,(s.new (.cells [.str [],ag 0,ag 0,ag 0,.AL,.AL])).put s.aL (some (.cells cs))=z/\z.aL=s.aL+1/\z.gt<=z.aL/\(∀k,k<s.aL->z.get [] k=s.get [] k)/\z.get [] s.aL=some (.cells cs):=fun cs=>
   ⟨_,rfl,rfl,cR _ _ _ (bU d7),fun k w=>by rw[aR,bN.2 (by omega:k≠s.aL),cF,ck w],by rw[aR,bS];rfl⟩
  have c4: ∀(z:St),(∀q,cj r l=some q->an q.uP (kj o.uP c.length)=false)->z.aL=s.aL+1->z.gt<=z.aL->(∀k,k<s.aL->z.get [] k=s.get [] k)-> ∃v s1,iy Q n [.agg [ag 0,ag 0],.bool false] z v s1/\((P seq.length s1\/D s1)/\kr lo Kp s0 s1):=fun z hb zn U I=>by
   have J:seq=done++[((0,0),false)]:=by rw[hq,aui hb]
   obtain⟨v,s1,H,K2,hv⟩:=C.step done.length ((0,0),false) z (by rw[J];simp) (C.grow _ _ _ hp fun k w=>I k (by omega)) (by omega) U;refine⟨v,s1,H,?_,K1.trans ((kr.all I (by omega) U).trans K2)⟩;have hl:seq.length=done.length+1:=by rw[J];simp
   rw[hl];rcases hv with⟨_,h⟩|⟨_,h⟩
   exact .inl h;exact .inr h
  cases hob:cj r l with
  |none=>
   rw[hob] at j;simp only[sD,od] at j;obtain⟨z,hz,zn,U,I,zk⟩:=box [.str [],ag 0,ag 0,ag 0,.AL,.AL];obtain⟨v,s1,H,hv,K2⟩:=c4 z (fun q hq=>by rw[hob] at hq;cases hq) zn U I;have zb:=(I bz (by omega)).trans a8;refine bq ?_;simp only[go_sem,seval,Cq,aA,r2,M,F,B,a5,a6,Y,Z,aP,aQ,j,ew,cO,a7,cS,hz];simp only[go_sem,seval,r3,U,zb,aP,aQ,bj,bc,aX,aZ,evc];refine zr.of H (by decide) ?_;simp only[go_sem,seval];exact hr _ _ _ hv K2
  |some q=>
   have gq:=hg q (mB hob).1;have a4:=gq.gE.ge;have a2:=gq.gT.ge;have a3:=gq.gE.scal;have a1:=gq.gT.scal;rw[hob] at j;simp only[jI,od,Obj.val,Obj.cells] at j;obtain⟨z,hz,zn,U,I,zk⟩:=box q.cells;have zb:=(I bz (by omega)).trans a8;have a9:=(I bo d0).trans ho;have c5:=(I bp c8).trans Y;simp only[Obj.cells] at hz zk;have O:=apV b0 go c.length z.top;simp only[Obj.val,Obj.cells,bO] at O;cases w:an q.uP (kj o.uP c.length) with
   |false=>
    obtain⟨v,s1,H,hv,K2⟩:=c4 z (fun q' d6=>by have e:q=q':=sI (hob.symm.trans d6);rw[<-e];exact w) zn U I;refine lz ?_;simp only[go_sem,seval,Cq,aA,r2,M,F,B,a5,a6,Y,Z,aP,aQ,j,ew,cO,a7,cS,hz,Obj.val,Obj.cells,a4,a2,a3,a1];refine gK U ?_;simp only[go_sem,Cp,seval,r1,zk,a9,aP,aQ,rc];refine jY.quiet O (by decide) (by simp[eh,mL]) ?_;simp only[go_sem,Cp,seval,w];simp only[go_sem,seval,r3,zb,aP,aQ,bj,bc,aX,aZ,evc];refine zr.of H (by decide) ?_;simp only[go_sem,seval];exact hr _ _ _ hv K2
   |true=>
    have J:seq=(done++f q)++pM l f o.uP (c.length+1) d:=by rw[hq,auj hob w,lV]
    have R:=ZW b1 gq p z;obtain⟨y,H⟩:=bZ ((z.new (.cells [.ptr p 0])).new (.cells q.cells));have nn:(z.new (.cells [.ptr p 0])).aL=z.aL+1:=rfl;have yn:y.aL=z.aL+2:=by rw[<-H];rfl
    have yo: ∀k,k<z.aL->y.get [] k=z.get [] k:=fun k w=>by rw[<-H,ck (by omega),ck w]
    have yq:y.get [] z.aL=some (.cells [.ptr p 0]):=by rw[<-H,ck (by omega)];exact cG
    have c7:y.get [] (z.aL+1)=some (.cells q.cells):=by rw[<-H,<-nn];exact cG
    have ym:y.gt<=y.aL:=by rw[<-H];exact bU (bU U)
    rw[H] at R;simp only[Obj.val,Obj.cells] at R;refine lz ?_;simp only[go_sem,seval,Cq,aA,r2,M,F,B,a5,a6,Y,Z,aP,aQ,j,ew,cO,a7,cS,hz,Obj.val,Obj.cells,a4,a2,a3,a1];refine gK U ?_;simp only[go_sem,Cp,seval,r1,zk,a9,aP,aQ,rc];refine jY.quiet O (by decide) (by simp[eh,mL]) ?_;simp only[go_sem,Cp,seval,w];simp only[go_sem,seval,r2,c5,zk,aP,aQ,a4,a2,a3,a1];refine ct.of R (by decide) ?_;simp only[go_sem,seval];have b2: ∀(E:aw) (lc:Ag.Loc) (K':Ex->Fr->St->Prop),ac E 3= .ptr bz 0->ac E 49= .func (.func 473) [] [.ptr (z.aL+1) 0,.ptr z.aL 0]->E.all jB=true->(∀V,P (done++f q).length V->kr lo Kp s0 V->K' .normal ⟨E,58,lc⟩ V)->(∀V,D V->kr lo Kp s0 V->K' .ret ⟨E,58,lc⟩ V)->W Q 473 (.rfun (.tmp 49) [50,51] Fd Fe) ⟨E,58,lc⟩ y K':=by
     intro E lc K' e3 c3 hE k5 k6;obtain⟨u,hu⟩:=bZ (y.new (I8 E none));have un:u.aL=y.aL+1:=by rw[<-hu];rfl
     have uo: ∀k,k<y.aL->u.get [] k=y.get [] k:=fun k w=>by rw[<-hu,ck w]
     have ul:u.get [] y.aL=some (I8 E none):=by rw[<-hu];exact cG
     have um:u.gt<=u.aL:=by rw[<-hu];exact bU ym
     have uz: ∀k,k<s.aL->u.get [] k=s.get [] k:=fun k w=>(uo k (by omega)).trans ((yo k (by omega)).trans (I k w));have CI:=amm C (m:=y.aL) (base:=done.length) (seqI:=f q) (fun i x hx=>by
      rw[J,lV,t6 (by omega),show done.length+i-done.length=i by omega];exact Bk (nF.1 hx).1▸hx) e3 zl (by omega)
     have NI:zH l p b (z.aL+1) z.aL q u:=by
      refine⟨(uo _ (by omega)).trans c7,(uo _ (by omega)).trans yq,⟨av,bv,(uz p c9).trans Z⟩,(uz b d4).trans N.m,by omega,by omega,by omega,by omega⟩
     obtain⟨v,s1,a0,rfl,K2,hv⟩:=IH c.length r q b8 hob w y.aL (y.aL+1) (z.aL+1) z.aL _ _ _ u CI (.inl (.inr ⟨by omega,by omega⟩)) (.inl (.inr ⟨by omega,by omega⟩)) (by rcases k3 with h|h;exact .inl (.inl h);exact .inl (.inr ⟨h,by omega⟩)) (by rcases k4 with h|h;exact .inl (.inl h);exact .inl (.inr ⟨h,by omega⟩)) NI (by omega) um ⟨C.grow _ _ _ hp fun k w=>uz k (by omega),ul,(uz bz (by omega)).trans a8⟩;have n2:=K2.nx;have K3: ∀o',kr lo Kp s0 (s1.put y.aL o'):=fun o'=>by
      refine K1.trans ⟨fun k e1 hl=>?_,by show s.aL<=s1.aL;omega,cR _ _ _ K2.mw⟩;rw[aR,bN.2 (by omega:k≠y.aL)];refine(K2.get k ?_ (by omega)).trans (uz k hl);rcases e1 with h|h
      exact .inl (.inl h);exact .inl (.inr ⟨h,by omega⟩)
     have same: ∀o' k,k<lo->(s1.put y.aL o').get [] k=s1.get [] k:=fun o' k w=>by rw[aR,bN.2 (by omega:k≠y.aL)];rfl
     rcases hv with⟨p1,m1,_⟩|⟨d1,m1⟩
     refine ou (h:=473) (first:=[]) (captured:=[.ptr (z.aL+1) 0,.ptr z.aL 0]) (v:=.tup []) (s1:=s1) (by simp only[dR,c3]) (by rw[Std.P,HE,YF,hE];rfl) (by rw[hu];exact a0) m1 (k5 _ (C.grow _ _ _ ?_ (same _)) (K3 _));rw[cD];exact p1;exact ou (h:=473) (first:=[]) (captured:=[.ptr (z.aL+1) 0,.ptr z.aL 0]) (v:=.tup []) (s1:=s1) (by simp only[dR,c3]) (by rw[Std.P,HE,YF,hE];rfl) (by rw[hu];exact a0) m1 (k6 _ (C.growD _ _ d1 (same _)) (K3 _))
    refine b2 _ _ _ ?_ ?_ ?_ ?_ ?_;simp only[sN,seval,r3];simp only[sN,seval]
    ·repeat' (first|exact hE|refine aC.all_set ?_ (by first|exact rfl|exact rn))
    ·intro V p2 K2
     simp only[go_sem,seval,B,d5];refine ih (c++[r]) _ _ V (done++f q) (by rw[h1];simp) (by rw[J];simp) p2 K2 ?_ ?_ ?_ ?_ ?_ ?_ ?_
     all_goals first
      |(simp only[sN,seval,r1,r2,r3,M,F,sA];done)
      |(repeat' (first|exact hE|refine aC.all_set ?_ (by first|exact rfl|exact rn)))
    intro V d2 K2;simp only[go_sem,seval];exact hr _ _ _ (.inr d2) K2
def UC(n:Nat):(aa.yld n).cells=[.yld n]:=rfl
def oJ(k:Int):Nat:=bif an k 1 then 1 else bif an k 2||an k 3 then 2 else 3
def ahH(h:an k 1=false):oJ (kj k i)<oJ k:=by
 have m:oJ 1=1:=rfl;have u:oJ 2=2:=rfl;have j:oJ k=bif an k 2||an k 3 then 2 else 3:=by unfold oJ;rw[h];rfl
 rw[j];unfold kj;cases d:an k 4 with
 |true=>
  have d:k=4:=by simpa[an] using d
  subst d;show oJ 2<_;decide
 |false=>
  cases c:an k 5 with
  |true=>
   have c:k=5:=by simpa[an] using c
   subst c;cases i==1;show oJ 2<_;decide;show oJ 1<_;decide
  |false=>
   show oJ 1<_;rw[m];cases an k 2||an k 3<;>decide
def amy(B:No Q 473)(F:No Q 405)(z:No Q 474)(hg: ∀o∈l,o.Al)(U: ∀o∈l,o.gE.length<=900000): ∀(c:Nat) (o:Obj),o∈l->oJ o.uP<=c->KN Q l p b (oU l c) o:=by
 intro c
 induction c with
 |zero=>
  intro o _ hd;have:0<oJ o.uP:=by unfold oJ;cases an o.uP 1<;>cases an o.uP 2||an o.uP 3<;>decide
  omega
 |succ c ih=>
  intro o H hd n lo bo bp Kp P D s C k1 k2 k3 k4 N V R hp;have go:=hg o H;have Y:=go.gE.lenS co;have rc:=go.gE.ge;have rn:jB o.refsV=true:=by rcases go.gE with⟨e,_⟩|⟨k,e⟩<;>rw[e]<;>rfl
  have O:=N.lo;have a0:=N.lq;have a1:=N.lp;have a2:=N.lm;obtain⟨u,m⟩:=bZ (s.new (.cells [.yld n]));have un:u.aL=s.aL+1:=by rw[<-m];rfl
  have J: ∀k,k<s.aL->u.get [] k=s.get [] k:=fun k w=>by rw[<-m,ck w]
  have Z:u.get [] s.aL=some (.cells [.yld n]):=by rw[<-m];exact cG
  have M:u.gt<=u.aL:=by rw[<-m];exact bU R
  have K0:kr lo Kp s u:=.all J (by omega) M;have d:=(J bo O).trans N.o;have NU:=N.kept K0 k1 k2 k3 k4;have pu:=C.grow _ _ _ hp fun k w=>J k (by omega);simp only[Obj.cells] at d;refine aq.ofNRZ apj (bT ?_);cases h1:an o.uP 1 with
  |true=>
   have j:oU l (c+1) o=[((o.x,o.y),true)]:=by unfold oU;rw[h1];rfl
   rw[j] at C ⊢;obtain⟨v,s1,hy,I,hv⟩:=C.step 0 ((o.x,o.y),true) u rfl pu (by omega) M;simp only[aN] at hy;simp only[go_sem,seval,UZ,UC,m,d,Z,h1,aP,aQ,bj,bc,aX,aZ,evc];refine zr.of hy (by decide) ?_;simp only[go_sem,seval];refine⟨_,rfl,rfl,K0.trans I,?_⟩;rcases hv with⟨_,h⟩|⟨_,h⟩
   exact .inl h;exact .inr h
  |false=>
   have j:oU l (c+1) o=pM l (oU l c) o.uP 0 o.gE:=by
    (conv=>lhs;unfold oU)
    rw[h1];rfl
   rw[j] at C ⊢;have IH: ∀(i:Nat) (r:ae) (q:Obj),o.gE[i]? =some r->cj r l=some q->an q.uP (kj o.uP i)=true->KN Q l p b (oU l c) q:=fun i r q _ hq w=>by
    have w:q.uP=kj o.uP i:=by simpa[an] using w
    have:=ahH (i:=i) h1;exact ih q (mB hq).1 (by rw[w];omega)
   simp only[go_sem,seval,UZ,UC,m,d,h1,aP,aQ,rc,Y,bj,bc,aX,aZ,evc];refine arz B F z hg go (U o H) IH C k1 k2 k3 k4 (s0:=u) (bz:=s.aL) NU Z V (by omega) (by omega) ?_ ?_ o.gE [] _ _ u [] rfl rfl pu (.refl M) ?_ ?_ ?_ ?_ ?_ ?_ ?_;intro e lc s1 h I;simp only[go_sem,seval];exact⟨_,rfl,rfl,K0.trans I,.inl h⟩;intro e lc s1 h I;simp only[go_sem,seval];exact⟨_,rfl,rfl,K0.trans I,h⟩
   all_goals first
    |(simp only[sN,seval,cV];done)
    |(simp only[sN,seval,cV];rfl)
    |(repeat' (first|exact rfl|refine aC.all_set ?_ (by first|exact rfl|exact rn)))
noncomputable abbrev I7(E:aw)(x:Option Ex):aJ:=.loop 299 E 55 [45,46] E5 E6 x
def uQ(r:List Pt)(q:Pt×Bool):Bool:=q.2&& !aV (si r q.1) 0
def nZ(l:List Obj)(id area:ae):Bool:=match cj id l,mF l area with
 |some o,some r=>(oU l 3 o).all (uQ r)
 |_,_=>false
def abX{c:List Obj}(j:c=l)(B:(l.map Obj.id).Nodup){s0:St}{L:List (ae×aa)}(I:vQ l c p a b lo s0 s L bv)(k:ae):(cu k L=none/\mF l k=none)\/ ∃v r,cu k L=some v/\mF l k=some r/\ax 2 aN v r:=by
 subst j;cases e:cu k L with
 |some v=>
  obtain⟨o,m,C,r,U,R⟩:=I.rings _ (Cv e);have C:k=o.id:=C;refine .inr ⟨v,r,rfl,?_,R⟩;unfold mF;rw[C,CR B m];exact U
 |none=>
  refine .inl ⟨rfl,?_⟩;cases d:mF c k with
  |none=>rfl
  |some r=>
   exfalso;unfold mF at d;cases m:cj k c with
   |none=>rw[m] at d;cases d
   |some o=>
    rw[m] at d;have d:pL c o=some r:=d;obtain⟨J,hid⟩:=mB m;have O:k∈L.map (·.1):=by
     rw[I.ids];refine cx.2 ⟨o,List.mem_filter.2 ⟨J,?_⟩,hid⟩;unfold mt;rw[d];rfl
    obtain⟨x,H,z⟩:=cx.1 O;have: ∀ {M:List (ae×aa)},x∈M->cu k M≠none:=by
     intro M
     induction M with
     |nil=>intro h;cases h
     |cons y M F=>
      intro h w;obtain⟨a,u⟩:=y;simp only[cu] at w;by_cases q:k=a;rw[iP q] at w;cases w;rw[iN q] at w;rcases dl.1 h with h|h
      subst h;exact q z.symm;exact F h w
    exact this H e
def aml(C:Q.spec 406=some AX){m q1 rb:Nat}{r:List Pt}(hr:ax 2 aN rv r){seq:List (Pt×Bool)}(e6:ac E 6= .ptr q1 0)(U:ac E 10= .ptr rb 0)(a4:q1<m)(a3:rb<m)(J:rb≠q1):
 DT Q m (m+1) (fun k=>k<m/\k≠q1) seq (fun i s=>s.get [] m=some (I7 E none)/\s.get [] q1=some (.cells [.bool false])/\s.get [] rb=some (.cells [rv])/\(seq.take i).all (uQ r)=true) (fun s=>s.get [] m=some (I7 E (some .ret))/\s.get [] q1=some (.cells [.bool false])/\seq.all (uQ r)=false):=by
 have O:=hr.ge;refine⟨fun i x s hx ⟨M,d,hb,R⟩ a5 a0=>?_,fun i s s' ⟨M,d,hb,R⟩ H=>⟨(H m (by omega)).trans M,(H q1 (by omega)).trans d,(H rb (by omega)).trans hb,R⟩,fun s s' ⟨M,d,R⟩ H=>⟨(H m (by omega)).trans M,(H q1 (by omega)).trans d,R⟩,fun k hk=>by omega⟩;have j:AX [rv,aN x.1]=some (bO (si r x.1)):=by simp only[AX,qi hr,bg,vT]
 refine iy.any (ca:=Ot) (cb:=E4) M rfl rfl aov aow ?_;refine bT ?_;obtain⟨w,Z⟩:=bZ (s.put m none);have wn:w.aL=s.aL:=by rw[<-Z];rfl
 obtain⟨z,I⟩:=bZ ((w.new (.cells [ag 0,ag 0])).put w.aL (some (.cells [ag x.1.1,ag x.1.2])));have zn:z.aL=s.aL+1:=by rw[<-I];show w.aL+1=_;omega
 have V: ∀k,k<s.aL->k≠m->z.get [] k=s.get [] k:=fun k hk J=>by rw[<-I,aR,bN.2 (by omega:k≠w.aL),cF,ck (by omega),<-Z,aR,bN.2 J];rfl
 have zw:z.gt<=z.aL:=by
  rw[<-I];refine cR _ _ _ (bU ?_);rw[<-Z];exact cR _ _ _ a0
 have zk:z.get [] w.aL=some (.cells [ag x.1.1,ag x.1.2]):=by rw[<-I,aR,bS];rfl
 have zb:z.get [] rb=some (.cells [rv]):=(V rb (by omega) (by omega)).trans hb;have Y:z.get [] q1=some (.cells [.bool false]):=(V q1 (by omega) (by omega)).trans d;have a2:(w.new (.cells [ag 0,ag 0])).get [] w.aL=some (.cells [ag 0,ag 0]):=cG;have fin: ∀(u:St) (o:Option aJ),(∀k,k<s.aL->k≠m->k≠q1->u.get [] k=s.get [] k)->s.aL<=u.aL->u.gt<=u.aL->kr (m+1) (fun k=>k<m/\k≠q1) s (u.put m o):=fun u o y hn a1=>by
  refine⟨fun k hk hl=>?_,hn,cR _ _ _ a1⟩;rw[aR,bN.2 (by omega:k≠m)];exact y k hl (by omega) (by omega)
 simp only[go_sem,seval,Ot,Z,aN,cO,a2,cS,I,bj,bc,aX,aZ,evc];refine bT ?_;cases hin:uQ r x with
 |false=>
  have B:seq.all (uQ r)=false:=by
   cases hc:seq.all (uQ r) with
   |false=>rfl
   |true=>
    have:=fu.1 hc x (dB hx);rw[hin] at this;cases this
  obtain⟨u,y⟩:=bZ (z.put q1 (some (.cells [.bool false])));have un:u.aL=s.aL+1:=by rw[<-y];exact zn
  have um:u.gt<=u.aL:=by rw[<-y];exact cR _ _ _ zw
  have uo: ∀k,k<s.aL->k≠m->k≠q1->u.get [] k=s.get [] k:=fun k d F h3=>by rw[<-y,aR,bN.2 h3];exact V k d F
  have u1:u.get [] q1=some (.cells [.bool false]):=by rw[<-y,aR,bS];rfl
  cases F:x.2 with
  |false=>
   simp only[go_sem,seval,E4,e6,Y,cO,cS,y,F,jg,jj];refine⟨fin u _ uo (by omega) um,.inr ⟨?_,?_,B⟩⟩;rw[aR,bS];rfl;rw[aR,bN.2 (by omega:q1≠m)];exact u1
  |true=>
   have hs:aV (si r x.1) 0=true:=by
    unfold uQ at hin;rw[F,en] at hin;simpa using hin
   have c:=j;simp only[aN,bO] at c;simp only[go_sem,seval,E4,e6,U,Y,zb,zk,aP,aQ,O,cO,cS,y,F,C,c,hs,jg,jj];refine⟨fin u _ uo (by omega) um,.inr ⟨?_,?_,B⟩⟩;rw[aR,bS];rfl;rw[aR,bN.2 (by omega:q1≠m)];exact u1
 |true=>
  unfold uQ at hin;simp only[bm,mQ] at hin;have c:=j;simp only[aN,bO] at c;simp only[go_sem,seval,E4,e6,U,Y,zb,zk,aP,aQ,O,C,c,hin.1,hin.2,jg,jj];refine⟨fin z _ (fun k d F _=>V k d F) (by omega) zw,.inl ⟨?_,?_,?_,?_⟩⟩;rw[aR,bS];rfl;rw[aR,bN.2 (by omega:q1≠m)];exact Y;rw[aR,bN.2 (by omega:rb≠m)];exact zb;rw[List.take_add_one,hx,List.all_append,R];simp only[Option.toList_some,jq,List.all_nil,uQ,hin.1,hin.2,kp,bW]
def ahI(k:Int):oJ k<=3:=by unfold oJ;cases an k 1<;>cases an k 2||an k 3<;>decide
variable{area:ae}
def amt{id:ae}(h:cj id l=none):nZ l id area=false:=by unfold nZ;rw[h]
def amu{id:ae}(h:mF l area=none):nZ l id area=false:=by
 unfold nZ;rw[h];cases cj id l<;>rfl
def amv{id:ae}{r:List Pt}(h:cj id l=some o)(c:mF l area=some r):nZ l id area=(oU l 3 o).all (uQ r):=by unfold nZ;rw[h,c]
def amq(e0:Q.spec 31=some jh)(c8:Q.spec 229=some pQ)(b0:No Q 137)(c7:Q.spec 406=some AX)(a9:No Q 473)(a1:No Q 405)(a8:No Q 474)(e2:No Q 299)(ho:ax 6 Obj.val ov l)(hg: ∀o∈l,o.Al)(hl:l.length<=900000)(c6: ∀o∈l,o.gE.length<=900000)(hv:cZ l=true)(id area:ae)(hm:s.gt<=s.aL):
 ∃v s',aq Q 299 [.agg [ov],.str id,.str area] s v s'/\v= .bool (nZ l id area):=by
 have d6:=ho.cs;have d7:=Ch ho;have c5:=qA hv;obtain⟨F,M⟩:=bZ ((s.new (.cells [ov])).new (.cells [.bool false]));have b1:(s.new (.cells [ov])).aL=s.aL+1:=rfl;have e3:F.aL=s.aL+2:=by rw[<-M];rfl
 have d0:F.gt<=F.aL:=by rw[<-M];exact bU (bU hm)
 have d2:F.get [] s.aL=some (.cells [ov]):=by rw[<-M,ck (by omega)];exact cG
 have d1:F.get [] (s.aL+1)=some (.cells [.bool false]):=by rw[<-M,<-b1];exact cG
 refine aq.ofNRZ aox (bT ?_);simp only[go_sem,seval,nT,d6,d7,b1,M,d2,aP,aQ,FX,bj,bc,aX,aZ,evc];refine ct.ex (aad e0 c8 b0 ho hg hl c6 hv d0) (by decide) ?_;rintro v s1 ⟨rfl,e4,L,bv,I,c3⟩;have nx:=I.nx;have B:=I.hp;have H:s1.get [] (s.aL+1)=some (.cells [.bool false]):=(I.old _ (by omega) (by omega) (by omega)).trans ((c3 _ (by omega)).trans d1);have j:=yG im uZ Bg I.mb id;rw[yF] at j;have Z:(s1.new (.cells [.str [],ag 0,ag 0,ag 0,.AL,.AL])).get [] s1.aL=some (.cells [.str [],ag 0,ag 0,ag 0,.AL,.AL]):=cG;have box: ∀cs, ∃z,(s1.new (.cells [.str [],ag 0,ag 0,ag 0,.AL,.AL])).put s1.aL (some (.cells cs))=z/\z.aL=s1.aL+1/\z.gt<=z.aL/\(∀k,k<s1.aL->z.get [] k=s1.get [] k)/\z.get [] s1.aL=some (.cells cs):=fun cs=>
  ⟨_,rfl,rfl,cR _ _ _ (bU I.mw),fun k O=>by rw[aR,bN.2 (by omega:k≠s1.aL),cF,ck O],by rw[aR,bS];rfl⟩
 have C: ∀(z:St) (v:aa),z.gt<=z.aL-> ∃y,(z.new (.cells [.AL])).put z.aL (some (.cells [v]))=y/\y.aL=z.aL+1/\y.gt<=y.aL/\(∀k,k<z.aL->y.get [] k=z.get [] k)/\y.get [] z.aL=some (.cells [v]):=fun z v hz=>
  ⟨_,rfl,rfl,cR _ _ _ (bU hz),fun k O=>by rw[aR,bN.2 (by omega:k≠z.aL),cF,ck O],by rw[aR,bS];rfl⟩
 have a0: ∀z:St,(z.new (.cells [.AL])).get [] z.aL=some (.cells [.AL]):=fun z=>cG;cases hob:cj id l with
 |none=>
  rw[hob] at j;simp only[sD,od] at j;obtain⟨z,hz,zn,zm,U,zk⟩:=box [.str [],ag 0,ag 0,ag 0,.AL,.AL];have J:=(U _ (by omega)).trans B;have a5:bJ aa.str z F.aL L:=(U _ (by omega)).trans I.ma;have c:=yG im AB DD a5 area;have d:=amt (area:=area) hob;have e5: ∀Y b2,od .AL (cu area L)= .tup [Y,.bool b2]->Y.cells=[Y]->Y.ge=true-> ∃w,w=od .AL (cu area L):=fun _ _ _ _ _=>⟨_,rfl⟩;rcases abX rfl c5 I area with⟨g1,g2⟩|⟨Y,r,g1,g2,g3⟩
  rw[g1] at c;simp only[od] at c;obtain⟨y,hy,yn,ym,V,yk⟩:=C z .AL zm;have y1:=(V (s.aL+1) (by omega)).trans ((U _ (by omega)).trans H);simp only[go_sem,seval,nT,FR,B,aP,aQ,j,ew,cO,Z,cS,hz];simp only[go_sem,seval,nT,J,aP,aQ,c,ew,D8,cO,a0,cS,hy];simp only[go_sem,seval,nT,y1,aP,aQ,cO,cS,aR];exact⟨_,rfl,by rw[d]⟩;rw[g1] at c;simp only[od] at c;have a3:=g3.ge;have a4:=Ch g3;obtain⟨y,hy,yn,ym,V,yk⟩:=C z Y zm;have y1:=(V (s.aL+1) (by omega)).trans ((U _ (by omega)).trans H);simp only[go_sem,seval,nT,FR,B,aP,aQ,j,ew,cO,Z,cS,hz];simp only[go_sem,seval,nT,J,aP,aQ,c,ew,a3,a4,cO,a0,cS,hy];simp only[go_sem,seval,nT,y1,aP,aQ,cO,cS,aR];exact⟨_,rfl,by rw[d]⟩
 |some o=>
  have c4:=(mB hob).1;have go:=hg o c4;have rc:=go.all;rw[hob] at j;simp only[jI,od,Obj.val,Obj.cells] at j;obtain⟨z,hz,zn,zm,U,zk⟩:=box o.cells;simp only[Obj.cells] at hz zk;have J:=(U _ (by omega)).trans B;have a5:bJ aa.str z F.aL L:=(U _ (by omega)).trans I.ma;have c:=yG im AB DD a5 area;rcases abX rfl c5 I area with⟨g1,g2⟩|⟨Y,r,g1,g2,g3⟩
  have d:=amu (id:=id) g2;rw[g1] at c;simp only[od] at c;obtain⟨y,hy,yn,ym,V,yk⟩:=C z .AL zm;have y1:=(V (s.aL+1) (by omega)).trans ((U _ (by omega)).trans H);simp only[go_sem,seval,nT,FR,B,aP,aQ,j,ew,rc,cO,Z,cS,hz];simp only[go_sem,seval,nT,J,aP,aQ,c,ew,D8,cO,a0,cS,hy];simp only[go_sem,seval,nT,y1,aP,aQ,cO,cS,aR];exact⟨_,rfl,by rw[d]⟩
  ·have d:=amv hob g2
   rw[g1] at c;simp only[od] at c;have a3:=g3.ge;have a4:=Ch g3;obtain⟨y,hy,yn,ym,V,yk⟩:=C z Y zm;have y1:=(V (s.aL+1) (by omega)).trans ((U _ (by omega)).trans H);have yz:=(V s1.aL (by omega)).trans zk;have R:=ZW a1 go (F.aL+2) y;obtain⟨x,hx⟩:=bZ ((y.new (.cells [.ptr (F.aL+2) 0])).new (.cells o.cells));have d5:(y.new (.cells [.ptr (F.aL+2) 0])).aL=y.aL+1:=rfl;have xn:x.aL=y.aL+2:=by rw[<-hx];rfl
   have xo: ∀k,k<y.aL->x.get [] k=y.get [] k:=fun k O=>by rw[<-hx,ck (by omega),ck O]
   have xq:x.get [] y.aL=some (.cells [.ptr (F.aL+2) 0]):=by rw[<-hx,ck (by omega)];exact cG
   have d4:x.get [] (y.aL+1)=some (.cells o.cells):=by rw[<-hx,<-d5];exact cG
   have xm:x.gt<=x.aL:=by rw[<-hx];exact bU (bU ym)
   rw[hx] at R;simp only[Obj.val,Obj.cells] at R;simp only[go_sem,seval,nT,FR,B,aP,aQ,j,ew,rc,cO,Z,cS,hz];simp only[go_sem,seval,nT,J,aP,aQ,c,ew,a3,a4,cO,a0,cS,hy];simp only[go_sem,seval,nT,yz,aP,aQ,rc];refine ct.of R (by decide) ?_;simp only[go_sem,seval,nT];have b8: ∀(E:aw) (lc:Ag.Loc) (K':Ex->Fr->St->Prop),ac E 6= .ptr (s.aL+1) 0->ac E 10= .ptr z.aL 0->ac E 44= .func (.func 473) [] [.ptr (y.aL+1) 0,.ptr y.aL 0]->E.all jB=true->(∀s2,nZ l id area=true->s2.get [] (s.aL+1)=some (.cells [.bool false])->K' .normal ⟨E,55,lc⟩ s2)->(∀s2,nZ l id area=false->s2.get [] (s.aL+1)=some (.cells [.bool false])->K' .ret ⟨E,55,lc⟩ s2)->W Q 299 (.rfun (.tmp 44) [45,46] E5 E6) ⟨E,55,lc⟩ x K':=by
    intro E lc K' e6 e1 c9 hE k5 k6;obtain⟨u,hu⟩:=bZ (x.new (I7 E none));have un:u.aL=x.aL+1:=by rw[<-hu];rfl
    have uo: ∀k,k<x.aL->u.get [] k=x.get [] k:=fun k O=>by rw[<-hu,ck O]
    have ul:u.get [] x.aL=some (I7 E none):=by rw[<-hu];exact cG
    have um:u.gt<=u.aL:=by rw[<-hu];exact bU xm
    have uz: ∀k,k<y.aL->u.get [] k=y.get [] k:=fun k O=>(uo k (by omega)).trans (xo k O);have us: ∀k,k<s1.aL->u.get [] k=s1.get [] k:=fun k O=>(uz k (by omega)).trans ((V k (by omega)).trans (U k O));have CI:=aml c7 (m:=x.aL) (q1:=s.aL+1) (rb:=z.aL) g3 (seq:=oU l 3 o) e6 e1 (by omega) (by omega) (by omega);have NI:zH l (F.aL+2) (F.aL+1) (y.aL+1) y.aL o u:=by
     refine⟨(uo _ (by omega)).trans d4,(uo _ (by omega)).trans xq,⟨_,bv,(us _ (by omega)).trans B⟩,(us _ (by omega)).trans I.mb,by omega,by omega,by omega,by omega⟩
    obtain⟨v,s3,a2,rfl,K2,hv⟩:=amy a9 a1 a8 hg c6 3 o c4 (ahI _) x.aL (x.aL+1) (y.aL+1) y.aL _ _ _ u CI (.inl ⟨by omega,by omega⟩) (.inl ⟨by omega,by omega⟩) (.inl ⟨by omega,by omega⟩) (.inl ⟨by omega,by omega⟩) NI (by omega) um ⟨ul,(us _ (by omega)).trans H,(uz _ (by omega)).trans yk,rfl⟩;rcases hv with⟨m1,p1,_,ha⟩|⟨m1,p1,ha⟩
    refine ou (h:=473) (first:=[]) (captured:=[.ptr (y.aL+1) 0,.ptr y.aL 0]) (v:=.tup []) (s1:=s3) (by simp only[dR,c9]) (by rw[Std.P,HE,XQ,hE];rfl) (by rw[hu];exact a2) m1 (k5 _ ?_ ?_);rw[d,<-ha,qY (bk _)];rw[aR,bN.2 (by omega:s.aL+1≠x.aL)];exact p1;refine ou (h:=473) (first:=[]) (captured:=[.ptr (y.aL+1) 0,.ptr y.aL 0]) (v:=.tup []) (s1:=s3) (by simp only[dR,c9]) (by rw[Std.P,HE,XQ,hE];rfl) (by rw[hu];exact a2) m1 (k6 _ ?_ ?_);rw[d,ha];rw[aR,bN.2 (by omega:s.aL+1≠x.aL)];exact p1
   have rn:jB Y=true:=by rcases g3 with⟨e,_⟩|⟨k,e⟩<;>rw[e]<;>rfl
   refine b8 _ _ _ ?_ ?_ ?_ ?_ ?_ ?_;simp only[sN,seval];simp only[sN,seval];simp only[sN,seval]
   ·repeat' (first|exact rfl|refine aC.all_set ?_ (by first|exact rfl|exact rn))
   intro s2 a6 a7;simp only[go_sem,seval,nT,a7,aP,aQ,cO,cS,aR];exact⟨_,rfl,by rw[a6]⟩;intro s2 a6 a7;simp only[go_sem,seval,nT,a7,aP,aQ];exact⟨_,rfl,by rw[a6]⟩
def SQ:dp:=[(31,jh),(229,pQ),(406,AX)]
def aep:du SQ:=.cons wI (.cons J1 (.cons avm .nil))
def tm:Sp
 | [v,.str id,.str area]=>(lG v).bind fun l=>bif mp l then some (.bool (nZ l id area)) else none
 |_=>none
def ams:cQ ah 299 tm:=by
 intro args u c G h w xs C H;unfold tm at c;split at c;rename_i O id area;simp only[aj] at c;obtain⟨l,z,c⟩:=c;obtain⟨j,c⟩:=aY c;have c:=sI c;subst c;obtain⟨v,rfl,z,B,R⟩:=rj z;obtain⟨I,F,m,y⟩:=qK z B;have m:dz [.agg [v],.str id,.str area]=[.agg [F],.str id,.str area]:=by simp only[dz,m];rfl
 have j:=oM.1 j;refine jo aep (W:=[]) .nil (args:=[.agg [v],.str id,.str area]) (by show(dL (.agg [v])&&_)=true;rw[I];rfl) (fun M=>?_) G h w xs C H;rw[m];obtain⟨v,s',d,rfl⟩:=amq (Q:=QW SQ [] M) rfl rfl ⟨rfl,rfl⟩ rfl ⟨rfl,rfl⟩ ⟨rfl,rfl⟩ ⟨rfl,rfl⟩ ⟨rfl,rfl⟩ y B (by have:=j.len;omega) (fun o J=>by have:=j.gE o J;omega) j.valid id area (s:=s0) (by decide);exact⟨_,_,d,1,rfl⟩;cases c
