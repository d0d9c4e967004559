/- Lemmas for ValidShown. -/
import Derived.Test.YtnnppcoplinajaaGreatB9
import Derived.Test.YtnnppcoplinajaaGreatB12
import Derived.Test.YtnnppcoplinajaaGreatAg3
set_option linter.all false
open Bool renaming and_eq_true→bq,and_false→gA,and_self→bX,false_and→dL,false_or→jV,not_eq_true'→oA,not_false→mZ,not_true→lD,or_eq_false_iff→zN,true_and→eC
open List renaming all_cons→kx,all_eq_true→fD,append_assoc→oC,append_nil→ky,drop→bL,eq_nil_of_length_eq_zero→vP,filter_append→BH,filter_cons_of_neg→K8,getD_eq_getElem?_getD→m8,getElem?_append_left→GR,getElem?_append_right→xN,getElem?_cons_succ→mg,getElem?_cons_zero→kz,getElem?_eq_getElem→gB,getElem?_eq_some_iff→nR,getElem?_map→jo,getElem?_of_mem→uu,getElem?_zip_eq_some→La,getElem_mem→zS,head?_drop→GV,length_append→de,length_cons→cX,length_filter_le→kA,length_map→bU,length_nil→ct,length_tail→xO,map_append→eK,map_cons→eT,map_eq_nil_iff→zT,map_nil→sQ,mem_append_left→sR,mem_append→hQ,mem_cons_of_mem→iw,mem_cons_self→fE,mem_cons→dG,mem_map→cw,mem_of_getElem?→dM,nodup_append→zU,range→hZ,take_of_length_le→sU,take→cQ
open Nat renaming beq→aK,ble_eq_true_of_le→cN,ble→bu,blt→bh,eq_of_beq_eq_true→jI,le_of_ble_eq_true→fF,le_refl→bj,le_succ_of_le→bW,lt_irrefl→cq,lt_of_lt_of_le→gh,lt_succ_self→jX,mul_one→xS,not_lt_zero→G6,reduceAdd→bH,reduceBEq→ai,reduceDiv→ek,reduceEqDiff→d8,reduceLT→aA,reduceLeDiff→cz,reduceMod→dP,reduceMul→dH,reducePow→dR,reduceSub→dS,zero_add→eM
open Option renaming bind_eq_some_iff→ak,bind_some→bk,map_none→sV,map_some→jZ
open Option.some renaming injEq→aM
open Go.Proofs.Tryz renaming prog→ah
open Go.Ag.W renaming drawX→gi,loopC→bm,loopE→kB,rfun→oE
open Go.Ag.WC renaming sound→bP
namespace Go.Proofs.YtnnppcoplinajaaGreat
open Go.Ag
variable{Q:aF}[Std Q]
def Yw:(dB Fd&&dB Ff)=true:=by kernel_rfl
def adr{r:List Pt}(h:ph r=true):(jT r=true↔ ∀i,i<r.length-> ∀k,k<i->nI r i k=true):=by
 unfold jT;rw[h,eC,fD];simp only[List.mem_range,fD]
variable{i k:Nat}
def axj{r:List Pt}(j:i<r.length)(d:k<i)(h:nI r i k=false):jT r=false:=by
 cases e:jT r with
 |false=>rfl
 |true=>
  have c:ph r=true:=by unfold jT at e;simp only[bq] at e;exact e.1
  have:=(adr c).1 e i j k d;rw[h] at this;cases this
def Dx{r:List Pt}(h:ph r=true):(3<=r.length/\r.length<=2000)/\r.all bg=true:=by
 unfold ph at h;simp only[bq,dE] at h;exact⟨⟨h.1,h.2.1⟩,h.2.2⟩
variable{lc:Ag.Loc}{K:Ex->Fr->St->Prop}{b3 bx:Nat}{rv:aa}{E:aw}
def axf(d:No Q 339)(B:No Q 235)(I:Q.spec 225=some kX){r:List Pt}(hr:au 2 aN rv r)(u:ph r=true){by' b2:Nat}{s0:St}(U:s0.get [] bx=some (.cells [rv]))(R:s0.get [] by'=some (.cells [rv]))(Y:s0.get [] b2=some (.cells [.bool false]))(V:s0.get [] b3=some (.cells [aI r.length]))(lx:bx<s0.aL)(ly:by'<s0.aL)(l2:b2<s0.aL)(l3:b3<s0.aL)(e1:ac E 1= .ptr bx 0)(e2:ac E 2= .ptr b2 0)(e3:ac E 3= .ptr b3 0)(J:ac E 16= .func (.func 339) [] [.ptr by' 0])(Z:E.all jB=true)(M:s0.gE<=s0.aL)(F: ∀x s2,gM r 0 s0 s2->((x= .normal/\jT r=true)\/(x= .ret/\jT r=false))->K x ⟨E,54,lc⟩ s2):W Q 229 (.rfun (.tmp 16) [17,18] Fd Ff) ⟨E,54,lc⟩ s0 K:=by
 obtain⟨⟨a0,w⟩,hn⟩:=Dx u;obtain⟨v,s',m,rfl,h⟩:=Br d hr w (bx:=by') (n:=s0.aL) (P:=fun i s=>gM r 0 s0 s/\s.get [] s0.aL=some (qT E none)/\ ∀j,j<i-> ∀k,k<j->nI r j k=true) (D:=fun s=>gM r 0 s0 s/\s.get [] s0.aL=some (qT E (some .ret))/\jT r=false) (fun k s h=>(h.1.old by' ly).trans R) (fun k s h=>h.1.mw) (fun i s hi ⟨c,hl,y⟩=>by
  obtain⟨v,s',q1,q2,q3,q4,q5⟩:=axe d B I hr w hn hi U Y V lx l2 l3 e1 e2 e3 Z c hl;refine⟨v,s',q1,q2,q3,?_⟩;rcases q5 with⟨rfl,h1,h2⟩|⟨rfl,h1,k,h2,h3⟩
  refine .inl ⟨rfl,q4,h1,fun j z k F=>?_⟩;by_cases e:j=i;subst e;exact h2 k F;exact y j (by omega) k F;exact .inr ⟨rfl,q4,h1,axj hi h2 h3⟩) (s:=s0.new (qT E none)) ⟨⟨fun j z=>cr z,bW M,jX _,rfl⟩,cH,fun j z=>absurd z (G6 _)⟩
 have C:gM r 0 s0 s'->gM r 0 s0 (s'.put s0.aL none):=fun c=>⟨fun j z=>by rw[aU,bN.2 (by omega:j≠s0.aL)];exact c.old j z,cU _ _ _ c.mw,c.lt,c.ci⟩;rcases h with⟨c,O,y⟩|⟨c,O,H⟩
 exact oE (h:=339) (first:=[]) (captured:=[.ptr by' 0]) (v:=.tup []) (s1:=s') (by simp only[dA,J]) (by rw[Std.P,rU,Yw,Z];rfl) m O (F _ _ (C c) (.inl ⟨rfl,(adr u).2 y⟩));exact oE (h:=339) (first:=[]) (captured:=[.ptr by' 0]) (v:=.tup []) (s1:=s') (by simp only[dA,J]) (by rw[Std.P,rU,Yw,Z];rfl) m O (F _ _ (C c) (.inr ⟨rfl,H⟩))
variable{s:St}
def axk(M:No Q 495)(U:No Q 428)(O:No Q 430)(R:No Q 429)(Y:No Q 326)(V:No Q 339)(m:No Q 235)(a1:Q.spec 225=some kX)(a7:No Q 229){r:List Pt}(J:au 2 aN rv r)(a4:s.gE<=s.aL):
 ∃v s',aq Q 229 [rv] s v s'/\(v= .bool (jT r)/\(∀j,j<s.aL->s'.get [] j=s.get [] j)/\s.aL<=s'.aL/\s'.gE<=s'.aL/\s'.ci=s.ci):=by
 have a0:=J.cs;have a3:=vu J;have a5:=J.lenS mR;obtain⟨x,B⟩:=bZ ((s.new (.cells [rv])).new (.cells [.bool false]));have C:(s.new (.cells [rv])).aL=s.aL+1:=rfl;have xn:x.aL=s.aL+2:=by rw[<-B];rfl
 have xm:x.gE<=x.aL:=by rw[<-B];exact bW (bW a4)
 have x0:x.get [] s.aL=some (.cells [rv]):=by rw[<-B,cr (by rw[C];omega)];exact cH
 have x1:x.get [] (s.aL+1)=some (.cells [.bool false]):=by rw[<-B];exact cH
 have xo: ∀j,j<s.aL->x.get [] j=s.get [] j:=fun j d=>by rw[<-B,cr (by rw[C];omega),cr d]
 have xc:x.ci=s.ci:=by rw[<-B];rfl
 have a2:=acQ M U O R Y J x;refine aq.ofNRZ apM (bP ?_);simp only[go_sem,seval,a0,C,B,aP,x0,aQ,rg];refine co.of a2 (by decide) ?_;cases hreg:ph r with
 |false=>
  have hs:jT r=false:=by unfold jT;rw[hreg];rfl
  obtain⟨y,c⟩:=bZ (x.put (s.aL+1) (some (.cells [.bool false])));have yk:y.get [] (s.aL+1)=some (.cells [.bool false]):=by rw[<-c,aU,bS];rfl
  simp only[go_sem,seval,cS,x1,cV,c,aP,yk,aQ];refine⟨_,rfl,by rw[hs],fun j d=>?_,?_,?_,?_⟩;rw[<-c,aU,bN.2 (by omega:j≠s.aL+1)];exact xo j d;rw[<-c];show s.aL<=x.aL;omega;rw[<-c];exact cU _ _ _ xm;rw[<-c];exact xc
 |true=>
  obtain⟨w,H⟩:=bZ ((x.new (.cells [ag 0])).put x.aL (some (.cells [aI r.length])));have a6:(x.new (.cells [ag 0])).get [] x.aL=some (.cells [ag 0]):=cH;have wn:w.aL=s.aL+3:=by
   rw[<-H];show x.aL+1=_;omega
  have wm:w.gE<=w.aL:=by rw[<-H];exact cU _ _ _ (bW xm)
  have wk:w.get [] x.aL=some (.cells [aI r.length]):=by rw[<-H,aU,bS];rfl
  have wo: ∀j,j<x.aL->w.get [] j=x.get [] j:=fun j d=>by rw[<-H,aU,bN.2 (by omega:j≠x.aL),cF,cr d]
  have wc:w.ci=s.ci:=by rw[<-H];exact xc
  have w0:=(wo s.aL (by omega)).trans x0;have z:=Bq m J w;obtain⟨u,I⟩:=bZ (w.new (.cells [rv]));have un:u.aL=s.aL+4:=by
   rw[<-I];show w.aL+1=_;omega
  have um:u.gE<=u.aL:=by rw[<-I];exact bW wm
  have uk:u.get [] w.aL=some (.cells [rv]):=by rw[<-I];exact cH
  have Z: ∀j,j<w.aL->u.get [] j=w.get [] j:=fun j d=>by rw[<-I,cr d]
  have uc:u.ci=s.ci:=by rw[<-I];exact wc
  rw[I] at z;simp only[go_sem,seval,aP,x0,aQ,rg,a0,a5,cS,a6,cV,H,w0];refine co.of z (by decide) ?_;simp only[go_sem,seval];refine axf V m a1 J hreg (bx:=s.aL) (by':=w.aL) (b2:=s.aL+1) (b3:=x.aL) (s0:=u) ?_ uk ?_ ?_ (by omega) (by omega) (by omega) (by omega) ?_ ?_ ?_ ?_ ?_ um ?_;rw[Z _ (by omega)];exact w0;rw[Z _ (by omega),wo _ (by omega)];exact x1;rw[Z _ (by omega)];exact wk;simp only[sN,seval];simp only[sN,seval];simp only[sN,seval];simp only[sN,seval]
  ·repeat' (first|exact rfl|refine aD.all_set ?_ (by first|exact a3|rfl))
  intro ex s2 F hc;have n2:=F.lt;have b2:s2.get [] (s.aL+1)=some (.cells [.bool false]):=by rw[F.old _ (by omega),Z _ (by omega),wo _ (by omega)];exact x1
  have old: ∀j,j<s.aL->s2.get [] j=s.get [] j:=fun j d=>by rw[F.old _ (by omega),Z _ (by omega),wo _ (by omega)];exact xo j d
  rcases hc with⟨rfl,hs⟩|⟨rfl,hs⟩
  obtain⟨y,c⟩:=bZ (s2.put (s.aL+1) (some (.cells [.bool true])));have yk:y.get [] (s.aL+1)=some (.cells [.bool true]):=by rw[<-c,aU,bS];rfl
  simp only[go_sem,seval,cS,b2,cV,c,aP,yk,aQ];refine⟨_,rfl,by rw[hs],fun j d=>?_,?_,?_,?_⟩;rw[<-c,aU,bN.2 (by omega:j≠s.aL+1)];exact old j d;rw[<-c];show s.aL<=s2.aL;omega;rw[<-c];exact cU _ _ _ F.mw;rw[<-c];exact F.ci.trans uc;simp only[go_sem,seval,aP,b2,aQ];exact⟨_,rfl,by rw[hs],old,by omega,F.mw,F.ci.trans uc⟩
def rK(v:aa):Option (List Pt):=dW 2 jv v
variable{v:aa}
def we{r:List Pt}(h:rK v=some r):au 2 aN v r/\dy v=true/\au 2 aN (cu v) r:=by
 have c:au 2 aN v r:=ig (fun _ _ h=>lM h) h;exact⟨c,nz Ga c⟩
theorem qw{r:List Pt}(h:au 2 aN v r):rK v=some r:=by
 rcases h with⟨rfl,rfl⟩|⟨k,rfl⟩
 rfl;show(bif aK 2 2 then ij jv (r.map aN) else none)=_;exact yV wd r
def pW:Sp
 | [v]=>(rK v).bind fun r=>some (.bool (jT r))
 |_=>none
def Kz{r:List Pt}(h:au 2 aN v r):pW [v]=some (.bool (jT r)):=by
 simp only[pW,qw h,bk]
def TW:df:=[(225,kX)]
def afy:dl TW:=.cons Qc .nil
def KA:cL ah 229 pW:=by
 intro d u h G z w xs j m;unfold pW at h;split at h;simp only[ak] at h;obtain⟨r,C,h⟩:=h;have h:=sI h;subst h;obtain⟨_,B,y⟩:=we C;refine iu afy (W:=[]) .nil (by simp only[dK,B,bX]) (fun F=>?_) G z w xs j m;obtain⟨v,s',c,rfl,_⟩:=axk (Q:=QW TW [] F) ⟨rfl,rfl⟩ ⟨rfl,rfl⟩ ⟨rfl,rfl⟩ ⟨rfl,rfl⟩ ⟨rfl,rfl⟩ ⟨rfl,rfl⟩ ⟨rfl,rfl⟩ rfl ⟨rfl,rfl⟩ y (s:=s0) (by decide);exact⟨_,_,c,1,rfl⟩;cases h
def hJ(p:Pt):Bool:=(b9 (-4194304) p.1&&b9 p.1 4194304)&&(b9 (-4194304) p.2&&b9 p.2 4194304)
variable{p:Pt}
def SL(h:hJ p=true):(-4194304<=p.1/\p.1<=4194304)/\(-4194304<=p.2/\p.2<=4194304):=by
 simp only[hJ,b9,bq,dE] at h;exact h
def KO{x y:Int}(d: -4194304<=x/\x<=4194304)(c: -4194304<=y/\y<=4194304): -8388608<=x-y/\x-y<=8388608:=by omega
def ayF(d:No Q 442){a b c:Pt}(M:hJ a=true)(J:hJ b=true)(I:hJ c=true)(s:St):aq Q 442 [aN a,aN b,aN c] s (bF (vI a b c)) s:=by
 have⟨a1,a2⟩:=SL M;have⟨b1,b2⟩:=SL J;have⟨c1,c2⟩:=SL I;have C:=DR b1 a1;have B:=DR c2 b2;have z:=DR b2 a2;have y:=DR c1 b1;have u:=KO b1 a1;have m:=KO c2 b2;have d3:=KO b2 a2;have j:=KO c1 b1;have H:=FQ u m;have F:=FQ d3 j;have R:=C7 u m;have O:=C7 d3 j;have w:IntKind.i64.wrap ((b.1-a.1)*(c.2-b.2)-(b.2-a.2)*(c.1-b.1))=(b.1-a.1)*(c.2-b.2)-(b.2-a.2)*(c.1-b.1):=jf (by omega) (by omega);refine aq.ofNZ aqP (bP ?_);simp only[go_sem,seval,aN,bF,vI,C,B,z,y,H,F,w,qy]
def agT(c:No Q 443)(a n b:Int)(s:St):aq Q 443 [ag a,ag n,ag b] s (.bool (rM a n b)) s:=by
 have d:rM a n b=(b9 (min a b) n&&b9 n (max a b)):=rfl;refine aq.ofNZ aqQ (bP ?_);rw[d];cases e1:b9 (min a b) n with
 |false=>simp only[go_sem,seval,rP,rN,e1,dL]
 |true=>simp only[go_sem,seval,rP,rN,e1,eC]
def zH:Sp
 | [u,v,w]=>(jv u).bind fun a=>(jv v).bind fun b=>(jv w).bind fun c=>bif hJ a&&(hJ b&&hJ c) then some (bF (vI a b c)) else none
 |_=>none
def ayC{a b c:Pt}(m:hJ a=true)(j:hJ b=true)(d:hJ c=true):zH [aN a,aN b,aN c]=some (bF (vI a b c)):=by
 simp only[dX,zH,wd,m,j,d,bX]
def ayD:cL ah 442 zH:=by
 refine GD (T:=[]) .nil (W:=[]) .nil fun j u h=>?_;unfold zH at h;split at h;simp only[ak] at h;obtain⟨a,y,b,w,c,m,h⟩:=h;obtain⟨d,h⟩:=bc h;simp only[bq] at d;have h:=sI h;subst h;rw[lM y,lM w,lM m];exact⟨rfl,fun z=>⟨_,_,ayF (Q:=QW [] [] z) ⟨rfl,rfl⟩ d.1 d.2.1 d.2.2 _,1,rfl⟩⟩;cases h
def wq:Sp
 | [.int .i64 a,.int .i64 n,.int .i64 b]=>some (.bool (rM a n b))
 |_=>none
def agS:cL ah 443 wq:=by
 refine GD (T:=[]) .nil (W:=[]) .nil fun c u h=>?_;unfold wq at h;split at h;have h:=sI h;subst h;exact⟨rfl,fun d=>⟨_,_,agT (Q:=QW [] [] d) ⟨rfl,rfl⟩ _ _ _ _,1,rfl⟩⟩;cases h
theorem DD(r:List Pt):(fK r).length=r.length:=by
 unfold fK;rw[List.length_zip,de,xO,List.length_take];omega
def DC{r:List Pt}(c:i<r.length):(fK r)[i]? =some (eE r i):=by
 have d:(i+1) % r.length<r.length:=Nat.mod_lt _ (by omega);rw[adk (gB c) (gB d)];unfold fK;rw[La];refine⟨gB c,?_⟩;by_cases e:i+1<r.length;have:i<r.tail.length:=by rw[xO];omega
 rw[GR this,List.getElem?_tail,gB e];simp only[Nat.mod_eq_of_lt e];have u:i+1=r.length:=by omega
 have:r.tail.length<=i:=by rw[xO];omega
 rw[xN this,xO];have m:i-(r.length-1)=0:=by omega
 have j:(i+1) % r.length=0:=by rw[u,Nat.mod_self]
 rw[m,List.getElem?_take,iP (by omega)];simp only[j];rw[gB]
noncomputable abbrev pM(E:aw)(x:Option Ex):aJ:=.loop 342 E 88 [11,12] Ft Fu x
structure Lz (e e':aw):Prop where
 h3:ac e' 3=ac e 3
 h4:ac e' 4=ac e 4
 h5:ac e' 5=ac e 5
 h7:ac e' 7=ac e 7
 h8:ac e' 8=ac e 8
variable{N:Fr->St->Prop}{T:Int}{b7:Nat}{e:aw}{S:bK}
def avI(c:Q.spec 443=some wq)(w:ac e 3= .ptr b3 0)(u:ac e 7= .ptr b7 0)(m:ac e 8=ag T)(g3:s.get [] b3=some (.cells [ag p.1,ag p.2]))(j:s.get [] b7=some (.cells (bO S).cells))(h: ∀y,ac y 19= .bool (an T 0&&(rM S.1.1 p.1 S.2.1&&rM S.1.2 p.2 S.2.2))->Lz e y->N ⟨y,88,lc⟩ s):WV Q 342 kh ⟨e,88,lc⟩ s N:=by
 simp only[bO,lO] at j;have d:wq [ag S.1.1,ag p.1,ag S.2.1]=some (.bool (rM S.1.1 p.1 S.2.1)):=rfl;have z:wq [ag S.1.2,ag p.2,ag S.2.2]=some (.bool (rM S.1.2 p.2 S.2.2)):=rfl;cases c1:an T 0 with
 |false=>
  simp only[go_sem,seval,kh,kI,kW,w,u,m,g3,j,aP,aQ,c1];refine h _ ?_ ⟨?_,?_,?_,?_,?_⟩
  all_goals simp only[sN,seval,c1,dL]
 |true=>
  cases c2:rM S.1.1 p.1 S.2.1 with
  |false=>
   rw[c2] at d;simp only[go_sem,seval,kh,kI,kW,w,u,m,g3,j,aP,aQ,c1,c,d];refine h _ ?_ ⟨?_,?_,?_,?_,?_⟩
   all_goals simp only[sN,seval,c1,c2,dL,gA]
  |true=>
   rw[c2] at d;simp only[go_sem,seval,kh,kI,kW,w,u,m,g3,j,aP,aQ,c1,c,d,z];refine h _ ?_ ⟨?_,?_,?_,?_,?_⟩
   all_goals simp only[sN,seval,c1,c2,eC]
def avJ(m:ac e 3= .ptr b3 0)(j:ac e 7= .ptr b7 0)(d:ac e 8=ag T)(g3:s.get [] b3=some (.cells [ag p.1,ag p.2]))(c:s.get [] b7=some (.cells (bO S).cells))(h: ∀u,ac u 44= .bool (b9 S.1.2 p.2&&(aX p.2 S.2.2&&aX 0 T))->Lz e u->N ⟨u,88,lc⟩ s):WV Q 342 kI ⟨e,88,lc⟩ s N:=by
 simp only[bO,lO] at c;cases c1:b9 S.1.2 p.2 with
 |false=>
  simp only[go_sem,seval,kh,kI,kW,m,j,d,g3,c,aP,aQ,c1];refine h _ ?_ ⟨?_,?_,?_,?_,?_⟩
  all_goals simp only[sN,seval,c1,dL]
 |true=>
  cases c2:aX p.2 S.2.2 with
  |false=>
   simp only[go_sem,seval,kh,kI,kW,m,j,d,g3,c,aP,aQ,c1,c2];refine h _ ?_ ⟨?_,?_,?_,?_,?_⟩
   all_goals simp only[sN,seval,c1,c2,dL,gA]
  |true=>
   simp only[go_sem,seval,kh,kI,kW,m,j,d,g3,c,aP,aQ,c1,c2];refine h _ ?_ ⟨?_,?_,?_,?_,?_⟩
   all_goals simp only[sN,seval,c1,c2,eC]
def avK(m:ac e 3= .ptr b3 0)(j:ac e 7= .ptr b7 0)(d:ac e 8=ag T)(g3:s.get [] b3=some (.cells [ag p.1,ag p.2]))(c:s.get [] b7=some (.cells (bO S).cells))(h: ∀u,ac u 65= .bool (aX p.2 S.1.2&&(b9 S.2.2 p.2&&aX T 0))->Lz e u->N ⟨u,88,lc⟩ s):WV Q 342 kW ⟨e,88,lc⟩ s N:=by
 simp only[bO,lO] at c;cases c1:aX p.2 S.1.2 with
 |false=>
  simp only[go_sem,seval,kh,kI,kW,m,j,d,g3,c,aP,aQ,c1];refine h _ ?_ ⟨?_,?_,?_,?_,?_⟩
  all_goals simp only[sN,seval,c1,dL]
 |true=>
  cases c2:b9 S.2.2 p.2 with
  |false=>
   simp only[go_sem,seval,kh,kI,kW,m,j,d,g3,c,aP,aQ,c1,c2];refine h _ ?_ ⟨?_,?_,?_,?_,?_⟩
   all_goals simp only[sN,seval,c1,c2,dL,gA]
  |true=>
   simp only[go_sem,seval,kh,kI,kW,m,j,d,g3,c,aP,aQ,c1,c2];refine h _ ?_ ⟨?_,?_,?_,?_,?_⟩
   all_goals simp only[sN,seval,c1,c2,eC]
structure mn (b5:Nat) (s0 s:St):Prop where
 old: ∀j,j<s0.aL->j≠b5->s.get [] j=s0.get [] j
 mw:s.gE<=s.aL
 lt:s0.aL<s.aL
 ci:s.ci=s0.ci
variable{l:List bK}
def aac{w:Int}:yP p (S::l) w=bif Bc S p then 0 else yP p l (w+vN S p):=rfl
variable{n:Int}{b4 b5:Nat}
def asr(a2:Q.spec 442=some zH)(a1:Q.spec 443=some wq)(wa:hJ S.1=true)(wb:hJ S.2=true)(wp:hJ p=true)(hi:i<=2000){s0:St}(a7:s0.get [] b3=some (.cells [ag p.1,ag p.2]))(a0:s0.get [] b4=some (.cells [ag 0]))(l3:b3<s0.aL)(l4:b4<s0.aL)(l5:b5<s0.aL)(d3:b3≠b5)(d4:b4≠b5)(e3:ac E 3= .ptr b3 0)(e4:ac E 4= .ptr b4 0)(e5:ac E 5= .ptr b5 0)(hI:mn b5 s0 s)(hl:s.get [] s0.aL=some (pM E none))(a3:s.get [] b5=some (.cells [ag n]))(hn: -(i:Int)<=n/\n<=i):
 ∃v s',iI Q s0.aL [aI i,bO S] s.top v s'/\(s'.ci=s.ci/\s.aL<=s'.aL/\mn b5 s0 (s.GE s')/\((v= .bool true/\Bc S p=false/\s'.get [] s0.aL=some (pM E none)/\s'.get [] b5=some (.cells [ag (n+vN S p)]))\/(v= .bool false/\Bc S p=true/\s'.get [] s0.aL=some (pM E (some .ret))))):=by
 have a8:=hI.lt;have a5:=hI.mw;have hq:=ayC wa wb wp;obtain⟨T,hT⟩:=bZ (vI S.1 S.2 p);rw[hT] at hq;simp only[aN,bF] at hq;have a4:Bc S p=(an T 0&&(rM S.1.1 p.1 S.2.1&&rM S.1.2 p.2 S.2.2)):=by rw[<-hT];rfl
 have c:vN S p=bif(b9 S.1.2 p.2&&(aX p.2 S.2.2&&aX 0 T)) then 1 else bif(aX p.2 S.1.2&&(b9 S.2.2 p.2&&aX T 0)) then-1 else 0:=by rw[<-hT];rfl
 refine iI.any (ca:=Po) (cb:=Pp) (show s.top.get [] s0.aL=_ from hl) rfl rfl aqC aqD ?_;refine bP ?_;obtain⟨w,hw⟩:=bZ (s.top.put s0.aL none);have wn:w.aL=s.aL:=by rw[<-hw];rfl
 have wo: ∀j,j≠s0.aL->w.get [] j=s.get [] j:=fun j B=>by rw[<-hw,aU,bN.2 B];rfl
 have wm:w.gE<=w.aL:=by rw[<-hw];exact cU s.top _ _ (bj _)
 obtain⟨z,I⟩:=bZ ((w.new (.cells [ag 0,ag 0,ag 0,ag 0])).put w.aL (some (.cells (bO S).cells)));have zn:z.aL=s.aL+1:=by rw[<-I,<-wn];rfl
 have zc:z.ci=s.ci:=by rw[<-I,<-hw];rfl
 have zm:z.gE<=z.aL:=by rw[<-I];exact cU _ _ _ (bW wm)
 have zk:z.get [] w.aL=some (.cells (bO S).cells):=by rw[<-I,aU,bS];rfl
 have zs: ∀j,j<s.aL->j≠s0.aL->z.get [] j=s.get [] j:=fun j B d=>by rw[<-I,aU,bN.2 (by omega:j≠w.aL),cF,cr (by omega),wo j d]
 have V: ∀j,j<s0.aL->j≠b5->z.get [] j=s0.get [] j:=fun j B d=>(zs j (by omega) (by omega)).trans (hI.old j B d);have z3:=(V b3 l3 d3).trans a7;have z4:=(V b4 l4 d4).trans a0;have z5:=(zs b5 (by omega) (by omega)).trans a3;simp only[bO,lO] at I;have a6:(w.new (.cells [ag 0,ag 0,ag 0,ag 0])).get [] w.aL=some (.cells [ag 0,ag 0,ag 0,ag 0]):=cH;simp only[go_sem,seval,kh,kI,kW,Po,bO,hw,cS,a6,cV,I,bf,aZ,aW,aY,evc];have fin: ∀(u:St) (o:Option Ex),(∀j,j<s0.aL->j≠b5->u.get [] j=s0.get [] j)->u.aL=s.aL+1->u.ci=s.ci->u.gE<=u.aL->(u.put s0.aL (some (pM E o))).ci=s.ci/\s.aL<=(u.put s0.aL (some (pM E o))).aL/\mn b5 s0 (s.GE (u.put s0.aL (some (pM E o))))/\(u.put s0.aL (some (pM E o))).get [] s0.aL=some (pM E o)/\(u.put s0.aL (some (pM E o))).get [] b5=u.get [] b5:=fun u o q1 q2 q3 q4=>by
  have qn:(u.put s0.aL (some (pM E o))).aL=s.aL+1:=q2;refine⟨q3,by omega,⟨fun j B d=>?_,pL a5 (by omega),?_,q3.trans hI.ci⟩,by rw[aU,bS];rfl,by rw[aU,bN.2 (by omega:b5≠s0.aL)];rfl⟩;rw[lR,aU,bN.2 (by omega:j≠s0.aL)];exact q1 j B d;show s0.aL<(u.put s0.aL (some (pM E o))).aL;omega
 refine bP ?_;have Z:=zk;simp only[bO,lO] at Z;simp only[go_sem,seval,Pp,e3,z3,Z,aP,aQ,a2,hq];refine avI a1 (b3:=b3) (b7:=w.aL) (p:=p) (S:=S) (T:=T) ?_ ?_ ?_ z3 zk ?_;simp only[sN,seval,e3];simp only[sN,seval];simp only[sN,seval];intro e1 C ⟨k3,k4,k5,k7,k8⟩;simp only[sN,seval,e3,e4,e5] at k3 k4 k5 k7 k8;rw[<-a4] at C;cases ho:Bc S p with
 |true=>
  rw[ho] at C;obtain⟨y,m⟩:=bZ (z.put b4 (some (.cells [ag 0])));have yo: ∀j,j<s0.aL->j≠b5->y.get [] j=s0.get [] j:=fun j B d=>by
   rw[<-m,aU];cases e:j==b4 with
   |true=>
    have:=eq_of_beq e;subst this;exact a0.symm
   |false=>exact V j B d
  obtain⟨U,R,O,M,Y⟩:=fin y (some .ret) yo (by rw[<-m];exact zn) (by rw[<-m];exact zc) (by rw[<-m];exact cU _ _ _ zm);simp only[go_sem,seval,kh,kI,kW,C,k4,z4,cS,cV,m,ji,jl];exact⟨U,R,O,.inr M⟩
 |false=>
  rw[ho] at C;simp only[go_sem,seval,kh,C];refine avJ (b3:=b3) (b7:=w.aL) (p:=p) (S:=S) (T:=T) k3 k7 k8 z3 zk ?_;intro b0 H ⟨j3,j4,j5,j7,j8⟩;cases h7:(b9 S.1.2 p.2&&(aX p.2 S.2.2&&aX 0 T)) with
  |true=>
   rw[h7] at H c;have c:vN S p=1:=c;obtain⟨y,m⟩:=bZ (z.put b5 (some (.cells [ag (n+1)])));have J:IntKind.i64.wrap (n+1)=n+1:=jf (by omega) (by omega);have yo: ∀j,j<s0.aL->j≠b5->y.get [] j=s0.get [] j:=fun j B d=>by rw[<-m,aU,bN.2 d];exact V j B d
   obtain⟨U,R,O,M,Y⟩:=fin y none yo (by rw[<-m];exact zn) (by rw[<-m];exact zc) (by rw[<-m];exact cU _ _ _ zm);have y5:y.get [] b5=some (.cells [ag (n+1)]):=by rw[<-m,aU,bS];rfl
   simp only[go_sem,seval,kh,kI,kW,H,j5,k5,z5,aP,aQ,J,cS,cV,m,ji,jl];exact⟨U,R,O,.inl ⟨M,by rw[c];exact Y.trans y5⟩⟩
  |false=>
   rw[h7] at H c;simp only[go_sem,seval,kh,kI,H];refine avK (b3:=b3) (b7:=w.aL) (p:=p) (S:=S) (T:=T) (j3.trans k3) (j7.trans k7) (j8.trans k8) z3 zk ?_;intro a9 F ⟨i3,i4,i5,i7,i8⟩;cases h9:(aX p.2 S.1.2&&(b9 S.2.2 p.2&&aX T 0)) with
   |true=>
    rw[h9] at F c;have c:vN S p= -1:=c;obtain⟨y,m⟩:=bZ (z.put b5 (some (.cells [ag (n-1)])));have J:IntKind.i64.wrap (n-1)=n-1:=jf (by omega) (by omega);have yo: ∀j,j<s0.aL->j≠b5->y.get [] j=s0.get [] j:=fun j B d=>by rw[<-m,aU,bN.2 d];exact V j B d
    obtain⟨U,R,O,M,Y⟩:=fin y none yo (by rw[<-m];exact zn) (by rw[<-m];exact zc) (by rw[<-m];exact cU _ _ _ zm);have y5:y.get [] b5=some (.cells [ag (n-1)]):=by rw[<-m,aU,bS];rfl
    simp only[go_sem,seval,kh,kI,kW,F,i5,j5,k5,z5,aP,aQ,J,cS,cV,m,ji,jl];exact⟨U,R,O,.inl ⟨M,by rw[c];exact Y.trans y5⟩⟩
   |false=>
    rw[h9] at F c;have c:vN S p=0:=c;obtain⟨U,R,O,M,Y⟩:=fin z none V zn zc zm;simp only[go_sem,seval,kh,kI,kW,F,ji,jl];exact⟨U,R,O,.inl ⟨M,by rw[c,Int.add_zero];exact Y.trans z5⟩⟩
def Zn:(dB Ft&&dB Fu)=true:=by kernel_rfl
def azy{r:List Pt}(c:r.all hJ=true)(d:i<r.length):hJ (eE r i).1=true/\hJ (eE r i).2=true:=by
 have h:=fD.1 c;have j:(i+1) % r.length<r.length:=Nat.mod_lt _ (by omega);unfold eE;rw[gB d,gB j];exact⟨h _ (zS _),h _ (zS _)⟩
def azz(S:bK)(p:Pt): -1<=vN S p/\vN S p<=1:=by
 unfold vN;cases (b9 S.1.2 p.2&&(aX p.2 S.2.2&&aX 0 (vI S.1 S.2 p))) with
 |true=>simp
 |false=>
  cases (aX p.2 S.1.2&&(b9 S.2.2 p.2&&aX (vI S.1 S.2 p) 0))<;>simp
def asq(u:No Q 339)(F:Q.spec 442=some zH)(C:Q.spec 443=some wq){r:List Pt}(hr:au 2 aN rv r)(z:r.length<=2000)(hn:r.all hJ=true)(wp:hJ p=true){s0:St}(U:s0.get [] bx=some (.cells [rv]))(Z:s0.get [] b3=some (.cells [ag p.1,ag p.2]))(Y:s0.get [] b4=some (.cells [ag 0]))(V:s0.get [] b5=some (.cells [ag 0]))(lx:bx<s0.aL)(l3:b3<s0.aL)(l4:b4<s0.aL)(l5:b5<s0.aL)(dx:bx≠b5)(d3:b3≠b5)(d4:b4≠b5)(e3:ac E 3= .ptr b3 0)(e4:ac E 4= .ptr b4 0)(e5:ac E 5= .ptr b5 0)(H:ac E 10= .func (.func 339) [] [.ptr bx 0])(hE:E.all jB=true)(O:s0.gE<=s0.aL)(hk: ∀x I,mn b5 s0 I->((x= .normal/\ ∃w,I.get [] b5=some (.cells [ag w])/\qO r p=bif an w 0 then-1 else 1)\/(x= .ret/\qO r p=0))->K x ⟨E,88,lc⟩ I):W Q 342 (.rfun (.tmp 10) [11,12] Ft Fu) ⟨E,88,lc⟩ s0 K:=by
 obtain⟨v,s',m,rfl,h⟩:=Br u hr z (bx:=bx) (n:=s0.aL) (P:=fun i s=>mn b5 s0 s/\s.get [] s0.aL=some (pM E none)/\ ∃w:Int,(-(i:Int)<=w/\w<=i)/\s.get [] b5=some (.cells [ag w])/\yP p ((fK r).drop i) w=qO r p) (D:=fun s=>mn b5 s0 s/\s.get [] s0.aL=some (pM E (some .ret))/\qO r p=0) (fun k s h=>(h.1.old bx lx dx).trans U) (fun k s h=>h.1.mw) (fun i s hi ⟨c,B,w,hw,h5,d⟩=>by
  obtain⟨wa,wb⟩:=azy hn hi;obtain⟨v,s',q1,q2,q3,q4,q5⟩:=asr F C wa wb wp (by omega:i<=2000) Z Y l3 l4 l5 d3 d4 e3 e4 e5 c B h5 hw;rw[Wc (DC hi),aac] at d;refine⟨v,s',q1,q2,q3,?_⟩;rcases q5 with⟨rfl,J,h1,h2⟩|⟨rfl,J,h1⟩
  rw[J] at d;have hb:=azz (eE r i) p;exact .inl ⟨rfl,q4,h1,_,by omega,h2,d⟩;rw[J] at d;exact .inr ⟨rfl,q4,h1,d.symm⟩) (s:=s0.new (pM E none)) ⟨⟨fun j R _=>cr R,bW O,jX _,rfl⟩,cH,0,by simp,(cr l5).trans V,rfl⟩
 have y:mn b5 s0 s'->mn b5 s0 (s'.put s0.aL none):=fun c=>⟨fun j R M=>by rw[aU,bN.2 (by omega:j≠s0.aL)];exact c.old j R M,cU _ _ _ c.mw,c.lt,c.ci⟩;rcases h with⟨c,d,w,hw,h5,B⟩|⟨c,d,B⟩
 refine oE (h:=339) (first:=[]) (captured:=[.ptr bx 0]) (v:=.tup []) (s1:=s') (by simp only[dA,H]) (by rw[Std.P,rU,Zn,hE];rfl) m d (hk _ _ (y c) (.inl ⟨rfl,w,?_,?_⟩));rw[aU,bN.2 (by omega:b5≠s0.aL)];exact h5;rw[<-B,List.drop_eq_nil_of_le (by rw[DD];exact bj _)];rfl;exact oE (h:=339) (first:=[]) (captured:=[.ptr bx 0]) (v:=.tup []) (s1:=s') (by simp only[dA,H]) (by rw[Std.P,rU,Zn,hE];rfl) m d (hk _ _ (y c) (.inr ⟨rfl,B⟩))
def asw(m:No Q 339)(z:No Q 235)(O:Q.spec 442=some zH)(M:Q.spec 443=some wq)(a4:No Q 342){r:List Pt}(U:au 2 aN rv r)(J:r.length<=2000)(hn:r.all hJ=true)(wp:hJ p=true)(a1:s.gE<=s.aL):
 ∃v s',aq Q 342 [rv,aN p] s v s'/\v=ag (qO r p):=by
 have a3:=U.ge;have a0:=vu U;obtain⟨x,C⟩:=bZ ((s.new (.cells [ag p.1,ag p.2])).new (.cells [ag 0]));have I:(s.new (.cells [ag p.1,ag p.2])).aL=s.aL+1:=rfl;have xn:x.aL=s.aL+2:=by rw[<-C];rfl
 have xm:x.gE<=x.aL:=by rw[<-C];exact bW (bW a1)
 have x0:x.get [] s.aL=some (.cells [ag p.1,ag p.2]):=by rw[<-C,cr (by rw[I];omega)];exact cH
 have x1:x.get [] (s.aL+1)=some (.cells [ag 0]):=by rw[<-C];exact cH
 obtain⟨w,F⟩:=bZ ((x.new (.cells [ag 0])).put x.aL (some (.cells [ag 0])));have a2:(x.new (.cells [ag 0])).get [] x.aL=some (.cells [ag 0]):=cH;have wn:w.aL=s.aL+3:=by
  rw[<-F];show x.aL+1=_;omega
 have wm:w.gE<=w.aL:=by rw[<-F];exact cU _ _ _ (bW xm)
 have wk:w.get [] x.aL=some (.cells [ag 0]):=by rw[<-F,aU,bS];rfl
 have Y: ∀j,j<x.aL->w.get [] j=x.get [] j:=fun j hj=>by rw[<-F,aU,bN.2 (by omega:j≠x.aL),cF,cr hj]
 have c:=Bq z U w;obtain⟨u,H⟩:=bZ (w.new (.cells [rv]));have un:u.aL=s.aL+4:=by
  rw[<-H];show w.aL+1=_;omega
 have um:u.gE<=u.aL:=by rw[<-H];exact bW wm
 have uk:u.get [] w.aL=some (.cells [rv]):=by rw[<-H];exact cH
 have R: ∀j,j<w.aL->u.get [] j=w.get [] j:=fun j hj=>by rw[<-H,cr hj]
 rw[H] at c;refine aq.ofNRZ aqE (bP ?_);simp only[go_sem,seval,kh,kI,kW,aN,a3,I,C,a2,cS,cV,F];refine co.of c (by decide) ?_;simp only[go_sem,seval,kh,kI,kW];refine asq m O M U J hn wp (bx:=w.aL) (b3:=s.aL) (b4:=s.aL+1) (b5:=x.aL) (s0:=u) uk ?_ ?_ ?_ (by omega) (by omega) (by omega) (by omega) (by omega) (by omega) (by omega) ?_ ?_ ?_ ?_ ?_ um ?_;rw[R _ (by omega),Y _ (by omega)];exact x0;rw[R _ (by omega),Y _ (by omega)];exact x1;rw[R _ (by omega)];exact wk;simp only[sN,seval];simp only[sN,seval];simp only[sN,seval];simp only[sN,seval]
 ·repeat' (first|exact rfl|refine aD.all_set ?_ (by first|exact a0|rfl))
 intro ex Z hI hc;have b4:Z.get [] (s.aL+1)=some (.cells [ag 0]):=by rw[hI.old _ (by omega) (by omega),R _ (by omega),Y _ (by omega)];exact x1
 rcases hc with⟨rfl,wi,h5,d⟩|⟨rfl,d⟩
 cases hz:an wi 0 with
 |true=>
  rw[hz] at d;obtain⟨y,B⟩:=bZ (Z.put (s.aL+1) (some (.cells [ag (-1)])));have V:y.get [] (s.aL+1)=some (.cells [ag (-1)]):=by rw[<-B,aU,bS];rfl
  simp only[go_sem,seval,kh,kI,kW,aP,h5,hz,aQ,cS,b4,cV,B,V];exact⟨_,rfl,by rw[d];rfl⟩
 |false=>
  rw[hz] at d;obtain⟨y,B⟩:=bZ (Z.put (s.aL+1) (some (.cells [ag 1])));have V:y.get [] (s.aL+1)=some (.cells [ag 1]):=by rw[<-B,aU,bS];rfl
  simp only[go_sem,seval,kh,kI,kW,aP,h5,hz,aQ,cS,b4,cV,B,V];exact⟨_,rfl,by rw[d];rfl⟩
 simp only[go_sem,seval,kh,kI,kW,aP,b4,aQ];exact⟨_,rfl,by rw[d]⟩
def vg:Sp
 | [u,v]=>(rK u).bind fun r=>(jv v).bind fun p=>bif decide (r.length<=2000)&&(r.all hJ&&hJ p) then some (bF (qO r p)) else none
 |_=>none
def TX:df:=[(442,zH),(443,wq)]
def afz:dl TX:=.cons ayD (.cons agS .nil)
def aak{r:List Pt}(h:au 2 aN v r)(j:r.length<=2000)(d:r.all hJ=true)(c:hJ p=true):vg [v,aN p]=some (bF (qO r p)):=by
 simp only[dX,vg,qw h,wd,dQ j,d,c,bX]
def aal:cL ah 342 vg:=by
 intro j u h G C w xs m y;unfold vg at h;split at h;simp only[ak] at h;obtain⟨r,I,p,H,h⟩:=h;obtain⟨d,h⟩:=bc h;simp only[bq,dE] at d;have h:=sI h;subst h;obtain⟨_,F,z⟩:=we I;have B:=lM H;subst B;refine iu afz (W:=[]) .nil (by simp only[dK,F,eC];rfl) (fun J=>?_) G C w xs m y;obtain⟨v,s',c,rfl⟩:=asw (Q:=QW TX [] J) ⟨rfl,rfl⟩ ⟨rfl,rfl⟩ rfl rfl ⟨rfl,rfl⟩ z d.1 d.2.1 d.2.2 (s:=s0) (by decide);exact⟨_,_,c,1,rfl⟩;cases h
def BP(sz lo:Nat)(s:St)(ov:aa)(xs:List aa):Prop:= ∃k,ov= .list sz xs (.own k)/\s.get [] k=some .tok/\lo<=k/\k<s.aL
variable{xs:List aa}{lo:Nat}{ov:aa}
def BP.ge{sz:Nat}(h:BP sz lo s ov xs):ov.ge=true:=by
 obtain⟨k,rfl,_⟩:=h;rfl
def agp{t:TypeId}{E:EI}{sz:Nat}(F:lY ah t=some E)(w:E.n=sz)(C:E.b<=88){y y0:aa}(h:BP sz lo s ov xs)(j:ee [] E.g E.n y s=some [y0])(d:xs.length<=900000)(z:s.gE<=s.aL):
 ∃c s',eU ah [] t ov y false s=some (c,s')/\BP sz lo s' c (xs++[y0])/\s'.ci=s.ci/\s.aL<=s'.aL/\s'.gE<=s'.aL/\(∀n,n<lo->s'.get [] n=s.get [] n):=by
 subst w;obtain⟨k,rfl,B,I,H⟩:=h;have m:iR (xs.length+ [y0].length) E.b=true:=vw (by simp only[cX,ct];omega) C;refine⟨.list E.n (xs++[y0]) (.own s.aL),(s.put k none).new .tok,?_,⟨s.aL,rfl,by rw[eN,mL,bS];rfl,by omega,jX _⟩,rfl,Nat.le_succ _,bW (cU s k none z),fun n u=>?_⟩;simp only[fc,eU,F,bk,j,ju,B,m,bX];rw[eN,mL,bN.2 (by omega),cF,aU,bN.2 (by omega)];rfl
def zI(p:Pt):Pt:=(2*p.1,2*p.2)
def wY(h:bg p=true):(-2097152<=p.1/\p.1<=2097152)/\(-2097152<=p.2/\p.2<=2097152):=by
 simp only[bg,aX,bq,oA,decide_eq_false_iff_not] at h;omega
def aiW{r:List Pt}(h:r.all bg=true):(oP r).all hJ=true:=by
 rw[fD];intro q c;obtain⟨p,d,rfl⟩:=cw.1 c
 have:=wY (fD.1 h p d);simp only[hJ,b9,bq,dE];omega
def ayL(c:No Q 341)(m:bg p=true)(s:St):aq Q 341 [aN p] s (aN (zI p)) s:=by
 have u:=wY m;have j:IntKind.i64.wrap (2*p.1)=2*p.1:=jf (by omega) (by omega);have d:IntKind.i64.wrap (2*p.2)=2*p.2:=jf (by omega) (by omega);have h: ∃v s',aq Q 341 [aN p] s v s'/\(v=aN (zI p)/\s'=s):=by
  refine aq.ofNRZ aqB (bP ?_);simp only[go_sem,seval,aN,zI,j,d,qy,bf,aZ,aW,aY,evc];exact⟨_,rfl,by simp[zI,aN]⟩
 obtain⟨_,_,h,rfl,rfl⟩:=h;exact h
def asH(H:No Q 341){r:List Pt}(hr:au 2 aN rv r)(a9:r.length<=2000)(hn:r.all bg=true){s0:St}(hx: ∀e lc s ov,BP 2 lo s ov ((oP r).map aN)->(∀k,k<lo->s.get [] k=s0.get [] k)->s.gE<=s.aL->lo<=s.aL->s.ci=s0.ci->ac e 5=ov->K (.exit 0) ⟨e,25,lc⟩ s):
 ∀(d c:List Pt) (e:aw) (lc:Ag.Loc) (s:St) (ov:aa),r=c++d->BP 2 lo s ov ((oP c).map aN)->(∀k,k<lo->s.get [] k=s0.get [] k)->s.gE<=s.aL->lo<=s.aL->s.ci=s0.ci->ac e 5=ov->ac e 1= .func (.func 341) [] []->ac e 11=rv->ac e 12=aI r.length->ac e 13=aI c.length->W Q 340 (.loop Pn) ⟨e,25,lc⟩ s K:=by
 intro d
 induction d with
 |nil=>
  intro c e lc s ov F R z w M B U h0 C m j;have a7:c.length=r.length:=by rw[F];simp
  have Z:c=r:=by rw[F];simp
  refine bm ?_;simp only[go_sem,seval,Pn,m,j,a7,cq];rw[Z] at R;exact hx _ _ _ ov R z w M B (by simp only[sN,seval,U])
 |cons p d ih=>
  intro c e lc s ov F R z w M B U h0 C m j;have a0:c.length<r.length:=by rw[F];simp
  have O:r[c.length]? =some p:=by rw[F];simp
  have a8:=fun lc k=>hr.at mR.2.2.1 O lc k;have Y:=da (n:=c.length) (by omega);have hp:=fD.1 hn p (dM O);have u:=ayL H hp s;have J:=R.ge;obtain⟨V,s1,a1,a2,a3,a4,a5,a6⟩:=agp (t:=218) mR.1 rfl (by decide) (s:=s) (y:=.list 2 [aN (zI p)] .GT) (y0:=aN (zI p)) R (by simp only[fc,ee]) (by simp only[bU,oP];omega) w;have I:=a2.ge;simp only[aN] at u a1;refine bm ?_;simp only[go_sem,seval,Pn,h0,U,C,m,j,a0,a8,aN,J];refine co.of u (by decide) ?_;simp only[go_sem,seval,U,j,Y,J,I,a1,bf,aZ,aW,aY,evc];refine ih (c++[p]) _ _ s1 V (by rw[F];simp) (by
   have e1:(oP (c++[p])).map aN=(oP c).map aN++[aN (zI p)]:=by simp[oP,zI]
   rw[e1];exact a2) (fun k hk=>(a6 k hk).trans (z k hk)) a5 (by omega) (a3.trans B) ?_ ?_ ?_ ?_ ?_
  all_goals simp only[sN,seval,h0,C,m,sA]
def asI(I:No Q 340)(c:No Q 341){r:List Pt}(u:au 2 aN rv r)(j:r.length<=2000)(R:r.all bg=true)(w:s.gE<=s.aL):
 ∃v s',aq Q 340 [rv,.func (.func 341) [] []] s v s'/\(au 2 aN v (oP r)/\(∀k,k<s.aL->s'.get [] k=s.get [] k)/\s.aL<=s'.aL/\s'.gE<=s'.aL/\s'.ci=s.ci):=by
 have F:=u.ge;have B:=u.lenS mR;have y:og ah 218 (ag 0) (aI r.length) false s=some (.list 2 [] (.own s.aL),s.new .tok):=by
  have Z:bu 0 r.length=true:=cN (Nat.zero_le _);have Y:bu (r.length*16) 1099511627776=true:=cN (by omega);have V:bu r.length 1099511627776=true:=cN (by omega);have O:dv (ag 0)=some 0:=rfl;simp only[dX,og,mR,O,pO,Z,Y,V,bX];rfl
 refine aq.ofNRZ aqA (bP ?_);simp only[go_sem,seval,F,B,Q5,y];refine asH c u j R (lo:=s.aL) (s0:=s.new .tok) ?_ r [] _ _ (s.new .tok) (.list 2 [] (.own s.aL)) rfl ⟨s.aL,rfl,cH,bj _,jX _⟩ (fun _ _=>rfl) (bW w) (Nat.le_succ _) rfl ?_ ?_ ?_ ?_ ?_;intro e lc s1 ov M C d z H U;have m:=M.ge;simp only[go_sem,seval,U,m];refine⟨_,rfl,?_,fun k J=>(C k J).trans (cr J),z,d,H⟩;obtain⟨k,rfl,_⟩:=M;exact .inr ⟨_,rfl⟩
 all_goals simp only[sN,seval,ct]
 all_goals rfl
def N7(lc:Ag.Loc)(m o:Nat)(i:aa):gS ah lc 303 (.ptr m o) i=(dv i).bind fun i=>bif bh i 3 then some (.ptr m (o+i*1)) else none:=by kernel_rfl
noncomputable abbrev si(E:aw)(x:Option Ex):aJ:=.loop 236 E 38 [13,14] Fh Fi x
def C2(x:bK):Pt:=(x.1.1+x.2.1,x.1.2+x.2.2)
def ka(l:List bK)(s:List Pt)(v:Int):Nat:=(l.filter fun x=>an (qO (oP s) (C2 x)) v).length
theorem wx(l:List bK)(S:bK)(s:List Pt)(v:Int):ka (l++[S]) s v=ka l s v+bif an (qO (oP s) (C2 S)) v then 1 else 0:=by
 grind [ka]
def MV(l:List bK)(s:List Pt)(v:Int):ka l s v<=l.length:=kA _ _
def aad{p:Pt}: ∀ {l:List bK} {w:Int},yP p l w=1\/yP p l w=0\/yP p l w= -1
 | [],w=>by
   show(bif an w 0 then(-1:Int) else 1)=1\/(bif an w 0 then(-1:Int) else 1)=0\/(bif an w 0 then(-1:Int) else 1)= -1;cases an w 0<;>simp
 |S::l,w=>by
  rw[aac];cases Bc S p with
  |true=>exact .inr (.inl rfl)
  |false=>exact aad
def kd(c:Nat×Nat×Nat):List aa:=[aI c.1,aI c.2.1,aI c.2.2]
def ll(l:List bK)(s:List Pt):Nat×Nat×Nat:=(ka l s 1,ka l s 0,ka l s (-1))
variable{t:List Pt}{b6:Nat}{bv:aa}
theorem asZ(m:Q.spec 342=some vg)(a4:t.length<=2000)(ht:t.all bg=true)(O:au 2 aN bv (oP t))(na:bg S.1=true)(nb:bg S.2=true)(a6:l.length<=2000){s0:St}(a3:s0.get [] b6=some (.cells [bv]))(l5:b5<s0.aL)(l6:b6<s0.aL)(d6:b6≠b5)(e5:ac E 5= .ptr b5 0)(e6:ac E 6= .ptr b6 0)(hI:mn b5 s0 s)(hl:s.get [] s0.aL=some (si E none))(a0:s.get [] b5=some (.cells (kd (ll l t)))):
 ∃v s',iI Q s0.aL [aI i,bO S] s.top v s'/\(s'.ci=s.ci/\s.aL<=s'.aL/\mn b5 s0 (s.GE s')/\v= .bool true/\s'.get [] s0.aL=some (si E none)/\s'.get [] b5=some (.cells (kd (ll (l++[S]) t)))):=by
 have a5:=hI.lt;have a1:=hI.mw;have n1:=wY na;have n2:=wY nb;have C:=O.ge;have u:hJ (C2 S)=true:=by
  have h1: -4194304<=S.1.1+S.2.1/\S.1.1+S.2.1<=4194304:=by omega
  have h2: -4194304<=S.1.2+S.2.2/\S.1.2+S.2.2<=4194304:=by omega
  simp only[hJ,C2,b9,bq,dE];exact⟨⟨dQ h1.1,dQ h1.2⟩,dQ h2.1,dQ h2.2⟩
 have I:=aak O (by grind [oP]) (aiW ht) u;obtain⟨L,R⟩:=bZ (qO (oP t) (C2 S));have hv:L=1\/L=0\/L= -1:=by rw[<-R];exact aad
 rw[R] at I;simp only[aN,bF,C2] at I;have w1:IntKind.i64.wrap (S.1.1+S.2.1)=S.1.1+S.2.1:=jf (by omega) (by omega);have w2:IntKind.i64.wrap (S.1.2+S.2.2)=S.1.2+S.2.2:=jf (by omega) (by omega);refine iI.any (ca:=O8) (cb:=Fg) (show s.top.get [] s0.aL=_ from hl) rfl rfl apS apT ?_;refine bP ?_;obtain⟨w,H⟩:=bZ (s.top.put s0.aL none);have wn:w.aL=s.aL:=by rw[<-H];rfl
 have wo: ∀j,j≠s0.aL->w.get [] j=s.get [] j:=fun j J=>by rw[<-H,aU,bN.2 J];rfl
 have wm:w.gE<=w.aL:=by rw[<-H];exact cU s.top _ _ (bj _)
 obtain⟨z,F⟩:=bZ ((w.new (.cells [ag 0,ag 0,ag 0,ag 0])).put w.aL (some (.cells (bO S).cells)));have zn:z.aL=s.aL+1:=by rw[<-F,<-wn];rfl
 have zc:z.ci=s.ci:=by rw[<-F,<-H];rfl
 have zm:z.gE<=z.aL:=by rw[<-F];exact cU _ _ _ (bW wm)
 have zk:z.get [] w.aL=some (.cells (bO S).cells):=by rw[<-F,aU,bS];rfl
 have zs: ∀j,j<s.aL->j≠s0.aL->z.get [] j=s.get [] j:=fun j J B=>by grind [aU,cr]
 have zo: ∀j,j<s0.aL->j≠b5->z.get [] j=s0.get [] j:=fun j J B=>(zs j (by omega) (by omega)).trans (hI.old j J B);have z6:=(zo b6 l6 d6).trans a3;have z5:=(zs b5 (by omega) (by omega)).trans a0;simp only[bO,lO] at F zk;have a2:(w.new (.cells [ag 0,ag 0,ag 0,ag 0])).get [] w.aL=some (.cells [ag 0,ag 0,ag 0,ag 0]):=cH;simp only[go_sem,cQ,bL,ai,aA,bH,dH,dS,d8,cz,dR,dP,reduceCtorEq,ek,O8,bO,H,cS,a2,cV,F,bf,aZ,aW,aY,evc];have fin: ∀(y:St) (c:List aa),z.put b5 (some (.cells c))=y->(y.put s0.aL (some (si E none))).ci=s.ci/\s.aL<=(y.put s0.aL (some (si E none))).aL/\mn b5 s0 (s.GE (y.put s0.aL (some (si E none))))/\(y.put s0.aL (some (si E none))).get [] s0.aL=some (si E none)/\(y.put s0.aL (some (si E none))).get [] b5=some (.cells c):=fun y c d=>by
  have yn:y.aL=s.aL+1:=by rw[<-d];exact zn
  have qn:(y.put s0.aL (some (si E none))).aL=s.aL+1:=yn;have yc:y.ci=s.ci:=by rw[<-d];exact zc
  refine⟨yc,by omega,⟨fun j J B=>?_,pL a1 (by omega),?_,yc.trans hI.ci⟩,by rw[aU,bS];rfl,?_⟩
  grind [lR,aU]
  show s0.aL<(y.put s0.aL (some (si E none))).aL;omega
  grind [aU]
 have k1:=MV l t 1;have k2:=MV l t 0;have k3:=MV l t (-1);have q1:=da (n:=ka l t 1) (by omega);have q2:=da (n:=ka l t 0) (by omega);have q3:=da (n:=ka l t (-1)) (by omega);have m0:dv (ag 0)=some 0:=rfl;have m1:dv (ag 1)=some 1:=rfl;have m2:dv (ag 2)=some 2:=rfl;have v0:IntKind.i64.wrap (1-1)=0:=by rfl
 have v1:IntKind.i64.wrap (1-0)=1:=by rfl
 have v2:IntKind.i64.wrap (1- -1)=2:=by rfl
 simp only[kd,ll] at z5;refine bP ?_;rcases hv with rfl|rfl|rfl
 have M:ll (l++[S]) t=(ka l t 1+1,ka l t 0,ka l t (-1)):=by
  unfold ll;rw[wx,wx,wx,R];rfl
 obtain⟨y,d⟩:=bZ (z.put b5 (some (.cells (kd (ll (l++[S]) t)))));obtain⟨f1,Z,Y,V,U⟩:=fin y _ d;rw[M] at d;simp only[kd] at d;simp only[go_sem,cQ,bL,ai,aA,bH,dH,dS,d8,cz,dR,dP,reduceCtorEq,ek,Fg,e5,e6,z5,z6,zk,C,aP,aQ,rg,w1,w2,m,I,v0,N7,m0,q1,cS,cV,d,ji,jl,bf,aZ,aW,aY,evc];exact⟨f1,Z,Y,V,U⟩;have M:ll (l++[S]) t=(ka l t 1,ka l t 0+1,ka l t (-1)):=by
  unfold ll;rw[wx,wx,wx,R];rfl
 obtain⟨y,d⟩:=bZ (z.put b5 (some (.cells (kd (ll (l++[S]) t)))));obtain⟨f1,Z,Y,V,U⟩:=fin y _ d;rw[M] at d;simp only[kd] at d;simp only[go_sem,cQ,bL,ai,aA,bH,dH,dS,d8,cz,dR,dP,reduceCtorEq,ek,Fg,e5,e6,z5,z6,zk,C,aP,aQ,rg,w1,w2,m,I,v1,N7,m1,q2,cS,cV,d,ji,jl,bf,aZ,aW,aY,evc];exact⟨f1,Z,Y,V,U⟩;have M:ll (l++[S]) t=(ka l t 1,ka l t 0,ka l t (-1)+1):=by
  unfold ll;rw[wx,wx,wx,R];rfl
 obtain⟨y,d⟩:=bZ (z.put b5 (some (.cells (kd (ll (l++[S]) t)))));obtain⟨f1,Z,Y,V,U⟩:=fin y _ d;rw[M] at d;simp only[kd] at d;simp only[go_sem,cQ,bL,ai,aA,bH,dH,dS,d8,cz,dR,dP,reduceCtorEq,ek,Fg,e5,e6,z5,z6,zk,C,aP,aQ,rg,w1,w2,m,I,v2,N7,m2,q3,cS,cV,d,ji,jl,bf,aZ,aW,aY,evc];exact⟨f1,Z,Y,V,U⟩
theorem asY(d:No Q 339)(y:Q.spec 342=some vg){r:List Pt}(hr:au 2 aN rv r)(w:r.length<=2000)(hn:r.all bg=true)(u:t.length<=2000)(ht:t.all bg=true)(J:au 2 aN bv (oP t)){s0:St}(I:s0.get [] bx=some (.cells [rv]))(M:s0.get [] b6=some (.cells [bv]))(O:s0.get [] b5=some (.cells [ag 0,ag 0,ag 0]))(lx:bx<s0.aL)(U:b5<s0.aL)(l6:b6<s0.aL)(dx:bx≠b5)(d6:b6≠b5)(e5:ac E 5= .ptr b5 0)(e6:ac E 6= .ptr b6 0)(R:ac E 12= .func (.func 339) [] [.ptr bx 0])(hE:E.all jB=true)(F:s0.gE<=s0.aL)(hk: ∀z,mn b5 s0 z->z.get [] b5=some (.cells (kd (ll (fK r) t)))->K .normal ⟨E,38,lc⟩ z):W Q 236 (.rfun (.tmp 12) [13,14] Fh Fi) ⟨E,38,lc⟩ s0 K:=by
 obtain⟨v,s',m,rfl,h⟩:=Br d hr w (bx:=bx) (n:=s0.aL) (P:=fun i s=>mn b5 s0 s/\s.get [] s0.aL=some (si E none)/\s.get [] b5=some (.cells (kd (ll ((fK r).take i) t)))) (D:=fun _=>False) (fun k s h=>(h.1.old bx lx dx).trans I) (fun k s h=>h.1.mw) (fun i s V ⟨c,hl,Y⟩=>by
  obtain⟨na,nb⟩:=Bh hn V;obtain⟨v,s',q1,q2,q3,q4,rfl,q5,Z⟩:=asZ y u ht J na nb (l:=(fK r).take i) (i:=i) (by grind) M U l6 d6 e5 e6 c hl Y;refine⟨_,s',q1,q2,q3,.inl ⟨rfl,q4,q5,?_⟩⟩;have e:(fK r).take (i+1)=(fK r).take i++[eE r i]:=by
   rw[List.take_add_one,DC V];rfl
  rw[e];exact Z) (s:=s0.new (si E none)) ⟨⟨fun j H _=>cr H,bW F,jX _,rfl⟩,cH,(cr U).trans O⟩
 have B:mn b5 s0 s'->mn b5 s0 (s'.put s0.aL none):=fun c=>⟨fun j H C=>by rw[aU,bN.2 (by omega:j≠s0.aL)];exact c.old j H C,cU _ _ _ c.mw,c.lt,c.ci⟩;rcases h with⟨c,hg,Y⟩|h
 refine oE (h:=339) (first:=[]) (captured:=[.ptr bx 0]) (v:=.tup []) (s1:=s') (by simp only[dA,R]) (by rw[Std.P,rU,apV,hE];rfl) m hg (hk _ (B c) ?_)
 grind [aU,DD]
 exact h.elim
variable{tv:aa}
theorem as0(F:No Q 339)(H:No Q 235)(U:Q.spec 342=some vg)(C:No Q 340)(B:No Q 341)(a8:No Q 236){r:List Pt}(Z:au 2 aN rv r)(O:r.length<=2000)(hn:r.all bg=true)(z:au 2 aN tv t)(d:t.length<=2000)(ht:t.all bg=true)(a3:s.gE<=s.aL):
 ∃v s',aq Q 236 [rv,tv] s v s'/\v= .agg (kd (ll (fK r) t)):=by
 have R:=Z.ge;have a1:=z.ge;have a2:=vu Z;have a0:=vu z;obtain⟨x,I⟩:=bZ ((s.new (.cells [ag 0,ag 0,ag 0])).new (.cells [ag 0,ag 0,ag 0]));have M:(s.new (.cells [ag 0,ag 0,ag 0])).aL=s.aL+1:=rfl;have xn:x.aL=s.aL+2:=by rw[<-I];rfl
 have xm:x.gE<=x.aL:=by rw[<-I];exact bW (bW a3)
 have x0:x.get [] s.aL=some (.cells [ag 0,ag 0,ag 0]):=by rw[<-I,cr (by rw[M];omega)];exact cH
 have x1:x.get [] (s.aL+1)=some (.cells [ag 0,ag 0,ag 0]):=by rw[<-I];exact cH
 have V:=asI C B z d ht xm;refine aq.ofNRZ apU (bP ?_);simp only[go_sem,cQ,bL,ai,aA,bH,dH,dS,d8,cz,dR,dP,reduceCtorEq,ek,R,a1,M,I];refine co.ex V (by decide) ?_;rintro bv y ⟨c,yo,yn,ym,yc⟩;have a6:=c.ge;have a5:=c.scal;obtain⟨w,Y⟩:=bZ ((y.new (.cells [.Ge])).put y.aL (some (.cells [bv])));have a4:(y.new (.cells [.Ge])).get [] y.aL=some (.cells [.Ge]):=cH;have cn:aa.Ge.cells=[.Ge]:=rfl;have wn:w.aL=y.aL+1:=by rw[<-Y];rfl
 have wm:w.gE<=w.aL:=by rw[<-Y];exact cU _ _ _ (bW ym)
 have wk:w.get [] y.aL=some (.cells [bv]):=by rw[<-Y,aU,bS];rfl
 have wo: ∀j,j<y.aL->w.get [] j=y.get [] j:=fun j hj=>by grind [aU,cr]
 have m:=Bq H Z w;obtain⟨u,J⟩:=bZ (w.new (.cells [rv]));have un:u.aL=y.aL+2:=by
  rw[<-J];show w.aL+1=_;omega
 have um:u.gE<=u.aL:=by rw[<-J];exact bW wm
 have uk:u.get [] w.aL=some (.cells [rv]):=by rw[<-J];exact cH
 have uo: ∀j,j<w.aL->u.get [] j=w.get [] j:=fun j hj=>by rw[<-J,cr hj]
 rw[J] at m;simp only[go_sem,cQ,bL,ai,aA,bH,dH,dS,d8,cz,dR,dP,reduceCtorEq,ek,a6,a5,cn,a4,cS,cV,Y,R];refine co.of m (by decide) ?_;simp only[go_sem,cQ,bL,ai,aA,bH,dH,dS,d8,cz,dR,dP,reduceCtorEq,ek];refine asY F U Z O hn d ht c (bx:=w.aL) (b5:=s.aL+1) (b6:=y.aL) (s0:=u) uk ?_ ?_ (by omega) (by omega) (by omega) (by omega) (by omega) ?_ ?_ ?_ ?_ um ?_;rw[uo _ (by omega)];exact wk
 grind
 simp only[sN,ai,bH];simp only[sN,ai,bH];simp only[sN,ai,bH]
 ·have a7:=vu c
  repeat' (first|exact rfl|refine aD.all_set ?_ (by first|exact a2|exact a0|exact a7|rfl))
 intro s2 hI h5;have h4:s2.get [] s.aL=some (.cells [ag 0,ag 0,ag 0]):=by rw[hI.old _ (by omega) (by omega),uo _ (by omega),wo _ (by omega),yo _ (by omega)];exact x0
 obtain⟨q,hq⟩:=bZ (s2.put s.aL (some (.cells (kd (ll (fK r) t)))));have qk:q.get [] s.aL=some (.cells (kd (ll (fK r) t))):=by rw[<-hq,aU,bS];rfl
 simp only[kd] at h5 hq qk;simp only[go_sem,cQ,bL,ai,aA,bH,dH,dS,d8,cz,dR,dP,reduceCtorEq,ek,aP,h5,aQ,cS,h4,cV,hq,qk];exact⟨_,rfl,rfl⟩
def wW:Sp
 | [u,v]=>(rK u).bind fun r=>(rK v).bind fun t=>bif(decide (r.length<=2000)&&r.all bg)&&(decide (t.length<=2000)&&t.all bg) then some (.agg (kd (ll (fK r) t))) else none
 |_=>none
def aaI{u:aa}{r:List Pt}(h:au 2 aN u r)(w:au 2 aN v t)(m:r.length<=2000)(j:r.all bg=true)(d:t.length<=2000)(c:t.all bg=true):wW [u,v]=some (.agg (kd (ll (fK r) t))):=by
 simp only[dX,wW,qw h,qw w,dQ m,j,dQ d,c,bX]
def TY:df:=[(342,vg)]
def afA:dl TY:=.cons aal .nil
def asX:cL ah 236 wW:=by
 intro j u h G C w xs m y;unfold wW at h;split at h;simp only[ak] at h;obtain⟨r,J,t,I,h⟩:=h;obtain⟨d,h⟩:=bc h;simp only[bq,dE] at d;have h:=sI h;subst h;obtain⟨_,H,B⟩:=we J;obtain⟨_,F,z⟩:=we I;refine iu afA (W:=[]) .nil (by simp only[dK,H,F,bX]) (fun M=>?_) G C w xs m y;obtain⟨v,s',c,rfl⟩:=as0 (Q:=QW TY [] M) ⟨rfl,rfl⟩ ⟨rfl,rfl⟩ rfl ⟨rfl,rfl⟩ ⟨rfl,rfl⟩ ⟨rfl,rfl⟩ B d.1.1 d.1.2 z d.2.1 d.2.2 (s:=s0) (by decide);exact⟨_,_,c,2,rfl⟩;cases h
def FS:Sp
 | [v]=>(jv v).bind fun p=>some (.bool (bg p))
 |_=>none
def atm:cL ah 430 FS:=by
 refine GD (T:=[]) .nil (W:=[]) .nil fun c u h=>?_;unfold FS at h;split at h;simp only[ak] at h;obtain⟨p,d,h⟩:=h;have h:=sI h;subst h;rw[lM d];exact⟨rfl,fun j=>⟨_,_,aaS (Q:=QW [] [] j) ⟨rfl,rfl⟩ p _,1,rfl⟩⟩;cases h
def aaU(h:bg p=true):hJ p=true:=by
 have:=wY h;have d: -4194304<=p.1/\p.1<=4194304:=by omega
 have c: -4194304<=p.2/\p.2<=4194304:=by omega
 simp only[hJ,b9,bq];exact⟨⟨dQ d.1,dQ d.2⟩,dQ c.1,dQ c.2⟩
def RQ{r:List Pt}(h:jT r=true):ph r=true:=by
 unfold jT at h;simp only[bq] at h;exact h.1
def axb(c:Q.spec 229=some pW)(d:Q.spec 430=some FS)(y:Q.spec 342=some vg)(C:No Q 406){r:List Pt}(B:au 2 aN rv r)(p:Pt)(s:St):aq Q 406 [rv,aN p] s (bF (sF r p)) s:=by
 have j:=B.ge;have m:=Kz B;have z:FS [.agg [ag p.1,ag p.2]]=some (.bool (bg p)):=rfl;have h: ∃v s',aq Q 406 [rv,aN p] s v s'/\(v=bF (sF r p)/\s'=s):=by
  refine aq.ofNRZ aqK (bP ?_);cases e1:jT r with
  |false=>
   have u:sF r p= -1:=by unfold sF;rw[e1];rfl
   rw[e1] at m;simp only[go_sem,seval,aN,j,c,m];exact⟨_,rfl,by rw[u];rfl⟩
  |true=>
   rw[e1] at m;cases e2:bg p with
   |false=>
    have u:sF r p= -1:=by unfold sF;rw[e1,e2];rfl
    rw[e2] at z;simp only[go_sem,seval,aN,j,c,m,d,z];exact⟨_,rfl,by rw[u];rfl⟩
   |true=>
    have u:sF r p=qO r p:=by unfold sF;rw[e1,e2];rfl
    rw[e2] at z;obtain⟨⟨_,w⟩,I⟩:=Dx (RQ e1);have F:=aak B w (by rw[fD];exact fun x H=>aaU (fD.1 I x H)) (aaU e2);simp only[aN,bF] at F;simp only[go_sem,seval,aN,j,c,m,d,z,y,F];exact⟨_,rfl,by rw[u];rfl⟩
 obtain⟨_,_,h,rfl,rfl⟩:=h;exact h
def Bp:Sp
 | [u,v]=>(rK u).bind fun r=>(jv v).bind fun p=>some (bF (sF r p))
 |_=>none
def TZ:df:=[(229,pW),(430,FS),(342,vg)]
def afB:dl TZ:=.cons KA (.cons atm (.cons aal .nil))
def axa:cL ah 406 Bp:=by
 intro c u h G z w xs d j;unfold Bp at h;split at h;simp only[ak] at h;obtain⟨r,F,p,C,h⟩:=h;have h:=sI h;subst h;obtain⟨_,B,m⟩:=we F;have y:=lM C;subst y;refine iu afB (W:=[]) .nil (by simp only[dK,B,eC];rfl) (fun H=>?_) G z w xs d j;exact⟨_,_,axb (Q:=QW TZ [] H) rfl rfl rfl ⟨rfl,rfl⟩ m p s0,1,rfl⟩;cases h
noncomputable abbrev qR(E:aw)(x:Option Ex):aJ:=.loop 141 E 71 [25,26] E4 E6 x
noncomputable abbrev qS(E:aw)(x:Option Ex):aJ:=.loop 141 E 71 [21,22] E5 E7 x
def Yb:(dB E5&&dB E7)=true:=by kernel_rfl
variable{A:bK}
theorem awg(c:Q.spec 225=some kX){B:bK}(n1:bg A.1=true)(n2:bg A.2=true)(n3:bg B.1=true)(n4:bg B.2=true){s0:St}(a3:s0.get [] b4=some (.cells [ag 0]))(a2:s0.get [] b6=some (.cells (bO A).cells))(l4:b4<s0.aL)(l6:b6<s0.aL)(V:ac E 4= .ptr b4 0)(U:ac E 6= .ptr b6 0)(R:gM [] 0 s0 s)(hl:s.get [] s0.aL=some (qR E none)):
 ∃v s',iI Q s0.aL [aI k,bO B] s.top v s'/\(s'.ci=s.ci/\s.aL<=s'.aL/\gM [] 0 s0 (s.GE s')/\((v= .bool true/\s'.get [] s0.aL=some (qR E none)/\oz A B=false)\/(v= .bool false/\s'.get [] s0.aL=some (qR E (some .ret))/\oz A B=true))):=by
 have C:=Qb n1 n2 n3 n4;have a4:=R.lt;have a0:=R.mw;obtain⟨M,hM⟩:=bZ (jj A B);have Z:oz A B=(an M 2||(an M 3||an M 5)):=by rw[<-hM];rfl
 rw[hM] at C;refine iI.any (ca:=Oz) (cb:=CH) (show s.top.get [] s0.aL=_ from hl) rfl rfl aoF aoH ?_;refine bP ?_;obtain⟨w,I⟩:=bZ (s.top.put s0.aL none);have wn:w.aL=s.aL:=by rw[<-I];rfl
 have wo: ∀j,j≠s0.aL->w.get [] j=s.get [] j:=fun j J=>by rw[<-I,aU,bN.2 J];rfl
 have wm:w.gE<=w.aL:=by rw[<-I];exact cU s.top _ _ (bj _)
 obtain⟨z,m⟩:=bZ ((w.new (.cells [ag 0,ag 0,ag 0,ag 0])).put w.aL (some (.cells (bO B).cells)));have zn:z.aL=s.aL+1:=by rw[<-m,<-wn];rfl
 have zc:z.ci=s.ci:=by rw[<-m,<-I];rfl
 have zm:z.gE<=z.aL:=by rw[<-m];exact cU _ _ _ (bW wm)
 have F:z.get [] w.aL=some (.cells (bO B).cells):=by rw[<-m,aU,bS];rfl
 have Y: ∀j,j<s0.aL->z.get [] j=s0.get [] j:=fun j J=>by
  rw[<-m,aU,bN.2 (by omega:j≠w.aL),cF,cr (by omega),wo j (by omega)];exact R.old j J
 have O:=(Y b4 l4).trans a3;have H:=(Y b6 l6).trans a2;simp only[bO,lO,bF] at m C F H;have a1:(w.new (.cells [ag 0,ag 0,ag 0,ag 0])).get [] w.aL=some (.cells [ag 0,ag 0,ag 0,ag 0]):=cH;simp only[go_sem,seval,kU,kV,Oz,bO,I,cS,a1,cV,m,bf,aZ,aW,aY,evc];have fin: ∀(d:St) (o:Option Ex),(∀j,j<s0.aL->d.get [] j=s0.get [] j)->d.aL=s.aL+1->d.ci=s.ci->d.gE<=d.aL->(d.put s0.aL (some (qR E o))).ci=s.ci/\s.aL<=(d.put s0.aL (some (qR E o))).aL/\gM [] 0 s0 (s.GE (d.put s0.aL (some (qR E o))))/\(d.put s0.aL (some (qR E o))).get [] s0.aL=some (qR E o):=fun d o q1 q2 q3 q4=>by
  have qn:(d.put s0.aL (some (qR E o))).aL=s.aL+1:=q2;refine⟨q3,by omega,⟨fun j J=>?_,pL a0 (by omega),?_,q3.trans R.ci⟩,by rw[aU,bS];rfl⟩
  grind [lR,aU]
  show s0.aL<(d.put s0.aL (some (qR E o))).aL;omega
 obtain⟨y,u⟩:=bZ (z.put b4 (some (.cells [ag 0])));have yo: ∀j,j<s0.aL->y.get [] j=s0.get [] j:=fun j J=>by
  grind [aU]
 obtain⟨f1,f2,f3,f4⟩:=fin z none Y zn zc zm;obtain⟨g1,g2,g3,g4⟩:=fin y (some .ret) yo (by rw[<-u];exact zn) (by rw[<-u];exact zc) (by rw[<-u];exact cU _ _ _ zm);refine bP ?_;cases c1:an M 2 with
 |true=>
  simp only[go_sem,seval,kU,kV,CH,V,U,O,H,F,aP,aQ,c,C,c1,cS,cV,u,ji,jl];exact⟨g1,g2,g3,.inr ⟨g4,by rw[Z,c1];rfl⟩⟩
 |false=>
  cases c2:an M 3 with
  |true=>
   simp only[go_sem,seval,kU,kV,CH,V,U,O,H,F,aP,aQ,c,C,c1,c2,cS,cV,u,ji,jl];exact⟨g1,g2,g3,.inr ⟨g4,by rw[Z,c1,c2];rfl⟩⟩
  |false=>
   cases c3:an M 5 with
   |true=>
    simp only[go_sem,seval,kU,kV,CH,V,U,O,H,F,aP,aQ,c,C,c1,c2,c3,cS,cV,u,ji,jl];exact⟨g1,g2,g3,.inr ⟨g4,by rw[Z,c1,c2,c3];rfl⟩⟩
   |false=>
    simp only[go_sem,seval,kU,kV,CH,V,U,O,H,F,aP,aQ,c,C,c1,c2,c3,cS,cV,ji,jl]
    grind
theorem awf(u:No Q 339)(F:Q.spec 225=some kX)(I:au 2 aN tv t)(z:t.length<=2000)(hn:t.all bg=true)(n1:bg A.1=true)(n2:bg A.2=true){s0:St}(O:s0.get [] bx=some (.cells [tv]))(U:s0.get [] b4=some (.cells [ag 0]))(R:s0.get [] b6=some (.cells (bO A).cells))(lx:bx<s0.aL)(l4:b4<s0.aL)(l6:b6<s0.aL)(e4:ac E 4= .ptr b4 0)(e6:ac E 6= .ptr b6 0)(H:ac E 24= .func (.func 339) [] [.ptr bx 0])(hE:E.all jB=true)(J:s0.gE<=s0.aL)(B: ∀x Y,gM [] 0 s0 Y->((x= .normal/\ ∀j,j<t.length->oz A (eE t j)=false)\/(x= .ret/\ ∃j,j<t.length/\oz A (eE t j)=true))->K x ⟨E,71,[]⟩ Y):W Q 141 (.rfun (.tmp 24) [25,26] E4 E6) ⟨E,71,[]⟩ s0 K:=by
 obtain⟨v,s',d,rfl,h⟩:=Br u I z (bx:=bx) (n:=s0.aL) (P:=fun k s=>gM [] 0 s0 s/\s.get [] s0.aL=some (qR E none)/\ ∀j,j<k->oz A (eE t j)=false) (D:=fun s=>gM [] 0 s0 s/\s.get [] s0.aL=some (qR E (some .ret))/\ ∃j,j<t.length/\oz A (eE t j)=true) (fun k s h=>(h.1.old bx lx).trans O) (fun k s h=>h.1.mw) (fun k s B ⟨c,hl,y⟩=>by
  obtain⟨n3,n4⟩:=Bh hn B;obtain⟨v,s',q1,q2,q3,Z,q5⟩:=awg F n1 n2 n3 n4 (k:=k) U R l4 l6 e4 e6 c hl;refine⟨v,s',q1,q2,q3,?_⟩;rcases q5 with⟨rfl,V,h2⟩|⟨rfl,V,h2⟩
  refine .inl ⟨rfl,Z,V,fun j m=>?_⟩
  grind
  exact .inr ⟨rfl,Z,V,k,B,h2⟩) (s:=s0.new (qR E none)) ⟨⟨fun j m=>cr m,bW J,jX _,rfl⟩,cH,fun j m=>absurd m (G6 _)⟩
 have w:gM [] 0 s0 s'->gM [] 0 s0 (s'.put s0.aL none):=fun c=>⟨fun j m=>by rw[aU,bN.2 (by omega:j≠s0.aL)];exact c.old j m,cU _ _ _ c.mw,c.lt,c.ci⟩;rcases h with⟨c,M,y⟩|⟨c,M,C⟩
 exact oE (h:=339) (first:=[]) (captured:=[.ptr bx 0]) (v:=.tup []) (s1:=s') (by simp only[dA,H]) (by rw[Std.P,rU,Ya,hE];rfl) d M (B _ _ (w c) (.inl ⟨rfl,y⟩));exact oE (h:=339) (first:=[]) (captured:=[.ptr bx 0]) (v:=.tup []) (s1:=s') (by simp only[dA,H]) (by rw[Std.P,rU,Ya,hE];rfl) d M (B _ _ (w c) (.inr ⟨rfl,C⟩))
def awe(H:No Q 339)(I:No Q 235)(R:Q.spec 225=some kX)(c:au 2 aN tv t)(M:t.length<=2000)(hn:t.all bg=true)(n1:bg A.1=true)(n2:bg A.2=true){s0:St}(a3:s0.get [] b3=some (.cells [tv]))(a2:s0.get [] b4=some (.cells [ag 0]))(l3:b3<s0.aL)(l4:b4<s0.aL)(e3:ac E 3= .ptr b3 0)(e4:ac E 4= .ptr b4 0)(hE:E.all jB=true)(U:gM [] 0 s0 s)(hl:s.get [] s0.aL=some (qS E none)):
 ∃v s',iI Q s0.aL [aI i,bO A] s.top v s'/\(s'.ci=s.ci/\s.aL<=s'.aL/\gM [] 0 s0 (s.GE s')/\((v= .bool true/\s'.get [] s0.aL=some (qS E none)/\ ∀j,j<t.length->oz A (eE t j)=false)\/(v= .bool false/\s'.get [] s0.aL=some (qS E (some .ret))/\ ∃j,j<t.length/\oz A (eE t j)=true))):=by
 have a4:=U.lt;have Z:=U.mw;have a1:=c.ge;have V:=vu c;refine iI.any (ca:=OA) (cb:=OB) (show s.top.get [] s0.aL=_ from hl) rfl rfl aoG aoI ?_;refine bP ?_;obtain⟨w,J⟩:=bZ (s.top.put s0.aL none);have wn:w.aL=s.aL:=by rw[<-J];rfl
 have wo: ∀j,j≠s0.aL->w.get [] j=s.get [] j:=fun j d=>by rw[<-J,aU,bN.2 d];rfl
 have wm:w.gE<=w.aL:=by rw[<-J];exact cU s.top _ _ (bj _)
 obtain⟨z,B⟩:=bZ ((w.new (.cells [ag 0,ag 0,ag 0,ag 0])).put w.aL (some (.cells (bO A).cells)));have zn:z.aL=s.aL+1:=by rw[<-B,<-wn];rfl
 have zc:z.ci=s.ci:=by rw[<-B,<-J];rfl
 have zm:z.gE<=z.aL:=by rw[<-B];exact cU _ _ _ (bW wm)
 have zk:z.get [] w.aL=some (.cells (bO A).cells):=by rw[<-B,aU,bS];rfl
 have zo: ∀j,j<s0.aL->z.get [] j=s0.get [] j:=fun j d=>by
  rw[<-B,aU,bN.2 (by omega:j≠w.aL),cF,cr (by omega),wo j (by omega)];exact U.old j d
 have z3:=(zo b3 l3).trans a3;simp only[bO,lO] at B;have a0:(w.new (.cells [ag 0,ag 0,ag 0,ag 0])).get [] w.aL=some (.cells [ag 0,ag 0,ag 0,ag 0]):=cH;simp only[go_sem,seval,kU,kV,OA,bO,J,cS,a0,cV,B,bf,aZ,aW,aY,evc];refine bP ?_;have y:=Bq I c z;obtain⟨x,F⟩:=bZ (z.new (.cells [tv]));have xn:x.aL=s.aL+2:=by
  rw[<-F];show z.aL+1=_;omega
 have xm:x.gE<=x.aL:=by rw[<-F];exact bW zm
 have xc:x.ci=s.ci:=by rw[<-F];exact zc
 have xk:x.get [] z.aL=some (.cells [tv]):=by rw[<-F];exact cH
 have xo: ∀j,j<z.aL->x.get [] j=z.get [] j:=fun j d=>by rw[<-F,cr d]
 have m: ∀j,j<s0.aL->x.get [] j=s0.get [] j:=fun j d=>(xo j (by omega)).trans (zo j d);rw[F] at y;simp only[go_sem,seval,kU,kV,OB,e3,z3,aP,aQ,rg,a1];refine co.of y (by decide) ?_;simp only[go_sem,seval,kU,kV];refine awf H R c M hn n1 n2 (bx:=z.aL) (b4:=b4) (b6:=w.aL) (s0:=x) xk ((m b4 l4).trans a2) ?_ (by omega) (by omega) (by omega) ?_ ?_ ?_ ?_ xm ?_;rw[xo _ (by omega)];exact zk;simp only[sN,seval,e4];simp only[sN,seval];simp only[sN,seval]
 ·repeat' (first|exact hE|refine aD.all_set ?_ (by first|exact V|rfl))
 intro ex u C hc;have n2:=C.lt;have g1: ∀(o:Option Ex),(u.put s0.aL (some (qS E o))).ci=s.ci/\s.aL<=(u.put s0.aL (some (qS E o))).aL/\gM [] 0 s0 (s.GE (u.put s0.aL (some (qS E o))))/\(u.put s0.aL (some (qS E o))).get [] s0.aL=some (qS E o):=fun o=>by
  have qn:(u.put s0.aL (some (qS E o))).aL=u.aL:=rfl;have qc:(u.put s0.aL (some (qS E o))).ci=s.ci:=C.ci.trans xc;refine⟨qc,by omega,⟨fun j d=>?_,pL Z (by omega),?_,qc.trans U.ci⟩,by rw[aU,bS];rfl⟩;rw[lR,aU,bN.2 (by omega:j≠s0.aL)];exact(C.old j (by omega)).trans (m j d);show s0.aL<u.aL;omega
 rcases hc with⟨rfl,Y⟩|⟨rfl,O⟩
 obtain⟨f1,f2,f3,f4⟩:=g1 none;exact⟨f1,f2,f3,.inl ⟨rfl,f4,Y⟩⟩;obtain⟨f1,f2,f3,f4⟩:=g1 (some .ret);exact⟨f1,f2,f3,.inr ⟨rfl,f4,O⟩⟩
theorem awd(d:No Q 339)(u:No Q 235)(H:Q.spec 225=some kX){r:List Pt}(hr:au 2 aN rv r)(R:r.length<=2000)(M:r.all bg=true)(J:au 2 aN tv t)(z:t.length<=2000)(hn:t.all bg=true){s0:St}(V:s0.get [] bx=some (.cells [rv]))(Z:s0.get [] b3=some (.cells [tv]))(Y:s0.get [] b4=some (.cells [ag 0]))(lx:bx<s0.aL)(l3:b3<s0.aL)(l4:b4<s0.aL)(e3:ac E 3= .ptr b3 0)(e4:ac E 4= .ptr b4 0)(I:ac E 20= .func (.func 339) [] [.ptr bx 0])(hE:E.all jB=true)(O:s0.gE<=s0.aL)(B: ∀x s2,gM [] 0 s0 s2->((x= .normal/\ ∀i,i<r.length-> ∀j,j<t.length->oz (eE r i) (eE t j)=false)\/(x= .ret/\ ∃i,i<r.length/\ ∃j,j<t.length/\oz (eE r i) (eE t j)=true))->K x ⟨E,71,lc⟩ s2):W Q 141 (.rfun (.tmp 20) [21,22] E5 E7) ⟨E,71,lc⟩ s0 K:=by
 obtain⟨v,s',m,rfl,h⟩:=Br d hr R (bx:=bx) (n:=s0.aL) (P:=fun k s=>gM [] 0 s0 s/\s.get [] s0.aL=some (qS E none)/\ ∀i,i<k-> ∀j,j<t.length->oz (eE r i) (eE t j)=false) (D:=fun s=>gM [] 0 s0 s/\s.get [] s0.aL=some (qS E (some .ret))/\ ∃i,i<r.length/\ ∃j,j<t.length/\oz (eE r i) (eE t j)=true) (fun k s h=>(h.1.old bx lx).trans V) (fun k s h=>h.1.mw) (fun k s B ⟨c,hl,y⟩=>by
  obtain⟨n1,n2⟩:=Bh M B;obtain⟨v,s',q1,q2,q3,q4,q5⟩:=awe d u H J z hn n1 n2 (i:=k) Z Y l3 l4 e3 e4 hE c hl;refine⟨v,s',q1,q2,q3,?_⟩;rcases q5 with⟨rfl,h1,h2⟩|⟨rfl,h1,h2⟩
  refine .inl ⟨rfl,q4,h1,fun i hi=>?_⟩
  grind
  exact .inr ⟨rfl,q4,h1,k,B,h2⟩) (s:=s0.new (qS E none)) ⟨⟨fun j C=>cr C,bW O,jX _,rfl⟩,cH,fun j C=>absurd C (G6 _)⟩
 have w:gM [] 0 s0 s'->gM [] 0 s0 (s'.put s0.aL none):=fun c=>⟨fun j C=>by rw[aU,bN.2 (by omega:j≠s0.aL)];exact c.old j C,cU _ _ _ c.mw,c.lt,c.ci⟩;rcases h with⟨c,U,y⟩|⟨c,U,F⟩
 exact oE (h:=339) (first:=[]) (captured:=[.ptr bx 0]) (v:=.tup []) (s1:=s') (by simp only[dA,I]) (by rw[Std.P,rU,Yb,hE];rfl) m U (B _ _ (w c) (.inl ⟨rfl,y⟩));exact oE (h:=339) (first:=[]) (captured:=[.ptr bx 0]) (v:=.tup []) (s1:=s') (by simp only[dA,I]) (by rw[Std.P,rU,Yb,hE];rfl) m U (B _ _ (w c) (.inr ⟨rfl,F⟩))
def Hj{r:List Pt}{f:bK->Bool}:(fK r).any f=true↔ ∃i,i<r.length/\f (eE r i)=true:=by
 rw[List.any_eq_true];constructor;rintro⟨x,j,h⟩;obtain⟨i,c,rfl⟩:=List.getElem_of_mem j;have d:i<r.length:=by rw[DD] at c;exact c
 have:=DC d;rw[gB c] at this;injection this with this
 exact⟨i,d,by rw[<-this];exact h⟩;rintro⟨i,c,h⟩;exact⟨_,dM (DC c),h⟩
def H5(n:Nat):aX 0 ((n:Nat):Int)=decide (0<n):=decide_eq_decide.2 (by omega)
def AJ(s:St)(n:Nat)(o:Option aJ):(s.put n o).get [] n=o:=by rw[aU,bS];rfl
def awi(u:Q.spec 236=some wW){c d:Nat×Nat×Nat}(y:rv.ge=true)(w:tv.ge=true)(q1:wW [rv,tv]=some (.agg (kd c)))(z:wW [tv,rv]=some (.agg (kd d)))(F:ac E 0=rv)(C:ac E 3= .ptr b3 0)(g3:s.get [] b3=some (.cells [tv]))(j:s.gE<=s.aL)(B: ∀e,ac e 4=ac E 4->ac e 9= .Gt 9 1 0->ac e 10= .Gt 10 1 0->K .normal ⟨e,71,(Loc.set [] 9 1 (kd c)).set 10 1 (kd d)⟩ s):W Q 141 (.draw kV kU) ⟨E,71,[]⟩ s K:=by
 have m:=nA j;simp only[kd] at q1 z;refine gi j ?_;simp only[go_sem,kU,seval,kV,F,C,g3,y,w,aP,aQ,rg,u,q1,z,m,bf,aZ,aW,aY,evc];refine B _ ?_ ?_ ?_
 all_goals simp only[aV,uY,fQ,bH,ai]
def awj(a0:No Q 339)(J:No Q 235)(a6:Q.spec 225=some kX)(z:Q.spec 229=some pW)(a5:Q.spec 236=some wW)(a8:No Q 141){r:List Pt}(O:au 2 aN rv r)(m:au 2 aN tv t)(a7:s.gE<=s.aL):
 ∃v s',aq Q 141 [rv,tv] s v s'/\v=bF (pT r t):=by
 have I:=O.ge;have F:=m.cs;have a2:=vu O;have a1:=vu m;have V:=Kz O;have p2:=Kz m;obtain⟨x,M⟩:=bZ ((s.new (.cells [tv])).new (.cells [ag 0]));have H:(s.new (.cells [tv])).aL=s.aL+1:=rfl;have xn:x.aL=s.aL+2:=by rw[<-M];rfl
 have xm:x.gE<=x.aL:=by rw[<-M];exact bW (bW a7)
 have x0:x.get [] s.aL=some (.cells [tv]):=by rw[<-M,cr (by rw[H];omega)];exact cH
 have x1:x.get [] (s.aL+1)=some (.cells [ag 0]):=by rw[<-M];exact cH
 refine aq.ofNRZ aoJ ?_;refine WE.sound ?_;cases e1:jT r with
 |false=>
  have hs:pT r t=0:=by unfold pT;rw[e1];rfl
  rw[e1] at V;simp only[go_sem,seval,kU,kV,I,F,H,M,z,V,x0,x1,aP,aQ,cS,cV,AJ];exact⟨_,rfl,by rw[hs];rfl⟩
 |true=>
  rw[e1] at V;cases e2:jT t with
  |false=>
   have hs:pT r t=0:=by unfold pT;rw[e1,e2];rfl
   rw[e2] at p2;simp only[go_sem,seval,kU,kV,I,F,H,M,z,V,p2,x0,x1,aP,aQ,rg,cS,cV,AJ];exact⟨_,rfl,by rw[hs];rfl⟩
  |true=>
   rw[e2] at p2;obtain⟨⟨_,U⟩,R⟩:=Dx (RQ e1);obtain⟨⟨_,y⟩,hn⟩:=Dx (RQ e2);have C:=Bq J O x;obtain⟨u,hu⟩:=bZ (x.new (.cells [rv]));have un:u.aL=s.aL+3:=by
    rw[<-hu];show x.aL+1=_;omega
   have um:u.gE<=u.aL:=by rw[<-hu];exact bW xm
   have uk:u.get [] x.aL=some (.cells [rv]):=by rw[<-hu];exact cH
   have uo: ∀j,j<x.aL->u.get [] j=x.get [] j:=fun j hj=>by rw[<-hu,cr hj]
   rw[hu] at C;simp only[go_sem,seval,kU,kV,I,F,H,M,z,V,p2,x0,aP,aQ,rg];refine co.of C (by decide) ?_;simp only[go_sem,seval,kU,kV];refine awd a0 J a6 O U R m y hn (bx:=x.aL) (b3:=s.aL) (b4:=s.aL+1) (s0:=u) uk ((uo _ (by omega)).trans x0) ((uo _ (by omega)).trans x1) (by omega) (by omega) (by omega) ?_ ?_ ?_ ?_ um ?_;simp only[sN,seval];simp only[sN,seval];simp only[sN,seval]
   ·repeat' (first|exact rfl|refine aD.all_set ?_ (by first|exact a2|exact a1|rfl))
   intro ex s2 hI hc;have g3:s2.get [] s.aL=some (.cells [tv]):=(hI.old _ (by omega)).trans ((uo _ (by omega)).trans x0);have g4:s2.get [] (s.aL+1)=some (.cells [ag 0]):=(hI.old _ (by omega)).trans ((uo _ (by omega)).trans x1);rcases hc with⟨rfl,a3⟩|⟨rfl,i,hi,j,hj,a4⟩
   have d:((fK r).any fun a=>(fK t).any fun b=>oz a b)=false:=by
    rw[Bool.eq_false_iff];intro h;obtain⟨i,hi,h⟩:=Hj.1 h;obtain⟨j,hj,h⟩:=Hj.1 h;rw[a3 i hi j hj] at h;cases h
   have q1:=aaI O m U R y hn;have q2:=aaI m O y hn U R;obtain⟨b1,h1⟩: ∃b,aX 0 ((ka (fK r) t 1:Nat):Int)=b:=⟨_,rfl⟩;obtain⟨b2,h2⟩: ∃b,aX 0 ((ka (fK r) t (-1):Nat):Int)=b:=⟨_,rfl⟩;obtain⟨b3,Z⟩: ∃b,aX 0 ((ka (fK t) r 1:Nat):Int)=b:=⟨_,rfl⟩;obtain⟨b4,Y⟩: ∃b,aX 0 ((ka (fK t) r (-1):Nat):Int)=b:=⟨_,rfl⟩;have c:pT r t=bif(b1&&b2)||(b3&&b4) then 0 else bif b1 then 2 else bif b3 then 3 else bif b2 then 1 else 4:=by
    unfold pT;rw[e1,e2,d,<-h1,<-h2,<-Z,<-Y,H5,H5,H5,H5];rfl
   have a9:=nA hI.mw;have m0:dv (ag 0)=some 0:=rfl;have m2:dv (ag 2)=some 2:=rfl;simp only[go_sem,seval];refine awi a5 I F.1 q1 q2 (b3:=s.aL) ?_ ?_ g3 hI.mw ?_;simp only[sN,seval];simp only[sN,seval];intro e w h9 B;simp only[sN,seval] at w;clear a2 a1 V p2 C q1 q2 a3 d;simp only[kd,ll];cases b1 with
   |true=>
    cases b2 with
    |true=>
     simp only[go_sem,seval,kU,kV,g4,w,h9,B,aP,aQ,yF,m0,m2,h1,h2,Z,Y,cS,cV,AJ];exact⟨_,rfl,by rw[c];rfl⟩
    |false=>
     cases b3 with
     |true=>cases b4<;>simp only[go_sem,seval,kU,kV,g4,w,h9,B,aP,aQ,yF,m0,m2,h1,h2,Z,Y,cS,cV,AJ]<;>exact⟨_,rfl,by rw[c];rfl⟩
     |false=>
      simp only[go_sem,seval,kU,kV,g4,w,h9,B,aP,aQ,yF,m0,m2,h1,h2,Z,Y,cS,cV,AJ];exact⟨_,rfl,by rw[c];rfl⟩
   |false=>
    cases b3 with
    |true=>cases b4<;>simp only[go_sem,seval,kU,kV,g4,w,h9,B,aP,aQ,yF,m0,m2,h1,h2,Z,Y,cS,cV,AJ]<;>exact⟨_,rfl,by rw[c,dL];rfl⟩
    |false=>cases b2<;>simp only[go_sem,seval,kU,kV,g4,w,h9,B,aP,aQ,yF,m0,m2,h1,h2,Z,Y,cS,cV,AJ]<;>exact⟨_,rfl,by rw[c,dL,dL];rfl⟩
   have d:((fK r).any fun a=>(fK t).any fun b=>oz a b)=true:=Hj.2 ⟨i,hi,Hj.2 ⟨j,hj,a4⟩⟩;have hs:pT r t=0:=by unfold pT;rw[e1,e2,d];rfl
   simp only[go_sem,seval,kU,kV,g4,aP,aQ];exact⟨_,rfl,by rw[hs];rfl⟩
def zj:Sp
 | [u,v]=>(rK u).bind fun r=>(rK v).bind fun t=>some (bF (pT r t))
 |_=>none
def T0:df:=[(225,kX),(229,pW),(236,wW)]
def afC:dl T0:=.cons Qc (.cons KA (.cons asX .nil))
def awh:cL ah 141 zj:=by
 intro d u h G B w xs j m;unfold zj at h;split at h;simp only[ak] at h;obtain⟨r,I,t,H,h⟩:=h;have h:=sI h;subst h;obtain⟨_,F,z⟩:=we I;obtain⟨_,C,y⟩:=we H;refine iu afC (W:=[]) .nil (by simp only[dK,F,C,bX]) (fun J=>?_) G B w xs j m;obtain⟨v,s',c,rfl⟩:=awj (Q:=QW T0 [] J) ⟨rfl,rfl⟩ ⟨rfl,rfl⟩ rfl rfl rfl ⟨rfl,rfl⟩ z y (s:=s0) (by decide);exact⟨_,_,c,1,rfl⟩;cases h
def Dw:Sp
 | [v]=>(rK v).bind fun r=>some (.bool (ph r))
 |_=>none
def awb{r:List Pt}(h:au 2 aN v r):Dw [v]=some (.bool (ph r)):=by
 simp only[Dw,qw h,bk]
def awc:cL ah 326 Dw:=by
 intro c u h G y w xs d j;unfold Dw at h;split at h;simp only[ak] at h;obtain⟨r,B,h⟩:=h;have h:=sI h;subst h;obtain⟨_,z,m⟩:=we B;refine iu (T:=[]) .nil (W:=[]) .nil (by simp only[dK,z,bX]) (fun C=>?_) G y w xs d j;exact⟨_,_,acQ (Q:=QW [] [] C) ⟨rfl,rfl⟩ ⟨rfl,rfl⟩ ⟨rfl,rfl⟩ ⟨rfl,rfl⟩ ⟨rfl,rfl⟩ m s0,1,rfl⟩;cases h
noncomputable abbrev CV(E:aw)(x:Option Ex):aJ:=.loop 329 E 31 [11,12] Fq Fs x
def pE(S:bK):Int:=(S.1.1+S.2.1)*(S.2.2-S.1.2)
def rt(l:List bK):Int:=l.foldl (fun n S=>n+pE S) 0
def qe(r:List Pt):Int:=bif ph r then rt (fK r) else 0
def adT(l:List bK)(S:bK):rt (l++[S])=rt l+pE S:=by unfold rt;rw[List.foldl_append];rfl
def L2(d:bg S.1=true)(c:bg S.2=true): -70368744177664<=pE S/\pE S<=70368744177664:=by
 have a:=wY d;have b:=wY c;exact C7 (by omega) (by omega)
def ayI(R:bg S.1=true)(nb:bg S.2=true)(hi:i<=2000){s0:St}(l3:b3<s0.aL)(e3:ac E 3= .ptr b3 0)(C:mn b3 s0 s)(hl:s.get [] s0.aL=some (CV E none))(F:s.get [] b3=some (.cells [ag n]))(hn: -(i*70368744177664:Int)<=n/\n<=i*70368744177664):
 ∃v s',iI Q s0.aL [aI i,bO S] s.top v s'/\(s'.ci=s.ci/\s.aL<=s'.aL/\mn b3 s0 (s.GE s')/\v= .bool true/\s'.get [] s0.aL=some (CV E none)/\s'.get [] b3=some (.cells [ag (n+pE S)])):=by
 have a0:=C.lt;have H:=C.mw;have n1:=wY R;have n2:=wY nb;have ab:=L2 R nb;have w1:IntKind.i64.wrap (S.1.1+S.2.1)=S.1.1+S.2.1:=jf (by omega) (by omega);have w2:IntKind.i64.wrap (S.2.2-S.1.2)=S.2.2-S.1.2:=jf (by omega) (by omega);have w3:IntKind.i64.wrap ((S.1.1+S.2.1)*(S.2.2-S.1.2))=pE S:=FQ (by omega) (by omega);have w4:IntKind.i64.wrap (n+pE S)=n+pE S:=jf (by omega) (by omega);refine iI.any (ca:=Ph) (cb:=Pj) (show s.top.get [] s0.aL=_ from hl) rfl rfl aqp aqq ?_;refine bP ?_;obtain⟨w,B⟩:=bZ (s.top.put s0.aL none);have wn:w.aL=s.aL:=by rw[<-B];rfl
 have wo: ∀j,j≠s0.aL->w.get [] j=s.get [] j:=fun j m=>by rw[<-B,aU,bN.2 m];rfl
 have wm:w.gE<=w.aL:=by rw[<-B];exact cU s.top _ _ (bj _)
 obtain⟨z,d⟩:=bZ ((w.new (.cells [ag 0,ag 0,ag 0,ag 0])).put w.aL (some (.cells (bO S).cells)));have V:z.aL=s.aL+1:=by rw[<-d,<-wn];rfl
 have Y:z.ci=s.ci:=by rw[<-d,<-B];rfl
 have zm:z.gE<=z.aL:=by rw[<-d];exact cU _ _ _ (bW wm)
 have M:z.get [] w.aL=some (.cells (bO S).cells):=by rw[<-d,aU,bS];rfl
 have J: ∀j,j<s.aL->j≠s0.aL->z.get [] j=s.get [] j:=fun j m c=>by rw[<-d,aU,bN.2 (by omega:j≠w.aL),cF,cr (by omega),wo j c]
 have U: ∀j,j<s0.aL->j≠b3->z.get [] j=s0.get [] j:=fun j m c=>(J j (by omega) (by omega)).trans (C.old j m c);have Z:=(J b3 (by omega) (by omega)).trans F;simp only[bO,lO] at d M;have I:(w.new (.cells [ag 0,ag 0,ag 0,ag 0])).get [] w.aL=some (.cells [ag 0,ag 0,ag 0,ag 0]):=cH;simp only[go_sem,seval,Ph,bO,B,cS,I,cV,d,bf,aZ,aW,aY,evc];obtain⟨y,u⟩:=bZ (z.put b3 (some (.cells [ag (n+pE S)])));have yn:y.aL=s.aL+1:=by rw[<-u];exact V
 have qn:(y.put s0.aL (some (CV E none))).aL=s.aL+1:=yn;have O:y.ci=s.ci:=by rw[<-u];exact Y
 refine bP ?_;simp only[go_sem,seval,Pj,e3,Z,M,aP,aQ,w1,w2,w3,w4,qy,cS,cV,u,ji,jl];refine⟨O,(by show s.aL<=y.aL;omega),⟨fun j m c=>?_,pL H (by show s.aL<=y.aL;omega),?_,O.trans C.ci⟩,?_,?_⟩;rw[lR,aU,bN.2 (by omega:j≠s0.aL),cF,<-u,aU,bN.2 c];exact U j m c;show s0.aL<(y.put s0.aL (some (CV E none))).aL;omega;rw[aU,bS];rfl;rw[aU,bN.2 (by omega:b3≠s0.aL),cF,<-u,aU,bS];rfl
def ayJ(y:No Q 339)(z:No Q 235)(d:Q.spec 326=some Dw)(a0:No Q 329){r:List Pt}(H:au 2 aN rv r)(V:s.gE<=s.aL):
 ∃v s',aq Q 329 [rv] s v s'/\v=bF (qe r):=by
 have J:=H.ge;have U:=vu H;have M:=awb H;refine aq.ofNRZ aqr (bP ?_);cases e1:ph r with
 |false=>
  have R:qe r=0:=by unfold qe;rw[e1];rfl
  rw[e1] at M;simp only[go_sem,seval,J,d,M];exact⟨_,rfl,by rw[R];rfl⟩
 |true=>
  have R:qe r=rt (fK r):=by unfold qe;rw[e1];rfl
  rw[e1] at M;obtain⟨⟨_,I⟩,hn⟩:=Dx e1;obtain⟨x,O⟩:=bZ ((s.new (.cells [ag 0])).put s.aL (some (.cells [ag 0])));have Y:(s.new (.cells [ag 0])).get [] s.aL=some (.cells [ag 0]):=cH;have xn:x.aL=s.aL+1:=by rw[<-O];rfl
  have xm:x.gE<=x.aL:=by rw[<-O];exact cU _ _ _ (bW V)
  have x0:x.get [] s.aL=some (.cells [ag 0]):=by rw[<-O,aU,bS];rfl
  have m:=Bq z H x;obtain⟨u,C⟩:=bZ (x.new (.cells [rv]));have un:u.aL=s.aL+2:=by
   rw[<-C];show x.aL+1=_;omega
  have um:u.gE<=u.aL:=by rw[<-C];exact bW xm
  have uk:u.get [] x.aL=some (.cells [rv]):=by rw[<-C];exact cH
  have u0:u.get [] s.aL=some (.cells [ag 0]):=by rw[<-C,cr (by omega)];exact x0
  rw[C] at m;simp only[go_sem,seval,J,d,M,cS,Y,cV,O];refine co.of m (by decide) ?_;simp only[go_sem,seval];have B: ∀(E:aw) (K:Ex->Fr->St->Prop),ac E 3= .ptr s.aL 0->ac E 10= .func (.func 339) [] [.ptr x.aL 0]->E.all jB=true->(∀c,c.get [] s.aL=some (.cells [ag (rt (fK r))])->K .normal ⟨E,31,[]⟩ c)->W Q 329 (.rfun (.tmp 10) [11,12] Fq Fs) ⟨E,31,[]⟩ u K:=by
   intro E K e3 Z hE hk;obtain⟨v,s',F,rfl,h⟩:=Br y H I (bx:=x.aL) (n:=u.aL) (P:=fun i c=>mn s.aL u c/\c.get [] u.aL=some (CV E none)/\c.get [] s.aL=some (.cells [ag (rt ((fK r).take i))])/\(-(i*70368744177664:Int)<=rt ((fK r).take i)/\rt ((fK r).take i)<=i*70368744177664)) (D:=fun _=>False) (fun k s h=>(h.1.old x.aL (by omega) (by omega)).trans uk) (fun k s h=>h.1.mw) (fun i c hi ⟨hI,hl,w,hb⟩=>by
    obtain⟨na,nb⟩:=Bh hn hi;obtain⟨v,s',q1,q2,q3,q4,rfl,q5,q6⟩:=ayI (Q:=Q) na nb (i:=i) (by omega) (by omega) e3 hI hl w hb;have ab:=L2 na nb;have e:(fK r).take (i+1)=(fK r).take i++[eE r i]:=by
     rw[List.take_add_one,DC hi];rfl
    refine⟨_,s',q1,q2,q3,.inl ⟨rfl,q4,q5,?_,?_⟩⟩;rw[e,adT];exact q6;rw[e,adT];omega) (s:=u.new (CV E none)) ⟨⟨fun j hj _=>cr hj,bW um,jX _,rfl⟩,cH,(cr (by omega)).trans u0,by simp[rt]⟩
   rcases h with⟨hI,hg,w,_⟩|h
   refine oE (h:=339) (first:=[]) (captured:=[.ptr x.aL 0]) (v:=.tup []) (s1:=s') (by simp only[dA,Z]) (by rw[Std.P,rU,aqs,hE];rfl) F hg (hk _ ?_);rw[aU,bN.2 (by omega:s.aL≠u.aL)];rw[sU (by rw[DD];exact bj _)] at w;exact w;exact h.elim
  refine B _ _ ?_ ?_ ?_ ?_;simp only[sN,seval];simp only[sN,seval]
  ·repeat' (first|exact rfl|refine aD.all_set ?_ (by first|exact U|rfl))
  intro c w;simp only[go_sem,seval,aP,w,aQ];exact⟨_,rfl,by rw[R];rfl⟩
def Bw:Sp
 | [v]=>(rK v).bind fun r=>some (bF (qe r))
 |_=>none
def T6:df:=[(326,Dw)]
def afD:dl T6:=.cons awc .nil
def ayG:cL ah 329 Bw:=by
 intro d u h G z w xs j m;unfold Bw at h;split at h;simp only[ak] at h;obtain⟨r,C,h⟩:=h;have h:=sI h;subst h;obtain⟨_,B,y⟩:=we C;refine iu afD (W:=[]) .nil (by simp only[dK,B,bX]) (fun F=>?_) G z w xs j m;obtain⟨v,s',c,rfl⟩:=ayJ (Q:=QW T6 [] F) ⟨rfl,rfl⟩ ⟨rfl,rfl⟩ rfl ⟨rfl,rfl⟩ y (s:=s0) (by decide);exact⟨_,_,c,1,rfl⟩;cases h
def Hc(s:St)(m:Nat)(L:List (ae×aa)):Prop:=s.get [] m=some (.fix (.map (cY aa.str 0 L) L.length))
def asy{t:TypeId}{e:TypeId}{z:aa}(j: ∀k:ae,lw ah t (.str k)=some (9,e))(d:ei ah e=some z){m:Nat}{l:List (ae×aa)}(c:Hc s m l)(k:ae):oe ah [] t (.map m) (.str k) false s=some ((cD k l).getD z):=by
 have c:s.get [] m=_:=c;simp only[oe,j,bk,d,A3,c,Cq iA l k 0 0];cases cD k l<;>rfl
def lX(L:List (ae×aa))(k:ae):List Pt:=((cD k L).bind rK).getD []
def pj(L:List (ae×aa))(k:ae):Int:=max (qe (lX L k)) (-qe (lX L k))
def lK(L:List (ae×aa)):Prop:= ∀x∈L, ∃r,au 2 aN x.2 r
def CT{α:Type}[DecidableEq α]{k:α}{v:aa}: ∀ {L:List (α×aa)},cD k L=some v->(k,v)∈L
 | [],h=>by cases h
 |(a,u)::l,h=>by
  simp only[cD] at h;by_cases e:k=a;rw[iP e] at h;injection h with h;subst h;subst e;exact fE
  rw[iN e] at h;exact iw _ (CT h)
def RD{L:List (ae×aa)}(h:lK L)(k:ae):au 2 aN ((cD k L).getD .Ge) (lX L k):=by
 unfold lX;cases e:cD k L with
 |none=>exact .inl ⟨rfl,rfl⟩
 |some v=>
  obtain⟨r,c⟩:=h _ (CT e);simp only[Option.getD_some,bk,qw c];exact c
def aza(k:IntKind)(n:Int):Bx .neg (.int k n)=some (.int k (k.wrap (0-n))):=rfl
def adS: ∀(l:List bK) (n:Int),(∀S∈l, -70368744177664<=pE S/\pE S<=70368744177664)->n-l.length*70368744177664<=l.foldl (fun n S=>n+pE S) n/\l.foldl (fun n S=>n+pE S) n<=n+l.length*70368744177664
 | [],n,_=>by simp
 |S::l,n,h=>by
  have j:=h S fE;have d:=adS l (n+pE S) fun T c=>h T (iw _ c);simp only[List.foldl_cons,cX];omega
def ayH(r:List Pt): -140737488355328000<=qe r/\qe r<=140737488355328000:=by
 unfold qe;cases e:ph r with
 |false=>
  show(-140737488355328000:Int)<=0/\(0:Int)<=140737488355328000;decide
 |true=>
  obtain⟨⟨_,u⟩,j⟩:=Dx e;have h:=adS (fK r) 0 fun S m=>by
   obtain⟨i,d⟩:=uu m;have c:i<r.length:=by
    have:=(nR.1 d).1;rwa [DD] at this
   rw[DC c] at d;injection d with d;subst d
   obtain⟨a,b⟩:=Bh j c;exact L2 a b
  rw[DD] at h;show _<=rt _/\rt _<=_;unfold rt;omega
def oO(L:List (ae×aa))(a b:ae):Int:=lW [iW (pj L a) (pj L b),gR a b]
def ads(u:No Q 233)(d:Q.spec 329=some Bw){p a:Nat}{L:List (ae×aa)}(F:lK L)(B:s.get [] p=some (.fix (.cells [.map a])))(C:Hc s a L)(k:ae):aq Q 233 [.ptr p 0,.str k] s (bF (pj L k)) s:=by
 have j:=RD F k;have c:=asy A7 D0 C k;obtain⟨v,z⟩:=bZ ((cD k L).getD .Ge);rw[z] at j c;have m:=j.ge;have w:Bw [v]=some (bF (qe (lX L k))):=by simp only[Bw,qw j,bk]
 have H:=ayH (lX L k);have y:IntKind.i64.wrap (0-qe (lX L k))= -qe (lX L k):=by rw[jf (by omega) (by omega)];omega
 refine aq.ofNZ apQ (bP ?_);simp only[go_sem,seval,w8,aP,B,P7,c,m,d,w,bF,aza,y,rP,pj]
def aiq(B:No Q 231)(c:No Q 233)(d:Q.spec 329=some Bw)(u:Q.spec 232=some oN)(w:Q.spec 228=some pG)(z:Q.spec 108=some vp)(j:s.gE<=s.aL){p a:Nat}{L:List (ae×aa)}(I:lK L)(F:s.get [] bx=some (.fix (.cells [.ptr p 0])))(C:s.get [] p=some (.fix (.cells [.map a])))(H:Hc s a L)(x y:ae):aq Q 231 [.str x,.str y,.ptr bx 0] s (bF (oO L x y)) s:=by
 have c1:=ads c d (s:=s.top) I C H x;have c2:=ads c d (s:=s.top) I C H y;have O:oN [ag (pj L x),ag (pj L y)]=some (ag (iW (pj L x) (pj L y))):=rfl;have M:pG [.str x,.str y]=some (ag (gR x y)):=rfl;have J:vp [.list 1 [ag (iW (pj L x) (pj L y)),ag (gR x y)] .GT]=some (ag (oO L x y)):=rfl;have m:=nA j;refine aq.ofNZ apN ?_;refine WE.sound ?_;simp only[go_sem,seval];refine gi j ?_;simp only[go_sem,IJ,seval,aP,F,P7];refine jR.quiet c1 (by decide) (by simp[eh,l8]) ?_;simp only[go_sem,IJ,seval,aP,F,P7];refine jR.quiet c2 (by decide) (by simp[eh,l8]) ?_;simp only[go_sem,IJ,seval,bF,u,O,w,M,z,J,lf,m,bf,aZ,aW,aY,evc]
end Go.Proofs.YtnnppcoplinajaaGreat
namespace Go.Proofs.YtnnppcoplinajaaGreat
open Go.Ag
open Go.Sort (putRow grow Holds SWO)
noncomputable def Cx(bx p a:Nat)(es:List dp)(c:Nat):aD aJ:=((aD.nil.set bx (some (.fix (.cells [.ptr p 0])))).set p (some (.fix (.cells [.map a])))).set a (some (.fix (.map es c)))
def AH(G:Gh)(bx p a:Nat):Gh where
 at_ n:=if n=bx\/n=p\/n=a then G.at_ n else none
 ro:=G.plain.ro
 dim:=G.dim
def ak9(G:Gh)(bx p a:Nat):G.plain.le (AH G bx p a):=⟨fun _ _ e=>(by cases e),fun _ _ _ e=>e,fun _ _ e=>e⟩
variable{x:Addr}{G:Gh}{a bx n p:Nat}
theorem H0(h:(AH G bx p a).at_ n=some x):(n=bx\/n=p\/n=a)/\G.at_ n=some x:=by
 have h:(if n=bx\/n=p\/n=a then G.at_ n else none)=some x:=h
 grind
def Cv(e:n=bx\/n=p\/n=a)(h:G.at_ n=some x):(AH G bx p a).at_ n=some x:=by
 show(if n=bx\/n=p\/n=a then G.at_ n else none)=some x;rw[iP e];exact h
def SE(es:List dp):List dp:=es.map fun e=>⟨e.key,cu e.val,e.born⟩
def Wf{G G2:Gh}(c:G.plain.le G2): ∀ {es:List dp} {ms:List MapEntry},gj G es ms->(∀e∈es,bG e.key=true/\dy e.val=true)->gj G2 (SE es) ms
 |_,_,.nil,_=>.nil
 |_,_,.cons (e:=e) x l,h=>by
  obtain⟨m,j⟩:=h e fE;exact .cons ⟨(x.key.onto (Kc G) m).mono c,(VR.top (Kc G) x.val j).mono c,x.born⟩ (Wf c l fun e d=>h e (iw _ d))
theorem Cy(bx p a:Nat)(es:List dp)(c n:Nat):(Cx bx p a es c).get n=if n=a then some (.fix (.map es c)) else if n=p then some (.fix (.cells [.map a])) else if n=bx then some (.fix (.cells [.ptr p 0])) else none:=by
 simp only[Cx,aD.get_set];rfl
variable{α:Type}
theorem abq{x y:α}{i:Nat}(h:[x][i]? =some y):i=0/\y=x:=by
 grind
variable{c1:List aa}{h:aD aJ}
def wr3{w:World}(wr:WR G h w){c2:List aa}{es:List dp}{c:Nat}(Z:h.get bx=some (.cells (.ptr p 0::c1)))(O:h.get p=some (.cells (.map a::c2)))(M:h.get a=some (.map es c))(he: ∀e∈es,bG e.key=true/\dy e.val=true):WR (AH G bx p a) (Cx bx p a (SE es) c) w:=by
 have a1:a≠p:=fun e=>by rw[e,O] at M;cases M
 have a2:a≠bx:=fun e=>by rw[e,Z] at M;cases M
 have a0:p≠bx:=fun e=>by rw[e,Z] at O;cases O
 have R:=ak9 G bx p a;have old: ∀n,n=bx\/n=p\/n=a-> ∃o,h.get n=some o/\o≠ .tok:=by
  rintro n (rfl|rfl|rfl);exact⟨_,Z,fun e=>by cases e⟩;exact⟨_,O,fun e=>by cases e⟩;exact⟨_,M,fun e=>by cases e⟩
 refine⟨fun n o d=>?_,fun n m x y hn hm j hy he=>?_,fun b o v hv=>?_,fun n ob x i v hn j z=>?_,wr.dim,fun n x j=>wr.below n x (H0 j).2⟩;rw[Cy] at d;by_cases J:n=a;rw[iP J] at d;injection d with d;subst d;subst J
 obtain⟨Y,I,H,ES,F,U⟩:=wr.obj n _ M;exact⟨Y,Cv (.inr (.inr rfl)) I,H,ES,F,Wf R U he⟩;rw[iN J] at d;by_cases V:n=p;rw[iP V] at d;injection d with d;subst d;subst V
 obtain⟨Y,I,H,C,e,F,U,h5⟩:=wr.obj n _ O;refine⟨Y,Cv (.inr (.inl rfl)) I,H,C,e,F,U,fun i v z=>?_⟩;obtain⟨rfl,rfl⟩:=abq z;obtain⟨q1,x,q2,q3⟩:=h5 0 (.map a) rfl;refine⟨q1,x,q2,?_⟩;cases q3 with
 |map B=>exact .map (Cv (.inr (.inr rfl)) B)
 rw[iN V] at d;by_cases e3:n=bx;rw[iP e3] at d;injection d with d;subst d;subst e3
 obtain⟨Y,I,H,C,e,F,U,h5⟩:=wr.obj n _ Z;refine⟨Y,Cv (.inl rfl) I,H,C,e,F,U,fun i v z=>?_⟩;obtain⟨rfl,rfl⟩:=abq z;obtain⟨q1,x,q2,q3⟩:=h5 0 (.ptr p 0) rfl;refine⟨q1,x,q2,?_⟩;cases q3 with
 |ptr B=>exact .ptr (Cv (.inr (.inl rfl)) B)
 rw[iN e3] at d;cases d;obtain⟨J,j⟩:=H0 j;obtain⟨V,hy⟩:=H0 hy;obtain⟨o1,g1,_⟩:=old n J;obtain⟨o2,g2,_⟩:=old m V;exact wr.sep n m x y (by rw[g1];simp) (by rw[g2];simp) j hy he;obtain⟨I,x,H,F⟩:=wr.plain.ro b o v hv;exact⟨I,x,H,F.mono R⟩;obtain⟨J,j⟩:=H0 j;obtain⟨o1,g1,g2⟩:=old n J;have z:((G.ro x.block i).bind fun v=>if bG v=true then some v else none)=some v:=z;simp only[ak] at z;obtain⟨u,hu,_⟩:=z;exact absurd (wr.apart n o1 x i u g1 j hu).1 g2
def Wi: ∀(L:List (ae×aa)) (n:Nat),SE (cY aa.str n L)=cY aa.str n (L.map fun x=>(x.1,cu x.2))
 | [],_=>rfl
 |(k,v)::L,n=>by
  simp only[cY,eT];rw[<-Wi L (n+1)];rfl
def aan(k:ae): ∀L:List (ae×aa),cD k (L.map fun x=>(x.1,cu x.2))=(cD k L).map cu
 | []=>rfl
 |(a,v)::L=>by
  simp only[eT,cD];by_cases e:k=a;rw[iP e,iP e];rfl;rw[iN e,iN e];exact aan k L
def acZ{L:List (ae×aa)}(d:lK L)(k:ae):lX (L.map fun x=>(x.1,cu x.2)) k=lX L k:=by
 unfold lX;rw[aan];cases e:cD k L with
 |none=>rfl
 |some v=>
  obtain⟨r,c⟩:=d _ (CT e);have j:=(nz Ga c).2;simp only[jZ,bk,qw c,qw j]
def awm{L:List (ae×aa)}(m:lK L):lK (L.map fun x=>(x.1,cu x.2)):=fun x d=>by
 obtain⟨y,c,rfl⟩:=cw.1 d;obtain⟨r,j⟩:=m y c;exact⟨r,(nz Ga j).2⟩
def ajf{L:List (ae×aa)}(j:lK L): ∀e∈cY aa.str n L,bG e.key=true/\dy e.val=true:=fun e d=>by
 obtain⟨x,w,u,m⟩:=Na L n e d;obtain⟨r,c⟩:=j x (dM w);rw[u,m];exact⟨rfl,(nz Ga c).1⟩
def Hf:df:=[(329,Bw),(232,oN),(228,pG),(108,vp)]
def afg:dl Hf:=.cons ayG (.cons Hy (.cons MP (.cons abQ .nil)))
theorem aip{W:World}(wr:WR G h W){c2:List aa}{L:List (ae×aa)}(hL:lK L)(hb:h.get bx=some (.cells (.ptr p 0::c1)))(Z:h.get p=some (.cells (.map a::c2)))(U:h.get a=some (.map (cY aa.str 0 L) L.length)){M:Value}(hx:VR G (.ptr bx 0) M)(x y:ae):
 Calls ah 231 (#[.string ⟨⟨x⟩⟩,.string ⟨⟨y⟩⟩]++ #[M]) W fun e w=>e= .returned (.int .i64 (oO L x y))/\ ∃q a1,w=grow (W.drewN q) a1:=by
 have F:=wr3 wr hb Z U (ajf hL);rw[Wi] at F;obtain⟨L',B⟩: ∃L',(L.map fun x=>(x.1,cu x.2))=L':=⟨_,rfl⟩;have a6:L.length=L'.length:=by rw[<-B,bU]
 have a5:lK L':=by rw[<-B];exact awm hL
 have a8:oO L x y=oO L' x y:=by
  unfold oO pj;rw[<-B,acZ hL,acZ hL]
 rw[B,a6] at F;rw[a8];obtain⟨N,hN⟩:=bZ (bx+p+a+1);obtain⟨j,z⟩: ∃j:St,(⟨Cx bx p a (cY aa.str 0 L') L'.length,N,N,0⟩:St)=j:=⟨_,rfl⟩;have a3:a≠p:=fun e=>by rw[e,Z] at U;cases U
 have a4:a≠bx:=fun e=>by rw[e,hb] at U;cases U
 have a2:p≠bx:=fun e=>by rw[e,hb] at Z;cases Z
 have sg: ∀n,j.get [] n=(Cx bx p a (cY aa.str 0 L') L'.length).get n:=fun n=>by rw[<-z];rfl
 have gb:j.get [] bx=some (.fix (.cells [.ptr p 0])):=by rw[sg,Cy,iN (Ne.symm a4),iN (Ne.symm a2),iP rfl]
 have gp:j.get [] p=some (.fix (.cells [.map a])):=by rw[sg,Cy,iN (Ne.symm a3),iP rfl]
 have ga:Hc j a L':=by
  show j.get [] a=_;rw[sg,Cy,iP rfl]
 have R:=aiq (Q:=QW Hf [] fun _=>0) ⟨rfl,rfl⟩ ⟨rfl,rfl⟩ rfl rfl rfl rfl (s:=j) (by rw[<-z];exact bj _) a5 gb gp ga x y;obtain⟨n,hn⟩:=R;have a7:j.ci=0:=by rw[<-z]
 have C: ∀ch,(ce ((QW Hf [] fun _=>0).at ch) n).call 231 [.str x,.str y,.ptr bx 0] [] j=some (bF (oO L' x y),j):=fun ch=>
  (tS (QW Hf [] fun _=>0) n).call 231 _ [] (fun _=>0) j _ j hn ch fun i hi=>by rw[a7] at hi;omega
 have hv:bV (AH G bx p a) [.str x,.str y,.ptr bx 0] [.string ⟨⟨x⟩⟩,.string ⟨⟨y⟩⟩,M]:=by
  refine .cons (.str x) (.cons (.str y) (.cons ?_ .nil));cases hx with
  |ptr a9=>exact .ptr (Cv (.inl rfl) a9)
 have a0:lI [] (fun m=>N<=m) (AH G bx p a) j j W:=by
  refine⟨fun m hm=>?_,.refl _ _,by rw[<-z];exact F,fun m _ hA=>?_⟩
  grind [Cy]
  have hA:N<=m:=hA;show(if m=bx\/m=p\/m=a then G.at_ m else none)=none;rw[iN (by omega)]
 have hc:=(Uv (Xa afg (W:=[]) .nil) n).1 231 [.str x,.str y,.ptr bx 0] [] j j (AH G bx p a) W [.string ⟨⟨x⟩⟩,.string ⟨⟨y⟩⟩,M] (fun _=>0) (fun m=>N<=m) a0 hv (fun _=>(by decide:0<1000000)) (fun J _ _=>⟨_,j,C J,fun m V h2=>by omega⟩);rcases hc with⟨y',w,V,_⟩|⟨_,h2⟩
 have eg:=Go.Proofs.enters_of Tryz.func231 (by kernel_rfl) rfl ⟨[.string ⟨⟨x⟩⟩,.string ⟨⟨y⟩⟩,M]⟩ W;have V:(callFunc 231 ⟨[.string ⟨⟨x⟩⟩,.string ⟨⟨y⟩⟩,M]⟩).run ah W=_:=V;rw[eg] at V;cases V;refine Calls.mono h2 ?_;rintro e w ⟨v,rfl,J,u,s',b0,G',c⟩;have I:=c.eval;rw[C J] at I;simp only[aM,Prod.mk.injEq] at I;obtain⟨rfl,rfl⟩:=I;have O:=c.val;cases O;refine⟨rfl,w.drawn-W.drawn,w.heap.extract W.heap.size w.heap.size,?_⟩;have Y:=c.ext.quiet;have b1:=c.ext.size;have H:w.heap=W.heap++w.heap.extract W.heap.size w.heap.size:=by
  apply Array.ext_getElem?;intro i;by_cases hi:i<W.heap.size;rw[Array.getElem?_append_left hi];refine c.ext.keepW i hi ?_;rintro⟨n,ad,o,d,q2,q3,_⟩;have d:j.heap.get n=some o:=d;rw[<-z] at d;have d:(Cx _ _ _ _ _).get n=some o:=d;rw[Cy] at d;by_cases e1:n=a;rw[iP e1] at d;injection d with d;subst d;cases q2
  rw[iN e1] at d;by_cases e2:n=p;rw[iP e2] at d;injection d with d;subst d;cases q2
  rw[iN e2] at d;by_cases e3:n=bx;rw[iP e3] at d;injection d with d;subst d;cases q2
  rw[iN e3] at d;cases d
  grind
 have hd:=Y.2.2.2.2.2;refine aeL H Y.2.2.2.2.1 ?_ Y.1 Y.2.1;show w.drawn=W.drawn+(w.drawn-W.drawn);omega
theorem HA{L:List (ae×aa)}{a b:ae}:oO L a b<0↔(pj L a<pj L b\/(pj L a=pj L b/\dn a b<0)):=by
 grind [oO,QU,Hz,iW,aX,an]
theorem ax6(L:List (ae×aa)):SWO (ltOf (oO L)) where
 irrefl x:=by
  simp only[ltOf,decide_eq_false_iff_not,HA,Eu];omega
 trans x y z h1 h2:=by
  grind [ltOf,HA,Ev]
 ntrans x y z h1 h2:=by
  grind [ltOf,HA,uK,Au,Ev]
theorem ayB(L:List (ae×aa))(x y:ae)(d:ltOf (oO L) x y=false)(c:ltOf (oO L) y x=false):x=y:=by
 grind [ltOf,HA,Au,uK]
def xC(L:List (ae×aa))(l:List ae):List ae:=l.mergeSort fun x y=> !(ltOf (oO L)) y x
def RV(L:List (ae×aa))(l:List ae):(xC L l).Perm l:=List.mergeSort_perm _ _
def Gl{α:Type}(x:Option α)(k:α->Rd):Rd:=match x with|some a=>k a|none=>.ret none
def Rj:aJ->Option Nat
 | .cells (.ptr p o::_)=>bif aK o 0 then some p else none
 |_=>none
def Qa:aJ->Option Nat
 | .cells (.map a::_)=>some a
 |_=>none
noncomputable def EE(o:aJ):Option (List (ae×aa)):=by
 classical exact if h: ∃L:List (ae×aa),o= .map (cY aa.str 0 L) L.length/\lK L then some h.choose else none
theorem ajc{o:aJ}{L:List (ae×aa)}(h:EE o=some L):o= .map (cY aa.str 0 L) L.length/\lK L:=by
 unfold EE at h;split at h
 all_goals grind
theorem We: ∀ {L M:List (ae×aa)} {n:Nat},cY aa.str n L=cY aa.str n M->L=M
 | [],[],_,_=>rfl
 | [],_::_,_,h=>by cases h
 |_::_,[],_,h=>by cases h
 |(a,u)::L,(b,v)::M,n,h=>by
  simp only[cY,List.cons.injEq,dp.mk.injEq,aa.str.injEq] at h;obtain⟨⟨rfl,rfl,_⟩,h⟩:=h;rw[We h]
theorem ajb{L:List (ae×aa)}(c:lK L):EE (.map (cY aa.str 0 L) L.length)=some L:=by
 have d: ∃M:List (ae×aa),(aJ.map (cY aa.str 0 L) L.length)= .map (cY aa.str 0 M) M.length/\lK M:=⟨L,rfl,c⟩
 grind [EE,We]
noncomputable def GB(bx len:Nat)(cs:List aa):Rd:=.ask bx fun o=>Gl (Rj o) fun p=>.ask p fun o=>Gl (Qa o) fun a=>.ask a fun o=>Gl (EE o) fun L=>
 t7 (bif aK cs.length len&&bu len 1000000 then(wf cs).bind fun l=>some ((xC L l).map ax) else none)
noncomputable def DI:List aa->Option pA
 | [.arr k m 0 len _,.func (.func g) [] [.ptr bx 0]]=>bif aK k 1&&aK g 231 then some (some (m,GB bx len)) else none
 | [.Ge,.func (.func g) [] [.ptr _ 0]]=>bif aK g 231 then some none else none
 |_=>none
variable{g:Nat->Option aJ}
def Rl{x:Option α}{k:α->Rd}{v:aa}(h:fC g (Gl x k)=some v): ∃a,x=some a/\fC g (k a)=some v:=by
 cases x with
 |none=>cases h
 |some a=>exact⟨a,rfl,h⟩
theorem axE{len:Nat}{cs cs':List aa}(h:fC g (GB bx len cs)=some (.agg cs')): ∃(p a:Nat) (c1 c2:List aa) (L:List (ae×aa)) (l:List ae),g bx=some (.cells (.ptr p 0::c1))/\g p=some (.cells (.map a::c2))/\g a=some (.map (cY aa.str 0 L) L.length)/\lK L/\cs=l.map ax/\l.length=len/\len<=1000000/\cs'=(xC L l).map ax:=by
 unfold GB at h;simp only[fC,ak] at h;obtain⟨H,R,h⟩:=h;obtain⟨p,c,h⟩:=Rl h;simp only[fC,ak] at h;obtain⟨F,O,h⟩:=h;obtain⟨a,w,h⟩:=Rl h;simp only[fC,ak] at h;obtain⟨C,M,h⟩:=h;obtain⟨L,y,z⟩:=Rl h;obtain⟨rfl,I⟩:=ajc y;have h:=Gk z;obtain⟨d,h⟩:=bc h;simp only[bq] at d;simp only[ak,aM] at h;obtain⟨l,B,J⟩:=h;have u:=L7 B;have j:=jI d.1;have m:=fF d.2;unfold Rj at c;split at c;obtain⟨e,c⟩:=bc c;have e:=jI e;injection c with c;subst c;subst e
 unfold Qa at w
 grind
 cases c
variable{l:List ae}
theorem ax1(h:l.map ax= .ptr p 0::c1):False:=by
 cases l with
 |nil=>cases h
 |cons x l=>injection h with h _;cases h
theorem ax2(h:l.map ax= .map a::c1):False:=by
 cases l with
 |nil=>cases h
 |cons x l=>injection h with h _;cases h
theorem axw:uF 230 DI:=by
 intro c8 G h w xs wr hx;refine⟨fun c=>?_,fun n gf cs d4 c hl hg=>?_⟩
 ·unfold DI at c
  split at c
  grind
  ·cases hx with
   |cons p q=>
   cases q with
   |cons q r=>
   cases r;cases p;refine .inr ⟨Go.Proofs.enters_of Tryz.func230 (by kernel_rfl) rfl _ _,(AnyF.slices_SortFunc_none (P:=ah) (ρ:=Tryz.sortF230_ren) {Tryz.sortF230 with } none 0 _ w).mono ?_⟩;rintro e Y ⟨rfl,rfl⟩;exact⟨_,rfl,G,wr,.refl,.tup .nil⟩
  cases c
 ·unfold DI at c
  split at c
  ·rename_i k m len c6 g bx
   obtain⟨hb,c⟩:=bc c;simp only[bq] at hb;have e1:=jI hb.1;have e2:=jI hb.2;subst e1;subst e2;injection c with c;injection c with c;injection c with b1 b0
   subst b1;subst b0;obtain⟨p,a,c1,c2,L,l,gb,gp,ga,hL,rfl,rfl,c9,rfl⟩:=axE hg;cases hx with
   |cons x1 x2=>
   cases x2 with
   |cons x2 x3=>
   cases x3;cases x2 with
   |func u1 u2=>
   cases u1;cases u2 with
   |cons b2 u3=>
   cases u3;rename_i px;obtain⟨ad,b,a2,rfl,R,u,c7,c5,d,B,hd⟩:=L4 x1;obtain⟨b',H,_,C,e,hC,O,c3⟩:=wr.obj m _ hl;rw[R] at H;injection H with H;subst H
   rw[O] at B;injection B with B
   have a4:bx≠m:=fun e=>by grind [ax1]
   have a3:p≠m:=fun e=>by grind [ax2]
   have a5:a≠m:=fun e=>by rw[e,hl] at ga;cases ga
   have d1: ∀i (V:i<l.length),C[b.off+i]? =some (encStr l[i]):=fun i V=>by
    obtain⟨_,x,a7,a6⟩:=c3 i (ax l[i]) (by grind);cases a6;exact a7
   have z: ∀n I (F:Array ae),F.size=l.length-> ∃U,WR U (h.set m (some (.cells (F.toList.map ax)))) (grow (putRow encStr (Sort.ahead w n) b.block b.off F) I)/\cO G h w U (h.set m (some (.cells (F.toList.map ax)))) (grow (putRow encStr (Sort.ahead w n) b.block b.off F) I) 0 0/\VR U (.tup []) (.tuple #[]):=fun n I F a0=>by
    refine Ko wr hl R encStr F n I (fun C' e' d2=>?_) (fun i v V=>?_)
    grind
    rw[jo,Option.map_eq_some_iff] at V;obtain⟨s,c,rfl⟩:=V;rw[Array.getElem?_toList] at c;obtain⟨V,d0⟩:=Array.getElem?_eq_some_iff.1 c;refine⟨V,rfl,?_⟩;have:F[i]! =s:=by rw[getElem!_def,c]
    rw[this];exact .str s
   have a9:(xC L l).length=l.length:=(RV L l).length_eq;rcases c5 with h0|⟨M,J⟩
   have b8:l=[]:=vP h0;subst b8;refine .inr ⟨Go.Proofs.enters_of Tryz.func230 (by kernel_rfl) rfl _ _,(AnyF.slices_SortFunc_none (P:=ah) (ρ:=Tryz.sortF230_ren) {Tryz.sortF230 with } (some ad) a2 _ w).mono ?_⟩;rintro e' Y ⟨rfl,rfl⟩;obtain⟨U,g1,g2,g3⟩:=z 0 #[] #[] rfl;have hw:grow (putRow encStr (Sort.ahead Y 0) b.block b.off #[]) #[]=Y:=by
    rw[Go.Sort.grow_empty,Go.Sort.ahead_zero];exact Go.Sort.putRow_self encStr Y b.block b.off _ (fun j hj=>by simp at hj)
   grind
   obtain⟨ab,ao,d5⟩:=ad;simp only at M J u;subst M;subst J;subst u;have hH:Holds encStr w b.block b.off l.toArray:=fun j hj=>by
    grind [World.frozen?,oL]
   have c4:=wr.below m b R;have a1:CmpLays1 ah 231 #[px] encStr (oO L) b.block b.off l.toArray.size w:=fun n I F a0 x y=>by
    obtain⟨U,g1,g2,_⟩:=z n I F (by simpa using a0);exact aip g1 hL (by rw[aD.get_set,iN a4];exact gb) (by rw[aD.get_set,iN a3];exact gp) (by rw[aD.get_set,iN a5];exact ga) (b2.mono g2.le) x y
   have Z:=Any.slices_SortFunc_total Tryz.sortF230 encStr (fun _=>rfl) (oO L) (ax6 L) 231 #[px] b.block b.off a2 l.toArray w (Go.Proofs.enters_of Tryz.func231 (by kernel_rfl) rfl) a1 hH c4 (by simp;omega) (ayB L);have a8:l.toArray.size=l.length:=by simp
   rw[a8] at Z;refine .inr ⟨Go.Proofs.enters_of Tryz.func230 (by kernel_rfl) rfl _ _,Z.mono ?_⟩;rintro e' Y ⟨rfl,n,I,rfl⟩;obtain⟨U,g1,g2,g3⟩:=z n I (xC L l).toArray (by simpa using a9);exact⟨_,rfl,U,g1,g2,g3⟩
  all_goals grind
end Go.Proofs.YtnnppcoplinajaaGreat
namespace Go.Proofs.YtnnppcoplinajaaGreat
open Go.Ag
variable{Q:aF}[Std Q]
def jk(l:List Obj):List (ae×aa):=l.map fun o=>(o.id,o.val)
theorem yQ(k:ae): ∀l:List Obj,cD k (jk l)=(ck k l).map Obj.val
 | []=>rfl
 |o::l=>by
  have c:=yQ k l
  grind [jk,cD,ck]
theorem yY{k:ae}: ∀ {l:List Obj},k ∉ l.map Obj.id->ck k l=none
 | [],_=>rfl
 |o::l,h=>by
  have d:(k==o.id)=false:=by
   simp only[eT,dG,not_or] at h;simpa using h.1
  have c:=yY (k:=k) (l:=l) fun j=>h (by grind);simp only[ck,d,cF,c]
variable{K:Ex->Fr->St->Prop}{l:List Obj}{b p:Nat}{bv ov:aa}
def atz(ho:au 6 Obj.val ov l)(hl:l.length<=1000000)(z:(l.map Obj.id).Nodup){av:aa}{s0:St}(hp:s0.get [] p=some (.cells [av,.map b,bv]))(R:p≠b)(hx: ∀e lc s,ac e 3= .ptr p 0->ac e 1= .Gt 1 1 0->lc.gen 1=1->lc.get 1 1=some [ov]->lc.gen 7=0->dr b s0 s->bM aa.str s b (jk l)->K (.exit 0) ⟨e,97,lc⟩ s):
 ∀(d c:List Obj) (e:aw) (lc:Ag.Loc) (s:St),l=c++d->dr b s0 s->bM aa.str s b (jk c)->
  ac e 3= .ptr p 0->ac e 1= .Gt 1 1 0->lc.gen 1=1->lc.get 1 1=some [ov]->lc.gen 7=0->ac e 21=ov->ac e 22=aI l.length->ac e 23=aI c.length->W Q 137 (.loop Im) ⟨e,97,lc⟩ s K:=by
 intro d
 induction d with
 |nil=>
  intro c e lc s y C Y F H g1 I g7 w j u;have a0:c.length=l.length:=by rw[y];simp
  have O:c=l:=by rw[y];simp
  refine bm ?_;simp only[go_sem,seval,Im,j,u,a0,cq];exact hx _ _ _ (by simp only[sN,seval,F]) (by simp only[sN,seval,H]) g1 I g7 C (by rw[<-O];exact Y)
 |cons o d ih=>
  intro c e lc s y C Y F H g1 I g7 w j u;have Z:c.length<l.length:=by rw[y];simp
  have a2:l[c.length]? =some o:=by rw[y];simp
  have a1:=fun lc k=>ho.at eO.2.2.1 a2 lc k;have J:=da (n:=c.length) (by omega);have U:cD o.id (jk c)=none:=by
   rw[yQ,yY,sV];intro hc;rw[y,eK] at z;exact(zU.1 z).2.2 _ hc o.id (by simp) rfl
  have M:s.get [] p=some (.cells [av,.map b,bv]):=(C.old p R).trans hp;have V:bM aa.str s.top b (jk c):=Y;have m:=vK iA vh V o.id o.val;have B:en o.id o.val (jk c)=jk (c++[o]):=by
   rw[u6 U];unfold jk;rw[eK];rfl
  rw[B] at m;simp only[Obj.val,Obj.cells] at m;refine bm ?_;simp only[go_sem,seval,Im,F,w,j,u,Z,a1,J,M,C.mw,aP,aQ,Obj.val,Obj.cells,m];refine ih (c++[o]) _ _ _ (by rw[y];simp) (C.putT _) ?_ ?_ ?_ ?_ ?_ ?_ ?_ ?_ ?_;show St.get _ [] b=_;rw[lR,aU,bS];rfl
  all_goals simp only[aV,fQ,f7,ai,F,H,g1,I,g7,w,j,sA]
structure Lx (p g7:Nat) (c7:List aa) (ov:aa) (n i:Nat) (e:aw) (lc:Ag.Loc):Prop where
 h3:ac e 3= .ptr p 0
 h7:ac e 7= .Gt 7 g7 0
 q7:lc.gen 7=g7
 l7:lc.get 7 g7=some c7
 h36:ac e 36=ov
 h37:ac e 37=aI n
 h38:ac e 38=aI i
variable{i lo n:Nat}{rv:aa}
theorem atJ{z:List ae}(a0:au 1 ax rv z)(c3:z.length<=900000){g7:Nat}{c7:List aa}{av:aa}{s0:St}(hp:s0.get [] p=some (.cells [av,.map b,bv]))(hM:bM aa.str s0 b (jk l))(M:p<lo)(b0:b<lo)(hx: ∀e lc s v,z.all (di l)=true->cI 2 lo s v ((z.map (ep l)).map aN)->(∀k,k<lo->s.get [] k=s0.get [] k)->s.gE<=s.aL->lo<=s.aL->ac e 8=v->Lx p g7 c7 ov n i e lc->K (.exit 4) ⟨e,97,lc⟩ s)(hc: ∀e lc s,z.all (di l)=false->(∀k,k<lo->s.get [] k=s0.get [] k)->s.gE<=s.aL->lo<=s.aL->Lx p g7 c7 ov n i e lc->K (.exit 3) ⟨e,97,lc⟩ s):
 ∀(m c:List ae) (e:aw) (lc:Ag.Loc) (s:St) (v:aa),z=c++m->c.all (di l)=true->cI 2 lo s v ((c.map (ep l)).map aN)->(∀k,k<lo->s.get [] k=s0.get [] k)->s.gE<=s.aL->lo<=s.aL->ac e 8=v->ac e 46=rv->ac e 47=aI z.length->ac e 48=aI c.length->Lx p g7 c7 ov n i e lc->W Q 137 (.loop CF) ⟨e,97,lc⟩ s K:=by
 intro m
 induction m with
 |nil=>
  intro c e lc s v I hn V j B C Y H w u F;have a9:c.length=z.length:=by rw[I];simp
  have M:c=z:=by rw[I];simp
  refine bm ?_;simp only[go_sem,seval,CF,w,u,a9,cq];rw[M] at V hn;refine hx _ _ _ v hn V j B C ?_ ⟨?_,?_,F.q7,F.l7,?_,?_,?_⟩
  all_goals simp only[sN,seval,Y,F.h3,F.h7,F.h36,F.h37,F.h38]
 |cons r m ih=>
  intro c e lc s v I hn V j B C Y H w u F;have O:c.length<z.length:=by rw[I];simp
  have b1:z[c.length]? =some r:=by rw[I];simp
  have U:=fun lc k=>a0.at bT.2.2.1 b1 lc k;have Z:=da (n:=c.length) (by omega);have J:s.get [] p=some (.cells [av,.map b,bv]):=(j p M).trans hp;have b2:bM aa.str s b (jk l):=(j b b0).trans hM;have d:=yT iA vh BF b2 r;rw[yQ] at d;have vc:=V.ge;have e3:=F.h3;have e7:=F.h7;cases hq:ck r l with
  |none=>
   have hb:z.all (di l)=false:=by
    rw[I,List.all_append,kx];have:di l r=false:=by simp only[di,mH,hq];rfl
    rw[this];simp
   rw[hq] at d;simp only[sV,om] at d;refine bm ?_;simp only[go_sem,seval,CF,ax,e3,H,w,u,O,U,J,aP,aQ,d,eA];refine hc _ _ _ hb j B C ⟨?_,?_,?_,?_,?_,?_,?_⟩
   all_goals simp only[dc,fQ,f7,ai,F.h3,F.h7,F.q7,F.l7,F.h36,F.h37,F.h38]
  |some q=>
   rw[hq] at d;simp only[jZ,om,Obj.val,Obj.cells] at d;cases R:an q.Al 1 with
   |false=>
    have hb:z.all (di l)=false:=by
     rw[I,List.all_append,kx];have:di l r=false:=by simp only[di,mH,hq];exact R
     rw[this];simp
    refine bm ?_;simp only[go_sem,seval,CF,ax,e3,H,w,u,O,U,J,aP,aQ,d,eA,R];refine hc _ _ _ hb j B C ⟨?_,?_,?_,?_,?_,?_,?_⟩
    all_goals simp only[dc,fQ,f7,ai,F.h3,F.h7,F.q7,F.l7,F.h36,F.h37,F.h38]
   |true=>
    have b8:di l r=true:=by simp only[di,mH,hq];exact R
    have a8:aN (ep l r)= .agg [ag q.x,ag q.y]:=by simp only[Gg hq,aN]
    obtain⟨v',s1,a1,a2,a3,a4,a5,a6,a7⟩:=Ek (t:=218) mR.1 rfl (by decide) (s:=s) (y:=.list 2 [aN (ep l r)] .GT) (ys:=[aN (ep l r)]) V (by simp only[fc,ee]) (by
     grind) C B
    rw[a8] at a1;refine bm ?_;simp only[go_sem,seval,CF,ax,e3,Y,H,w,u,O,U,J,aP,aQ,d,eA,R];simp only[go_sem,seval,Y,vc,u,Z,a1,a7,bf,aZ,aW,aY,evc];refine ih (c++[r]) _ _ s1 v' (by rw[I];simp) ?_ ?_ (fun k R=>(a6 k R).trans (j k R)) a5 (by omega) ?_ ?_ ?_ ?_ ⟨?_,?_,?_,?_,?_,?_,?_⟩
    grind
    grind
    all_goals simp only[aV,fQ,f7,ai,H,w,F.h3,F.h7,F.q7,F.l7,F.h36,F.h37,F.h38,sA]
def mq(l:List Obj)(o:Obj):Bool:=match t8 l o with|some r=> !jT r|none=>false
def mG(l:List Obj)(o:Obj):Bool:=(pR l o).isSome
structure v8 (l pre:List Obj) (p a b lo:Nat) (s0 s:St) (L:List (ae×aa)) (bv:aa):Prop where
 hp:s.get [] p=some (.cells [.map a,.map b,bv])
 ma:bM aa.str s a L
 mb:bM aa.str s b (jk l)
 ids:L.map (·.1)=(pre.filter (mG l)).map Obj.id
 rings: ∀x∈L, ∃o∈pre,x.1=o.id/\ ∃r,pR l o=some r/\au 2 aN x.2 r
 bad:cI 1 lo s bv (((pre.filter (mq l)).map Obj.id).map ax)
 old: ∀k,k<lo->k≠p->k≠a->s.get [] k=s0.get [] k
 mw:s.gE<=s.aL
 nx:lo<=s.aL
variable{α:Type}
def wE{f:α->Bool}{l:List α}{x:α}(h:f x=true):(l++[x]).filter f=l.filter f++[x]:=by
 rw[BH,List.filter_cons_of_pos h];rfl
def qJ{f:α->Bool}{l:List α}{x:α}(h:f x=false):(l++[x]).filter f=l.filter f:=by
 rw[BH,K8 (by rw[h];exact Bool.false_ne_true)];simp
variable{a:Nat}{o:Obj}{s s':St}
def v8.skip{c:List Obj}{s0:St}{L:List (ae×aa)}(I:v8 l c p a b lo s0 s L bv)(V:mG l o=false)(U:mq l o=false)(d: ∀k,k<s.aL->s'.get [] k=s.get [] k)(J:s'.gE<=s'.aL)(Z:s.aL<=s'.aL)(H:p<lo)(R:a<lo)(O:b<lo):v8 l (c++[o]) p a b lo s0 s' L bv:=by
 have Y:=I.nx;refine⟨(d p (by omega)).trans I.hp,(d a (by omega)).trans I.ma,(d b (by omega)).trans I.mb,by rw[qJ V];exact I.ids,fun x F=>?_,?_,fun k M C B=>(d k (by omega)).trans (I.old k M C B),J,by omega⟩;obtain⟨z,m,j⟩:=I.rings x F;exact⟨z,sR _ m,j⟩;rw[qJ U];rcases I.bad with h|⟨m,k,j,y,w,u⟩
 exact .inl h;exact .inr ⟨m,k,j,(d k u).trans y,w,by omega⟩
def atf(b1:Q.spec 229=some pW)(ho:au 6 Obj.val ov l)(hg: ∀o∈l,o.AL)(hl:l.length<=900000)(hr: ∀o∈l,o.gT.length<=900000)(d5:(l.map Obj.id).Nodup)(R:p<lo)(c6:a<lo)(b8:b<lo)(d2:p≠a)(e9:p≠b)(f3:a≠b){s0:St}(O: ∀e lc s L bv,ac e 3= .ptr p 0->v8 l l p a b lo s0 s L bv->K (.exit 2) ⟨e,97,lc⟩ s):
 ∀(z c:List Obj) (e:aw) (lc:Ag.Loc) (s:St) (L:List (ae×aa)) (bv:aa),l=c++z->v8 l c p a b lo s0 s L bv->
  ac e 3= .ptr p 0->ac e 36=ov->ac e 37=aI l.length->ac e 38=aI c.length->W Q 137 (.loop CG) ⟨e,97,lc⟩ s K:=by
 intro z
 induction z with
 |nil=>
  intro c e lc s L bv h1 I h3 V C B;have f2:c.length=l.length:=by rw[h1];simp
  have R:c=l:=by rw[h1];simp
  refine bm ?_;simp only[go_sem,seval,CG,C,B,f2,cq];exact O _ _ _ L bv (by simp only[sN,seval,h3]) (by rw[R] at I;exact I)
 |cons o z ih=>
  intro c e lc s L bv h1 I h3 V C B;have d7:c.length<l.length:=by rw[h1];simp
  have e5:l[c.length]? =some o:=by rw[h1];simp
  have d4:o∈l:=dM e5;have go:=hg o d4;have rc:=go.gT.ge;have f1:=go.gT.lenS bT;have e0:=fun lc k=>ho.at eO.2.2.1 e5 lc k;have a0:=da (n:=c.length) (by omega);have next: ∀(e':aw) (d0:Ag.Loc) (s':St) (L':List (ae×aa)) (H:aa),v8 l (c++[o]) p a b lo s0 s' L' H->ac e' 3= .ptr p 0->ac e' 36=ov->ac e' 37=aI l.length->ac e' 38=aI c.length->W Q 137 (.loop CG) ⟨(e'.set 95 (some (ag ((c.length+1:Nat):Int)))).set 38 (some (ag ((c.length+1:Nat):Int))),97,d0⟩ s' K:=fun e' d0 s' L' H I' e3 g0 f6 Y=>by
   refine ih (c++[o]) _ _ s' L' H (by rw[h1];simp) I' ?_ ?_ ?_ ?_
   all_goals simp only[sN,seval,e3,g0,f6,sA,eM]
  cases hk:an o.Al 3 with
  |false=>
   have j:t8 l o=none:=by unfold t8;rw[hk];rfl
   have M:mG l o=false:=by unfold mG pR;rw[j];rfl
   have J:mq l o=false:=by unfold mq;rw[j]
   refine bm ?_;simp only[go_sem,seval,CG,h3,V,C,B,d7,e0,a0,hk,Obj.val,Obj.cells];refine next _ _ s L bv (I.skip M J (fun _ _=>rfl) I.mw (bj _) R c6 b8) ?_ ?_ ?_ ?_
   all_goals simp only[sN,seval,h3,V,C,B]
  |true=>
   refine kB ?_;simp only[go_sem,seval,CG,h3,V,C,B,d7,e0,hk,Obj.val,Obj.cells,rc,f1];have nx:=I.nx;refine atJ go.gT (hr o d4) (c7:=[.str o.id,ag o.Al,ag o.x,ag o.y,o.refsV,o.tagsV]) (p:=p) (b:=b) (lo:=s.aL) (n:=l.length) (i:=c.length) (ov:=ov) (av:=.map a) (bv:=bv) (s0:=s) I.hp I.mb (by omega) (by omega) ?_ ?_ o.gT [] _ _ s .Ge rfl rfl (.inl ⟨rfl,rfl⟩) (fun _ _=>rfl) I.mw (bj _) ?_ ?_ ?_ ?_ ⟨?_,?_,rfl,?_,?_,?_,?_⟩
   ·intro e1 c9 s1 v U hO w m b0 h8 F
    have j:t8 l o=some (o.gT.map (ep l)):=by unfold t8;rw[hk,U];rfl
    have vc:=hO.ge;have Z:=Kz hO.isL;have e3:=F.h3;have e7:=F.h7;have f5:=F.q7;have c8:=F.l7;have Y:=F.h38;obtain⟨g,b2⟩:=bZ (c9.gen 7);rw[<-f5,b2] at e7 c8;have a9:s1.get [] p=some (.cells [.map a,.map b,bv]):=(w p (by omega)).trans I.hp;cases hs:jT (o.gT.map (ep l)) with
    |false=>
     have M:mG l o=false:=by unfold mG pR;rw[j];simp[hs]
     have J:mq l o=true:=by unfold mq;rw[j];simp[hs]
     rw[hs] at Z;have e4:cI 1 lo s1 bv (((c.filter (mq l)).map Obj.id).map ax):=by
      rcases I.bad with h|⟨Z,k,q2,q3,q4,q5⟩
      exact .inl h;exact .inr ⟨Z,k,q2,(w k q5).trans q3,q4,by omega⟩
     have e2:((c.filter (mq l)).map Obj.id).length<=900000:=by
      rw[bU]
      have:=kA (mq l) c;omega
     obtain⟨H,s2,a1,a2,a3,a4,a5,a6,a7,a8⟩:=Uz (t:=25) bT.1 rfl (by decide) (enc:=ax) e4 o.id e2 (by omega) m;simp only[ax] at a1;have g1:=e4.ge;obtain⟨u,hu⟩:=bZ (s1.GE s2);rw[hu] at a2 a5 a6;have un:u.aL=s2.aL:=by rw[<-hu];rfl
     have e6:u.get [] p=some (.cells [.map a,.map b,bv]):=(a6 p R).trans a9;have d:=(dr.refl a5:dr p u u).putT (some (.cells [.map a,.map b,H]));simp only[go_sem,seval,h8,vc,b1,Z];refine gi m ?_;have d6:=nA m;simp only[go_sem,EZ,Ik,Il,seval,e3,e7,c8,b2,a9,aP,aQ,g1,d6,ax,bf,aZ,aW,aY,evc];simp only[go_sem,EZ,Ik,Il,seval,ax,a1,a3,a4,a7,a8,hu,e6,cS,cV,Y,a0];refine next _ _ _ L H ⟨?_,?_,?_,?_,fun x O=>?_,?_,fun k hk M J=>?_,d.mw,?_⟩ ?_ ?_ ?_ ?_
     rw[lR,aU,bS];rfl;exact(d.old a d2.symm).trans ((a6 a c6).trans ((w a (by omega)).trans I.ma));exact(d.old b e9.symm).trans ((a6 b b8).trans ((w b (by omega)).trans I.mb));rw[qJ M];exact I.ids;obtain⟨o',Z,q2⟩:=I.rings x O;exact⟨o',sR _ Z,q2⟩;rw[wE J,eK];rcases a2 with⟨c1,c2⟩|⟨c1,k,c2,c3,c4,c5⟩
     simp at c2;exact .inr ⟨c1,k,c2,(d.old k (by omega)).trans c3,c4,by rw[d.aL];exact c5⟩;exact(d.old k M).trans ((a6 k hk).trans ((w k (by omega)).trans (I.old k hk M J)));rw[d.aL,un];omega
     all_goals simp only[sN,seval,F.h3,F.h36,F.h37,F.h38]
    |true=>
     have M:mG l o=true:=by unfold mG pR;rw[j];simp[hs]
     have e8:pR l o=some (o.gT.map (ep l)):=by unfold pR;rw[j];simp[hs]
     have J:mq l o=false:=by unfold mq;rw[j];simp[hs]
     rw[hs] at Z;have f4:bM aa.str s1.top a L:=(w a (by omega)).trans I.ma;have f0:cD o.id L=none:=by
      cases hc:cD o.id L with
      |none=>rfl
      |some v'=>
       obtain⟨o',c1,c2,_⟩:=I.rings _ (CT hc);have c2:o.id=o'.id:=c2;rw[h1,eK] at d5;exact absurd c2.symm ((zU.1 d5).2.2 o'.id (List.mem_map_of_mem c1) o.id (by simp))
     have d1:=vK iA A7 f4 o.id v;rw[u6 f0] at d1;have d:=(dr.refl m:dr a s1 s1).putT (some (.map (cY aa.str 0 (L++[(o.id,v)])) (L++[(o.id,v)]).length));simp only[go_sem,seval,h8,vc,b1,Z];refine gi m ?_;simp only[go_sem,EZ,Ik,Il,seval,e3,e7,c8,b2,h8,vc,a9,aP,aQ,d1,Y,a0];refine next _ _ _ (L++[(o.id,v)]) bv ⟨?_,?_,?_,?_,fun x O=>?_,?_,fun k hk M J=>?_,d.mw,?_⟩ ?_ ?_ ?_ ?_
     exact(d.old p d2).trans a9;show St.get _ [] a=_;rw[lR,aU,bS];rfl;exact(d.old b f3.symm).trans ((w b (by omega)).trans I.mb);rw[wE M,eK,eK,I.ids];rfl;rcases hQ.1 O with O|O
     obtain⟨o',Z,q2⟩:=I.rings x O;exact⟨o',sR _ Z,q2⟩;have O:=List.mem_singleton.1 O;subst O;exact⟨o,by simp,rfl,_,e8,hO.isL⟩;rw[qJ J];rcases I.bad with h|⟨c1,k,c2,c3,c4,c5⟩
     exact .inl h;exact .inr ⟨c1,k,c2,(d.old k (by omega)).trans ((w k c5).trans c3),c4,by rw[d.aL];omega⟩;exact(d.old k J).trans ((w k (by omega)).trans (I.old k hk M J));rw[d.aL];omega
     all_goals simp only[sN,seval,F.h3,F.h36,F.h37,F.h38]
   ·intro e1 c9 s1 U w m b0 F
    have j:t8 l o=none:=by unfold t8;rw[U,gA];rfl
    have M:mG l o=false:=by unfold mG pR;rw[j];rfl
    have J:mq l o=false:=by unfold mq;rw[j]
    have Y:=F.h38;simp only[go_sem,seval,Y,a0];refine next _ _ s1 L bv (I.skip M J w m b0 R c6 b8) ?_ ?_ ?_ ?_
    all_goals simp only[sN,seval,F.h3,F.h36,F.h37,F.h38]
   all_goals simp only[sL,seval,h3,V,C,B,ct]
   all_goals rfl
def abg(J:Q.spec 31=some im)(F:Q.spec 229=some pW)(U:No Q 137)(m:au 6 Obj.val ov l)(hg: ∀o∈l,o.AL)(hl:l.length<=900000)(hr: ∀o∈l,o.gT.length<=900000)(Z:cM l=true)(hm:s.gE<=s.aL):
 ∃v s',aq Q 137 [.agg [ov]] s v s'/\(v= .ptr (s.aL+2) 0/\ ∃c L bv,v8 l l (s.aL+2) s.aL (s.aL+1) (s.aL+3) c s' L bv/\ ∀k,k<s.aL->c.get [] k=s.get [] k):=by
 have a1:=gV;have w:=m.lenS eO;have B:=m.cs;have u:=qN Z;have V:=wT m hg (by omega);rw[Z] at V;obtain⟨z,j⟩:=bZ ((s.new (.map [] 0)).new (.map [] 0));have O:z.aL=s.aL+2:=by rw[<-j];rfl
 have Y:(s.new (.map [] 0)).aL=s.aL+1:=rfl;obtain⟨y,d⟩:=bZ (z.new (.cells [.map s.aL,.map (s.aL+1),.Ge]));have yn:y.aL=s.aL+3:=by rw[<-d];show z.aL+1=_;omega
 have ym:y.gE<=y.aL:=by rw[<-d,<-j];exact bW (bW (bW hm))
 have R:y.get [] (s.aL+2)=some (.cells [.map s.aL,.map (s.aL+1),.Ge]):=by rw[<-d,<-O];exact cH
 have ya:y.get [] s.aL=some (.map [] 0):=by rw[<-d,cr (by omega),<-j,cr (by omega)];exact cH
 have yb:y.get [] (s.aL+1)=some (.map [] 0):=by rw[<-d,cr (by omega),<-j,<-Y];exact cH
 have yo: ∀k,k<s.aL->y.get [] k=s.get [] k:=fun k H=>by rw[<-d,cr (by omega),<-j,cr (by omega),cr H]
 refine aq.ofNRZ aoC (bP ?_);simp only[go_sem,seval,w,B,J,V,mJ,uI,Er,Y,j,O,d,bf,aZ,aW,aY,evc];refine atz m (by omega) u (p:=s.aL+2) (b:=s.aL+1) (av:=.map s.aL) (bv:=.Ge) (s0:=y) R (by omega) ?_ l [] _ _ y rfl (.refl ym) yb ?_ ?_ ?_ ?_ ?_ ?_ ?_ ?_
 ·intro e lc c M r1 g1 l1 g7 C hM
  have I0:v8 l [] (s.aL+2) s.aL (s.aL+1) (s.aL+3) c c [] .Ge:=by
   refine⟨(C.old _ (by omega)).trans R,(C.old _ (by omega)).trans ya,hM,rfl,fun x hx=>(by cases hx),.inl ⟨rfl,rfl⟩,fun _ _ _ _=>rfl,C.mw,by rw[C.aL];omega⟩
  simp only[go_sem,seval,r1,l1,g1,w,B];refine atf F m hg hl hr u (p:=s.aL+2) (a:=s.aL) (b:=s.aL+1) (lo:=s.aL+3) (by omega) (by omega) (by omega) (by omega) (by omega) (by omega) (s0:=c) ?_ l [] _ _ c [] .Ge rfl I0 ?_ ?_ ?_ ?_;intro e2 a0 s2 L bv M I;simp only[go_sem,seval,M];exact⟨_,rfl,rfl,c,L,bv,I,fun k H=>(C.old k (by omega)).trans (yo k H)⟩
  all_goals simp only[sN,seval,M,ct]
  all_goals rfl
 all_goals simp only[aV,nY,ai,bH,ct]
 all_goals rfl
def ayO:ah.underlying 214=some (.map 9 218):=by kernel_rfl
variable{v:aa}
def agf(c:No Q 139)(k:ae)(d:v.ge=true)(s:St):aq Q 139 [.str k,v] s (.bool true) s:=by
 refine aq.ofNZ aoE (bP ?_);simp only[go_sem,seval]
variable{bx:Nat}
def atK(hK: ∀i,1000000<=Q.kmax i)(B:No Q 139){it:Nat}{L:List (ae×aa)}(a9:L.length<1000000)(a8:lK L)(c1:it<lo)(c2:a<lo)(d1:a≠it){s0:St}{C:Ex->Fr->St->Prop}(hx: ∀e lc s ov (c:List ae),c.Perm (L.map (·.1))->kD 1 s ov (c.map ax)->(∀k,k<lo->k≠it->s.get [] k=s0.get [] k)->lo<=s.aL->s.gE<=s.aL->(∀r,jE ov=some r->lo<=r)->ac e 5=ov->ac e 2= .ptr bx 0->C (.exit 0) ⟨e,30,lc⟩ s):
 ∀(U:Nat) (seen:List Nat) (e:aw) (lc:Ag.Loc) (s:St) (ov:aa) (c:List ae),U+seen.length=L.length->iT aa.str s it a L seen->c=seen.map (fun b=>(L.getD b ([],.Ge)).1)->kD 1 s ov (c.map ax)->(∀k,k<lo->k≠it->s.get [] k=s0.get [] k)->lo<=s.aL->s.gE<=s.aL->(∀r,jE ov=some r->lo<=r)->ac e 5=ov->ac e 1= .func (.func 139) [] []->ac e 2= .ptr bx 0->ac e 12= .ptr it 0->W Q 138 (.loop Oy) ⟨e,30,lc⟩ s C:=by
 intro U
 induction U with
 |zero=>
  intro seen e lc s ov c hc I j O w J u d R Y V m;rcases I.aL Q.ch Q.kmax (fun i=>by have:=hK i;omega) with⟨hp,hn⟩|⟨b,p,s1,hb,hnm,hlt,_⟩
  refine bm ?_;simp only[go_sem,seval,Oy,m,yB,hn,eA,bf,aZ,aW,aY,evc];refine hx _ _ s ov c ?_ O w J u d (by simp only[sN,seval,R]) (by simp only[sN,seval,V]);rw[j];refine(hp.map _).trans ?_;have:(hZ L.length).map (fun b=>(L.getD b ([],.Ge)).1)=L.map (·.1):=by
   refine List.ext_getElem (by simp) fun i h1 h2=>?_;have h2:i<L.length:=by simpa using h2
   simp[m8,h2]
  rw[this];omega
 |succ U ih=>
  intro seen e lc s ov c hc I j O w J u d R Y V m;rcases I.aL Q.ch Q.kmax (fun i=>by have:=hK i;omega) with⟨hp,hn⟩|⟨b,p,s1,hb,hnm,hlt,hn,ho,hi,hn1,hm1⟩
  have:=hp.length_eq;rw[List.length_range] at this;omega
  ·have I1:=I.go d1 hb hnm ho hi
   have a0:=iT.entry hi I1.hm hb;have H:s1.gE<=s1.aL:=by rw[hm1,hn1];exact cU s it none u
   have Z:=O.ge;obtain⟨r,z⟩:=a8 p (dM hb);have pc:=z.ge;have a7:kD 1 s1 ov (c.map ax):=O.mono (fun r z=>ho r (by have:=d r z;omega)) (by omega);have M:c.length<1000000:=by rw[j,bU];omega
   obtain⟨s3,a1,a2,a3,a4,a5,a6⟩:=L1 (t:=25) bT.1 rfl (by decide) (ax p.1) (fun y hy=>by
    obtain⟨x,_,rfl⟩:=cw.1 hy;rfl) (by rw[bU];exact M) H a7
   simp only[ax] at a1;refine bm ?_;simp only[go_sem,seval,Oy,R,Y,m,yB,hn,EN,a0,eA,pc,bf,aZ,aW,aY,evc];refine co.of (agf B p.1 pc s1) (by decide) ?_;simp only[go_sem,seval,R,Z,a1,ii,Vq,bf,aZ,aW,aY,evc];refine ih (seen++[b]) _ _ s3 (.arr 1 s1.aL 0 ((c.map ax).length+1) ((c.map ax).length+1)) (c++[p.1]) (by rw[de];simp only[cX,ct];omega) ⟨?_,?_,I1.nd,I1.lt⟩ ?_ ?_ (fun k hk F=>?_) (by omega) a5 (fun r z=>?_) ?_ ?_ ?_ ?_;rw[a6 it (by omega) (fun e=>by have:=d it e;omega)];exact I1.hi;exact(a6 a (by omega) (fun e=>by have:=d a e;omega)).trans I1.hm;rw[eK,<-j];simp[m8,hb];rw[eK];exact a2;rw[a6 k (by omega) (fun e=>by have:=d k e;omega),ho k F];exact w k hk F;injection z with z
   omega
   all_goals simp only[sN,seval,Y,V,m,bU]
variable{c2:List aa}
def axJ(hK: ∀i,1000000<=Q.kmax i)(M:No Q 139)(w:Q.spec 230=none)(B:Q.specW 230=some DI)(a7:No Q 138){L:List (ae×aa)}(a1:L.length<1000000)(a2:lK L)(hp:s.get [] p=some (.cells (.map a::c2)))(ha:bM aa.str s a L)(pl:p<s.aL)(al:a<s.aL)(a5:s.gE<=s.aL):
 ∃v s',aq Q 138 [.ptr p 0,.func (.func 139) [] []] s v s'/\ ∃c:List ae,c.Perm (L.map (·.1))/\kD 1 s' v (c.map ax)/\(∀k,k<s.aL->s'.get [] k=s.get [] k)/\s.aL<=s'.aL/\s'.gE<=s'.aL/\(∀r,jE v=some r->s.aL<=r):=by
 obtain⟨z,R⟩:=bZ (s.new (.cells [.ptr p 0]));have zn:z.aL=s.aL+1:=by rw[<-R];rfl
 have zb:z.get [] s.aL=some (.cells [.ptr p 0]):=by rw[<-R];exact cH
 have zo: ∀k,k<s.aL->z.get [] k=s.get [] k:=fun k Y=>by rw[<-R,cr Y]
 have zm:z.gE<=z.aL:=by rw[<-R];exact bW a5
 have zp:=(zo p pl).trans hp;have za:bM aa.str z a L:=(zo a al).trans ha;have V:=iT.new ayO za;have hI:=iT.begin za (by omega);obtain⟨u,hu⟩:=bZ (z.new (.iter (some a) L.length [] L.length));rw[hu] at V hI;have un:u.aL=s.aL+2:=by rw[<-hu];show z.aL+1=_;omega
 have uo: ∀k,k<z.aL->u.get [] k=z.get [] k:=fun k Y=>by rw[<-hu,cr Y]
 have um:u.gE<=u.aL:=by rw[<-hu];exact bW zm
 refine aq.ofNRZ aoD (bP ?_);simp only[go_sem,seval,Hv,R,zb,zp,aP,aQ,HX,V,bf,aZ,aW,aY,evc];refine atK hK M (it:=z.aL) (a:=a) (lo:=s.aL+2) (bx:=s.aL) a1 a2 (by omega) (by omega) (by omega) (s0:=u) ?_ L.length [] _ _ u .Ge [] (by simp) hI rfl (.inl ⟨rfl,rfl⟩) (fun _ _ _=>rfl) (by omega) um (fun r hr=>by cases hr) ?_ ?_ ?_ ?_;intro e lc y ov c d hO Z a9 C U h5 r2;have O:=hO.ge;have old: ∀k,k<s.aL->y.get [] k=s.get [] k:=fun k Y=>(Z k (by omega) (by omega)).trans ((uo k (by omega)).trans (zo k Y));have b8:c.length<1000000:=by rw[d.length_eq,bU];exact a1
 simp only[go_sem,seval,h5,r2,O,w,nC];have I: ∃v F,aq Q 230 [ov,.func (.func 231) [] [.ptr s.aL 0]] y v F/\(v= .tup []/\ ∃m:List ae,m.Perm (L.map (·.1))/\kD 1 F ov (m.map ax)/\(∀k,k<s.aL->F.get [] k=s.get [] k)/\s.aL<=F.aL/\F.gE<=F.aL):=by
  rcases hO with⟨rfl,h0⟩|⟨h0,k,rfl,hg,a6⟩
  have h0:=zT.1 h0;subst h0;exact⟨_,y,aq.specW0 w (Std.H _) B rfl,rfl,[],d,.inl ⟨rfl,rfl⟩,old,by omega,C⟩;have b0:=U k rfl;have gb:y.get [] s.aL=some (.cells [.ptr p 0]):=(Z _ (by omega) (by omega)).trans ((uo _ (by omega)).trans zb);have gp:y.get [] p=some (.cells (.map a::c2)):=(old p pl).trans hp;have ga:y.get [] a=some (.map (cY aa.str 0 L) L.length):=(old a al).trans ha;have a8:aK (c.map ax).length (c.map ax).length=true:=Nat.beq_refl _;have a0:bu (c.map ax).length 1000000=true:=cN (by rw[bU];omega);have a3:fC (y.get []) (GB s.aL (c.map ax).length (aG (c.map ax)))=some (.agg ((xC L c).map ax)):=by
   rw[AD];simp only[fc,GB,fC,gb,bk,Rj,Gl,gp,Qa,ga,ajb a2,t7,a0,bX,L8]
  have a4:=(RV L c).trans d;have J:((xC L c).map ax).length=(c.map ax).length:=by rw[bU,bU,(RV L c).length_eq]
  refine⟨_,_,aq.specW (n:=k) (cs':=(xC L c).map ax) w (Std.H _) B rfl hg a3,rfl,xC L c,a4,.inr ⟨fun e=>?_,k,?_,?_,a6⟩,fun j hj=>?_,?_,cU y k _ C⟩;rw[e] at J;exact h0 (vP J.symm);rw[J];rw[aU,bS,AD];rfl;rw[aU,bN.2 (by omega:j≠k)];exact old j hj;show s.aL<=y.aL;omega
 refine co.ex I (by decide) ?_;rintro v F ⟨rfl,m,b1,b2,b3,b4,b5⟩;simp only[go_sem,seval,h5,O];exact⟨_,rfl,m,b1,b2,b3,b4,b5,fun r hr=>by have:=U r hr;omega⟩
 all_goals simp only[sN,seval]
variable{xs:List aa}
def BS{t:TypeId}{E:EI}{sz:Nat}(H:lY ah t=some E)(B:E.n=sz)(F:E.b<=88){y x:aa}(h:cI sz lo s ov xs)(z:ee [] E.g E.n y s=some [x])(m:xs.length<=900000)(d:lo<=s.aL)(C:s.gE<=s.aL):
 ∃c s',eU ah [] t ov y false s=some (c,s')/\cI sz lo s' c (xs++[x])/\c.cells=[c]/\s'.aL=s.aL+1/\s'.gE<=s'.aL/\(∀n,n<s.aL->s.get [] n≠some .tok->s'.get [] n=s.get [] n)/\(∀n,n<lo->s'.get [] n=s.get [] n):=by
 obtain⟨s',R,O,U,M,J,w⟩:=UA H B F h z (by simp) (by rw[List.length_singleton];omega) C;refine⟨_,s',R,.inr ⟨by simp,s.aL,rfl,O,d,by omega⟩,rfl,M,J,fun n u I=>w n u fun k j e=>?_,fun n u=>w n (by omega) fun k j e=>?_⟩;subst e;exact I (h.token j).2.2
 have:=(h.token j).1;omega
def eJ(k:Int)(c:List ae):aa:=.agg [.str [],ag k,.list 1 (c.map ax) .GT]
structure oH (s s':St):Prop where
 old: ∀n,n<s.aL->s.get [] n≠some .tok->s'.get [] n=s.get [] n
 nx:s.aL<=s'.aL
 mw:s'.gE<=s'.aL
def oH.refl(h:s.gE<=s.aL):oH s s:=⟨fun _ _ _=>rfl,bj _,h⟩
def oH.app{s1 s2:St}(h:oH s s1)(w:s2.aL=s1.aL+1)(d:s2.gE<=s2.aL)(j: ∀n,n<s1.aL->s1.get [] n≠some .tok->s2.get [] n=s1.get [] n):oH s s2:=by
 have u:=h.nx;refine⟨fun n m c=>?_,by omega,d⟩;have e:=h.old n m c;rw[j n (by omega) (by rw[e];exact c),e]
def atg{pv:aa}{B:List ae}(hB:au 1 ax bv B)(hl:B.length<=900000){s0:St}(hx: ∀e lc s ov,cI 3 lo s ov (B.map fun i=>eJ 3 [i])->oH s0 s->lo<=s.aL->ac e 3=pv->ac e 4=ov->K (.exit 0) ⟨e,76,lc⟩ s):
 ∀(d c:List ae) (e:aw) (lc:Ag.Loc) (s:St) (ov:aa),B=c++d->cI 3 lo s ov (c.map fun i=>eJ 3 [i])->oH s0 s->lo<=s.aL->ac e 3=pv->ac e 4=ov->ac e 19=bv->ac e 20=aI B.length->ac e 21=aI c.length->W Q 60 (.loop PH) ⟨e,76,lc⟩ s K:=by
 intro d
 induction d with
 |nil=>
  intro c e lc s ov z H I u Z J w m j;have U:c.length=B.length:=by rw[z];simp
  have O:c=B:=by rw[z];simp
  refine bm ?_;simp only[go_sem,seval,PH,m,j,U,cq];rw[O] at H;exact hx _ _ _ ov H I u (by simp only[sN,seval,Z]) (by simp only[sN,seval,J])
 |cons x d ih=>
  intro c e lc s ov z H I u Z J w m j;have R:c.length<B.length:=by rw[z];simp
  have Y:B[c.length]? =some x:=by rw[z];simp
  have V:=fun lc k=>hB.at bT.2.2.1 Y lc k;have F:=da (n:=c.length) (by omega);have C:=H.ge;obtain⟨M,s1,a1,a2,a3,a4,a5,a6,a7⟩:=BS (t:=35) iq.1 rfl (by decide) (s:=s) (y:=.list 3 [eJ 3 [x]] .GT) (x:=eJ 3 [x]) H (by simp only[fc,ee]) (by rw[bU];omega) u I.mw;have a0:=a2.ge;simp only[eJ,eT,sQ,ax] at a1;refine bm ?_;simp only[go_sem,seval,PH,ax,J,w,m,j,R,V,F,C,bf,aZ,aW,aY,evc];simp only[go_sem,seval,ax,J,j,F,C,a1,a3,bf,aZ,aW,aY,evc];refine ih (c++[x]) _ _ s1 M (by rw[z];simp) (by rw[eK];exact a2) (I.app a4 a5 a6) (by omega) ?_ ?_ ?_ ?_ ?_
  all_goals simp only[sN,seval,Z,w,m,sA]
def HE(L:List (ae×aa))(q:ae×ae):Bool:=an (pT (lX L q.1) (lX L q.2)) 0
def lC(L:List (ae×aa))(l:List (ae×ae)):List aa:=(l.filter (HE L)).map fun q=>eJ 4 [q.1,q.2]
def SA(L:List (ae×aa))(a b:List (ae×ae)):lC L (a++b)=lC L a++lC L b:=by
 unfold lC;rw[BH,eK]
variable{S:List ae}
def atH(O:Q.spec 141=some zj){r:Nat}{L:List (ae×aa)}(b0:lK L)(hl:S.length<=900000)(hi:i<S.length){x:ae}(c7:S[i]? =some x){bse:List aa}(c9:bse.length+S.length<=900000){s0:St}(hp:s0.get [] p=some (.cells (.map a::c2)))(ha:bM aa.str s0 a L)(hr:s0.get [] r=some (.cells (S.map ax)))(pl:p<s0.aL)(al:a<s0.aL)(rl:r<s0.aL)(hx: ∀e lc s ov,cI 3 lo s ov (bse++lC L ((S.drop (i+1)).map fun y=>(x,y)))->oH s0 s->lo<=s.aL->ac e 3= .ptr p 0->ac e 4=ov->ac e 7= .arr 1 r 0 S.length S.length->ac e 36= .arr 1 r 0 S.length S.length->ac e 37=aI S.length->ac e 38=aI i->K (.exit 4) ⟨e,76,lc⟩ s):
 ∀(j c:List ae) (e:aw) (lc:Ag.Loc) (s:St) (ov:aa),S.drop (i+1)=c++j->cI 3 lo s ov (bse++lC L (c.map fun y=>(x,y)))->oH s0 s->lo<=s.aL->ac e 3= .ptr p 0->ac e 4=ov->ac e 7= .arr 1 r 0 S.length S.length->ac e 9= .str x->ac e 36= .arr 1 r 0 S.length S.length->ac e 37=aI S.length->ac e 38=aI i->ac e 46= .arr 1 r (i+1) (S.length-(i+1)) (S.length-(i+1))->ac e 47=ag ((S.length-(i+1):Nat):Int)->ac e 48=aI c.length->W Q 60 (.loop CP) ⟨e,76,lc⟩ s K:=by
 intro j;have a8:(S.drop (i+1)).length=S.length-(i+1):=List.length_drop
 induction j with
 |nil=>
  intro c e lc s ov Z hO C B M h4 h7 J I H F w u d;have c5:c.length=S.length-(i+1):=by rw[<-a8,Z];simp
  have c4:c=S.drop (i+1):=by rw[Z];simp
  refine bm ?_;simp only[go_sem,seval,CP,u,d,c5,cq];rw[c4] at hO;refine hx _ _ _ ov hO C B ?_ ?_ ?_ ?_ ?_ ?_
  all_goals simp only[sN,seval,M,h4,h7,I,H,F]
 |cons y j ih=>
  intro c e lc s ov Z hO C B M h4 h7 J I H F w u d;have V:c.length<S.length-(i+1):=by rw[<-a8,Z];simp
  have c6:S[i+1+c.length]? =some y:=by
   have:(S.drop (i+1))[c.length]? =some y:=by rw[Z];simp
   rw[List.getElem?_drop] at this;exact this
  have U:=da (n:=c.length) (by omega);have z:=(C.old p pl (by rw[hp];simp)).trans hp;have a9:bM aa.str s a L:=(C.old a al (by rw[show s0.get [] a=_ from ha];simp)).trans ha;have c3:=(C.old r rl (by rw[hr];simp)).trans hr;have a0:yO ah 9 (i+1+c.length*1) (s.get [] r)=some (.str y):=by
   rw[c3,aQ,gK,xS,GV,jo,c6];rfl
  have hb:bh c.length (S.length-(i+1))=true:=cN V;have m:s.gE<=s.aL:=C.mw;have k1:=qP iA A7 D0 (s:=s.top) a9 x;have k2:=qP iA A7 D0 (s:=s.top) a9 y;have r1:=RD b0 x;have r2:=RD b0 y;obtain⟨v1,b8⟩: ∃v,(cD x L).getD .Ge=v:=⟨_,rfl⟩;obtain⟨v2,b2⟩: ∃v,(cD y L).getD .Ge=v:=⟨_,rfl⟩;rw[b8] at r1 k1;rw[b2] at r2 k2;have c1:=r1.ge;have c2:=r2.ge;have q1:zj [v1,v2]=some (bF (pT (lX L x) (lX L y))):=by simp only[zj,qw r1,qw r2,bk]
  have b1:=hO.ge;have c8:(lC L (c.map fun y=>(x,y))).length<=c.length:=by
   unfold lC;rw[bU];refine Nat.le_trans (kA _ _) ?_;rw[bU];exact bj _
  cases hz:an (pT (lX L x) (lX L y)) 0 with
  |false=>
   have Y:cI 3 lo s ov (bse++lC L ((c++[y]).map fun y=>(x,y))):=by
    have:lC L [(x,y)]=[]:=by unfold lC HE;rw[K8 (by rw[hz];exact Bool.false_ne_true)];rfl
    rw[eK,SA];show cI 3 lo s ov (bse++(_++lC L [(x,y)]));rw[this,ky];exact hO
   refine bm ?_;simp only[go_sem,seval,CP,M,J,w,u,d,V,hb,m,bT,aP,a0,z,aQ,xG];simp only[go_sem,seval,CP,m,M,J,d,z,U,aP,aQ,xG,k1,k2,c1,c2,O,q1,bF,hz];refine ih (c++[y]) _ _ s ov (by rw[Z];simp) Y C B ?_ ?_ ?_ ?_ ?_ ?_ ?_ ?_ ?_ ?_
   all_goals simp only[sN,seval,M,h4,h7,J,I,H,F,w,u,sA]
  |true=>
   obtain⟨R,s1,a1,a2,a3,a4,a5,a6,a7⟩:=BS (t:=35) iq.1 rfl (by decide) (s:=s) (y:=.list 3 [eJ 4 [x,y]] .GT) (x:=eJ 4 [x,y]) hO (by simp only[fc,ee]) (by rw[de];omega) B C.mw;simp only[eJ,eT,sQ,ax] at a1;have Y:cI 3 lo s1 R (bse++lC L ((c++[y]).map fun y=>(x,y))):=by
    have:lC L [(x,y)]=[eJ 4 [x,y]]:=by unfold lC HE;simp[hz]
    rw[eK,SA];show cI 3 lo s1 R (bse++(_++lC L [(x,y)]));rw[this,<-oC];exact a2
   refine bm ?_;simp only[go_sem,seval,CP,M,J,w,u,d,V,hb,m,bT,aP,a0,z,aQ,xG];simp only[go_sem,seval,CP,m,M,J,d,z,U,aP,aQ,xG,k1,k2,c1,c2,O,q1,bF,hz];simp only[go_sem,seval,ax,h4,J,d,U,b1,a1,a3,bf,aZ,aW,aY,evc];refine ih (c++[y]) _ _ s1 R (by rw[Z];simp) Y (C.app a4 a5 a6) (by omega) ?_ ?_ ?_ ?_ ?_ ?_ ?_ ?_ ?_ ?_
   all_goals simp only[sN,seval,M,h7,J,I,H,F,w,u,sA]
def Qt(e:aw)(x:Operand)(d:Nat):eV e (some x) d=(ev e x).bind dv:=rfl
def Qs(e:aw)(d:Nat):eV e none d=some d:=rfl
def Gd(n o:Nat):dz ah .eql 212 (.ptr n o) .nilp=some (.bool false):=by kernel_rfl
theorem EM(h:aD aJ)(k:Int)(c:List ae):cG h 3 (eJ k c)=some (eJ k c):=by
 have e:cG h 2 (.list 1 (c.map ax) .GT)=some (.list 1 (c.map ax) .GT):=HV h (by rw[Bi];rfl) fun v d=>by
  obtain⟨x,_,rfl⟩:=cw.1 d;rfl
 show(dt (cG h 2) [.str [],ag k,.list 1 (c.map ax) .GT]).bind (fun r=>some (aa.agg r))=_;rw[yA fun v d=>?_];rfl;simp only[dG,List.not_mem_nil,or_false] at d;rcases d with rfl|rfl|rfl
 rfl;rfl;exact e
def Bl(l:List Obj)(k:ae):List Pt:=(kK l k).getD []
def Ay(l:List Obj)(q:ae×ae):Bool:=an (pT (Bl l q.1) (Bl l q.2)) 0
def wh(l:List Obj):List ae:=(l.filter (mq l)).map Obj.id
def iU(l:List Obj):List ae:=(l.filter (mG l)).map Obj.id
def vi(l:List Obj):List aa:=(wh l).map (fun i=>eJ 3 [i])++((nL (iU l)).filter (Ay l)).map fun q=>eJ 4 [q.1,q.2]
def DW(l:List Obj):aa:=gw 3 (vi l)
theorem FM{α:Type}{q:α×α}: ∀ {l:List α},q∈nL l->q.1∈l/\q.2∈l
 | [],h=>by cases h
 |a::l,h=>by
  rcases hQ.1 h with h|h
  grind
  have:=FM h
  grind
theorem Ra{α:Type}: ∀l:List α,(nL l).length<=l.length*l.length
 | []=>bj _
 |a::l=>by
  have:=Ra l
  grind [nL,Nat.succ_mul,Nat.mul_succ]
variable{k:ae}
theorem acX(m:(l.map Obj.id).Nodup){L:List (ae×aa)}(u:L.map (·.1)=iU l)(j: ∀x∈L, ∃o∈l,x.1=o.id/\ ∃r,pR l o=some r/\au 2 aN x.2 r)(c:k∈iU l):lX L k=Bl l k:=by
 rw[<-u] at c;cases e:cD k L with
 |none=>
  obtain⟨x,d,rfl⟩:=cw.1 c;exfalso;have: ∀ {M:List (ae×aa)},x∈M->cD x.1 M≠none:=by
   intro M
   induction M with
   |nil=>intro h;cases h
   |cons y M w=>
    grind [cD]
  exact this d e
 |some v=>
  obtain⟨o,z,F,r,C,B⟩:=j _ (CT e)
  grind [lX,Bl,kK,De,qw]
theorem anF(h:cM l=true)(p:Obj->Bool){c:List ae}(u:c.Perm ((l.filter p).map Obj.id)):lB c=(l.filter p).map Obj.id:=by
 simp only[cM,bq] at h;have j:(l.map (·.id)).Pairwise (fun a b=>lz a b=true):=(CA l [] h.1).2.imp fun m=>by
  grind [Go.Proofs.bytesLess_eq,lz]
 have d:((l.filter p).map Obj.id).Pairwise (fun a b=>lz a b=true):=j.sublist (List.filter_sublist.map _)
 grind [List.Perm.eq_of_pairwise,lz,RX,GA]
def atF(U:Q.spec 141=some zj){r:Nat}{L:List (ae×aa)}(a5:lK L){tot:List aa}(a8:tot.length+S.length<=900000){s0:St}(hp:s0.get [] p=some (.cells (.map a::c2)))(ha:bM aa.str s0 a L)(hr:s0.get [] r=some (.cells (S.map ax)))(pl:p<s0.aL)(al:a<s0.aL)(rl:r<s0.aL)(hx: ∀e lc s ov,cI 3 lo s ov tot->oH s0 s->ac e 4=ov->K (.exit 2) ⟨e,76,lc⟩ s):
 ∀(d c:List ae) (e:aw) (lc:Ag.Loc) (s:St) (ov:aa) (j:List aa),S=c++d->j++lC L (nL d)=tot->cI 3 lo s ov j->oH s0 s->lo<=s.aL->ac e 3= .ptr p 0->ac e 4=ov->ac e 7= .arr 1 r 0 S.length S.length->ac e 36= .arr 1 r 0 S.length S.length->ac e 37=aI S.length->ac e 38=aI c.length->W Q 60 (.loop Fz) ⟨e,76,lc⟩ s K:=by
 intro d
 induction d with
 |nil=>
  intro c e lc s ov j z y hO V F h3 h4 h7 R w u;have a1:c.length=S.length:=by rw[z];simp
  refine bm ?_;simp only[go_sem,seval,Fz,w,u,a1,cq];have y:j=tot:=by rw[<-y];exact(ky j).symm
  subst y;exact hx _ _ _ ov hO V (by simp only[sN,seval,h4])
 |cons x d ih=>
  intro c e lc s ov j z y hO V F h3 h4 h7 R w u;have m:c.length<S.length:=by rw[z];simp
  have M:S[c.length]? =some x:=by rw[z];simp
  have J:S.drop (c.length+1)=d:=by rw[z];simp
  have a9:j.length<=tot.length:=by rw[<-y,de];omega
  have B:=da (n:=c.length) (by omega);have Z:=(V.old r rl (by rw[hr];simp)).trans hr;have I:yO ah 9 (0+c.length*1) (s.get [] r)=some (.str x):=by
   rw[Z,aQ,gK,xS,eM,GV,jo,M];rfl
  rw[eM] at I;have hb:bh c.length S.length=true:=cN m;have a4:bu (c.length+1) S.length=true:=cN m;have a3:bu S.length S.length=true:=cN (bj _);have H:c.length+1<=S.length:=m;have a0:dv (ag (((c.length+1:Nat):Int)))=some (c.length+1):=rfl;refine bm ?_;simp only[go_sem,seval,Fz,h3,h7,R,w,u,m,hb,bT,ii,aP,I];simp only[go_sem,seval,Fz,h7,u,B,a4,a3,H,a0,Q7,RR,Qt,Qs,yN,ii,xS,bj];refine atH U a5 (i:=c.length) (x:=x) (S:=S) (by omega) m M (bse:=j) (by omega) (s0:=s0) hp ha hr pl al rl ?_ d [] _ _ s ov J (by show cI 3 lo s ov (j++[]);rw[ky];exact hO) V F ?_ ?_ ?_ ?_ ?_ ?_ ?_ ?_ ?_ ?_
  ·intro e1 a7 s1 Y O a2 C g3 g4 g7 b1 b0 a6
   rw[J] at O;simp only[go_sem,seval,a6,B];refine ih (c++[x]) _ _ s1 Y _ (by rw[z];simp) ?_ O a2 C ?_ ?_ ?_ ?_ ?_ ?_;rw[oC,<-SA];exact y
   all_goals simp_all [sN]
  all_goals simp_all [sN]
  all_goals rfl
theorem ahV(hK: ∀i,1000000<=Q.kmax i)(f2:Q.spec 31=some im)(c9:Q.spec 229=some pW)(d0:Q.spec 141=some zj)(a6:No Q 137)(a4:No Q 139)(c8:Q.spec 230=none)(a3:Q.specW 230=some DI)(z:Q.spec 140=none)(F:Q.specW 140=some GC)(a5:No Q 138)(g1:No Q 60)(ho:au 6 Obj.val ov l)(hg: ∀o∈l,o.AL)(hl:l.length<=900)(hr: ∀o∈l,o.gT.length<=999)(hv:cM l=true)(hm:s.gE<=s.aL):
 ∃v s',aq Q 60 [.agg [ov]] s v s'/\fU s'.heap v (DW l):=by
 have e8:=ho.cs;have c3:=qN hv;refine aq.ofNRZ aq7 (bP ?_);simp only[go_sem,seval,e8,bf,aZ,aW,aY,evc];refine co.ex (abg f2 c9 a6 ho hg (by omega) (fun o ho=>by have:=hr o ho;omega) hv hm) (by decide) ?_;rintro v M ⟨rfl,s1,L,bv,I,f5⟩;have nx:=I.nx;have a1:=I.bad.isL;have f4:=a1.ge;have e9:=a1.lenS bT;have h4:(wh l).length<=900:=by unfold wh;rw[bU];have:=kA (mq l) l;omega
 have Z:=I.hp;have c7:lK L:=fun x hx=>let⟨_,_,_,r,_,h⟩:=I.rings x hx;⟨r,h⟩
 have f1:L.length<=900:=by
  have:=congrArg List.length I.ids;rw[bU,bU] at this
  have:=kA (mG l) l;omega
 have np:(aa.ptr (s.aL+2) 0)= .ptr (s.aL+2) 0:=rfl;have f3:(aa.nilp).ge=true:=rfl;simp only[go_sem,seval,Z,aP,aQ,f4,e9,f3,Gd,bf,aZ,aW,aY,evc];refine atg a1 (by show(wh l).length<=_;omega) (lo:=M.aL) (s0:=M) (pv:=.ptr (s.aL+2) 0) ?_ _ [] _ _ M .Ge rfl (.inl ⟨rfl,rfl⟩) (.refl I.mw) (bj _) ?_ ?_ ?_ ?_ ?_
 ·intro e lc s3 R f0 a0 f6 e3 e4
  have a7:=(a0.old (s.aL+2) (by omega) (by rw[Z];simp)).trans Z;have b2:bM aa.str s3 s.aL L:=(a0.old s.aL (by omega) (by rw[show M.get [] s.aL=_ from I.ma];simp)).trans I.ma;have d1:=axJ hK a4 c8 a3 a5 (by omega) c7 a7 b2 (by omega) (by omega) a0.mw;simp only[go_sem,seval,e3,bf,aZ,aW,aY,evc];refine co.ex d1 (by decide) ?_;rintro v s4 ⟨c,y,O,a9,b0,b1,b8⟩;have vc:=O.ge;have g0:c.length<=900:=by rw[y.length_eq,bU];exact f1
  have hS:lB c=iU l:=anF hv (mG l) (by rw[<-I.ids];exact y);have V: ∃w d,aq Q 140 [v] s4 w d/\(w= .tup []/\kD 1 d v ((iU l).map ax)/\(∀k,k<s3.aL->d.get [] k=s3.get [] k)/\s3.aL<=d.aL/\d.gE<=d.aL):=by
   rcases O with⟨rfl,C⟩|⟨C,k,rfl,c5,e2⟩
   have C:=zT.1 C;subst C;exact⟨_,s4,aq.specW0 z (Std.H _) F rfl,rfl,.inl ⟨rfl,by rw[<-hS];rfl⟩,a9,b0,b1⟩;have g7:=b8 k rfl;have g6:(lB c).length=c.length:=(GA c).length_eq;have c6:bh (c.map ax).length 1000001=true:=cN (by rw[bU];omega);rw[AD] at c5;have e1:fC (s4.get []) (t7 (bif aK (c.map ax).length (c.map ax).length&&bh (c.map ax).length 1000001 then(wf (c.map ax)).bind fun l=>some ((lB l).map ax) else none))=some (.agg ((lB c).map ax)):=by
    rw[c6,Nat.beq_refl,bX,cT,L8];rfl
   refine⟨_,_,aq.specW (n:=k) (cs':=(lB c).map ax) z (Std.H _) F rfl c5 e1,rfl,.inr ⟨fun e=>?_,k,?_,?_,e2⟩,fun j hj=>?_,?_,cU s4 k _ b1⟩
   grind [bU]
   grind
   rw[aU,bS,hS,AD];rfl
   grind [aU]
   exact b0
  simp only[go_sem,seval,vc,z,bf,aZ,aW,aY,evc];refine co.ex V (by decide) ?_;rintro w d ⟨rfl,Y,m,g3,d5⟩;have a2:cI 3 M.aL d R ((wh l).map fun i=>eJ 3 [i]):=by
   rcases f0 with h|⟨q1,k,q2,q3,q4,q5⟩
   exact .inl h;exact .inr ⟨q1,k,q2,(m k q5).trans q3,q4,by omega⟩
  have d2:=(m (s.aL+2) (by omega)).trans a7;have d6:bM aa.str d s.aL L:=(m s.aL (by omega)).trans b2;have hid:(iU l).length<=900:=by unfold iU;rw[bU];have:=kA (mG l) l;omega
  have u:(wh l).map (fun i=>eJ 3 [i])++lC L (nL (iU l))=vi l:=by
   unfold vi lC;congr 2;refine List.filter_congr fun q hq=>?_;obtain⟨m1,m2⟩:=FM hq;unfold HE Ay;rw[acX c3 I.ids I.rings m1,acX c3 I.ids I.rings m2]
  have d7:(vi l).length+(iU l).length<=900000:=by
   unfold vi;rw[de,bU,bU];have h1:=kA (Ay l) (nL (iU l));have h2:=Ra (iU l);have h3:(iU l).length*(iU l).length<=900*900:=Nat.mul_le_mul hid hid;omega
  have d4:=a2.ge;have J: ∀(s':St) (U:aa),cI 3 M.aL s' U (vi l)->fU s'.heap U (DW l):=fun s' U hO=>by
   refine⟨4,AF hO fun v hv=>?_⟩
   grind [EM,vi]
  rcases Y with⟨rfl,C⟩|⟨C,r,rfl,c4,e0⟩
  have C:=zT.1 C;rw[C] at u;have B:cI 3 M.aL d R (vi l):=by rw[<-u];simpa[lC,nL] using a2
  simp only[go_sem,seval,bT,bf,aZ,aW,aY,evc];refine bm ?_;have e7:aX (0:Int) ((0:Nat):Int)=false:=rfl;have e5:aX (0:Int) 0=false:=rfl;simp only[go_sem,seval,Fz,cq,e4,d4,e7,e5];exact⟨_,rfl,J _ _ B⟩
  ·rw[bU]
   rw[AD] at c4;simp only[go_sem,seval,yN,ii,bf,aZ,aW,aY,evc];refine atF d0 c7 (S:=iU l) (lo:=M.aL) (tot:=vi l) d7 (s0:=d) d2 d6 c4 (by omega) (by omega) e0 ?_ (iU l) [] _ _ d R _ rfl u a2 (.refl d5) (by omega) ?_ ?_ ?_ ?_ ?_ ?_;intro e6 g5 s6 g2 B g8 g4;have a8:=B.ge;simp only[go_sem,seval,g4,a8];exact⟨_,rfl,J _ _ B⟩
   all_goals simp_all [sN]
   all_goals rfl
 all_goals simp only[aV,nY,ai,bH,ct]
 all_goals rfl
def TU:df:=[(31,im),(229,pW),(141,zj)]
def afw:dl TU:=.cons tT (.cons KA (.cons awh .nil))
noncomputable def Uc:rJ:=[(230,DI),(140,GC)]
def afN:tg Uc:=.cons axw (.cons axH .nil)
def Dc:Sp
 | [v]=>(jO v).bind fun l=>bif mB l then some (DW l) else none
 |_=>none
def atq:cL ah 60 Dc:=by
 intro args u c G h w xs B F;unfold Dc at c;split at c;simp only[ak] at c;obtain⟨l,y,c⟩:=c;obtain⟨d,c⟩:=bc c;have c:=sI c;subst c;obtain⟨v,rfl,y,z,J⟩:=nX y;obtain⟨H,C,j,m⟩:=o9 y z;have j:dj [.agg [v]]=[.agg [C]]:=by simp only[dj,j]
 have d:=oW.1 d;refine iu afw afN (args:=[.agg [v]]) (by simp only[dK,H,bX]) (fun I=>?_) G h w xs B F;rw[j];exact ahV (Q:=QW TU Uc I) (fun _=>bj _) rfl rfl rfl ⟨rfl,rfl⟩ ⟨rfl,rfl⟩ rfl rfl rfl rfl ⟨rfl,rfl⟩ ⟨rfl,rfl⟩ m z d.len d.gT d.valid (by decide);cases c
theorem FG(f:Obj->Bool)(g:Obj->aa)(k:ae): ∀ {l:List Obj},(l.map Obj.id).Nodup->cD k ((l.filter f).map fun o=>(o.id,g o))=(ck k l).bind fun q=>bif f q then some (g q) else none
 | [],_=>rfl
 |o::l,h=>by
  have c:=List.nodup_cons.1 h;have d:=FG f g k (l:=l) c.2
  grind [ck,cD,yY]
def Ia(o:Obj):Bool:=an o.Al 1
def AV(l:List Obj)(o:Obj):Bool:=an o.Al 2&&o.gT.all (di l)
def nM(l:List Obj):List (ae×aa):=(l.filter Ia).map fun o=>(o.id,aN (o.x,o.y))
def mW(l c:List Obj):List (ae×aa):=(c.filter (AV l)).map fun o=>(o.id,o.refsV)
def acC(h:(l.map Obj.id).Nodup)(k:ae): ∃z,om (.agg [ag 0,ag 0]) (cD k (nM l))= .tup [.agg z,.bool (di l k)]/\z.length=2/\dg z=true:=by
 unfold nM;rw[FG _ _ _ h];unfold di mH;cases e:ck k l with
 |none=>exact⟨_,rfl,rfl,rfl⟩
 |some q=>
  simp only[bk,Ia];cases hk:an q.Al 1 with
  |true=>exact⟨_,rfl,rfl,rfl⟩
  |false=>exact⟨_,rfl,rfl,rfl⟩
variable{c0:aa}
theorem atI(ho:au 6 Obj.val ov l)(hl:l.length<=1000000)(F:(l.map Obj.id).Nodup){c2:aa}{s0:St}(hb:s0.get [] bx=some (.cells [.ptr p 0]))(hp:s0.get [] p=some (.cells [c0,.map a,c2]))(U:p≠a)(a1:bx≠a)(hx: ∀e lc s,ac e 4= .ptr bx 0->ac e 1= .Gt 1 1 0->lc.gen 1=1->lc.get 1 1=some [ov]->dr a s0 s->bM aa.str s a (nM l)->K (.exit 0) ⟨e,64,lc⟩ s):
 ∀(d c:List Obj) (e:aw) (lc:Ag.Loc) (s:St),l=c++d->dr a s0 s->bM aa.str s a (nM c)->
  ac e 4= .ptr bx 0->ac e 1= .Gt 1 1 0->lc.gen 1=1->lc.get 1 1=some [ov]->ac e 19=ov->ac e 20=aI l.length->ac e 21=aI c.length->W Q 142 (.loop Ip) ⟨e,64,lc⟩ s K:=by
 intro d
 induction d with
 |nil=>
  intro c e lc s w hb M h4 r1 g1 l1 B u m;have Z:c.length=l.length:=by rw[w];simp
  have R:c=l:=by rw[w];simp
  refine bm ?_;simp only[go_sem,seval,Ip,u,m,Z,cq];exact hx _ _ _ (by simp only[sN,seval,h4]) (by simp only[sN,seval,r1]) g1 l1 hb (by rw[<-R];exact M)
 |cons o d ih=>
  intro c e lc s w j M h4 r1 g1 l1 B u m;have H:c.length<l.length:=by rw[w];simp
  have a2:l[c.length]? =some o:=by rw[w];simp
  have J:=fun lc k=>ho.at eO.2.2.1 a2 lc k;have C:=da (n:=c.length) (by omega);cases hk:an o.Al 1 with
  |false=>
   have e1:nM (c++[o])=nM c:=by unfold nM;rw[qJ (f:=Ia) hk]
   refine bm ?_;simp only[go_sem,seval,Ip,B,u,m,H,J,C,hk,Obj.val,Obj.cells];refine ih (c++[o]) _ _ s (by rw[w];simp) j (by rw[e1];exact M) ?_ ?_ ?_ ?_ ?_ ?_ ?_
   all_goals simp_all [sL]
  |true=>
   have V:cD o.id (nM c)=none:=by
    rw[w,eK] at F;unfold nM;rw[FG _ _ _ (zU.1 F).1,yY];rfl
    grind
   have a0:s.get [] bx=some (.cells [.ptr p 0]):=(j.old bx a1).trans hb;have O:s.get [] p=some (.cells [c0,.map a,c2]):=(j.old p U).trans hp;have Y:bM aa.str s.top a (nM c):=M;have z:=vK iA C5 Y o.id (aN (o.x,o.y));have I:en o.id (aN (o.x,o.y)) (nM c)=nM (c++[o]):=by
    rw[u6 V];unfold nM;rw[wE (f:=Ia) hk,eK];rfl
   rw[I] at z;simp only[aN] at z;refine bm ?_;simp only[go_sem,seval,Ip,h4,B,u,m,H,J,C,hk,a0,O,j.mw,aP,aQ,Obj.val,Obj.cells,z];refine ih (c++[o]) _ _ _ (by rw[w];simp) (j.putT _) ?_ ?_ ?_ ?_ ?_ ?_ ?_ ?_;show St.get _ [] a=_;rw[lR,aU,bS];rfl
   all_goals simp_all [sL]
def ath(j:No Q 237)(d:(l.map Obj.id).Nodup){c2:aa}(w:s.get [] bx=some (.cells [.ptr p 0]))(u:s.get [] p=some (.cells [c0,.map a,c2]))(y:bM aa.str s a (nM l))(id:ae):aq Q 237 [.str id,.ptr bx 0] s (.bool (!di l id)) s:=by
 have c:=yT iA C5 KW y id;obtain⟨z,m,B,H⟩:=acC d id;rw[m] at c;obtain⟨F,C,rfl⟩: ∃a b,z=[a,b]:=by
  match z,B with
  | [a,b],_=>exact⟨a,b,rfl⟩
 refine aq.ofNZ apW (bP ?_);simp only[go_sem,seval,w,u,aP,aQ,c,eA]
theorem atM(J:No Q 261)(M:No Q 167)(B:No Q 237)(ho:au 6 Obj.val ov l)(hg: ∀o∈l,o.AL)(hl:l.length<=1000000)(hr: ∀o∈l,o.gT.length<=1000000)(F:(l.map Obj.id).Nodup){s0:St}(hb:s0.get [] bx=some (.cells [.ptr p 0]))(hp:s0.get [] p=some (.cells [c0,.map a,.map b]))(ha:bM aa.str s0 a (nM l))(a4:p≠b)(a9:bx≠b)(b1:a≠b)(hx: ∀e lc s,ac e 4= .ptr bx 0->dr b s0 s->bM aa.str s b (mW l l)->K (.exit 2) ⟨e,64,lc⟩ s):
 ∀(u c:List Obj) (e:aw) (lc:Ag.Loc) (s:St),l=c++u->dr b s0 s->bM aa.str s b (mW l c)->
  ac e 4= .ptr bx 0->ac e 38=ov->ac e 39=aI l.length->ac e 40=aI c.length->W Q 142 (.loop Iq) ⟨e,64,lc⟩ s K:=by
 intro u
 induction u with
 |nil=>
  intro c e lc s z hb I C w m j;have a8:c.length=l.length:=by rw[z];simp
  have a3:c=l:=by rw[z];simp
  refine bm ?_;simp only[go_sem,seval,Iq,m,j,a8,cq];exact hx _ _ _ (by simp only[sN,seval,C]) hb (by rw[a3] at I;exact I)
 |cons o u ih=>
  intro c e lc s z d I C w m j;have Y:c.length<l.length:=by rw[z];simp
  have a2:l[c.length]? =some o:=by rw[z];simp
  have V:=dM a2;have go:=hg o V;have rc:=go.gT.ge;have a0:=fun lc k=>ho.at eO.2.2.1 a2 lc k;have y:=da (n:=c.length) (by omega);have a1:s.get [] bx=some (.cells [.ptr p 0]):=(d.old bx a9).trans hb;have U:s.get [] p=some (.cells [c0,.map a,.map b]):=(d.old p a4).trans hp;have b0:bM aa.str s a (nM l):=(d.old a b1).trans ha;have R:=H2 J M go.gT (hr o V) B.s (s:=s) (cap:=[.ptr bx 0]) (p:=fun x=> !di l x) fun x _=>ath B F a1 U b0 x;have skip:AV l o=false->mW l (c++[o])=mW l c:=fun h=>by unfold mW;rw[qJ h]
  cases hk:an o.Al 2 with
  |false=>
   have e1:=skip (by unfold AV;rw[hk];rfl);refine bm ?_;simp only[go_sem,seval,Iq,C,w,m,j,Y,a0,y,hk,Obj.val,Obj.cells];refine ih (c++[o]) _ _ s (by rw[z];simp) d (by rw[e1];exact I) ?_ ?_ ?_ ?_
   all_goals simp only[sN,seval,C,w,m,sA]
  |true=>
   refine kB ?_;simp only[go_sem,seval,Iq,C,w,m,j,Y,a0,hk,Obj.val,Obj.cells,rc,nC];refine co.of R (by decide) ?_;cases hn:o.gT.all (di l) with
   |false=>
    have e1:=skip (by unfold AV;rw[hn,gA]);have H:(o.gT.any fun x=> !di l x)=true:=by
     have:=BR (di l) o.gT;rw[hn] at this;simpa using this
    simp only[go_sem,seval,j,y,H];refine ih (c++[o]) _ _ s (by rw[z];simp) d (by rw[e1];exact I) ?_ ?_ ?_ ?_
    all_goals simp only[sN,seval,C,w,m,sA]
   |true=>
    have hw:AV l o=true:=by unfold AV;rw[hk,hn];rfl
    have H:(o.gT.any fun x=> !di l x)=false:=by
     have:=BR (di l) o.gT;rw[hn] at this;simpa using this
    have a5:cD o.id (mW l c)=none:=by
     rw[z,eK] at F;unfold mW;rw[FG _ _ _ (zU.1 F).1,yY];rfl
     grind
    have a7:bM aa.str s.top b (mW l c):=I;have O:=vK iA C6 a7 o.id o.refsV;have Z:en o.id o.refsV (mW l c)=mW l (c++[o]):=by
     rw[u6 a5];unfold mW;rw[wE hw,eK];rfl
    rw[Z] at O;have a6:=d.mw;simp only[go_sem,seval,j,y,H];refine gi a6 ?_;simp only[go_sem,OC,Yc,seval,C,j,y,a1,U,aP,aQ,rc,O];refine ih (c++[o]) _ _ _ (by rw[z];simp) (d.putT _) ?_ ?_ ?_ ?_ ?_;show St.get _ [] b=_;rw[lR,aU,bS];rfl
    all_goals simp only[sN,seval,C,w,m,sA]
structure sY (l:List Obj) (ov:aa) (p a b:Nat) (s:St):Prop where
 hp:s.get [] p=some (.cells [ov,.map a,.map b])
 ma:bM aa.str s a (nM l)
 mb:bM aa.str s b (mW l l)
def sY.mono(h:sY l ov p a b s)(c: ∀k,k<n->s'.get [] k=s.get [] k)(d:p<n)(m:a<n)(j:b<n):sY l ov p a b s':=
 ⟨(c p d).trans h.hp,(c a m).trans h.ma,(c b j).trans h.mb⟩
theorem SD(d:(l.map Obj.id).Nodup)(j: ∀o∈l,o.AL)(m: ∀o∈l,an o.Al 2=true->2<=o.gT.length)(k:ae):(je l k=none/\(cD k (mW l l)).getD .Ge= .Ge)\/ ∃r,je l k=some r/\2<=r.length/\ ∃v,(cD k (mW l l)).getD .Ge=v/\au 1 ax v r/\bG v=true:=by
 unfold mW je;rw[FG _ _ _ d];cases e:ck k l with
 |none=>exact .inl ⟨rfl,rfl⟩
 |some q=>
  have c:=(kJ e).1;simp only[bk,AV];cases hk:(an q.Al 2&&q.gT.all (di l)) with
  |false=>exact .inl ⟨rfl,rfl⟩
  |true=>
   refine .inr ⟨q.gT,rfl,m q c ?_,q.refsV,rfl,(j q c).gT,(j q c).pr⟩
   grind
def adx:dz ah .eql 25 .Ge .Ge=some (.bool true):=by kernel_rfl
def axq(n:Nat)(xs:List aa)(r:lJ):dz ah .eql 25 (.list n xs r) .Ge=some (.bool false):=by kernel_rfl
def CC{enc:α->aa}{l:List α}(h:au n enc v l):v.cells=[v]:=by
 rcases h with⟨rfl,_⟩|⟨k,rfl⟩<;>rfl
def axr(v:aa)(r:List ae)(c:au 1 ax v r)(h:2<=r.length):dz ah .eql 25 v .Ge=some (.bool false):=by
 rcases c with⟨_,rfl⟩|⟨k,rfl⟩
 simp at h;exact axq _ _ _
theorem atY(Y:Q.spec 31=some im)(u:No Q 261)(B:No Q 167)(w:No Q 237)(a0:No Q 142)(d:au 6 Obj.val ov l)(hg: ∀o∈l,o.AL)(hl:l.length<=900000)(hr: ∀o∈l,o.gT.length<=900000)(hv:cM l=true)(hm:s.gE<=s.aL):
 ∃v s',aq Q 142 [.agg [ov]] s v s'/\(v= .tup [.ptr (s.aL+2) 0,.bool true]/\sY l ov (s.aL+2) s.aL (s.aL+1) s'/\(∀k,k<s.aL->s'.get [] k=s.get [] k)/\s'.aL=s.aL+4/\s'.gE<=s'.aL):=by
 have a2:=gV;have H:=d.lenS eO;have I:=d.cs;have V:=CC d;have F:=qN hv;have q1:=wT d hg (by omega);rw[hv] at q1;obtain⟨z,C⟩:=bZ ((s.new (.map [] 0)).new (.map [] 0));have zn:z.aL=s.aL+2:=by rw[<-C];rfl
 have nn:(s.new (.map [] 0)).aL=s.aL+1:=rfl;obtain⟨y,j⟩:=bZ (z.new (.cells [ov,.map s.aL,.map (s.aL+1)]));have yn:y.aL=s.aL+3:=by rw[<-j];show z.aL+1=_;omega
 obtain⟨x,J⟩:=bZ ((y.new (.cells [.nilp])).put (s.aL+3) (some (.cells [.ptr (s.aL+2) 0])));have U:(y.new (.cells [.nilp])).get [] (s.aL+3)=some (.cells [.nilp]):=by rw[<-yn];exact cH
 have xn:x.aL=s.aL+4:=by rw[<-J];show y.aL+1=_;omega
 have M: ∀k,k<s.aL+3->x.get [] k=y.get [] k:=fun k R=>by grind [aU,cr]
 have xb:x.get [] (s.aL+3)=some (.cells [.ptr (s.aL+2) 0]):=by rw[<-J,aU,bS];rfl
 have xp:x.get [] (s.aL+2)=some (.cells [ov,.map s.aL,.map (s.aL+1)]):=by rw[M _ (by omega),<-j,<-zn];exact cH
 have xa:x.get [] s.aL=some (.map [] 0):=by rw[M _ (by omega),<-j,cr (by omega),<-C,cr (by omega)];exact cH
 have xw:x.get [] (s.aL+1)=some (.map [] 0):=by rw[M _ (by omega),<-j,cr (by omega),<-C,<-nn];exact cH
 have xs: ∀k,k<s.aL->x.get [] k=s.get [] k:=fun k R=>by grind [cr]
 have xm:x.gE<=x.aL:=by
  rw[<-J];refine cU _ _ _ ?_;rw[<-j,<-C];exact bW (bW (bW (bW hm)))
 refine aq.ofNRZ aoL (bP ?_);have Z:(aa.nilp).cells=[.nilp]:=rfl;simp only[go_sem,seval,Z,H,I,V,Y,q1,mJ,uI,Er,Hv,nn,C,zn,j,yn,cS,U,cV,J,bf,aZ,aW,aY,evc];refine atI d (by omega) F (p:=s.aL+2) (a:=s.aL) (bx:=s.aL+3) (c0:=ov) (c2:=.map (s.aL+1)) (s0:=x) xb xp (by omega) (by omega) ?_ l [] _ _ x rfl (.refl xm) xa ?_ ?_ ?_ ?_ ?_ ?_ ?_
 ·intro e lc O e4 r1 g1 l1 m hM
  have b1:=(m.old (s.aL+3) (by omega)).trans xb;have p1:=(m.old (s.aL+2) (by omega)).trans xp;have w1:bM aa.str O (s.aL+1) (mW l []):=(m.old (s.aL+1) (by omega)).trans xw;simp only[go_sem,seval,r1,l1,g1,H,I];refine atM u B w d hg (by omega) (fun o d=>by have:=hr o d;omega) F (p:=s.aL+2) (a:=s.aL) (b:=s.aL+1) (bx:=s.aL+3) (c0:=ov) (s0:=O) b1 p1 hM (by omega) (by omega) (by omega) ?_ l [] _ _ O rfl (.refl m.mw) w1 ?_ ?_ ?_ ?_;intro e2 a1 s2 e4 c hW;have b2:=(c.old (s.aL+3) (by omega)).trans b1;simp only[go_sem,seval,e4,b2,aP,aQ];exact⟨_,rfl,rfl,⟨(c.old (s.aL+2) (by omega)).trans p1,(c.old s.aL (by omega)).trans hM,hW⟩,fun k R=>(c.old k (by omega)).trans ((m.old k (by omega)).trans (xs k R)),by rw[c.aL,m.aL,xn],c.mw⟩
  all_goals simp_all [sN]
 all_goals simp only[aV,nY,ai,bH,ct]
 all_goals rfl
theorem axu(hg: ∀o∈l,o.AL)(a2:(l.map Obj.id).Nodup)(hw: ∀o∈l,an o.Al 2=true->2<=o.gT.length)(N:sY l ov p a b s)(go:o.AL)(hr:o.gT.length<=900000)(ht:pZ l o=true-> ∀e lc,K (.exit 0) ⟨e,43,lc⟩ s)(hf:pZ l o=false-> ∀e lc,ac e 4= .bool false->K .ret ⟨e,43,lc⟩ s):
 ∀(d c:List ae) (e:aw) (lc:Ag.Loc),o.gT=c++d->((hZ c.length).zip c).all (fun q=>bif an o.Al 5&&q.1==1 then di l q.2 else(je l q.2).isSome)=true->ac e 0= .ptr p 0->ac e 3= .Gt 3 1 0->lc.get 3 1=some o.cells->lc.gen 3=1->ac e 10=o.refsV->ac e 11=aI o.gT.length->ac e 12=aI c.length->W Q 143 (.loop wL) ⟨e,43,lc⟩ s K:=by
 have step: ∀(c d:List ae) (r:ae),o.gT=c++r::d->((hZ c.length).zip c).all (fun q=>bif an o.Al 5&&q.1==1 then di l q.2 else(je l q.2).isSome)=true->((bif an o.Al 5&&c.length==1 then di l r else(je l r).isSome)=true->((hZ (c++[r]).length).zip (c++[r])).all (fun q=>bif an o.Al 5&&q.1==1 then di l q.2 else(je l q.2).isSome)=true)/\((bif an o.Al 5&&c.length==1 then di l r else(je l r).isSome)=false->pZ l o=false):=by
  intro c d r O h2;have e1:(hZ (c++[r]).length).zip (c++[r])=(hZ c.length).zip c++[(c.length,r)]:=by
   rw[de,cX,ct,List.range_succ,List.zip_append (by simp)];rfl
  refine⟨fun h=>by grind,fun h=>?_⟩;unfold pZ;have hm:(c.length,r)∈(hZ o.gT.length).zip o.gT:=by
   refine dM (i:=c.length) ?_;rw[La];refine⟨?_,by rw[O];simp⟩;rw[List.getElem?_range];rw[O];simp
  cases hc:((hZ o.gT.length).zip o.gT).all fun p=>bif an o.Al 5&&p.1==1 then di l p.2 else(je l p.2).isSome with
  |false=>rfl
  |true=>
   grind
 intro d
 induction d with
 |nil=>
  intro c e lc O h2 M J H R u m w;have a4:c.length=o.gT.length:=by rw[O];simp
  have b2:c=o.gT:=by rw[O];simp
  refine bm ?_;simp only[go_sem,seval,wL,m,w,a4,cq]
  grind [pZ]
 |cons r d ih=>
  intro c e lc O h2 M J H R u m w;have B:c.length<o.gT.length:=by rw[O];simp
  have a5:o.gT[c.length]? =some r:=by rw[O];simp
  have C:=fun lc k=>go.gT.at bT.2.2.1 a5 lc k;have Y:=da (n:=c.length) (by omega);obtain⟨st,sf⟩:=step c d r O h2;have y:=N.hp;have U:an ((c.length:Nat):Int) 1=(c.length==1):=by
   unfold an;by_cases h:c.length=1;rw[h];rfl
   grind
  have next: ∀(V:aw) (F:Ag.Loc),(bif an o.Al 5&&c.length==1 then di l r else(je l r).isSome)=true->ac V 0= .ptr p 0->ac V 3= .Gt 3 1 0->F.get 3 1=some o.cells->F.gen 3=1->ac V 10=o.refsV->ac V 11=aI o.gT.length->ac V 12=ag ((c.length+1:Nat):Int)->W Q 143 (.loop wL) ⟨V,43,F⟩ s K:=fun V F hc e0 e3 a6 a7 b0 a9 a8=>
   ih (c++[r]) V F (by rw[O];simp) (st hc) e0 e3 a6 a7 b0 a9 (by rw[a8];simp)
  simp only[Obj.cells] at H;cases h5:(an o.Al 5&&c.length==1) with
  |true=>
   have I:=h5;simp only[bq] at I;rw[h5,cT] at next sf
   have j:=yT iA C5 KW N.ma r;obtain⟨z,hz,a3,b1⟩:=acC a2 r;rw[hz] at j;obtain⟨z1,z2,rfl⟩: ∃a b,z=[a,b]:=by
    match z,a3 with
    | [a,b],_=>exact⟨a,b,rfl⟩
   cases Z:di l r with
   |false=>
    rw[Z] at j;refine bm ?_;simp only[go_sem,seval,wL,ax,M,J,H,R,u,m,w,B,C,U,I.1,I.2,y,aP,aQ,j,eA]
    grind [iQ]
   |true=>
    rw[Z] at j;refine bm ?_;simp only[go_sem,seval,wL,ax,M,J,H,R,u,m,w,B,C,U,I.1,I.2,y,aP,aQ,j,eA,Y];refine next _ _ Z ?_ ?_ ?_ ?_ ?_ ?_ ?_
    all_goals simp only[sL,seval,M,J,H,R,u,m,Obj.cells]
  |false=>
   rw[h5,cF] at next sf
   have j:=qP iA C6 uh N.mb r;rcases SD a2 hg hw r with⟨w1,w2⟩|⟨rr,w1,w2,v,w3,w4,w5⟩
   rw[w2] at j;have Z:(je l r).isSome=false:=by rw[w1];rfl
   cases hk5:an o.Al 5 with
   |false=>
    refine bm ?_;simp only[go_sem,seval,wL,ax,M,J,H,R,u,m,w,B,C,hk5,y,aP,aQ,j,adx]
    grind [iQ]
   |true=>
    have a0:(c.length==1)=false:=by rw[hk5,eC] at h5;exact h5
    refine bm ?_;simp only[go_sem,seval,wL,ax,M,J,H,R,u,m,w,B,C,U,hk5,a0,y,aP,aQ,j,adx]
    grind [iQ]
   ·rw[w3] at j
    have vc:=w4.ge;have Z:(je l r).isSome=true:=by rw[w1];rfl
    have a1:=axr v rr w4 w2;cases hk5:an o.Al 5 with
    |false=>
     refine bm ?_;simp only[go_sem,seval,wL,ax,M,J,H,R,u,m,w,B,C,hk5,y,aP,aQ,j,vc,a1,Y];refine next _ _ Z ?_ ?_ ?_ ?_ ?_ ?_ ?_
     all_goals simp only[sL,seval,M,J,H,R,u,m,Obj.cells]
    |true=>
     have a0:(c.length==1)=false:=by rw[hk5,eC] at h5;exact h5
     refine bm ?_;simp only[go_sem,seval,wL,ax,M,J,H,R,u,m,w,B,C,U,hk5,a0,y,aP,aQ,j,vc,a1,Y];refine next _ _ Z ?_ ?_ ?_ ?_ ?_ ?_ ?_
     all_goals simp only[sL,seval,M,J,H,R,u,m,Obj.cells]
def axM(m:No Q 143)(z: ∀o∈l,o.AL)(d:(l.map Obj.id).Nodup)(w: ∀o∈l,an o.Al 2=true->2<=o.gT.length)(N:sY l ov p a b s)(go:o.AL)(y:o.gT.length<=900000):aq Q 143 [.ptr p 0,o.val] s (.bool (pZ l o)) s:=by
 have u:=go.all;have j:=go.gT.lenS bT;refine aq.ofNZ aoM (bP ?_);simp only[go_sem,seval,Obj.val,Obj.cells,u,j];refine axu z d w N go y ?_ ?_ o.gT [] _ _ rfl rfl ?_ ?_ ?_ ?_ ?_ ?_ ?_;intro c e lc;simp only[go_sem,seval,c];intro c e lc B;simp only[go_sem,seval,B,c]
 all_goals simp_all [iQ,fQ,f7,Obj.cells]
def azt{l:List Obj}(c:fR o=true)(d:an o.Al 2=true):2<=o.gT.length:=by
 have d:o.Al=2:=by simpa[an] using d
 unfold fR at c;cases hb:od o with
 |true=>rw[hb] at c;cases c
 |false=>
  simp only[od,zN,decide_eq_false_iff_not] at hb;have h:=hb.1.2;rw[d] at h;have j:tQ 2=2:=by decide
  omega
def anz(lc:Ag.Loc)(m o:Nat)(i:aa):gS ah lc 196 (.ptr m o) i=(dv i).bind fun i=>bif bh i 2 then some (.ptr m (o+i*1)) else none:=by kernel_rfl
def N8(lc:Ag.Loc)(m o:Nat)(i:aa):gS ah lc 306 (.ptr m o) i=(dv i).bind fun i=>bif bh i 2 then some (.ptr m (o+i*1)) else none:=by kernel_rfl
def asP(U:No Q 145)(j:Q.spec 130=some nj)(hg: ∀o∈l,o.AL)(M:(l.map Obj.id).Nodup)(hw: ∀o∈l,an o.Al 2=true->2<=o.gT.length)(O: ∀o∈l,o.gT.length<=900000)(N:sY l ov p a b s)(C:s.gE<=s.aL)(go:o.AL)(hr:o.gT.length=3):aq Q 145 [.ptr p 0,o.val] s (.bool (zG l o)) s:=by
 have V:=go.all;obtain⟨I,m,H,d⟩: ∃x y z,o.gT=[x,y,z]:=by
  match h:o.gT,hr with
  | [x,y,z],_=>exact⟨x,y,z,rfl⟩
 have i0: ∀lc,gS ah lc 25 o.refsV (ag 0)=some (.ro [.str I]):=fun lc=>go.gT.at bT.2.2.1 (i:=0) (by rw[d];rfl) lc .i64;have i1: ∀lc,gS ah lc 25 o.refsV (ag 1)=some (.ro [.str m]):=fun lc=>go.gT.at bT.2.2.1 (i:=1) (by rw[d];rfl) lc .i64;have i2: ∀lc,gS ah lc 25 o.refsV (ag 2)=some (.ro [.str H]):=fun lc=>go.gT.at bT.2.2.1 (i:=2) (by rw[d];rfl) lc .i64;have B:=N.hp;have u: ∀k, ∃v r,(cD k (mW l l)).getD .Ge=v/\(je l k).getD []=r/\au 1 ax v r/\r.length<=1000000:=fun k=>by
  rcases SD M hg hw k with⟨c,R⟩|⟨rr,c,R,v,w3,w4,w5⟩
  exact⟨.Ge,[],R,by rw[c];rfl,.inl ⟨rfl,rfl⟩,by simp⟩;refine⟨v,rr,w3,by rw[c];rfl,w4,?_⟩;unfold je at c;cases e:ck k l with
  |none=>rw[e] at c;cases c
  |some q=>
   rw[e] at c;simp only[bk] at c;obtain⟨_,c⟩:=bc c;injection c with c;subst c
   have:=O q (kJ e).1;omega
 obtain⟨v0,Y,a0,b0,c0,d0⟩:=u I;obtain⟨v2,q2,a2,b2,c2,d2⟩:=u H;have J:=qP iA C6 uh (s:=s.top) N.mb I;have Z:=qP iA C6 uh (s:=s.top) N.mb H;rw[a0] at J;rw[a2] at Z;have w:=c0.ge;have F:=c2.ge;have s0:=HD c0 d0 m;have s2:=HD c2 d2 m;have ht:zG l o=(Y.contains m&&q2.contains m):=by
  unfold zG;rw[d];simp only[List.getD_cons_zero,List.getD_cons_succ,b0,b2]
 refine aq.ofNZ aoQ (bP ?_);cases e0:Y.contains m with
 |false=>
  rw[e0] at s0;simp only[go_sem,seval,Obj.val,Obj.cells,V,C,B,aP,aQ,xG,i0,i1,J,w,j,s0,ht,e0]
 |true=>
  rw[e0] at s0;simp only[go_sem,seval,Obj.val,Obj.cells,V,C,B,aP,aQ,xG,i0,i1,i2,J,Z,w,F,j,s0,s2,ht,e0]
variable{bo:Nat}
def acN(j:No Q 238){m:Nat}{x y:Bool}{d c:ae}(z:s.get [] bo=some (.cells [.bool x,.bool y]))(B:s.get [] m=some (.cells [.str d,.str c]))(k:ae):aq Q 238 [.str k,.ptr bo 0,.ptr m 0] s (.bool ((x&&d==k)||(y&&c==k))) s:=by
 have w:dv (ag 0)=some 0:=rfl;have u:dv (ag 1)=some 1:=rfl;refine aq.ofNZ apX (bP ?_);cases x<;>cases y<;>cases h1:d==k<;>cases h2:c==k<;>
  simp only[go_sem,seval,z,B,aP,aQ,w,u,N8,anz,h1,h2,Bool.or_self]
def nk(l:List Obj)(r:ae):ae×ae:=Az ((je l r).getD [])
def mU(l:List Obj)(c:List ae):ae×ae×Bool×Bool:=match c.map (nk l) with
 | []=>([],[],true,true)
 |e::r=>r.foldl Bv (e.1,e.2,true,true)
def axP(l:List Obj){c:List ae}(r:ae)(h:c≠ []):mU l (c++[r])=Bv (mU l c) (nk l r):=by
 cases c with
 |nil=>exact absurd rfl h
 |cons x c=>
  simp_all [mU]
theorem aiJ(l:List Obj)(o:Obj):yi l o=((mU l o.gT).2.2.1||(mU l o.gT).2.2.2):=by
 have e:(o.gT.map fun r=>Az ((je l r).getD []))=o.gT.map (nk l):=rfl
 grind [yi,mU]
theorem azv{r:List ae}(h:2<=r.length):r[0]? =some (Az r).1/\r[r.length-1]? =some (Az r).2:=by
 cases r with
 |nil=>simp at h
 |cons x r=>
  grind [Az]
theorem aiK(M:No Q 238)(hg: ∀o∈l,o.AL)(a7:(l.map Obj.id).Nodup)(hw: ∀o∈l,an o.Al 2=true->2<=o.gT.length)(b2: ∀o∈l,o.gT.length<=900000){s0:St}(N:sY l ov p a b s0)(pl:p<lo)(al:a<lo)(bl:b<lo)(go:o.AL)(hr:o.gT.length<=900000)(hs: ∀r∈o.gT,(je l r).isSome=true)(hx: ∀e lc s,ac e 6= .ptr (lo+1) 0->s.get [] (lo+1)=some (.cells [.bool (mU l o.gT).2.2.1,.bool (mU l o.gT).2.2.2])->(∀k,k<lo->s.get [] k=s0.get [] k)->s.aL=lo+2->s.gE<=s.aL->K (.exit 0) ⟨e,60,lc⟩ s):
 ∀(j c:List ae) (e:aw) (lc:Ag.Loc) (s:St),o.gT=c++j->s.get [] lo=some (.cells [.str (mU l c).1,.str (mU l c).2.1])->s.get [] (lo+1)=some (.cells [.bool (mU l c).2.2.1,.bool (mU l c).2.2.2])->(∀k,k<lo->s.get [] k=s0.get [] k)->s.aL=lo+2->s.gE<=s.aL->ac e 0= .ptr p 0->ac e 5= .ptr lo 0->ac e 6= .ptr (lo+1) 0->ac e 15=o.refsV->ac e 16=aI o.gT.length->ac e 17=aI c.length->W Q 144 (.loop Ir) ⟨e,60,lc⟩ s K:=by
 intro j
 induction j with
 |nil=>
  intro c e lc s V B d I hn z r0 Z Y J C m;have a9:c.length=o.gT.length:=by rw[V];simp
  have a6:c=o.gT:=by rw[V];simp
  refine bm ?_;simp only[go_sem,seval,Ir,C,m,a9,cq];rw[a6] at d;exact hx _ _ _ (by simp only[sN,seval,Y]) d I hn z
 |cons r j ih=>
  intro c e lc s V B d I hn z r0 Z Y J C m;have a3:c.length<o.gT.length:=by rw[V];simp
  have a5:o.gT[c.length]? =some r:=by rw[V];simp
  have a4:=fun lc k=>go.gT.at bT.2.2.1 a5 lc k;have a0:=da (n:=c.length) (by omega);have a1:=hs r (dM a5);obtain⟨rr,w1,w2,v,w3,w4,w5⟩:=(SD a7 hg hw r).resolve_left fun h=>by rw[h.1] at a1;cases a1
  have b1:rr.length<=900000:=by
   unfold je at w1;cases e:ck r l with
   |none=>rw[e] at w1;cases w1
   |some q=>
    grind [kJ]
  have he:nk l r=Az rr:=by unfold nk;rw[w1];rfl
  obtain⟨f0,f1⟩:=azv w2;rw[<-he] at f0 f1;have i0: ∀lc,gS ah lc 25 v (ag 0)=some (.ro [.str (nk l r).1]):=fun lc=>w4.at bT.2.2.1 (i:=0) f0 lc .i64;have i1: ∀lc,gS ah lc 25 v (ag ((rr.length-1:Nat):Int))=some (.ro [.str (nk l r).2]):=fun lc=>w4.at bT.2.2.1 f1 lc .i64;have O:IntKind.i64.wrap (((rr.length:Nat):Int)-1)=((rr.length-1:Nat):Int):=by rw[jf (by omega) (by omega)];omega
  have R:=w4.lenS bT;have vc:=w4.ge;have a2:=(I p pl).trans N.hp;have a8:bM aa.str s b (mW l l):=(I b bl).trans N.mb;have U:=qP iA C6 uh a8 r;rw[w3] at U;cases hz:an ((c.length:Nat):Int) 0 with
  |true=>
   have H:c=[]:=by
    have:((c.length:Nat):Int)=0:=by simpa[an] using hz
    exact vP (by omega)
   obtain⟨u,F⟩:=bZ (s.put lo (some (.cells [.str (nk l r).1,.str (nk l r).2])));refine bm ?_;simp only[go_sem,seval,Ir,ax,r0,J,C,m,a3,a4,a2,aP,aQ,U,vc,z,i0,i1,R,O,hz,bf,aZ,aW,aY,evc];simp only[go_sem,seval,Z,m,a0,B,cS,cV,F,bf,aZ,aW,aY,evc];have e1:mU l (c++[r])=((nk l r).1,(nk l r).2,true,true):=by rw[H];rfl
   refine ih (c++[r]) _ _ u (by rw[V];simp) ?_ ?_ (fun k hk=>?_) ?_ ?_ ?_ ?_ ?_ ?_ ?_ ?_;rw[e1,<-F,aU,bS];rfl;rw[e1,<-F,aU,bN.2 (by omega:lo+1≠lo)];rw[H] at d;exact d
   grind [aU]
   rw[<-F];exact hn;rw[<-F];exact cU s lo _ z
   all_goals simp_all [sN]
  |false=>
   have H:c≠ []:=fun e=>by rw[e] at hz;cases hz
   have c1:=acN M (s:=s) d B (nk l r).2;have c2:=acN M (s:=s) d B (nk l r).1;obtain⟨u,F⟩:=bZ (s.put lo (some (.cells [.str (nk l r).1,.str (nk l r).2])));have b0:u.get [] (lo+1)=some (.cells [.bool (mU l c).2.2.1,.bool (mU l c).2.2.2]):=by rw[<-F,aU,bN.2 (by omega:lo+1≠lo)];exact d
   obtain⟨w,y⟩: ∃w,u.put (lo+1) (some (.cells [.bool (Bv (mU l c) (nk l r)).2.2.1,.bool (Bv (mU l c) (nk l r)).2.2.2]))=w:=⟨_,rfl⟩;simp only[Bv] at y;refine bm ?_;simp only[go_sem,seval,Ir,ax,r0,J,C,m,a3,a4,a2,aP,aQ,U,vc,z,i0,i1,R,O,hz,bf,aZ,aW,aY,evc];simp only[go_sem,seval,Z,Y,nC,bf,aZ,aW,aY,evc];refine co.of c1 (by decide) ?_;simp only[go_sem,seval,Z,Y];refine co.of c2 (by decide) ?_;simp only[go_sem,seval,Z,Y,m,a0,B,b0,cS,cV,F,y,bf,aZ,aW,aY,evc];have e1:=axP l r H;refine ih (c++[r]) _ _ w (by rw[V];simp) ?_ ?_ (fun k hk=>?_) ?_ ?_ ?_ ?_ ?_ ?_ ?_ ?_;rw[e1,<-y,aU,bN.2 (by omega:lo≠lo+1),<-F,cF,aU,bS];rfl;rw[e1,<-y,aU,bS];rfl
   grind [aU]
   rw[<-y,<-F];exact hn
   grind [cU]
   all_goals simp only[sN,seval,r0,Z,Y,J,C,sA]
theorem aiI(I:No Q 144)(c:No Q 238)(hg: ∀o∈l,o.AL)(u:(l.map Obj.id).Nodup)(hw: ∀o∈l,an o.Al 2=true->2<=o.gT.length)(B: ∀o∈l,o.gT.length<=900000)(N:sY l ov p a b s)(pl:p<s.aL)(al:a<s.aL)(bl:b<s.aL)(w:s.gE<=s.aL)(go:o.AL)(hr:o.gT.length<=900000)(hs: ∀r∈o.gT,(je l r).isSome=true):
 ∃v s',aq Q 144 [.ptr p 0,o.val] s v s'/\(v= .bool (yi l o)/\(∀k,k<s.aL->s'.get [] k=s.get [] k)/\s.aL<=s'.aL/\s'.gE<=s'.aL):=by
 have rc:=go.all;have C:=go.gT.lenS bT;have M:dv (ag 0)=some 0:=rfl;have J:dv (ag 1)=some 1:=rfl;obtain⟨z,j⟩:=bZ (s.new (.cells [.str [],.str []]));have H:z.aL=s.aL+1:=by rw[<-j];rfl
 obtain⟨y,d⟩:=bZ ((z.new (.cells [.bool false,.bool false])).put (s.aL+1) (some (.cells [.bool true,.bool true])));have F:(z.new (.cells [.bool false,.bool false])).get [] (s.aL+1)=some (.cells [.bool false,.bool false]):=by rw[<-H];exact cH
 have U:y.aL=s.aL+2:=by rw[<-d];show z.aL+1=_;omega
 have Y:y.get [] (s.aL+1)=some (.cells [.bool true,.bool true]):=by rw[<-d,aU,bS];rfl
 have Z:y.get [] s.aL=some (.cells [.str [],.str []]):=by rw[<-d,aU,bN.2 (by omega:s.aL≠s.aL+1),cF,cr (by omega),<-j];exact cH
 have R: ∀k,k<s.aL->y.get [] k=s.get [] k:=fun k hk=>by grind [aU,cr]
 have V:y.gE<=y.aL:=by
  rw[<-d,<-j];exact cU _ _ _ (bW (bW w))
 refine aq.ofNRZ aoO (bP ?_);simp only[go_sem,seval,Obj.val,Obj.cells,rc,C,j,H,cS,F,cV,d,bf,aZ,aW,aY,evc];refine aiK c hg u hw B (lo:=s.aL) (s0:=s) N pl al bl go hr hs ?_ o.gT [] _ _ y rfl Z Y R U V ?_ ?_ ?_ ?_ ?_ ?_;intro e lc s1 O m a2 a0 a1;rw[aiJ];cases e1:(mU l o.gT).2.2.1 with
 |true=>
  rw[e1] at m;simp only[go_sem,seval,O,m,aP,aQ,M,J,N8]
  grind
 |false=>
  rw[e1] at m;simp only[go_sem,seval,O,m,aP,aQ,M,J,N8]
  grind
 all_goals simp only[aV,nY,ai,bH,ct]
 all_goals rfl
def abf: ∀(l:List Obj) (last:ae),nG last l=true-> ∀q∈l,fR q=true
 | [],_,_,q,h=>by cases h
 |o::r,last,h,q,c=>by
  simp only[nG] at h;cases hb:(!fR o||Ag.leBytes o.id last) with
  |true=>rw[hb] at h;cases h
  |false=>
   rw[hb] at h;rcases dG.1 c with rfl|c
   simp only[zN,Bool.not_eq_false'] at hb;exact hb.1;exact abf r o.id h q c
def aax(h:cM l=true)(c:o∈l):fR o=true:=by
 simp only[cM,bq] at h;exact abf l [] h.1 o c
def ayE(c:fR o=true)(j:an o.Al 5=true):o.gT.length=3:=by
 have d:o.Al=5:=by simpa[an] using j
 unfold fR at c;cases hb:od o with
 |true=>rw[hb] at c;cases c
 |false=>
  rw[hb] at c;cases ha:pD o.Al [] [] o.gT with
  |true=>rw[ha] at c;cases c
  |false=>
   have m:an o.Al 1=false:=by rw[d];rfl
   rw[ha,m,j] at c;simp only[cF,cT,bq] at c;exact eq_of_beq c.1
def lN(l:List Obj)(o:Obj):Bool:=an o.Al 4&&(pZ l o&& !yi l o)
def kG(l:List Obj)(o:Obj):Bool:=an o.Al 5&&(pZ l o&& !zG l o)
def aaV(l:List Obj):List aa:=(l.filter (lN l)).map (fun o=>eJ 5 [o.id])++(l.filter (kG l)).map (fun o=>eJ 6 [o.id])
def GI(l:List Obj):aa:=gw 3 (aaV l)
structure tf (lo:Nat) (s:St) (ov cv:aa) (xs ys:List aa):Prop where
 l:cI 3 lo s ov xs
 r:cI 3 lo s cv ys
 ne: ∀k,ov= .list 3 xs (.own k)->cv= .list 3 ys (.own k)->False
variable{ys:List aa}{cv:aa}
def tf.swap(h:tf lo s ov cv xs ys):tf lo s cv ov ys xs:=⟨h.r,h.l,fun k a b=>h.ne k b a⟩
def tf.left(h:tf lo s ov cv xs ys)(B:s.gE<=s.aL)(m:lo<=s.aL)(w:xs.length<=900000)(x:aa):
 ∃c s',eU ah [] 35 ov (.list 3 [x] .GT) false s=some (c,s')/\tf lo s' c cv (xs++[x]) ys/\c.cells=[c]/\s.aL<=s'.aL/\s'.gE<=s'.aL/\ ∀n,n<lo->s'.get [] n=s.get [] n:=by
 obtain⟨s',R,O,Z,Y,M,z⟩:=UA iq.1 rfl (by decide) (y:=.list 3 [x] .GT) (ys:=[x]) h.l (by simp only[fc,ee]) (by simp) (by rw[List.length_singleton];omega) B;refine⟨_,s',R,⟨.inr ⟨by simp,s.aL,rfl,O,m,by omega⟩,?_,fun k d j=>?_⟩,rfl,by omega,M,fun n V=>z n (by omega) fun k C=>by have:=(h.l.token C).1;omega⟩;rcases h.r with J|⟨d,k,j,I,H,F⟩
 exact .inl J;refine .inr ⟨d,k,j,(z k F fun U u e=>?_).trans I,H,by omega⟩;subst e;exact h.ne k u j;injection d with _ _ d;injection d with d
 have:=(h.r.token j).2.1;omega
def tf.keep(h:tf lo s ov cv xs ys)(y: ∀k,k<s.aL->s'.get [] k=s.get [] k)(z:s.aL<=s'.aL):tf lo s' ov cv xs ys:=by
 refine⟨?_,?_,h.ne⟩;rcases h.l with w|⟨u,k,m,j,d,c⟩
 exact .inl w;exact .inr ⟨u,k,m,(y k c).trans j,d,by omega⟩;rcases h.r with w|⟨u,k,m,j,d,c⟩
 exact .inl w;exact .inr ⟨u,k,m,(y k c).trans j,d,by omega⟩
def arA{a b c:Int}(h:an a b=true)(d:b≠c):an a c=false:=by
 have h:a=b:=by simpa[an] using h
 subst h;exact bN.2 d
def atu(c3:No Q 143)(b8:No Q 144)(b1:No Q 238)(b2:No Q 145)(c9:Q.spec 130=some nj)(ho:au 6 Obj.val ov l)(hg: ∀o∈l,o.AL)(hl:l.length<=900000)(O: ∀o∈l,o.gT.length<=900000)(hv:cM l=true){s0:St}(N:sY l ov p a b s0)(pl:p<lo)(al:a<lo)(bl:b<lo)(hx: ∀e lc s rv tv,tf lo s rv tv ((l.filter (lN l)).map fun o=>eJ 5 [o.id]) ((l.filter (kG l)).map fun o=>eJ 6 [o.id])->lo<=s.aL->s.gE<=s.aL->ac e 5=rv->ac e 6=tv->K (.exit 0) ⟨e,73,lc⟩ s):
 ∀(z c:List Obj) (e:aw) (lc:Ag.Loc) (s:St) (rv tv:aa),l=c++z->tf lo s rv tv ((c.filter (lN l)).map fun o=>eJ 5 [o.id]) ((c.filter (kG l)).map fun o=>eJ 6 [o.id])->(∀k,k<lo->s.get [] k=s0.get [] k)->lo<=s.aL->s.gE<=s.aL->ac e 3= .ptr p 0->ac e 5=rv->ac e 6=tv->ac e 19=ov->ac e 20=aI l.length->ac e 21=aI c.length->W Q 61 (.loop yK) ⟨e,73,lc⟩ s K:=by
 have a7:=qN hv;have hw: ∀o∈l,an o.Al 2=true->2<=o.gT.length:=fun o ho R=>azt (l:=l) (aax hv ho) R;intro z
 induction z with
 |nil=>
  intro c e lc s rv tv V T F a9 w u J I m j d;have d7:c.length=l.length:=by rw[V];simp
  have d4:c=l:=by rw[V];simp
  refine bm ?_;simp only[go_sem,seval,yK,j,d,d7,cq];rw[d4] at T;exact hx _ _ _ rv tv T a9 w (by simp only[sN,seval,J]) (by simp only[sN,seval,I])
 |cons o z ih=>
  intro c e lc s rv tv V T F a9 w u J I m j d;have a8:c.length<l.length:=by rw[V];simp
  have c8:l[c.length]? =some o:=by rw[V];simp
  have M:=dM c8;have go:=hg o M;have rc:=go.all;have b0:=fun lc k=>ho.at eO.2.2.1 c8 lc k;have y:=da (n:=c.length) (by omega);have Ns:sY l ov p a b s:=N.mono F pl al bl;have H:=axM c3 hg a7 hw Ns go (O o M);have c5:=T.l.ge;have c4:=T.r.ge;have lr:((c.filter (lN l)).map fun o=>eJ 5 [o.id]).length<=900000:=by
   rw[bU];have:=kA (lN l) c;omega
  have lt:((c.filter (kG l)).map fun o=>eJ 6 [o.id]).length<=900000:=by
   rw[bU];have:=kA (kG l) c;omega
  have fin: ∀(U:aw) (a0:Ag.Loc) (s':St),lN l o=false->kG l o=false->(∀k,k<s.aL->s'.get [] k=s.get [] k)->s.aL<=s'.aL->s'.gE<=s'.aL->ac U 3= .ptr p 0->ac U 5=rv->ac U 6=tv->ac U 19=ov->ac U 20=aI l.length->ac U 21=ag ((c.length+1:Nat):Int)->W Q 61 (.loop yK) ⟨U,73,a0⟩ s' K:=fun U a0 s' C B c7 d5 d6 g3 g5 g6 e2 e1 e0=>
   ih (c++[o]) U a0 s' rv tv (by rw[V];simp) (by rw[qJ C,qJ B];exact T.keep c7 d5) (fun k R=>(c7 k (by omega)).trans (F k R)) (by omega) d6 g3 g5 g6 e2 e1 (by rw[e0];simp)
  simp only[Obj.val,Obj.cells] at H;cases h4:an o.Al 4 with
  |true=>
   have k5:=arA h4 (by decide:(4:Int)≠5);have B:kG l o=false:=by unfold kG;rw[k5];rfl
   refine bm ?_;simp only[go_sem,seval,yK,u,m,j,d,a8,b0,h4,Obj.val,Obj.cells,rc];refine co.of H (by decide) ?_;cases hs:pZ l o with
   |false=>
    have C:lN l o=false:=by unfold lN;rw[hs,dL,gA]
    simp only[go_sem,seval,u,d,y,k5];refine fin _ _ s C B (fun _ _=>rfl) (bj _) w ?_ ?_ ?_ ?_ ?_ ?_
    all_goals simp only[sN,seval,u,J,I,m,j]
   |true=>
    have d2: ∀r∈o.gT,(je l r).isSome=true:=fun r hr=>by
     obtain⟨i,hi⟩:=uu hr;have hm:(i,r)∈(hZ o.gT.length).zip o.gT:=by
      refine dM (i:=i) ?_;rw[La];refine⟨?_,hi⟩;rw[List.getElem?_range];exact(nR.1 hi).1
     unfold pZ at hs
     have:=fD.1 hs _ hm;simp only[k5,dL,cF] at this;exact this
    have Z:=aiI b8 b1 hg a7 hw O Ns (by omega) (by omega) (by omega) w go (O o M) d2;simp only[Obj.val,Obj.cells] at Z;simp only[go_sem,seval,u,rc];refine co.ex Z (by decide) ?_;rintro v s1 ⟨rfl,o1,c6,m1⟩;cases hc:yi l o with
    |true=>
     have C:lN l o=false:=by unfold lN;rw[hc,lD,gA,gA]
     simp only[go_sem,seval,u,d,y,k5];refine fin _ _ s1 C B o1 c6 m1 ?_ ?_ ?_ ?_ ?_ ?_
     all_goals simp only[sN,seval,u,J,I,m,j]
    |false=>
     have C:lN l o=true:=by unfold lN;rw[h4,hs,hc];rfl
     obtain⟨d1,s2,a1,a2,a3,a4,a5,a6⟩:=(T.keep o1 c6).left m1 (by omega) lr (eJ 5 [o.id]);have e4:=a2.l.ge;simp only[eJ,eT,sQ,ax] at a1;simp only[go_sem,seval,ax,u,J,c5,bf,aZ,aW,aY,evc];simp only[go_sem,seval,ax,J,d,y,c5,a1,a3,bf,aZ,aW,aY,evc];refine ih (c++[o]) _ _ s2 d1 tv (by rw[V];simp) (by rw[wE C,qJ B,eK];exact a2) (fun k R=>(a6 k R).trans ((o1 k (by omega)).trans (F k R))) (by omega) a5 ?_ ?_ ?_ ?_ ?_ ?_
     all_goals simp only[sN,seval,u,I,m,j,sA]
  |false=>
   have C:lN l o=false:=by unfold lN;rw[h4];rfl
   cases h5':an o.Al 5 with
   |false=>
    have B:kG l o=false:=by unfold kG;rw[h5'];rfl
    refine bm ?_;simp only[go_sem,seval,yK,u,m,j,d,a8,b0,h4,Obj.val,Obj.cells,rc];simp only[go_sem,seval,yK,u,d,y,h5'];refine fin _ _ s C B (fun _ _=>rfl) (bj _) w ?_ ?_ ?_ ?_ ?_ ?_
    all_goals simp only[sN,seval,u,J,I,m,j]
   |true=>
    have Y:=asP b2 c9 hg a7 hw O Ns w go (ayE (aax hv M) h5');simp only[Obj.val,Obj.cells] at Y;refine bm ?_;simp only[go_sem,seval,yK,u,m,j,d,a8,b0,h4,Obj.val,Obj.cells,rc];simp only[go_sem,seval,yK,u,h5',rc];refine co.of H (by decide) ?_;cases hs:pZ l o with
    |false=>
     have B:kG l o=false:=by unfold kG;rw[hs,dL,gA]
     simp only[go_sem,seval,u,d,y];refine fin _ _ s C B (fun _ _=>rfl) (bj _) w ?_ ?_ ?_ ?_ ?_ ?_
     all_goals simp only[sN,seval,u,J,I,m,j]
    |true=>
     simp only[go_sem,seval,u,rc];refine co.of Y (by decide) ?_;cases ht:zG l o with
     |true=>
      have B:kG l o=false:=by unfold kG;rw[ht,lD,gA,gA]
      simp only[go_sem,seval,u,d,y];refine fin _ _ s C B (fun _ _=>rfl) (bj _) w ?_ ?_ ?_ ?_ ?_ ?_
      all_goals simp only[sN,seval,u,J,I,m,j]
     |false=>
      have B:kG l o=true:=by unfold kG;rw[h5',hs,ht];rfl
      obtain⟨d0,s2,a1,a2,a3,a4,a5,a6⟩:=T.swap.left w a9 lt (eJ 6 [o.id]);have e3:=a2.l.ge;simp only[eJ,eT,sQ,ax] at a1;simp only[go_sem,seval,ax,u,I,c4,bf,aZ,aW,aY,evc];simp only[go_sem,seval,ax,I,d,y,c4,a1,a3,bf,aZ,aW,aY,evc];refine ih (c++[o]) _ _ s2 rv d0 (by rw[V];simp) (by rw[qJ C,wE B,eK];exact a2.swap) (fun k R=>(a6 k R).trans (F k R)) (by omega) a5 ?_ ?_ ?_ ?_ ?_ ?_
      all_goals simp only[sN,seval,u,J,m,j,sA]
def ahW(a0:Q.spec 31=some im)(j:No Q 261)(w:No Q 167)(u:No Q 237)(F:No Q 142)(C:No Q 143)(B:No Q 144)(m:No Q 238)(z:No Q 145)(I:Q.spec 130=some nj)(a9:No Q 61)(d:au 6 Obj.val ov l)(hg: ∀o∈l,o.AL)(hl:l.length<=900)(hr: ∀o∈l,o.gT.length<=999)(c:cM l=true)(hm:s.gE<=s.aL):
 ∃v s',aq Q 61 [.agg [ov]] s v s'/\fU s'.heap v (GI l):=by
 have H:=d.cs;have Z:=d.lenS eO;refine aq.ofNRZ aq8 (bP ?_);simp only[go_sem,seval,H,bf,aZ,aW,aY,evc];refine co.ex (atY a0 j w u F d hg (by omega) (fun o d=>by have:=hr o d;omega) c hm) (by decide) ?_;rintro v M ⟨rfl,N,a8,n1,m1⟩;have U:=N.hp;simp only[go_sem,seval,eA,U,aP,aQ,H,Z];refine atu C B m z I d hg (by omega) (fun o d=>by have:=hr o d;omega) c (lo:=M.aL) (s0:=M) N (by omega) (by omega) (by omega) ?_ l [] _ _ M .Ge .Ge rfl ⟨.inl ⟨rfl,rfl⟩,.inl ⟨rfl,rfl⟩,fun k h=>(by cases h)⟩ (fun _ _=>rfl) (bj _) m1 ?_ ?_ ?_ ?_ ?_ ?_;intro e lc s2 rv tv T Y V h5 h6;have O:=T.l.ge;have J:=T.r.ge;have he:ee [] true 3 tv s2=some ((l.filter (kG l)).map fun o=>eJ 6 [o.id]):=by
  rcases T.r with⟨e1,e2⟩|⟨_,k,e1,_⟩
  rw[e1,e2];rfl;rw[e1];simp only[fc,ee]
 have hb:=kA (lN l) l;have b1:=kA (kG l) l;obtain⟨b0,s3,a1,a2,a3,a4,a5,a6,a7⟩:=Ek (t:=35) iq.1 rfl (by decide) (s:=s2) (y:=tv) T.l he (by rw[bU,bU];omega) Y V;have R:=a2.ge;simp only[go_sem,seval,h5,h6,O,J,a1,a7,R];refine⟨_,rfl,4,AF a2 fun v c=>?_⟩;rcases hQ.1 c with c|c
 obtain⟨i,_,rfl⟩:=cw.1 c;exact EM _ _ _;obtain⟨i,_,rfl⟩:=cw.1 c;exact EM _ _ _
 all_goals simp only[aV,nY,ai,bH,ct]
 all_goals rfl
def TS:df:=[(31,im),(130,nj)]
def afu:dl TS:=.cons tT (.cons MY .nil)
def Dd:Sp
 | [v]=>(jO v).bind fun l=>bif mB l then some (GI l) else none
 |_=>none
def atr:cL ah 61 Dd:=by
 intro args u c G h w xs B F;unfold Dd at c;split at c;simp only[ak] at c;obtain⟨l,y,c⟩:=c;obtain⟨d,c⟩:=bc c;have c:=sI c;subst c;obtain⟨v,rfl,y,z,J⟩:=nX y;obtain⟨H,C,j,m⟩:=o9 y z;have j:dj [.agg [v]]=[.agg [C]]:=by simp only[dj,j]
 have d:=oW.1 d;refine iu afu (W:=[]) .nil (args:=[.agg [v]]) (by simp only[dK,H,bX]) (fun I=>?_) G h w xs B F;rw[j];exact ahW (Q:=QW TS [] I) rfl ⟨rfl,rfl⟩ ⟨rfl,rfl⟩ ⟨rfl,rfl⟩ ⟨rfl,rfl⟩ ⟨rfl,rfl⟩ ⟨rfl,rfl⟩ ⟨rfl,rfl⟩ ⟨rfl,rfl⟩ rfl ⟨rfl,rfl⟩ m z d.len d.gT d.valid (by decide);cases c
def aB.cells(x:aB):List aa:=[.bool x.strict,.str x.area,ag x.Al,.str x.ifK,.str x.ifV,ag x.op,.str x.key,x.valuesV]
def aB.val(x:aB):aa:=.agg x.cells
structure aB.Ok (x:aB):Prop where
 vals:au 1 ax x.valuesV x.values
 pv:bG x.valuesV=true
 area:x.area.length<small
 key:x.key.length<small
 ifK:x.ifK.length<small
 len:x.values.length<=1000000
def yD:Option ae->aa
 |some v=>.tup [.str v,.bool true]
 |none=>.tup [.str [],.bool false]
def mD:Sp
 | [v,.str k]=>(dW 2 uH v).bind fun l=>bif decide (l.length<=1000000) then some (yD (gI k l)) else none
 |_=>none
variable{l:List fO}
def NX(h:au 2 kM v l)(c:l.length<=1000000)(k:ae):mD [v,.str k]=some (yD (gI k l)):=by
 simp only[dX,mD,kT Ma h,c,dT]
variable{tv:aa}
def ak8(O:au 2 kM tv l)(U:l.length<=1000000)(M: ∀e lc,gI k l=none->K (.exit 0) ⟨e,21,lc⟩ s)(R: ∀e lc v,gI k l=some v->ac e 4= .str v->ac e 5= .bool true->K .ret ⟨e,21,lc⟩ s):
 ∀(d c:List fO) (e:aw) (lc:Ag.Loc),l=c++d->gI k l=gI k d->ac e 1= .str k->ac e 8=tv->ac e 9=aI l.length->ac e 10=aI c.length->W Q 214 (.loop IB) ⟨e,21,lc⟩ s K:=by
 intro d
 induction d with
 |nil=>
  intro c e lc y C z B w j;have H:c.length=l.length:=by rw[y];simp
  refine bm ?_;simp only[go_sem,seval,IB,w,j,H,cq];exact M _ _ C
 |cons t d J=>
  intro c e lc y C z B w j;have m:c.length<l.length:=by rw[y];simp
  have I:l[c.length]? =some t:=by rw[y];simp
  have u:=fun lc k=>O.at sJ.2.2.1 I lc k;have F:=da (n:=c.length) (by omega);refine bm ?_;cases hd:t.1==k with
  |true=>
   simp only[go_sem,seval,IB,kM,z,B,w,j,m,u,hd];refine R _ _ t.2 (by rw[C];simp only[gI,hd,cT]) ?_ ?_
   all_goals simp only[sN,seval]
  |false=>
   simp only[go_sem,seval,IB,kM,z,B,w,j,m,u,hd,F];refine J (c++[t]) _ _ (by rw[y];simp) (by rw[C];simp only[gI,hd,cF]) ?_ ?_ ?_ ?_
   all_goals simp only[sN,seval,z,B,w,sA]
def ak7(w:No Q 214)(d:au 2 kM tv l)(y:l.length<=1000000)(k:ae)(s:St):aq Q 214 [tv,.str k] s (yD (gI k l)) s:=by
 have m:=d.lenS sJ;have u:=d.ge;have c: ∃v s',aq Q 214 [tv,.str k] s v s'/\(v=yD (gI k l)/\s'=s):=by
  refine aq.ofNRZ apa (bP ?_);simp only[go_sem,seval,m,u];refine ak8 d y (k:=k) ?_ ?_ l [] _ _ rfl rfl ?_ ?_ ?_ ?_;intro e lc j;simp only[go_sem,seval,j];exact⟨_,rfl,rfl⟩;intro e lc v j B z;simp only[go_sem,seval,j,B,z];exact⟨_,rfl,rfl⟩
  all_goals simp only[sN,seval,ct]
  all_goals rfl
 obtain⟨v,s',h,rfl,rfl⟩:=c;exact h
def aeo(j:No Q 403)(v:ae)(s:St):aq Q 403 [.str v] s (.bool (tI v)) s:=by
 refine aq.ofNZ aqH (bP ?_);have c:b9 ((v.length:Nat):Int) 200=decide (v.length<=200):=by
  unfold b9;by_cases h:v.length<=200;rw[dQ h,dQ];omega;rw[dN h,dN];omega
 cases hz:v== [] with
 |true=>
  have d:tI v=false:=by unfold tI;rw[hz];rfl
  simp only[go_sem,seval,hz,d]
 |false=>
  have d:tI v=decide (v.length<=200):=by unfold tI;rw[hz];rfl
  simp only[go_sem,seval,hz,d,c,vf]
def atG(c:No Q 403)(d:No Q 404)(v:ae)(s:St):aq Q 404 [.str v] s (.bool (!tI v)) s:=by
 refine aq.ofNZ aqI (bP ?_);simp only[go_sem,seval];refine co.of (aeo c v s) (by decide) ?_;simp only[go_sem,seval]
def W3:cL ah 214 mD:=by
 intro j u c G B w xs m y;unfold mD at c;split at c;simp only[ak] at c;obtain⟨l,H,h⟩:=c;obtain⟨d,h⟩:=bc h;simp only[dE] at d;have h:=sI h;subst h;have z:=ig (fun _ _ h=>L9 h) H;obtain⟨F,C⟩:=nz Sq z;refine iu (T:=[]) (W:=[]) .nil .nil (by simp only[dK,F,dy,bG,bX]) (fun J=>?_) G B w xs m y;refine⟨_,_,ak7 ⟨rfl,rfl⟩ C d _ _,?_⟩;rename_i I k _;cases gI k l with
 |none=>exact⟨2,rfl⟩
 |some v=>exact⟨2,rfl⟩
 cases c
def Mf(a b:Bool):dz ah .neq 4 (.bool a) (.bool b)=some (.bool (!(a==b))):=by kernel_rfl
def Sv(a b a' b':List UInt8):dz ah .neq 92 (.agg [.str a,.str b]) (.agg [.str a',.str b'])=some (.bool (!((a==a')&&(b==b')))):=by
 have h:dz ah .neq 92 (.agg [.str a,.str b]) (.agg [.str a',.str b'])=((some (a==a')).bind fun r=>bif r then(some (b==b')).bind fun r=>bif r then some true else some false else some false).bind fun r=>some (.bool (!r)):=by kernel_rfl
 rw[h];cases a==a'<;>cases b==b'<;>rfl
def rA(x:aB):Bool:= !(x.area== [])&& !jA x.area
def rI(x:aB):Bool:= !((x.ifK== [])&&(x.ifV== []))&& !(jA x.ifK&&tI x.ifV)
def rO(x:aB):Bool:= !(an x.op 2)&&(!(an x.op 1)&& !(an x.op 3))
def rL(x:aB):Bool:= !(an x.op 2==decide (0<x.values.length))
def awC(x:aB):t9 x=(bif rA x then false else bif aX x.Al 0 then false else bif aX 5 x.Al then false else bif !jA x.key then false else bif rI x then false else bif rO x then false else bif rL x then false else bif decide (60<x.values.length) then false else x.values.all tI):=rfl
def Od(n:Nat):aX 0 ((n:Nat):Int)=decide (0<n):=by
 unfold aX;by_cases h:0<n;rw[dQ h,dQ];omega;rw[dN h,dN];omega
def XJ(n:Nat):aX 60 ((n:Nat):Int)=decide (60<n):=by
 unfold aX;by_cases h:60<n;rw[dQ h,dQ];omega;rw[dN h,dN];omega
variable{lc:Ag.Loc}{N:Fr->St->Prop}{x:aB}{e:aw}
def avC(c:Q.spec 163=some kY)(y:x.Ok)(d:ac e 1= .Gt 1 1 0)(l1:lc.get 1 1=some x.cells)(u:lc.gen 1=1)(m: ∀j,ac j 7= .bool (rA x)->ac j 1= .Gt 1 1 0->ac j 3=ac e 3->N ⟨j,72,lc⟩ s)(z:True):WV Q 297 wO ⟨e,72,lc⟩ s N:=by
 have w:=A8 y.area;have B:x.cells=[.bool x.strict,.str x.area,ag x.Al,.str x.ifK,.str x.ifV,ag x.op,.str x.key,x.valuesV]:=rfl;rw[B] at l1;unfold rA at m;cases hz:x.area== [] with
 |true=>
  simp only[go_sem,seval,wO,wP,wQ,d,l1,u,hz];refine m _ ?_ ?_ ?_
  all_goals simp only[sN,seval,d,hz]
  all_goals rfl
 |false=>
  simp only[go_sem,seval,wO,wP,wQ,d,l1,u,hz,c,w];refine m _ ?_ ?_ ?_
  all_goals simp only[sN,seval,d,hz]
  all_goals rfl
def avE(m:ac e 1= .Gt 1 1 0)(d:ac e 3= .bool (an x.op 2))(l1:lc.get 1 1=some x.cells)(w:lc.gen 1=1)(j: ∀c,ac c 45= .bool (rO x)->ac c 1= .Gt 1 1 0->ac c 3= .bool (an x.op 2)->N ⟨c,72,lc⟩ s):WV Q 297 wQ ⟨e,72,lc⟩ s N:=by
 have u:x.cells=[.bool x.strict,.str x.area,ag x.Al,.str x.ifK,.str x.ifV,ag x.op,.str x.key,x.valuesV]:=rfl;rw[u] at l1;unfold rO at j;cases e2:an x.op 2<;>cases e1:an x.op 1<;>
 ·rw[e2] at d
  simp only[go_sem,seval,wO,wP,wQ,m,l1,w,d,e1];refine j _ ?_ ?_ ?_
  all_goals simp only[sN,seval,m,d,e1,e2,lD,mZ,Bool.and_true,eC,gA,dL]
def avD(c:Q.spec 163=some kY)(j:No Q 403)(z:x.Ok)(d:ac e 1= .Gt 1 1 0)(l1:lc.get 1 1=some x.cells)(w:lc.gen 1=1)(m: ∀u,ac u 27= .bool (rI x)->ac u 1= .Gt 1 1 0->ac u 3=ac e 3->N ⟨u,72,lc⟩ s):WV Q 297 wP ⟨e,72,lc⟩ s N:=by
 have y:=A8 z.ifK;have B:x.cells=[.bool x.strict,.str x.area,ag x.Al,.str x.ifK,.str x.ifV,ag x.op,.str x.key,x.valuesV]:=rfl;rw[B] at l1;unfold rI at m;cases hz:((x.ifK== [])&&(x.ifV== [])) with
 |true=>
  simp only[go_sem,seval,wO,wP,wQ,d,l1,w,Sv,hz,bf,aZ,aW,aY,evc];refine m _ ?_ ?_ ?_
  all_goals simp only[sN,seval,d,hz]
  all_goals rfl
 |false=>
  cases hn:jA x.ifK with
  |false=>
   simp only[go_sem,seval,wO,wP,wQ,d,l1,w,Sv,hz,c,y,hn,bf,aZ,aW,aY,evc];refine m _ ?_ ?_ ?_
   all_goals simp only[sN,seval,d,hz,hn]
   all_goals rfl
  |true=>
   simp only[go_sem,seval,wO,wP,wQ,d,l1,w,Sv,hz,c,y,hn,bf,aZ,aW,aY,evc];refine co.of (aeo j x.ifV s) (by decide) ?_;simp only[go_sem,seval,wO,wP,wQ];refine m _ ?_ ?_ ?_
   all_goals simp only[sN,seval,d,hz,hn,eC,mZ]
def azf(j:Q.spec 163=some kY)(z:No Q 403)(y:No Q 404)(J:No Q 261)(M:No Q 167)(Y:No Q 297)(B:x.Ok)(s:St):aq Q 297 [x.val] s (.bool (t9 x)) s:=by
 have Z:=A8 B.key;have U:=B.vals.ge;have vs:=B.vals.scal;have C:=B.vals.lenS bT;have R:=H2 J M B.vals B.len y.s (s:=s) (cap:=[]) (p:=fun v=> !tI v) fun v _=>atG z y v s;have O:Ag.Loc.get (Ag.Loc.set [] 1 1 x.cells) 1 1=some x.cells:=rfl;have d:Ag.Loc.gen (Ag.Loc.set [] 1 1 x.cells) 1=1:=rfl;obtain⟨lc,F⟩:=bZ (Ag.Loc.set [] 1 1 x.cells);rw[F] at O d;have hc:x.cells=[.bool x.strict,.str x.area,ag x.Al,.str x.ifK,.str x.ifV,ag x.op,.str x.key,x.valuesV]:=rfl;have c:=O;rw[hc] at F c;rw[awC];refine aq.ofNZ ap5 (bP ?_);simp only[go_sem,seval,aB.val,aB.cells,U,vs,F,c,d];refine avC j B ?_ O d ?_ trivial;simp only[sN,seval];intro e1 H I a3;simp only[sN,seval] at a3;cases b1:rA x with
 |true=>
  rw[b1] at H;simp only[go_sem,seval,H,I,c,d]
 |false=>
  rw[b1] at H;cases b2:aX x.Al 0 with
  |true=>simp only[go_sem,seval,H,I,c,d,b2]
  |false=>
   cases b3:aX 5 x.Al with
   |true=>simp only[go_sem,seval,H,I,c,d,b2,b3]
   |false=>
    cases b4:jA x.key with
    |false=>simp only[go_sem,seval,H,I,c,d,b2,b3,b4,j,Z]
    |true=>
     simp only[go_sem,seval,H,I,c,d,b2,b3,b4,j,Z];refine avD j z B ?_ O d ?_;simp only[sN,seval,I];intro e2 w c1 c3;simp only[sN,seval,a3] at c3;cases b5:rI x with
     |true=>
      rw[b5] at w;simp only[go_sem,seval,w,c1,c,d]
     |false=>
      rw[b5] at w;simp only[go_sem,seval,w,c1,c,d];refine avE c1 c3 O d ?_;intro e3 m V d3;cases b6:rO x with
      |true=>
       rw[b6] at m;simp only[go_sem,seval,m,V,c,d]
      |false=>
       rw[b6] at m;cases b7:rL x with
       |true=>
        have u:=b7;unfold rL at u;simp only[go_sem,seval,m,V,d3,c,d,C,U,Od,Mf,u]
       |false=>
        have u:=b7;unfold rL at u;cases b8:decide (60<x.values.length) with
        |true=>simp only[go_sem,seval,m,V,d3,c,d,C,Od,XJ,Mf,u,b8,U]
        |false=>
         simp only[go_sem,seval,m,V,d3,c,d,C,Od,XJ,Mf,u,b8,U];refine co.of R (by decide) ?_;simp only[go_sem,seval,BR]
def xZ:aa->Option aB
 | .agg [.bool st,.str a,.int .i64 k,.str ik,.str iv,.int .i64 op,.str key,vv]=>(dW 1 gG vv).bind fun vs=>bif bG vv&&(bh a.length small&&(bh key.length small&&(bh ik.length small&&bu vs.length 1000000))) then some ⟨st,a,k,ik,iv,op,key,vv,vs⟩ else none
 |_=>none
def UG(h:xZ v=some x):v=x.val/\x.Ok:=by
 unfold xZ at h;split at h;simp only[ak] at h;obtain⟨vs,d,h⟩:=h;obtain⟨c,h⟩:=bc h;injection h with h;subst h
 simp only[bq] at c;exact⟨rfl,ig (fun _ _ h=>kQ h) d,c.1,fF c.2.1,fF c.2.2.1,fF c.2.2.2.1,fF c.2.2.2.2⟩;cases h
def agv(c:x.Ok):xZ x.val=some x:=by
 have d:=kT kF c.vals;have m:bh x.area.length small=true:=cN c.area;have j:bh x.key.length small=true:=cN c.key;have b3:bh x.ifK.length small=true:=cN c.ifK;have b4:bu x.values.length 1000000=true:=cN c.len;simp only[dX,xZ,aB.val,aB.cells,d,c.pv,m,j,b3,b4,bX]
def aat: ∀ {xs:List aa} {l:List aB},ij xZ xs=some l-> ∀x∈l,x.Ok
 | [],l,h=>by simp only[ij,aM] at h;subst h;intro o d;cases d
 |x::xs,l,h=>by
  simp only[ij,ak,aM] at h;obtain⟨a,m,r,j,rfl⟩:=h;intro y c;rcases dG.1 c with rfl|c
  exact(UG m).2;exact aat j y c
def aav: ∀ {l:List aB},(∀x∈l,x.Ok)->ij xZ (l.map aB.val)=some l
 | [],_=>rfl
 |x::l,h=>by
  simp only[eT,ij,agv (h x fE),bk,aav (l:=l) fun y c=>h y (iw _ c)]
def qx(v:aa):Option (List aB):=(dW 8 xZ v).bind fun l=>bif bu l.length 1000000 then some l else none
variable{l:List aB}
def BT(h:qx v=some l):au 8 aB.val v l/\(∀x∈l,x.Ok)/\l.length<=1000000:=by
 unfold qx at h;simp only[ak] at h;obtain⟨m,c,h⟩:=h;obtain⟨j,h⟩:=bc h;injection h with h;subst h
 refine⟨ig (fun v a h=>(UG h).1) c,?_,fF j⟩;unfold dW at c;split at c;injection c with c;subst c;intro o d;cases d
 obtain⟨_,c⟩:=bc c;exact aat c;cases c
def Am(h:au 8 aB.val v l)(c: ∀x∈l,x.Ok)(d:l.length<=1000000):qx v=some l:=by
 have j:dW 8 xZ v=some l:=by
  rcases h with⟨rfl,rfl⟩|⟨r,rfl⟩
  rfl;simp only[fc,dW,aav c]
 have b:bu l.length 1000000=true:=cN d;simp only[dX,qx,j,b]
def acE(c: ∀x∈l,x.Ok):pures (l.map aB.val)=true:=by
 rw[Bj];intro v j;obtain⟨x,d,rfl⟩:=cw.1 j;simp only[aB.val,aB.cells,bG,pures,(c x d).pv,bX]
def Kr(h:au 8 aB.val v l)(c: ∀x∈l,x.Ok):dy v=true/\au 8 aB.val (cu v) l:=by
 rcases h with⟨rfl,rfl⟩|⟨r,rfl⟩
 exact⟨rfl,.inl ⟨rfl,rfl⟩⟩;exact⟨by simpa[dy] using acE c,.inr (by
  simp only[cu,kw (acE c)];exact⟨_,rfl⟩)⟩
variable{sv:aa}
def anN(hs:au 8 aB.val sv l)(H: ∀x∈l,x.Ok)(V:l.length<=1000000)(y:Q.spec 296=none)(hg: ∀x∈l,aq Q 296 [x.val] s (.bool (!t9 x)) s){r:Int}(hx: ∀e,r= -1->K (.exit 0) ⟨e,19,lc⟩ s)(hr: ∀e,ac e 4=ag r->K .ret ⟨e,19,lc⟩ s):
 ∀(d c:List aB) (e:aw),l=c++d->r=fp (fun x=> !t9 x) d c.length->ac e 0=sv->ac e 1= .func (.func 296) [] []->ac e 7=aI l.length->ac e 8=aI c.length->W Q 402 (.loop Ps) ⟨e,19,lc⟩ s K:=by
 intro d
 induction d with
 |nil=>
  intro c e z C R O B w;have J:c.length=l.length:=by rw[z];simp
  refine bm ?_;simp only[go_sem,seval,Ps,B,w,J,cq];exact hx _ C
 |cons x d Z=>
  intro c e z C R O B w;have I:c.length<l.length:=by rw[z];simp
  have u:l[c.length]? =some x:=by rw[z];simp
  have m:=dM u;have U:=H x m;have Y:=U.vals.ge;have vs:=U.vals.scal;have M:=fun lc k=>hs.at ow.2.2.1 u lc k;have F:=da (n:=c.length) (by omega);have j:=hg x m;simp only[aB.val,aB.cells] at j;refine bm ?_;simp only[go_sem,seval,Ps,R,O,B,w,I,M,aB.val,aB.cells,Y,vs,y];refine co.of j (by decide) ?_;cases hd:t9 x with
  |false=>
   simp only[go_sem,seval];exact hr _ (by simp only[sN,seval,w,C,fp,hd,mZ])
  |true=>
   simp only[go_sem,seval,w,F];refine Z (c++[x]) _ (by rw[z];simp) (by rw[C];simp only[fp,hd,lD,cF,sA]) ?_ ?_ ?_ ?_
   all_goals simp only[sN,seval,R,O,B,sA]
def awE(I:Q.spec 163=some kY)(u:No Q 403)(m:No Q 404)(z:No Q 261)(B:No Q 167)(w:No Q 297)(y:No Q 296)(Y:No Q 402)(Z:No Q 295)(a0:No Q 216)(U:au 8 aB.val sv l)(C: ∀x∈l,x.Ok)(F:l.length<=1000000)(s:St):aq Q 216 [sv] s (.bool (ou l)) s:=by
 have c:=U.ge;have j:=U.lenS ow;have M: ∀x∈l,aq Q 296 [x.val] s (.bool (!t9 x)) s:=fun x hx=>by
  have R:=C x hx;have vc:=R.vals.ge;have vs:=R.vals.scal;have d:=azf I u m z B w R s;simp only[aB.val,aB.cells] at d;refine aq.ofNZ ap4 (bP ?_);simp only[go_sem,seval,aB.val,aB.cells,vc,vs];refine co.of d (by decide) ?_;simp only[go_sem,seval]
 have J:aq Q 402 [sv,.func (.func 296) [] []] s (bF (fp (fun x=> !t9 x) l 0)) s:=by
  refine aq.ofNZ aqG (bP ?_);simp only[go_sem,seval,j,c];refine anN U C F y.s M (r:=fp (fun x=> !t9 x) l 0) ?_ ?_ l [] _ rfl rfl ?_ ?_ ?_ ?_;intro e hq;simp only[go_sem,seval,hq];rfl;intro e h4;simp only[go_sem,seval,h4];rfl
  all_goals simp only[sN,seval,ct]
  all_goals rfl
 have O:aq Q 295 [sv,.func (.func 296) [] []] s (.bool (l.any fun x=> !t9 x)) s:=by
  refine aq.ofNZ ap3 (bP ?_);simp only[go_sem,seval,c];refine co.of J (by decide) ?_;simp only[go_sem,seval,bF,ni,AG]
 have H:b9 ((l.length:Nat):Int) 200=decide (l.length<=200):=by
  unfold b9;by_cases h:l.length<=200;rw[dQ h,dQ];omega;rw[dN h,dN];omega
 refine aq.ofNZ apb (bP ?_);cases hz:decide (l.length<=200) with
 |false=>
  have V:ou l=false:=by unfold ou;rw[hz];rfl
  simp only[go_sem,seval,c,j,H,hz,V]
 |true=>
  have V:ou l=l.all t9:=by unfold ou;rw[hz];rfl
  simp only[go_sem,seval,c,j,H,hz];refine co.of O (by decide) ?_;simp only[go_sem,seval,BR,V]
def Bn:Sp
 | [v]=>(qx v).bind fun l=>some (.bool (ou l))
 |_=>none
def awF(h:au 8 aB.val v l)(c: ∀x∈l,x.Ok)(d:l.length<=1000000):Bn [v]=some (.bool (ou l)):=by
 simp only[Bn,Am h c d,bk]
def T8:df:=[(163,kY)]
def afF:dl T8:=.cons Qq .nil
def awG:cL ah 216 Bn:=by
 intro m u c G C w xs y z;unfold Bn at c;split at c;simp only[ak] at c;obtain⟨l,I,h⟩:=c;have h:=sI h;subst h;obtain⟨B,j,d⟩:=BT I;obtain⟨H,F⟩:=Kr B j;refine iu afF (W:=[]) .nil (by simp only[dK,H,bX]) (fun J=>?_) G C w xs y z;exact⟨_,_,awE (Q:=QW T8 [] J) rfl ⟨rfl,rfl⟩ ⟨rfl,rfl⟩ ⟨rfl,rfl⟩ ⟨rfl,rfl⟩ ⟨rfl,rfl⟩ ⟨rfl,rfl⟩ ⟨rfl,rfl⟩ ⟨rfl,rfl⟩ ⟨rfl,rfl⟩ F j d _,⟨1,rfl⟩⟩;cases c
def pS(l:List Obj)(f:Obj->List (Pt×Bool))(k:Int):Nat->List ae->List (Pt×Bool)
 |_,[]=>[]
 |i,r::rs=>match ck r l with
  |some q=>bif an q.Al (kr k i) then f q++pS l f k (i+1) rs else [((0,0),false)]
  |none=>[((0,0),false)]
def o7(l:List Obj):Nat->Obj->List (Pt×Bool)
 |0,_=>[]
 |n+1,o=>bif an o.Al 1 then [((o.x,o.y),true)] else pS l (o7 l n) o.Al 0 o.gT
structure kC (lo:Nat) (Kp:Nat->Prop) (s s':St):Prop where
 get: ∀k,(Kp k\/lo<=k)->k<s.aL->s'.get [] k=s.get [] k
 nx:s.aL<=s'.aL
 mw:s'.gE<=s'.aL
variable{Kp:Nat->Prop}
def kC.refl(h:s.gE<=s.aL):kC lo Kp s s:=⟨fun _ _ _=>rfl,bj _,h⟩
def kC.trans{c:St}(h:kC lo Kp s s')(k:kC lo Kp s' c):kC lo Kp s c:=
 ⟨fun j d m=>(k.get j d (by have:=h.nx;omega)).trans (h.get j d m),Nat.le_trans h.nx k.nx,k.mw⟩
def kC.all(j: ∀k,k<s.aL->s'.get [] k=s.get [] k)(c:s.aL<=s'.aL)(d:s'.gE<=s'.aL):kC lo Kp s s':=⟨fun k _ h=>j k h,c,d⟩
structure Eb (Q:aF) (n lo:Nat) (Kp:Nat->Prop) (seq:List (Pt×Bool)) (P:Nat->St->Prop) (D:St->Prop):Prop where
 step: ∀i x s,seq[i]? =some x->P i s->lo<=s.aL->s.gE<=s.aL-> ∃v s',iI Q n [aN x.1,.bool x.2] s v s'/\(kC lo Kp s s'/\((v= .bool true/\P (i+1) s')\/(v= .bool false/\D s')))
 grow: ∀i s s',P i s->(∀k,k<lo->s'.get [] k=s.get [] k)->P i s'
 growD: ∀s s',D s->(∀k,k<lo->s'.get [] k=s.get [] k)->D s'
 kpl: ∀k,Kp k->k<lo
structure Aa (l:List Obj) (p b bo bp:Nat) (q:Obj) (s:St):Prop where
 o:s.get [] bo=some (.cells q.cells)
 q:s.get [] bp=some (.cells [.ptr p 0])
 hp: ∃av bv,s.get [] p=some (.cells [av,.map b,bv])
 m:bM aa.str s b (jk l)
 lo:bo<s.aL
 lq:bp<s.aL
 lp:p<s.aL
 lm:b<s.aL
variable{l:List Obj}{q:Obj}
def Aa.kept{c:Nat}(h:Aa l p b bo c q s)(k:kC lo Kp s s')(z:Kp bo\/lo<=bo)(y:Kp c\/lo<=c)(w:Kp p\/lo<=p)(u:Kp b\/lo<=b):Aa l p b bo c q s':=by
 have d:=k.nx;obtain⟨B,bv,j⟩:=h.hp;exact⟨(k.get bo z h.lo).trans h.o,(k.get c y h.lq).trans h.q,⟨B,bv,(k.get p w h.lp).trans j⟩,(k.get b u h.lm).trans h.m,gh h.lo d,gh h.lq d,gh h.lp d,gh h.lm d⟩
def Ly(Q:aF)(l:List Obj)(p b:Nat)(f:Obj->List (Pt×Bool))(q:Obj):Prop:=
 ∀(n lo bo c:Nat) (Kp:Nat->Prop) (P:Nat->St->Prop) (D:St->Prop) (s:St),Eb Q n lo Kp (f q) P D->(Kp bo\/lo<=bo)->(Kp c\/lo<=c)->(Kp p\/lo<=p)->(Kp b\/lo<=b)->Aa l p b bo c q s->lo<=s.aL->s.gE<=s.aL->P 0 s->
  ∃v s',aq Q 473 [.yld n,.ptr bo 0,.ptr c 0] s v s'/\(v= .tup []/\kC lo Kp s s'/\(P (f q).length s'\/D s'))
def arB(j:No Q 474)(go:o.AL)(i:Nat)(s:St):aq Q 474 [o.val,aI i] s (bF (kr o.Al i)) s:=by
 have d:=go.all;have c:an ((i:Nat):Int) 1=(i==1):=by
  unfold an;by_cases h:i=1;rw[h];rfl;rw[bN.2 h,bN];omega
 refine aq.ofNZ aqW (bP ?_);cases e4:an o.Al 4 with
 |true=>simp only[go_sem,seval,Obj.val,Obj.cells,d,e4,kr,bF,Bool.true_or]
 |false=>
  cases e5:an o.Al 5 with
  |false=>simp only[go_sem,seval,Obj.val,Obj.cells,d,e4,e5,kr,bF,jV,dL]
  |true=>
   cases e1:i==1 with
   |true=>simp only[go_sem,seval,Obj.val,Obj.cells,d,e4,e5,c,e1,kr,bF,jV,eC,lD]
   |false=>simp only[go_sem,seval,Obj.val,Obj.cells,d,e4,e5,c,e1,kr,bF,jV,eC,mZ]
def aaZ(c:No Q 405)(m:q.AL)(p:Nat)(s:St):aq Q 405 [.ptr p 0,q.val] s (.func (.func 473) [] [.ptr (s.aL+1) 0,.ptr s.aL 0]) ((s.new (.cells [.ptr p 0])).new (.cells q.cells)):=by
 have d:=m.all;have j:(s.new (.cells [.ptr p 0])).aL=s.aL+1:=rfl;refine aq.ofNZ aqJ (bP ?_);simp only[go_sem,seval,Obj.val,Obj.cells,d,Hv,j,bf,aZ,aW,aY,evc]
noncomputable abbrev JA(E:aw)(x:Option Ex):aJ:=.loop 473 E 58 [50,51] Fv Fw x
variable{P:Nat->St->Prop}{D:St->Prop}{E:aw}
def anW{bz m base:Nat}{seq seqI:List (Pt×Bool)}(C:Eb Q n lo Kp seq P D)(hs: ∀i x,seqI[i]? =some x->seq[base+i]? =some x)(e3:ac E 3= .ptr bz 0)(zl:lo<=bz)(zm:bz<m):
 Eb Q m (m+1) (fun k=>Kp k\/(lo<=k/\k<m)) seqI (fun i s=>P (base+i) s/\s.get [] m=some (JA E none)/\s.get [] bz=some (.cells [.yld n])) (fun s=>D s/\s.get [] m=some (JA E (some .ret))):=by
 have j:=C.kpl;refine⟨fun i x s hx ⟨J,F,R⟩ a0 M=>?_,fun i s s' ⟨J,F,R⟩ u=>⟨C.grow _ _ _ J fun k j=>u k (by omega),(u m (by omega)).trans F,(u bz (by omega)).trans R⟩,fun s s' ⟨hd,F⟩ u=>⟨C.growD _ _ hd fun k j=>u k (by omega),(u m (by omega)).trans F⟩,fun k d=>?_⟩;refine iI.any (ca:=Pv) (cb:=Pw) F rfl rfl aqS aqT ?_;refine bP ?_;obtain⟨w,H⟩:=bZ (s.put m none);have wn:w.aL=s.aL:=by rw[<-H];rfl
 obtain⟨z,B⟩:=bZ ((w.new (.cells [ag 0,ag 0])).put w.aL (some (.cells [ag x.1.1,ag x.1.2])));have zn:z.aL=s.aL+1:=by rw[<-B];show w.aL+1=_;omega
 have I: ∀k,k<s.aL->k≠m->z.get [] k=s.get [] k:=fun k j c=>by rw[<-B,aU,bN.2 (by omega:k≠w.aL),cF,cr (by omega),<-H,aU,bN.2 c];rfl
 have Y:z.gE<=z.aL:=by
  rw[<-B];refine cU _ _ _ (bW ?_);rw[<-H];exact cU _ _ _ M
 have zk:z.get [] w.aL=some (.cells [ag x.1.1,ag x.1.2]):=by rw[<-B,aU,bS];rfl
 have U:z.get [] bz=some (.cells [.yld n]):=(I bz (by omega) (by omega)).trans R;have O:(w.new (.cells [ag 0,ag 0])).get [] w.aL=some (.cells [ag 0,ag 0]):=cH;have Z:P (base+i) z:=C.grow _ _ _ J fun k j=>I k (by omega) (by omega);obtain⟨v,y,V,K1,hv⟩:=C.step (base+i) x z (hs i x hx) Z (by omega) Y;simp only[aN] at V;have n1:=K1.nx;have fin: ∀o,kC (m+1) (fun k=>Kp k\/(lo<=k/\k<m)) s (y.put m o):=fun o=>by
  refine⟨fun k d hl=>?_,by show s.aL<=y.aL;omega,cU _ _ _ K1.mw⟩;have c:k≠m:=by
   rcases d with(h|h)|h
   have:=j k h;omega;omega;omega
  rw[aU,bN.2 c];refine(K1.get k ?_ (by omega)).trans (I k hl c);rcases d with(h|h)|h
  exact .inl h;exact .inr h.1;exact .inr (by omega)
 have b1:y.get [] bz=some (.cells [.yld n]):=(K1.get bz (.inr zl) (by omega)).trans U;have same: ∀o k,k<lo->(y.put m o).get [] k=y.get [] k:=fun o k j=>by rw[aU,bN.2 (by omega:k≠m)];rfl
 simp only[go_sem,seval,Pv,H,aN,cS,O,cV,B,bf,aZ,aW,aY,evc];refine bP ?_;simp only[go_sem,seval,Pw,e3,U,zk,aP,aQ,bf,aZ,aW,aY,evc];refine zM.of V (by decide) ?_;rcases hv with⟨rfl,p1⟩|⟨rfl,d1⟩
 simp only[go_sem,seval,ji,jl];refine⟨fin _,.inl ⟨C.grow _ _ _ p1 (same _),?_,?_⟩⟩;rw[aU,bS];rfl;rw[aU,bN.2 (by omega:bz≠m)];exact b1;simp only[go_sem,seval,ji,jl];refine⟨fin _,.inr ⟨C.growD _ _ d1 (same _),?_⟩⟩;rw[aU,bS];rfl;rcases d with h|h
 have:=j k h;have:=C.kpl k h;omega;omega
variable{k:Int}{rs:List ae}{f:Obj->List (Pt×Bool)}
def av0{r:ae}(h: ∀q,ck r l=some q->an q.Al (kr k i)=false):pS l f k i (r::rs)=[((0,0),false)]:=by
 unfold pS;cases e:ck r l with
 |none=>rfl
 |some q=>simp only[h q e,cF]
def av1{r:ae}(e:ck r l=some q)(h:an q.Al (kr k i)=true):pS l f k i (r::rs)=f q++pS l f k (i+1) rs:=by
 conv=>lhs;unfold pS
 rw[e];simp only[h,cT]
def H3:tF ah 473=true:=by kernel_rfl
def atj(e4:No Q 473)(b1:No Q 405)(b0:No Q 474)(hg: ∀o∈l,o.AL)(go:o.AL)(e5:o.gT.length<=900000)(IH: ∀(i:Nat) (r:ae) (q:Obj),o.gT[i]? =some r->ck r l=some q->an q.Al (kr o.Al i)=true->Ly Q l p b f q){bp bz:Nat}{seq:List (Pt×Bool)}(C:Eb Q n lo Kp seq P D)(k1:Kp bo\/lo<=bo)(k2:Kp bp\/lo<=bp)(k3:Kp p\/lo<=p)(k4:Kp b\/lo<=b){s0:St}(N0:Aa l p b bo bp o s0)(e2:s0.get [] bz=some (.cells [.yld n]))(zl:lo<=bz)(c6:bz<s0.aL)(e6:lo<=s0.aL)(hx: ∀e lc s,P seq.length s->kC lo Kp s0 s->K (.exit 0) ⟨e,58,lc⟩ s)(hr: ∀e lc s,(P seq.length s\/D s)->kC lo Kp s0 s->K .ret ⟨e,58,lc⟩ s):
 ∀(d c:List ae) (e:aw) (lc:Ag.Loc) (s:St) (done:List (Pt×Bool)),o.gT=c++d->seq=done++pS l f o.Al c.length d->P done.length s->kC lo Kp s0 s->ac e 1= .ptr bo 0->ac e 2= .ptr bp 0->ac e 3= .ptr bz 0->ac e 18=o.refsV->ac e 19=aI o.gT.length->ac e 20=aI c.length->e.all jB=true->W Q 473 (.loop CN) ⟨e,58,lc⟩ s K:=by
 have rn:jB o.refsV=true:=by rcases go.gT with⟨e,_⟩|⟨k,e⟩<;>rw[e]<;>rfl
 intro d
 induction d with
 |nil=>
  intro c e lc s done h1 hq hp K1 r1 r2 r3 M F B hE;have e0:c.length=o.gT.length:=by rw[h1];simp
  refine bm ?_;simp only[go_sem,seval,CN,F,B,e0,cq];have hl:seq.length=done.length:=by rw[hq];simp[pS]
  exact hx _ _ _ (by rw[hl];exact hp) K1
 |cons r d ih=>
  intro c e lc s done h1 hq hp K1 r1 r2 r3 M F B hE;have a5:c.length<o.gT.length:=by rw[h1];simp
  have b8:o.gT[c.length]? =some r:=by rw[h1];simp
  have a6:=fun lc k=>go.gT.at bT.2.2.1 b8 lc k;have d5:=da (n:=c.length) (by omega);have rc:=go.all;have N:=N0.kept K1 k1 k2 k3 k4;have nx:=K1.nx;have d7:=K1.mw;have a8:s.get [] bz=some (.cells [.yld n]):=(K1.get bz (.inr zl) c6).trans e2;obtain⟨av,bv,Z⟩:=N.hp;have ho:=N.o;have Y:=N.q;have d0:=N.lo;have c8:=N.lq;have c9:=N.lp;have d4:=N.lm;simp only[Obj.cells] at ho;have j:=yT iA vh BF N.m r;rw[yQ] at j;have a7:(s.new (.cells [.str [],ag 0,ag 0,ag 0,.Ge,.Ge])).get [] s.aL=some (.cells [.str [],ag 0,ag 0,ag 0,.Ge,.Ge]):=cH;have box: ∀cs, ∃z,(s.new (.cells [.str [],ag 0,ag 0,ag 0,.Ge,.Ge])).put s.aL (some (.cells cs))=z/\z.aL=s.aL+1/\z.gE<=z.aL/\(∀k,k<s.aL->z.get [] k=s.get [] k)/\z.get [] s.aL=some (.cells cs):=fun cs=>
   ⟨_,rfl,rfl,cU _ _ _ (bW d7),fun k w=>by rw[aU,bN.2 (by omega:k≠s.aL),cF,cr w],by rw[aU,bS];rfl⟩
  have c4: ∀(z:St),(∀q,ck r l=some q->an q.Al (kr o.Al c.length)=false)->z.aL=s.aL+1->z.gE<=z.aL->(∀k,k<s.aL->z.get [] k=s.get [] k)-> ∃v s1,iI Q n [.agg [ag 0,ag 0],.bool false] z v s1/\((P seq.length s1\/D s1)/\kC lo Kp s0 s1):=fun z hb zn U I=>by
   have J:seq=done++[((0,0),false)]:=by rw[hq,av0 hb]
   obtain⟨v,s1,H,K2,hv⟩:=C.step done.length ((0,0),false) z (by rw[J];simp) (C.grow _ _ _ hp fun k w=>I k (by omega)) (by omega) U;refine⟨v,s1,H,?_,K1.trans ((kC.all I (by omega) U).trans K2)⟩;have hl:seq.length=done.length+1:=by rw[J];simp
   rw[hl];rcases hv with⟨_,h⟩|⟨_,h⟩
   exact .inl h;exact .inr h
  cases hob:ck r l with
  |none=>
   rw[hob] at j;simp only[sV,om] at j;obtain⟨z,hz,zn,U,I,zk⟩:=box [.str [],ag 0,ag 0,ag 0,.Ge,.Ge];obtain⟨v,s1,H,hv,K2⟩:=c4 z (fun q hq=>by rw[hob] at hq;cases hq) zn U I;have zb:=(I bz (by omega)).trans a8;refine bm ?_;simp only[go_sem,seval,CN,ax,r2,M,F,B,a5,a6,Y,Z,aP,aQ,j,eA,cS,a7,cV,hz];simp only[go_sem,seval,r3,U,zb,aP,aQ,bf,aZ,aW,aY,evc];refine zM.of H (by decide) ?_;simp only[go_sem,seval];exact hr _ _ _ hv K2
  |some q=>
   have gq:=hg q (kJ hob).1;have a4:=gq.gT.ge;have a2:=gq.uP.ge;have a3:=gq.gT.scal;have a1:=gq.uP.scal;rw[hob] at j;simp only[jZ,om,Obj.val,Obj.cells] at j;obtain⟨z,hz,zn,U,I,zk⟩:=box q.cells;have zb:=(I bz (by omega)).trans a8;have a9:=(I bo d0).trans ho;have c5:=(I bp c8).trans Y;simp only[Obj.cells] at hz zk;have O:=arB b0 go c.length z.top;simp only[Obj.val,Obj.cells,bF] at O;cases w:an q.Al (kr o.Al c.length) with
   |false=>
    obtain⟨v,s1,H,hv,K2⟩:=c4 z (fun q' d6=>by have e:q=q':=sI (hob.symm.trans d6);rw[<-e];exact w) zn U I;refine kB ?_;simp only[go_sem,seval,CN,ax,r2,M,F,B,a5,a6,Y,Z,aP,aQ,j,eA,cS,a7,cV,hz,Obj.val,Obj.cells,a4,a2,a3,a1];refine gi U ?_;simp only[go_sem,CM,seval,r1,zk,a9,aP,aQ,rc];refine jR.quiet O (by decide) (by simp[eh,l8]) ?_;simp only[go_sem,CM,seval,w];simp only[go_sem,seval,r3,zb,aP,aQ,bf,aZ,aW,aY,evc];refine zM.of H (by decide) ?_;simp only[go_sem,seval];exact hr _ _ _ hv K2
   |true=>
    have J:seq=(done++f q)++pS l f o.Al (c.length+1) d:=by rw[hq,av1 hob w,oC]
    have R:=aaZ b1 gq p z;obtain⟨y,H⟩:=bZ ((z.new (.cells [.ptr p 0])).new (.cells q.cells));have nn:(z.new (.cells [.ptr p 0])).aL=z.aL+1:=rfl;have yn:y.aL=z.aL+2:=by rw[<-H];rfl
    have yo: ∀k,k<z.aL->y.get [] k=z.get [] k:=fun k w=>by rw[<-H,cr (by omega),cr w]
    have yq:y.get [] z.aL=some (.cells [.ptr p 0]):=by rw[<-H,cr (by omega)];exact cH
    have c7:y.get [] (z.aL+1)=some (.cells q.cells):=by rw[<-H,<-nn];exact cH
    have ym:y.gE<=y.aL:=by rw[<-H];exact bW (bW U)
    rw[H] at R;simp only[Obj.val,Obj.cells] at R;refine kB ?_;simp only[go_sem,seval,CN,ax,r2,M,F,B,a5,a6,Y,Z,aP,aQ,j,eA,cS,a7,cV,hz,Obj.val,Obj.cells,a4,a2,a3,a1];refine gi U ?_;simp only[go_sem,CM,seval,r1,zk,a9,aP,aQ,rc];refine jR.quiet O (by decide) (by simp[eh,l8]) ?_;simp only[go_sem,CM,seval,w];simp only[go_sem,seval,r2,c5,zk,aP,aQ,a4,a2,a3,a1];refine co.of R (by decide) ?_;simp only[go_sem,seval];have b2: ∀(E:aw) (lc:Ag.Loc) (K':Ex->Fr->St->Prop),ac E 3= .ptr bz 0->ac E 49= .func (.func 473) [] [.ptr (z.aL+1) 0,.ptr z.aL 0]->E.all jB=true->(∀V,P (done++f q).length V->kC lo Kp s0 V->K' .normal ⟨E,58,lc⟩ V)->(∀V,D V->kC lo Kp s0 V->K' .ret ⟨E,58,lc⟩ V)->W Q 473 (.rfun (.tmp 49) [50,51] Fv Fw) ⟨E,58,lc⟩ y K':=by
     intro E lc K' e3 c3 hE k5 k6;obtain⟨u,hu⟩:=bZ (y.new (JA E none));have un:u.aL=y.aL+1:=by rw[<-hu];rfl
     have uo: ∀k,k<y.aL->u.get [] k=y.get [] k:=fun k w=>by rw[<-hu,cr w]
     have ul:u.get [] y.aL=some (JA E none):=by rw[<-hu];exact cH
     have um:u.gE<=u.aL:=by rw[<-hu];exact bW ym
     have uz: ∀k,k<s.aL->u.get [] k=s.get [] k:=fun k w=>(uo k (by omega)).trans ((yo k (by omega)).trans (I k w));have CI:=anW C (m:=y.aL) (base:=done.length) (seqI:=f q) (fun i x hx=>by
      rw[J,oC,xN (by omega),show done.length+i-done.length=i by omega];exact GR (nR.1 hx).1▸hx) e3 zl (by omega)
     have NI:Aa l p b (z.aL+1) z.aL q u:=by
      refine⟨(uo _ (by omega)).trans c7,(uo _ (by omega)).trans yq,⟨av,bv,(uz p c9).trans Z⟩,(uz b d4).trans N.m,by omega,by omega,by omega,by omega⟩
     obtain⟨v,s1,a0,rfl,K2,hv⟩:=IH c.length r q b8 hob w y.aL (y.aL+1) (z.aL+1) z.aL _ _ _ u CI (.inl (.inr ⟨by omega,by omega⟩)) (.inl (.inr ⟨by omega,by omega⟩)) (by rcases k3 with h|h;exact .inl (.inl h);exact .inl (.inr ⟨h,by omega⟩)) (by rcases k4 with h|h;exact .inl (.inl h);exact .inl (.inr ⟨h,by omega⟩)) NI (by omega) um ⟨C.grow _ _ _ hp fun k w=>uz k (by omega),ul,(uz bz (by omega)).trans a8⟩;have n2:=K2.nx;have K3: ∀o',kC lo Kp s0 (s1.put y.aL o'):=fun o'=>by
      refine K1.trans ⟨fun k e1 hl=>?_,by show s.aL<=s1.aL;omega,cU _ _ _ K2.mw⟩;rw[aU,bN.2 (by omega:k≠y.aL)];refine(K2.get k ?_ (by omega)).trans (uz k hl);rcases e1 with h|h
      exact .inl (.inl h);exact .inl (.inr ⟨h,by omega⟩)
     have same: ∀o' k,k<lo->(s1.put y.aL o').get [] k=s1.get [] k:=fun o' k w=>by rw[aU,bN.2 (by omega:k≠y.aL)];rfl
     rcases hv with⟨p1,m1,_⟩|⟨d1,m1⟩
     refine oE (h:=473) (first:=[]) (captured:=[.ptr (z.aL+1) 0,.ptr z.aL 0]) (v:=.tup []) (s1:=s1) (by simp only[dA,c3]) (by rw[Std.P,H3,ZE,hE];rfl) (by rw[hu];exact a0) m1 (k5 _ (C.grow _ _ _ ?_ (same _)) (K3 _));rw[de];exact p1;exact oE (h:=473) (first:=[]) (captured:=[.ptr (z.aL+1) 0,.ptr z.aL 0]) (v:=.tup []) (s1:=s1) (by simp only[dA,c3]) (by rw[Std.P,H3,ZE,hE];rfl) (by rw[hu];exact a0) m1 (k6 _ (C.growD _ _ d1 (same _)) (K3 _))
    refine b2 _ _ _ ?_ ?_ ?_ ?_ ?_;simp only[sN,seval,r3];simp only[sN,seval]
    ·repeat' (first|exact hE|refine aD.all_set ?_ (by first|exact rfl|exact rn))
    ·intro V p2 K2
     simp only[go_sem,seval,B,d5];refine ih (c++[r]) _ _ V (done++f q) (by rw[h1];simp) (by rw[J];simp) p2 K2 ?_ ?_ ?_ ?_ ?_ ?_ ?_
     all_goals first
      |(simp only[sN,seval,r1,r2,r3,M,F,sA];done)
      |(repeat' (first|exact hE|refine aD.all_set ?_ (by first|exact rfl|exact rn)))
    intro V d2 K2;simp only[go_sem,seval];exact hr _ _ _ (.inr d2) K2
def Vu(n:Nat):(aa.yld n).cells=[.yld n]:=rfl
def oQ(k:Int):Nat:=bif an k 1 then 1 else bif an k 2||an k 3 then 2 else 3
def ai1(h:an k 1=false):oQ (kr k i)<oQ k:=by
 have m:oQ 1=1:=rfl;have u:oQ 2=2:=rfl;have j:oQ k=bif an k 2||an k 3 then 2 else 3:=by unfold oQ;rw[h];rfl
 rw[j];unfold kr;cases d:an k 4 with
 |true=>
  have d:k=4:=by simpa[an] using d
  subst d;show oQ 2<_;decide
 |false=>
  cases c:an k 5 with
  |true=>
   have c:k=5:=by simpa[an] using c
   subst c;cases i==1;show oQ 2<_;decide;show oQ 1<_;decide
  |false=>
   show oQ 1<_;rw[m];cases an k 2||an k 3<;>decide
def aoc(B:No Q 473)(F:No Q 405)(z:No Q 474)(hg: ∀o∈l,o.AL)(U: ∀o∈l,o.gT.length<=900000): ∀(c:Nat) (o:Obj),o∈l->oQ o.Al<=c->Ly Q l p b (o7 l c) o:=by
 intro c
 induction c with
 |zero=>
  intro o _ hd;have:0<oQ o.Al:=by unfold oQ;cases an o.Al 1<;>cases an o.Al 2||an o.Al 3<;>decide
  omega
 |succ c ih=>
  intro o H hd n lo bo bp Kp P D s C k1 k2 k3 k4 N V R hp;have go:=hg o H;have Y:=go.gT.lenS bT;have rc:=go.gT.ge;have rn:jB o.refsV=true:=by rcases go.gT with⟨e,_⟩|⟨k,e⟩<;>rw[e]<;>rfl
  have O:=N.lo;have a0:=N.lq;have a1:=N.lp;have a2:=N.lm;obtain⟨u,m⟩:=bZ (s.new (.cells [.yld n]));have un:u.aL=s.aL+1:=by rw[<-m];rfl
  have J: ∀k,k<s.aL->u.get [] k=s.get [] k:=fun k w=>by rw[<-m,cr w]
  have Z:u.get [] s.aL=some (.cells [.yld n]):=by rw[<-m];exact cH
  have M:u.gE<=u.aL:=by rw[<-m];exact bW R
  have K0:kC lo Kp s u:=.all J (by omega) M;have d:=(J bo O).trans N.o;have NU:=N.kept K0 k1 k2 k3 k4;have pu:=C.grow _ _ _ hp fun k w=>J k (by omega);simp only[Obj.cells] at d;refine aq.ofNRZ aqV (bP ?_);cases h1:an o.Al 1 with
  |true=>
   have j:o7 l (c+1) o=[((o.x,o.y),true)]:=by unfold o7;rw[h1];rfl
   rw[j] at C ⊢;obtain⟨v,s1,hy,I,hv⟩:=C.step 0 ((o.x,o.y),true) u rfl pu (by omega) M;simp only[aN] at hy;simp only[go_sem,seval,VS,Vu,m,d,Z,h1,aP,aQ,bf,aZ,aW,aY,evc];refine zM.of hy (by decide) ?_;simp only[go_sem,seval];refine⟨_,rfl,rfl,K0.trans I,?_⟩;rcases hv with⟨_,h⟩|⟨_,h⟩
   exact .inl h;exact .inr h
  |false=>
   have j:o7 l (c+1) o=pS l (o7 l c) o.Al 0 o.gT:=by
    (conv=>lhs;unfold o7)
    rw[h1];rfl
   rw[j] at C ⊢;have IH: ∀(i:Nat) (r:ae) (q:Obj),o.gT[i]? =some r->ck r l=some q->an q.Al (kr o.Al i)=true->Ly Q l p b (o7 l c) q:=fun i r q _ hq w=>by
    have w:q.Al=kr o.Al i:=by simpa[an] using w
    have:=ai1 (i:=i) h1;exact ih q (kJ hq).1 (by rw[w];omega)
   simp only[go_sem,seval,VS,Vu,m,d,h1,aP,aQ,rc,Y,bf,aZ,aW,aY,evc];refine atj B F z hg go (U o H) IH C k1 k2 k3 k4 (s0:=u) (bz:=s.aL) NU Z V (by omega) (by omega) ?_ ?_ o.gT [] _ _ u [] rfl rfl pu (.refl M) ?_ ?_ ?_ ?_ ?_ ?_ ?_;intro e lc s1 h I;simp only[go_sem,seval];exact⟨_,rfl,rfl,K0.trans I,.inl h⟩;intro e lc s1 h I;simp only[go_sem,seval];exact⟨_,rfl,rfl,K0.trans I,h⟩
   all_goals first
    |(simp only[sN,seval,ct];done)
    |(simp only[sN,seval,ct];rfl)
    |(repeat' (first|exact rfl|refine aD.all_set ?_ (by first|exact rfl|exact rn)))
noncomputable abbrev Jz(E:aw)(x:Option Ex):aJ:=.loop 299 E 55 [45,46] Fl Fm x
def u5(r:List Pt)(q:Pt×Bool):Bool:=q.2&& !aX (sF r q.1) 0
def lQ(l:List Obj)(id area:ae):Bool:=match ck id l,kK l area with
 |some o,some r=>(o7 l 3 o).all (u5 r)
 |_,_=>false
def acY{c:List Obj}(j:c=l)(B:(l.map Obj.id).Nodup){s0:St}{L:List (ae×aa)}(I:v8 l c p a b lo s0 s L bv)(k:ae):(cD k L=none/\kK l k=none)\/ ∃v r,cD k L=some v/\kK l k=some r/\au 2 aN v r:=by
 subst j;cases e:cD k L with
 |some v=>
  obtain⟨o,m,C,r,U,R⟩:=I.rings _ (CT e);have C:k=o.id:=C;refine .inr ⟨v,r,rfl,?_,R⟩;unfold kK;rw[C,De B m];exact U
 |none=>
  refine .inl ⟨rfl,?_⟩;cases d:kK c k with
  |none=>rfl
  |some r=>
   exfalso;unfold kK at d;cases m:ck k c with
   |none=>rw[m] at d;cases d
   |some o=>
    rw[m] at d;have d:pR c o=some r:=d;obtain⟨J,hid⟩:=kJ m;have O:k∈L.map (·.1):=by
     rw[I.ids];refine cw.2 ⟨o,List.mem_filter.2 ⟨J,?_⟩,hid⟩;unfold mG;rw[d];rfl
    obtain⟨x,H,z⟩:=cw.1 O;have: ∀ {M:List (ae×aa)},x∈M->cD k M≠none:=by
     intro M
     induction M with
     |nil=>intro h;cases h
     |cons y M F=>
      intro h w;obtain⟨a,u⟩:=y;simp only[cD] at w;by_cases q:k=a;rw[iP q] at w;cases w;rw[iN q] at w;rcases dG.1 h with h|h
      subst h;exact q z.symm;exact F h w
    exact this H e
def anV(C:Q.spec 406=some Bp){m q1 rb:Nat}{r:List Pt}(hr:au 2 aN rv r){seq:List (Pt×Bool)}(e6:ac E 6= .ptr q1 0)(U:ac E 10= .ptr rb 0)(a4:q1<m)(a3:rb<m)(J:rb≠q1):
 Eb Q m (m+1) (fun k=>k<m/\k≠q1) seq (fun i s=>s.get [] m=some (Jz E none)/\s.get [] q1=some (.cells [.bool false])/\s.get [] rb=some (.cells [rv])/\(seq.take i).all (u5 r)=true) (fun s=>s.get [] m=some (Jz E (some .ret))/\s.get [] q1=some (.cells [.bool false])/\seq.all (u5 r)=false):=by
 have O:=hr.ge;refine⟨fun i x s hx ⟨M,d,hb,R⟩ a5 a0=>?_,fun i s s' ⟨M,d,hb,R⟩ H=>⟨(H m (by omega)).trans M,(H q1 (by omega)).trans d,(H rb (by omega)).trans hb,R⟩,fun s s' ⟨M,d,R⟩ H=>⟨(H m (by omega)).trans M,(H q1 (by omega)).trans d,R⟩,fun k hk=>by omega⟩;have j:Bp [rv,aN x.1]=some (bF (sF r x.1)):=by simp only[Bp,qw hr,bk,wd]
 refine iI.any (ca:=Pb) (cb:=Fk) M rfl rfl ap7 ap8 ?_;refine bP ?_;obtain⟨w,Z⟩:=bZ (s.put m none);have wn:w.aL=s.aL:=by rw[<-Z];rfl
 obtain⟨z,I⟩:=bZ ((w.new (.cells [ag 0,ag 0])).put w.aL (some (.cells [ag x.1.1,ag x.1.2])));have zn:z.aL=s.aL+1:=by rw[<-I];show w.aL+1=_;omega
 have V: ∀k,k<s.aL->k≠m->z.get [] k=s.get [] k:=fun k hk J=>by rw[<-I,aU,bN.2 (by omega:k≠w.aL),cF,cr (by omega),<-Z,aU,bN.2 J];rfl
 have zw:z.gE<=z.aL:=by
  rw[<-I];refine cU _ _ _ (bW ?_);rw[<-Z];exact cU _ _ _ a0
 have zk:z.get [] w.aL=some (.cells [ag x.1.1,ag x.1.2]):=by rw[<-I,aU,bS];rfl
 have zb:z.get [] rb=some (.cells [rv]):=(V rb (by omega) (by omega)).trans hb;have Y:z.get [] q1=some (.cells [.bool false]):=(V q1 (by omega) (by omega)).trans d;have a2:(w.new (.cells [ag 0,ag 0])).get [] w.aL=some (.cells [ag 0,ag 0]):=cH;have fin: ∀(u:St) (o:Option aJ),(∀k,k<s.aL->k≠m->k≠q1->u.get [] k=s.get [] k)->s.aL<=u.aL->u.gE<=u.aL->kC (m+1) (fun k=>k<m/\k≠q1) s (u.put m o):=fun u o y hn a1=>by
  refine⟨fun k hk hl=>?_,hn,cU _ _ _ a1⟩;rw[aU,bN.2 (by omega:k≠m)];exact y k hl (by omega) (by omega)
 simp only[go_sem,seval,Pb,Z,aN,cS,a2,cV,I,bf,aZ,aW,aY,evc];refine bP ?_;cases hin:u5 r x with
 |false=>
  have B:seq.all (u5 r)=false:=by
   cases hc:seq.all (u5 r) with
   |false=>rfl
   |true=>
    have:=fD.1 hc x (dM hx);rw[hin] at this;cases this
  obtain⟨u,y⟩:=bZ (z.put q1 (some (.cells [.bool false])));have un:u.aL=s.aL+1:=by rw[<-y];exact zn
  have um:u.gE<=u.aL:=by rw[<-y];exact cU _ _ _ zw
  have uo: ∀k,k<s.aL->k≠m->k≠q1->u.get [] k=s.get [] k:=fun k d F h3=>by rw[<-y,aU,bN.2 h3];exact V k d F
  have u1:u.get [] q1=some (.cells [.bool false]):=by rw[<-y,aU,bS];rfl
  cases F:x.2 with
  |false=>
   simp only[go_sem,seval,Fk,e6,Y,cS,cV,y,F,ji,jl];refine⟨fin u _ uo (by omega) um,.inr ⟨?_,?_,B⟩⟩;rw[aU,bS];rfl;rw[aU,bN.2 (by omega:q1≠m)];exact u1
  |true=>
   have hs:aX (sF r x.1) 0=true:=by
    unfold u5 at hin;rw[F,eC] at hin;simpa using hin
   have c:=j;simp only[aN,bF] at c;simp only[go_sem,seval,Fk,e6,U,Y,zb,zk,aP,aQ,O,cS,cV,y,F,C,c,hs,ji,jl];refine⟨fin u _ uo (by omega) um,.inr ⟨?_,?_,B⟩⟩;rw[aU,bS];rfl;rw[aU,bN.2 (by omega:q1≠m)];exact u1
 |true=>
  unfold u5 at hin;simp only[bq,oA] at hin;have c:=j;simp only[aN,bF] at c;simp only[go_sem,seval,Fk,e6,U,Y,zb,zk,aP,aQ,O,C,c,hin.1,hin.2,ji,jl];refine⟨fin z _ (fun k d F _=>V k d F) (by omega) zw,.inl ⟨?_,?_,?_,?_⟩⟩;rw[aU,bS];rfl;rw[aU,bN.2 (by omega:q1≠m)];exact Y;rw[aU,bN.2 (by omega:rb≠m)];exact zb;rw[List.take_add_one,hx,List.all_append,R];simp only[Option.toList_some,kx,List.all_nil,u5,hin.1,hin.2,mZ,bX]
def ai2(k:Int):oQ k<=3:=by unfold oQ;cases an k 1<;>cases an k 2||an k 3<;>decide
variable{area:ae}
def an4{id:ae}(h:ck id l=none):lQ l id area=false:=by unfold lQ;rw[h]
def an5{id:ae}(h:kK l area=none):lQ l id area=false:=by
 unfold lQ;rw[h];cases ck id l<;>rfl
def an6{id:ae}{r:List Pt}(h:ck id l=some o)(c:kK l area=some r):lQ l id area=(o7 l 3 o).all (u5 r):=by unfold lQ;rw[h,c]
def an1(e0:Q.spec 31=some im)(c8:Q.spec 229=some pW)(b0:No Q 137)(c7:Q.spec 406=some Bp)(a9:No Q 473)(a1:No Q 405)(a8:No Q 474)(e2:No Q 299)(ho:au 6 Obj.val ov l)(hg: ∀o∈l,o.AL)(hl:l.length<=900000)(c6: ∀o∈l,o.gT.length<=900000)(hv:cM l=true)(id area:ae)(hm:s.gE<=s.aL):
 ∃v s',aq Q 299 [.agg [ov],.str id,.str area] s v s'/\v= .bool (lQ l id area):=by
 have d6:=ho.cs;have d7:=CC ho;have c5:=qN hv;obtain⟨F,M⟩:=bZ ((s.new (.cells [ov])).new (.cells [.bool false]));have b1:(s.new (.cells [ov])).aL=s.aL+1:=rfl;have e3:F.aL=s.aL+2:=by rw[<-M];rfl
 have d0:F.gE<=F.aL:=by rw[<-M];exact bW (bW hm)
 have d2:F.get [] s.aL=some (.cells [ov]):=by rw[<-M,cr (by omega)];exact cH
 have d1:F.get [] (s.aL+1)=some (.cells [.bool false]):=by rw[<-M,<-b1];exact cH
 refine aq.ofNRZ ap9 (bP ?_);simp only[go_sem,seval,n8,d6,d7,b1,M,d2,aP,aQ,Gm,bf,aZ,aW,aY,evc];refine co.ex (abg e0 c8 b0 ho hg hl c6 hv d0) (by decide) ?_;rintro v s1 ⟨rfl,e4,L,bv,I,c3⟩;have nx:=I.nx;have B:=I.hp;have H:s1.get [] (s.aL+1)=some (.cells [.bool false]):=(I.old _ (by omega) (by omega) (by omega)).trans ((c3 _ (by omega)).trans d1);have j:=yT iA vh BF I.mb id;rw[yQ] at j;have Z:(s1.new (.cells [.str [],ag 0,ag 0,ag 0,.Ge,.Ge])).get [] s1.aL=some (.cells [.str [],ag 0,ag 0,ag 0,.Ge,.Ge]):=cH;have box: ∀cs, ∃z,(s1.new (.cells [.str [],ag 0,ag 0,ag 0,.Ge,.Ge])).put s1.aL (some (.cells cs))=z/\z.aL=s1.aL+1/\z.gE<=z.aL/\(∀k,k<s1.aL->z.get [] k=s1.get [] k)/\z.get [] s1.aL=some (.cells cs):=fun cs=>
  ⟨_,rfl,rfl,cU _ _ _ (bW I.mw),fun k O=>by rw[aU,bN.2 (by omega:k≠s1.aL),cF,cr O],by rw[aU,bS];rfl⟩
 have C: ∀(z:St) (v:aa),z.gE<=z.aL-> ∃y,(z.new (.cells [.Ge])).put z.aL (some (.cells [v]))=y/\y.aL=z.aL+1/\y.gE<=y.aL/\(∀k,k<z.aL->y.get [] k=z.get [] k)/\y.get [] z.aL=some (.cells [v]):=fun z v hz=>
  ⟨_,rfl,rfl,cU _ _ _ (bW hz),fun k O=>by rw[aU,bN.2 (by omega:k≠z.aL),cF,cr O],by rw[aU,bS];rfl⟩
 have a0: ∀z:St,(z.new (.cells [.Ge])).get [] z.aL=some (.cells [.Ge]):=fun z=>cH;cases hob:ck id l with
 |none=>
  rw[hob] at j;simp only[sV,om] at j;obtain⟨z,hz,zn,zm,U,zk⟩:=box [.str [],ag 0,ag 0,ag 0,.Ge,.Ge];have J:=(U _ (by omega)).trans B;have a5:bM aa.str z F.aL L:=(U _ (by omega)).trans I.ma;have c:=yT iA A7 D0 a5 area;have d:=an4 (area:=area) hob;have e5: ∀Y b2,om .Ge (cD area L)= .tup [Y,.bool b2]->Y.cells=[Y]->Y.ge=true-> ∃w,w=om .Ge (cD area L):=fun _ _ _ _ _=>⟨_,rfl⟩;rcases acY rfl c5 I area with⟨g1,g2⟩|⟨Y,r,g1,g2,g3⟩
  rw[g1] at c;simp only[om] at c;obtain⟨y,hy,yn,ym,V,yk⟩:=C z .Ge zm;have y1:=(V (s.aL+1) (by omega)).trans ((U _ (by omega)).trans H);simp only[go_sem,seval,n8,Gd,B,aP,aQ,j,eA,cS,Z,cV,hz];simp only[go_sem,seval,n8,J,aP,aQ,c,eA,Er,cS,a0,cV,hy];simp only[go_sem,seval,n8,y1,aP,aQ,cS,cV,aU];exact⟨_,rfl,by rw[d]⟩;rw[g1] at c;simp only[om] at c;have a3:=g3.ge;have a4:=CC g3;obtain⟨y,hy,yn,ym,V,yk⟩:=C z Y zm;have y1:=(V (s.aL+1) (by omega)).trans ((U _ (by omega)).trans H);simp only[go_sem,seval,n8,Gd,B,aP,aQ,j,eA,cS,Z,cV,hz];simp only[go_sem,seval,n8,J,aP,aQ,c,eA,a3,a4,cS,a0,cV,hy];simp only[go_sem,seval,n8,y1,aP,aQ,cS,cV,aU];exact⟨_,rfl,by rw[d]⟩
 |some o=>
  have c4:=(kJ hob).1;have go:=hg o c4;have rc:=go.all;rw[hob] at j;simp only[jZ,om,Obj.val,Obj.cells] at j;obtain⟨z,hz,zn,zm,U,zk⟩:=box o.cells;simp only[Obj.cells] at hz zk;have J:=(U _ (by omega)).trans B;have a5:bM aa.str z F.aL L:=(U _ (by omega)).trans I.ma;have c:=yT iA A7 D0 a5 area;rcases acY rfl c5 I area with⟨g1,g2⟩|⟨Y,r,g1,g2,g3⟩
  have d:=an5 (id:=id) g2;rw[g1] at c;simp only[om] at c;obtain⟨y,hy,yn,ym,V,yk⟩:=C z .Ge zm;have y1:=(V (s.aL+1) (by omega)).trans ((U _ (by omega)).trans H);simp only[go_sem,seval,n8,Gd,B,aP,aQ,j,eA,rc,cS,Z,cV,hz];simp only[go_sem,seval,n8,J,aP,aQ,c,eA,Er,cS,a0,cV,hy];simp only[go_sem,seval,n8,y1,aP,aQ,cS,cV,aU];exact⟨_,rfl,by rw[d]⟩
  ·have d:=an6 hob g2
   rw[g1] at c;simp only[om] at c;have a3:=g3.ge;have a4:=CC g3;obtain⟨y,hy,yn,ym,V,yk⟩:=C z Y zm;have y1:=(V (s.aL+1) (by omega)).trans ((U _ (by omega)).trans H);have yz:=(V s1.aL (by omega)).trans zk;have R:=aaZ a1 go (F.aL+2) y;obtain⟨x,hx⟩:=bZ ((y.new (.cells [.ptr (F.aL+2) 0])).new (.cells o.cells));have d5:(y.new (.cells [.ptr (F.aL+2) 0])).aL=y.aL+1:=rfl;have xn:x.aL=y.aL+2:=by rw[<-hx];rfl
   have xo: ∀k,k<y.aL->x.get [] k=y.get [] k:=fun k O=>by rw[<-hx,cr (by omega),cr O]
   have xq:x.get [] y.aL=some (.cells [.ptr (F.aL+2) 0]):=by rw[<-hx,cr (by omega)];exact cH
   have d4:x.get [] (y.aL+1)=some (.cells o.cells):=by rw[<-hx,<-d5];exact cH
   have xm:x.gE<=x.aL:=by rw[<-hx];exact bW (bW ym)
   rw[hx] at R;simp only[Obj.val,Obj.cells] at R;simp only[go_sem,seval,n8,Gd,B,aP,aQ,j,eA,rc,cS,Z,cV,hz];simp only[go_sem,seval,n8,J,aP,aQ,c,eA,a3,a4,cS,a0,cV,hy];simp only[go_sem,seval,n8,yz,aP,aQ,rc];refine co.of R (by decide) ?_;simp only[go_sem,seval,n8];have b8: ∀(E:aw) (lc:Ag.Loc) (K':Ex->Fr->St->Prop),ac E 6= .ptr (s.aL+1) 0->ac E 10= .ptr z.aL 0->ac E 44= .func (.func 473) [] [.ptr (y.aL+1) 0,.ptr y.aL 0]->E.all jB=true->(∀s2,lQ l id area=true->s2.get [] (s.aL+1)=some (.cells [.bool false])->K' .normal ⟨E,55,lc⟩ s2)->(∀s2,lQ l id area=false->s2.get [] (s.aL+1)=some (.cells [.bool false])->K' .ret ⟨E,55,lc⟩ s2)->W Q 299 (.rfun (.tmp 44) [45,46] Fl Fm) ⟨E,55,lc⟩ x K':=by
    intro E lc K' e6 e1 c9 hE k5 k6;obtain⟨u,hu⟩:=bZ (x.new (Jz E none));have un:u.aL=x.aL+1:=by rw[<-hu];rfl
    have uo: ∀k,k<x.aL->u.get [] k=x.get [] k:=fun k O=>by rw[<-hu,cr O]
    have ul:u.get [] x.aL=some (Jz E none):=by rw[<-hu];exact cH
    have um:u.gE<=u.aL:=by rw[<-hu];exact bW xm
    have uz: ∀k,k<y.aL->u.get [] k=y.get [] k:=fun k O=>(uo k (by omega)).trans (xo k O);have us: ∀k,k<s1.aL->u.get [] k=s1.get [] k:=fun k O=>(uz k (by omega)).trans ((V k (by omega)).trans (U k O));have CI:=anV c7 (m:=x.aL) (q1:=s.aL+1) (rb:=z.aL) g3 (seq:=o7 l 3 o) e6 e1 (by omega) (by omega) (by omega);have NI:Aa l (F.aL+2) (F.aL+1) (y.aL+1) y.aL o u:=by
     refine⟨(uo _ (by omega)).trans d4,(uo _ (by omega)).trans xq,⟨_,bv,(us _ (by omega)).trans B⟩,(us _ (by omega)).trans I.mb,by omega,by omega,by omega,by omega⟩
    obtain⟨v,s3,a2,rfl,K2,hv⟩:=aoc a9 a1 a8 hg c6 3 o c4 (ai2 _) x.aL (x.aL+1) (y.aL+1) y.aL _ _ _ u CI (.inl ⟨by omega,by omega⟩) (.inl ⟨by omega,by omega⟩) (.inl ⟨by omega,by omega⟩) (.inl ⟨by omega,by omega⟩) NI (by omega) um ⟨ul,(us _ (by omega)).trans H,(uz _ (by omega)).trans yk,rfl⟩;rcases hv with⟨m1,p1,_,ha⟩|⟨m1,p1,ha⟩
    refine oE (h:=473) (first:=[]) (captured:=[.ptr (y.aL+1) 0,.ptr y.aL 0]) (v:=.tup []) (s1:=s3) (by simp only[dA,c9]) (by rw[Std.P,H3,YO,hE];rfl) (by rw[hu];exact a2) m1 (k5 _ ?_ ?_);rw[d,<-ha,sU (bj _)];rw[aU,bN.2 (by omega:s.aL+1≠x.aL)];exact p1;refine oE (h:=473) (first:=[]) (captured:=[.ptr (y.aL+1) 0,.ptr y.aL 0]) (v:=.tup []) (s1:=s3) (by simp only[dA,c9]) (by rw[Std.P,H3,YO,hE];rfl) (by rw[hu];exact a2) m1 (k6 _ ?_ ?_);rw[d,ha];rw[aU,bN.2 (by omega:s.aL+1≠x.aL)];exact p1
   have rn:jB Y=true:=by rcases g3 with⟨e,_⟩|⟨k,e⟩<;>rw[e]<;>rfl
   refine b8 _ _ _ ?_ ?_ ?_ ?_ ?_ ?_;simp only[sN,seval];simp only[sN,seval];simp only[sN,seval]
   ·repeat' (first|exact rfl|refine aD.all_set ?_ (by first|exact rfl|exact rn))
   intro s2 a6 a7;simp only[go_sem,seval,n8,a7,aP,aQ,cS,cV,aU];exact⟨_,rfl,by rw[a6]⟩;intro s2 a6 a7;simp only[go_sem,seval,n8,a7,aP,aQ];exact⟨_,rfl,by rw[a6]⟩
def TQ:df:=[(31,im),(229,pW),(406,Bp)]
def afs:dl TQ:=.cons tT (.cons KA (.cons axa .nil))
def tH:Sp
 | [v,.str id,.str area]=>(jO v).bind fun l=>bif mB l then some (.bool (lQ l id area)) else none
 |_=>none
def an3:cL ah 299 tH:=by
 intro args u c G h w xs C H;unfold tH at c;split at c;rename_i O id area;simp only[ak] at c;obtain⟨l,z,c⟩:=c;obtain⟨j,c⟩:=bc c;have c:=sI c;subst c;obtain⟨v,rfl,z,B,R⟩:=nX z;obtain⟨I,F,m,y⟩:=o9 z B;have m:dj [.agg [v],.str id,.str area]=[.agg [F],.str id,.str area]:=by simp only[dj,m];rfl
 have j:=oW.1 j;refine iu afs (W:=[]) .nil (args:=[.agg [v],.str id,.str area]) (by show(dy (.agg [v])&&_)=true;rw[I];rfl) (fun M=>?_) G h w xs C H;rw[m];obtain⟨v,s',d,rfl⟩:=an1 (Q:=QW TQ [] M) rfl rfl ⟨rfl,rfl⟩ rfl ⟨rfl,rfl⟩ ⟨rfl,rfl⟩ ⟨rfl,rfl⟩ ⟨rfl,rfl⟩ y B (by have:=j.len;omega) (fun o J=>by have:=j.gT o J;omega) j.valid id area (s:=s0) (by decide);exact⟨_,_,d,1,rfl⟩;cases c
def j6(l:List Obj)(x:aB)(o:Obj):Bool:=MZ x o&&(!ve x o&&((x.area== [])||lQ l o.id x.area))
def cA(x:aB)(o:Obj):Bool:= !(an x.Al 0)&& !(an x.Al o.Al)
def cB(x:aB)(o:Obj):Bool:= !(x.ifK== [])&& !(gI x.ifK o.uP==some x.ifV)
theorem aiF(x:aB)(o:Obj):MZ x o=(!cA x o&& !cB x o):=by
 grind [MZ,cA,cB]
def an2(h:au 6 Obj.val v l)(m: ∀o∈l,o.AL)(c:mB l=true)(id area:ae):tH [.agg [v],.str id,.str area]=some (.bool (lQ l id area)):=by
 have j:l.length<small:=by
  have:=(oW.1 c).len;have d:=gV;omega
 simp only[dX,tH,qv h m j,c]
def W4(g:Option ae): ∃v b,yD g= .tup [.str v,.bool b]/\((∃w,g=some w/\v=w/\b=true)\/(g=none/\v=[]/\b=false)):=by
 cases g with
 |none=>exact⟨_,_,rfl,.inr ⟨rfl,rfl,rfl⟩⟩
 |some v=>exact⟨_,_,rfl,.inl ⟨v,rfl,rfl,rfl⟩⟩
variable{xb:Nat}
def avF(m:ac e 1= .ptr xb 0)(w:ac e 3= .Gt 3 1 0)(j:lc.get 3 1=some o.cells)(g3:lc.gen 3=1)(d:s.get [] xb=some (.cells x.cells))(u: ∀c,ac c 19= .bool (cA x o)->ac c 1= .ptr xb 0->ac c 2=ac e 2->ac c 3= .Gt 3 1 0->N ⟨c,84,lc⟩ s):WV Q 298 u7 ⟨e,84,lc⟩ s N:=by
 unfold cA at u;simp only[aB.cells] at d;simp only[Obj.cells] at j;cases hz:an x.Al 0 with
 |true=>
  simp only[go_sem,seval,u7,tJ,u9,m,d,aP,aQ,hz]
  simp_all [sN]
 |false=>
  simp only[go_sem,seval,u7,tJ,u9,m,w,j,g3,d,aP,aQ,hz]
  simp_all [sN]
def avH(w:ac e 1= .ptr xb 0)(B:ac e 3= .Gt 3 1 0)(m:(∃v,gI x.ifK o.uP=some v/\ac e 5= .str v/\ac e 6= .bool true)\/(gI x.ifK o.uP=none/\ac e 5= .str []/\ac e 6= .bool false))(d:s.get [] xb=some (.cells x.cells))(z: ∀c,ac c 43= .bool (cB x o)->ac c 1= .ptr xb 0->ac c 2=ac e 2->ac c 3= .Gt 3 1 0->N ⟨c,84,lc⟩ s):WV Q 298 u9 ⟨e,84,lc⟩ s N:=by
 unfold cB at z;simp only[aB.cells] at d;cases hz:x.ifK== [] with
 |true=>
  simp only[go_sem,seval,u7,tJ,u9,w,d,aP,aQ,hz]
  simp_all [sN]
 |false=>
  rcases m with⟨v,y,u,j⟩|⟨y,u,j⟩
  simp only[go_sem,seval,u7,tJ,u9,w,u,j,d,aP,aQ,hz]
  simp_all [sN]
  simp only[go_sem,seval,u7,tJ,u9,w,u,j,d,aP,aQ,hz]
  simp_all [sN]
theorem avG(c:Q.spec 299=some tH)(w:au 6 Obj.val ov l)(C: ∀o∈l,o.AL)(F:mB l=true){k:Bool}{mb:Nat}(y:ac e 1= .ptr xb 0)(I:ac e 2= .ptr mb 0)(H:ac e 3= .Gt 3 1 0)(u:lc.get 3 1=some o.cells)(g3:lc.gen 3=1)(m:ac e 9= .bool k)(d:s.get [] xb=some (.cells x.cells))(B:s.get [] mb=some (.cells [ov]))(J: ∀z,ac z 4= .bool (!k&&((x.area== [])||lQ l o.id x.area))->N ⟨z,84,lc⟩ s):WV Q 298 tJ ⟨e,84,lc⟩ s N:=by
 simp only[aB.cells] at d;simp only[Obj.cells] at u;have j:=w.ge;have q:=an2 w C F o.id x.area;cases k with
 |true=>
  simp only[go_sem,seval,u7,tJ,u9,m]
  grind [iQ]
 |false=>
  cases hz:x.area== [] with
  |true=>
   simp only[go_sem,seval,u7,tJ,u9,y,m,d,aP,aQ,hz]
   grind [iQ]
  |false=>
   simp only[go_sem,seval,u7,tJ,u9,y,I,H,u,g3,m,d,B,aP,aQ,Gm,hz,j,c,q]
   grind [iQ]
theorem ag8(c:Q.spec 214=some mD)(V:Q.spec 130=some nj)(U:Q.spec 299=some tH)(a6:No Q 298)(ho:au 6 Obj.val ov l)(hg: ∀o∈l,o.AL)(hf:mB l=true)(ok:x.Ok)(go:o.AL)(ht:o.uP.length<=1000000){mb:Nat}(hx:s.get [] xb=some (.cells x.cells))(hm:s.get [] mb=some (.cells [ov])):aq Q 298 [o.val,.ptr xb 0,.ptr mb 0] s (.bool (j6 l x o)) s:=by
 have H:=go.all;have vc:=ok.vals.ge;have q1:=NX go.uP ht x.ifK;have J:=NX go.uP ht x.key;have R:=aiF x o;have l1:Ag.Loc.get (Ag.Loc.set [] 3 1 o.cells) 3 1=some o.cells:=rfl;have B:Ag.Loc.gen (Ag.Loc.set [] 3 1 o.cells) 3=1:=rfl;obtain⟨lc,F⟩:=bZ (Ag.Loc.set [] 3 1 o.cells);rw[F] at l1 B;have j:=l1;simp only[Obj.cells] at F j;have m:=hx;simp only[aB.cells] at m;refine aq.ofNZ ap6 (bP ?_);simp only[go_sem,seval,Obj.val,Obj.cells,H,F];refine avF (x:=x) (o:=o) ?_ ?_ l1 B hx ?_;simp only[sN,seval];simp only[sN,seval];intro Z y a1 a2 a3;simp only[sN,seval] at a2;cases bA:cA x o with
 |true=>
  have hb:j6 l x o=false:=by unfold j6;rw[R,bA];rfl
  rw[bA] at y;simp only[go_sem,seval,y,hb]
 |false=>
  rw[bA] at y;obtain⟨v5,b6,a4,a5⟩:=W4 (gI x.ifK o.uP);rw[a4] at q1;simp only[go_sem,seval,y,a1,a3,j,B,m,aP,aQ,H,c,q1,eA,kz,mg];refine avH (x:=x) (o:=o) ?_ ?_ ?_ hx ?_;simp only[sN,seval,a1];simp only[sN,seval,a3]
  ·rcases a5 with⟨w,Z,rfl,rfl⟩|⟨Z,rfl,rfl⟩
   all_goals simp_all [sN]
  intro Y d c1 c2 u;simp only[sN,seval,a2] at c2;cases bB:cB x o with
  |true=>
   have hb:j6 l x o=false:=by unfold j6;rw[R,bB,lD,gA];rfl
   rw[bB] at d;simp only[go_sem,seval,d,hb]
  |false=>
   rw[bB] at d;have fin: ∀I,ac I 1= .ptr xb 0->ac I 2= .ptr mb 0->ac I 3= .Gt 3 1 0-> ∀k,k=ve x o->ac I 9= .bool k-> ∀N:Fr->St->Prop,(∀Y,ac Y 4= .bool (j6 l x o)->N ⟨Y,84,lc⟩ s)->WV Q 298 tJ ⟨I,84,lc⟩ s N:=fun I c1 c2 u k z c9 N hN=>by
    refine avG U ho hg hf c1 c2 u l1 B c9 hx hm fun Y C=>hN Y ?_
    grind [j6]
   obtain⟨v7,b8,a0,O⟩:=W4 (gI x.key o.uP);rw[a0] at J;have M:(gI x.key o.uP).isNone= !b8/\(gI x.key o.uP).isSome=b8:=by
    rcases O with⟨w,Z,rfl,rfl⟩|⟨Z,rfl,rfl⟩<;>rw[Z]<;>exact⟨rfl,rfl⟩
   cases e3:an x.op 3 with
   |true=>
    have z:(!b8)=ve x o:=by unfold ve;rw[e3,cT,M.1]
    simp only[go_sem,seval,d,c1,u,j,B,m,aP,aQ,H,c,J,eA,e3,kz,mg];refine fin _ ?_ ?_ ?_ _ z ?_ _ ?_
    any_goals simp only[sN,seval,c1,c2,u]
    intro e4 C;simp only[go_sem,seval,C]
   |false=>
    cases e2':an x.op 2 with
    |false=>
     have z:b8=ve x o:=by unfold ve;rw[e3,e2',cF,cF,M.2]
     simp only[go_sem,seval,d,c1,u,j,B,m,aP,aQ,H,c,J,eA,e3,e2',kz,mg];refine fin _ ?_ ?_ ?_ _ z ?_ _ ?_
     any_goals simp only[sN,seval,c1,c2,u]
     intro e4 C;simp only[go_sem,seval,C]
    |true=>
     rcases O with⟨w,f1,rfl,rfl⟩|⟨f1,rfl,rfl⟩
     ·have z:x.values.contains v7=ve x o:=by unfold ve;rw[e3,e2',cF,cT,f1]
      have q3:=HD ok.vals ok.len v7;simp only[go_sem,seval,d,c1,u,j,B,m,aP,aQ,H,vc,c,J,eA,e3,e2',V,q3,kz,mg];refine fin _ ?_ ?_ ?_ _ z ?_ _ ?_
      any_goals simp only[sN,seval,c1,c2,u]
      intro e4 C;simp only[go_sem,seval,C]
     ·have z:true=ve x o:=by unfold ve;rw[e3,e2',cF,cT,f1]
      simp only[go_sem,seval,d,c1,u,j,B,m,aP,aQ,H,c,J,eA,e3,e2',kz,mg];refine fin _ ?_ ?_ ?_ _ z ?_ _ ?_
      any_goals simp only[sN,seval,c1,c2,u]
      intro e4 C;simp only[go_sem,seval,C]
