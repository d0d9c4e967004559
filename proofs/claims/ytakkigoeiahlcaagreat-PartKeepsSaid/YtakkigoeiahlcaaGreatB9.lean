/- Lemmas for PartKeeps. -/
import Derived.Test.YtakkigoeiahlcaaGreatB4
import Derived.Test.YtakkigoeiahlcaaGreatAg2
set_option linter.all false
open Option renaming some→X,none→Z,bind_eq_some_iff→ak,bind_some→aG,map_eq_some_iff→o6,map_none→n8,map_some→kV
open Bool renaming true→O,false→I,and_eq_true→bg,and_false→kU,and_self→bZ,and_true→wy,false_and→lZ,not_eq_true'→ny,not_true→sO,true_and→jo
open List renaming length→J,all_cons→pZ,all_eq_true→fO,append_assoc→oX,append_nil→jV,cons_append→uH,drop_eq_nil_of_le→E9,drop_zero→kG,drop→eD,ext_getElem→Fb,filterMap_cons→yH,finRange→yI,foldl_cons→AP,getD_eq_getElem?_getD→l8,getElem?_append_left→AQ,getElem?_append_right→sQ,getElem?_eq_getElem→dA,getElem?_eq_some_iff→ie,getElem?_map→ix,getElem?_take→wC,getElem?_zip_eq_some→MI,getElem_mem→AU,getElem_of_mem→Im,head?_drop→AV,length_append→bI,length_cons→bP,length_filter_le→jF,length_map→bh,length_nil→bC,length_range→CA,length_set→qb,length_tail→yJ,length_take→jG,length→oY,map_append→dj,map_congr_left→Ip,map_cons→cZ,map_eq_nil_iff→nX,map_map→l9,mem_append→fJ,mem_cons_of_mem→ig,mem_cons_self→gz,mem_cons→dD,mem_filter→yK,mem_flatMap→uK,mem_map→cy,mem_of_getElem?→cq,mem_range→yL,mem_singleton→kq,nodup_nil→CC,not_mem_nil→nZ,pairwise_append→MM,pairwise_map→yN,range→ii,replicate→gK,take_length→Iu,take_of_length_le→nA,take→eG
open Int renaming toNat_of_nonneg→MG
open Nat renaming beq→aA,ble_eq_true_of_le→bG,ble→aP,blt→bq,eq_of_beq_eq_true→gA,le_refl→aC,le_succ_of_le→co,le_succ→iy,le_trans→dg,lt_irrefl→bJ,lt_succ_self→iA,mod_eq_of_lt→Ff,mod_lt→wN,mul_le_mul→n7,not_lt_zero→AW,reduceAdd→cN,reduceBEq→ct,reduceDiv→eJ,reduceEqDiff→eL,reduceLT→eM,reduceLeDiff→eN,reduceMod→eO,reduceMul→eP,reducePow→eR,reduceSub→eT,zero_add→dS,zero_le→fT
open Option.some renaming injEq→aQ
open Prod.mk renaming injEq→bk
open Go.Proofs.Tryz renaming prog→ag
open Go.Ag.W renaming loopC→aF,rfun→n9
open Go.Ag.WC renaming sound→aM
namespace Go.Proofs.YtakkigoeiahlcaaGreat
open Tryz
open Go.Ag
open Go.Sort (SWO)
variable{α:Type}
def Mj{d:α->α->Int}(k:α->Int×Int)(h:∀x y,d x y<0↔((k x).1<(k y).1\/((k x).1=(k y).1/\(k x).2<(k y).2))):SWO (ltOf d) where
 irrefl x:=by
  simp only[ltOf,decide_eq_false_iff_not,h];omega
 trans x y z h1 h2:=by
  simp only[ltOf,dE,h]at*;omega
 ntrans x y z h1 h2:=by
  simp only[ltOf,decide_eq_false_iff_not,h]at*;omega
def Lr{a b c d:Int}:lR [jO a b,c-d]<0↔(a<b\/(a=b/\c<d)):=by
 rw[Sb];unfold jO;by_cases h1:a<b;simp[aR,aj,h1];by_cases h2:b<a;have:¬a=b:=w_
 simp[aR,aj,h1,h2,this];have:a=b:=w_
 subst this;simp[aR,aj];omega
def HB{a b c d:Int}:lR [a-b,c-d]<0↔(a<b\/(a=b/\c<d)):=by
 rw[Sb];cases h:aj (a-b) 0;have:a-b≠0:=by simpa[aj]using h
 simp only[cF];omega;have:a-b=0:=by simpa[aj]using h
 simp only[cT];omega
def ep{α:Type}(g:α->α->Int)(d:α)(l:List α)(i j:Nat):Int:=g (l.getD i d) (l.getD j d)
def jS{α:Type}(g:α->α->Int)(d:α)(l:List α):List α:=(xX (ep g d l) (J l)).map λi=>l[i]
theorem we(g:α->α->Int)(d:α)(l:List α):(jS g d l).Perm l:=by
 have h:=(Sd (ep g d l) (J l)).map λi=>l[i];have e:(yI (J l)).map (λi=>l[i])=l:=by
  refine Fb (by simp) λi u j=>?_;simp
 rwa [e]at h
def S5(g:α->α->Int)(d:α)(enc:α->aa)(l:List α):Ay (ep g d l) (l.map enc)=(jS g d l).map enc:=by
 unfold Ay jS;rw[l9];have w:(l.map enc).length=J l:=bh ..;rw[show(xX (ep g d l) (l.map enc).length).map (λi=>(l.map enc)[i])=(xX (ep g d l) (J l)).map (enc ∘ λi=>l[i])from ?_];have gen:∀n (u:n=J l) (r:az) (j:J r=n) (h:∀i (y:i<J r) (x:i<J l),r[i]=enc l[i]),(xX (ep g d l) n).map (λi=>r[i.1]'(by rw[j];exact i.2))=(xX (ep g d l) (J l)).map (enc ∘ λi=>l[i]):=by
  intro n u r j h;subst u;refine Ip λi _=>?_;exact h i _ _
 exact gen _ w (l.map enc) rfl λi y x=>by simp
def Mb(g:α->α->Int)(d:α)(l:List α)(u:SWO (ltOf λx y:Fin (J l)=>ep g d l x y)):(jS g d l).Pairwise λa b=>¬g b a<0:=by
 unfold jS;rw[yN];have w:=List.pairwise_mergeSort (le:=λi j:Fin (J l)=> !(ltOf λx y:Fin (J l)=>ep g d l x y) j i) (λa b c A z=>by
  simp only[ny]at*;exact u.ntrans _ _ _ z A) (λa b=>by
  simp only[Bool.or_eq_true,ny];cases h:(ltOf λx y:Fin (J l)=>ep g d l x y) b a;exact .inl rfl;right;cases h':(ltOf λx y:Fin (J l)=>ep g d l x y) a b;rfl
  have:=u.trans _ _ _ h h';rw[u.irrefl]at this;cases this) (yI (J l))
 refine w.imp λ{i j} h=>?_;simp only[ny,ltOf,decide_eq_false_iff_not,ep]at h;simpa[l8]using h
noncomputable def ve{α:Type}(enc:α->aa)(cs:az):Option (List α):=by
 classical exact if h:∃l:List α,cs=aq (l.map enc)then X h.choose else Z
def Oj{enc:α->aa}{cs:az}{l:List α}(h:ve enc cs=X l):cs=aq (l.map enc):=by
 unfold ve at h;split at h;rename_i d;cases h;exact d.choose_spec;cases h
def Jf{enc:α->aa}{k:Nat}(d:∀a,(enc a).cells.length=k)(z:0<k)(hi:∀a b,(enc a).cells=(enc b).cells->a=b)(l:List α):ve enc (aq (l.map enc))=X l:=by
 have j:∃r:List α,aq (l.map enc)=aq (r.map enc):=⟨l,rfl⟩;unfold ve;rw[dif_pos j];have g:∀(l r:List α),aq (l.map enc)=aq (r.map enc)->r=l:=by
  intro l
  induction l with
  |nil=>
   intro r h;rcases r with _|⟨y,r⟩
   rfl
   have:=congrArg oY h;simp only[List.map_nil,cZ,aq,bC,bI,d]at this;omega
  |cons x l w=>
   intro r h;rcases r with _|⟨y,r⟩
   have:=congrArg oY h;simp only[List.map_nil,cZ,aq,bC,bI,d]at this;omega;simp only[cZ,aq]at h;have u:=List.append_inj h (by rw[d,d]);rw[hi _ _ u.1,w r u.2]
 exact congrArg X (g l _ j.choose_spec)
noncomputable def yh{α:Type}(enc:α->aa)(h:α->α->Int)(d:α)(g:List α->Bool)(cs:az):T_:=(ve enc cs).bind λl=>bif g l then X (aq ((jS h d l).map enc))else Z
noncomputable def yi{α:Type}(enc:α->aa)(j:α->α->Int)(d:α)(h:List α->Bool)(k g:Nat):az->UP
 |[.arr k' m 0 len _,.func (.func g') [] []]=>bif aA k' k&&aA g' g then X (X (m,λcs=>su (bif aA (J cs) (len*k)then yh enc j d h cs else Z)))else Z
 |[.Ge,.func (.func g') [] []]=>bif aA g' g then X Z else Z
 |_=>Z
variable{f:Nat}
def aeF{enc:α->aa}{U:α->α->Int}{d:α}{ok:List α->Bool}{k g:Nat}{ρ:Go.Shelf.Ren}(L:SlLaysF0.n6 ag ρ)(hf:ρ.f 6=f)(aE:∀w,(isAgg (ρ.t 24)).run ag w=.ok O w)(zE:∀w,(Go.sizeOf (ρ.t 24)).run ag w=.ok k w)(ef:∀A w,(callFunc f A).run ag w=.ok (.enter f A) w)(eg:∀A w,(callFunc g A).run ag w=.ok (.enter g A) w){sp:Sp}(a5:cW ag g sp)(hk:∀a,(enc a).cells.length=k)(ha:∀a,enc a=.agg (enc a).cells)(a4:0<k)(hz:∀a h,fF h (enc a) (enc a))(a8:∀l,ok l=O->J l<=1000000/\(∀(i j:Nat)(x y:α),l[i]?=X x->l[j]?=X y->sp [enc x,enc y]=X (.int .i64 (U x y)))/\(SWO (ltOf λx y:Fin (J l)=>ep U d l x y))/\(∀x y:Fin (J l),(ltOf λx y:Fin (J l)=>ep U d l x y) x y=I->(ltOf λx y:Fin (J l)=>ep U d l x y) y x=I->x=y)):
 uV f (yi enc U d ok k g):=by
 subst hf;intro A G h w xs wr hx;refine⟨λB=>?_,λn gf cs b0 B hl H=>?_⟩
 ·unfold yi at B
  split at B
  let⟨_,B⟩:=aZ B
  cases B
  ·cases hx with
   |cons p q=>
   cases q with
   |cons q r=>
   cases r;cases p;cases q with
   |func q1 q2=>
   cases q1;cases q2;refine .inr ⟨ef _ _,(AnyF.slices_SortFunc_none L Z 0 _ w).mono ?_⟩;rintro e w' ⟨rfl,rfl⟩;exact⟨_,rfl,G,wr,.refl,.tup .nil⟩
  cases B
 ·unfold yi at B
  split at B
  ·rename_i k' m len a0 g'
   have hb:=(aZ B).1;have hq:=(aZ B).2;clear B;simp only[bg]at hb;have e1:=gA hb.1;have e2:=gA hb.2;subst e1;subst e2;injection hq with hq;injection hq with hq;injection hq with a7 a6
   subst a7;subst a6;have H:=HM H
   let⟨F,H⟩:=aZ H
   have F:=gA F;simp only[yh,ak]at H
   let⟨l,h1,H⟩:=H
   let⟨h2,H⟩:=aZ H
   have H:=(sI H).symm;subst H;have a9:=Oj h1;subst a9;have a3:∀v∈l.map enc,J v.cells=k'/\v=.agg v.cells:=λv hv=>by
    obtain⟨a,_,rfl⟩:=cy.1 hv;exact⟨hk a,ha a⟩
   have a1:J l=len:=by
    rw[nS (λv hv=>(a3 v hv).1),bh]at F;exact Nat.eq_of_mul_eq_mul_right a4 F
   let⟨q1,q2,q3,q4⟩:=a8 l h2
   cases hx with
   |cons p q=>
   cases q with
   |cons q r=>
   cases r;cases q with
   |func u1 u2=>
   cases u1;cases u2;have Y:(l.map enc).length=J l:=bh ..;have hy:∀z,VR G (.arr k' m 0 len a0) z->VR G (.arr k' m 0 (l.map enc).length a0) z:=λz hz=>by rw[Y,a1];exact hz
   have gen:∀n (hn:n=J l),SWO (ltOf λx y:Fin n=>ep U d l x y)/\(∀x y:Fin n,(ltOf λx y:Fin n=>ep U d l x y) x y=I->(ltOf λx y:Fin n=>ep U d l x y) y x=I->x=y):=by
    intro n hn;subst hn;exact⟨q3,q4⟩
   have a2:=λhO=>SY L rfl aE zE ef eg a5 wr (rows:=l.map enc) (us:=l.map enc) hl a3 a4 rfl (λi v u e1 e2=>by
    rw[e1]at e2;cases e2;rw[ix,o6]at e1;obtain⟨a,_,rfl⟩:=e1;exact hz a _) (ep U d l) (λi j u u' e1 e2=>by
    rw[ix,o6]at e1 e2;obtain⟨a,g1,rfl⟩:=e1;obtain⟨b,g2,rfl⟩:=e2;have e:ep U d l i j=U a b:=by
     unfold ep;rw[l8,l8,g1,g2];rfl
    rw[q2 i j a b g1 g2,e]) hO (gen _ Y).2 (by rw[Y];exact q1) (hy _ p)
   rw[S5]at a2;exact a2 (gen _ Y).1
  let⟨_,B⟩:=aZ B
  cases B;cases B
def zi:aa->Option cM
 |.agg [.int .i64 i,.int .i64 a,.int .i64 b,.int .i64 c,.int .i64 d,.int .i64 lx,.int .i64 hx,.int .i64 ly,.int .i64 hy]=>
   bif lx==min a c&&(hx==max a c&&(ly==min b d&&hy==max b d))then X (i,((a,b),(c,d)))else Z
 |_=>Z
variable{v:aa}
def UJ{x:cM}(h:zi v=X x):v=cH x:=by
 unfold zi at h;split at h
 let⟨h1,h⟩:=aZ h
 cases h;simp only[bg,bE]at h1;obtain⟨rfl,rfl,rfl,rfl⟩:=h1;rfl;cases h
def Nr(x:cM):zi (cH x)=X x:=by
 simp only[zi,cH,ji,kN,vn,qH,qC,bS,bZ,cT]
def Bc:aa->Option Mt
 |.agg [.int .i64 a,.int .i64 b,.int .i64 c]=>X (a,b,c)
 |_=>Z
def UM{x:Mt}(h:Bc v=X x):v=gJ x:=by
 unfold Bc at h;split at h;cases h;rfl;cases h
def Nt(x:Mt):Bc (gJ x)=X x:=rfl
def mJ(n:Int):Bool:=decide (0<=n)&&decide (n<=1000000)
theorem Ma{a b:Int}(g:mJ a=O)(d:mJ b=O):IntKind.i64.wrap (a-b)=a-b:=by
 grind [mJ,kj]
def zz(x y:cM):Int:=lR [jO (kN x.2) (kN y.2),x.1-y.1]
def tq(x y:Mt):Int:=lR [x.1-y.1,x.2.1-y.2.1]
def N7:Sp
 |[u,v]=>(zi u).bind λx=>(zi v).bind λy=>bif mJ x.1&&mJ y.1 then X (bu (zz x y))else Z
 |_=>Z
def N9:Sp
 |[u,v]=>(Bc u).bind λx=>(Bc v).bind λy=>bif mJ x.1&&(mJ y.1&&(mJ x.2.1&&mJ y.2.1))then X (bu (tq x y))else Z
 |_=>Z
def TS1:dy:=[(107,pm),(106,vO)]
def Ul:eh TS1:=.cons N5 (.cons ade .nil)
def ajS:cW ag 147 N7:=by
 refine mL Ul λd u h=>?_;unfold N7 at h;split at h;simp only[ak]at h
 let⟨x,h1,y,h2,h⟩:=h
 let⟨h3,h⟩:=aZ h
 simp only[bg]at h3;have h:=sI h;subst h;rw[UJ h1,UJ h2];exact⟨rfl,_,s0,ajT R_ rfl rfl (Ma h3.1 h3.2) (aC _),rfl,1,rfl⟩;cases h
def ajW:cW ag 152 N9:=by
 refine mL Ul λd u h=>?_;unfold N9 at h;split at h;simp only[ak]at h
 let⟨x,h1,y,h2,h⟩:=h
 let⟨h3,h⟩:=aZ h
 simp only[bg]at h3;have h:=sI h;subst h;rw[UM h1,UM h2];exact⟨rfl,_,s0,ajX R_ rfl (Ma h3.1 h3.2.1) (Ma h3.2.2.1 h3.2.2.2) _,rfl,1,rfl⟩;cases h
noncomputable def Hq(l:Tm):Bool:=by classical exact decide (J l<=1000000/\(∀x∈l,mJ x.1=O)/\(l.map (·.1)).Nodup)
abbrev l_:=List Mt
noncomputable def Hr(l:l_):Bool:=by classical exact decide (J l<=1000000/\(∀x∈l,mJ x.1=O/\mJ x.2.1=O)/\(l.map λm=>(m.1,m.2.1)).Nodup)
variable{β:Type}
theorem K4{k:α->β}{l:List α}(h:(l.map k).Nodup){i j:Nat}{x y:α}(hi:l[i]?=X x)(d:l[j]?=X y)(e:k x=k y):i=j:=by
 have u:(l.map k)[i]?=X (k x):=by rw[ix,hi];rfl
 have g:(l.map k)[j]?=X (k x):=by rw[ix,d,e];rfl
 grind [List.getElem?_inj]
def Dv{l:List α}{d:α}(i:Fin (J l)):l.getD i d=l[i]:=by
 rw[l8];simp
noncomputable def SZ:=yi cH zz (0,((0,0),(0,0))) Hq 9 147
noncomputable def S4:=yi gJ tq (0,0,0) Hr 3 152
def aDe:uV 146 SZ:=by
 refine aeF Tryz.sortF304 rfl Tryz.isAgg248 Tryz.sizeOf248 (Go.Proofs.enters_of func146 k_ rfl) (Go.Proofs.enters_of func147 k_ rfl) ajS (λ_=>rfl) (λ_=>rfl) d_ (λa h=>⟨2,rfl⟩) λl d=>?_;simp only[Hq,dE]at d;refine⟨d.1,λi j x y z w=>?_,?_,?_⟩;have u:=d.2.1 x (cq z);have g:=d.2.1 y (cq w);simp only[aac,N7,Nr,u,g];rfl;exact Mj (λi:Fin (J l)=>(kN (l.getD i (0,((0,0),(0,0)))).2,(l.getD i (0,((0,0),(0,0)))).1)) λx y=>Lr;intro x y u g;simp only[ltOf,decide_eq_false_iff_not,ep,zz,Lr,Dv]at u g;exact Fin.ext (K4 d.2.2 (i:=x) (j:=y) (x:=l[x]) (y:=l[y]) (by simp) (by simp) w_)
def aDi:uV 151 S4:=by
 refine aeF Tryz.sortF309 rfl Tryz.isAgg191 Tryz.sizeOf191 (Go.Proofs.enters_of func151 k_ rfl) (Go.Proofs.enters_of func152 k_ rfl) ajW (λ_=>rfl) (λ_=>rfl) d_ (λa h=>⟨2,rfl⟩) λl d=>?_;simp only[Hr,dE]at d;refine⟨d.1,λi j x y z w=>?_,?_,?_⟩;have u:=d.2.1 x (cq z);have g:=d.2.1 y (cq w);simp only[aac,N9,Nt,u.1,u.2,g.1,g.2];rfl;exact Mj (λi:Fin (J l)=>((l.getD i (0,0,0)).1,(l.getD i (0,0,0)).2.1)) λx y=>HB;intro x y u g;simp only[ltOf,decide_eq_false_iff_not,ep,tq,HB,Dv]at u g;exact Fin.ext (K4 d.2.2 (i:=x) (j:=y) (x:=l[x]) (y:=l[y]) (by simp) (by simp) (by
  simp only[bk];omega))
abbrev qp:=List (Nat×(aax))
def Mx(f:Nat):qp->Option (az->UP)
 |[]=>Z
 |(k,v)::l=>bif aA k f then X v else Mx f l
def rk(t:qp):Prop:=∀p∈t,uV p.1 p.2
def rk.nil:rk []:=λ_ h=>by cases h
def rk.cons{sp:aax}{t:qp}(h:uV f sp)(g:rk t):rk ((f,sp)::t):=by
 intro p d;rcases dD.1 d with rfl|d
 exact h;exact g p d
def afs{f:Nat}{sp:aax}:∀{t:qp},Mx f t=X sp->(f,sp)∈t
 |[],h=>by cases h
 |(k,v)::l,h=>by
  simp only[Mx]at h;cases hk:aA k f;rw[hk]at h;exact ig _ (afs h)
  simp_all
noncomputable def QW(T:dy)(W:qp)(ch:dd):ay:= {P:=ag,hint:=DB,spec:=λf=>EW f T,ch:=ch,kmax:=λ_=>1000000,specW:=λf=>Mx f W }
instance(T:dy)(W:qp)(ch:dd):Std (QW T W ch):=⟨rfl,rfl,λ_=>rfl⟩
variable{T:dy}
theorem W7(j:eh T){W:qp}(g:rk W):Ag.AL (QW T W λ_=>0) where
 mixed:=RH
 spec f sp hsp args v hv G hp w xs wr hx:=j _ (Mr hsp) args v hv G hp w xs wr hx
 specH f sp h args v G hp w xs wr hx hv:=by cases h
 specW f sp h:=g _ (afs h)
 names f fn d:=by
  have d:ag.funcs[f]?=X fn:=d
  grind [RN]
def iQ(hT:eh T){W:qp}(hW:rk W){f:FuncId}{args:az}{u:aa}(Y:dR args=O)(U:∀d,∃v s',ai (QW T W d) f (di args) s0 v s'/\fF s'.heap v u)(G:Gh)(h:aB aH)(w:World)(xs:gy)(wr:WR G h w)(H:bL G args xs):
 kI ag f ⟨xs⟩ w λy F=>∃A,WR A h F/\ce G h w A h F 0 0/\VR A u y:=by
 let⟨N,hN⟩:=Wn (B:=1000000) w_ (λd n=>∃v s',(bX (QW T W d) n).call f (di args) [] s0=X (v,s')/\fF s'.heap v u)
  (λd n m x ⟨v,s',j,g⟩=>⟨v,s',(mD (QW T W d) x).call _ _ _ _ _ j,g⟩)
  (λd n ⟨v,s',j,g⟩=>⟨s'.ci,λz hc=>⟨v,s',(se (QW T W λ_=>0) n).call f _ [] d s0 v s' j z hc,g⟩⟩)
  (λd _=>let⟨v,s',⟨n,j⟩,g⟩:=U d;⟨n,v,s',j,g⟩)
 exact Ta (Q:=QW T W λ_=>0) (n:=N) (W7 hT hW) (λ_=>(by decide:0<1000000)) Y (λd hi=>hN d hi) G h w xs wr H
def H0(A:eh T){W:qp}(z:rk W){sp:Sp}(h:∀args u,sp args=X u->pures args=O/\∀B,∃v s',ai (QW T W B) f args s0 v s'/\fF s'.heap v u):cW ag f sp:=by
 intro args x j G y w xs d g
 let⟨hp,hr⟩:=h args x j
 exact iQ A z (args:=args) (AB hp) (by rw[kF hp];exact hr) G y w xs d g
def jQ{α β:Type}(F:α->α->Option β):List α->List β
 |[]=>[]
 |a::l=>l.filterMap (F a)++jQ F l
theorem adr{α β:Type}{F:α->α->Option β}(d:∀a b,F a b=F b a)(a:α):∀l:List α,(jQ F (l++[a])).Perm (jQ F l++l.filterMap (F a))
 |[]=>by simp[jQ]
 |b::l=>by
  have j:=adr d a l;rw[uH,jQ,jQ,List.filterMap_append,yH (a:=b),d a b];have e:[a].filterMap (F b)=(F b a).toList:=by
   cases h:F b a<;>simp[h]
  rw[e];have g:∀o:Option β,(l.filterMap (F b)++o.toList++jQ F (l++[a])).Perm (l.filterMap (F b)++jQ F l++(o.toList++l.filterMap (F a))):=λo=>by
   simp only[oX];refine List.Perm.append_left _ ((List.Perm.append_left _ j).trans ?_)
   grind [List.perm_append_comm]
  grind
theorem az4{F:α->α->Option β}(g:∀a b,F a b=F b a){l l':List α}(h:l.Perm l'):(jQ F l).Perm (jQ F l'):=by
 induction h with
 |nil=>exact .refl _
 |cons a h d=>exact(h.filterMap _).append d
 |swap a b l=>
  rw[jQ,jQ,jQ,jQ,yH,yH,g a b];rcases F b a with _|x
  grind [List.Perm.append_right,List.perm_append_comm]
  simp only[];rw[uH,uH,<-oX,<-oX];exact(List.Perm.append_right _ List.perm_append_comm).cons _
 |trans _ _ u j=>exact u.trans j
def yj{α β:Type}(keep:α->α->Bool)(G:α->α->Option β):List α->List α->List β->List β
 |[],_,out=>out
 |a::l,act,out=>yj keep G l (act.filter (keep a)++[a]) (out++(act.filter (keep a)).filterMap (G a))
theorem Jl{α β:Type}{p:α->Bool}{f:α->Option β}(h:∀x,p x=I->f x=Z):∀l:List α,(l.filter p).filterMap f=l.filterMap f
 |[]=>rfl
 |x::l=>by
  cases hp:p x;rw[List.filter_cons_of_neg (by simp[hp]),yH,h x hp,Jl h l];rw[List.filter_cons_of_pos hp,yH,yH,Jl h l]
theorem aeQ{α β:Type}{keep:α->α->Bool}{F:α->α->Option β}{low:α->Int}(j:∀a b,F a b=F b a)(h:∀a b c,keep a b=I->low a<=low c->F c b=Z):
 ∀(l P act:List α)(out:List β),(P++l).Pairwise (λa b=>low a<=low b)->(∀c,(∀x∈P,low x<=low c)->P.filterMap (F c)=act.filterMap (F c))->out.Perm (jQ F P)->(yj keep F l act out).Perm (jQ F (P++l))
 |[],P,act,out,_,_,ho=>by simpa[yj]using ho
 |a::l,P,act,out,hs,ha,ho=>by
  have e:P++a::l=(P++[a])++l:=by simp
  have g:∀x∈P,low x<=low a:=λx d=>(MM.1 hs).2.2 x d a gz;rw[yj,e];rw[e]at hs;refine aeQ j h l (P++[a]) _ _ hs ?_ ?_
  grind [Jl]
  refine List.Perm.trans ?_ (adr j a P).symm;rw[Jl λx d=>h a x a d (Int.le_refl _),<-ha a g];exact ho.append_right _
def aDQ{keep:α->α->Bool}{F:α->α->Option β}{low:α->Int}(d:∀a b,F a b=F b a)(j:∀a b c,keep a b=I->low a<=low c->F c b=Z){l r:List α}(g:l.Pairwise (λa b=>low a<=low b))(h:l.Perm r):(yj keep F l [] []).Perm (jQ F r):=
 (aeQ d j l [] [] [] g (λ_ _=>rfl) (.refl _)).trans (az4 d h)
def fM(a b:cM):Option Mt:=bif aj (li a.2 b.2) 0 then Z else X (min a.1 b.1,max a.1 b.1,li a.2 b.2)
def alh(a b:cM):fM a b=fM b a:=by
 unfold fM;rw[awT a.2 b.2,Int.min_comm,Int.max_comm]
theorem Wf{a b:cM}(h:¬boxes a.2 b.2):fM a b=Z:=by
 grind [fM,aj,awX]
def jY:Nat->wj->Tm
 |_,[]=>[]
 |i,s::l=>(((i:Nat):Int),s)::jY (i+1) l
theorem xD:∀(l:wj)(i:Nat),(jY i l).length=J l
 |[],_=>rfl
 |_::l,i=>by rw[jY,bP,xD l,bP]
theorem BC:∀{l:wj}{i:Nat}{x:cM},x∈jY i l->(i:Int)<=x.1/\x.1<(i+J l:Nat)
 |[],_,_,h=>by cases h
 |s::l,i,x,h=>by
  rcases dD.1 h with rfl|h
  grind
  have:=BC h;simp only[bP];omega
theorem DE:∀(l:wj)(i:Nat),(jY i l).Pairwise λa b=>a.1<b.1
 |[],_=>.nil
 |s::l,i=>.cons (λx d=>by have:=BC d;omega) (DE l (i+1))
def gF(l:wj):l_:=jQ fM (jY 0 l)
def zY(a b:Mt):Prop:=a.1<b.1\/(a.1=b.1/\a.2.1<b.2.1)
theorem Dl{a b:cM}{m:Mt}(h:fM a b=X m):m.1=min a.1 b.1/\m.2.1=max a.1 b.1:=by
 grind [fM]
theorem Lw{α β:Type}{F:α->α->Option β}{m:β}:∀{l:List α},m∈jQ F l->∃x∈l,∃y∈l,F x y=X m
 |[],h=>by cases h
 |a::l,h=>by
  rcases fJ.1 h with h|h
  grind
  let⟨x,h1,y,h2,h3⟩:=Lw h
  grind
def HD{α β:Type}{F:α->α->Option β}:∀l:List α,(jQ F l).length<=J l*J l
 |[]=>by simp[jQ]
 |a::l=>by
  have g:=List.length_filterMap_le (F a) l;have d:=HD (F:=F) l;rw[jQ,bI,bP,Nat.add_mul,Nat.mul_add];omega
theorem HE:∀{l:Tm},l.Pairwise (λa b=>a.1<b.1)->(jQ fM l).Pairwise zY
 |[],_=>.nil
 |a::l,.cons h1 h2=>by
  rw[jQ,MM];refine⟨?_,HE h2,λx g y d=>?_⟩;rw[List.pairwise_filterMap];refine(List.Pairwise.and_mem.1 h2).imp ?_;rintro x y ⟨g,d,h⟩ b w c j;have B:=Dl w;have A:=Dl j
  grind [zY]
  let⟨z,hz,hzx⟩:=List.mem_filterMap.1 g
  let⟨u,hu,v,hv,huv⟩:=Lw d
  have B:=Dl hzx;have A:=Dl huv
  grind [zY]
def d9:cM:=(0,((0,0),(0,0)))
def d3:Mt:=(0,0,0)
def aDS(l:Tm):SWO (ltOf λx y:Fin (J l)=>ep zz d9 l x y):=Mj (λi:Fin (J l)=>(kN (l.getD i d9).2,(l.getD i d9).1)) λ_ _=>Lr
def aDT(l:l_):SWO (ltOf λx y:Fin (J l)=>ep tq d3 l x y):=Mj (λi:Fin (J l)=>((l.getD i d3).1,(l.getD i d3).2.1)) λ_ _=>HB
def Az(l:wj):Tm:=jS zz d9 (jY 0 l)
def tC(l:wj):l_:=yj (λa x=> !iY a x) fM (Az l) [] []
def Tc(l:wj):(Az l).Perm (jY 0 l):=we _ _ _
def Ds(l:wj):(tC l).Perm (gF l):=by
 refine aDQ (low:=λa:cM=>kN a.2) alh ?_ ?_ (Tc l);intro a b c d h;refine Wf λg=>?_;have d:vn b.2<kN a.2:=by simpa[iY,aR]using d
 have:=g.1.1;simp only[kN,vn]at*;omega;refine(Mb zz d9 _ (aDS _)).imp ?_
 simp_all [zz,Lr]
variable{l:wj}
theorem art(h:J l<=1000):Hq (jY 0 l)=O:=by
 simp only[Hq,dE];refine⟨by rw[xD];omega,λx d=>?_,?_⟩
 have:=BC d;simp only[mJ,bg,dE];omega
 grind [DE]
theorem amX(h:J l<=1000):Hr (tC l)=O:=by
 have d:=Ds l;simp only[Hr,dE];refine⟨?_,λx g=>?_,?_⟩;rw[d.length_eq]
 have:=HD (F:=fM) (jY 0 l);rw[xD]at this;have:J l*J l<=1000*1000:=n7 h h;unfold gF;omega
 let⟨a,ha,b,hb,hab⟩:=Lw (d.mem_iff.1 g)
 have e:=Dl hab;have u:=BC ha;have j:=BC hb;simp only[mJ,bg,dE];omega;rw[(d.map _).nodup_iff,List.nodup_iff_pairwise_ne,yN];refine(HE (DE l 0)).imp λh=>?_
 grind [zY]
theorem amY(l:wj):jS tq d3 (tC l)=gF l:=by
 refine List.Perm.eq_of_pairwise (le:=λa b=>¬tq b a<0) (λa b d u j g=>?_) (Mb tq d3 _ (aDT _)) ?_ ((we _ _ _).trans (Ds l));have d:=((we tq d3 (tC l)).trans (Ds l)).mem_iff.1 d;simp only[tq,HB]at j g
 grind [gF,zY,HE,DE,Im,List.pairwise_iff_getElem]
 refine(HE (DE l 0)).imp λh=>?_;simp only[zY]at h;simp only[tq,HB];omega
end Go.Proofs.YtakkigoeiahlcaaGreat
namespace Go.Proofs.YtakkigoeiahlcaaGreat
open Tryz
open Go.Ag
variable{Q:ay}[Std Q]
theorem Yc:∀(l:wj)(i:Nat)(s:bF),jY i (l++[s])=jY i l++[(((i+J l:Nat):Int),s)]
 |[],i,s=>rfl
 |x::l,i,s=>by
  rw[uH,jY,Yc l,jY,bP,show i+1+J l=i+(J l+1)from w_];rfl
def Cb(d:wj)(n:Nat):Tm:=jY 0 d++gK n Cu
theorem aB0(d:wj)(s:bF)(n:Nat):(Cb d (n+1)).set (J d) (((J d:Nat):Int),s)=Cb (d++[s]) n:=by
 grind [Cb,List.set_append_right,xD,Yc]
def aBZ(d:wj)(n:Nat):(Cb d n).length=J d+n:=by
 unfold Cb;rw[bI,xD,List.length_replicate]
def ayc:cW ag 145 BQ:=by
 refine mL (T:=[]) .nil λd u h=>?_;unfold BQ at h;split at h;have h:=sI h;subst h;exact⟨rfl,_,s0,ayh R_ _ _ _,rfl,2,rfl⟩;cases h
def Bf:Sp
 |[.agg [.int .i64 a,.int .i64 b],.agg [.int .i64 c,.int .i64 d]]=>X (.bool (bT a d&&bT c b))
 |_=>Z
def ahZ:cW ag 150 Bf:=by
 refine mL (T:=[]) .nil λg u h=>?_;unfold Bf at h;split at h;rename_i a b c d;have h:=sI h;subst h;exact⟨rfl,_,s0,ah1 R_ (a,b) (c,d) _,rfl,1,rfl⟩;cases h
variable{m:Nat}{s s':St}
def du.putT(h:du m s s')(o:sh):du m s (s'.GE (s'.top.put m o)):=
 ⟨λk d=>by rw[j6,aO,bN.2 d];exact h.old k d,h.aL,h.ci,nL h.mw (aC _)⟩
variable{K:hP}{segs:wj}{sv:aa}
theorem ars(x:Q.spec 145=X BQ)(hs:au 4 bV sv segs)(U:J segs<=1000){s0:St}(hx:∀e lc s,ac e 4=.arr 9 m 0 (J segs) (J segs)->du m s0 s->s.get [] m=X (.cells (aq ((jY 0 segs).map cH)))->K (.exit 0) ⟨e,102,lc⟩ s):
 ∀(rest d:wj)(e:ax)(lc:Ag.Loc)(s:St),segs=d++rest->du m s0 s->s.get [] m=X (.cells (aq ((Cb d (J rest)).map cH)))->
  ac e 4=.arr 9 m 0 (J segs) (J segs)->ac e 20=sv->ac e 21=an (J segs)->ac e 22=an (J d)->W Q 98 (.loop Rb) ⟨e,102,lc⟩ s K:=by
 intro rest
 induction rest with
 |nil=>
  intro d e lc s y F H G j h w;have A:=cL y;refine aF ?_;simp only[go_sem,seval,Rb,j,h,w,A,bJ]
  grind [fA,Cb]
 |cons g rest ih=>
  intro d e lc s y F H G j h w
  let⟨hlt,hat⟩:=cR y
  have B:=λlc k=>hs.at Aw.2.2.1 hat lc k;have z:=cm (n:=J d) w_;have q1:BQ [ah g.1.1,ah g.2.1]=X (aX (kN g,vn g)):=rfl;have Y:BQ [ah g.1.2,ah g.2.2]=X (aX (qH g,qC g)):=rfl;have u:=Yb (s:=s.top) H (i:=J d) (by rw[aBZ,bP];omega) ((((J d:Nat):Int)),g);rw[bP,aB0]at u;simp only[cH,ji,ae5]at u;refine aF ?_;simp only[go_sem,seval,Rb,G,j,h,w,hlt,B,z,bV,x,q1,Y,aX,dh,F.mw,u,sB];refine ih (d++[g]) _ _ _ (db y) (F.putT _) (by rw[j6,aO,bS];rfl) ?_ ?_ ?_ ?_
  all_goals simp only[aag,fA,ct,cT,cF,G,j,h]
def gh:aa->pX
 |.arr _ n _ _ _=>X n
 |_=>Z
def fW(sz:Nat)(s:St)(v:aa)(xs:az):Prop:=(v=.Ge/\xs=[])\/(xs≠[]/\∃k,v=.arr sz k 0 (J xs) (J xs)/\s.get [] k=X (.cells (aq xs))/\k<s.aL)
variable{xs:az}{sz:Nat}{v:aa}
def fW.gt(h:fW sz s v xs):v.gt=O:=by
 rcases h with⟨rfl,_⟩|⟨_,k,rfl,_⟩<;>rfl
theorem fW.cells(h:fW sz s v xs):v.cells=[v]:=by
 rcases h with⟨rfl,_⟩|⟨_,k,rfl,_⟩<;>rfl
def fW.mono(h:fW sz s v xs)(d:∀n,gh v=X n->s'.get [] n=s.get [] n)(u:s.aL<=s'.aL):fW sz s' v xs:=by
 rcases h with h|⟨j,k,rfl,g,w⟩
 exact .inl h;exact .inr ⟨j,k,rfl,by rw[d k rfl];exact g,w_⟩
def fW.lt(h:fW sz s v xs):∀n,gh v=X n->n<s.aL:=by
 intro n d;rcases h with⟨rfl,_⟩|⟨_,k,rfl,_,h⟩
 cases d;cases d;exact h
def CO{t:TypeId}{E:EI}(H:js ag t=X E)(w:E.n=sz)(hb:E.b<=88)(x:aa)(j:∀y∈xs,J y.cells=sz)(G:J xs<1000000)(F:s.gE<=s.aL)(h:fW sz s v xs):
 ∃d,cJ ag [] t v (.list sz [x] .GT) O s=X (.arr sz s.aL 0 (J xs+1) (J xs+1),d)/\fW sz d (.arr sz s.aL 0 (J xs+1) (J xs+1)) (xs++[x])/\d.aL=s.aL+1/\d.ci=s.ci/\d.gE<=d.aL/\(∀n,n<s.aL->gh v≠X n->d.get [] n=s.get [] n):=by
 subst w;have g:eB (J xs+1) E.b=O:=ui w_ hb;have Y:(xs++[x]).length=J xs+1:=by simp
 rcases h with⟨rfl,rfl⟩|⟨_,k,rfl,hk,U⟩
 refine⟨s.new (.cells (aq [x])),?_,.inr ⟨by simp,s.aL,rfl,?_,iA _⟩,rfl,rfl,co F,λn w _=>?_⟩;have g:eB 1 E.b=O:=g;simp only[aaa,cJ,H,aG,cU,fy,iB,bP,bC,dS,g];rw[ei,bS];rfl;rw[ei,bN.2 (by omega:n≠s.aL)];rfl;have B:(aq xs).length=J xs*E.n:=OJ j;have A:aq [x]=x.cells:=by show x.cells++aq []=_;simp[aq]
 refine⟨(s.put k Z).new (.cells (aq (xs++[x]))),?_,.inr ⟨by simp,s.aL,by rw[Y],?_,iA _⟩,rfl,rfl,?_,λn w u=>?_⟩;simp only[aaa,cJ,H,aG,cU,fy,hk,bP,bC,dS,g,B,bZ,kG,A,mY];rw[ei,kB,bS];rfl;exact co (cG s k Z F);have z:n≠k:=λe=>u (by rw[e];rfl);rw[ei,kB,bN.2 (by omega:n≠s.aL),cF,aO,bN.2 z];rfl
def rh(s:St)(av:aa)(act:Tm):Prop:=(av=.Ge/\act=[])\/∃(k:Nat)(R:Tm),av=.arr 9 k 0 (J act) (J R)/\s.get [] k=X (.cells (aq (R.map cH)))/\R.take (J act)=act/\J act<=J R/\J R<=1000/\k<s.aL
variable{xs:Tm}
def rh.gt(h:rh s v xs):v.gt=O:=by
 rcases h with⟨rfl,_⟩|⟨k,R,rfl,_⟩<;>rfl
def rh.mono(h:rh s v xs)(d:∀n,gh v=X n->s'.get [] n=s.get [] n)(x:s.aL<=s'.aL):rh s' v xs:=by
 rcases h with h|⟨k,R,rfl,w,u,j,g,y⟩
 exact .inl h;exact .inr ⟨k,R,rfl,by rw[d k rfl];exact w,u,j,g,w_⟩
def rh.lt(h:rh s v xs):∀n,gh v=X n->n<s.aL:=by
 intro n d;rcases h with⟨rfl,_⟩|⟨k,R,rfl,_,_,_,_,h⟩
 cases d;cases d;exact h
def rh.len(h:rh s v xs)(mk:aI)(s':St):fN ag mk 243 v s'=X (an (J xs)):=by
 rcases h with⟨rfl,rfl⟩|⟨k,R,rfl,_⟩
 exact v8.2.2.2.2.1 _ _;exact G5 _ _ _ _ _ _ _
variable{i:Nat}{b:cM}
def rh.at(h:rh s v xs)(hi:xs[i]?=X b):∃n o,(∀lc,gm ag lc 243 v (an i)=X (.ptr n o))/\zV ag 248 o (s.get [] n)=X (cH b):=by
 have d:i<J xs:=(ie.1 hi).1;rcases h with⟨rfl,rfl⟩|⟨k,R,rfl,w,u,x,_⟩
 cases hi;have j:R[i]?=X b:=by rw[<-u,wC,iP d]at hi;exact hi
 refine⟨k,0+i*9,λlc=>?_,by rw[dS];exact JQ w j⟩;have g:bq i (J xs)=O:=bG d;rw[v8.2.2.2.1];simp only[aaa,nP,aG,g,bZ]
structure nC (s:St) (m:Nat) (its act:Tm) (out:l_) (av ov:aa):Prop where
 it:s.get [] m=some (.cells (aq (its.map cH)))
 mlt:m<s.aL
 act:rh s av act
 out:fW 3 s ov (out.map gJ)
 d1:gh av≠some m
 d2:gh ov≠some m
 d3:∀n,gh av=some n->gh ov≠some n
 mw:s.gE<=s.aL
variable{out:l_}{act its:Tm}{av ov:aa}
def nC.app(h:nC s m its act out av ov)(j:J out<1000000)(x:Mt):∃g d,cJ ag [] 187 ov (.list 3 [gJ x] .GT) O s=X (d,g)/\nC g m its act (out++[x]) av d/\(∀n,n<s.aL->gh ov≠X n->g.get [] n=s.get [] n)/\g.aL=s.aL+1/\gh d=X s.aL/\d.gt=O:=by
 let⟨g,h1,h2,h3,h4,h5,h6⟩:=CO (t:=187) EF.1 rfl d_ (gJ x) (λy w=>by obtain⟨a,_,rfl⟩:=cy.1 w;rfl) (by rw[bh];exact j) h.mw h.out
 refine⟨g,_,h1,⟨(h6 m h.mlt h.d2).trans h.it,by have:=h.mlt;omega,h.act.mono (λn u=>h6 n (h.act.lt n u) (h.d3 n u)) w_,by rw[dj];exact h2,h.d1,λe=>?_,λn u e=>?_,h5⟩,h6,h3,rfl,rfl⟩;injection e with e
 have:=h.mlt;omega;injection e with e
 have:=h.act.lt n u;omega
def qM(s:bF):Bool:=bO s.1&&bO s.2
variable{a:cM}
def ali(h:(bT (qH a.2) (qC b.2)&&bT (qH b.2) (qC a.2))=I):fM a b=Z:=by
 refine Wf λd=>?_
 let⟨h1,h2⟩:=d.2
 have j:bT (qH a.2) (qC b.2)=O:=dQ h1;have g:bT (qH b.2) (qC a.2)=O:=dQ h2;rw[j,g]at h;cases h
def ara(Y:Q.spec 150=X Bf)(a7:Q.spec 99=X kQ){nb n52 n51:Nat}(na:qM a.2=O)(b8:∀x∈act,qM x.2=O)(e0:J act<=1000)(e1:gh av≠X nb)(r:l_)(hr:J r<=1000000)(hx:∀e lc s ov,ac e 4=.arr 9 m 0 (J its) (J its)->ac e 50=.arr 9 m 0 (J its) (J its)->ac e 51=an n51->ac e 52=an n52->ac e 8=av->ac e 10=.ptr nb 0->ac e 7=ov->nC s m its act r av ov->s.get [] nb=X (.cells (ji a))->nb<s.aL->gh ov≠X nb->K (.exit 4) ⟨e,102,lc⟩ s):
 ∀(rest h:Tm)(out:l_)(ov:aa)(e:ax)(lc:Ag.Loc)(s:St),act=h++rest->r=out++rest.filterMap (fM a)->nC s m its act out av ov->s.get [] nb=X (.cells (ji a))->nb<s.aL->gh ov≠X nb->
  ac e 4=.arr 9 m 0 (J its) (J its)->ac e 50=.arr 9 m 0 (J its) (J its)->ac e 51=an n51->ac e 52=an n52->ac e 8=av->ac e 10=.ptr nb 0->ac e 7=ov->
  ac e 59=av->ac e 60=an (J act)->ac e 61=an (J h)->W Q 98 (.loop DN) ⟨e,102,lc⟩ s K:=by
 intro rest
 induction rest with
 |nil=>
  intro h out ov e lc s h1 z a8 hb B A h4 U H G h8 g h7 u d F;have d0:=cL h1;have c0:r=out:=by rw[z];simp
  refine aF ?_;simp only[go_sem,seval,DN,d,F,d0,bJ];rw[c0]at hx;exact hx _ _ _ ov (by simp only[sN,seval,h4]) (by simp only[sN,seval,U]) (by simp only[sN,seval,H]) (by simp only[sN,seval,G]) (by simp only[sN,seval,h8]) (by simp only[sN,seval,g]) (by simp only[sN,seval,h7]) a8 hb B A
 |cons b rest ih=>
  intro h out ov e lc s h1 z a8 hb B A h4 U H G h8 g h7 u d F
  let⟨hlt,hat⟩:=cR h1
  let⟨n,o,hia,hld⟩:=a8.act.at hat
  have b1:=cm (n:=J h) w_;have b6:=a8.act.gt;have a9:qM b.2=O:=b8 b (by rw[h1];simp);simp only[qM,bg]at na a9;have q1:Bf [.agg [ah (qH a.2),ah (qC a.2)],.agg [ah (qH b.2),ah (qC b.2)]]=X (.bool (bT (qH a.2) (qC b.2)&&bT (qH b.2) (qC a.2))):=rfl;have q2:=Rz na.1 na.2 a9.1 a9.2;simp only[bV,bu]at q2;simp only[cH,ji]at hld hb;have next:∀(w:l_)(j:aa)(y:ax)(b0:Ag.Loc)(s':St),r=w++rest.filterMap (fM a)->nC s' m its act w av j->s'.get [] nb=X (.cells (ji a))->nb<s'.aL->gh j≠X nb->
   ac y 4=.arr 9 m 0 (J its) (J its)->ac y 50=.arr 9 m 0 (J its) (J its)->ac y 51=an n51->ac y 52=an n52->ac y 8=av->ac y 10=.ptr nb 0->ac y 7=j->
   ac y 59=av->ac y 60=an (J act)->ac y 61=ah ((J h+1:Nat))->W Q 98 (.loop DN) ⟨y,102,b0⟩ s' K:=λw j y b0 s' c1 c2 c3 c4 c5 c6 c7 c8 c9 d7 d6 d5 d4 d2 d1=>
    ih (h++[b]) w j y b0 s' (by rw[h1];simp) c1 c2 c3 c4 c5 c6 c7 c8 c9 d7 d6 d5 d4 d2 (by rw[d1,bI];rfl)
  refine aF ?_;cases hy:(bT (qH a.2) (qC b.2)&&bT (qH b.2) (qC a.2))with
  |false=>
   rw[hy]at q1;have hf:fM a b=Z:=ali hy;simp only[go_sem,seval,DN,g,u,d,F,hlt,hia,hld,hb,b6,b1,Y,q1];refine next out ov _ _ _ (by rw[z,yH,hf]) a8 hb B A ?_ ?_ ?_ ?_ ?_ ?_ ?_ ?_ ?_ ?_<;>simp only[sN,seval,h4,U,H,G,h8,g,h7,u,d]
  |true=>
   rw[hy]at q1;cases hk:aj (li a.2 b.2) 0 with
   |true=>
    have hf:fM a b=Z:=by unfold fM;rw[hk];rfl
    simp only[go_sem,seval,DN,g,u,d,F,hlt,hia,hld,hb,b6,b1,Y,a7,q1,q2,hk];refine next out ov _ _ _ (by rw[z,yH,hf]) a8 hb B A ?_ ?_ ?_ ?_ ?_ ?_ ?_ ?_ ?_ ?_<;>simp only[sN,seval,h4,U,H,G,h8,g,h7,u,d]
   |false=>
    have hf:fM a b=X (min a.1 b.1,max a.1 b.1,li a.2 b.2):=by unfold fM;rw[hk];rfl
    have a0:r=(out++[(min a.1 b.1,max a.1 b.1,li a.2 b.2)])++rest.filterMap (fM a):=by rw[z,yH,hf];simp
    have ho:J out<1000000:=by
     have:J out+1<=J r:=by rw[a0,bI,bI];simp
     omega
    let⟨s1,j,a1,a2,a3,a4,a5,a6⟩:=a8.app ho (min a.1 b.1,max a.1 b.1,li a.2 b.2)
    simp only[gJ]at a1;have ko:=a8.out.gt;simp only[go_sem,seval,DN,h7,g,u,d,F,hlt,hia,hld,hb,b6,ko,a6,b1,Y,a7,q1,q2,hk,rF,tf,a1,sB];refine next _ j _ _ _ a0 a2 ((a3 nb B A).trans hb) w_ (λe=>by rw[a5]at e;injection e with e;omega) ?_ ?_ ?_ ?_ ?_ ?_ ?_ ?_ ?_ ?_
    all_goals simp only[sN,seval,h4,U,H,G,h8,g,h7,u,d]
def aC2(mk:aI)(e:ax)(s:St):eC ag mk 243 .Ge Z Z Z e s=X .Ge:=k_
def nC.mono(h:nC s m its act out av ov)(g:∀n,n<s.aL->s'.get [] n=s.get [] n)(d:s.aL<=s'.aL)(j:s'.gE<=s'.aL):nC s' m its act out av ov:=
 ⟨(g m h.mlt).trans h.it,by have:=h.mlt;omega,h.act.mono (λn d=>g n (h.act.lt n d)) d,h.out.mono (λn d=>g n (h.out.lt n d)) d,h.d1,h.d2,h.d3,j⟩
def nC.appA(h:nC s m its act out av ov)(a0:J act<1000)(a:cM):∃Y w,cJ ag [] 243 av (.list 9 [cH a] .GT) O s=X (w,Y)/\nC Y m its (act++[a]) out w ov/\w.gt=O:=by
 have y:eB (J act+1) 72=O:=ui w_ d_;have u:=h.mlt;have g:(act++[a]).length=J act+1:=by simp
 rcases h.act with⟨rfl,rfl⟩|⟨k,R,rfl,h1,h2,h3,h4,h5⟩
 refine⟨s.new (.cells (aq [cH a])),.arr 9 s.aL 0 1 1,?_,⟨?_,Nat.lt_succ_of_lt u,.inr ⟨s.aL,[a],rfl,?_,rfl,aC _,by simp,iA _⟩,h.out.mono (λn d=>?_) (iy _),λe=>?_,h.d2,λn d e=>?_,co h.mw⟩,rfl⟩;have y:eB 1 72=O:=y;simp only[aaa,cJ,v8,aG,cU,fy,iB,bP,bC,dS,y];rw[ei,bN.2 (by omega:m≠s.aL)];exact h.it;rw[ei,bS];rfl
 have:=h.out.lt n d;rw[ei,bN.2 (by omega:n≠s.aL)];rfl;injection e with e;omega
 injection d with d
 have:=h.out.lt n e;omega;have F:(aq (R.map cH)).length=J R*9:=by rw[nS xE];simp
 have B:aq [cH a]=(cH a).cells:=by show(cH a).cells++aq []=_;simp[aq]
 have A:m≠k:=λe=>h.d1 (by rw[e];rfl);by_cases hfull:J act=J R;have U:R=act:=by rw[<-h2,hfull,Iu]
 subst U;refine⟨(s.put k Z).new (.cells (aq (R.map cH++[cH a]))),.arr 9 s.aL 0 (J R+1) (J R+1),?_,⟨?_,Nat.lt_succ_of_lt u,.inr ⟨s.aL,R++[a],by rw[g],?_,by rw[Iu],aC _,by rw[g];omega,iA _⟩,h.out.mono (λn d=>?_) (iy _),λe=>?_,h.d2,λn d e=>?_,co (cG s k Z h.mw)⟩,rfl⟩;simp only[aaa,cJ,v8,aG,cU,fy,h1,bP,bC,dS,y,F,bZ,kG,B,mY];rw[ei,kB,bN.2 (by omega:m≠s.aL),cF,aO,bN.2 A];exact h.it;rw[ei,kB,bS,dj];rfl
 have:=h.out.lt n d;have j:n≠k:=λe=>h.d3 k rfl (by rw[d,e]);rw[ei,kB,bN.2 (by omega:n≠s.aL),cF,aO,bN.2 j];rfl;injection e with e;omega
 injection d with d
 have:=h.out.lt n e;omega;have z:J act<J R:=w_
 have H:(J act*9==J R*9)=I:=bN.2 w_;have G:aP (J act+1) (J R)=O:=bG w_;have hw:=ye (k:=9) xE (rows:=R.map cH) (i:=J act) (by rw[bh];exact z) (x:=cH a) rfl;refine⟨s.put k (X (.cells (aq ((R.set (J act) a).map cH)))),.arr 9 k 0 (J act+1) (J R),?_,⟨?_,u,.inr ⟨k,R.set (J act) a,by rw[g,qb],?_,?_,by rw[g,qb];omega,by rw[qb];exact h4,h5⟩,h.out.mono (λn d=>?_) (aC _),h.d1,h.d2,h.d3,cG s k _ h.mw⟩,rfl⟩;simp only[aaa,cJ,v8,aG,cU,fy,h1,bP,bC,dS,y,F,bZ,H,cF,G,B,hw,List.map_set];rw[aO,bN.2 A];exact h.it;rw[aO,bS];rfl;rw[g,List.take_succ_eq_append_getElem (by rw[qb];exact z),List.take_set_of_le (aC _),List.getElem_set_self,h2];have j:n≠k:=λe=>h.d3 k rfl (by rw[d,e]);rw[aO,bN.2 j];rfl
def aeP{α β:Type}{keep:α->α->Bool}{G:α->α->Option β}:∀(l act:List α)(out:List β),J out<=(yj keep G l act out).length
 |[],_,out=>aC _
 |a::l,act,out=>by
  rw[yj];refine dg ?_ (aeP l _ _);rw[bI];omega
def akt(j:No Q 148)(h:No Q 227){g:aa}(w:g.gt=O)(s:St):ai Q 148 [.Ge,g] s .Ge s:=by
 have d:ai Q 227 [.Ge,g] s (bu (-1)) s:=by
  refine ai.ofNZ ZF (aM ?_);simp only[go_sem,eG,eD,ct,eM,cN,eP,eT,eL,eN,eR,eO,reduceCtorEq,eJ,v8];refine aF ?_;have x:aR 0 ((0:Nat):Int)=I:=rfl;simp only[go_sem,eG,eD,ct,eM,cN,eP,eT,eL,eN,eR,eO,reduceCtorEq,eJ,J6,x,bu]
 refine ai.ofNZ Y0 (aM ?_);simp only[go_sem,eG,eD,ct,eM,cN,eP,eT,eL,eN,eR,eO,reduceCtorEq,eJ,w];refine aU.of d d_ ?_;have u:aj (-1) (-1)=O:=rfl;simp only[go_sem,eG,eD,ct,eM,cN,eP,eT,eL,eN,eR,eO,reduceCtorEq,eJ,bu,u,aC2]
def akr(h:No Q 148)(g:No Q 227)(u:No Q 149){nb:Nat}(d:nC s m its act out av ov)(z:s.get [] nb=X (.cells (ji a)))(A:gh av≠X nb):
 ∃v s',ai Q 148 [av,.func (.func 149) [] [.ptr nb 0]] s v s'/\(nC s' m its (act.filter λx=> !iY a x) out v ov/\s'.get [] nb=X (.cells (ji a))/\s'.aL=s.aL/\gh v=gh av/\v.gt=O):=by
 rcases d.act with⟨rfl,rfl⟩|⟨k,R,rfl,h1,h2,G,h4,h5⟩
 exact⟨_,_,akt h g rfl s,d,z,rfl,rfl,rfl⟩;have w:nb≠k:=λe=>A (by rw[e];rfl);obtain⟨v,s',F,rfl,j,R',y,B,H⟩:=aku (lcap:=J R) h g u w w_ G G h1 z d.mw;rw[h2]at F B;have Y:=jF (λx=> !iY a x) act;refine⟨_,s',F,⟨?_,by rw[j.aL];exact d.mlt,.inr ⟨k,R',by rw[y],H,B,by rw[y];omega,by rw[y];exact h4,by rw[j.aL];exact h5⟩,d.out.mono (λn U=>j.old n λe=>d.d3 k rfl (by rw[U,e])) (by rw[j.aL];exact aC _),d.d1,d.d2,d.d3,j.mw⟩,(j.old nb w).trans z,j.aL,rfl,rfl⟩;exact(j.old m λe=>d.d1 (by rw[e];rfl)).trans d.it
def awJ(H:No Q 148)(B:No Q 227)(G:No Q 149)(a6:Q.spec 150=X Bf)(a7:Q.spec 99=X kQ)(hn:∀x∈its,qM x.2=O)(hl:J its<=1000){F:l_}(hF:J F<=1000000)(h:∀e lc s ov,ac e 7=ov->fW 3 s ov (F.map gJ)->s.gE<=s.aL->K (.exit 2) ⟨e,102,lc⟩ s):
 ∀(rest d act:Tm)(out:l_)(av ov:aa)(e:ax)(lc:Ag.Loc)(s:St),its=d++rest->F=yj (λa x=> !iY a x) fM rest act out->(∀x∈act,x∈its)->J act<=J d->nC s m its act out av ov->
  ac e 4=.arr 9 m 0 (J its) (J its)->ac e 50=.arr 9 m 0 (J its) (J its)->ac e 51=an (J its)->ac e 52=an (J d)->ac e 8=av->ac e 7=ov->W Q 98 (.loop Rc) ⟨e,102,lc⟩ s K:=by
 intro rest
 induction rest with
 |nil=>
  intro d act out av ov e lc s h1 A ha c2 g h4 y u j h8 h7;have b8:=cL h1;refine aF ?_;simp only[go_sem,eG,eD,ct,eM,cN,eP,eT,eL,eN,eR,eO,reduceCtorEq,eJ,Rc,u,j,b8,bJ];have A:F=out:=A;refine h _ _ _ ov (by simp only[sN,ct,cN,h7]) ?_ g.mw;rw[A];exact g.out
 |cons a rest ih=>
  intro d act out av ov e lc s h1 A ha c2 g h4 y u j h8 h7
  let⟨hlt,hat⟩:=cR h1
  have a0:=JQ g.it hat;have a9:=cm (n:=J d) w_;have c0:=g.act.gt;have na:qM a.2=O:=hn a (cq hat);have d1:=g.mlt
  let⟨z,hz,zn,zm,zo,zg⟩:=oL (.cells [ah 0,ah 0,ah 0,ah 0,ah 0,ah 0,ah 0,ah 0,ah 0]) g.mw
  have b1:∀lc,ET lc z s.aL 0 (cH a) (z.get [] s.aL)=X (lc,z.put s.aL (X (.cells (ji a)))):=λlc=>by rw[zg];rfl
  have d5:nC (z.put s.aL (X (.cells (ji a)))) m its act out av ov:=g.mono (λn hn=>by rw[aO,bN.2 (by omega:n≠s.aL)];exact zo n hn) (by show s.aL<=z.aL;omega) (cG z _ _ zm);have Jb:(z.put s.aL (X (.cells (ji a)))).get [] s.aL=X (.cells (ji a)):=by rw[aO,bS];rfl
  have Jn:(z.put s.aL (X (.cells (ji a)))).aL=s.aL+1:=zn;have a5:gh av≠X s.aL:=λe=>by have:=g.act.lt _ e;omega
  have b6:gh ov≠X s.aL:=λe=>by have:=g.out.lt _ e;omega
  generalize hz1:z.put s.aL (X (.cells (ji a)))=z1 at*;have w:=b1;simp only[cH,ji]at a0 w;refine aF ?_;simp only[go_sem,eG,eD,ct,eM,cN,eP,eT,eL,eN,eR,eO,reduceCtorEq,eJ,Rc,y,u,j,h8,hlt,v8,a0,hz,w,dh,c0];refine aU.ex (akr H B G d5 Jb a5) d_ ?_;rintro v s2 ⟨I2,c1,d0,hrow,b0⟩;have Y:=I2.act.len;simp only[go_sem,eG,eD,ct,eM,cN,eP,eT,eL,eN,eR,eO,reduceCtorEq,eJ,b0,Y];have d2:(act.filter λx=> !iY a x).length<=J act:=jF _ _;have d4:(out++(act.filter λx=> !iY a x).filterMap (fM a)).length<=J F:=by rw[A];exact aeP _ _ _
  refine ara a6 a7 (a:=a) (m:=m) (nb:=s.aL) (n52:=J d) (n51:=J its) (its:=its) (act:=act.filter λx=> !iY a x) (av:=v) na (λx h=>hn x (ha x (yK.1 h).1)) w_ (by rw[hrow];exact a5) (out++(act.filter λx=> !iY a x).filterMap (fM a)) w_ ?_ (act.filter λx=> !iY a x) [] out ov _ _ s2 rfl rfl I2 c1 w_ b6 ?_ ?_ ?_ ?_ ?_ ?_ ?_ ?_ ?_ ?_
  ·intro e2 c9 s3 a8 g4 c5 c4 c3 g8 c6 g7 I3 a4 c8 c7
   let⟨s4,av4,a1,a2,a3⟩:=I3.appA w_ a
   have U:=I3.act.gt;simp only[ji]at a4;simp only[cH,ji]at a1;simp only[go_sem,eG,eD,ct,eM,cN,eP,eT,eL,eN,eR,eO,reduceCtorEq,eJ,g8,c6,c3,a4,a9,U,a3,a1,sB];refine ih (d++[a]) ((act.filter λx=> !iY a x)++[a]) _ av4 a8 _ _ _ (by rw[h1];simp) A ?_ ?_ a2 ?_ ?_ ?_ ?_ ?_ ?_;intro x h;rcases fJ.1 h with h|h
   exact ha x (yK.1 h).1;rw[kq.1 h];exact cq hat;rw[bI,bI];simp only[bP,bC];omega
   all_goals simp only[sN,ct,cN,g4,c5,c4,g7,sA]
  all_goals simp only[sN,ct,cN,h4,y,u,j,h7,bC]
  all_goals rfl
def NX{k:Nat}:∀{l:az},(∀v∈l,J v.cells=k/\v=.agg v.cells)->chunk O k (J l) (aq l)=X l
 |[],_=>rfl
 |v::l,h=>by
  let⟨h1,h2⟩:=h v gz
  have d:=NX (l:=l) λx g=>h x (ig _ g);have u:cut (v.cells++aq l) 0 k=X v.cells:=by
   simp only[cut,kG,cd];rw[List.take_append_of_le_length w_,nA w_,h1];simp
  have j:(v.cells++aq l).drop k=aq l:=by rw[<-h1,List.drop_left]
  show(bif O then(cut (v.cells++aq l) 0 k).bind λe=>(chunk O k (J l) ((v.cells++aq l).drop k)).bind λr=>X (.agg e::r)else _)=_;rw[u,j,d];show X (aa.agg v.cells::l)=_;rw[<-h2]
def am6{xs:az}(j:∀v∈xs,J v.cells=sz/\v=.agg v.cells)(h1:aA sz 1=I){k:Nat}(w:∀v∈aq xs,b9 s.heap k v=X v)(h:fW sz s v xs):b9 s.heap (k+1) v=X (fG sz xs):=by
 rcases h with⟨rfl,rfl⟩|⟨d,n,rfl,g,_⟩
 rfl;have g:s.heap.get n=X (.cells (aq xs)):=g;have y:cut (aq xs) 0 (J xs*sz)=X (aq xs):=by
  have:=nS (k:=sz) λv u=>(j v u).1;simp only[cut,kG,cd];rw[nA w_,this];simp
 have e:fG sz xs=.list sz xs .no:=by
  rcases xs with _|⟨x,xs⟩
  exact absurd rfl d;rfl
 show(match s.heap.get n with
  |some (.cells cs)=>(cut cs 0 (J xs*sz)).bind λc=>(da (b9 s.heap k) c).bind λz=>(chunk (!aA sz 1) sz (J xs) z).bind λxs=>X (aa.list sz xs .no)
  |_=>Z)=_
 rw[g,e];simp only[y,aG,rN w,h1,Bool.not_false,NX j]
def CS:az->Option wj
 |[]=>X []
 |v::l=>(CR v).bind λs=>(CS l).bind λr=>X (s::r)
def IR:aa->Option wj
 |.Ge=>X []
 |.list 4 xs _=>CS xs
 |_=>Z
def UO:∀{xs:az}{l:wj},CS xs=X l->xs=l.map bV
 |[],l,h=>by injection h with h;subst h;rfl
 |v::xs,l,h=>by
  simp only[CS,ak,aQ]at h;obtain⟨s,g,r,d,rfl⟩:=h;rw[Nv g,UO d];rfl
def UQ:∀l:wj,CS (l.map bV)=X l
 |[]=>rfl
 |s::l=>by simp only[cZ,CS,UR,aG,UQ l]
variable{l:wj}
def ag9(h:IR v=X l):au 4 bV v l/\dW v=O/\au 4 bV (cx v) l:=by
 unfold IR at h;split at h;cases h;exact⟨.inl R_,rfl,.inl R_⟩;rename_i xs r
 have:=UO h;subst this;have d:au 4 bV (.list 4 (l.map bV) r) l:=.inr ⟨r,rfl⟩;exact⟨d,m6 aCA d⟩;cases h
def aha(h:au 4 bV v l):IR v=X l:=by
 rcases h with⟨rfl,rfl⟩|⟨r,rfl⟩
 rfl;exact UQ l
def Hg(l:l_):aa:=fG 3 (l.map gJ)
def Bb:Sp
 |[u]=>(IR u).bind λl=>bif decide (J l<=1000)&&l.all qM then X (.tup [Hg (gF l),ah 0])else Z
 |_=>Z
def agU(h:au 4 bV v l)(g:J l<=1000)(d:∀x∈l,qM x=O):Bb [v]=X (.tup [Hg (gF l),ah 0]):=by
 simp only[aaf,Bb,aha h,g,dT,jo,fO.2 d]
def ol:dy:=[(145,BQ),(150,Bf),(99,kQ)]
def ago:eh ol:=.cons ayc (.cons ahZ (.cons RA .nil))
noncomputable def om:qp:=[(146,SZ),(151,S4)]
def agr:rk om:=.cons aDe (.cons aDi .nil)
def aw5(h:Nat)(u:h<=1000)(s:St):nN ag 243 (an h) (an h) O s=X (.arr 9 s.aL 0 h h,s.new (.cells (aq ((gK h Cu).map cH)))):=by
 have j:aP h h=O:=bG (aC _);have g:aP (h*72) 1099511627776=O:=bG w_;have d:aP h 1099511627776=O:=bG w_;simp only[aac,nN,v8,nP,j,g,d,sO,kU,cF,mo,afz]
def arv(h:(cH a).cells=(cH b).cells):a=b:=by
 have d:zi (cH a)=zi (cH b):=by
  have:cH a=cH b:=by show aa.agg (cH a).cells=aa.agg (cH b).cells;rw[h]
  rw[this]
 rw[Nr,Nr]at d;exact sI d
def aw8{a b:Mt}(h:(gJ a).cells=(gJ b).cells):a=b:=by
 have d:Bc (gJ a)=Bc (gJ b):=by
  have:gJ a=gJ b:=by show aa.agg (gJ a).cells=aa.agg (gJ b).cells;rw[h]
  rw[this]
 rw[Nt,Nt]at d;exact sI d
def agY(ch:dd)(hs:au 4 bV sv segs)(d:J segs<=1000)(hn:∀x∈segs,qM x=O):∃v s',ai (QW ol om ch) 98 [sv] s0 v s'/\fF s'.heap v (.tup [Hg (gF segs),ah 0]):=by
 have c3:Std (QW ol om ch):=inferInstance;have a2:(QW ol om ch).spec 145=X BQ:=rfl;have u:(QW ol om ch).spec 150=X Bf:=rfl;have a3:(QW ol om ch).spec 99=X kQ:=rfl;have w:(QW ol om ch).spec 146=Z:=rfl;have g:(QW ol om ch).spec 151=Z:=rfl;have Y:(QW ol om ch).specW 146=X SZ:=rfl;have j:(QW ol om ch).specW 151=X S4:=rfl;have U:No (QW ol om ch) 148:=R_;have B:No (QW ol om ch) 227:=R_;have G:No (QW ol om ch) 149:=R_;have b8:No (QW ol om ch) 98:=R_;generalize QW ol om ch=Q at*;have a9:=hs.lenS Aw;have b1:aR 20000 ((J segs:Nat):Int)=I:=by simp only[aR,decide_eq_false_iff_not];omega
 have b6:=hs.gt;have a7:=aw5 (J segs) d s0;have b0:=art d;have a4:(Az segs).length=J segs:=by rw[(Tc segs).length_eq,xD]
 have a1:=xD segs 0;refine ai.ofNRZ avc (aM ?_);simp only[go_sem,seval,a9,b1,b6,Sf,a7];refine ars a2 hs d (m:=s0.aL) (s0:=s0.new (.cells (aq ((gK (J segs) Cu).map cH)))) ?_ segs [] _ _ _ rfl (.refl (by show s0.gE<=s0.aL+1;decide)) (by rw[ei,bS];rfl) ?_ ?_ ?_ ?_
 ·intro e lc s1 h4 hb hm
  simp only[go_sem,seval,h4,w];have hg:(bif aA (aq ((jY 0 segs).map cH)).length (J segs*9)then yh cH zz (0,((0,0),(0,0))) Hq (aq ((jY 0 segs).map cH))else Z)=X (aq ((Az segs).map cH)):=by
   have h1:(aq ((jY 0 segs).map cH)).length=J segs*9:=by rw[nS xE,bh,a1]
   rw[h1,cd,bS,cT,yh,Jf (k:=9) (λ_=>rfl) d_ (λa b=>arv)];simp only[aaf,b0];rfl
  refine aU.of (ai.specWp (n:=s0.aL) (cs':=aq ((Az segs).map cH)) w (Std.H _) Y rfl hm hg) d_ ?_;have a6:=cG s1 s0.aL (X (.cells (aq ((Az segs).map cH)))) hb.mw;have c1:s1.aL=s0.aL+1:=hb.aL;simp only[go_sem,seval,h4,G5];refine awJ U B G u a3 (m:=s0.aL) (its:=Az segs) (F:=tC segs) ?_ w_ ?_ ?_ (Az segs) [] [] [] .Ge .Ge _ _ _ rfl rfl (λ_ h=>by cases h) (aC _) ⟨by rw[aO,bS];rfl,by show s0.aL<s1.aL;omega,.inl R_,.inl R_,λe=>(by cases e),λe=>(by cases e),λ_ h=>(by cases h),a6⟩ ?_ ?_ ?_ ?_ ?_ ?_;intro x hx;have hx:=(Tc segs).mem_iff.1 hx;have:∀(l:wj)(i:Nat),x∈jY i l->x.2∈l:=by
   intro l
   induction l with
   |nil=>intro i h;cases h
   |cons y l ih=>
    intro i h;rcases dD.1 h with rfl|h
    exact gz;exact ig _ (ih _ h)
  exact hn _ (this _ _ hx);rw[(Ds segs).length_eq]
  have:=HD (F:=fM) (jY 0 segs);rw[a1]at this;have:J segs*J segs<=1000*1000:=n7 d d;unfold gF;omega;intro u c0 s2 ov h7 hR c2;have a5:=amX d;have a0:=hR.gt;have z:∃s3,ai Q 151 [ov,.func (.func 152) [] []] s2 (.tup []) s3/\fW 3 s3 ov ((gF segs).map gJ):=by
   rcases hR with⟨rfl,h0⟩|⟨h0,k,rfl,hk,a8⟩
   refine⟨s2,ai.specW0 g (Std.H _) j rfl,.inl ⟨rfl,?_⟩⟩;have h0:=nX.1 h0
   have:=Ds segs;rw[h0]at this;rw[<-List.Perm.nil_eq this];rfl;have A:(gF segs).length=(tC segs).length:=(Ds segs).length_eq.symm;have hg:(bif aA (aq ((tC segs).map gJ)).length (((tC segs).map gJ).length*3)then yh gJ tq (0,0,0) Hr (aq ((tC segs).map gJ))else Z)=X (aq ((gF segs).map gJ)):=by
    have h1:(aq ((tC segs).map gJ)).length=((tC segs).map gJ).length*3:=nS λv hv=>by
     obtain⟨a,_,rfl⟩:=cy.1 hv;rfl
    rw[h1,cd,bS,cT,yh,Jf (k:=3) (λ_=>rfl) d_ (λa b=>aw8)];simp only[aaf,a5];exact congrArg (λx=>X (aq (x.map gJ))) (amY segs)
   refine⟨_,ai.specWp (n:=k) (cs':=aq ((gF segs).map gJ)) g (Std.H _) j rfl hk hg,.inr ⟨?_,k,?_,?_,a8⟩⟩;intro hc;have hc:=nX.1 hc;rw[hc]at A;exact h0 (by rw[List.eq_nil_of_length_eq_zero A.symm];rfl);rw[bh,bh,A];rw[aO,bS];rfl
  let⟨s3,hr3,hR3⟩:=z
  simp only[go_sem,seval,h7,a0,g];refine aU.of hr3 d_ ?_;simp only[go_sem,seval,h7,a0];refine⟨_,rfl,3,?_⟩;have hf:=am6 (sz:=3) (k:=1) (λv hv=>by obtain⟨a,_,rfl⟩:=cy.1 hv;exact R_) rfl (λv hv=>?_) hR3;show(da (b9 s3.heap 2) [ov,ah 0]).bind (λr=>X (aa.tup r))=_;simp only[da,hf,aG];rfl;have:∀l:l_,v∈aq (l.map gJ)->b9 s3.heap 1 v=X v:=by
   intro l
   induction l with
   |nil=>intro h;cases h
   |cons a l ih=>
    intro h;rw[cZ,aq,fJ]at h;rcases h with h|h
    simp only[gJ,mo,dD,nZ,or_false]at h;rcases h with rfl|rfl|rfl<;>rfl
    exact ih h
  exact this _ hv
  all_goals simp only[sN,seval,h4,a4,bC]
  all_goals rfl
 all_goals simp only[sN,seval,bC]
 all_goals rfl
def agV:cW ag 98 Bb:=by
 intro g x d G y w xs j u;unfold Bb at d;split at d;simp only[ak]at d
 let⟨l,h1,h⟩:=d
 let⟨h2,h⟩:=aZ h
 simp only[bg,dE]at h2;have h:=sI h;subst h
 let⟨_,h4,h5⟩:=ag9 h1
 refine iQ ago agr (by simp only[dR,h4,bZ]) (λz=>?_) G y w xs j u;exact agY z h5 h2.1 (fO.1 h2.2);cases d
def Gc(d:No Q 135)(h:No Q 88){l:cf}(w:au 1 aw sv l)(j:J l<=1000000){g:FuncId}{cap:az}(u:Q.spec g=Z){p:ae->Bool}(y:∀x∈l,ai Q g (.str x::cap) s (.bool (p x)) s):ai Q 88 [sv,.func (.func g) [] cap] s (.bool (l.any p)) s:=
 Gb Vm h XP d bM w (EK j) (λx _=>⟨uf _ 0,rfl⟩) u y
def gn:wQ ag 9 aa.str where
 eq a b:=by
  rw[Jj];by_cases h:a=b;subst h;simp;simp[h]
 same a:=by simp[pG,sD]
 gt _:=rfl
def iI:Nat->ba->df
 |_,[]=>[]
 |i,o::l=>(o.id,ah ((i:Nat):Int))::iI (i+1) l
def XM:∀(l:ba)(i:Nat)(o:Obj),iI i (l++[o])=iI i l++[(o.id,ah ((i+J l:Nat):Int))]
 |[],_,_=>rfl
 |x::l,i,o=>by
  rw[uH,iI,XM l,iI,bP,show i+1+J l=i+(J l+1)from w_];rfl
def pD(k:ae):ba->pX
 |[]=>Z
 |o::l=>bif k==o.id then X 0 else(pD k l).map (· +1)
def O4(k:ae):∀l:ba,cD k l=(pD k l).bind λi=>l[i]?
 |[]=>rfl
 |o::l=>by
  simp only[cD,pD];cases h:k==o.id;simp only[cF,O4 k l];cases pD k l<;>rfl;rfl
def G9(k:ae):∀(l:ba)(i:Nat),bR k (iI i l)=(pD k l).map λj=>ah ((i+j:Nat):Int)
 |[],_=>rfl
 |o::l,i=>by
  simp only[iI,bR,pD];by_cases h:k=o.id;subst h;simp;have:(k==o.id)=I:=by simpa using h
  rw[iN h,this,G9 k l];simp only[cF];rcases pD k l with _|j
  rfl;simp only[kV];rw[show i+1+j=i+(j+1)from w_]
def XG{k:ae}:∀{l:ba},k ∉ l.map Obj.id->pD k l=Z
 |[],_=>rfl
 |o::l,h=>by
  have j:(k==o.id)=I:=by
   simp only[cZ,dD,not_or]at h;simpa using h.1
  have d:=XG (k:=k) (l:=l) λg=>h (by rw[cZ];exact ig _ g);simp only[pD,j,cF,d,n8]
def rZ(k:ae):j0 ag 83 (.str k)=X (9,3):=k_
variable{l:ba}
def ayg(ho:au 6 Obj.val ov l)(hl:J l<=1000000)(x:(l.map Obj.id).Nodup){s0:St}{x2:az}(hx:∀e lc s,ac e 4=.Gt 4 1 0->ac e 2=.Gt 2 1 0->lc.gen 2=1->lc.get 2 1=X x2->lc.get 4 1=X [ov,.map m]->du m s0 s->bf aa.str s m (iI 0 l)->K (.exit 0) ⟨e,29,lc⟩ s):
 ∀(rest d:ba)(e:ax)(lc:Ag.Loc)(s:St),l=d++rest->du m s0 s->bf aa.str s m (iI 0 d)->
  ac e 4=.Gt 4 1 0->ac e 2=.Gt 2 1 0->lc.gen 2=1->lc.get 2 1=X x2->lc.gen 4=1->lc.get 4 1=X [ov,.map m]->ac e 15=ov->ac e 16=an (J l)->ac e 17=an (J d)->W Q 47 (.loop Qt) ⟨e,29,lc⟩ s K:=by
 intro rest
 induction rest with
 |nil=>
  intro d e lc s u hb U A h2 g2 B g4 z j g h;have Y:=cL u;have G:d=l:=by rw[u];simp
  refine aF ?_;simp only[go_sem,seval,Qt,g,h,Y,bJ];exact hx _ _ _ (by simp only[sN,seval,A]) (by simp only[sN,seval,h2]) g2 B z hb (by rw[<-G];exact U)
 |cons o rest ih=>
  intro d e lc s u hb U A h2 g2 B g4 z j g h
  let⟨hlt,hat⟩:=cR u
  have a0:=λlc k=>ho.at ek.2.2.1 hat lc k;have F:=cm (n:=J d) w_;have H:bR o.id (iI 0 d)=Z:=by
   rw[G9,XG,n8];intro hc;rw[u,dj]at x;exact(List.nodup_append.1 x).2.2 _ hc o.id (by simp) rfl
  have w:=lY gn rZ U o.id (ah ((J d:Nat):Int));have y:dp o.id (ah ((J d:Nat):Int)) (iI 0 d)=iI 0 (d++[o]):=by
   rw[rS H,XM,dS]
  rw[y]at w;refine aF ?_;simp only[go_sem,seval,Qt,A,j,g,h,hlt,a0,F,g4,z,Obj.val,Obj.cells,w];refine ih (d++[o]) _ _ _ (db u) (hb.put _) bf.put ?_ ?_ ?_ ?_ ?_ ?_ ?_ ?_ ?_<;>simp only[aah,ct,A,h2,g2,B,g4,z,j,g,sA]
def ax6(u:Q.spec 20=X gI)(w:No Q 47)(g:au 6 Obj.val ov l)(H:∀o∈l,o.AL)(G:J l<=1000000)(h:(l.map Obj.id).Nodup)(A:bm l=O)(F:s.gE<=s.aL):
 ∃v s',ai Q 47 [.agg [ov]] s v s'/\(v=.tup [.agg [ov,.map s.aL],.bool O]/\bf aa.str s' s.aL (iI 0 l)/\du s.aL (s.new (.map [] 0)) s'):=by
 have B:=aab;have j:=g.lenS ek;have d:=g.cs;have x:=xP g H w_;rw[A]at x;refine ai.ofNRZ atM (aM ?_);simp only[go_sem,seval,j,d,u,x,jA,sB];refine ayg g G h (m:=s.aL) (s0:=s.new (.map [] 0)) (x2:=[.Ge,.nilm]) ?_ l [] _ _ _ rfl (.refl (co F)) ?_ ?_ ?_ ?_ ?_ ?_ ?_ ?_ ?_ ?_;intro e lc s1 h4 h2 g2 z y U Y;simp only[go_sem,seval,h4,h2,g2,z,y,d];exact⟨_,rfl,rfl,Y,U⟩;show(s.new _).get [] s.aL=_;rw[ei,bS];rfl
 all_goals simp only[aah,oD,ct,cN,bC]
 all_goals rfl
variable{q:Obj}
def acC{k:ae}(h:cD k l=X q):∃i,pD k l=X i/\l[i]?=X q:=by
 rw[O4,ak]at h;exact h
def aqT{k:ae}:∀{l:ba},pD k l=X i->i<J l:=by
 intro l
 induction l generalizing i with
 |nil=>intro h;cases h
 |cons o l d=>
  intro h;simp only[pD]at h;cases hk:k==o.id;rw[hk]at h;simp only[cF,o6]at h;obtain⟨j,g,rfl⟩:=h
  have:=d g;simp only[bP];omega;rw[hk]at h;cases h;simp
def CN{α:Type}(p:α->Bool):∀l:List α,(!(l.any λx=> !p x))=l.all p
 |[]=>rfl
 |x::l=>by
  simp only[List.any_cons,pZ,Bool.not_or,Bool.not_not,CN p l]
variable{n:Nat}
def Sk(w:No Q 50)(z:au 6 Obj.val ov l)(B:bf aa.str s n (iI 0 l)){id:ae}(A:cD id l=X q):ai Q 50 [.agg [ov,.map n],.str id] s (aX (q.x,q.y)) s:=by
 let⟨i,h1,h2⟩:=acC A
 have j:=λlc k=>z.at ek.2.2.1 h2 lc k;have d:=r9 gn rZ uD B id;rw[G9,h1]at d;simp only[kV,Option.getD_some,dS]at d;have u:=z.cs;have g:∃v s',ai Q 50 [.agg [ov,.map n],.str id] s v s'/\(v=aX (q.x,q.y)/\s'=s):=by
  refine ai.ofNRZ atQ (aM ?_);simp only[go_sem,seval,u,d,j,Obj.val,Obj.cells];exact⟨_,rfl,rfl⟩
 obtain⟨v,s',h,rfl,rfl⟩:=g;exact h
def axm(w:No Q 143)(x:au 6 Obj.val ov l){k:Nat}(z:bf aa.str s n (iI 0 l))(y:s.get [] k=X (.cells [ov,.map n]))(id:ae):ai Q 143 [.str id,.ptr k 0] s (.bool (!dH l id)) s:=by
 have d:=nM gn rZ uD z id;have u:=x.gt;refine ai.ofNZ asg (aM ?_);rcases hq:cD id l with _|q
 have g:pD id l=Z:=by
  rcases g:pD id l with _|i
  rfl
  have:=aqT g;rw[O4,g,aG,dA this]at hq;cases hq
 have h:dH l id=I:=by simp only[dH,m7,hq];rfl
 rw[G9,g]at d;simp only[n8,iu]at d;simp only[go_sem,seval,y,d,h]
 let⟨i,h1,h2⟩:=acC hq
 have j:=λlc k=>x.at ek.2.2.1 h2 lc k;have h:dH l id=aj q.Al 1:=by simp only[dH,m7,hq]
 rw[G9,h1]at d;simp only[kV,iu,dS]at d;simp only[go_sem,seval,y,d,h,j,u,Obj.val,Obj.cells]
variable{o:Obj}
def axH(y:No Q 93)(d:No Q 143)(g:No Q 135)(h:No Q 88)(z:au 6 Obj.val ov l)(H:bf aa.str s n (iI 0 l))(F:n<s.aL)(go:o.AL)(B:J o.gT<=1000000):
 ai Q 93 [.agg [ov,.map n],o.val] s (.bool (o.gT.all (dH l))) (s.new (.cells [ov,.map n])):=by
 have u:=z.cs;have w:bf aa.str (s.new (.cells [ov,.map n])) n (iI 0 l):=by
  show(s.new _).get [] n=_;rw[ei,bN.2 (by omega:n≠s.aL)];exact H
 have G:(s.new (.cells [ov,.map n])).get [] s.aL=X (.cells [ov,.map n]):=by rw[ei,bS];rfl
 have j:=Gc g h go.gT B d.s (s:=s.new (.cells [ov,.map n])) (cap:=[.ptr s.aL 0]) (p:=λx=> !dH l x) λx _=>axm d z w G x;have A:=go.all;refine ai.ofNZ au9 (aM ?_);simp only[go_sem,seval,u,A,Obj.val,Obj.cells];refine aU.of j d_ ?_;simp only[go_sem,seval,CN]
variable{l:cf}
def XI(F:J l<=1000000)(Y:∀(i:Nat)(y:ae),l[i]?=X y->∃a,(∀lc,gm ag lc 25 sv (an i)=X a)/\∀lc,lh ag [] 9 a lc s=X (.str y)){x:ae}{lc:Ag.Loc}{r:Int}(H:∀e,r= -1->K (.exit 0) ⟨e,19,lc⟩ s)(U:∀e,ac e 4=ah r->K .ret ⟨e,19,lc⟩ s):
 ∀(rest d:cf)(e:ax),l=d++rest->r=io (λy=>x==y) rest (J d)->ac e 0=sv->ac e 1=.str x->ac e 7=an (J l)->ac e 8=an (J d)->W Q 97 (.loop KM) ⟨e,19,lc⟩ s K:=by
 intro rest
 induction rest with
 |nil=>
  intro d e w u z j h g;have B:=cL w;refine aF ?_;simp only[go_sem,seval,KM,h,g,B,bJ];exact H _ u
 |cons y rest G=>
  intro d e w u z j h g
  let⟨hlt,hat⟩:=cR w
  let⟨a,hia,hld⟩:=Y _ _ hat
  have A:=cm (n:=J d) w_;refine aF ?_;cases hd:x==y with
  |true=>
   simp only[go_sem,seval,KM,z,j,h,g,hlt,hia,hld,hd];exact U _ (by simp only[sN,seval,g,u,io,hd])
  |false=>
   simp only[go_sem,seval,KM,z,j,h,g,hlt,hia,hld,hd,A];refine G (d++[y]) _ (db w) (by rw[u];simp only[io,hd,cF,sA]) ?_ ?_ ?_ ?_
   all_goals simp only[sN,seval,z,j,h,sA]
def VS(j:No Q 97)(u:No Q 51)(d:J l<=1000000)(g:sv.gt=O)(h:∀w,fN ag w 25 sv s=X (an (J l)))(A:∀(i:Nat)(y:ae),l[i]?=X y->∃a,(∀lc,gm ag lc 25 sv (an i)=X a)/\∀lc,lh ag [] 9 a lc s=X (.str y))(x:ae):ai Q 51 [sv,.str x] s (.bool (l.contains x)) s:=by
 have G:ai Q 97 [sv,.str x] s (bu (io (λy=>x==y) l 0)) s:=by
  refine ai.ofNZ aa9 (aM ?_);simp only[go_sem,seval,h,g];refine XI d A (x:=x) (r:=io (λy=>x==y) l 0) ?_ ?_ l [] _ rfl rfl (by simp only[sG,seval, *]) (by simp only[sG,seval, *]) (by simp only[sG,seval, *]) (by simp only[sN,seval];rfl);intro e z;simp only[go_sem,seval,z];rfl;intro e B;simp only[go_sem,seval,B];rfl
 have F:l.any (λy=>x==y)=l.contains x:=by
  rw[List.contains_eq_any_beq]
 refine ai.ofNZ atR (aM ?_);simp only[go_sem,seval,g];refine aU.of G d_ ?_;simp only[go_sem,seval,bu,JC,F]
def Og(d:No Q 97)(g:No Q 51)(j:au 1 aw sv l)(h:J l<=1000000)(x:ae)(s:St):ai Q 51 [sv,.str x] s (.bool (l.contains x)) s:=
 VS d g h j.gt (λu=>j.lenS bM u s) (λi y w=>⟨_,λlc=>j.at bM.2.2.1 w lc .i64,λlc=>by rw[Rr,uf];rfl⟩) x
def VP(d:No Q 97)(g:No Q 51){off len cap:Nat}{cs:az}(z:s.get [] m=X (.cells cs))(j:J l=len)(A:∀(i:Nat)(y:ae),l[i]?=X y->cs[off+i]?=X (.str y))(h:J l<=1000000)(x:ae):ai Q 51 [.arr 1 m off len cap,.str x] s (.bool (l.contains x)) s:=by
 refine VS d g h rfl (λw=>?_) (λi y u=>⟨.ptr m (off+i*1),λlc=>?_,λlc=>?_⟩) x;rw[j];exact zU w 1 m off len cap s;have:i<len:=by rw[<-j];exact(ie.1 u).1
 have B:bq i len=O:=bG this;rw[bM.2.2.2.1];simp only[aaa,nP,aG,B,bZ];rw[xO,z,qF,uf,Nat.mul_one]
 have:=A i y u;rw[AV,this]
def lf:Sp
 |[v,.str x]=>(ff 1 iV v).bind λl=>bif decide (J l<=1000000)then X (.bool (l.contains x))else Z
 |_=>Z
def FK(h:au 1 aw v l)(d:J l<=1000000)(x:ae):lf [v,.str x]=X (.bool (l.contains x)):=by
 simp only[aaf,lf,oI oo h,d,dT]
def Oh:cW ag 51 lf:=by
 intro g u d G z w xs j x;unfold lf at d;split at d;simp only[ak]at d
 let⟨l,h1,h⟩:=d
 let⟨h2,h⟩:=aZ h
 simp only[dE]at h2;have h:=sI h;subst h;have y:=ku (λ_ _ h=>pg h) h1
 let⟨h3,h4⟩:=m6 pT y
 refine iQ (T:=[]) (W:=[]) .nil .nil (by simp only[dR,h3,dW,bn,bZ]) (λA=>?_) G z w xs j x;exact⟨_,_,Og R_ R_ h4 h2 _ _,⟨1,rfl⟩⟩;cases d
abbrev CK:=ae×ae
def jf(k:CK):aa:=.agg [.str k.1,.str k.2]
def Wd(a b c d:ae):jh ag 8 116 (.agg [.str a,.str b]) (.agg [.str c,.str d])=X (w6 (a,b) (c,d)):=by
 have h:jh ag 8 116 (.agg [.str a,.str b]) (.agg [.str c,.str d])=(X (a==c)).bind λr=>bif r then(X (b==d)).bind λr=>bif r then X O else X I else X I:=k_
 rw[h];unfold w6;cases a==c<;>cases b==d<;>rfl
def Re:wQ ag 116 jf where
 eq a b:=by
  have h:=Wd a.1 a.2 b.1 b.2;have e:jf a=.agg [.str a.1,.str a.2]:=rfl;have d:jf b=.agg [.str b.1,.str b.2]:=rfl;rw[e,d,h];by_cases hab:a=b;rw[dQ hab,(Vn a b).2 hab];rw[dN hab];cases hc:w6 a b;rfl;exact absurd ((Vn a b).1 hc) hab
 same a:=by simp[jf,pG,uZ,sD]
 gt _:=rfl
def abn(k:CK):j0 ag 180 (jf k)=X (116,25):=k_
abbrev p0:=List CK
abbrev Y_:=CK->cf
def jK(id:ae)(d:p0×(Y_))(k:CK):p0×(Y_):=bif(d.2 k).contains id then d else(fe k d.1,lX d.2 k (d.2 k++[id]))
abbrev A6:=sZ jf aw
def SQ(d:o.Al=2):(mI o).length=J o.gT-1:=by
 have:aj o.Al 3=I:=by rw[d];rfl
 simp only[mI,this,cF,jV,bh,List.length_zip,yJ];omega
def aes(d:o.Al=3):(mI o).length=J o.gT:=by
 have:aj o.Al 3=O:=by rw[d];rfl
 simp only[mI,this,cT,bh,List.length_zip,bI,yJ,jG];omega
def aCO(u:o.Al=2\/o.Al=3)(hi:i<J o.gT)(j:¬(i+1=J o.gT/\o.Al=2)){a b:ae}(w:o.gT[i]?=X a)(d:o.gT[(i+1) % J o.gT]?=X b):(mI o)[i]?=X (fS a b):=by
 have g:(o.gT.zip (o.gT.tail++(bif aj o.Al 3 then o.gT.take 1 else [])))[i]?=X (a,b):=by
  rw[MI];refine⟨w,?_⟩;by_cases hlast:i+1=J o.gT;have x:o.Al=3:=u.resolve_left λh=>j ⟨hlast,h⟩;have:aj o.Al 3=O:=by rw[x];rfl
  rw[hlast,Nat.mod_self]at d;rw[this,cT,sQ (by rw[yJ];omega),yJ,show i-(J o.gT-1)=0 from w_,wC,iP w_];exact d;rw[Ff w_]at d;rw[AQ (by rw[yJ];omega),List.getElem?_tail];exact d
 simp only[mI,ix,g,kV]
def VX{α:Type}{l:List α}{a:α}(h:l[i]?=X a):l.drop i=a::l.drop (i+1):=by
 have d:i<J l:=(ie.1 h).1;rw[List.drop_eq_getElem_cons d,(ie.1 h).2]
def adU{a b:Nat}(h:0<b):cP ag .rem 3 (ah ((a:Nat):Int)) (ah ((b:Nat):Int))=X (ah ((a % b:Nat):Int)):=by
 have d:aj ((b:Nat):Int) 0=I:=by simp only[aj,bN];omega
 show(bif aj ((b:Nat):Int) 0 then Z else X (ah (((a:Nat):Int).tmod ((b:Nat):Int))))=_;rw[d,cF,Int.ofNat_tmod]
def awH(b0:No Q 51)(a0:No Q 97)(go:o.AL)(hk:o.Al=2\/o.Al=3)(hr:J o.gT<=1000){lo B:Nat}{s0:St}{KE:p0}{VE:Y_}{n17:aa}{n18 n19:Nat}{x1:T_}(hx:∀e lc s T,A6 s m lo KE VE T->(∀n,n<lo->n≠m->s.get [] n=s0.get [] n)->s0.aL<=s.aL->s.gE<=s.aL->ac e 3=.map m->ac e 17=n17->ac e 18=an n18->ac e 19=an n19->ac e 1=.Gt 1 1 0->lc.get 1 1=x1->lc.gen 1=1->K (.exit 2) ⟨e,110,lc⟩ s):
 ∀(r i:Nat)(K1:p0)(V1:Y_)(T1:CK->Nat)(e:ax)(lc:Ag.Loc)(s:St),r+i=J o.gT->((mI o).drop i).foldl (jK o.id) (K1,V1)=(KE,VE)->A6 s m lo K1 V1 T1->(∀k,(V1 k).length+r<=1000000)->(∀n,n<lo->n≠m->s.get [] n=s0.get [] n)->s0.aL<=s.aL->s.gE<=s.aL->
  ac e 3=.map m->ac e 17=n17->ac e 18=an n18->ac e 19=an n19->ac e 1=.Gt 1 1 0->lc.get 1 1=x1->lc.gen 1=1->ac e 5=.Gt 5 B 0->lc.gen 5=B->lc.get 5 B=X o.cells->
  ac e 38=o.refsV->ac e 39=an (J o.gT)->ac e 40=an i->W Q 48 (.loop GM) ⟨e,110,lc⟩ s K:=by
 have rc:=go.gT.gt;have tc:=go.uP.gt;have b6:=go.gT.lenS bM;intro r
 induction r with
 |zero=>
  intro i K1 V1 T1 e lc s c3 w hO hV u G d h3 A z y U l1 g1 h5 B l5 x j g;have hi:i=J o.gT:=w_
  have hd:(mI o).drop i=[]:=E9 (by
   rcases hk with hk|hk
   rw[SQ hk];omega;rw[aes hk];omega)
  rw[hd]at w;simp only[List.foldl_nil,bk]at w;obtain⟨rfl,rfl⟩:=w;refine aF ?_;simp only[go_sem,seval,GM,j,g,hi,bJ];exact hx _ _ _ T1 hO u G d (by simp only[sN,seval,h3]) (by simp only[sN,seval,A]) (by simp only[sN,seval,z]) (by simp only[sN,seval,y]) (by simp only[sN,seval,U]) l1 g1
 |succ r ih=>
  intro i K1 V1 T1 e lc s c3 w hO hV u G d h3 A z y U l1 g1 h5 B l5 x j g;have H:i<J o.gT:=w_
  have F:=cm (n:=i) w_;obtain⟨a,ha⟩:∃a,o.gT[i]?=X a:=⟨_,dA H⟩;have c0:=λlc k=>go.gT.at bM.2.2.1 ha lc k;have c8:(((i+1:Nat):Int)==((J o.gT:Nat):Int))=decide (i+1=J o.gT):=by
   by_cases h:i+1=J o.gT;rw[h];simp;rw[dN h];simpa using λhc=>h w_
  by_cases hb:i+1=J o.gT/\o.Al=2
  ·
   have hd:(mI o).drop i=[]:=E9 (by rw[SQ hb.2];omega);rw[hd]at w;simp only[List.foldl_nil,bk]at w;obtain⟨rfl,rfl⟩:=w;have e1:aj ((i+1:Nat):Int) ((J o.gT:Nat):Int)=O:=by rw[hb.1];simp[aj]
   have e2:aj o.Al 2=O:=by rw[hb.2];rfl
   refine aF ?_;simp only[go_sem,seval,GM,h5,B,l5,x,j,g,H,c0,aw,F,rc,b6,e1,e2,Obj.cells];exact hx _ _ _ T1 hO u G d (by simp only[sN,seval,h3]) (by simp only[sN,seval,A]) (by simp only[sN,seval,z]) (by simp only[sN,seval,y]) (by simp only[sN,seval,U]) l1 g1
  ·have hn:0<J o.gT:=by omega
   obtain⟨b,c2⟩:∃b,o.gT[(i+1) % J o.gT]?=X b:=⟨_,dA (wN _ hn)⟩;have c5:=λlc k=>go.gT.at bM.2.2.1 c2 lc k;have b1:=adU (a:=i+1) hn;have c6:=aCO hk H hb ha c2;rw[VX c6,AP]at w
   let⟨v,hlk,hvl⟩:=hO.look Re abn yA (fS a b)
   have Y:=hvl.gt;have c1:=Og a0 b0 hvl (by have:=hV (fS a b);omega) o.id s.top;have b8:mB ag [] 180 (.map m) (.agg [.str (D0 a b),.str (DX a b)]) I s.top=X v:=hlk;have c4:¬(aj ((i+1:Nat):Int) ((J o.gT:Nat):Int)=O/\aj o.Al 2=O):=λh=>hb ⟨by have:=eq_of_beq h.1;omega,eq_of_beq h.2⟩;refine aF ?_;cases e1:aj ((i+1:Nat):Int) ((J o.gT:Nat):Int)<;>cases e2:aj o.Al 2
   case true.true=>exact absurd ⟨e1,e2⟩ c4
   all_goals
    simp only[go_sem,seval,GM,h3,h5,B,l5,x,j,g,H,c0,c5,aw,F,rc,b6,e1,e2,Obj.cells,d,b1,U7,U9,b8,Y,sB];refine jx.calm d c1 d_ (by simp[fB,kE]) ?_;cases hc:(V1 (fS a b)).contains o.id<;>simp only[jK,hc,cT,cF]at w
    ·let⟨v0,p,s1,av,s2,s3,a1,a2,a3,a4,a5,a6,a7,a8,a9,a10⟩:=hO.app Re abn yA bM.1 rfl (λn hn=>ui hn d_) (fS a b) o.id (by have:=hV (fS a b);omega) d
     have c7:si ag [] 180 (.map m) (.agg [.str (D0 a b),.str (DX a b)]) s=X (.tup [v0,an p],s1):=a1;simp only[aw]at a3;simp only[go_sem,seval,h3,h5,B,l5,Obj.cells,Y,g,F,WS,WQ,c7,a2,a3,a4,a5,sB];refine ih (i+1) _ _ _ _ _ s3 w_ w a6 (λk=>?_) (λn U h2=>(a7 n U h2).trans (u n U h2)) w_ a10 ?_ ?_ ?_ ?_ ?_ ?_ ?_ ?_ ?_ ?_ ?_ ?_ ?_
     have:=hV (fS a b);by_cases hkk:k=fS a b;subst hkk;rw[sH,bI];simp only[bP,bC];omega;rw[lj _ _ hkk]
     have:=hV k;omega
     all_goals simp only[sL,seval,h3,A,z,y,U,l1,g1,h5,B,l5,x,j,Obj.cells]
    ·simp only[go_sem,seval,g,F,Y]
     refine ih (i+1) K1 V1 T1 _ _ s w_ w hO (λk=>by have:=hV k;omega) u G d ?_ ?_ ?_ ?_ ?_ ?_ ?_ ?_ ?_ ?_ ?_ ?_ ?_
     all_goals simp only[sL,seval,h3,A,z,y,U,l1,g1,h5,B,l5,x,j,Obj.cells]
end Go.Proofs.YtakkigoeiahlcaaGreat
namespace Go.Proofs.YtakkigoeiahlcaaGreat
open Tryz
open Go.Ag
open Go.Sort (SWO)
def aDj{α:Type}{enc encF:α->aa}{U:α->α->Int}{d:α}{ok:List α->Bool}{k f g:Nat}{ρ:Go.Shelf.Ren}(L:SlLaysF0.n6 ag ρ)(hf:ρ.f 6=f)(aE:∀w,(isAgg (ρ.t 24)).run ag w=.ok O w)(zE:∀w,(Go.sizeOf (ρ.t 24)).run ag w=.ok k w)(ef:∀A w,(callFunc f A).run ag w=.ok (.enter f A) w)(eg:∀A w,(callFunc g A).run ag w=.ok (.enter g A) w){sp:Sp}(a5:cW ag g sp)(hk:∀a,(enc a).cells.length=k)(ha:∀a,enc a=.agg (enc a).cells)(a4:0<k)(hz:∀a h,fF h (enc a) (encF a))(a8:∀l,ok l=O->J l<=1000000/\(∀(i j:Nat)(x y:α),l[i]?=X x->l[j]?=X y->sp [encF x,encF y]=X (ah (U x y)))/\(SWO (ltOf λx y:Fin (J l)=>ep U d l x y))/\(∀x y:Fin (J l),(ltOf λx y:Fin (J l)=>ep U d l x y) x y=I->(ltOf λx y:Fin (J l)=>ep U d l x y) y x=I->x=y)):
 uV f (yi enc U d ok k g):=by
 subst hf;intro A G h w xs wr hx;refine⟨λB=>?_,λn gf cs b0 B hl H=>?_⟩
 ·unfold yi at B
  split at B
  let⟨_,B⟩:=aZ B
  cases B
  ·cases hx with
   |cons p q=>
   cases q with
   |cons q r=>
   cases r;cases p;cases q with
   |func q1 q2=>
   cases q1;cases q2;refine .inr ⟨ef _ _,(AnyF.slices_SortFunc_none L Z 0 _ w).mono ?_⟩;rintro e w' ⟨rfl,rfl⟩;exact⟨_,rfl,G,wr,.refl,.tup .nil⟩
  cases B
 ·unfold yi at B
  split at B
  ·rename_i k' m len a0 g'
   have hb:=(aZ B).1;have hq:=(aZ B).2;clear B;simp only[bg]at hb;have e1:=gA hb.1;have e2:=gA hb.2;subst e1;subst e2;injection hq with hq;injection hq with hq;injection hq with a7 a6
   subst a7;subst a6;have H:=HM H
   let⟨F,H⟩:=aZ H
   have F:=gA F;simp only[yh,ak]at H
   let⟨l,h1,H⟩:=H
   let⟨h2,H⟩:=aZ H
   have H:=(sI H).symm;subst H;have a9:=Oj h1;subst a9;have a3:∀v∈l.map enc,J v.cells=k'/\v=.agg v.cells:=λv hv=>by
    obtain⟨a,_,rfl⟩:=cy.1 hv;exact⟨hk a,ha a⟩
   have a1:J l=len:=by
    rw[nS (λv hv=>(a3 v hv).1),bh]at F;exact Nat.eq_of_mul_eq_mul_right a4 F
   let⟨q1,q2,q3,q4⟩:=a8 l h2
   cases hx with
   |cons p q=>
   cases q with
   |cons q r=>
   cases r;cases q with
   |func u1 u2=>
   cases u1;cases u2;have Y:(l.map enc).length=J l:=bh ..;have hy:∀z,VR G (.arr k' m 0 len a0) z->VR G (.arr k' m 0 (l.map enc).length a0) z:=λz hz=>by rw[Y,a1];exact hz
   have gen:∀n (hn:n=J l),SWO (ltOf λx y:Fin n=>ep U d l x y)/\(∀x y:Fin n,(ltOf λx y:Fin n=>ep U d l x y) x y=I->(ltOf λx y:Fin n=>ep U d l x y) y x=I->x=y):=by
    intro n hn;subst hn;exact⟨q3,q4⟩
   have a2:=λhO=>SY L rfl aE zE ef eg a5 wr (rows:=l.map enc) (us:=l.map encF) hl a3 a4 (by rw[bh,bh]) (λi v u e1 e2=>by
    rw[ix,o6]at e1 e2;obtain⟨a,g1,rfl⟩:=e1;obtain⟨b,g2,rfl⟩:=e2;rw[g1]at g2;cases g2;exact hz a _) (ep U d l) (λi j u u' e1 e2=>by
    rw[ix,o6]at e1 e2;obtain⟨a,g1,rfl⟩:=e1;obtain⟨b,g2,rfl⟩:=e2;have e:ep U d l i j=U a b:=by
     unfold ep;rw[l8,l8,g1,g2];rfl
    rw[q2 i j a b g1 g2,e]) hO (gen _ Y).2 (by rw[Y];exact q1) (hy _ p)
   rw[S5]at a2;exact a2 (gen _ Y).1
  let⟨_,B⟩:=aZ B
  cases B;cases B
abbrev gL:=CK×cf×Nat
def ip(a:gL):aa:=.agg [.str a.1.1,.str a.1.2,.list 1 (a.2.1.map aw) (.own a.2.2)]
def xN(a:gL):aa:=.agg [.str a.1.1,.str a.1.2,.list 1 (a.2.1.map aw) .no]
end Go.Proofs.YtakkigoeiahlcaaGreat
namespace Go.Proofs.YtakkigoeiahlcaaGreat
open Tryz
open Go.Ag
variable{Q:ay}[Std Q]
open Go.Sort (SWO)
def u7(a b:CK):Int:=bif aj (gG a.1 b.1) 0 then gG a.2 b.2 else gG a.1 b.1
variable{s:St}
def ajM(u:No Q 96)(d:Q.spec 102=X pn)(a b:CK)(g:s.gE<=s.aL):ai Q 96 [.list 1 [.str a.1,.str b.1,.str a.2,.str b.2] .GT] s (bu (u7 a b)) s:=by
 have y:pn [.str a.1,.str b.1]=X (ah (gG a.1 b.1)):=rfl;have x:pn [.str a.2,.str b.2]=X (ah (gG a.2 b.2)):=rfl;have w:IntKind.i64.wrap (0+1)=1:=d_
 have w2:IntKind.i64.wrap (0+2)=2:=d_
 have j:IntKind.i64.wrap (2+1)=3:=d_
 have Y:IntKind.i64.wrap (2+2)=4:=d_
 have U:IntKind.i64.wrap (4+1)=5:=d_
 have H:aR 1 ((4:Nat):Int)=O:=d_
 have G:aR 3 ((4:Nat):Int)=O:=d_
 have l3:aR 5 ((4:Nat):Int)=I:=d_
 have F:dP (ah 0)=X 0:=rfl;have B:dP (ah 1)=X 1:=rfl;have A:dP (ah 2)=X 2:=rfl;have z:dP (ah 3)=X 3:=rfl;refine ai.ofNZ avb (aM ?_);simp only[go_sem,eG,eD,ct,eM,cN,eP,eT,eL,eN,eR,eO,reduceCtorEq,eJ];refine aF ?_;cases e1:aj (gG a.1 b.1) 0;have h:u7 a b=gG a.1 b.1:=by unfold u7;rw[e1];rfl
 simp only[go_sem,eG,eD,ct,eM,cN,eP,eT,eL,eN,eR,eO,reduceCtorEq,eJ,GW,w,H,F,B,g,m8,d,y,e1,h,bu];have h:u7 a b=gG a.2 b.2:=by unfold u7;rw[e1];rfl
 simp only[go_sem,eG,eD,ct,eM,cN,eP,eT,eL,eN,eR,eO,reduceCtorEq,eJ,GW,w,w2,H,F,B,g,m8,d,y,e1];refine aF ?_;cases e2:aj (gG a.2 b.2) 0;simp only[go_sem,eG,eD,ct,eM,cN,eP,eT,eL,eN,eR,eO,reduceCtorEq,eJ,GW,j,G,A,z,g,m8,d,x,e2,h,bu];have ez:gG a.2 b.2=0:=by simpa[aj]using e2
 simp only[go_sem,eG,eD,ct,eM,cN,eP,eT,eL,eN,eR,eO,reduceCtorEq,eJ,GW,j,Y,G,A,z,g,m8,d,x,e2];refine aF ?_;simp only[go_sem,eG,eD,ct,eM,cN,eP,eT,eL,eN,eR,eO,reduceCtorEq,eJ,GW,U,l3,h,ez,bu]
def ajL(h:No Q 95)(d:No Q 96)(g:Q.spec 102=X pn)(a b:gL)(w:s.gE<=s.aL):ai Q 95 [xN a,xN b] s (bu (u7 a.1 b.1)) s:=by
 have u:dP (ah 0)=X 0:=rfl;have j:dP (ah 1)=X 1:=rfl;refine ai.ofNZ ava (aM ?_);simp only[go_sem,eG,eD,ct,eM,cN,eP,eT,eL,eN,eR,eO,reduceCtorEq,eJ,xN,u,j,sB];refine aU.of (ajM d g a.1 b.1 w) d_ ?_;simp only[go_sem,eG,eD,ct,eM,cN,eP,eT,eL,eN,eR,eO,reduceCtorEq,eJ,bu]
def i9(l:ba)(d:p0×(Y_))(o:Obj):p0×(Y_):=(kA l o).foldl (jK o.id) d
theorem Ni(id:ae)(k:CK):∀(g:p0)(d:p0×(Y_)),((g.foldl (jK id) d).2 k).length<=(d.2 k).length+J g
 |[],d=>by simp
 |j::g,d=>by
  rw[AP];refine dg (Ni id k g _) ?_;have:((jK id d j).2 k).length<=(d.2 k).length+1:=by
   unfold jK;cases (d.2 j).contains id;simp only[cF];by_cases h:k=j;subst h;rw[sH,bI];simp;rw[lj _ _ h];omega;simp
  rw[bP];omega
variable{o:Obj}
def aCP(d:o.Al=2\/o.Al=3):(mI o).length<=J o.gT:=by
 rcases d with d|d
 rw[SQ d];omega;rw[aes d];exact aC _
variable{l:ba}
def aby(h:BE l o=I):kA l o=[]:=by unfold kA;rw[h];rfl
def abz(h:BE l o=O):kA l o=mI o:=by unfold kA;rw[h];rfl
def av7(b6:No Q 51)(a9:No Q 97)(b0:No Q 93)(a7:No Q 143)(a8:No Q 135)(b1:No Q 88){ov:aa}(ho:au 6 Obj.val ov l)(hg:∀o∈l,o.AL)(hl:J l<=1000)(hr:∀o∈l,J o.gT<=999){n m lo:Nat}(hn:n<lo)(d1:n≠m){s0:St}(hM:bf aa.str s0 n (iI 0 l)){K:hP}{KE:p0}{VE:Y_}(hx:∀e lc s T,A6 s m lo KE VE T->(∀k,k<lo->k≠m->s.get [] k=s0.get [] k)->s0.aL<=s.aL->s.gE<=s.aL->ac e 3=.map m->K (.exit 0) ⟨e,110,lc⟩ s):
 ∀(rest d:ba)(g:p0)(V1:Y_)(T1:CK->Nat)(e:ax)(lc:Ag.Loc)(s:St),l=d++rest->rest.foldl (i9 l) (g,V1)=(KE,VE)->A6 s m lo g V1 T1->(∀k,(V1 k).length<=999*J d)->(∀k,k<lo->k≠m->s.get [] k=s0.get [] k)->s0.aL<=s.aL->s.gE<=s.aL->
  ac e 3=.map m->ac e 17=ov->ac e 18=an (J l)->ac e 19=an (J d)->ac e 1=.Gt 1 1 0->lc.get 1 1=X [ov,.map n]->lc.gen 1=1->W Q 48 (.loop GN) ⟨e,110,lc⟩ s K:=by
 intro rest
 induction rest with
 |nil=>
  intro d g V1 T1 e lc s Y hf hO hV H a2 a0 h3 y u x r1 l1 g1;have d4:=cL Y;simp only[List.foldl_nil,bk]at hf;obtain⟨rfl,rfl⟩:=hf;refine aF ?_;simp only[go_sem,seval,GN,u,x,d4,bJ];exact hx _ _ _ T1 hO H a2 a0 (by simp only[sN,seval,h3])
 |cons o rest ih=>
  intro d g V1 T1 e lc s Y hf hO hV H a2 a0 h3 y u x r1 l1 g1
  let⟨hlt,hat⟩:=cR Y
  have a5:=λlc k=>ho.at ek.2.2.1 hat lc k;have G:=cm (n:=J d) w_;have c0:=cq hat;have go:=hg o c0;have e8:=hr o c0;have rc:=go.gT.gt;have tc:=go.uP.gt;have c2:=ho.gt;have d2:=go.gT.lenS bM;rw[AP]at hf;have c6:∀k,(V1 k).length<=999*(d++[o]).length:=λk=>by
   have:=hV k;rw[bI,bP,bC];omega
  have e9:=hO.mlt;have f0:=hO.los;refine aF ?_;by_cases hk:o.Al=2\/o.Al=3
  ·have d5:bf aa.str s n (iI 0 l):=(H n hn d1).trans hM
   have a1:=axH b0 a7 a8 b1 ho d5 w_ go w_;obtain⟨z,hz⟩:=cw (s.new (.cells [ov,.map n]));rw[hz]at a1;have zn:z.aL=s.aL+1:=by rw[<-hz];rfl
   have zo:∀j,j<s.aL->z.get [] j=s.get [] j:=λj hj=>by rw[<-hz,ei,bN.2 (by omega:j≠s.aL)];rfl
   have zm:z.gE<=z.aL:=by rw[<-hz];exact co a0
   have zO:A6 z m lo g V1 T1:=hO.mono (zo m w_) (λk hk=>zo _ (hO.tok k hk).2.2) w_;have a6:∀k,k<lo->k≠m->z.get [] k=s0.get [] k:=λk Y h2=>(zo k w_).trans (H k Y h2);have U:(aj o.Al 2=O)\/(aj o.Al 2=I/\aj o.Al 3=O):=by
    rcases hk with h|h
    left;rw[h];rfl;right;rw[h];exact R_
   have a4:BE l o=o.gT.all (dH l):=by
    unfold BE;rcases U with h|⟨h,h'⟩
    rw[h];rfl;rw[h,h'];rfl
   have fin:∀(F:ax)(w:Ag.Loc),o.gT.all (dH l)=O->ac F 3=.map m->ac F 17=ov->ac F 18=an (J l)->ac F 19=an (J d)->ac F 1=.Gt 1 1 0->w.get 1 1=X [ov,.map n]->w.gen 1=1->∀g5,ac F 5=.Gt 5 g5 0->w.gen 5=g5->w.get 5 g5=X o.cells->
    ac F 38=o.refsV->ac F 39=an (J o.gT)->ac F 40=ah ((0:Nat):Int)->∀K':hP,(∀B A s2 T2,A6 s2 m lo (i9 l (g,V1) o).1 (i9 l (g,V1) o).2 T2->(∀k,k<lo->k≠m->s2.get [] k=s0.get [] k)->s0.aL<=s2.aL->s2.gE<=s2.aL->ac B 3=.map m->ac B 17=ov->ac B 18=an (J l)->ac B 19=an (J d)->ac B 1=.Gt 1 1 0->A.get 1 1=X [ov,.map n]->A.gen 1=1->K' (.exit 2) ⟨B,110,A⟩ s2)->W Q 48 (.loop GM) ⟨F,110,w⟩ z K':=by
    intro F w c4 c3 e7 e6 e5 c1 cl cg g5 c5 d7 d6 e4 e3 e0 K' hK;have b8:i9 l (g,V1) o=(mI o).foldl (jK o.id) (g,V1):=by
     unfold i9;rw[abz (by rw[a4];exact c4)]
    exact awH b6 a9 go hk w_ (s0:=z) (KE:=(i9 l (g,V1) o).1) (VE:=(i9 l (g,V1) o).2) (n17:=ov) (n18:=J l) (n19:=J d) (x1:=X [ov,.map n]) (λB A s2 T2 q1 q2 q3 q4 q5 q6 q7 q8 q9 c8 c7=>hK B A s2 T2 q1 (λk Y h2=>(q2 k Y h2).trans (a6 k Y h2)) w_ q4 q5 q6 q7 q8 q9 c8 c7) (J o.gT) 0 g V1 T1 F w z w_ (by rw[kG,b8]) zO (λk=>by have:=hV k;omega) (λ_ _ _=>rfl) (aC _) zm c3 e7 e6 e5 c1 cl cg c5 d7 d6 e4 e3 e0
   rcases U with e1|⟨e1,B⟩
   case' inl=>simp only[go_sem,seval,GN,r1,l1,g1,y,u,x,hlt,a5,G,e1,c2,rc,tc,Obj.val,Obj.cells]
   case' inr=>simp only[go_sem,seval,GN,r1,l1,g1,y,u,x,hlt,a5,G,e1,B,c2,rc,tc,Obj.val,Obj.cells]
   all_goals
    refine aU.of a1 d_ ?_;cases hb:o.gT.all (dH l)with
    |false=>
     have a3:i9 l (g,V1) o=(g,V1):=by
      unfold i9;rw[aby (by rw[a4];exact hb)];rfl
     rw[a3]at hf;simp only[go_sem,seval,x,G];refine ih (d++[o]) g V1 T1 _ _ z (db Y) hf zO c6 a6 w_ zm ?_ ?_ ?_ ?_ ?_ ?_ ?_<;>simp only[aah,ct,h3,y,u,r1,l1,g1,sA]
    |true=>
     simp only[go_sem,seval,Obj.cells,d2,rc,tc];refine fin _ _ hb ?_ ?_ ?_ ?_ ?_ ?_ ?_ (lc.gen 5+1) ?_ ?_ ?_ ?_ ?_ ?_ _ ?_
     case refine_14=>
      intro f1 A s2 T2 p1 p2 p3 p4 p5 p6 p7 p8 p9 d0 c9;simp only[go_sem,seval,p8,G];refine ih (d++[o]) (i9 l (g,V1) o).1 (i9 l (g,V1) o).2 T2 _ _ s2 (by rw[Y];simp) hf p1 (λk=>?_) p2 p3 p4 ?_ ?_ ?_ ?_ ?_ ?_ ?_;have q1:=Ni o.id k (mI o) (g,V1);have q2:=aCP hk;have q3:=hV k;have q4:(i9 l (g,V1) o).2 k=((mI o).foldl (jK o.id) (g,V1)).2 k:=by
       unfold i9;rw[abz (by rw[a4];exact hb)]
      rw[q4,bI,bP,bC];simp only at q1;omega
      all_goals simp only[aah,ct,p5,p6,p7,p9,d0,c9,sA]
     all_goals simp only[aah,ct,h3,y,u,x,r1,l1,g1,Obj.cells,bS]
     all_goals rfl
  have e1:aj o.Al 2=I:=by simp only[aj,bN];exact λh=>hk (.inl h)
  have B:aj o.Al 3=I:=by simp only[aj,bN];exact λh=>hk (.inr h)
  have a3:i9 l (g,V1) o=(g,V1):=by
   unfold i9;rw[aby (by unfold BE;rw[e1,B];rfl)];rfl
  rw[a3]at hf;simp only[go_sem,seval,GN,r1,l1,g1,y,u,x,hlt,a5,G,e1,B,Obj.val,Obj.cells];refine ih (d++[o]) g V1 T1 _ _ s (db Y) hf hO c6 H a2 a0 ?_ ?_ ?_ ?_ ?_ ?_ ?_<;>simp only[aah,ct,h3,y,u,r1,l1,g1,sA]
end Go.Proofs.YtakkigoeiahlcaaGreat
namespace Go.Proofs.YtakkigoeiahlcaaGreat
open Tryz
open Go.Ag
open Go.Sort (SWO)
theorem I8(a b:ae):gG a b=cK a b:=by
 unfold gG;cases h:Op.bytesLess a b;have j:¬cK a b<0:=λd=>by rw[(ou a b).1 d]at h;cases h
 have u:=Bi a b;cases h2:Op.bytesLess b a;have g:¬cK b a<0:=λd=>by rw[(ou b a).1 d]at h2;cases h2
 simp only[cF];omega;have g:=(ou b a).2 h2;rcases VH a b with e|e|e
 omega;omega;rw[e];rfl;have j:=(ou a b).2 h;rcases VH a b with e|e|e
 rw[e];rfl;omega;omega
def Ja(a b:CK):u7 a b=iX a b:=by
 unfold u7 iX;rw[I8,I8]
def Fz:aa->Option gL
 |.agg [.str a,.str b,.list 1 xs .no]=>(jB iV xs).bind λl=>X ((a,b),l,0)
 |_=>Z
def ag7(a:gL):Fz (xN a)=X (a.1,a.2.1,0):=by
 show(jB iV (a.2.1.map aw)).bind (λl=>X ((a.1.1,a.1.2),l,0))=_;rw[zZ oo];rfl
def UK{v:aa}{a:gL}(h:Fz v=X a):v=xN a:=by
 unfold Fz at h;split at h;simp only[ak,aQ]at h;obtain⟨l,d,rfl⟩:=h;rw[Hb (λ_ _ h=>pg h) d];rfl;cases h
def N8:Sp
 |[u,v]=>(Fz u).bind λa=>(Fz v).bind λb=>X (bu (u7 a.1 b.1))
 |_=>Z
def av0(a:gL):bn (xN a)=O:=by
 simp only[xN,bn,pures,B6 pT,bZ,wy]
def agB:dy:=[(102,pn)]
def agC:eh agB:=.cons N6 .nil
def ajV:cW ag 95 N8:=by
 refine H0 agC (W:=[]) .nil λd u h=>?_;unfold N8 at h;split at h;simp only[ak]at h
 let⟨a,h1,b,h2,h⟩:=h
 have h:=sI h;subst h;rw[UK h1,UK h2];refine⟨by simp only[pures,av0,bZ],λg=>⟨_,_,ajL R_ R_ rfl a b (aC _),1,rfl⟩⟩;cases h
abbrev B_:=List gL
noncomputable def Ee(l:B_):Bool:=by classical exact decide (J l<=1000000/\(l.map (·.1)).Nodup)
abbrev jg:gL:=(([],[]),[],0)
def nI(a b:gL):Int:=u7 a.1 b.1
noncomputable def Mc:=yi ip nI jg Ee 3 95
def Mi{α β:Type}{d:α->α->Int}(h:SWO (ltOf d))(k:β->α):SWO (ltOf λx y=>d (k x) (k y)) where
 irrefl x:=h.irrefl (k x)
 trans x y z:=h.trans (k x) (k y) (k z)
 ntrans x y z:=h.ntrans (k x) (k y) (k z)
def av1(a:gL)(h:aB aH):fF h (ip a) (xN a):=by
 refine⟨3,?_⟩;have:da (b9 h 1) (a.2.1.map aw)=X (a.2.1.map aw):=rN λv d=>by
  obtain⟨x,_,rfl⟩:=cy.1 d;rfl
 show(da (b9 h 2) [.str a.1.1,.str a.1.2,.list 1 (a.2.1.map aw) (.own a.2.2)]).bind (λr=>X (aa.agg r))=_;have e:b9 h 2 (.list 1 (a.2.1.map aw) (.own a.2.2))=X (.list 1 (a.2.1.map aw) .no):=by
  show(da (b9 h 1) (a.2.1.map aw)).bind (λys=>X (aa.list 1 ys .no))=_;rw[this];rfl
 simp only[da,e,aG];rfl
def aDh:uV 94 Mc:=by
 refine aDj (encF:=xN) Tryz.sortF220 rfl Tryz.isAgg120 Tryz.sizeOf120 (Go.Proofs.enters_of func94 k_ rfl) (Go.Proofs.enters_of func95 k_ rfl) ajV (λ_=>rfl) (λ_=>rfl) d_ av1 λl d=>?_;simp only[Ee,dE]at d;refine⟨d.1,λi j x y z w=>?_,?_,?_⟩;simp only[N8,ag7,aG];rfl;have e:(λx y:Fin (J l)=>ep nI jg l x y)=λx y:Fin (J l)=>iX (l.getD x jg).1 (l.getD y jg).1:=by
  funext x y;simp only[ep,nI,Ja]
 rw[e];exact Mi H2 λi:Fin (J l)=>(l.getD i jg).1;intro x y u g;have e:(λx y:Fin (J l)=>ep nI jg l x y)=λx y:Fin (J l)=>iX (l.getD x jg).1 (l.getD y jg).1:=by
  funext x y;simp only[ep,nI,Ja]
 rw[e]at u g;have h:=ae6 _ _ u g;rw[Dv,Dv]at h;exact Fin.ext (K4 d.2 (i:=x) (j:=y) (x:=l[x]) (y:=l[y]) (by simp) (by simp) h)
def aB2{K:p0}(G:K.Nodup)(U:J K<=1000000)(g:CK->gL)(F:∀k,(g k).1=k){rows:B_}(z:rows.Perm (K.map g)):Ee rows=O/\jS nI jg rows=(EM K).map g:=by
 have B:(K.map g).map (·.1)=K:=by
  rw[l9]
  conv=>rhs;rw[<-List.map_id K]
  exact Ip λk _=>F k
 have A:Ee rows=O:=by
  simp only[Ee,dE];refine⟨by rw[z.length_eq,bh];exact U,?_⟩;rw[(z.map _).nodup_iff,B];exact G
 refine⟨A,?_⟩;have j:=(we nI jg rows).trans z;have Y:SWO (ltOf λx y:Fin (J rows)=>ep nI jg rows x y):=by
  have e:(λx y:Fin (J rows)=>ep nI jg rows x y)=λx y:Fin (J rows)=>iX (rows.getD x jg).1 (rows.getD y jg).1:=by
   funext x y;simp only[ep,nI,Ja]
  rw[e];exact Mi H2 λi:Fin (J rows)=>(rows.getD i jg).1
 have H:=Mb nI jg rows Y;have d:(jS nI jg rows).map (·.1)=EM K:=by
  refine aDc (((j.map _).trans (by rw[B])).trans (HY K).symm) ?_ (aeC K);rw[yN];refine H.imp λ{a b} h=>?_;simp only[nI,Ja]at h;simp only[ltOf,ny,decide_eq_false_iff_not];exact h
 have u:∀x∈jS nI jg rows,x=g x.1:=λx w=>by
  obtain⟨k,_,rfl⟩:=cy.1 (j.mem_iff.1 w);rw[F]
 rw[<-d,l9]
 conv=>lhs;rw[<-List.map_id (jS nI jg rows)]
 exact Ip λx w=>u x w
end Go.Proofs.YtakkigoeiahlcaaGreat
namespace Go.Proofs.YtakkigoeiahlcaaGreat
open Tryz
open Go.Ag
variable{Q:ay}[Std Q]
variable{R:B_}
def Ro:∀v∈R.map ip,J v.cells=3:=λv d=>by
 obtain⟨x,_,rfl⟩:=cy.1 d;rfl
variable{m:Nat}{s:St}{α:Type}{t:TypeId}
def avS{enc:α->aa}{kt e:TypeId}(d:ag.underlying t=X (.map kt e)){L:List (α×aa)}(h:bf enc s m L):fN ag [] t (.map m) s=X (an (J L)):=by
 have h:s.get [] m=_:=h;simp only[fN,d,aG,h,Ou]
def afd:ag.underlying 180=X (.map 116 25):=k_
variable{E:EI}{sz:Nat}
def ag4(H:js ag t=X E)(w:E.n=sz)(G:E.b<=88){k:Nat}{xs:az}(x:aa)(g:∀y∈xs,J y.cells=sz)(z:J xs<1000000)(B:s.gE<=s.aL)(F:s.get [] k=X (.cells (aq xs)))(mu:Bool):
 ∃d,cJ ag [] t (.arr sz k 0 (J xs) (J xs)) (.list sz [x] .GT) mu s=X (.arr sz s.aL 0 (J xs+1) (J xs+1),d)/\d.get [] s.aL=X (.cells (aq (xs++[x])))/\d.aL=s.aL+1/\d.ci=s.ci/\d.gE<=d.aL/\(∀n,n<s.aL->n≠k->d.get [] n=s.get [] n):=by
 subst w;have A:eB (J xs+1) E.b=O:=ui w_ G;have u:(aq xs).length=J xs*E.n:=OJ g;have j:aq [x]=x.cells:=by show x.cells++aq []=_;simp[aq]
 refine⟨(s.put k Z).new (.cells (aq (xs++[x]))),?_,?_,rfl,rfl,?_,λn w h=>?_⟩;simp only[aaa,cJ,H,aG,cU,fy,F,bP,bC,dS,A,u,bZ,kG,j,mY];rw[ei,kB,bS];rfl;exact co (cG s k Z B);rw[ei,kB,bN.2 (by omega:n≠s.aL),cF,aO,bN.2 h];rfl
variable{C:hP}{it:Nat}
def av3(hK:∀i,1000000<=Q.kmax i){K:p0}{V:Y_}{T:CK->Nat}(a0:J K<1000000){s0:St}(hx:∀e lc s (r:Nat) (rows:B_),rows.Perm (K.map λk=>(k,V k,T k))->ac e 11=.arr 3 r 0 (J rows) (J rows)->s.get [] r=X (.cells (aq (rows.map ip)))->r<s.aL->s0.aL<=r->(∀n,n<s0.aL->s.get [] n=s0.get [] n)->s.gE<=s.aL->C (.exit 4) ⟨e,110,lc⟩ s):
 ∀(c:Nat)(seen:be)(e:ax)(lc:Ag.Loc)(s:St)(r:Nat),c+J seen=J K->ij jf s it m (gw K λk=>.list 1 ((V k).map aw) (.own (T k))) seen->ac e 95=.ptr it 0->ac e 11=.arr 3 r 0 (J seen) (J seen)->s.get [] r=X (.cells (aq ((seen.map λb=>((λk=>(k,V k,T k):CK->gL) (K.getD b ([],[])))).map ip)))->
  s0.aL<=r->s0.aL<=it->m<s0.aL->r<s.aL->it<s.aL->r≠it->(∀n,n<s0.aL->s.get [] n=s0.get [] n)->s.gE<=s.aL->W Q 48 (.loop Qu) ⟨e,110,lc⟩ s C:=by
 intro c
 induction c with
 |zero=>
  intro seen e lc s r hc z d j F l1 l2 Y U l5 A h g;rcases z.aL Q.ch Q.kmax (λi=>by rw[uy];have:=hK i;omega)with⟨hp,hnx⟩|⟨b,p,s1,hb,hnm,hlt,_⟩
  rw[uy]at hp;refine aF ?_;simp only[go_sem,seval,Qu,d,tF,hnx,sB];refine hx _ _ _ r (seen.map λb=>((λk=>(k,V k,T k):CK->gL) (K.getD b ([],[])))) ?_ (by simp only[sN,seval,j,bh]) F U l1 h g;have h1:=hp.map λb=>((λk=>(k,V k,T k):CK->gL) (K.getD b ([],[])));refine h1.trans ?_;have:(ii (J K)).map (λb=>((λk=>(k,V k,T k):CK->gL) (K.getD b ([],[]))))=K.map λk=>(k,V k,T k):=by
   refine Fb (by simp) λi h1 h2=>?_;have y:i<J K:=by simpa using h2
   simp[l8,y]
  rw[this];rw[uy]at hlt;omega
 |succ c ih=>
  intro seen e lc s r hc z d j F l1 l2 Y U l5 A h g;rcases z.aL Q.ch Q.kmax (λi=>by rw[uy];have:=hK i;omega)with⟨hp,hnx⟩|⟨b,p,s1,hb,hnm,hlt,hnx,ho,y,hn1,hm1⟩
  have:=hp.length_eq;rw[uy,CA]at this;omega;have x:b<J K:=by
   have:=(ie.1 hb).1;rwa [uy]at this
  have G:p=(K[b],.list 1 ((V K[b]).map aw) (.own (T K[b]))):=by
   have:(gw K λk=>aa.list 1 ((V k).map aw) (.own (T k)))[b]?=X (K[b],.list 1 ((V K[b]).map aw) (.own (T K[b]))):=by
    unfold gw;rw[ix,dA x];rfl
   rw[this]at hb;exact(sI hb).symm
  have H:m≠it:=w_
  have I1:=z.go H hb hnm ho y;have w:=ij.entry y I1.hm hb;have u:s1.gE<=s1.aL:=by rw[hm1,hn1];exact cG s it Z g
  have B:s1.get [] r=_:=(ho r A).trans F
  let⟨s2,a1,a2,a3,a4,a5,a6⟩:=ag4 (t:=113) Ch.1 rfl d_ (ip (K[b],V K[b],T K[b])) Ro (by rw[bh,bh];rw[uy]at hlt;omega) u B I
  rw[bh,bh]at a1;subst G;simp only[jf]at hnx w;simp only[ip]at a1;refine aF ?_;simp only[go_sem,seval,Qu,d,j,tF,Du,hnx,w,sB,a1];refine ih (seen++[b]) _ _ s2 s1.aL (by rw[bI];simp only[bP,bC];omega) ⟨?_,?_,I1.nd,I1.lt⟩ ?_ ?_ ?_ w_ l2 Y w_ w_ w_ (λn hn=>?_) a5;rw[a6 it w_ (λe=>A e.symm)];exact I1.hi;exact(a6 m w_ w_).trans I1.hm;simp only[sN,seval,d];simp only[sN,seval,sA];rw[a2,dj,dj];simp[l8,x,ip];rw[a6 n w_ w_,ho n w_];exact h n hn
def gZ(l:ba):p0×(Y_):=l.foldl (i9 l) ([],λ_=>[])
theorem agK(id:ae)(k:CK)(d:p0×(Y_))(h1:d.1.Nodup)(g:∀j,j ∉ d.1->d.2 j=[]):(jK id d k).1.Nodup/\(∀j,j ∉ (jK id d k).1->(jK id d k).2 j=[])/\(jK id d k).1.length<=J d.1+1:=by
 unfold jK;cases (d.2 k).contains id
 grind [zh,agL,sj,lj]
 exact⟨h1,g,iy _⟩
theorem aeq(id:ae):∀(g:p0)(d:p0×(Y_)),d.1.Nodup->(∀j,j ∉ d.1->d.2 j=[])->(g.foldl (jK id) d).1.Nodup/\(∀j,j ∉ (g.foldl (jK id) d).1->(g.foldl (jK id) d).2 j=[])/\(g.foldl (jK id) d).1.length<=J d.1+J g
 |[],d,h1,h2=>⟨h1,h2,aC _⟩
 |k::g,d,h1,h2=>by
  let⟨a,b,c⟩:=agK id k d h1 h2
  let⟨a',b',c'⟩:=aeq id g _ a b
  grind
theorem RX(l:ba):∀(os:ba)(d:p0×(Y_)),d.1.Nodup->(∀j,j ∉ d.1->d.2 j=[])->(os.foldl (i9 l) d).1.Nodup/\(∀j,j ∉ (os.foldl (i9 l) d).1->(os.foldl (i9 l) d).2 j=[])/\(os.foldl (i9 l) d).1.length<=J d.1+(os.flatMap (kA l)).length
 |[],d,h1,h2=>⟨h1,h2,aC _⟩
 |o::os,d,h1,h2=>by
  let⟨a,b,c⟩:=aeq o.id (kA l o) d h1 h2
  let⟨a',b',c'⟩:=RX l os (i9 l d o) a b
  grind [i9]
def azz(l:ba):(gZ l).1.Nodup:=(RX l l ([],λ_=>[]) CC λ_ _=>rfl).1
theorem adk(l:ba):(gZ l).1.length<=(l.flatMap (kA l)).length:=by
 have:(gZ l).1.length<=([]:p0).length+(l.flatMap (kA l)).length:=(RX l l ([],λ_=>[]) CC λ_ _=>rfl).2.2
 grind
def iJ(l:ba):p0:=EM (gZ l).1
def afP(s:St)(v:aa)(l:ba):Prop:=∃(r c:Nat)(T:CK->Nat),v=.arr 3 r 0 (iJ l).length c/\s.get [] r=X (.cells (aq ((iJ l).map λk=>ip (k,(gZ l).2 k,T k))))/\r<s.aL
def av2{a b:gL}(h:(ip a).cells=(ip b).cells):a=b:=by
 let⟨⟨a1,a2⟩,a3,a4⟩:=a
 let⟨⟨b1,b2⟩,b3,b4⟩:=b
 simp only[ip,mo,List.cons.injEq,aa.str.injEq,aa.list.injEq,gV.own.injEq,aT,tA]at h;obtain⟨rfl,rfl,g,rfl⟩:=h;have:a3=b3:=by
  have d:=zZ oo a3;rw[g,zZ oo b3]at d;exact(sI d).symm
 rw[this]
variable{l:ba}{n:Nat}{ov:aa}
theorem avW(hK:∀i,1000000<=Q.kmax i)(b6:No Q 48)(j:Q.spec 94=Z)(y:Q.specW 94=X Mc)(B:No Q 51)(x:No Q 97)(z:No Q 93)(u:No Q 143)(w:No Q 135)(A:No Q 88)(ho:au 6 Obj.val ov l)(hg:∀o∈l,o.AL)(hl:J l<=1000)(hr:∀o∈l,J o.gT<=999)(a8:(gZ l).1.length<1000000)(hM:bf aa.str s n (iI 0 l))(hn:n<s.aL)(a3:s.gE<=s.aL):
 ∃v s',ai Q 48 [.agg [ov,.map n]] s v s'/\(afP s' v l/\(∀k,k<s.aL->s'.get [] k=s.get [] k)/\s.aL<=s'.aL/\s'.gE<=s'.aL/\v.gt=O):=by
 have b0:=ho.cs;have a6:=ho.lenS ek;refine ai.ofNRZ atN (aM ?_);simp only[go_sem,seval,b0,a6,jA];have b1:A6 (s.new (.map [] 0)) s.aL (s.aL+1) [] (λ_=>[]) (λ_=>0):=⟨cr,CC,λ_ h=>(by cases h),λ_ h=>(by cases h),λ_ _=>rfl,iA _,aC _⟩;refine av7 B x z u w A ho hg hl hr (n:=n) (m:=s.aL) (lo:=s.aL+1) w_ w_ (s0:=s.new (.map [] 0)) (by show St.get _ [] n=_;rw[cQ hn];exact hM) (KE:=(gZ l).1) (VE:=(gZ l).2) ?_ l [] [] (λ_=>[]) (λ_=>0) _ _ _ rfl rfl b1 (λ_=>fT _) (λ_ _ _=>rfl) (aC _) (co a3) ?_ ?_ ?_ ?_ ?_ ?_ ?_
 ·intro e lc d T hO c3 a2 U h3
  have g:=avS afd hO.hm;rw[uy]at g;have a4:nN ag 113 (ah 0) (an (gZ l).1.length) O d=X (.arr 3 d.aL 0 0 0,d.new (.cells [])):=by
   have h1:aP 0 (gZ l).1.length=O:=bG (fT _);have h2:aP ((gZ l).1.length*56) 1099511627776=O:=bG w_;have h3:aP (gZ l).1.length 1099511627776=O:=bG w_;have n0:dP (ah 0)=X 0:=rfl;simp only[aac,nN,Ch,n0,nP,h1,h2,h3,sO,kU,cF,fD]
  have b8:s.aL+1<=d.aL:=a2;have Y:bf jf (d.new (.cells [])) s.aL (gw (gZ l).1 λk=>.list 1 (((gZ l).2 k).map aw) (.own (T k))):=by
   show St.get _ [] s.aL=_;rw[cQ w_];exact hO.hm
  have F:=ij.new afd Y;have hI:=ij.begin Y (by show s.aL<d.aL+1;omega);rw[uy]at F;simp only[go_sem,seval,h3,g,Sf,a4,F7,F];refine av3 hK (it:=d.aL+1) (m:=s.aL) (K:=(gZ l).1) (V:=(gZ l).2) (T:=T) a8 (s0:=d) ?_ (gZ l).1.length [] _ _ _ d.aL (by simp) (by rw[uy]at hI;exact hI) ?_ ?_ ?_ (aC _) (iy _) w_ ?_ ?_ w_ (λk hk=>?_) ?_
  ·intro e2 c1 s2 r rows hp a0 a1 a5 c2 c0 G
   let⟨hok,hsort⟩:=aB2 (azz l) w_ (λk=>(k,(gZ l).2 k,T k)) (λ_=>rfl) hp
   have a7:J rows=(iJ l).length:=by rw[hp.length_eq,bh];exact(HY _).length_eq.symm
   have a9:(bif aA (aq (rows.map ip)).length (J rows*3)then yh ip nI jg Ee (aq (rows.map ip))else Z)=X (aq ((iJ l).map λk=>ip (k,(gZ l).2 k,T k))):=by
    have h1:(aq (rows.map ip)).length=J rows*3:=by rw[nS Ro,bh]
    rw[h1,cd,bS,cT,yh,Jf (k:=3) (λ_=>rfl) d_ (λa b=>av2)];simp only[aaf,hok,hsort,l9];rfl
   simp only[go_sem,seval,a0,j];refine aU.of (ai.specWp (n:=r) (cs':=aq ((iJ l).map λk=>ip (k,(gZ l).2 k,T k))) j (Std.H _) y rfl a1 a9) d_ ?_;simp only[go_sem,seval,a0];refine⟨_,rfl,⟨r,rows.length,T,by rw[a7],by rw[aO,bS];rfl,a5⟩,λk hk=>?_,?_,cG s2 r _ G,rfl⟩
   all_goals grind [aO,cQ]
  simp only[sN,seval]<;>rfl;simp only[sN,seval]<;>rfl;rw[cQ (by show d.aL<d.aL+1;omega),cr];rfl;show d.aL<d.aL+1+1;omega;show d.aL+1<d.aL+1+1;omega;rw[cQ (by show k<d.aL+1;omega),cQ hk];exact co (co U)
 all_goals simp_all [fA,iG,iK]
variable{lo:Nat}
def UD(B:js ag t=X E)(u:E.n=sz)(z:E.b<=88){enc:α->aa}{l:List α}(A:bU sz lo s ov (l.map enc))(a:α)(w:J l<=900000)(j:lo<=s.aL)(x:s.gE<=s.aL):
 ∃d g,cJ ag [] t ov (.list sz [enc a] .GT) I s.top=X (d,g)/\bU sz lo (s.GE g) d ((l++[a]).map enc)/\g.ci=s.ci/\s.aL<=g.aL/\(s.GE g).gE<=(s.GE g).aL/\(∀n,n<lo->(s.GE g).get [] n=s.get [] n)/\d.gt=O/\d.cells=[d]:=by
 let⟨d,g,h1,h2,h3,h4,h5,h7,h6⟩:=Fy (t:=t) B u z (s:=s.top) (y:=.list sz [enc a] .GT) (ys:=[enc a]) (show bU sz lo s.top ov _ from A) (by subst u;simp only[aaa,cU]) (by rw[bh];show J l+1<=1000000;omega) j (aC _)
 have h:s.aL<=g.aL:=h4;have e:(l++[a]).map enc=l.map enc++[enc a]:=by rw[dj];rfl
 exact⟨d,g,h1,by rw[e];exact h2,h3,h,nL x h,h7,h2.gt,h6⟩
variable{i:Nat}
def KR{r:Nat}(h:s.get [] r=X (.cells (aq (R.map ip)))){x:gL}(hi:R[i]?=X x):zV ag 120 (i*3) (s.get [] r)=X (ip x):=by
 rw[h,qF,adJ,ad8 Ro (by rw[ix,hi];rfl)];rfl
def Rp(mk:aI)(n m o l c:Nat)(s:St):fN ag mk 113 (.arr n m o l c) s=X (an l):=k_
def HH{k:ae}{q:Obj}(h:cD k l=X q):eV l k=(q.x,q.y):=by unfold eV;rw[h]
variable{K:hP}{c:Nat}
def aCB(u:No Q 50)(ho:au 6 Obj.val ov l){r:Nat}(b8:J R<=1000)(hk:∀x∈R,(∃q,cD x.1.1 l=X q)/\∃q,cD x.1.2 l=X q){s0:St}(hM:bf aa.str s0 n (iI 0 l))(hr:s0.get [] r=X (.cells (aq (R.map ip))))(hn:n<lo)(b0:r<lo)(hx:∀e lc s sv,bU 4 lo s sv ((R.map λx=>oQ l x.1).map bV)->(∀k,k<lo->s.get [] k=s0.get [] k)->s.gE<=s.aL->lo<=s.aL->ac e 5=sv->K (.exit 0) ⟨e,30,lc⟩ s):
 ∀(rest d:B_)(e:ax)(lc:Ag.Loc)(s:St)(sv:aa),R=d++rest->bU 4 lo s sv ((d.map λx=>oQ l x.1).map bV)->(∀k,k<lo->s.get [] k=s0.get [] k)->s.gE<=s.aL->lo<=s.aL->ac e 5=sv->ac e 8=.arr 3 r 0 (J R) c->ac e 9=an (J R)->ac e 10=an (J d)->ac e 2=.Gt 2 1 0->lc.get 2 1=X [ov,.map n]->lc.gen 2=1->W Q 53 (.loop Qx) ⟨e,30,lc⟩ s K:=by
 intro rest
 induction rest with
 |nil=>
  intro d e lc s sv h1 U h g z h5 h8 h9 j h2 B g2;have b6:=cL h1;have b1:d=R:=by rw[h1];simp
  refine aF ?_;simp only[go_sem,seval,Qx,h9,j,b6,bJ];rw[b1]at U;exact hx _ _ _ sv U h g z (by simp only[sN,seval,h5])
 |cons x rest ih=>
  intro d e lc s sv h1 U h g z h5 h8 h9 j h2 B g2
  let⟨hlt,hat⟩:=cR h1
  have a9:s.get [] r=_:=(h r b0).trans hr;have H:=KR a9 hat;have a0:=cm (n:=J d) w_;have Y:bf aa.str s.top n (iI 0 l):=(h n hn).trans hM
  let⟨⟨q1,hq1⟩,⟨q2,hq2⟩⟩:=hk x (cq hat)
  have p1:=Sk u ho Y hq1;have p2:=Sk u ho Y hq2;have A:=ho.gt;have w:=U.gt;have G:=iZ g;have n0:dP (ah 0)=X 0:=rfl;have n1:dP (ah 1)=X 1:=rfl
  let⟨sv',s1,a1,a2,a3,a4,a5,a6,a7,a8⟩:=UD (t:=125) Aw.1 rfl d_ U (oQ l x.1) (by
   rw[bh];omega) z g
  have F:bV (oQ l x.1)=.agg [ah q1.x,ah q1.y,ah q2.x,ah q2.y]:=by
   simp only[bV,oQ,HH hq1,HH hq2]
  rw[F]at a1;simp only[ip]at H;refine aF ?_;simp only[go_sem,seval,Qx,h8,h9,j,hlt,H,Ch,Vj,h5,h2,B,g2,w,A,n0,n1,g];refine jx.calm g p1 d_ (by rfl) ?_;simp only[go_sem,seval,h5,h2,B,g2,w,A,n0,n1];refine jx.calm g p2 d_ (by rfl) ?_;simp only[go_sem,seval,aX,j,a0,h5,h2,B,g2,w,A,n0,n1,a1,a3,a4,a7,G,sB];refine ih (d++[x]) _ _ (s.GE s1) sv' (by rw[h1];simp) (by rw[dj];exact a2) (λk hk=>(a6 k hk).trans (h k hk)) a5 (by show lo<=s1.aL;omega) ?_ ?_ ?_ ?_ ?_ ?_ ?_
  all_goals simp only[aah,ct,h2,B,g2,h8,h9,sA]
def aCC(B:No Q 53)(d:No Q 50)(F:au 6 Obj.val ov l){r:Nat}(y:J R<=1000)(Y:∀x∈R,(∃q,cD x.1.1 l=X q)/\∃q,cD x.1.2 l=X q)(hM:bf aa.str s n (iI 0 l))(H:s.get [] r=X (.cells (aq (R.map ip))))(U:n<s.aL)(j:r<s.aL)(u:s.gE<=s.aL):
 ∃v s',ai Q 53 [.agg [ov,.map n],.arr 3 r 0 (J R) c] s v s'/\(au 4 bV v (R.map λx=>oQ l x.1)/\(∀k,k<s.aL->s'.get [] k=s.get [] k)/\s.aL<=s'.aL/\s'.gE<=s'.aL):=by
 have A:=F.cs;refine ai.ofNRZ atT ?_;refine aM ?_;simp only[go_sem,seval,A,Rp];refine aCB d F (c:=c) (lo:=s.aL) y Y hM H U j ?_ R [] _ _ s .Ge rfl (.inl R_) (λ_ _=>rfl) u (aC _) ?_ ?_ ?_ ?_ ?_ ?_ ?_;intro e lc s1 sv G z g w h5;have h:=G.gt;simp only[go_sem,seval,h5,h];exact⟨_,rfl,G.isL,z,w,g⟩
 all_goals simp only[aah,oD,ct,cN,bC,bS]
 all_goals rfl
def RI(x y z:Int):Int:=match tT I (.int .i64 x) [.int .i64 y,.int .i64 z]with|some (.int _ w)=>w|_=>0
def RL(x y z:Int):Int:=match tT O (.int .i64 x) [.int .i64 y,.int .i64 z]with|some (.int _ w)=>w|_=>0
def U6(P:Program)(mk:aI)(d:z_)(mu:Bool)(x y z:Int)(s:St):fZ P mk .min d mu [ah x,ah y,ah z] s=X (ah (RI x y z),s):=rfl
def U8(P:Program)(mk:aI)(d:z_)(mu:Bool)(x y z:Int)(s:St):fZ P mk .max d mu [ah x,ah y,ah z] s=X (ah (RL x y z),s):=rfl
def rR(n:Nat):q_:=(ii n).map λi=>((i:Nat):Int)
def XL(n:Nat):(rR n).length=n:=by simp[rR]
def O5(h:i<n):(rR n)[i]?=X ((i:Nat):Int):=by simp[rR,h]
variable{segs:wj}{lv:aa}
def aw9{sv:aa}(hs:au 4 bV sv segs)(hl:au 1 bu lv (rR (J segs)))(b1:J segs<=1000){s0:St}(hx:∀e lc s ov,bU 4 lo s ov (segs.map bV)->(∀k,k<lo->s.get [] k=s0.get [] k)->s.gE<=s.aL->lo<=s.aL->ac e 6=ov->ac e 1=lv->ac e 2=.map m->K (.exit 0) ⟨e,208,lc⟩ s):
 ∀(rest d:wj)(e:ax)(lc:Ag.Loc)(s:St)(ov:aa)(a b:Int),segs=d++rest->bU 4 lo s ov (d.map bV)->(∀k,k<lo->s.get [] k=s0.get [] k)->s.gE<=s.aL->lo<=s.aL->ac e 6=ov->ac e 7=ah a->ac e 8=ah b->ac e 0=sv->ac e 1=lv->ac e 2=.map m->ac e 26=lv->ac e 27=an (J segs)->ac e 28=an (J d)->W Q 52 (.loop Ks) ⟨e,208,lc⟩ s K:=by
 intro rest
 induction rest with
 |nil=>
  intro d e lc s ov a b G Y F A B h6 h7 h8 h0 r1 h2 u h j;have b0:=cL G;have a9:d=segs:=by rw[G];simp
  refine aF ?_;simp only[go_sem,seval,Ks,h,j,b0,bJ];rw[a9]at Y;exact hx _ _ _ ov Y F A B (by simp only[sN,seval,h6]) (by simp only[sN,seval,r1]) (by simp only[sN,seval,h2])
 |cons g rest ih=>
  intro d e lc s ov a b G Y F A B h6 h7 h8 h0 r1 h2 u h j
  let⟨hlt,hat⟩:=cR G
  have U:=λlc k=>hs.at Aw.2.2.1 hat lc k;have H:=λlc k=>hl.at iO.2.2.1 (O5 hlt) lc k;have z:=cm (n:=J d) w_;have x:=Y.gt
  let⟨ov',s1,a1,a2,a3,a4,a5,a6,a7⟩:=Fy (t:=125) Aw.1 rfl d_ (s:=s) (y:=.list 4 [bV g] .GT) (ys:=[bV g]) Y (by simp only[aaa,cU]) (by simp only[bh,bP,bC];omega) B A
  have w:=a2.gt;simp only[bV]at a1;have a8:bU 4 lo s1 ov' ((d++[g]).map bV):=by rw[dj];exact a2
  have a0:∀k,k<lo->s1.get [] k=s0.get [] k:=λk hk=>(a6 k hk).trans (F k hk);refine aF ?_;cases h0z:aj ((J d:Nat):Int) 0 with
  |true=>
   simp only[go_sem,seval,Ks,h6,h7,h8,h0,u,h,j,hlt,U,H,z,bV,bu,x,sB];simp only[go_sem,seval,h7,h8,j,z,x,w,a1,h0z,a5,tf,rF,U6,U8,sB];refine ih (d++[g]) _ _ s1 ov' (RI (min g.1.1 g.2.1) g.1.1 g.2.1) (RL (max g.1.1 g.2.1) g.1.1 g.2.1) (by rw[G];simp) a8 a0 a5 w_ ?_ ?_ ?_ ?_ ?_ ?_ ?_ ?_ ?_
   all_goals first
    |(simp only[sN,seval,h0,r1,h2,u,h,sA];done)
    |(simp only[sN,seval];rfl)
  |false=>
   simp only[go_sem,seval,Ks,h6,h7,h8,h0,u,h,j,hlt,U,H,z,bV,bu,x,sB,w,a1,h0z,a5,tf,rF,U6,U8];refine ih (d++[g]) _ _ s1 ov' (RI a g.1.1 g.2.1) (RL b g.1.1 g.2.1) (by rw[G];simp) a8 a0 a5 w_ ?_ ?_ ?_ ?_ ?_ ?_ ?_ ?_ ?_
   all_goals first
    |(simp only[sN,seval,h0,r1,h2,u,h,sA];done)
    |(simp only[sN,seval];rfl)
def ak7(a b c d:Int):jh ag 8 127 (.agg [ah a,ah b]) (.agg [ah c,ah d])=X (bif aj a c then aj b d else I):=by
 have h:jh ag 8 127 (.agg [ah a,ah b]) (.agg [ah c,ah d])=(X (aj a c)).bind λr=>bif r then(X (aj b d)).bind λr=>bif r then X O else X I else X I:=k_
 rw[h];cases aj a c<;>cases aj b d<;>rfl
def avg:wQ ag 127 aX where
 eq a b:=by
  let⟨a1,a2⟩:=a
  let⟨b1,b2⟩:=b
  have h:=ak7 a1 a2 b1 b2;have g:aX (a1,a2)=.agg [ah a1,ah a2]:=rfl;have d:aX (b1,b2)=.agg [ah b1,ah b2]:=rfl;rw[g,d,h];by_cases h1:a1=b1<;>by_cases h2:a2=b2<;>simp[aj,h1,h2]
 same a:=by simp[aX,pG,uZ,sD,aj]
 gt _:=rfl
def avs(k:x_):j0 ag 123 (aX k)=X (127,3):=k_
def mZ(l:l_):List ((x_)×aa):=l.map λx=>((x.1,x.2.1),ah x.2.2)
def WA{k:x_}:∀{l:l_},(∀y∈l,(y.1,y.2.1)≠k)->bR k (mZ l)=Z
 |[],_=>rfl
 |y::l,h=>by
  show(if k=(y.1,y.2.1)then _ else bR k (mZ l))=_;rw[iN λe=>h y gz e.symm];exact WA λz d=>h z (ig _ d)
def Nk{l:wj}{x:Mt}(h:x∈gF l):(0<=x.1/\x.1<J l)/\(0<=x.2.1/\x.2.1<J l):=by
 let⟨a,ha,b,hb,hab⟩:=Lw h
 have e:=Dl hab;have g:=BC ha;have d:=BC hb;omega
def RK(l:l_):au 3 gJ (Hg l) l:=by
 rcases l with _|⟨x,l⟩
 exact .inl R_;exact .inr ⟨.no,rfl⟩
def axL(hl:au 1 bu lv (rR (J segs)))(h:J segs<=1000){s0:St}(hx:∀e lc s,du m s0 s->bf aX s m (mZ (gF segs))->K (.exit 2) ⟨e,208,lc⟩ s):
 ∀(rest d:l_)(e:ax)(lc:Ag.Loc)(s:St),gF segs=d++rest->du m s0 s->bf aX s m (mZ d)->ac e 1=lv->ac e 2=.map m->ac e 82=Hg (gF segs)->ac e 83=an (gF segs).length->ac e 84=an (J d)->W Q 52 (.loop Qv) ⟨e,208,lc⟩ s K:=by
 have a8:(gF segs).length<=1000000:=by
  have:=HD (F:=fM) (jY 0 segs);rw[xD]at this;have:J segs*J segs<=1000*1000:=n7 h h;unfold gF;omega
 intro rest
 induction rest with
 |nil=>
  intro d e lc s z U Y r1 r2 u g j;have a5:J d=(gF segs).length:=by rw[z];simp
  have a2:d=gF segs:=by rw[z];simp
  refine aF ?_;simp only[go_sem,seval,Qv,g,j,a5,bJ];rw[a2]at Y;exact hx _ _ _ U Y
 |cons x rest ih=>
  intro d e lc s z U Y r1 r2 u g j;have a4:J d<(gF segs).length:=by rw[z];simp
  have H:(gF segs)[d.length]?=X x:=by rw[z];simp
  have a6:=λlc k=>(RK (gF segs)).at EF.2.2.1 H lc k;have a1:=cm (n:=J d) w_
  let⟨⟨b1,b2⟩,b3,b4⟩:=Nk (cq H)
  have a0:=hl.gt;have ea:x.1=((x.1.toNat:Nat):Int):=(MG b1).symm;have eb:x.2.1=((x.2.1.toNat:Nat):Int):=(MG b3).symm;have G:∀lc,gm ag lc 26 lv (ah x.1)=X (.ro [ah x.1]):=λlc=>by
   rw[ea];exact hl.at iO.2.2.1 (O5 w_) lc .i64
  have B:∀lc,gm ag lc 26 lv (ah x.2.1)=X (.ro [ah x.2.1]):=λlc=>by
   rw[eb];exact hl.at iO.2.2.1 (O5 w_) lc .i64
  have a3:bR (x.1,x.2.1) (mZ d)=Z:=WA λy hy e=>by
   have hs:(gF segs).Pairwise zY:=HE (DE segs 0);rw[z]at hs
   have:=(MM.1 hs).2.2 y hy x gz;simp only[bk]at e;simp only[zY]at this;omega
  have a7:bf aX s.top m (mZ d):=Y;have w:=lY avg avs a7 (x.1,x.2.1) (ah x.2.2);have A:dp (x.1,x.2.1) (ah x.2.2) (mZ d)=mZ (d++[x]):=by
   rw[rS a3];unfold mZ;rw[dj];rfl
  rw[A]at w;simp only[aX]at w;refine aF ?_;simp only[go_sem,seval,Qv,r1,r2,u,g,j,a4,a6,a1,gJ,G,B,a0,U.mw,w,sB];refine ih (d++[x]) _ _ _ (db z) (U.putT _) ?_ ?_ ?_ ?_ ?_ ?_;show St.get _ [] m=_;rw[j6,aO,bS];rfl
  all_goals simp only[sN,seval,r1,r2,u,g,sA]
def awR(a2:No Q 52)(y:Q.spec 98=X Bb){sv:aa}(hs:au 4 bV sv segs)(z:au 1 bu lv (rR (J segs)))(d:J segs<=1000)(hn:∀x∈segs,qM x=O)(hM:bf aX s m [])(H:m<s.aL)(G:s.gE<=s.aL):
 ∃v s',ai Q 52 [sv,lv,.map m] s v s'/\(v=.tup []/\bf aX s' m (mZ (gF segs))/\(∀k,k<s.aL->k≠m->s'.get [] k=s.get [] k)/\s.aL<=s'.aL/\s'.gE<=s'.aL):=by
 have a3:=hs.gt;have B:=z.gt;have u:=z.lenS iO;rw[XL]at u;have h:=(RK (gF segs)).lenS EF;have U:=(RK (gF segs)).gt;refine ai.ofNRZ atS ?_;refine aM ?_;simp only[go_sem,seval,u,B];refine aw9 hs z d (m:=m) (lo:=s.aL) (s0:=s) ?_ segs [] _ _ s .Ge 0 0 rfl (.inl R_) (λ_ _=>rfl) G (aC _) ?_ ?_ ?_ ?_ ?_ ?_ ?_ ?_ ?_
 ·intro e lc s1 ov hO w g Y h6 r1 r2
  have A:=hO.gt;have j:=hO.isL.lenS Aw;have a0:bT ((J segs:Nat):Int) 20000=O:=by simp only[bT,dE];omega
  have q1:=agU hO.isL d hn;simp only[go_sem,seval,h6,r1,r2,A,j,a0,y,q1,h,U,sB];refine axL z d (m:=m) (s0:=s1) ?_ (gF segs) [] _ _ s1 rfl (.refl g) ((w m H).trans hM) ?_ ?_ ?_ ?_ ?_;intro e2 a4 s2 hb a1;simp only[go_sem,seval];exact⟨_,rfl,rfl,a1,λk hk F=>(hb.old k F).trans (w k hk),by rw[hb.aL];exact Y,hb.mw⟩
  all_goals simp only[sN,seval,r1,r2,bC]
  all_goals rfl
 all_goals simp only[sN,seval,bC]
 all_goals rfl
def avr(k:CK):j0 ag 115 (jf k)=X (116,4):=k_
def jL(KB:p0):List (CK×aa):=gw KB λ_=>.bool O
variable{KB:p0}
def ahd(d:KB.Nodup)(k:CK):dp k (.bool O) (jL KB)=jL (fe k KB):=by
 unfold jL;rw[DD _ d];exact Mn λj _=>by
  by_cases h:j=k;subst h;rw[sH];rw[lj _ _ h]
noncomputable def noted(mb:Nat)(KB:p0)(s:St):St:=s.put mb (X (.map (cX jf 0 (jL KB)) (jL KB).length))
def L5(mk:aI)(m off len lcap:Nat)(lo hi:sq)(e:ax)(s:St):eC ag mk 25 (.arr 1 m off len lcap) lo hi Z e s=(dI e hi len).bind λh=>(dI e lo 0).bind λl=>bif aP l h&&aP h lcap then X (.arr 1 m (off+l*1) (h-l) (lcap-l))else Z:=by
 have h:eC ag mk 25 (.arr 1 m off len lcap) lo hi Z e s=(dI e hi len).bind λh=>(dI e lo 0).bind λl=>bif aA 1 1&&aP l h&&aP h lcap&&aP lcap lcap&&O then X (.arr 1 m (off+l*1) (h-l) (lcap-l))else Z:=k_
 have q:aP lcap lcap=O:=bG (aC _);rw[h];simp only[wy,Nat.beq_refl,jo,q]
def ajz(mu:Bool)(s:St)(m c:Nat)(a b:aa)(h:s.get [] m=X (.cells [a,b])):fZ ag [] .clear [25] mu [.arr 1 m 1 1 c] s=X (.tup [],s.put m (X (.cells [a,.str []]))):=by
 have u:ag.underlying 25=X (.slice 9):=k_
 simp only[aaa,fZ,u,aG,rH,bM,h];rfl
variable{bx mb:Nat}
def acv(j:No Q 49)(w:s.get [] bx=X (.cells [.map mb]))(x:bf jf s mb (jL KB))(u:KB.Nodup)(a b:ae):ai Q 49 [.str a,.str b,.ptr bx 0] s (.tup []) (noted mb (fe (fS a b) KB) s):=by
 have d:=lY Re avr x (fS a b) (.bool O);rw[ahd u]at d;simp only[jf,fS]at d;have g:∃v s',ai Q 49 [.str a,.str b,.ptr bx 0] s v s'/\(v=.tup []/\s'=noted mb (fe (fS a b) KB) s):=by
  refine ai.ofNRZ atO ?_;refine aM ?_;simp only[go_sem,eG,eD,ct,eM,cN,eP,eT,eL,eN,eR,eO,reduceCtorEq,eJ,w,U7,U9,d,adp,sB];exact⟨_,rfl,rfl,rfl⟩
 obtain⟨v,s',h,rfl,rfl⟩:=g;exact h
def aj5(A:No Q 54){a b:ae}(y:s.get [] n=X (.cells [.str a,.str b]))(j:s.gE<=s.aL):
 ∃v s',ai Q 54 [.arr 1 n 0 2 2] s v s'/\((a=b/\v=.arr 1 n 0 1 2/\s'=s.put n (X (.cells [.str a,.str []])))\/(a≠b/\v=.arr 1 n 0 2 2/\s'=s)):=by
 have B:IntKind.i64.wrap (1-1)=0:=d_
 have Y:IntKind.i64.wrap (1+1)=2:=d_
 have w3:IntKind.i64.wrap (2-1)=1:=d_
 have w4:IntKind.i64.wrap (2+1)=3:=d_
 have l1:aR ((2:Nat):Int) 2=I:=d_
 have H:aR 1 ((2:Nat):Int)=O:=d_
 have l3:aR 2 ((2:Nat):Int)=I:=d_
 have l4:aR 1 ((1:Nat):Int)=I:=d_
 have G:dP (ah 0)=X 0:=rfl;have F:dP (ah 1)=X 1:=rfl;have x:∀g,ac g 27=ah 1->dI g (X (.tmp 27)) 0=X 1:=λg h=>by show(ev g (.tmp 27)).bind dP=_;rw[ey,h];rfl
 have w:∀g,ac g 55=ah 1->dI g (X (.tmp 55)) 0=X 1:=λg h=>by show(ev g (.tmp 55)).bind dP=_;rw[ey,h];rfl
 have u:∀g k,ac g 58=ah 1->dI g (X (.tmp 58)) k=X 1:=λg k h=>by show(ev g (.tmp 58)).bind dP=_;rw[ey,h];rfl
 have U:∀g d,dI g Z d=X d:=λ_ _=>rfl;have z:=λmu c=>ajz mu s n c (.str a) (.str b) y;refine ai.ofNRZ atU (aM ?_);simp only[go_sem,eG,eD,ct,eM,cN,eP,eT,eL,eN,eR,eO,reduceCtorEq,eJ,zU,l1];refine aF ?_;cases hab:b==a;have e:a≠b:=λe=>by rw[e]at hab;simp at hab
 simp only[go_sem,eG,eD,ct,eM,cN,eP,eT,eL,eN,eR,eO,reduceCtorEq,eJ,Qy,zU,bM,H,G,F,B,Y,j,y,hab];refine aF ?_;simp only[go_sem,eG,eD,ct,eM,cN,eP,eT,eL,eN,eR,eO,reduceCtorEq,eJ,Qy,zU,l3];exact⟨_,rfl,.inr ⟨e,rfl⟩⟩;have e:a=b:=(eq_of_beq hab).symm;subst e;simp only[go_sem,eG,eD,ct,eM,cN,eP,eT,eL,eN,eR,eO,reduceCtorEq,eJ,Qy,zU,bM,H,G,F,B,j,y,hab,L5,x,U];refine aF ?_;simp only[go_sem,eG,eD,ct,eM,cN,eP,eT,eL,eN,eR,eO,reduceCtorEq,eJ,atV,zU,l4,L5,w,u,U,z];exact⟨_,rfl,.inl rfl⟩
theorem avj(a b:ae):fS a b=if cK a b<=0 then(a,b)else(b,a):=by
 have d:=ou a b
 grind [fS,D0,DX,Ag.leBytes,rJ]
theorem avi(a b:ae):fS a b=fS b a:=by
 grind [avj,Bi,rJ]
def z9(id:ae)(KB:p0)(os:cf):p0:=os.foldl (λKB o=>fe (fS o id) KB) KB
theorem ab4{id:ae}{k:CK}:∀{os:cf}{KB:p0},k∈z9 id KB os↔k∈KB\/∃o∈os,k=fS o id
 |[],KB=>by simp[z9]
 |o::os,KB=>by
  show k∈z9 id (fe (fS o id) KB) os↔_;rw[ab4,sj]
  grind
def acw{id:ae}:∀{os:cf}{KB:p0},KB.Nodup->(z9 id KB os).Nodup
 |[],_,h=>h
 |o::os,KB,h=>acw (os:=os) (zh h)
structure A4 (l:ba) (D:cf) (KB:p0) (K:oa) (V:Pt->cf):Prop where
 v:∀q id,id∈V q↔id∈D/\eV l id=q
 b:∀k,k∈KB↔∃x y,x∈D/\y∈D/\x≠y/\eV l x=eV l y/\k=fS x y
 nd:KB.Nodup
 len:∀q,(V q).length<=D.length
variable{K:oa}{D:cf}{V:Pt->cf}
theorem A4.old(h:A4 l D KB K V){id:ae}(hi:id∈V (eV l id)):A4 l (D++[id]) KB K V:=by
 have g:=((h.v _ _).1 hi).1;have d:∀x,x∈D++[id]↔x∈D:=λx=>by
  grind
 refine⟨λq x=>by rw[d];exact h.v q x,λk=>?_,h.nd,λq=>by rw[bI];have:=h.len q;omega⟩;rw[h.b];simp only[d]
theorem A4.new(h:A4 l D KB K V){id:ae}(hi:id ∉ V (eV l id)):A4 l (D++[id]) (z9 id KB (V (eV l id))) (fe (eV l id) K) (lX V (eV l id) (V (eV l id)++[id])):=by
 have j:id ∉ D:=λg=>hi ((h.v _ _).2 ⟨g,rfl⟩);have d:∀x,x∈D++[id]↔x∈D\/x=id:=λx=>by grind
 refine⟨λq x=>?_,λk=>?_,acw h.nd,λq=>?_⟩;rw[d];by_cases hq:q=eV l id;subst hq;rw[sH,fJ,kq,h.v]
 grind
 rw[lj _ _ hq,h.v]
 grind
 rw[ab4,h.b];simp only[d,h.v]
 grind [avi]
 rw[bI];by_cases hq:q=eV l id;subst hq;rw[sH,bI]
 have:=h.len (eV l id)
 grind
 rw[lj _ _ hq]
 have:=h.len q;omega
def acy{s0:St}(h:du mb s0 s):du mb s0 (noted mb KB s):=h.put _
def acz:bf jf (noted mb KB s) mb (jL KB):=bf.put
variable{lc:Ag.Loc}{KE:p0}{v:aa}{E0:ax}
theorem ah2(A:No Q 49){os:cf}(hv:au 1 aw v os)(a4:J os<=1000000){id:ae}(U:bx≠mb){s0:St}(hb:s0.get [] bx=X (.cells [.map mb]))(hx:∀e s,du mb s0 s->bf jf s mb (jL KE)->(∀t,t≠15->t≠66->t≠67->t<68->ac e t=ac E0 t)->C (.exit 4) ⟨e,180,lc⟩ s):
 ∀(rest d:cf)(KB:p0)(e:ax)(s:St),os=d++rest->KB.Nodup->z9 id KB rest=KE->du mb s0 s->bf jf s mb (jL KB)->(∀t,t≠15->t≠66->t≠67->t<68->ac e t=ac E0 t)->ac E0 7=.func (.func 49) [] [.ptr bx 0]->ac E0 12=.str id->ac E0 64=v->ac E0 65=an (J os)->ac e 66=an (J d)->W Q 24 (.loop PZ) ⟨e,180,lc⟩ s C:=by
 intro rest
 induction rest with
 |nil=>
  intro d KB e s j G hf F hM w e7 z y h g;have Y:=cL j;have x:=(w 65 d_ d_ d_ d_).trans h;refine aF ?_;simp only[go_sem,seval,PZ,x,g,Y,bJ];refine hx _ _ F (by rw[<-hf];exact hM) λt j h2 h3 h4=>?_
  grind [K7]
 |cons o rest ih=>
  intro d KB e s j G hf F hM w e7 z y h g
  let⟨hlt,hat⟩:=cR j
  have a0:=λlc k=>hv.at bM.2.2.1 hat lc k;have H:=cm (n:=J d) w_;have x:=(w 65 d_ d_ d_ d_).trans h;have a2:=(w 64 d_ d_ d_ d_).trans y;have h7:=(w 7 d_ d_ d_ d_).trans e7;have a3:=(w 12 d_ d_ d_ d_).trans z;have a1:s.get [] bx=_:=(F.old bx U).trans hb;have B:=acv A a1 hM G o id;refine aF ?_;simp only[go_sem,seval,PZ,h7,a3,a2,x,g,hlt,a0,aw];refine aU.of B d_ ?_;simp only[go_sem,seval,g,H];refine ih (d++[o]) (fe (fS o id) KB) _ _ (by rw[j];simp) (zh G) hf (acy F) acz (λt j h2 h3 h4=>?_) e7 z y h (by simp only[sN,seval,sA]);have u:∀k,68<=k->(t==k)=I:=λk hk=>by simp;omega
  have c1:(t==15)=I:=by simpa using j
  have c2:(t==66)=I:=by simpa using h2
  have c3:(t==67)=I:=by simpa using h3
  simp only[fA,u 68 d_,u 69 d_,u 70 d_,u 71 d_,u 72 d_,u 73 d_,u 74 d_,c1,c2,c3,cF];exact w t j h2 h3 h4
def ak8(a b c d:Int):jh ag 8 44 (.agg [ah a,ah b]) (.agg [ah c,ah d])=X (bif aj a c then aj b d else I):=by
 have h:jh ag 8 44 (.agg [ah a,ah b]) (.agg [ah c,ah d])=(X (aj a c)).bind λr=>bif r then(X (aj b d)).bind λr=>bif r then X O else X I else X I:=k_
 rw[h];cases aj a c<;>cases aj b d<;>rfl
def abj:wQ ag 44 aX where
 eq a b:=by
  let⟨a1,a2⟩:=a
  let⟨b1,b2⟩:=b
  have h:=ak8 a1 a2 b1 b2;have g:aX (a1,a2)=.agg [ah a1,ah a2]:=rfl;have d:aX (b1,b2)=.agg [ah b1,ah b2]:=rfl;rw[g,d,h];by_cases h1:a1=b1<;>by_cases h2:a2=b2<;>simp[aj,h1,h2]
 same a:=by simp[aX,pG,uZ,sD,aj]
 gt _:=rfl
def abm(k:Pt):j0 ag 118 (aX k)=X (44,25):=k_
structure Fs (l:ba) (s0 s:St) (ma mb lo:Nat) (D:cf) (KB:p0) (K:oa) (V:Pt->cf) (T:Pt->Nat):Prop where
 o:sZ aX aw s ma lo K V T
 m:bf jf s mb (jL KB)
 fr:∀k,k<lo->k≠ma->k≠mb->s.get [] k=s0.get [] k
 i:A4 l D KB K V
 nx:s0.aL<=s.aL
 mw:s.gE<=s.aL
structure IC (e:ax) (lc:Ag.Loc) (ov lv:aa) (n bx ma:Nat):Prop where
 h3:ac e 3=.Gt 3 1 0
 h5:ac e 5=lv
 h6:ac e 6=.ptr bx 0
 h7:ac e 7=.func (.func 49) [] [.ptr bx 0]
 h8:ac e 8=.map ma
 l3:lc.get 3 1=some [ov,.map n]
 g3:lc.gen 3=1
def ahF(b0:No Q 49)(a0:No Q 50)(Y:No Q 51)(U:No Q 97)(ho:au 6 Obj.val ov l){ma:Nat}(c1:n≠ma)(c2:n≠mb)(c3:n<lo)(c4:bx≠ma)(c5:bx≠mb)(c6:bx<lo)(c7:mb≠ma)(c8:mb<lo){s0:St}(hM:bf aa.str s0 n (iI 0 l))(d4:s0.get [] bx=X (.cells [.map mb])){a b:ae}(d6:∀id,id∈ [a,b]->∃q,cD id l=X q){x42 x43 x44:aa}(hD:J D<=10000)(hx:∀e lc s KB K V T,Fs l s0 s ma mb lo (D++[a,b]) KB K V T->IC e lc ov lv n bx ma->ac e 42=x42->ac e 43=x43->ac e 44=x44->C (.exit 2) ⟨e,180,lc⟩ s):
 ∀(rest d:cf)(e:ax)(lc:Ag.Loc)(s:St)(KB:p0)(K:oa)(V:Pt->cf)(T:Pt->Nat),[a,b]=d++rest->Fs l s0 s ma mb lo (D++d) KB K V T->IC e lc ov lv n bx ma->ac e 42=x42->ac e 43=x43->ac e 44=x44->ac e 49=.agg [.str a,.str b]->ac e 50=an (J d)->W Q 24 (.loop P0) ⟨e,180,lc⟩ s C:=by
 intro rest
 induction rest with
 |nil=>
  intro d e lc s KB K V T G S E z y x w u;have c0:d=[a,b]:=by rw[G];simp
  subst c0;have hl:aR ((2:Nat):Int) 2=I:=rfl;refine aF ?_;simp only[go_sem,eG,eD,ct,eM,cN,eP,eT,eL,eN,eR,eO,reduceCtorEq,eJ,P0,u,hl];refine hx _ _ s KB K V T S ⟨?_,?_,?_,?_,?_,E.l3,E.g3⟩ ?_ ?_ ?_<;>simp only[sN,ct,cN,E.h3,E.h5,E.h6,E.h7,E.h8,z,y,x]
 |cons id rest ih=>
  intro d e lc s KB K V T G S E z y x w u
  let⟨h3,h5,h6,h7,h8,l3,g3⟩:=E
  have c9:J d<2:=by
   have:=congrArg oY G;simp only[aag]at this;omega
  have d5:([a,b]:cf)[d.length]?=X id:=by rw[G];simp
  have F:aR ((J d:Nat):Int) 2=O:=by simp only[aR,dE];omega
  have d1:Bw ag 116 (.agg [.str a,.str b]) (an (J d))=X (.str id):=by
   rw[Ye,nP];have hb:bq (J d) 2=O:=bG c9;simp only[aaf,hb,uf,Nat.mul_one,AV];have:([aa.str a,aa.str b]:az)=([a,b]:cf).map aa.str:=rfl;rw[this,ix,d5];rfl
  have b1:=cm (n:=J d) w_
  let⟨q,hq⟩:=d6 id (by rw[G];simp)
  have b6:=HH hq;have d7:bf aa.str s n (iI 0 l):=(S.fr n c3 c1 c2).trans hM;have A:=Sk a0 ho d7 hq;have d2:=ho.gt
  let⟨v,hlk,hvl⟩:=S.o.look abj abm yA (eV l id)
  have B:=hvl.gt;have b8:=S.i.len (eV l id);have e4:(D++d).length<=10002:=by rw[bI];omega
  have g:=Og U Y hvl w_ id s;have d0:=hvl.lenS bM;rw[b6]at hlk;simp only[aX]at hlk A;have e2:D++d++[id]=D++(d++[id]):=by simp
  refine aF ?_;simp only[go_sem,eG,eD,ct,eM,cN,eP,eT,eL,eN,eR,eO,reduceCtorEq,eJ,P0,h3,h8,w,u,F,d1,l3,g3,d2];refine aU.of A d_ ?_;cases hc:(V (eV l id)).contains id with
  |true=>
   rw[hc]at g;have j:id∈V (eV l id):=by simpa using hc
   simp only[go_sem,eG,eD,ct,eM,cN,eP,eT,eL,eN,eR,eO,reduceCtorEq,eJ,h8,hlk,B];refine aU.of g d_ ?_;simp only[go_sem,eG,eD,ct,eM,cN,eP,eT,eL,eN,eR,eO,reduceCtorEq,eJ,u,b1];refine ih (d++[id]) _ _ s KB K V T (db G) ⟨S.o,S.m,S.fr,by rw[<-e2];exact S.i.old j,S.nx,S.mw⟩ ⟨?_,?_,?_,?_,?_,?_,?_⟩ ?_ ?_ ?_ ?_ ?_
   all_goals simp only[aah,ct,h3,h5,h6,h7,h8,l3,g3,z,y,x,w,sA]
  |false=>
   rw[hc]at g;have j:id ∉ V (eV l id):=by
    intro h;have:(V (eV l id)).contains id=O:=by simpa using h
    rw[hc]at this;cases this
   simp only[go_sem,eG,eD,ct,eM,cN,eP,eT,eL,eN,eR,eO,reduceCtorEq,eJ,h8,hlk,B];refine aU.of g d_ ?_;simp only[go_sem,eG,eD,ct,eM,cN,eP,eT,eL,eN,eR,eO,reduceCtorEq,eJ,h8,hlk,B,d0];refine ah2 b0 hvl w_ (id:=id) (bx:=bx) (mb:=mb) c5 (s0:=s) ((S.fr bx c6 c4 c5).trans d4) (KE:=z9 id KB (V (eV l id))) ?_ (V (eV l id)) [] KB _ s rfl S.i.nd rfl (.refl S.mw) S.m (λ_ _ _ _ _=>rfl) ?_ ?_ ?_ ?_ ?_
   ·intro e' s2 H e0 he
    have S2:sZ aX aw s2 ma lo K V T:=S.o.mono (H.old ma c7.symm) (λk hk=>H.old _ (by have:=(S.o.tok k hk).2.1;omega)) (by rw[H.aL];exact aC _)
    let⟨v0,p,s3,av,s4,s5,a1,a2,a3,a4,a5,a6,a7,a8,a9,a10⟩:=S2.app abj abm yA bM.1 rfl (λn hn=>ui hn d_) (eV l id) id w_ H.mw
    rw[b6]at a1;simp only[aX]at a1;simp only[aw]at a3;have e3:=H.aL;have e1:=S.nx;simp only[go_sem,eG,eD,ct,eM,cN,eP,eT,eL,eN,eR,eO,reduceCtorEq,eJ,he,ne_eq,not_false_eq_true,h8,u,b1,WS,WQ,a1,a2,a3,a4,a5,sB];refine ih (d++[id]) _ _ s5 (z9 id KB (V (eV l id))) _ _ _ (by rw[G];simp) ⟨a6,?_,λk k1 k2 k3=>?_,by rw[<-e2];exact S.i.new j,w_,a10⟩ ⟨?_,?_,?_,?_,?_,?_,?_⟩ ?_ ?_ ?_ ?_ ?_;exact(a7 mb c8 c7).trans e0;rw[a7 k k1 k2,H.old k k3];exact S.fr k k1 k2 k3
    all_goals simp only[sL,seval,he,ne_eq,not_false_eq_true,h3,h5,h6,h7,h8,l3,g3,z,y,x,w,sA]
   all_goals simp only[sN,ct,cN,h7,bC]
   all_goals rfl
def qz(R:B_):cf:=R.flatMap λx=>[x.1.1,x.1.2]
def akS(R:B_)(x:gL):qz (R++[x])=qz R++[x.1.1,x.1.2]:=by simp[qz]
def akR(R:B_):(qz R).length=2*J R:=by
 induction R with
 |nil=>rfl
 |cons x R d=>
  show([x.1.1,x.1.2]++qz R).length=_;rw[bI,d];simp only[bP,bC];omega
def ahV(z:No Q 49)(y:No Q 50)(w:No Q 51)(u:No Q 97)(ho:au 6 Obj.val ov l){ma r:Nat}(c1:n≠ma)(c2:n≠mb)(c3:n<lo)(c4:bx≠ma)(c5:bx≠mb)(c6:bx<lo)(c7:mb≠ma)(c8:mb<lo)(c9:r≠ma)(c10:r≠mb)(a4:r<lo){s0:St}(hM:bf aa.str s0 n (iI 0 l))(a3:s0.get [] bx=X (.cells [.map mb]))(a7:J R<=1000)(hR:s0.get [] r=X (.cells (aq (R.map ip))))(hk:∀x∈R,(∃q,cD x.1.1 l=X q)/\∃q,cD x.1.2 l=X q)(hx:∀e lc s KB K V T,Fs l s0 s ma mb lo (qz R) KB K V T->IC e lc ov (.arr 3 r 0 (J R) c) n bx ma->C (.exit 0) ⟨e,180,lc⟩ s):
 ∀(rest d:B_)(e:ax)(lc:Ag.Loc)(s:St)(KB:p0)(K:oa)(V:Pt->cf)(T:Pt->Nat),R=d++rest->Fs l s0 s ma mb lo (qz d) KB K V T->IC e lc ov (.arr 3 r 0 (J R) c) n bx ma->ac e 42=.arr 3 r 0 (J R) c->ac e 43=an (J R)->ac e 44=an (J d)->W Q 24 (.loop P1) ⟨e,180,lc⟩ s C:=by
 intro rest
 induction rest with
 |nil=>
  intro d e lc s KB K V T F S E j h g;have a2:=cL F;have a1:d=R:=by rw[F];simp
  rw[a1]at S;refine aF ?_;simp only[go_sem,seval,P1,h,g,a2,bJ];refine hx _ _ s KB K V T S ⟨?_,?_,?_,?_,?_,E.l3,E.g3⟩<;>simp only[sN,seval,E.h3,E.h5,E.h6,E.h7,E.h8]
 |cons x rest ih=>
  intro d e lc s KB K V T F S E j h g
  let⟨hlt,hat⟩:=cR F
  have a0:s.get [] r=_:=(S.fr r a4 c9 c10).trans hR;have A:=KR a0 hat;have Y:=cm (n:=J d) w_;have B:=hk x (cq hat)
  let⟨h3,h5,h6,h7,h8,l3,g3⟩:=E
  simp only[ip]at A;refine aF ?_;simp only[go_sem,seval,P1,j,h,g,hlt,A,Ch];refine ahF z y w u ho (lv:=.arr 3 r 0 (J R) c) c1 c2 c3 c4 c5 c6 c7 c8 hM a3 (a:=x.1.1) (b:=x.1.2) (λid hid=>?_) (x42:=.arr 3 r 0 (J R) c) (x43:=an (J R)) (x44:=an (J d)) (D:=qz d) (by rw[akR];omega) ?_ [x.1.1,x.1.2] [] _ _ s KB K V T rfl (by rw[jV];exact S) ⟨?_,?_,?_,?_,?_,?_,?_⟩ ?_ ?_ ?_ ?_ ?_;simp only[dD,nZ,or_false]at hid;rcases hid with rfl|rfl
  exact B.1;exact B.2
  ·intro e2 a6 s2 a5 K2 V2 T2 S2 E2 U H G
   let⟨i3,i5,i6,i7,i8,j3,k3⟩:=E2
   simp only[go_sem,seval,G,Y];refine ih (d++[x]) _ _ s2 a5 K2 V2 T2 (db F) (by rw[akS];exact S2) ⟨?_,?_,?_,?_,?_,j3,k3⟩ ?_ ?_ ?_
   all_goals simp only[sN,seval,i3,i5,i6,i7,i8,U,H,sA]
  all_goals simp only[aah,ct,h3,h5,h6,h7,h8,l3,g3,j,h,g,bC]
  all_goals rfl
def ah3{N:Nat}(hN:N<=1000){s0:St}(hx:∀e s ov,bU 1 lo s ov ((rR N).map bu)->(∀k,k<lo->s.get [] k=s0.get [] k)->s.gE<=s.aL->lo<=s.aL->ac e 16=ov->ac e 3=ac E0 3->ac e 5=ac E0 5->ac e 6=ac E0 6->ac e 7=ac E0 7->C (.exit 6) ⟨e,180,lc⟩ s):
 ∀(c i:Nat)(e:ax)(s:St)(ov:aa),c+i=N->bU 1 lo s ov ((rR i).map bu)->(∀k,k<lo->s.get [] k=s0.get [] k)->s.gE<=s.aL->lo<=s.aL->ac e 16=ov->ac e 3=ac E0 3->ac e 5=ac E0 5->ac e 6=ac E0 6->ac e 7=ac E0 7->ac e 86=an N->ac e 87=an i->W Q 24 (.loop P2) ⟨e,180,lc⟩ s C:=by
 intro c
 induction c with
 |zero=>
  intro i e s ov hc z j g h w Y U H G d u;have:i=N:=w_
  subst this;refine aF ?_;simp only[go_sem,seval,P2,d,u,bJ];refine hx _ s ov z j g h ?_ ?_ ?_ ?_ ?_<;>simp only[sN,seval,w,Y,U,H,G]
 |succ c ih=>
  intro i e s ov hc z j g h w Y U H G d u;have F:i<N:=w_
  have B:=cm (n:=i) w_;have A:=z.gt
  let⟨ov',s1,a1,a2,a3,a4,a5,a6,a7⟩:=Fy (t:=26) iO.1 rfl d_ (s:=s) (y:=.list 1 [bu i] .GT) (ys:=[bu i]) z (by simp only[aaa,cU]) (by simp only[bh,bP,bC,XL];omega) h g
  have x:=a2.gt;have e1:(rR i).map bu++[bu i]=(rR (i+1)).map bu:=by simp[rR,List.range_succ]
  rw[e1]at a2;simp only[bu]at a1;refine aF ?_;simp only[go_sem,seval,P2,w,d,u,F,B,A,x,a1,sB];refine ih (i+1) _ s1 ov' w_ a2 (λk hk=>(a6 k hk).trans (j k hk)) a5 w_ ?_ ?_ ?_ ?_ ?_ ?_ ?_<;>simp only[sN,seval,Y,U,H,G,d]
def xT(u:ae)(KB:p0)(ys:cf):p0:=ys.foldl (λKB y=>fe (fS u y) KB) KB
def Aa(ys:cf)(KB:p0)(us:cf):p0:=us.foldl (λKB u=>xT u KB ys) KB
theorem ab5{u:ae}{k:CK}:∀{ys:cf}{KB:p0},k∈xT u KB ys↔k∈KB\/∃y∈ys,k=fS u y
 |[],KB=>by simp[xT]
 |o::os,KB=>by
  show k∈xT u (fe (fS u o) KB) os↔_;rw[ab5,sj]
  grind
def RV{u:ae}:∀{os:cf}{KB:p0},KB.Nodup->(xT u KB os).Nodup
 |[],_,h=>h
 |o::os,KB,h=>RV (os:=os) (zh h)
theorem ab6{ys:cf}{k:CK}:∀{us:cf}{KB:p0},k∈Aa ys KB us↔k∈KB\/∃u∈us,∃y∈ys,k=fS u y
 |[],KB=>by simp[Aa]
 |u::us,KB=>by
  show k∈Aa ys (xT u KB ys) us↔_;rw[ab6,ab5]
  grind
def acx{ys:cf}:∀{us:cf}{KB:p0},KB.Nodup->(Aa ys KB us).Nodup
 |[],_,h=>h
 |u::us,KB,h=>acx (us:=us) (RV h)
variable{ys:cf}
theorem ahQ(B:No Q 49)(hv:au 1 aw v ys)(a5:J ys<=1000000){u:ae}(a0:bx≠mb){s0:St}(hb:s0.get [] bx=X (.cells [.map mb]))(hx:∀e s,du mb s0 s->bf jf s mb (jL KE)->(∀t,t≠27->t<155->ac e t=ac E0 t)->C (.exit 12) ⟨e,180,lc⟩ s):
 ∀(rest h:cf)(KB:p0)(e:ax)(s:St),ys=h++rest->KB.Nodup->xT u KB rest=KE->du mb s0 s->bf jf s mb (jL KB)->(∀t,t≠27->t<155->ac e t=ac E0 t)->ac E0 7=.func (.func 49) [] [.ptr bx 0]->ac E0 25=.str u->ac E0 153=v->ac E0 154=an (J ys)->ac e 155=an (J h)->W Q 24 (.loop P3) ⟨e,180,lc⟩ s C:=by
 intro rest
 induction rest with
 |nil=>
  intro h KB e s y U hf H hM z e7 A w g d;have a1:=cL y;have j:=(z 154 d_ d_).trans g;refine aF ?_;simp only[go_sem,seval,P3,j,d,a1,bJ];refine hx _ _ H (by rw[<-hf];exact hM) λt y h2=>?_
  grind [K7]
 |cons o rest ih=>
  intro h KB e s y U hf H hM z e7 A w g d
  let⟨hlt,hat⟩:=cR y
  have a2:=λlc k=>hv.at bM.2.2.1 hat lc k;have Y:=cm (n:=J h) w_;have j:=(z 154 d_ d_).trans g;have G:=(z 153 d_ d_).trans w;have h7:=(z 7 d_ d_).trans e7;have a4:=(z 25 d_ d_).trans A;have a3:s.get [] bx=_:=(H.old bx a0).trans hb;have F:=acv B a3 hM U u o;refine aF ?_;simp only[go_sem,seval,P3,h7,a4,G,j,d,hlt,a2,aw];refine aU.of F d_ ?_;simp only[go_sem,seval,d,Y];refine ih (h++[o]) (fe (fS u o) KB) _ _ (by rw[y];simp) (zh U) hf (acy H) acz (λt y h2=>?_) e7 A w g (by simp only[sN,seval,sA]);have x:∀k,155<=k->(t==k)=I:=λk hk=>by simp;omega
  have c1:(t==27)=I:=by simpa using y
  simp only[fA,x 155 d_,x 156 d_,x 157 d_,x 158 d_,x 159 d_,x 160 d_,x 161 d_,x 162 d_,x 163 d_,c1,cF];exact z t y h2
theorem ahR(A:No Q 49){us:cf}{va vb:aa}(a1:au 1 aw va us)(w:au 1 aw vb ys)(b6:J us<=1000000)(a2:J ys<=1000000){kb:Nat}{p1 p2:ae}(B:bx≠mb)(a6:kb≠mb){s0:St}(hb:s0.get [] bx=X (.cells [.map mb]))(hk:s0.get [] kb=X (.cells [.str p1,.str p2,vb]))(hx:∀e s,du mb s0 s->bf jf s mb (jL KE)->(∀t,t<25->ac e t=ac E0 t)->ac e 103=ac E0 103->C (.exit 10) ⟨e,180,lc⟩ s):
 ∀(rest d:cf)(KB:p0)(e:ax)(s:St),us=d++rest->KB.Nodup->Aa ys KB rest=KE->du mb s0 s->bf jf s mb (jL KB)->(∀t,t<25->ac e t=ac E0 t)->ac e 103=ac E0 103->ac E0 7=.func (.func 49) [] [.ptr bx 0]->ac E0 22=.ptr kb 0->ac e 146=va->ac e 147=an (J us)->ac e 148=an (J d)->W Q 24 (.loop P4) ⟨e,180,lc⟩ s C:=by
 intro rest
 induction rest with
 |nil=>
  intro d KB e s G Y hf z hM he x e7 y j h g;have a4:=cL G;refine aF ?_;simp only[go_sem,seval,P4,h,g,a4,bJ];refine hx _ _ z (by rw[<-hf];exact hM) (λt G=>?_) ?_
  all_goals grind [K7]
 |cons o rest ih=>
  intro d KB e s G Y hf z hM he x e7 y j h g
  let⟨hlt,hat⟩:=cR G
  have a7:=λlc k=>a1.at bM.2.2.1 hat lc k;have a0:=cm (n:=J d) w_;have h7:=(he 7 d_).trans e7;have b1:=(he 22 d_).trans y;have a8:s.get [] bx=_:=(z.old bx B).trans hb;have a5:s.get [] kb=_:=(z.old kb a6).trans hk;have a3:=w.lenS bM;have U:=w.gt;refine aF ?_;simp only[go_sem,seval,P4,b1,j,h,g,hlt,a7,aw,a5,a3,U];refine ahQ A w a2 (u:=o) (bx:=bx) B (s0:=s) a8 (KE:=xT o KB ys) ?_ ys [] KB _ s rfl Y rfl (.refl z.mw) hM (λ_ _ _=>rfl) ?_ ?_ ?_ ?_ ?_
  ·intro e2 s2 b0 a9 F
   have H:ac e2 148=an (J d):=(F 148 d_ d_).trans (by simp only[sN,seval,g]);simp only[go_sem,seval,H,a0];refine ih (d++[o]) (xT o KB ys) _ s2 (by rw[G];simp) (RV Y) hf (z.trans b0) a9 (λt ht=>?_) ?_ e7 y ?_ ?_ ?_;have hh:∀k,25<=k->(t==k)=I:=λk hk=>by simp;omega
   simp only[fA,hh 164 d_,hh 148 d_,cF];rw[F t w_ w_]
   grind [fA]
   simp_all [sN]
   simp_all [sN]
   all_goals simp_all [sN]
  all_goals simp only[sN,seval,h7,bC]
  all_goals rfl
def ahC(a b:CK):cP ag .eql 116 (.agg [.str a.1,.str a.2]) (.agg [.str b.1,.str b.2])=X (.bool (w6 a b)):=by
 have h:cP ag .eql 116 (.agg [.str a.1,.str a.2]) (.agg [.str b.1,.str b.2])=(jh ag 8 116 (.agg [.str a.1,.str a.2]) (.agg [.str b.1,.str b.2])).bind λr=>X (.bool r):=k_
 rw[h,Wd];rfl
def aew(mk:aI)(m:Nat)(cs:az)(e:ax)(s:St)(h:s.get mk m=X (.cells cs))(j:2<=J cs):eC ag mk 116 (.ptr m 0) Z Z Z e s=X (.arr 1 m 0 2 2):=by
 have g:eC ag mk 116 (.ptr m 0) Z Z Z e s=(s.get mk m).bind λo=>match o with
  |.cells cs=>bif aP 0 2&&aP 2 2&&O&&bq 0 (2*1)&&aP (0+2*1) (J cs)then X (.arr 1 m (0+0*1) (2-0) (2-0))else Z
  |_=>Z:=k_
 rw[g,h];have d:aP (0+2*1) (J cs)=O:=bG w_;simp only[aG,d];rfl
def Oe(a b:CK):Bool:=[b.1,b.2].contains a.1||[b.1,b.2].contains a.2
def EE(a b:CK)(Al:Int):Bool:=w6 a b||(aj Al 1&&Oe a b)
def xy(R:B_)(x:Mt)(k:CK):Prop:=EE (R.getD x.1.toNat jg).1 (R.getD x.2.1.toNat jg).1 x.2.2=I/\∃u∈(R.getD x.1.toNat jg).2.1,∃y∈(R.getD x.2.1.toNat jg).2.1,k=fS u y
def aET:ag.underlying 123=X (.map 127 3):=k_
variable{M:l_}
theorem amL{b:Nat}{p:(x_)×aa}(h:(mZ M)[b]?=X p):∃x,M[b]?=X x/\p=((x.1,x.2.1),ah x.2.2):=by
 grind [mZ]
theorem ah0(hK:∀i,1000000<=Q.kmax i)(a8:No Q 49)(H:No Q 51)(G:No Q 97){mf r:Nat}(f6:J M<=1000000)(f5:J R<=1000)(f2:∀x∈M,(0<=x.1/\x.1<J R)/\(0<=x.2.1/\x.2.1<J R))(c9:∀x∈R,J x.2.1<=1000000)(c1:it<lo)(c2:mf<lo)(c3:bx<lo)(c4:mb<lo)(c5:r<lo)(d1:mf≠it)(d2:bx≠it)(d3:mb≠it)(d4:r≠it)(d5:mf≠mb)(d6:bx≠mb)(d7:r≠mb){s0:St}(hM:bf aX s0 mf (mZ M))(f0:s0.get [] bx=X (.cells [.map mb]))(hR:s0.get [] r=X (.cells (aq (R.map ip)))){KB0:p0}(hx:∀e lc s KB,(∀k,k∈KB↔k∈KB0\/∃x∈M,xy R x k)->KB.Nodup->bf jf s mb (jL KB)->(∀k,k<lo->k≠it->k≠mb->s.get [] k=s0.get [] k)->s0.aL<=s.aL->s.gE<=s.aL->ac e 6=ac E0 6->C (.exit 8) ⟨e,180,lc⟩ s):
 ∀(cc:Nat)(seen:be)(e:ax)(lc:Ag.Loc)(s:St)(KB:p0),cc+J seen=J M->ij aX s it mf (mZ M) seen->(∀k,k∈KB↔k∈KB0\/∃b∈seen,∃x,M[b]?=X x/\xy R x k)->KB.Nodup->bf jf s mb (jL KB)->(∀k,k<lo->k≠it->k≠mb->s.get [] k=s0.get [] k)->s0.aL<=s.aL->lo<=s.aL->s.gE<=s.aL->
  ac e 6=ac E0 6->ac e 5=.arr 3 r 0 (J R) c->ac e 7=.func (.func 49) [] [.ptr bx 0]->ac e 103=.ptr it 0->W Q 24 (.loop Kc) ⟨e,180,lc⟩ s C:=by
 have f4:(mZ M).length=J M:=bh ..;intro cc
 induction cc with
 |zero=>
  intro seen e lc s KB hc e3 d0 nd hB F a9 e9 a3 h6 h5 h7 j;rcases e3.aL Q.ch Q.kmax (λi=>by have:=hK i;omega)with⟨hp,hn⟩|⟨b,p,s1,hb,hnm,hlt,_⟩
  refine aF ?_;simp only[go_sem,seval,Kc,j,tF,hn,sB];refine hx _ _ s KB (λk=>?_) nd hB F a9 a3 (by simp only[sN,seval,h6]);rw[d0];refine or_congr Iff.rfl ⟨?_,?_⟩
  grind
  rintro⟨x,h1,h2⟩;obtain⟨b,hb,rfl⟩:=Im h1;exact⟨b,hp.mem_iff.2 (yL.2 w_),M[b],dA hb,h2⟩;omega
 |succ cc ih=>
  intro seen e lc s KB hc e3 d0 nd hB F a9 e9 a3 h6 h5 h7 j;rcases e3.aL Q.ch Q.kmax (λi=>by have:=hK i;omega)with⟨hp,hn⟩|⟨b,p,s1,hb,hnm,hlt,hn,ho,hi,hn1,hm1⟩
  have:=hp.length_eq;rw[CA]at this;omega
  ·obtain⟨x,e8,rfl⟩:=amL hb
   have I1:=e3.go d1 hb hnm ho hi;have c7:=ij.entry hi I1.hm hb;have u:s1.gE<=s1.aL:=by rw[hm1,hn1];exact cG s it Z a3
   let⟨⟨b1,b2⟩,b3,b4⟩:=f2 x (cq e8)
   have c6:x.1.toNat<J R:=w_
   have c0:x.2.1.toNat<J R:=w_
   obtain⟨g,a2⟩:∃g,R[x.1.toNat]?=X g:=⟨_,dA c6⟩;obtain⟨d,a1⟩:∃d,R[x.2.1.toNat]?=X d:=⟨_,dA c0⟩;have ga:R.getD x.1.toNat jg=g:=by rw[l8,a2];rfl
   have gb:R.getD x.2.1.toNat jg=d:=by rw[l8,a1];rfl
   have n1:dP (ah x.1)=X x.1.toNat:=by
    conv=>lhs;rw[<-MG b1]
    exact nP _ _
   have n2:dP (ah x.2.1)=X x.2.1.toNat:=by
    conv=>lhs;rw[<-MG b3]
    exact nP _ _
   have c8:s1.get [] r=_:=((ho r d4).trans (F r c5 d4 d7)).trans hR;have la:=KR c8 a2;have lb:=KR c8 a1;have m0:dP (ah 0)=X 0:=rfl;have m1:dP (ah 1)=X 1:=rfl;simp only[ip]at la lb;simp only[aX]at hn c7;have b8:=iZ u;have b6:=avK u (.cells [.str [],.str [],.Ge]);have U:(s1.new (.cells [.str [],.str [],.Ge])).gE<=(s1.new (.cells [.str [],.str [],.Ge])).aL:=co u;have b0:=iZ U;obtain⟨z,hz⟩:=cw ((s1.new (.cells [.str [],.str [],.Ge])).GE ((s1.new (.cells [.str [],.str [],.Ge])).top.put s1.aL (X (.cells [.str d.1.1,.str d.1.2,.list 1 (d.2.1.map aw) (.own d.2.2)]))));have zn:z.aL=s1.aL+1:=by rw[<-hz];rfl
   have A:z.gE<=z.aL:=by rw[<-hz];exact nL U (aC _)
   have zg:∀k,k≠s1.aL->z.get [] k=(s1.new (.cells [.str [],.str [],.Ge])).get [] k:=λk hk=>by rw[<-hz,j6,aO,bN.2 hk];rfl
   have zo:∀k,k<s1.aL->z.get [] k=s1.get [] k:=λk hk=>(zg k w_).trans (cQ hk);have zk:z.get [] s1.aL=X (.cells [.str d.1.1,.str d.1.2,.list 1 (d.2.1.map aw) (.own d.2.2)]):=by rw[<-hz,j6,aO,bS];rfl
   have a0:∀e,eC ag [] 116 (.ptr s1.aL 0) Z Z Z e z.top=X (.arr 1 s1.aL 0 2 2):=λe=>aew _ _ _ _ _ (show z.top.get [] s1.aL=_ from zk) (by simp);have fin:∀(e':ax)(Y:Ag.Loc)(s':St)(KB':p0),(∀k,k∈KB'↔k∈KB\/xy R x k)->KB'.Nodup->bf jf s' mb (jL KB')->(∀k,k<s1.aL->k≠mb->s'.get [] k=s1.get [] k)->s'.aL=s1.aL+1->s'.gE<=s'.aL->ac e' 6=ac E0 6->ac e' 5=.arr 3 r 0 (J R) c->ac e' 7=.func (.func 49) [] [.ptr bx 0]->ac e' 103=.ptr it 0->W Q 24 (.loop Kc) ⟨e',180,Y⟩ s' C:=by
    intro e' Y s' KB' k1 k2 k3 k4 k5 k6 k7 k8 k9 e7;refine ih (seen++[b]) e' Y s' KB' (by grind) ⟨(k4 it w_ d3.symm).trans I1.hi,(k4 mf w_ d5).trans I1.hm,I1.nd,I1.lt⟩ (λk=>?_) k2 k3 (λk q1 q2 q3=>?_) w_ w_ k6 k7 k8 k9 e7
    grind
    grind
   have zB:bf jf z mb (jL KB):=((zo mb w_).trans (ho mb d3)).trans hB;have e4:z.get [] bx=X (.cells [.map mb]):=(((zo bx w_).trans (ho bx d2)).trans (F bx c3 d2 d6)).trans f0;have w:∀(i:Nat)(y:ae),([d.1.1,d.1.2]:cf)[i]?=X y->([aa.str d.1.1,aa.str d.1.2,.list 1 (d.2.1.map aw) (.own d.2.2)]:az)[0+i]?=X (.str y):=λi y hy=>by
    match i,hy with
    |0,hy=>grind
    |1,hy=>grind
   have a7:z.top.get [] s1.aL=_:=zk;have e1:=VP G H (cap:=2) (off:=0) (len:=2) a7 rfl w (by simp) g.1.1;have e0:=VP G H (cap:=2) (off:=0) (len:=2) a7 rfl w (by simp) g.1.2;have f1:=ahC g.1 d.1;have e6:au 1 aw (.list 1 (g.2.1.map aw) (.own g.2.2)) g.2.1:=.inr ⟨_,rfl⟩;have e5:au 1 aw (.list 1 (d.2.1.map aw) (.own d.2.2)) d.2.1:=.inr ⟨_,rfl⟩;have o1:=c9 g (cq a2);have o2:=c9 d (cq a1);have skip:EE g.1 d.1 x.2.2=O->∀k,k∈KB↔k∈KB\/xy R x k:=λh k=>by
    unfold xy;rw[ga,gb,h];simp
   have B:EE g.1 d.1 x.2.2=I->∀k,k∈Aa d.2.1 KB g.2.1↔k∈KB\/xy R x k:=λh k=>by
    unfold xy;rw[ga,gb,h,ab6];simp
   refine aF ?_;simp only[go_sem,seval,Kc,j,tF,hn,Du,c7,sB,h5,m0,m1,n1,n2,c6,c0,la,lb,Ch,dh,cr,dq,b8,b6,b0,hz,zk,a0,A,u];refine jx.calm A e1 d_ (by simp[fB,kE]) ?_;have D:EE g.1 d.1 x.2.2=(w6 g.1 d.1||(aj x.2.2 1&&Oe g.1 d.1)):=rfl;cases hc1:([d.1.1,d.1.2]:cf).contains g.1.1<;>simp only[go_sem,seval,m0,m1,zk,a0]
   case' false=>refine jx.calm A e0 d_ (by simp[fB,kE]) ?_
   all_goals
    cases hc2:([d.1.1,d.1.2]:cf).contains g.1.2<;>cases heq:w6 g.1 d.1<;>cases hkd:aj x.2.2 1<;>simp only[go_sem,seval,f1,hc2,heq,hkd,zk,a0,bM,bh]<;>simp only[Oe,hc1,hc2,heq,hkd]at D
    all_goals first
     |refine fin _ _ z KB (skip D) nd zB (λk h1 _=>zo k h1) zn A ?_ ?_ ?_ ?_
      all_goals simp only[sN,seval,h6,h5,h7,j]
     |refine ahR a8 e6 e5 o1 o2 (bx:=bx) (mb:=mb) (kb:=s1.aL) d6 w_ (s0:=z) e4 zk (KE:=Aa d.2.1 KB g.2.1) ?_ g.2.1 [] KB _ z rfl nd rfl (.refl A) zB (λ_ _=>rfl) rfl ?_ ?_ ?_ ?_ ?_
      intro e2 s2 a6 f3 a4 a5;simp only[go_sem,seval];refine fin _ _ s2 (Aa d.2.1 KB g.2.1) (B D) (acx nd) f3 (λk h1 h2=>(a6.old k h2).trans (zo k h1)) (by rw[a6.aL,zn]) a6.mw ?_ ?_ ?_ ?_;rw[a4 6 d_];simp only[sN,seval,h6];rw[a4 5 d_];simp only[sN,seval,h5];rw[a4 7 d_];simp only[sN,seval,h7];rw[a5];simp only[sN,seval,j]
      all_goals simp only[sN,seval,h7,bC,bh]
      all_goals rfl
def EA(k:CK):ae:=bif k.1==k.2 then []else k.2
def jz(k:CK):Nat:=bif k.1==k.2 then 1 else 2
abbrev jv:=CK×Nat
def hQ(x:jv):aa:=.agg [.str [],ah 2,.arr 1 x.2 0 (jz x.1) 2]
def Bh(k:CK):az:=[.str k.1,.str (EA k)]
def aES:ag.underlying 115=X (.map 116 4):=k_
abbrev r_:=List jv
structure M7 (lo:Nat) (s:St) (ov:aa) (acc:r_):Prop where
 row:fW 3 s ov (acc.map hQ)
 ids:∀x∈acc,s.get [] x.2=some (.cells (Bh x.1))/\lo<=x.2/\x.2<s.aL/\gh ov≠some x.2
 rlo:∀r,gh ov=some r->lo<=r
def Tv{R:r_}:∀v∈R.map hQ,J v.cells=3:=λv d=>by
 obtain⟨x,_,rfl⟩:=cy.1 d;rfl
def ah7(hK:∀i,1000000<=Q.kmax i)(U:No Q 54)(c3:J KB<1000000)(c1:it<lo)(c2:mb<lo)(d1:mb≠it)(F:∀e lc s ov (d:r_),(d.map (·.1)).Perm KB->M7 lo s ov d->s.gE<=s.aL->ac e 28=ov->C (.exit 14) ⟨e,180,lc⟩ s):
 ∀(cc:Nat)(seen:be)(e:ax)(lc:Ag.Loc)(s:St)(ov:aa)(d:r_),cc+J seen=J KB->ij jf s it mb (jL KB) seen->d.map (·.1)=seen.map (λb=>KB.getD b ([],[]))->M7 lo s ov d->lo<=s.aL->s.gE<=s.aL->ac e 28=ov->ac e 166=.ptr it 0->W Q 24 (.loop P5) ⟨e,180,lc⟩ s C:=by
 have b8:(jL KB).length=J KB:=uy _ _;intro cc
 induction cc with
 |zero=>
  intro seen e lc s ov d hc a9 y u b6 G A g;rcases a9.aL Q.ch Q.kmax (λi=>by have:=hK i;omega)with⟨hp,hn⟩|⟨b,p,s1,h,hnm,hlt,_⟩
  refine aF ?_;simp only[go_sem,seval,P5,g,tF,hn,sB];refine F _ _ s ov d ?_ u G (by simp only[sN,seval,A]);rw[y];rw[b8]at hp;refine(hp.map _).trans ?_;have:(ii (J KB)).map (λb=>KB.getD b ([],[]))=KB:=by
   refine Fb (by simp) λi h1 h2=>?_;simp[l8,h2]
  rw[this];omega
 |succ cc ih=>
  intro seen e lc s ov d hc a9 y u b6 G A g;rcases a9.aL Q.ch Q.kmax (λi=>by have:=hK i;omega)with⟨hp,hn⟩|⟨b,p,s1,h,hnm,hlt,hn,ho,hi,hn1,hm1⟩
  have:=hp.length_eq;rw[CA]at this;omega
  ·have a8:b<J KB:=by
    have:=(ie.1 h).1;omega
   obtain⟨k,hk⟩:=cw (KB[b]);have b1:p=(k,.bool O):=by
    have:(jL KB)[b]?=X (KB[b],.bool O):=by
     unfold jL gw;rw[ix,dA a8];rfl
    rw[this]at h;rw[<-hk];exact(sI h).symm
   subst b1;have I1:=a9.go d1 h hnm ho hi;have a7:=ij.entry hi I1.hm h;have a0:s1.gE<=s1.aL:=by rw[hm1,hn1];exact cG s it Z G
   have Y:=u.row.gt
   let⟨z,hz,zn,zmw,zo,zk⟩:=zr (.cells [.str [],.str []]) (.cells [.str k.1,.str k.2]) a0
   have b0:∀e,eC ag [] 116 (.ptr s1.aL 0) Z Z Z e z=X (.arr 1 s1.aL 0 2 2):=λe=>aew _ _ _ _ _ zk (by simp);have H:∃v w,ai Q 54 [.arr 1 s1.aL 0 2 2] z v w/\(v=.arr 1 s1.aL 0 (jz k) 2/\w.get [] s1.aL=X (.cells (Bh k))/\(∀j,j≠s1.aL->w.get [] j=z.get [] j)/\w.aL=z.aL/\w.gE<=w.aL):=by
    obtain⟨v,w,B,⟨e1,rfl,rfl⟩|⟨e1,rfl,rfl⟩⟩:=aj5 U zk zmw;have h:(k.1==k.2)=O:=by simpa using e1
    refine⟨_,_,B,by unfold jz;rw[h];rfl,?_,λj hj=>by rw[aO,bN.2 hj];rfl,rfl,cG z _ _ zmw⟩;rw[aO,bS];unfold Bh EA;rw[h];rfl;have h:(k.1==k.2)=I:=by simpa using e1
    refine⟨_,_,B,by unfold jz;rw[h];rfl,?_,λ_ _=>rfl,rfl,zmw⟩;rw[zk];unfold Bh EA;rw[h];rfl
   simp only[jf]at hn a7;refine aF ?_;simp only[go_sem,seval,P5,A,g,Y,tF,hn,Du,a7,dh,cr,dq,hz,b0,sB];refine aU.ex H d_ ?_;rintro v w ⟨rfl,y1,y2,y3,y4⟩;have c0:fW 3 w ov (d.map hQ):=u.row.mono (λr B=>by
    have h1:=u.row.lt r B;have h2:=u.rlo r B;rw[y2 r w_,zo r w_,ho r w_]) w_
   let⟨s3,a1,a2,a3,a4,a5,a6⟩:=CO (t:=37) iC.1 rfl d_ (hQ (k,s1.aL)) Tv (by
    have h1:=congrArg oY y;simp only[bh]at h1⊢;omega) y4 c0
   simp only[hQ]at a1;simp only[go_sem,seval,A,Y,NN,a1,sB];refine ih (seen++[b]) _ _ s3 _ (d++[(k,s1.aL)]) (by rw[bI];simp only[bP,bC];omega) ⟨?_,?_,I1.nd,I1.lt⟩ ?_ ⟨by rw[dj];exact a2,λx F=>?_,λr B=>?_⟩ w_ a5 ?_ ?_;rw[a6 it w_ (λe=>by have:=u.rlo it e;omega),y2 it w_,zo it w_];exact I1.hi;have:s3.get [] mb=s1.get [] mb:=by rw[a6 mb w_ (λe=>by have:=u.rlo mb e;omega),y2 mb w_,zo mb w_]
   exact this.trans I1.hm;rw[dj,dj,y];simp[l8,a8,hk];rcases fJ.1 F with F|F
   let⟨i1,i2,i3,i4⟩:=u.ids x F
   refine⟨?_,i2,w_,λe=>by injection e with e;omega⟩;rw[a6 x.2 w_ i4,y2 x.2 w_,zo x.2 w_,ho x.2 w_];exact i1;rw[kq.1 F];refine⟨?_,by show lo<=s1.aL;omega,by show s1.aL<s3.aL;omega,λe=>by injection e with e;omega⟩;rw[a6 s1.aL w_ (λe=>by have:=u.row.lt _ e;omega)];exact y1;injection B with B
   omega
   all_goals simp only[sN,seval,g,bh]
open Go.Sort (SWO)
theorem Oa:∀{a b c:cf},fk a b<0->fk b c<0->fk a c<0
 |[],[],_,h1,_=>by simp[fk]at h1
 |_::_,[],_,h1,_=>by simp[fk]at h1
 |[],_::_,[],_,h2=>by simp[fk]at h2
 |[],_::_,_::_,_,_=>by simp[fk]
 |_::_,_::_,[],_,h2=>by simp[fk]at h2
 |a::x,b::y,c::z,h1,h2=>by
  simp only[fk,I8]at*;by_cases p:cK a b=0
  have:=rJ p;subst this;have e:aj (cK a a) 0=O:=by rw[p];rfl
  rw[e]at h1;cases q:aj (cK a c) 0;rw[q]at h2;exact h2;rw[q]at h2;exact Oa h1 h2;have e:aj (cK a b) 0=I:=by simp[aj,p]
  rw[e]at h1;by_cases q:cK b c=0
  grind [rJ]
  have d:aj (cK b c) 0=I:=by simp[aj,q]
  rw[d]at h2;have g:=Bj h1 h2
  grind [aj]
def ajZ(a:cf):fk a a=0:=by have:=Db a a;omega
theorem aeR:SWO (ltOf fk) where
 irrefl x:=by simp[ltOf,ajZ]
 trans x y z h1 h2:=by
  grind [ltOf,Oa]
 ntrans x y z h1 h2:=by
  grind [ltOf,Ob,Db,Oa]
theorem ae7{x y:cf}(h1:ltOf fk x y=I)(d:ltOf fk y x=I):x=y:=by
 grind [ltOf,Db,Ob]
def mO(x:jv):aa:=.agg [.str [],ah 2,.list 1 ((iL x.1).map aw) .no]
def vV(x:Nat×Nat):aa:=.agg [.str [],ah 2,.arr 1 x.1 0 x.2 2]
def wX:S0->(r_->Rd)->Rd
 |[],k=>k []
 |x::l,k=>.ask x.1 λo=>match o with
  |.cells [.str a,.str b]=>bif x.2==1 then wX l λr=>k (((a,a),x.1)::r)else bif x.2==2&&!(a==b)then wX l λr=>k (((a,b),x.1)::r)else .ret Z
  |_=>.ret Z
def Gg(g:U_)(x:jv):Prop:=∃b,g x.2=X (.cells [.str x.1.1,.str b])/\(jz x.1=1\/(jz x.1=2/\b=x.1.2))
theorem Nx{g:U_}{u:aa}:∀{l:S0}{K:r_->Rd},ee g (wX l K)=X u->∃L,L.map (λx=>(x.2,jz x.1))=l/\(∀x∈L,Gg g x)/\ee g (K L)=X u
 |[],K,h=>⟨[],rfl,λ_ h=>(by cases h),h⟩
 |x::l,K,h=>by
  have h:(g x.1).bind (λo=>ee g (match o with
   |.cells [.str a,.str b]=>bif x.2==1 then wX l λr=>K (((a,a),x.1)::r)else bif x.2==2&&!(a==b)then wX l λr=>K (((a,b),x.1)::r)else .ret Z
   |_=>.ret Z))=X u:=h
  simp only[ak]at h
  let⟨o,h1,h⟩:=h
  split at h;rename_i a b;cases e1:x.2==1;rw[e1]at h;simp only[cF]at h;cases e2:(x.2==2&&!(a==b));rw[e2]at h;cases h;rw[e2]at h;simp only[bg,ny]at e2
  let⟨L,q1,q2,q3⟩:=Nx h
  have j:jz (a,b)=2:=by unfold jz;rw[e2.2];rfl
  refine⟨((a,b),x.1)::L,?_,λy d=>?_,q3⟩
  grind
  rcases dD.1 d with rfl|d
  exact⟨b,h1,.inr ⟨j,rfl⟩⟩;exact q2 y d;rw[e1]at h
  let⟨L,q1,q2,q3⟩:=Nx h
  have j:jz (a,a)=1:=by unfold jz;simp
  refine⟨((a,a),x.1)::L,?_,λy d=>?_,q3⟩
  grind
  rcases dD.1 d with rfl|d
  exact⟨b,h1,.inl j⟩;exact q2 y d;cases h
theorem UT{g:U_}:∀{L:r_}{K:r_->Rd},(∀x∈L,g x.2=X (.cells (Bh x.1)))->ee g (wX (L.map λx=>(x.2,jz x.1)) K)=ee g (K L)
 |[],K,_=>rfl
 |x::L,K,h=>by
  have u:=h x gz;have j:=λK=>UT (K:=K) λy d=>h y (ig _ d)
  let⟨⟨a,b⟩,n⟩:=x
  show(g n).bind _=_
  grind [Bh,EA,jz]
def afq{h:aB aH}{x:jv}(hi:Gg h.get x):fF h (hQ x) (mO x):=by
 let⟨b,h1,d⟩:=hi
 refine⟨3,?_⟩;have e:b9 h 2 (.arr 1 x.2 0 (jz x.1) 2)=X (.list 1 ((iL x.1).map aw) .no):=by
  show(match h.get x.2 with
   |some (.cells cs)=>(cut cs 0 (jz x.1*1)).bind λc=>(da (b9 h 1) c).bind λj=>(chunk (!aA 1 1) 1 (jz x.1) j).bind λxs=>X (aa.list 1 xs .no)
   |_=>Z)=_
  rw[h1]
  let⟨⟨p,q⟩,n⟩:=x
  unfold iL;simp only[jz]at d⊢;cases e:p==q;rw[e]at d;have g:b=q:=by
   rcases d with d|d
   cases d;exact d.2
  subst g;rfl;rfl
 show(da (b9 h 2) [.str [],ah 2,.arr 1 x.2 0 (jz x.1) 2]).bind (λr=>X (aa.agg r))=_;simp only[da,e,aG];rfl
def Bv:aa->Option cf
 |.agg [.str _,.int .i64 _,w]=>bif bn w then ff 1 iV w else Z
 |_=>Z
def VM:Sp
 |[u,v]=>(Bv u).bind λa=>(Bv v).bind λb=>bif pures [u,v]&&bq (J a) small then X (bu (fk a b))else Z
 |_=>Z
variable{l:cf}
theorem XF(h:Bv v=X l):∃a i w,v=.agg [.str a,ah i,w]/\au 1 aw w l/\bn w=O:=by
 unfold Bv at h
 grind [ku,pg]
def aqM(x:jv):Bv (mO x)=X (iL x.1):=by
 have d:bn (.list 1 ((iL x.1).map aw) .no)=O:=by simp only[bn,B6 pT,bZ]
 show(bif bn (.list 1 ((iL x.1).map aw) .no)then jB iV ((iL x.1).map aw)else Z)=_;rw[d,zZ oo];rfl
def aFG(x:jv):bn (mO x)=O:=by simp only[mO,bn,pures,B6 pT,bZ,wy]
def ajG(g:No Q 56)(d:Q.spec 57=X EU){w w':aa}{r:cf}(u:au 1 aw w l)(h:au 1 aw w' r)(y:bn w=O)(x:bn w'=O)(z:J l<small)(a b:ae)(i j:Int)(s:St):ai Q 56 [.agg [.str a,ah i,w],.agg [.str b,ah j,w']] s (bu (fk l r)) s:=by
 have q:=aDJ u h y x z;have B:=u.gt;have A:=h.gt;refine ai.ofNZ atW (aM ?_);simp only[go_sem,seval,d,q,B,A,bu]
def agz:dy:=[(57,EU)]
def agA:eh agz:=.cons aDK .nil
def aj1:cW ag 56 VM:=by
 refine H0 agA (W:=[]) .nil λd u h=>?_;unfold VM at h;split at h;simp only[ak]at h
 let⟨a,h1,b,h2,h⟩:=h
 let⟨h3,h⟩:=aZ h
 simp only[bg]at h3;have h:=sI h;subst h;obtain⟨B,i,w,rfl,z,y⟩:=XF h1;obtain⟨A,j,F,rfl,x,g⟩:=XF h2;exact⟨h3.1,λG=>⟨_,_,ajG R_ rfl z x y g (Nat.le_of_ble_eq_true h3.2) _ _ _ _ _,1,rfl⟩⟩;cases h
abbrev dV:jv:=(([],[]),0)
def jX(a b:jv):Int:=fk (iL a.1) (iL b.1)
noncomputable def BR(l:r_):Bool:=by classical exact decide (J l<=1000000/\(l.map λx=>iL x.1).Nodup)
noncomputable def Nz(m:Nat):Option S0->Rd
 |some l=>bif l.all (λx=> !(x.1==m))then wX l λL=>su (bif BR L then X (aq ((jS jX dV L).map hQ))else Z)else .ret Z
 |none=>.ret Z
noncomputable def EN:az->UP
 |[.arr k' m 0 len _,.func (.func g') [] []]=>bif aA k' 3&&aA g' 56 then X (X (m,λcs=>bif aA (J cs) (len*3)then Nz m (ve vV cs)else .ret Z))else Z
 |[.Ge,.func (.func g') [] []]=>bif aA g' 56 then X Z else Z
 |_=>Z
theorem ayu(k:CK):(iL k).length<=2:=by
 grind [iL]
theorem aDl:uV 55 EN:=by
 have L:=Tryz.sortF134;have ef:∀g w,(callFunc 55 g).run ag w=.ok (.enter 55 g) w:=Go.Proofs.enters_of func55 k_ rfl;have eg:∀g w,(callFunc 56 g).run ag w=.ok (.enter 56 g) w:=Go.Proofs.enters_of func56 k_ rfl;intro g G h w xs wr hx;refine⟨λB=>?_,λn gf cs a3 B hl d=>?_⟩
 ·unfold EN at B
  split at B
  grind
  ·cases hx with
   |cons p q=>
   cases q with
   |cons q r=>
   cases r;cases p;cases q with
   |func q1 q2=>
   cases q1;cases q2;refine .inr ⟨ef _ _,(AnyF.slices_SortFunc_none L Z 0 _ w).mono ?_⟩;rintro e w' ⟨rfl,rfl⟩;exact⟨_,rfl,G,wr,.refl,.tup .nil⟩
  cases B
 ·unfold EN at B
  split at B
  ·rename_i k' m len H g'
   have hb:=(aZ B).1;have hq:=(aZ B).2;clear B;simp only[bg]at hb;have e1:=gA hb.1;have Y:=gA hb.2;subst e1;subst Y;injection hq with hq;injection hq with hq;injection hq with a5 a4
   subst a5;subst a4;have d:ee h.get (bif aA (J cs) (len*3)then Nz m (ve vV cs)else .ret Z)=X (.agg a3):=d;cases A:aA (J cs) (len*3)with
   |false=>rw[A]at d;cases d
   |true=>
   rw[A]at d;have A:=gA A;simp only[cT]at d;cases hd:ve vV cs with
   |none=>rw[hd]at d;cases d
   |some l0=>
   rw[hd]at d;have a2:=Oj hd;have d:ee h.get (bif l0.all (λx=> !(x.1==m))then wX l0 λL=>su (bif BR L then X (aq ((jS jX dV L).map hQ))else Z)else .ret Z)=X (.agg a3):=d;cases hne:l0.all (λx=> !(x.1==m))with
   |false=>rw[hne]at d;cases d
   |true=>
   rw[hne]at d
   let⟨l,h1,hat,d⟩:=Nx d
   have d:=HM d
   let⟨h2,d⟩:=aZ d
   have d:=(sI d).symm;subst d;have a6:l0.map vV=l.map hQ:=by rw[<-h1,l9];rfl
   rw[a6]at a2;subst a2;have a9:∀x∈l,x.2≠m:=λx hx e=>by
    have:(x.2,jz x.1)∈l0:=by rw[<-h1];exact cy.2 ⟨x,hx,rfl⟩
    grind
   have a1:∀v∈l.map hQ,J v.cells=3/\v=.agg v.cells:=λv hv=>by
    obtain⟨a,_,rfl⟩:=cy.1 hv;exact R_
   have U:J l=len:=by
    rw[nS (λv hv=>(a1 v hv).1),bh]at A;omega
   simp only[BR,dE]at h2;cases hx with
   |cons p q=>
   cases q with
   |cons q r=>
   cases r;cases q with
   |func u1 u2=>
   cases u1;cases u2;have F:(l.map hQ).length=J l:=bh ..;have hy:∀z,VR G (.arr 3 m 0 len H) z->VR G (.arr 3 m 0 (l.map hQ).length H) z:=λz hz=>by rw[F,U];exact hz
   have gen:∀n (hn:n=J l),SWO (ltOf λx y:Fin n=>ep jX dV l x y)/\(∀x y:Fin n,(ltOf λx y:Fin n=>ep jX dV l x y) x y=I->(ltOf λx y:Fin n=>ep jX dV l x y) y x=I->x=y):=by
    intro n hn;subst hn;refine⟨Mi aeR λi:Fin (J l)=>iL (l.getD i dV).1,λx y q1 q2=>?_⟩;have h:=ae7 (x:=iL (l.getD x dV).1) (y:=iL (l.getD y dV).1) q1 q2;rw[Dv,Dv]at h;exact Fin.ext (K4 h2.2 (i:=x) (j:=y) (x:=l[x]) (y:=l[y]) (by simp) (by simp) h)
   have a0:=λhO=>SY L rfl Tryz.isAgg41 Tryz.sizeOf41 ef eg aj1 wr (rows:=l.map hQ) (us:=l.map mO) hl a1 d_ (by rw[bh,bh]) (λi v u e1 Y=>by
    rw[ix,o6]at e1 Y;obtain⟨a,g1,rfl⟩:=e1;obtain⟨b,g2,rfl⟩:=Y;rw[g1]at g2;cases g2;have a7:=cq g1
    let⟨b',i1,i2⟩:=hat a a7
    exact afq ⟨b',by grind [aB.get_set],i2⟩) (ep jX dV l) (λi j u u' e1 Y=>by
    rw[ix,o6]at e1 Y;obtain⟨a,g1,rfl⟩:=e1;obtain⟨b,g2,rfl⟩:=Y;have e:ep jX dV l i j=jX a b:=by
     unfold ep;rw[l8,l8,g1,g2];rfl
    have a8:=aab;have hb:bq (iL a.1).length small=O:=bG (by have:=ayu a.1;omega);rw[e];show((Bv (mO a)).bind λa'=>(Bv (mO b)).bind λb'=>bif pures [mO a,mO b]&&bq (J a') small then X (bu (fk a' b'))else Z)=_;simp only[aac,aqM,pures,aFG,hb];rfl) hO (gen _ F).2 (by rw[F];exact h2.1) (hy _ p)
   rw[S5]at a0;exact a0 (gen _ F).1
  all_goals grind
end Go.Proofs.YtakkigoeiahlcaaGreat
namespace Go.Proofs.YtakkigoeiahlcaaGreat
open Tryz
open Go.Ag
open Go.Sort (SWO)
def OI{α β:Type}{f:α->List β}{n:Nat}:∀{l:List α},(∀x∈l,(f x).length<=n)->(l.flatMap f).length<=J l*n
 |[],_=>fT _
 |x::l,h=>by
  have j:=h x gz;have g:=OI (l:=l) λy d=>h y (ig _ d);rw[List.flatMap_cons,bI,bP,Nat.succ_mul];omega
theorem acu{α:Type}[DecidableEq α]:∀{K L:List α},K.Nodup->(∀x∈K,x∈L)->J K<=J L
 |[],_,_,_=>fT _
 |x::K,L,nd,h=>by
  let⟨h1,h2⟩:=List.nodup_cons.1 nd
  have j:=h x gz;have g:=acu (K:=K) (L:=L.erase x) h2 λy d=>(List.mem_erase_of_ne (λe=>h1 (by rw[<-e];exact d))).2 (h y (ig _ d))
  grind
theorem abi(a b:ae):((fS a b).1=a\/(fS a b).1=b)/\((fS a b).2=a\/(fS a b).2=b):=by
 grind [fS,D0,DX]
variable{o:Obj}
theorem aCQ{k:CK}(h:k∈mI o):k.1∈o.gT/\k.2∈o.gT:=by
 unfold mI at h;obtain⟨p,d,rfl⟩:=cy.1 h;have j:p.1∈o.gT:=(List.of_mem_zip d).1;have g:p.2∈o.gT:=by
  rcases fJ.1 (List.of_mem_zip d).2 with h|h
  exact List.mem_of_mem_tail h
  grind
 grind [abi]
variable{l:ba}
theorem JO{r:ae}(h:dH l r=O):∃q,cD r l=X q/\q.Al=1:=by
 grind [dH,m7,aj]
theorem avV{k:CK}(h:k∈kA l o):dH l k.1=O/\dH l k.2=O:=by
 grind [kA,BE,aCQ]
theorem abA(l:ba)(o:Obj):(kA l o).length<=J o.gT:=by
 grind [kA,mI]
theorem aer(id:ae):∀(g:p0)(d:p0×(Y_)),(∀k,k∈(g.foldl (jK id) d).1->k∈d.1\/k∈g)/\∀k y,y∈(g.foldl (jK id) d).2 k->y∈d.2 k\/(y=id/\k∈g)
 |[],d=>⟨λ_ h=>.inl h,λ_ _ h=>.inl h⟩
 |j::g,d=>by
  let⟨h1,h2⟩:=aer id g (jK id d j)
  have z:∀k,k∈(jK id d j).1->k∈d.1\/k=j:=λk w=>by
   grind [jK,sj]
  have x:∀k y,y∈(jK id d j).2 k->y∈d.2 k\/(y=id/\k=j):=λk y u=>by
   unfold jK at u;cases e:(d.2 j).contains id;rw[e]at u
   grind [lX]
   rw[e]at u;exact .inl u
  grind
theorem RY(l:ba):∀(os:ba)(d:p0×(Y_)),(∀k,k∈(os.foldl (i9 l) d).1->k∈d.1\/∃o∈os,k∈kA l o)/\∀k y,y∈(os.foldl (i9 l) d).2 k->y∈d.2 k\/∃o∈os,y=o.id/\k∈kA l o
 |[],d=>⟨λ_ h=>.inl h,λ_ _ h=>.inl h⟩
 |o::os,d=>by
  let⟨h1,h2⟩:=RY l os (i9 l d o)
  let⟨a1,a2⟩:=aer o.id (kA l o) d
  refine⟨λk u=>?_,λk y g=>?_⟩;rcases h1 k u with h|⟨q,j,h⟩
  rcases a1 k h with h|h<;>grind
  grind
  rcases h2 k y g with h|⟨q,j,h⟩
  rcases a2 k y h with h|h<;>grind
  grind
theorem azy{k:CK}(h:k∈(gZ l).1):∃o∈l,k∈kA l o:=by
 rcases(RY l l ([],λ_=>[])).1 k h with h|h
 cases h;exact h
def adl{k:CK}{y:ae}(h:y∈(gZ l).2 k):∃o∈l,y=o.id/\k∈kA l o:=by
 rcases(RY l l ([],λ_=>[])).2 k y h with h|h
 cases h;exact h
theorem acD(l:ba)(k:CK):∀(os:ba)(d:p0×(Y_)),((os.foldl (i9 l) d).2 k).length<=(d.2 k).length+(os.flatMap (kA l)).length
 |[],_=>Nat.le_add_right _ _
 |o::os,d=>by
  have g:=acD l k os (i9 l d o)
  grind [Ni,i9]
theorem azA(l:ba)(k:CK):((gZ l).2 k).length<=(l.flatMap (kA l)).length:=by
 grind [gZ,acD]
theorem awZ{k:CK}:k∈iJ l↔k∈(gZ l).1:=(HY _).mem_iff
theorem Rh{k:CK}(h:k∈iJ l):dH l k.1=O/\dH l k.2=O:=by
 grind [azy,awZ,avV]
theorem axG(g:bm l=O){r:ae}(h:dH l r=O):bO (eV l r)=O:=by
 let⟨q,hq,hk⟩:=JO h
 unfold bm at g;simp only[bg]at g;have d:=sm l [] g.1 q (oN hq).1;rw[HH hq];unfold dY at d
 let⟨_,d⟩:=(λh=>⟨trivial,h⟩:_->True/\_) d
 cases e1:lK q with
 |true=>rw[e1]at d;cases d
 |false=>
 rw[e1]at d;cases e2:rm q.Al [] [] q.gT with
 |true=>rw[e2]at d;cases d
 |false=>
 rw[e2,hk]at d;have d:(J q.gT==0&&Ab q.x q.y)=O:=d
 grind [Ab,bT,aR,bO]
theorem aCz(d:bm l=O){k:CK}(h:k∈iJ l):qM (oQ l k)=O:=by
 grind [Rh,qM,oQ,axG]
def FN(l:ba):p0:=(gF ((iJ l).map (oQ l))).flatMap λx=>
 let a:=(iJ l).getD x.1.toNat ([],[])
 let b:=(iJ l).getD x.2.1.toNat ([],[])
 bif EE a b x.2.2 then []else((gZ l).2 a).flatMap λu=>((gZ l).2 b).map λy=>fS u y
def zD(l:ba):cf:=(iJ l).flatMap λk=>[k.1,k.2]
def KX(l:ba):p0:=(zD l).flatMap λx=>((zD l).filter λy=> !(x==y)&&(aj (eV l x).1 (eV l y).1&&aj (eV l x).2 (eV l y).2)).map λy=>fS x y
def uY(l:ba):p0:=(KX l++FN l).foldl (λK k=>fe k K) []
theorem Uv{k:CK}:∀{l K:p0},k∈l.foldl (λK k=>fe k K) K↔k∈K\/k∈l
 |[],K=>by simp
 |j::l,K=>by
  rw[AP,Uv,sj,dD]
  grind
def Uw:∀{l K:p0},K.Nodup->(l.foldl (λK k=>fe k K) K).Nodup
 |[],_,h=>h
 |j::l,K,h=>by
  rw[AP];exact Uw (zh h)
def UZ(l:ba):(uY l).Nodup:=Uw CC
def ab2{k:CK}:k∈uY l↔k∈KX l\/k∈FN l:=by
 unfold uY;rw[Uv,fJ];simp
theorem ab3{k:CK}:k∈KX l↔∃x y,x∈zD l/\y∈zD l/\x≠y/\eV l x=eV l y/\k=fS x y:=by
 grind [aj,KX]
theorem aq8(T:CK->Nat){k:CK}:(∃x∈gF ((iJ l).map (oQ l)),xy ((iJ l).map λk=>(k,(gZ l).2 k,T k)) x k)↔k∈FN l:=by
 unfold FN;rw[uK];refine exists_congr λx=>and_congr_right λd=>?_;have g:=Nk d;rw[bh]at g;have h:∀i:Int,0<=i->i<(iJ l).length->((iJ l).map λk=>(k,(gZ l).2 k,T k)).getD i.toNat jg=((iJ l).getD i.toNat ([],[]),(gZ l).2 ((iJ l).getD i.toNat ([],[])),T ((iJ l).getD i.toNat ([],[]))):=λi u j=>by
  grind
 grind [xy]
theorem akT{x:ae}(h:x∈zD l):∃q∈l,q.id=x:=by
 unfold zD at h
 let⟨k,hk,hx⟩:=uK.1 h
 let⟨h1,h2⟩:=Rh hk
 let⟨q1,g1,_⟩:=JO h1
 let⟨q2,g2,_⟩:=JO h2
 simp only[dD,nZ,or_false]at hx;rcases hx with rfl|rfl
 exact⟨q1,oN g1⟩;exact⟨q2,oN g2⟩
theorem UX{k:CK}(h:k∈uY l):k.1∈l.map Obj.id/\k.2∈l.map Obj.id:=by
 have ids:∀{x y:ae},x∈l.map Obj.id->y∈l.map Obj.id->(fS x y).1∈l.map Obj.id/\(fS x y).2∈l.map Obj.id:=λ{x y} g d=>by
  grind [abi]
 rcases ab2.1 h with h|h
 obtain⟨x,y,g,d,_,_,rfl⟩:=ab3.1 h
 grind [akT]
 unfold FN at h
 let⟨x,_,h⟩:=uK.1 h
 cases e:EE ((iJ l).getD x.1.toNat ([],[])) ((iJ l).getD x.2.1.toNat ([],[])) x.2.2;simp only[e,cF,uK,cy]at h;obtain⟨u,j,y,d,rfl⟩:=h;obtain⟨z,B,rfl,_⟩:=adl j;obtain⟨w,A,rfl,_⟩:=adl d
 grind [List.mem_map_of_mem]
 simp only[e,cT]at h;cases h
theorem UY(l:ba):(uY l).length<=J l*J l:=by
 have h:=acu (L:=(l.map Obj.id).flatMap λx=>(l.map Obj.id).map λy=>(x,y)) (UZ l) λk d=>by
  grind [UX]
 have g:=OI (f:=λx=>(l.map Obj.id).map λy=>(x,y)) (n:=J l) (l:=l.map Obj.id) λx _=>by
  grind
 grind
theorem acO{a b:CK}(h:iL a=iL b):a=b:=by
 grind [iL]
def qT(K:p0):p0:=(jS jX dV (K.map λk=>(k,0))).map (·.1)
def aDU(L:r_):SWO (ltOf λx y:Fin (J L)=>ep jX dV L x y):=Mi aeR λi:Fin (J L)=>iL (L.getD i dV).1
variable{K:p0}
def aDm{L:r_}(h:(L.map (·.1)).Perm K):(jS jX dV L).map (·.1)=qT K:=by
 have g:((jS jX dV L).map (·.1)).Perm (qT K):=by
  refine(((we jX dV L).map _).trans h).trans ?_;refine(((we jX dV (K.map λk=>(k,0))).map (·.1)).trans ?_).symm;rw[l9];exact .of_eq (List.map_id K)
 have d:∀L:r_,((jS jX dV L).map (·.1)).Pairwise λa b=>¬fk (iL b) (iL a)<0:=λL=>by
  rw[yN];exact Mb jX dV L (aDU L)
 refine g.eq_of_pairwise (λa b _ _ u j=>?_) (d L) (d _);exact acO (ae7 (by simp_all [ltOf]) (by simp_all [ltOf]))
theorem ayn{L:r_}(h:(L.map (·.1)).Perm K)(g:K.Nodup)(j:J K<=1000000):BR L=O:=by
 simp only[BR,dE];have d:=h.length_eq
 grind [acO]
theorem axI{α:Type}[DecidableEq α]{K L:List α}(h1:K.Nodup)(d:L.Nodup)(h:∀x,x∈K↔x∈L):K.Perm L:=by
 grind
end Go.Proofs.YtakkigoeiahlcaaGreat
namespace Go.Proofs.YtakkigoeiahlcaaGreat
open Tryz
open Go.Ag
def ju:dy:=[(20,gI),(98,Bb)]
def af3:eh ju:=.cons vB (.cons agV .nil)
noncomputable def jw:qp:=[(94,Mc),(55,EN)]
def agp:rk jw:=.cons aDh (.cons aDl .nil)
def Cq(l:ba):aa:=fG 3 ((qT (uY l)).map λk=>mO (k,0))
theorem WF{g:aaE}:∀{a b c d:az},da g a=X c->da g b=X d->da g (a++b)=X (c++d)
 |[],b,c,d,h1,h2=>by
   cases h1;exact h2
 |x::a,b,c,d,h1,h2=>by
  simp only[da,ak,aQ]at h1;obtain⟨u,w,r,h,rfl⟩:=h1;have j:=WF h h2
  grind [da]
theorem WI{h:aB aH}:∀{L:r_},(∀x∈L,Gg h.get x)->∃m,da (b9 h m) (aq (L.map hQ))=X (aq (L.map mO))
 |[],_=>⟨0,rfl⟩
 |x::L,hi=>by
  let⟨k,hk⟩:=afq (hi x gz)
  let⟨m1,h1⟩:=OS hk
  let⟨m2,h2⟩:=WI (L:=L) λy d=>hi y (ig _ d)
  refine⟨max m1 m2,?_⟩
  grind [aq,WF,zH,Dt,Nat.le_max_right]
variable{s:St}{v:aa}
theorem am9{L:r_}(hi:∀x∈L,Gg s.heap.get x)(h:fW 3 s v (L.map hQ)):fF s.heap v (fG 3 (L.map mO)):=by
 rcases h with⟨rfl,j⟩|⟨g,n,rfl,u,_⟩
 have j:=nX.1 j;subst j;exact⟨1,rfl⟩
 let⟨m,hm⟩:=WI hi
 refine⟨m+1,?_⟩;have u:s.heap.get n=X (.cells (aq (L.map hQ))):=u;have z:cut (aq (L.map hQ)) 0 ((L.map hQ).length*3)=X (aq (L.map hQ)):=by
  have:=nS (k:=3) (λv d=>Tv (R:=L) v d);simp only[cut,kG,cd];rw[nA w_,this];simp
 have e:fG 3 (L.map mO)=.list 3 (L.map mO) .no:=by
  rcases L with _|⟨x,xs⟩
  exact absurd rfl g;rfl
 have y:(L.map hQ).length=(L.map mO).length:=by rw[bh,bh]
 have w:=NX (k:=3) (l:=L.map mO) λv d=>by
  obtain⟨a,_,rfl⟩:=cy.1 d;exact R_
 grind [b9,aA]
def agT{segs:wj}(h:J segs<=1000):(gF segs).length<=1000000:=by
 have d:=HD (F:=fM) (jY 0 segs);rw[xD]at d;have:J segs*J segs<=1000*1000:=n7 h h;unfold gF;omega
theorem aBV{a b:Nat×Nat}(h:(vV a).cells=(vV b).cells):a=b:=by
 grind [vV,mo]
theorem aqJ{g:U_}{x:jv}(h:g x.2=X (.cells (Bh x.1))):Gg g x:=by
 refine⟨EA x.1,h,?_⟩
 grind [jz,EA]
variable{lo:Nat}{ov:aa}
def aC9{Q:ay}[Std Q](j:Q.spec 55=Z)(h:Q.specW 55=X EN){d:r_}(B:M7 lo s ov d)(U:BR d=O):
 ∃s',ai Q 55 [ov,.func (.func 56) [] []] s (.tup []) s'/\fF s'.heap ov (fG 3 ((jS jX dV d).map mO)):=by
 have z:=we jX dV d;rcases B.row with⟨rfl,w⟩|⟨w,k,rfl,Y,A⟩
 have w:=nX.1 w;subst w;refine⟨s,ai.specW0 j (Std.H _) h rfl,?_⟩;rw[List.Perm.eq_nil z];exact⟨1,rfl⟩;have hid:=λx g=>(B.ids x g).1;have u:∀x∈d,x.2≠k:=λx g e=>(B.ids x g).2.2.2 (by rw[e];rfl);have G:(d.map hQ).length=J d:=bh ..;have y:ee (s.get []) (bif aA (aq (d.map hQ)).length ((d.map hQ).length*3)then Nz k (ve vV (aq (d.map hQ)))else .ret Z)=X (.agg (aq ((jS jX dV d).map hQ))):=by
  have h1:(aq (d.map hQ)).length=(d.map hQ).length*3:=nS λv F=>Tv v F;have h2:d.map hQ=(d.map λx=>(x.2,jz x.1)).map vV:=by rw[l9];rfl
  have h3:ve vV (aq (d.map hQ))=X (d.map λx=>(x.2,jz x.1)):=by
   rw[h2];exact Jf (k:=3) (λ_=>rfl) d_ (λa b=>aBV) _
  rw[h1,cd,bS,cT,h3];have h4:(d.map λx=>(x.2,jz x.1)).all (λx=> !(x.1==k))=O:=by
   rw[fO];intro x g;obtain⟨a,ha,rfl⟩:=cy.1 g;simpa using u a ha
  show ee (s.get []) (bif(d.map λx=>(x.2,jz x.1)).all (λx=> !(x.1==k))then wX (d.map λx=>(x.2,jz x.1)) λL=>su (bif BR L then X (aq ((jS jX dV L).map hQ))else Z)else .ret Z)=_;rw[h4,cT,UT hid,U];rfl
 refine⟨_,ai.specW (n:=k) (cs':=aq ((jS jX dV d).map hQ)) j (Std.H _) h rfl Y y,?_⟩;refine am9 (λx g=>aqJ ?_) (.inr ⟨λe=>?_,k,?_,?_,A⟩);have g:=z.mem_iff.1 g;have:(s.put k (X (.cells (aq ((jS jX dV d).map hQ))))).get [] x.2=s.get [] x.2:=by
  rw[aO,bN.2 (u x g)];rfl
 exact this.trans (hid x g)
 simp_all
 rw[bh,bh,z.length_eq];rw[aO,bS];rfl
variable{l:ba}
theorem ai7(ch:dd)(ho:au 6 Obj.val ov l)(hg:∀o∈l,o.AL)(hl:J l<=900)(hr:∀o∈l,J o.gT<=999)(hv:bm l=O)(g:(iJ l).length<=1000)(i4:s.gE<=s.aL):
 ∃v s',ai (QW ju jw ch) 24 [.agg [ov]] s v s'/\fF s'.heap v (Cq l):=by
 have n2:Std (QW ju jw ch):=inferInstance;have hK:∀i,1000000<=(QW ju jw ch).kmax i:=λ_=>aC _;have j7:(QW ju jw ch).spec 20=X gI:=rfl;have g8:(QW ju jw ch).spec 98=X Bb:=rfl;have k4:No (QW ju jw ch) 24:=R_;have c8:No (QW ju jw ch) 47:=R_;have c7:No (QW ju jw ch) 48:=R_;have a1:No (QW ju jw ch) 49:=R_;have a0:No (QW ju jw ch) 50:=R_;have A:No (QW ju jw ch) 51:=R_;have c6:No (QW ju jw ch) 52:=R_;have c5:No (QW ju jw ch) 53:=R_;have c4:No (QW ju jw ch) 54:=R_;have a8:(QW ju jw ch).spec 55=Z:=rfl;have c3:(QW ju jw ch).specW 55=X EN:=rfl;have h0:(QW ju jw ch).spec 94=Z:=rfl;have c0:(QW ju jw ch).specW 94=X Mc:=rfl;have j:No (QW ju jw ch) 97:=R_;have c1:No (QW ju jw ch) 93:=R_;have b6:No (QW ju jw ch) 143:=R_;have b8:No (QW ju jw ch) 135:=R_;have c2:No (QW ju jw ch) 88:=R_;generalize QW ju jw ch=Q at*;have b1:=ho.cs;have k2:(l.flatMap (kA l)).length<=J l*999:=OI λo h=>dg (abA l o) (hr o h);have m4:J l*999<=900*999:=Nat.mul_le_mul_right _ hl;have l7:=adk l;refine ai.ofNRZ atg (aM ?_);simp only[go_sem,seval,b1];have i1:=ax6 j7 c8 ho hg w_ (rQ hv) hv i4;refine aU.ex i1 d_ ?_;rintro v s1 ⟨rfl,f7,g2⟩;have n1:s1.aL=s.aL+1:=g2.aL;simp only[go_sem,seval,b1,sB];have i0:=avW hK c7 h0 c0 A j c1 b6 b8 c2 ho hg w_ hr w_ (n:=s.aL) f7 w_ g2.mw;refine aU.ex i0 d_ ?_;rintro v d ⟨⟨r,c,T,rfl,f4,l6⟩,f1,m3,e5,_⟩;obtain⟨R,F⟩:=cw ((iJ l).map (λk=>(k,(gZ l).2 k,T k)));have i7:(iJ l).length=J R:=by rw[<-F,bh]
 have i8:((iJ l).map λk=>ip (k,(gZ l).2 k,T k))=R.map ip:=by rw[<-F,l9];rfl
 rw[i7]at g⊢;rw[i8]at f4;have n0:∀x∈R,dH l x.1.1=O/\dH l x.1.2=O:=λx hx=>by
  grind [Rh]
 have f3:∀x∈R,(∃q,cD x.1.1 l=X q)/\∃q,cD x.1.2 l=X q:=λx hx=>by
  grind [JO]
 have j3:bf aa.str d s.aL (iI 0 l):=(f1 _ w_).trans f7;have cn:aa.nilm.cells=[.nilm]:=rfl;obtain⟨z,hz⟩:=cw (((d.new (.map [] 0)).new (.cells [.nilm])).put (d.aL+1) (X (.cells [.map d.aL])));have d6:(d.new (.map [] 0)).aL=d.aL+1:=rfl;have zn:z.aL=d.aL+2:=by rw[<-hz];rfl
 have zb:z.get [] (d.aL+1)=X (.cells [.map d.aL]):=by rw[<-hz,aO,bS];rfl
 have zm:z.get [] d.aL=X (.map [] 0):=by
  rw[<-hz,aO,bN.2 (by omega:d.aL≠d.aL+1),cF,cQ (by rw[d6];omega)];exact cr
 have zo:∀k,k<d.aL->z.get [] k=d.get [] k:=λk hk=>by
  grind [aO,cQ]
 have zw:z.gE<=z.aL:=by
  rw[<-hz];exact cG _ _ _ (co (co e5))
 have i5:((d.new (.map [] 0)).new (.cells [.nilm])).get [] (d.aL+1)=X (.cells [.nilm]):=cr
 let⟨y,hy,_,yw,yo,ym⟩:=oL (.map [] 0) zw
 have yn:y.aL=d.aL+3:=by rw[<-hy];show z.aL+1=_;omega
 have yM:bf aa.str y s.aL (iI 0 l):=((yo _ w_).trans (zo _ w_)).trans j3;have a9:y.get [] (d.aL+1)=X (.cells [.map d.aL]):=(yo _ w_).trans zb;have yR:y.get [] r=X (.cells (aq (R.map ip))):=((yo _ w_).trans (zo _ w_)).trans f4;have yS:Fs l y y z.aL d.aL (z.aL+1) (qz []) [] [] (λ_=>[]) (λ_=>0):=by
  refine⟨⟨ym,CC,λ_ h=>(by cases h),λ_ h=>(by cases h),λ_ _=>rfl,iA _,w_⟩,(yo _ w_).trans zm,λ_ _ _ _=>rfl,⟨λq id=>?_,λk=>?_,CC,λ_=>fT _⟩,aC _,yw⟩;simp[qz];simp[qz]
 simp only[go_sem,seval,jA,dh,i5,dq,Rp,cn,d6,hz,hy,sB];refine ahV a1 a0 A j ho (n:=s.aL) (bx:=d.aL+1) (ma:=z.aL) (mb:=d.aL) (lo:=z.aL+1) (r:=r) (c:=c) w_ w_ w_ w_ w_ w_ w_ w_ w_ w_ w_ (s0:=y) yM a9 g yR f3 ?_ R [] _ _ y [] [] _ _ rfl yS ⟨?_,?_,?_,?_,?_,?_,?_⟩ ?_ ?_ ?_
 ·intro e3 l5 s3 i2 K3 V3 T3 S3 E3
  have a5:∀k,k<z.aL->k≠d.aL->s3.get [] k=y.get [] k:=λk Y h2=>S3.fr k w_ w_ h2;have l1:=S3.nx;simp only[go_sem,seval,E3.h5,Rp,sB];refine ah3 (N:=J R) g (lo:=s3.aL) (s0:=s3) (E0:=e3) ?_ (J R) 0 _ s3 .Ge rfl (.inl R_) (λ_ _=>rfl) S3.mw (aC _) ?_ ?_ ?_ ?_ ?_ ?_ ?_
  ·intro e4 s4 lv f6 f0 e2 k1 h4 g3 g5 g6 g7
   let⟨w,hw,wn,ww,wo,_⟩:=oL (.map [] 0) e2
   have wm:bf aX w s4.aL []:=by rw[<-hw];exact cr
   have a4:∀k,k<s3.aL->w.get [] k=s3.get [] k:=λk Y=>(wo k w_).trans (f0 k Y);have a2:∀k,k<z.aL->k≠d.aL->w.get [] k=y.get [] k:=λk Y h2=>(a4 k w_).trans (a5 k Y h2);have wM:bf aa.str w s.aL (iI 0 l):=(a2 _ w_ w_).trans yM;have wR:w.get [] r=X (.cells (aq (R.map ip))):=(a2 _ w_ w_).trans yR;have h8:=aCC c5 a0 ho (n:=s.aL) (r:=r) (c:=c) g f3 wM wR w_ w_ ww;have d1:=f6.gt;have k3:=g3.trans E3.h3;have k5:=g5.trans E3.h5;have k6:=g6.trans E3.h6;have k7:=g7.trans E3.h7;simp only[go_sem,seval,h4,k3,k5,E3.l3,E3.g3,jA,hw,d1,b1,sB];refine aU.ex h8 d_ ?_;rintro sv s5 ⟨d2,a7,m2,e1⟩;have i3:=d2.gt;have d4:(R.map λx=>oQ l x.1)=(iJ l).map (oQ l):=by rw[<-F,l9];rfl
   have G:(R.map λx=>oQ l x.1).length=J R:=bh ..;have b0:∀x∈R.map (λx=>oQ l x.1),qM x=O:=λx hx=>by
    grind [aCz]
   have h9:=awR c6 g8 d2 (lv:=lv) (by rw[G];exact f6.isL) (by rw[G];exact g) b0 (m:=s4.aL) ((a7 _ w_).trans wm) w_ e1;simp only[go_sem,seval,i3,h4,d1,sB];refine aU.ex h9 d_ ?_;rintro v s6 ⟨rfl,U,e9,m1,e0⟩;obtain⟨M,H⟩:=cw (gF (R.map λx=>oQ l x.1));have j1:J M<=1000000:=by rw[<-H];exact agT (by rw[G];exact g)
   have j2:∀x∈M,(0<=x.1/\x.1<J R)/\(0<=x.2.1/\x.2.1<J R):=λx hx=>by
    rw[<-H]at hx
    have:=Nk hx;rwa [G]at this
   have i6:∀x∈R,J x.2.1<=1000000:=λx hx=>by
    grind [azA]
   rw[H]at U;have d5:=ij.new aET U;have hI:=ij.begin U w_;obtain⟨u,hu⟩:=cw (s6.new (.iter (X s4.aL) (mZ M).length [] (mZ M).length));rw[hu]at d5 hI;have un:u.aL=s6.aL+1:=by rw[<-hu];rfl
   have uo:∀k,k<s6.aL->u.get [] k=s6.get [] k:=λk hk=>by rw[<-hu,cQ hk]
   have uw:u.gE<=u.aL:=by rw[<-hu];exact co e0
   have a3:∀k,k<s3.aL->u.get [] k=s3.get [] k:=λk Y=>(uo k w_).trans ((e9 k w_ w_).trans ((a7 k w_).trans (a4 k Y)));have B:∀k,k<z.aL->k≠d.aL->u.get [] k=y.get [] k:=λk Y h2=>(a3 k w_).trans (a5 k Y h2);simp only[go_sem,seval,F7,d5,sB];refine ah0 hK a1 A j (it:=s6.aL) (mf:=s4.aL) (bx:=d.aL+1) (mb:=d.aL) (r:=r) (c:=c) (lo:=s6.aL+1) (M:=M) j1 (R:=R) g j2 i6 w_ w_ w_ w_ w_ w_ w_ w_ w_ w_ w_ w_ (s0:=u) ((uo _ w_).trans U) ((B _ w_ w_).trans a9) ((B _ w_ w_).trans yR) (KB0:=i2) (E0:=e4) ?_ (J M) [] _ _ u i2 (by simp) hI (λk=>by simp) S3.i.nd ((a3 _ w_).trans S3.m) (λ_ _ _ _=>rfl) (aC _) w_ uw ?_ ?_ ?_ ?_
   ·intro e7 l4 s7 KB7 f9 d0 g1 e6 m0 d7 j5
    have Ke:=j5.trans k6;have f2:s7.get [] (d.aL+1)=X (.cells [.map d.aL]):=((e6 _ w_ w_ w_).trans (B _ w_ w_)).trans a9;have f8:KB7.Perm (uY l):=axI d0 (UZ l) λk=>by
     rw[f9,ab2,ab3,S3.i.b,<-H,d4];have he:qz R=zD l:=by
      rw[<-F];unfold qz zD;rw[List.flatMap_map]
     rw[he];refine or_congr Iff.rfl ?_;rw[<-F];exact aq8 T
    have j4:J KB7<1000000:=by
     rw[f8.length_eq];have Y:=UY l;have h2:J l*J l<=900*900:=n7 hl hl;omega
    have a6:=ij.new aES g1;have g0:=ij.begin g1 w_;obtain⟨t,ht⟩:=cw (s7.new (.iter (X d.aL) (jL KB7).length [] (jL KB7).length));rw[ht]at a6 g0;have tn:t.aL=s7.aL+1:=by rw[<-ht];rfl
    have tw:t.gE<=t.aL:=by rw[<-ht];exact co d7
    simp only[go_sem,seval,Ke,f2,F7,a6,sB];refine ah7 hK c4 (it:=s7.aL) (mb:=d.aL) (lo:=s7.aL+1) (KB:=KB7) j4 w_ w_ w_ ?_ (J KB7) [] _ _ t .Ge [] (by simp) g0 rfl ⟨.inl R_,λ_ h=>(by cases h),λ_ h=>(by cases h)⟩ w_ tw ?_ ?_;intro e8 l2 s8 l0 j8 hp f5 k0 g4;have c9:=f5.row.gt
    let⟨s9,c134,hfz⟩:=aC9 a8 c3 f5 (ayn hp d0 w_)
    simp only[go_sem,seval,g4,c9,a8,sB];refine aU.of c134 d_ ?_;simp only[go_sem,seval,g4,c9,sB];refine⟨_,rfl,?_⟩;have e:Cq l=fG 3 ((jS jX dV j8).map mO):=by
     unfold Cq;rw[<-aDm (hp.trans f8),l9];rfl
    rw[e];exact hfz
    all_goals simp only[sN,seval]
   all_goals simp only[sN,seval,k5,k7]
  all_goals simp only[sN,seval]
  all_goals rfl
 all_goals simp only[aah,oD,ct,cN,bC]
 all_goals rfl
def my(l:ba):Bool:=bm l&&(decide (J l<=900)&&(l.all (λo=>decide (J o.gT<=999))&&decide ((iJ l).length<=1000)))
structure TN (l:ba):Prop where
 valid:bm l=true
 len:l.length<=900
 gT:∀o∈l,o.gT.length<=999
 keys:(iJ l).length<=1000
def oC:my l=O↔TN l:=by
 unfold my;simp only[bg,dE,fO];exact⟨λ⟨a,b,c,d⟩=>⟨a,b,c,d⟩,λ⟨a,b,c,d⟩=>⟨a,b,c,d⟩⟩
def C3:Sp
 |[v]=>(kY v).bind λl=>bif my l then X (Cq l)else Z
 |_=>Z
def ah6:cW ag 24 C3:=by
 intro args u d G h w xs z A;unfold C3 at d;split at d;simp only[ak]at d
 let⟨l,x,d⟩:=d
 let⟨g,d⟩:=aZ d
 have d:=sI d;subst d;obtain⟨v,rfl,x,y,F⟩:=qr x
 let⟨ht,v',j,hl'⟩:=pJ x y
 have j:di [.agg [v]]=[.agg [v']]:=by simp only[di,j]
 have g:=oC.1 g;refine iQ af3 agp (args:=[.agg [v]]) (by simp only[dR,ht,bZ]) (λB=>?_) G h w xs z A;rw[j];exact ai7 B hl' y g.len g.gT g.valid g.keys d_;cases d
variable{Q:ay}[Std Q]
def axo(p:Pt):bO p=(bT (-2097152) (min p.1 p.2)&&bT (max p.1 p.2) 2097152):=by
 rw[Bool.eq_iff_iff];simp only[bO,bT,aR,bg,ny,dE,decide_eq_false_iff_not];omega
def agZ(r:oa):(!r.any λp=> !bO p)=r.all bO:=by
 induction r with
 |nil=>rfl
 |cons p r d=>
  rw[List.any_cons,pZ,Bool.not_or,d,Bool.not_not]
def acj(d:No Q 240)(p:Pt)(s:St):ai Q 240 [aX p] s (.bool (bO p)) s:=by
 refine ai.ofNZ atf (aM ?_);rw[axo];cases e1:bT (-2097152) (min p.1 p.2);simp only[go_sem,seval,aX,rF,tf,e1];simp only[go_sem,seval,aX,rF,tf,e1]
def amk(d:No Q 240)(g:No Q 239)(p:Pt)(s:St):ai Q 239 [aX p] s (.bool (!bO p)) s:=by
 refine ai.ofNZ atd ?_;have h:=acj d p s;refine aM ?_;simp only[aX]at h;simp only[go_sem,seval,aX];refine aU.of h d_ ?_;simp only[go_sem,seval]
variable{sv:aa}
def aom(d:No Q 287)(h:No Q 238){l:oa}(w:au 2 aX sv l)(j:J l<=1000000){g:FuncId}{cap:az}(u:Q.spec g=Z){p:Pt->Bool}(y:∀x∈l,ai Q g (aX x::cap) s (.bool (p x)) s):ai Q 238 [sv,.func (.func g) [] cap] s (.bool (l.any p)) s:=
 Gb aiX h aq0 d nj w (EK j) (λx _=>⟨(LD _ 0).trans rfl,rfl⟩) u y
def adT(j:No Q 287)(w:No Q 238)(u:No Q 240)(d:No Q 239)(B:No Q 168){r:oa}(A:au 2 aX sv r)(s:St):ai Q 168 [sv] s (.bool (oP r)) s:=by
 have h:=A.gt;have g:=A.lenS nj;have G:oP r=(bT 3 ((J r:Nat):Int)&&(bT ((J r:Nat):Int) 2000&&!r.any λp=> !bO p)):=by
  have z:bT 3 ((J r:Nat):Int)=decide (3<=J r):=decide_eq_decide.2 w_;have y:bT ((J r:Nat):Int) 2000=decide (J r<=2000):=decide_eq_decide.2 w_;rw[agZ,z,y];rfl
 refine ai.ofNZ ast (aM ?_);rw[G];cases z:bT 3 ((J r:Nat):Int);simp only[go_sem,seval,h,g,z];cases y:bT ((J r:Nat):Int) 2000;simp only[go_sem,seval,h,g,z,y];have H:J r<=2000:=by simp only[bT,dE]at y;omega
 have F:=aom j w A w_ d.s (cap:=[]) (s:=s) (p:=λp=> !bO p) λx _=>amk u d x s;simp only[go_sem,seval,h,g,z,y];refine aU.of F d_ ?_;simp only[go_sem,seval]
variable{i:Nat}{p:Pt}
def aep{r:oa}{q:Pt}(h1:r[i]?=X p)(d:r[(i+1) % J r]?=X q):fg r i=(p,q):=by
 unfold fg;rw[h1,d];rfl
variable{K:hP}{bx:Nat}{P:v_}{D:Q_}{rv:aa}
def aCN{r:oa}(A:au 2 aX rv r)(a5:J r<=2000){n:Nat}(hb:∀i s,P i s->s.get [] bx=X (.cells [rv]))(Y:∀i s,P i s->s.gE<=s.aL)(H:∀i s,i<J r->P i s->∃v s',iT Q n [an i,bV (fg r i)] s.top v s'/\(s'.ci=s.ci/\s.aL<=s'.aL/\((v=.bool O/\P (i+1) (s.GE s'))\/(v=.bool I/\D (s.GE s')))))(hx:∀e lc s,P (J r) s->K (.exit 0) ⟨e,27,lc⟩ s)(hd:∀e lc s,D s->K .ret ⟨e,27,lc⟩ s):
 ∀(rest d:oa)(e:ax)(lc:Ag.Loc)(s:St),r=d++rest->P (J d) s->ac e 0=.yld n->ac e 1=.ptr bx 0->ac e 5=rv->ac e 6=an (J r)->ac e 7=an (J d)->W Q 181 (.loop PD) ⟨e,27,lc⟩ s K:=by
 intro rest
 induction rest with
 |nil=>
  intro d e lc s G x h0 j h5 F B;have y:=cL G;refine aF ?_;simp only[go_sem,seval,PD,F,B,y,bJ];exact hx _ _ _ (by rw[<-y];exact x)
 |cons p rest ih=>
  intro d e lc s G x h0 j h5 F B
  let⟨hlt,hat⟩:=cR G
  have a1:=λlc k=>A.at nj.2.2.1 hat lc k;have u:=cm (n:=J d) w_;have g:0<J r:=w_
  have w:=adU (a:=J d+1) (b:=J r) g;obtain⟨q,hq⟩:∃q,r[(J d+1) % J r]?=X q:=⟨_,dA (wN _ g)⟩;have z:=λlc k=>A.at nj.2.2.1 hq lc k;have h:=aep hat hq;have a3:=A.gt;have a0:=A.lenS nj;have a4:=hb _ _ x;have hm:=Y _ _ x
  let⟨v,s1,hy,hc1,hc2,hc3⟩:=H (J d) s hlt x
  rw[h]at hy;simp only[bV]at hy;refine aF ?_;simp only[go_sem,seval,PD,h5,F,B,hlt,a1,aX,h0,j,u,a3,a4,ue,a0,w,z,sB,hm];refine Ib.of hy hc1 hc2 d_ (by simp[fB,kE]) ?_;rcases hc3 with⟨rfl,U⟩|⟨rfl,a2⟩
  ·simp only[go_sem,seval,B,u]
   refine ih (d++[p]) _ _ (s.GE s1) (by rw[G];simp) (by rw[bI];exact U) ?_ ?_ ?_ ?_ ?_
   all_goals simp only[sN,seval,h0,j,h5,F,sA]
  simp only[go_sem,seval];exact hd _ _ _ a2
def Cg(z:No Q 181){r:oa}(j:au 2 aX rv r)(d:J r<=2000){n:Nat}(B:∀i s,P i s->s.get [] bx=X (.cells [rv]))(u:∀i s,P i s->s.gE<=s.aL)(g:∀i s,i<J r->P i s->∃v s',iT Q n [an i,bV (fg r i)] s.top v s'/\(s'.ci=s.ci/\s.aL<=s'.aL/\((v=.bool O/\P (i+1) (s.GE s'))\/(v=.bool I/\D (s.GE s')))))(A:P 0 s):
 ∃v s',ai Q 181 [.yld n,.ptr bx 0] s v s'/\(v=.tup []/\(P (J r) s'\/D s')):=by
 have y:=B _ _ A;have w:=j.lenS nj;have x:=j.gt;refine ai.ofNRZ asB (aM ?_);simp only[go_sem,seval,y,ue,w,x];refine aCN j d B u g ?_ ?_ r [] _ _ s rfl A ?_ ?_ ?_ ?_ ?_;intro e lc F h;simp only[go_sem,seval];exact⟨_,rfl,rfl,.inl h⟩;intro e lc F h;simp only[go_sem,seval];exact⟨_,rfl,rfl,.inr h⟩
 all_goals simp only[sN,seval,bC]
 all_goals rfl
def Ce(g:No Q 110){r:oa}(h:au 2 aX rv r)(s:St):ai Q 110 [rv] s (.func (.func 181) [] [.ptr s.aL 0]) (s.new (.cells [rv])):=by
 have d:=h.cs;refine ai.ofNZ arM (aM ?_);simp only[go_sem,seval,d,aeT]
noncomputable abbrev mC(E:ax)(x:MA):aH:=.loop 103 E 54 [21,22] Gn Gq x
def afv{a b:Nat}(h:b<=a)(j:a<=100000):IntKind.i64.wrap (((a:Nat):Int)-((b:Nat):Int))=((a-b:Nat):Int):=by
 have g:mJ ((a:Nat):Int)=O:=by unfold mJ;simp only[bg,dE];omega
 have d:mJ ((b:Nat):Int)=O:=by unfold mJ;simp only[bg,dE];omega
 rw[Ma g d];omega
def XN(a b:Nat):aj ((a:Nat):Int) ((b:Nat):Int)=(a==b):=by
 rw[Bool.eq_iff_iff];simp only[aj,bE];omega
def B4{r:oa}(d:r.all bO=O)(hi:i<J r):bO (fg r i).1=O/\bO (fg r i).2=O:=by
 have h:=fO.1 d;have g:(i+1) % J r<J r:=wN _ w_;unfold fg;rw[dA hi,dA g];exact⟨h _ (AU _),h _ (AU _)⟩
structure gU (r:oa) (i:Nat) (s0 s:St):Prop where
 old:∀j,j<s0.aL->s.get [] j=s0.get [] j
 mw:s.gE<=s.aL
 lt:s0.aL<s.aL
 ci:s.ci=s0.ci
variable{b2 b3 b4 b5:Nat}{E:ax}
def aCU(U:Q.spec 99=X kQ){r:oa}(a8:J r<=2000)(hn:r.all bO=O)(hi:i<J r){s0:St}(H:s0.get [] b2=X (.cells [.bool I]))(a7:s0.get [] b3=X (.cells [an (J r)]))(a6:s0.get [] b4=X (.cells [an i]))(a5:s0.get [] b5=X (.cells (bV (fg r i)).cells))(l2:b2<s0.aL)(l3:b3<s0.aL)(l4:b4<s0.aL)(l5:b5<s0.aL)(e2:ac E 2=.ptr b2 0)(e3:ac E 3=.ptr b3 0)(e4:ac E 4=.ptr b4 0)(e5:ac E 5=.ptr b5 0){k:Nat}(hk:k<J r)(a3:k<=i)(Y:gU r i s0 s)(hl:s.get [] s0.aL=X (mC E Z)):
 ∃v s',iT Q s0.aL [an k,bV (fg r k)] s.top v s'/\(s'.ci=s.ci/\s.aL<=s'.aL/\gU r i s0 (s.GE s')/\((v=.bool O/\s'.get [] s0.aL=X (mC E Z)/\k<i/\m9 r i k=O)\/(v=.bool I/\((s'.get [] s0.aL=X (mC E (X (.exit 2)))/\k=i)\/(s'.get [] s0.aL=X (mC E (X .ret))/\k<i/\m9 r i k=I))))):=by
 let⟨n1,n2⟩:=B4 hn hi
 let⟨n3,n4⟩:=B4 hn hk
 have hq:=Rz n1 n2 n3 n4;have a9:=Y.lt;have a2:=Y.mw;refine iT.any (ca:=Pd) (cb:=JR) (show s.top.get [] s0.aL=_ from hl) rfl rfl arC arE ?_;refine aM ?_;obtain⟨w,G⟩:=cw (s.top.put s0.aL Z);have wn:w.aL=s.aL:=by rw[<-G];rfl
 have wo:∀j,j≠s0.aL->w.get [] j=s.get [] j:=λj A=>by rw[<-G,aO,bN.2 A];rfl
 obtain⟨z,u⟩:=cw ((w.new (.cells [ah 0,ah 0,ah 0,ah 0])).put w.aL (X (.cells (bV (fg r k)).cells)));simp only[bV,mo]at u;have a4:(w.new (.cells [ah 0,ah 0,ah 0,ah 0])).get [] w.aL=X (.cells [ah 0,ah 0,ah 0,ah 0]):=cr;simp only[go_sem,seval,Pd,bV,G,dh,a4,dq,u,sB];have zn:z.aL=s.aL+1:=by rw[<-u,<-wn];rfl
 have zc:z.ci=s.ci:=by rw[<-u,<-G];rfl
 have zm:z.gE<=z.aL:=by
  rw[<-u];exact cG _ _ _ (by show w.gE<=w.aL+1;rw[<-G];exact co (cG s.top _ _ (aC _)))
 have zk:z.get [] w.aL=X (.cells (bV (fg r k)).cells):=by rw[<-u,aO,bS];rfl
 have h:∀j,j<s0.aL->z.get [] j=s0.get [] j:=λj A=>by
  rw[<-u,aO,bN.2 (by omega:j≠w.aL),cF,cQ w_,wo j w_];exact Y.old j A
 have z2:=(h b2 l2).trans H;have z3:=(h b3 l3).trans a7;have z4:=(h b4 l4).trans a6;have z5:=(h b5 l5).trans a5;have fin:∀(d:St)(o:MA),(∀j,j<s0.aL->d.get [] j=s0.get [] j)->d.aL=s.aL+1->d.ci=s.ci->d.gE<=d.aL->(d.put s0.aL (X (mC E o))).ci=s.ci/\s.aL<=(d.put s0.aL (X (mC E o))).aL/\gU r i s0 (s.GE (d.put s0.aL (X (mC E o))))/\(d.put s0.aL (X (mC E o))).get [] s0.aL=X (mC E o):=λd o q1 q2 q3 q4=>by
  have qn:(d.put s0.aL (X (mC E o))).aL=s.aL+1:=q2;refine⟨q3,w_,⟨λj A=>?_,nL a2 w_,?_,?_⟩,by rw[aO,bS];rfl⟩;rw[j6,aO,bN.2 (by omega:j≠s0.aL)];exact q1 j A;show s0.aL<(d.put s0.aL (X (mC E o))).aL;omega;exact q3.trans Y.ci
 obtain⟨M,hM⟩:=cw (li (fg r i) (fg r k));rw[hM]at hq;have x:m9 r i k=bif(aj ((i-k:Nat):Int) 1||aj ((i-k:Nat):Int) ((J r-1:Nat):Int))then aj M 1 else aj M 0:=by
  have h1:aj ((i-k:Nat):Int) 1=(i-k==1):=XN (i-k) 1;unfold m9;rw[hM,h1,XN]
 have a1:=afv a3 w_;have a0:IntKind.i64.wrap (((J r:Nat):Int)-1)=((J r-1:Nat):Int):=afv (a:=J r) (b:=1) w_ w_;refine aM ?_;simp only[bV,mo]at hq z5 zk;by_cases hE:k=i;subst hE;have B:bT ((k:Nat):Int) ((k:Nat):Int)=O:=by simp[bT]
 simp only[go_sem,seval,JR,e4,z4,B,lL,lS]
 let⟨f1,f2,f3,f4⟩:=fin z (X (.exit 2)) h zn zc zm
 exact⟨f1,f2,f3,.inr (.inl f4)⟩
 ·have g:k<i:=by omega
  have B:bT ((i:Nat):Int) ((k:Nat):Int)=I:=by simp only[bT,decide_eq_false_iff_not];omega
  obtain⟨y,F⟩:=cw (z.put b2 (X (.cells [.bool I])));have yn:y.aL=s.aL+1:=by rw[<-F];exact zn
  have yc:y.ci=s.ci:=by rw[<-F];exact zc
  have ym:y.gE<=y.aL:=by rw[<-F];exact cG _ _ _ zm
  have yo:∀j,j<s0.aL->y.get [] j=s0.get [] j:=λj A=>by
   rw[<-F,aO];cases e:j==b2;exact h j A
   have:=eq_of_beq e;subst this;exact H.symm
  let⟨f1,f2,f3,f4⟩:=fin z Z h zn zc zm
  let⟨g1,g2,g3,g4⟩:=fin y (X .ret) yo yn yc ym
  cases c1:aj ((i-k:Nat):Int) 1<;>cases c2:aj ((i-k:Nat):Int) ((J r-1:Nat):Int)<;>cases c3:aj M 1<;>cases c4:aj M 0<;>simp only[c1,c2,c3,c4,Bool.true_or,Bool.or_true,Bool.or_false,cT,cF]at x<;>simp only[go_sem,seval,JR,e2,e3,e4,e5,z2,z3,z4,z5,zk,B,lL,lS,U,hq,bu,a1,a0,c1,c2,c3,c4,dh,dq,F]
  all_goals first
   |exact⟨f1,f2,f3,.inl ⟨f4,g,x⟩⟩
   |exact⟨g1,g2,g3,.inr (.inr ⟨g4,g,x⟩)⟩
def aCV(g:No Q 181)(x:Q.spec 99=X kQ){r:oa}(hr:au 2 aX rv r)(d:J r<=2000)(hn:r.all bO=O)(hi:i<J r){s0:St}(G:s0.get [] bx=X (.cells [rv]))(a0:s0.get [] b2=X (.cells [.bool I]))(Y:s0.get [] b3=X (.cells [an (J r)]))(U:s0.get [] b4=X (.cells [an i]))(H:s0.get [] b5=X (.cells (bV (fg r i)).cells))(lx:bx<s0.aL)(l2:b2<s0.aL)(l3:b3<s0.aL)(l4:b4<s0.aL)(l5:b5<s0.aL)(e2:ac E 2=.ptr b2 0)(e3:ac E 3=.ptr b3 0)(e4:ac E 4=.ptr b4 0)(e5:ac E 5=.ptr b5 0)(B:s0.gE<=s0.aL):
 ∃v s',ai Q 181 [.yld s0.aL,.ptr bx 0] (s0.new (mC E Z)) v s'/\(v=.tup []/\gU r i s0 s'/\((s'.get [] s0.aL=X (mC E (X (.exit 2)))/\∀k,k<i->m9 r i k=O)\/(s'.get [] s0.aL=X (mC E (X .ret))/\∃k,k<i/\m9 r i k=I))):=by
 obtain⟨v,s',u,rfl,h⟩:=Cg g hr d (bx:=bx) (n:=s0.aL) (P:=λk s=>gU r i s0 s/\s.get [] s0.aL=X (mC E Z)/\k<=i/\∀j,j<k->m9 r i j=O) (D:=λs=>gU r i s0 s/\((s.get [] s0.aL=X (mC E (X (.exit 2)))/\∀k,k<i->m9 r i k=O)\/(s.get [] s0.aL=X (mC E (X .ret))/\∃k,k<i/\m9 r i k=I))) (λk s h=>(h.1.old bx lx).trans G) (λk s h=>h.1.mw) (λk s hk ⟨hI,hl,F,w⟩=>by
  let⟨v,s',q1,q2,q3,q4,q5⟩:=aCU x d hn hi a0 Y U H l2 l3 l4 l5 e2 e3 e4 e5 hk F hI hl
  refine⟨v,s',q1,q2,q3,?_⟩;rcases q5 with⟨rfl,y,A,h3⟩|⟨rfl,⟨y,A⟩|⟨y,A,h3⟩⟩
  refine .inl ⟨rfl,q4,y,w_,λj z=>?_⟩;by_cases e:j=k;subst e;exact h3;exact w j w_;subst A;exact .inr ⟨rfl,q4,.inl ⟨y,w⟩⟩;exact .inr ⟨rfl,q4,.inr ⟨y,k,A,h3⟩⟩) (s:=s0.new (mC E Z)) ⟨⟨λj z=>cQ z,co B,iA _,rfl⟩,cr,fT _,λj z=>absurd z (AW _)⟩
 refine⟨_,s',u,rfl,?_⟩;rcases h with⟨_,_,h,_⟩|h
 omega;exact h
noncomputable abbrev qK(E:ax)(x:MA):aH:=.loop 103 E 54 [17,18] Gp Gr x
def rP:tH ag 181=O:=k_
def vU{r:oa}(h:au 2 aX rv r):jC rv=O:=by
 rcases h with⟨rfl,_⟩|⟨_,rfl⟩<;>rfl
def aCT(g:No Q 181)(z:Q.spec 99=X kQ){r:oa}(hr:au 2 aX rv r)(u:J r<=2000)(hn:r.all bO=O)(hi:i<J r){s0:St}(U:s0.get [] bx=X (.cells [rv]))(a2:s0.get [] b2=X (.cells [.bool I]))(a1:s0.get [] b3=X (.cells [an (J r)]))(a0:s0.get [] b4=X (.cells [an i]))(Y:s0.get [] b5=X (.cells (bV (fg r i)).cells))(lx:bx<s0.aL)(l2:b2<s0.aL)(l3:b3<s0.aL)(l4:b4<s0.aL)(l5:b5<s0.aL)(e2:ac E 2=.ptr b2 0)(e3:ac E 3=.ptr b3 0)(e4:ac E 4=.ptr b4 0)(e5:ac E 5=.ptr b5 0)(A:ac E 20=.func (.func 181) [] [.ptr bx 0])(hE:E.all jC=O)(G:s0.gE<=s0.aL)(hk:∀x s2,gU r i s0 s2->((x=.exit 2/\∀k,k<i->m9 r i k=O)\/(x=.ret/\∃k,k<i/\m9 r i k=I))->K x ⟨E,54,[]⟩ s2):W Q 103 (.rfun (.tmp 20) [21,22] Gn Gq) ⟨E,54,[]⟩ s0 K:=by
 obtain⟨v,s',d,rfl,B,h⟩:=aCV g z hr u hn hi U a2 a1 a0 Y lx l2 l3 l4 l5 e2 e3 e4 e5 G;have y:gU r i s0 (s'.put s0.aL Z):=⟨λj hj=>by rw[aO,bN.2 (by omega:j≠s0.aL)];exact B.old j hj,cG _ _ _ B.mw,B.lt,B.ci⟩;rcases h with⟨H,F⟩|⟨H,w⟩
 exact n9 (h:=181) (first:=[]) (captured:=[.ptr bx 0]) (v:=.tup []) (s1:=s') (by simp only[ey,A]) (by rw[Std.P,rP,Yi,hE];rfl) d H (hk _ _ y (.inl ⟨rfl,F⟩));exact n9 (h:=181) (first:=[]) (captured:=[.ptr bx 0]) (v:=.tup []) (s1:=s') (by simp only[ey,A]) (by rw[Std.P,rP,Yi,hE];rfl) d H (hk _ _ y (.inr ⟨rfl,w⟩))
def aCR(F:No Q 181)(G:No Q 110)(a0:Q.spec 99=X kQ){r:oa}(hr:au 2 aX rv r)(U:J r<=2000)(hn:r.all bO=O)(hi:i<J r){s0:St}(a8:s0.get [] bx=X (.cells [rv]))(b0:s0.get [] b2=X (.cells [.bool I]))(a9:s0.get [] b3=X (.cells [an (J r)]))(lx:bx<s0.aL)(l2:b2<s0.aL)(l3:b3<s0.aL)(e1:ac E 1=.ptr bx 0)(e2:ac E 2=.ptr b2 0)(e3:ac E 3=.ptr b3 0)(hE:E.all jC=O)(hI:gU r 0 s0 s)(hl:s.get [] s0.aL=X (qK E Z)):
 ∃v s',iT Q s0.aL [an i,bV (fg r i)] s.top v s'/\(s'.ci=s.ci/\s.aL<=s'.aL/\gU r 0 s0 (s.GE s')/\((v=.bool O/\s'.get [] s0.aL=X (qK E Z)/\∀k,k<i->m9 r i k=O)\/(v=.bool I/\s'.get [] s0.aL=X (qK E (X .ret))/\∃k,k<i/\m9 r i k=I))):=by
 have b1:=hI.lt;have a4:=hI.mw;have a7:=hr.gt;refine iT.any (ca:=Pe) (cb:=Pf) (show s.top.get [] s0.aL=_ from hl) rfl rfl arD arF ?_;refine aM ?_;obtain⟨w,H⟩:=cw (s.top.put s0.aL Z);have wn:w.aL=s.aL:=by rw[<-H];rfl
 have wc:w.ci=s.ci:=by rw[<-H];rfl
 have wo:∀j,j≠s0.aL->w.get [] j=s.get [] j:=λj A=>by rw[<-H,aO,bN.2 A];rfl
 have wm:w.gE<=w.aL:=by rw[<-H];exact cG s.top _ _ (aC _)
 let⟨z,hz,_,zm,zo,zk⟩:=zr (.cells [ah 0]) (.cells [an i]) wm
 have zn:z.aL=s.aL+1:=by rw[<-hz,<-wn];rfl
 let⟨y,hy,_,ym,yo,yk⟩:=zr (.cells [ah 0,ah 0,ah 0,ah 0]) (.cells (bV (fg r i)).cells) zm
 have yn:y.aL=s.aL+2:=by
  rw[<-hy];show z.aL+1=_;omega
 have yc:y.ci=s.ci:=by rw[<-hy,<-hz];exact wc
 have g:∀j,j<s0.aL->y.get [] j=s0.get [] j:=λj A=>by rw[yo j w_,zo j w_,wo j w_];exact hI.old j A
 have a1:=(g bx lx).trans a8;simp only[bV,mo]at hy;have a6:(w.new (.cells [ah 0])).get [] w.aL=X (.cells [ah 0]):=cr;have a5:(z.new (.cells [ah 0,ah 0,ah 0,ah 0])).get [] z.aL=X (.cells [ah 0,ah 0,ah 0,ah 0]):=cr;simp only[go_sem,seval,Pe,bV,H,dh,a6,a5,dq,hz,hy,sB];refine aM ?_;have u:=Ce G hr y
 let⟨x,hx,_,xm,xo,xk⟩:=oL (.cells [rv]) ym
 have xn:x.aL=s.aL+3:=by
  rw[<-hx];show y.aL+1=_;omega
 have xc:x.ci=s.ci:=by rw[<-hx];exact yc
 have d:∀j,j<s0.aL->x.get [] j=s0.get [] j:=λj A=>(xo j w_).trans (g j A);rw[hx]at u;simp only[go_sem,seval,Pf,e1,a1,ue,a7];refine aU.of u d_ ?_;simp only[go_sem,seval];have a2:=vU hr;refine aCT F a0 hr U hn hi (bx:=y.aL) (b2:=b2) (b3:=b3) (b4:=w.aL) (b5:=z.aL) (s0:=x) xk ((d b2 l2).trans b0) ((d b3 l3).trans a9) ?_ ?_ w_ w_ w_ w_ w_ ?_ ?_ ?_ ?_ ?_ ?_ xm ?_;rw[xo _ w_,yo _ w_];exact zk;rw[xo _ w_];exact yk;simp only[sN,seval,e2];simp only[sN,seval,e3];simp only[sN,seval];simp only[sN,seval];simp only[sN,seval];exact aB.all_set (aB.all_set (aB.all_set (aB.all_set (aB.all_set (aB.all_set hE rfl) rfl) rfl) rfl) a2) rfl;intro ex h B hc;have n2:=B.lt;have g1:∀(o:MA),(h.put s0.aL (X (qK E o))).ci=s.ci/\s.aL<=(h.put s0.aL (X (qK E o))).aL/\gU r 0 s0 (s.GE (h.put s0.aL (X (qK E o))))/\(h.put s0.aL (X (qK E o))).get [] s0.aL=X (qK E o):=λo=>by
  have qn:(h.put s0.aL (X (qK E o))).aL=h.aL:=rfl;have qc:(h.put s0.aL (X (qK E o))).ci=s.ci:=B.ci.trans xc;refine⟨qc,w_,⟨λj A=>?_,nL a4 w_,?_,qc.trans hI.ci⟩,by rw[aO,bS];rfl⟩;rw[j6,aO,bN.2 (by omega:j≠s0.aL)];exact(B.old j w_).trans (d j A);show s0.aL<h.aL;omega
 rcases hc with⟨rfl,a3⟩|⟨rfl,Y⟩
 let⟨f1,f2,f3,f4⟩:=g1 Z
 exact⟨f1,f2,f3,.inl ⟨rfl,f4,a3⟩⟩
 let⟨f1,f2,f3,f4⟩:=g1 (X .ret)
 exact⟨f1,f2,f3,.inr ⟨rfl,f4,Y⟩⟩
def Yj:(dM Gp&&dM Gr)=O:=k_
def aet{r:oa}(h:oP r=O):(jR r=O↔∀i,i<J r->∀k,k<i->m9 r i k=O):=by
 unfold jR;rw[h,jo,fO];simp only[yL,fO]
def aCW{r:oa}{k:Nat}(hi:i<J r)(g:k<i)(h:m9 r i k=I):jR r=I:=by
 cases e:jR r;rfl;have d:oP r=O:=by unfold jR at e;simp only[bg]at e;exact e.1
 have:=(aet d).1 e i hi k g;rw[h]at this;cases this
def Eu{r:oa}(h:oP r=O):(3<=J r/\J r<=2000)/\r.all bO=O:=by
 unfold oP at h;simp only[bg,dE]at h;exact⟨⟨h.1,h.2.1⟩,h.2.2⟩
variable{lc:Ag.Loc}
def aCS(g:No Q 181)(A:No Q 110)(H:Q.spec 99=X kQ){r:oa}(hr:au 2 aX rv r)(w:oP r=O){by':Nat}{s0:St}(a1:s0.get [] bx=X (.cells [rv]))(a0:s0.get [] by'=X (.cells [rv]))(a3:s0.get [] b2=X (.cells [.bool I]))(a2:s0.get [] b3=X (.cells [an (J r)]))(lx:bx<s0.aL)(ly:by'<s0.aL)(l2:b2<s0.aL)(l3:b3<s0.aL)(e1:ac E 1=.ptr bx 0)(e2:ac E 2=.ptr b2 0)(e3:ac E 3=.ptr b3 0)(U:ac E 16=.func (.func 181) [] [.ptr by' 0])(hE:E.all jC=O)(Y:s0.gE<=s0.aL)(F:∀x s2,gU r 0 s0 s2->((x=.normal/\jR r=O)\/(x=.ret/\jR r=I))->K x ⟨E,54,lc⟩ s2):W Q 103 (.rfun (.tmp 16) [17,18] Gp Gr) ⟨E,54,lc⟩ s0 K:=by
 let⟨⟨l3',hlen⟩,hn⟩:=Eu w
 obtain⟨v,s',u,rfl,h⟩:=Cg g hr hlen (bx:=by') (n:=s0.aL) (P:=λi s=>gU r 0 s0 s/\s.get [] s0.aL=X (qK E Z)/\∀j,j<i->∀k,k<j->m9 r j k=O) (D:=λs=>gU r 0 s0 s/\s.get [] s0.aL=X (qK E (X .ret))/\jR r=I) (λk s h=>(h.1.old by' ly).trans a0) (λk s h=>h.1.mw) (λi s hi ⟨d,hl,y⟩=>by
  let⟨v,s',q1,q2,q3,q4,q5⟩:=aCR g A H hr hlen hn hi a1 a3 a2 lx l2 l3 e1 e2 e3 hE d hl
  refine⟨v,s',q1,q2,q3,?_⟩;rcases q5 with⟨rfl,h1,h2⟩|⟨rfl,h1,k,h2,h3⟩
  refine .inl ⟨rfl,q4,h1,λj z k F=>?_⟩;by_cases e:j=i;subst e;exact h2 k F;exact y j w_ k F;exact .inr ⟨rfl,q4,h1,aCW hi h2 h3⟩) (s:=s0.new (qK E Z)) ⟨⟨λj z=>cQ z,co Y,iA _,rfl⟩,cr,λj z=>absurd z (AW _)⟩
 have B:gU r 0 s0 s'->gU r 0 s0 (s'.put s0.aL Z):=λd=>⟨λj z=>by rw[aO,bN.2 (by omega:j≠s0.aL)];exact d.old j z,cG _ _ _ d.mw,d.lt,d.ci⟩;rcases h with⟨d,hg,y⟩|⟨d,hg,G⟩
 exact n9 (h:=181) (first:=[]) (captured:=[.ptr by' 0]) (v:=.tup []) (s1:=s') (by simp only[ey,U]) (by rw[Std.P,rP,Yj,hE];rfl) u hg (F _ _ (B d) (.inl ⟨rfl,(aet w).2 y⟩));exact n9 (h:=181) (first:=[]) (captured:=[.ptr by' 0]) (v:=.tup []) (s1:=s') (by simp only[ey,U]) (by rw[Std.P,rP,Yj,hE];rfl) u hg (F _ _ (B d) (.inr ⟨rfl,G⟩))
def aCX(B:No Q 287)(H:No Q 238)(F:No Q 240)(G:No Q 239)(Y:No Q 168)(U:No Q 181)(g:No Q 110)(a1:Q.spec 99=X kQ)(a8:No Q 103){r:oa}(A:au 2 aX rv r)(a5:s.gE<=s.aL):
 ∃v s',ai Q 103 [rv] s v s'/\(v=.bool (jR r)/\(∀j,j<s.aL->s'.get [] j=s.get [] j)/\s.aL<=s'.aL/\s'.gE<=s'.aL/\s'.ci=s.ci):=by
 have a0:=A.cs;have a3:=vU A;have a6:=A.lenS nj
 let⟨x,hx,xn,xm,xo,x0,x1⟩:=vE (.cells [rv]) (.cells [.bool I]) a5
 have a4:(s.new (.cells [rv])).aL=s.aL+1:=rfl;have xc:x.ci=s.ci:=by rw[<-hx];rfl
 have a2:=adT B H F G Y A x;refine ai.ofNRZ arH (aM ?_);simp only[go_sem,seval,a0,a4,hx,x0,ue];refine aU.of a2 d_ ?_;cases hreg:oP r with
 |false=>
  have hs:jR r=I:=by unfold jR;rw[hreg];rfl
  obtain⟨y,d⟩:=cw (x.put (s.aL+1) (X (.cells [.bool I])));have yk:y.get [] (s.aL+1)=X (.cells [.bool I]):=by rw[<-d,aO,bS];rfl
  simp only[go_sem,seval,dh,x1,dq,d,yk];refine⟨_,rfl,by rw[hs],λj hj=>?_,?_,?_,?_⟩;rw[<-d,aO,bN.2 (by omega:j≠s.aL+1)];exact xo j hj;rw[<-d];show s.aL<=x.aL;omega;rw[<-d];exact cG _ _ _ xm;rw[<-d];exact xc
 |true=>
  let⟨w,hw,_,wm,wo,wk⟩:=zr (.cells [ah 0]) (.cells [an (J r)]) xm
  have a7:(x.new (.cells [ah 0])).get [] x.aL=X (.cells [ah 0]):=cr;have wn:w.aL=s.aL+3:=by
   rw[<-hw];show x.aL+1=_;omega
  have wc:w.ci=s.ci:=by rw[<-hw];exact xc
  have w0:=(wo s.aL w_).trans x0;have h:=Ce g A w
  let⟨u,hu,_,um,uo,uk⟩:=oL (.cells [rv]) wm
  have un:u.aL=s.aL+4:=by
   rw[<-hu];show w.aL+1=_;omega
  have uc:u.ci=s.ci:=by rw[<-hu];exact wc
  rw[hu]at h;simp only[go_sem,seval,x0,ue,a0,a6,dh,a7,dq,hw,w0];refine aU.of h d_ ?_;simp only[go_sem,seval];refine aCS U g a1 A hreg (bx:=s.aL) (by':=w.aL) (b2:=s.aL+1) (b3:=x.aL) (s0:=u) ?_ uk ?_ ?_ w_ w_ w_ w_ ?_ ?_ ?_ ?_ ?_ um ?_;rw[uo _ w_];exact w0;rw[uo _ w_,wo _ w_];exact x1;rw[uo _ w_];exact wk;simp only[sN,seval];simp only[sN,seval];simp only[sN,seval];simp only[sN,seval]
  ·repeat' (first|exact rfl|refine aB.all_set ?_ (by first|exact a3|rfl))
  intro ex s2 z hc;have n2:=z.lt;have b2:s2.get [] (s.aL+1)=X (.cells [.bool I]):=by rw[z.old _ w_,uo _ w_,wo _ w_];exact x1
  have old:∀j,j<s.aL->s2.get [] j=s.get [] j:=λj hj=>by rw[z.old _ w_,uo _ w_,wo _ w_];exact xo j hj
  rcases hc with⟨rfl,hs⟩|⟨rfl,hs⟩
  obtain⟨y,d⟩:=cw (s2.put (s.aL+1) (X (.cells [.bool O])));have yk:y.get [] (s.aL+1)=X (.cells [.bool O]):=by rw[<-d,aO,bS];rfl
  simp only[go_sem,seval,dh,b2,dq,d,yk];refine⟨_,rfl,by rw[hs],λj hj=>?_,?_,?_,?_⟩;rw[<-d,aO,bN.2 (by omega:j≠s.aL+1)];exact old j hj;rw[<-d];show s.aL<=s2.aL;omega;rw[<-d];exact cG _ _ _ z.mw;rw[<-d];exact z.ci.trans uc;simp only[go_sem,seval,b2];exact⟨_,rfl,by rw[hs],old,w_,z.mw,z.ci.trans uc⟩
def ru(v:aa):Option oa:=ff 2 nF v
def wW{r:oa}(h:ru v=X r):au 2 aX v r/\dW v=O/\au 2 aX (cx v) r:=by
 have d:au 2 aX v r:=ku (λ_ _ h=>rq h) h;exact⟨d,m6 Lv d⟩
theorem qs{r:oa}(h:au 2 aX v r):ru v=X r:=by
 rcases h with⟨rfl,rfl⟩|⟨k,rfl⟩
 rfl;show(bif aA 2 2 then jB nF (r.map aX)else Z)=_;exact zZ FA r
def pR:Sp
 |[v]=>(ru v).bind λr=>X (.bool (jR r))
 |_=>Z
def LZ{r:oa}(h:au 2 aX v r):pR [v]=X (.bool (jR r)):=by
 simp only[pR,qs h,aG]
def Ud:dy:=[(99,kQ)]
def agd:eh Ud:=.cons RA .nil
def L0:cW ag 103 pR:=by
 intro g u h G y w xs j x;unfold pR at h;split at h;simp only[ak]at h
 let⟨r,h1,h⟩:=h
 have h:=sI h;subst h
 let⟨_,h4,hr⟩:=wW h1
 refine iQ agd (W:=[]) .nil (by simp only[dR,h4,bZ]) (λz=>?_) G y w xs j x;obtain⟨v,s',d,rfl,_⟩:=aCX (Q:=QW Ud [] z) R_ R_ R_ R_ R_ R_ R_ rfl R_ hr (s:=s0) d_;exact⟨_,_,d,1,rfl⟩;cases h
def iw(p:Pt):Bool:=(bT (-4194304) p.1&&bT p.1 4194304)&&(bT (-4194304) p.2&&bT p.2 4194304)
def TA(h:iw p=O):(-4194304<=p.1/\p.1<=4194304)/\(-4194304<=p.2/\p.2<=4194304):=by
 simp only[iw,bT,bg,dE]at h;exact h
def Mh{x y:Int}(g: -4194304<=x/\x<=4194304)(d: -4194304<=y/\y<=4194304): -8388608<=x-y/\x-y<=8388608:=w_
def aEM(d:No Q 252){a b c:Pt}(H:iw a=O)(G:iw b=O)(F:iw c=O)(s:St):ai Q 252 [aX a,aX b,aX c] s (bu (wq a b c)) s:=by
 have⟨a1,a2⟩:=TA H;have⟨b1,b2⟩:=TA G;have⟨c1,c2⟩:=TA F;have z:=EV b1 a1;have y:=EV c2 b2;have x:=EV b2 a2;have w:=EV c1 b1;have j:=Mh b1 a1;have h:=Mh c2 b2;have d3:=Mh b2 a2;have g:=Mh c1 b1;have B:=Hh j h;have A:=Hh d3 g;have Y:=D4 j h;have U:=D4 d3 g;have u:IntKind.i64.wrap ((b.1-a.1)*(c.2-b.2)-(b.2-a.2)*(c.1-b.1))=(b.1-a.1)*(c.2-b.2)-(b.2-a.2)*(c.1-b.1):=kj w_ w_;refine ai.ofNZ ath (aM ?_);simp only[go_sem,seval,aX,bu,wq,z,y,x,w,B,A,u,CZ]
def ahI(d:No Q 253)(a n b:Int)(s:St):ai Q 253 [ah a,ah n,ah b] s (.bool (rD a n b)) s:=by
 have g:rD a n b=(bT (min a b) n&&bT n (max a b)):=rfl;refine ai.ofNZ ati (aM ?_);rw[g];cases e1:bT (min a b) n;simp only[go_sem,seval,rF,tf,e1];simp only[go_sem,seval,rF,tf,e1]
def AC:Sp
 |[u,v,w]=>(nF u).bind λa=>(nF v).bind λb=>(nF w).bind λc=>bif iw a&&(iw b&&iw c)then X (bu (wq a b c))else Z
 |_=>Z
def aEJ{a b c:Pt}(h:iw a=O)(g:iw b=O)(d:iw c=O):AC [aX a,aX b,aX c]=X (bu (wq a b c)):=by
 simp only[aac,AC,FA,h,g,d]
def aEK:cW ag 252 AC:=by
 refine H0 (T:=[]) .nil (W:=[]) .nil λd u h=>?_;unfold AC at h;split at h;simp only[ak]at h
 let⟨a,h1,b,h2,c,h3,h⟩:=h
 let⟨h4,h⟩:=aZ h
 simp only[bg]at h4;have h:=sI h;subst h;rw[rq h1,rq h2,rq h3];exact⟨rfl,λg=>⟨_,_,aEM (Q:=QW [] [] g) R_ h4.1 h4.2.1 h4.2.2 _,1,rfl⟩⟩;cases h
def wZ:Sp
 |[.int .i64 a,.int .i64 n,.int .i64 b]=>X (.bool (rD a n b))
 |_=>Z
def ahH:cW ag 253 wZ:=by
 refine H0 (T:=[]) .nil (W:=[]) .nil λd u h=>?_;unfold wZ at h;split at h;have h:=sI h;subst h;exact⟨rfl,λg=>⟨_,_,ahI (Q:=QW [] [] g) R_ _ _ _ _,1,rfl⟩⟩;cases h
theorem ED(r:oa):(fU r).length=J r:=by
 unfold fU;rw[List.length_zip,bI,yJ,jG];omega
def EC{r:oa}(hi:i<J r):(fU r)[i]?=X (fg r i):=by
 have d:(i+1) % J r<J r:=wN _ w_;rw[aep (dA hi) (dA d)];unfold fU;rw[MI];refine⟨dA hi,?_⟩;by_cases e:i+1<J r;have:i<J r.tail:=by rw[yJ];omega
 rw[AQ this,List.getElem?_tail,dA e];simp only[Ff e];have j:i+1=J r:=w_
 have:J r.tail<=i:=by rw[yJ];omega
 rw[sQ this,yJ];have h:i-(J r-1)=0:=w_
 have g:(i+1) % J r=0:=by rw[j,Nat.mod_self]
 rw[h,wC,iP w_];simp only[g];rw[dA]
noncomputable abbrev pH(E:ax)(x:MA):aH:=.loop 184 E 88 [11,12] GB GC x
structure M3 (e e':ax):Prop where
 h3:ac e' 3=ac e 3
 h4:ac e' 4=ac e 4
 h5:ac e' 5=ac e 5
 h7:ac e' 7=ac e 7
 h8:ac e' 8=ac e 8
variable{N:mm}{T:Int}{b7:Nat}{e:ax}{S:bF}
def aAI(d:Q.spec 253=X wZ)(y:ac e 3=.ptr b3 0)(x:ac e 7=.ptr b7 0)(w:ac e 8=ah T)(u:s.get [] b3=X (.cells [ah p.1,ah p.2]))(j:s.get [] b7=X (.cells (bV S).cells))(h:∀z,ac z 19=.bool (aj T 0&&(rD S.1.1 p.1 S.2.1&&rD S.1.2 p.2 S.2.2))->M3 e z->N ⟨z,88,lc⟩ s):WV Q 184 jZ ⟨e,88,lc⟩ s N:=by
 simp only[bV,mo]at j;have g:wZ [ah S.1.1,ah p.1,ah S.2.1]=X (.bool (rD S.1.1 p.1 S.2.1)):=rfl;have A:wZ [ah S.1.2,ah p.2,ah S.2.2]=X (.bool (rD S.1.2 p.2 S.2.2)):=rfl;cases c1:aj T 0 with
 |false=>
  simp only[go_sem,seval,jZ,ky,kM,y,x,w,u,j,c1];refine h _ ?_ ⟨?_,?_,?_,?_,?_⟩<;>simp only[sN,seval,c1,lZ]
 |true=>
  cases c2:rD S.1.1 p.1 S.2.1 with
  |false=>
   rw[c2]at g;simp only[go_sem,seval,jZ,ky,kM,y,x,w,u,j,c1,d,g];refine h _ ?_ ⟨?_,?_,?_,?_,?_⟩<;>simp only[sN,seval,c1,c2,lZ,kU]
  |true=>
   rw[c2]at g;simp only[go_sem,seval,jZ,ky,kM,y,x,w,u,j,c1,d,g,A];refine h _ ?_ ⟨?_,?_,?_,?_,?_⟩<;>simp only[sN,seval,c1,c2,jo]
def aAJ(w:ac e 3=.ptr b3 0)(u:ac e 7=.ptr b7 0)(j:ac e 8=ah T)(g:s.get [] b3=X (.cells [ah p.1,ah p.2]))(d:s.get [] b7=X (.cells (bV S).cells))(h:∀x,ac x 44=.bool (bT S.1.2 p.2&&(aR p.2 S.2.2&&aR 0 T))->M3 e x->N ⟨x,88,lc⟩ s):WV Q 184 ky ⟨e,88,lc⟩ s N:=by
 simp only[bV,mo]at d;cases c1:bT S.1.2 p.2 with
 |false=>
  simp only[go_sem,seval,jZ,ky,kM,w,u,j,g,d,c1];refine h _ ?_ ⟨?_,?_,?_,?_,?_⟩<;>simp only[sN,seval,c1,lZ]
 |true=>
  cases c2:aR p.2 S.2.2 with
  |false=>
   simp only[go_sem,seval,jZ,ky,kM,w,u,j,g,d,c1,c2];refine h _ ?_ ⟨?_,?_,?_,?_,?_⟩<;>simp only[sN,seval,c1,c2,lZ,kU]
  |true=>
   simp only[go_sem,seval,jZ,ky,kM,w,u,j,g,d,c1,c2];refine h _ ?_ ⟨?_,?_,?_,?_,?_⟩<;>simp only[sN,seval,c1,c2,jo]
def aAK(w:ac e 3=.ptr b3 0)(u:ac e 7=.ptr b7 0)(j:ac e 8=ah T)(g:s.get [] b3=X (.cells [ah p.1,ah p.2]))(d:s.get [] b7=X (.cells (bV S).cells))(h:∀x,ac x 65=.bool (aR p.2 S.1.2&&(bT S.2.2 p.2&&aR T 0))->M3 e x->N ⟨x,88,lc⟩ s):WV Q 184 kM ⟨e,88,lc⟩ s N:=by
 simp only[bV,mo]at d;cases c1:aR p.2 S.1.2 with
 |false=>
  simp only[go_sem,seval,jZ,ky,kM,w,u,j,g,d,c1];refine h _ ?_ ⟨?_,?_,?_,?_,?_⟩<;>simp only[sN,seval,c1,lZ]
 |true=>
  cases c2:bT S.2.2 p.2 with
  |false=>
   simp only[go_sem,seval,jZ,ky,kM,w,u,j,g,d,c1,c2];refine h _ ?_ ⟨?_,?_,?_,?_,?_⟩<;>simp only[sN,seval,c1,c2,lZ,kU]
  |true=>
   simp only[go_sem,seval,jZ,ky,kM,w,u,j,g,d,c1,c2];refine h _ ?_ ⟨?_,?_,?_,?_,?_⟩<;>simp only[sN,seval,c1,c2,jo]
structure mi (b5:Nat) (s0 s:St):Prop where
 old:∀j,j<s0.aL->j≠b5->s.get [] j=s0.get [] j
 mw:s.gE<=s.aL
 lt:s0.aL<s.aL
 ci:s.ci=s0.ci
def abF{l:wj}{w:Int}:zW p (S::l) w=bif BS S p then 0 else zW p l (w+wx S p):=rfl
def awv(a2:Q.spec 252=X AC)(a1:Q.spec 253=X wZ)(wa:iw S.1=O)(wb:iw S.2=O)(wp:iw p=O)(hi:i<=2000){s0:St}(a7:s0.get [] b3=X (.cells [ah p.1,ah p.2]))(a0:s0.get [] b4=X (.cells [ah 0]))(l3:b3<s0.aL)(l4:b4<s0.aL)(l5:b5<s0.aL)(d3:b3≠b5)(d4:b4≠b5)(e3:ac E 3=.ptr b3 0)(e4:ac E 4=.ptr b4 0)(e5:ac E 5=.ptr b5 0)(hI:mi b5 s0 s)(hl:s.get [] s0.aL=X (pH E Z)){n:Int}(a3:s.get [] b5=X (.cells [ah n]))(hn: -(i:Int)<=n/\n<=i):
 ∃v s',iT Q s0.aL [an i,bV S] s.top v s'/\(s'.ci=s.ci/\s.aL<=s'.aL/\mi b5 s0 (s.GE s')/\((v=.bool O/\BS S p=I/\s'.get [] s0.aL=X (pH E Z)/\s'.get [] b5=X (.cells [ah (n+wx S p)]))\/(v=.bool I/\BS S p=O/\s'.get [] s0.aL=X (pH E (X .ret))))):=by
 have a8:=hI.lt;have a5:=hI.mw;have hq:=aEJ wa wb wp;obtain⟨T,hT⟩:=cw (wq S.1 S.2 p);rw[hT]at hq;simp only[aX,bu]at hq;have a4:BS S p=(aj T 0&&(rD S.1.1 p.1 S.2.1&&rD S.1.2 p.2 S.2.2)):=by rw[<-hT];rfl
 have d:wx S p=bif(bT S.1.2 p.2&&(aR p.2 S.2.2&&aR 0 T))then 1 else bif(aR p.2 S.1.2&&(bT S.2.2 p.2&&aR T 0))then-1 else 0:=by rw[<-hT];rfl
 refine iT.any (ca:=PG) (cb:=PH) (show s.top.get [] s0.aL=_ from hl) rfl rfl asE asF ?_;refine aM ?_;obtain⟨w,hw⟩:=cw (s.top.put s0.aL Z);have wn:w.aL=s.aL:=by rw[<-hw];rfl
 have wo:∀j,j≠s0.aL->w.get [] j=s.get [] j:=λj x=>by rw[<-hw,aO,bN.2 x];rfl
 have wm:w.gE<=w.aL:=by rw[<-hw];exact cG s.top _ _ (aC _)
 obtain⟨z,G⟩:=cw ((w.new (.cells [ah 0,ah 0,ah 0,ah 0])).put w.aL (X (.cells (bV S).cells)));have zn:z.aL=s.aL+1:=by rw[<-G,<-wn];rfl
 have zc:z.ci=s.ci:=by rw[<-G,<-hw];rfl
 have zm:z.gE<=z.aL:=by rw[<-G];exact cG _ _ _ (co wm)
 have zk:z.get [] w.aL=X (.cells (bV S).cells):=by rw[<-G,aO,bS];rfl
 have zs:∀j,j<s.aL->j≠s0.aL->z.get [] j=s.get [] j:=λj x g=>by rw[<-G,aO,bN.2 (by omega:j≠w.aL),cF,cQ w_,wo j g]
 have U:∀j,j<s0.aL->j≠b5->z.get [] j=s0.get [] j:=λj x g=>(zs j w_ w_).trans (hI.old j x g);have z3:=(U b3 l3 d3).trans a7;have z4:=(U b4 l4 d4).trans a0;have z5:=(zs b5 w_ w_).trans a3;simp only[bV,mo]at G;have a6:(w.new (.cells [ah 0,ah 0,ah 0,ah 0])).get [] w.aL=X (.cells [ah 0,ah 0,ah 0,ah 0]):=cr;simp only[go_sem,seval,jZ,ky,kM,PG,bV,hw,dh,a6,dq,G,sB];have fin:∀(u:St)(o:MA),(∀j,j<s0.aL->j≠b5->u.get [] j=s0.get [] j)->u.aL=s.aL+1->u.ci=s.ci->u.gE<=u.aL->(u.put s0.aL (X (pH E o))).ci=s.ci/\s.aL<=(u.put s0.aL (X (pH E o))).aL/\mi b5 s0 (s.GE (u.put s0.aL (X (pH E o))))/\(u.put s0.aL (X (pH E o))).get [] s0.aL=X (pH E o)/\(u.put s0.aL (X (pH E o))).get [] b5=u.get [] b5:=λu o q1 q2 q3 q4=>by
  have qn:(u.put s0.aL (X (pH E o))).aL=s.aL+1:=q2;refine⟨q3,w_,⟨λj x g=>?_,nL a5 w_,?_,q3.trans hI.ci⟩,by rw[aO,bS];rfl,by rw[aO,bN.2 (by omega:b5≠s0.aL)];rfl⟩;rw[j6,aO,bN.2 (by omega:j≠s0.aL)];exact q1 j x g;show s0.aL<(u.put s0.aL (X (pH E o))).aL;omega
 refine aM ?_;have Y:=zk;simp only[bV,mo]at Y;simp only[go_sem,seval,PH,e3,z3,Y,a2,hq];refine aAI a1 (b3:=b3) (b7:=w.aL) (p:=p) (S:=S) (T:=T) ?_ ?_ ?_ z3 zk ?_;simp only[sN,seval,e3];simp only[sN,seval];simp only[sN,seval];intro e1 A ⟨k3,k4,k5,k7,k8⟩;simp only[sN,seval,e3,e4,e5]at k3 k4 k5 k7 k8;rw[<-a4]at A;cases ho:BS S p with
 |true=>
  rw[ho]at A;obtain⟨y,h⟩:=cw (z.put b4 (X (.cells [ah 0])));have yo:∀j,j<s0.aL->j≠b5->y.get [] j=s0.get [] j:=λj x g=>by
   rw[<-h,aO];cases e:j==b4;exact U j x g
   have:=eq_of_beq e;subst this;exact a0.symm
  let⟨f1,f2,f3,f4,f5⟩:=fin y (X .ret) yo (by rw[<-h];exact zn) (by rw[<-h];exact zc) (by rw[<-h];exact cG _ _ _ zm)
  simp only[go_sem,seval,jZ,ky,kM,A,k4,z4,dh,dq,h,lL,lS];exact⟨f1,f2,f3,.inr f4⟩
 |false=>
  rw[ho]at A;simp only[go_sem,seval,jZ,A];refine aAJ (b3:=b3) (b7:=w.aL) (p:=p) (S:=S) (T:=T) k3 k7 k8 z3 zk ?_;intro b0 F ⟨j3,j4,j5,j7,j8⟩;cases h7:(bT S.1.2 p.2&&(aR p.2 S.2.2&&aR 0 T))with
  |true=>
   rw[h7]at F d;have d:wx S p=1:=d;obtain⟨y,h⟩:=cw (z.put b5 (X (.cells [ah (n+1)])));have H:IntKind.i64.wrap (n+1)=n+1:=kj w_ w_;have yo:∀j,j<s0.aL->j≠b5->y.get [] j=s0.get [] j:=λj x g=>by rw[<-h,aO,bN.2 g];exact U j x g
   let⟨f1,f2,f3,f4,f5⟩:=fin y Z yo (by rw[<-h];exact zn) (by rw[<-h];exact zc) (by rw[<-h];exact cG _ _ _ zm)
   have y5:y.get [] b5=X (.cells [ah (n+1)]):=by rw[<-h,aO,bS];rfl
   simp only[go_sem,seval,jZ,ky,kM,F,j5,k5,z5,H,dh,dq,h,lL,lS];exact⟨f1,f2,f3,.inl ⟨f4,by rw[d];exact f5.trans y5⟩⟩
  |false=>
   rw[h7]at F d;simp only[go_sem,seval,jZ,ky,F];refine aAK (b3:=b3) (b7:=w.aL) (p:=p) (S:=S) (T:=T) (j3.trans k3) (j7.trans k7) (j8.trans k8) z3 zk ?_;intro a9 B ⟨i3,i4,i5,i7,i8⟩;cases h9:(aR p.2 S.1.2&&(bT S.2.2 p.2&&aR T 0))with
   |true=>
    rw[h9]at B d;have d:wx S p= -1:=d;obtain⟨y,h⟩:=cw (z.put b5 (X (.cells [ah (n-1)])));have H:IntKind.i64.wrap (n-1)=n-1:=kj w_ w_;have yo:∀j,j<s0.aL->j≠b5->y.get [] j=s0.get [] j:=λj x g=>by rw[<-h,aO,bN.2 g];exact U j x g
    let⟨f1,f2,f3,f4,f5⟩:=fin y Z yo (by rw[<-h];exact zn) (by rw[<-h];exact zc) (by rw[<-h];exact cG _ _ _ zm)
    have y5:y.get [] b5=X (.cells [ah (n-1)]):=by rw[<-h,aO,bS];rfl
    simp only[go_sem,seval,jZ,ky,kM,B,i5,j5,k5,z5,H,dh,dq,h,lL,lS];exact⟨f1,f2,f3,.inl ⟨f4,by rw[d];exact f5.trans y5⟩⟩
   |false=>
    rw[h9]at B d;have d:wx S p=0:=d
    let⟨f1,f2,f3,f4,f5⟩:=fin z Z U zn zc zm
    simp only[go_sem,seval,jZ,ky,kM,B,lL,lS];exact⟨f1,f2,f3,.inl ⟨f4,by rw[d,Int.add_zero];exact f5.trans z5⟩⟩
def Zg:(dM GB&&dM GC)=O:=k_
def aFX{r:oa}(d:r.all iw=O)(hi:i<J r):iw (fg r i).1=O/\iw (fg r i).2=O:=by
 have h:=fO.1 d;have g:(i+1) % J r<J r:=wN _ w_;unfold fg;rw[dA hi,dA g];exact⟨h _ (AU _),h _ (AU _)⟩
def aFY(S:bF)(p:Pt): -1<=wx S p/\wx S p<=1:=by
 unfold wx;cases (bT S.1.2 p.2&&(aR p.2 S.2.2&&aR 0 (wq S.1 S.2 p)));cases (aR p.2 S.1.2&&(bT S.2.2 p.2&&aR (wq S.1 S.2 p) 0))<;>simp;simp
def awu(y:No Q 181)(G:Q.spec 252=X AC)(F:Q.spec 253=X wZ){r:oa}(hr:au 2 aX rv r)(A:J r<=2000)(hn:r.all iw=O)(wp:iw p=O){s0:St}(a2:s0.get [] bx=X (.cells [rv]))(a5:s0.get [] b3=X (.cells [ah p.1,ah p.2]))(a4:s0.get [] b4=X (.cells [ah 0]))(a3:s0.get [] b5=X (.cells [ah 0]))(lx:bx<s0.aL)(l3:b3<s0.aL)(l4:b4<s0.aL)(l5:b5<s0.aL)(dx:bx≠b5)(d3:b3≠b5)(d4:b4≠b5)(e3:ac E 3=.ptr b3 0)(e4:ac E 4=.ptr b4 0)(e5:ac E 5=.ptr b5 0)(H:ac E 10=.func (.func 181) [] [.ptr bx 0])(hE:E.all jC=O)(a1:s0.gE<=s0.aL)(hk:∀x U,mi b5 s0 U->((x=.normal/\∃w,U.get [] b5=X (.cells [ah w])/\qG r p=bif aj w 0 then-1 else 1)\/(x=.ret/\qG r p=0))->K x ⟨E,88,lc⟩ U):W Q 184 (.rfun (.tmp 10) [11,12] GB GC) ⟨E,88,lc⟩ s0 K:=by
 obtain⟨v,s',u,rfl,h⟩:=Cg y hr A (bx:=bx) (n:=s0.aL) (P:=λi s=>mi b5 s0 s/\s.get [] s0.aL=X (pH E Z)/\∃w:Int,(-(i:Int)<=w/\w<=i)/\s.get [] b5=X (.cells [ah w])/\zW p ((fU r).drop i) w=qG r p) (D:=λs=>mi b5 s0 s/\s.get [] s0.aL=X (pH E (X .ret))/\qG r p=0) (λk s h=>(h.1.old bx lx dx).trans a2) (λk s h=>h.1.mw) (λi s hi ⟨d,B,w,hw,h5,g⟩=>by
  let⟨wa,wb⟩:=aFX hn hi
  let⟨v,s',q1,q2,q3,q4,q5⟩:=awv G F wa wb wp (by omega:i<=2000) a5 a4 l3 l4 l5 d3 d4 e3 e4 e5 d B h5 hw
  rw[VX (EC hi),abF]at g;refine⟨v,s',q1,q2,q3,?_⟩;rcases q5 with⟨rfl,Y,h1,h2⟩|⟨rfl,Y,h1⟩
  rw[Y]at g;have hb:=aFY (fg r i) p;exact .inl ⟨rfl,q4,h1,_,w_,h2,g⟩;rw[Y]at g;exact .inr ⟨rfl,q4,h1,g.symm⟩) (s:=s0.new (pH E Z)) ⟨⟨λj hj _=>cQ hj,co a1,iA _,rfl⟩,cr,0,by simp,(cQ l5).trans a3,rfl⟩
 have z:mi b5 s0 s'->mi b5 s0 (s'.put s0.aL Z):=λd=>⟨λj hj a0=>by rw[aO,bN.2 (by omega:j≠s0.aL)];exact d.old j hj a0,cG _ _ _ d.mw,d.lt,d.ci⟩;rcases h with⟨d,g,w,hw,h5,B⟩|⟨d,g,B⟩
 refine n9 (h:=181) (first:=[]) (captured:=[.ptr bx 0]) (v:=.tup []) (s1:=s') (by simp only[ey,H]) (by rw[Std.P,rP,Zg,hE];rfl) u g (hk _ _ (z d) (.inl ⟨rfl,w,?_,?_⟩));rw[aO,bN.2 (by omega:b5≠s0.aL)];exact h5;rw[<-B,E9 (by rw[ED];exact aC _)];rfl;exact n9 (h:=181) (first:=[]) (captured:=[.ptr bx 0]) (v:=.tup []) (s1:=s') (by simp only[ey,H]) (by rw[Std.P,rP,Zg,hE];rfl) u g (hk _ _ (z d) (.inr ⟨rfl,B⟩))
def awB(h:No Q 181)(j:No Q 110)(F:Q.spec 252=X AC)(B:Q.spec 253=X wZ)(a4:No Q 184){r:oa}(G:au 2 aX rv r)(A:J r<=2000)(hn:r.all iw=O)(wp:iw p=O)(a1:s.gE<=s.aL):
 ∃v s',ai Q 184 [rv,aX p] s v s'/\v=ah (qG r p):=by
 have a3:=G.gt;have Y:=vU G
 let⟨x,hx,xn,xm,_,x0,x1⟩:=vE (.cells [ah p.1,ah p.2]) (.cells [ah 0]) a1
 have a0:(s.new (.cells [ah p.1,ah p.2])).aL=s.aL+1:=rfl
 let⟨w,hw,_,wm,wo,wk⟩:=zr (.cells [ah 0]) (.cells [ah 0]) xm
 have a2:(x.new (.cells [ah 0])).get [] x.aL=X (.cells [ah 0]):=cr;have wn:w.aL=s.aL+3:=by
  rw[<-hw];show x.aL+1=_;omega
 have d:=Ce j G w
 let⟨u,hu,_,um,uo,uk⟩:=oL (.cells [rv]) wm
 have un:u.aL=s.aL+4:=by
  rw[<-hu];show w.aL+1=_;omega
 rw[hu]at d;refine ai.ofNRZ asG (aM ?_);simp only[go_sem,seval,jZ,ky,kM,aX,a3,a0,hx,a2,dh,dq,hw];refine aU.of d d_ ?_;simp only[go_sem,seval,jZ,ky,kM];refine awu h F B G A hn wp (bx:=w.aL) (b3:=s.aL) (b4:=s.aL+1) (b5:=x.aL) (s0:=u) uk ?_ ?_ ?_ w_ w_ w_ w_ w_ w_ w_ ?_ ?_ ?_ ?_ ?_ um ?_;rw[uo _ w_,wo _ w_];exact x0;rw[uo _ w_,wo _ w_];exact x1;rw[uo _ w_];exact wk;simp only[sN,seval];simp only[sN,seval];simp only[sN,seval];simp only[sN,seval]
 ·repeat' (first|exact rfl|refine aB.all_set ?_ (by first|exact Y|rfl))
 intro ex U hI hc;have b4:U.get [] (s.aL+1)=X (.cells [ah 0]):=by rw[hI.old _ w_ w_,uo _ w_,wo _ w_];exact x1
 rcases hc with⟨rfl,wi,h5,g⟩|⟨rfl,g⟩
 cases hz:aj wi 0 with
 |true=>
  rw[hz]at g;obtain⟨y,z⟩:=cw (U.put (s.aL+1) (X (.cells [ah (-1)])));have H:y.get [] (s.aL+1)=X (.cells [ah (-1)]):=by rw[<-z,aO,bS];rfl
  simp only[go_sem,seval,jZ,ky,kM,h5,hz,dh,b4,dq,z,H];exact⟨_,rfl,by rw[g];rfl⟩
 |false=>
  rw[hz]at g;obtain⟨y,z⟩:=cw (U.put (s.aL+1) (X (.cells [ah 1])));have H:y.get [] (s.aL+1)=X (.cells [ah 1]):=by rw[<-z,aO,bS];rfl
  simp only[go_sem,seval,jZ,ky,kM,h5,hz,dh,b4,dq,z,H];exact⟨_,rfl,by rw[g];rfl⟩
 simp only[go_sem,seval,jZ,ky,kM,b4];exact⟨_,rfl,by rw[g]⟩
def vz:Sp
 |[u,v]=>(ru u).bind λr=>(nF v).bind λp=>bif decide (J r<=2000)&&(r.all iw&&iw p)then X (bu (qG r p))else Z
 |_=>Z
def Ue:dy:=[(252,AC),(253,wZ)]
def age:eh Ue:=.cons aEK (.cons ahH .nil)
def abM{r:oa}(h:au 2 aX v r)(h1:J r<=2000)(g:r.all iw=O)(d:iw p=O):vz [v,aX p]=X (bu (qG r p)):=by
 simp only[aac,vz,qs h,FA,dQ h1,g,d]
def abN:cW ag 184 vz:=by
 intro g u h G z w xs j x;unfold vz at h;split at h;simp only[ak]at h
 let⟨r,h1,p,h2,h⟩:=h
 let⟨h3,h⟩:=aZ h
 simp only[bg,dE]at h3;have h:=sI h;subst h
 let⟨_,h4,hr⟩:=wW h1
 have y:=rq h2;subst y;refine iQ age (W:=[]) .nil (by simp only[dR,h4,jo];rfl) (λA=>?_) G z w xs j x;obtain⟨v,s',d,rfl⟩:=awB (Q:=QW Ue [] A) R_ R_ rfl rfl R_ hr h3.1 h3.2.1 h3.2.2 (s:=s0) d_;exact⟨_,_,d,1,rfl⟩;cases h
def CG(sz lo:Nat)(s:St)(ov:aa)(xs:az):Prop:=∃k,ov=.list sz xs (.own k)/\s.get [] k=X .tok/\lo<=k/\k<s.aL
variable{xs:az}
def CG.gt{sz:Nat}(h:CG sz lo s ov xs):ov.gt=O:=by
 obtain⟨k,rfl,_⟩:=h;rfl
def ag3{t:TypeId}{E:EI}{sz:Nat}(G:js ag t=X E)(z:E.n=sz)(F:E.b<=88){y y0:aa}(h:CG sz lo s ov xs)(u:cU [] E.g E.n y s=X [y0])(j:J xs<=900000)(A:s.gE<=s.aL):
 ∃d s',cJ ag [] t ov y I s=X (d,s')/\CG sz lo s' d (xs++[y0])/\s'.ci=s.ci/\s.aL<=s'.aL/\s'.gE<=s'.aL/\(∀n,n<lo->s'.get [] n=s.get [] n):=by
 subst z;obtain⟨k,rfl,B,U,H⟩:=h;have w:eB (J xs+ [y0].length) E.b=O:=ui (by simp only[bP,bC];omega) F;refine⟨.list E.n (xs++[y0]) (.own s.aL),(s.put k Z).new .tok,?_,⟨s.aL,rfl,by rw[ei,kB,bS];rfl,w_,iA _⟩,rfl,iy _,co (cG s k Z A),λn x=>?_⟩;simp only[aaa,cJ,G,aG,u,fy,B,w,bZ];rw[ei,kB,bN.2 w_,cF,aO,bN.2 w_];rfl
def AD(p:Pt):Pt:=(2*p.1,2*p.2)
def xS(h:bO p=O):(-2097152<=p.1/\p.1<=2097152)/\(-2097152<=p.2/\p.2<=2097152):=by
 simp only[bO,aR,bg,ny,decide_eq_false_iff_not]at h;omega
def akn{r:oa}(h:r.all bO=O):(oz r).all iw=O:=by
 rw[fO];intro q d;obtain⟨p,g,rfl⟩:=cy.1 d
 have:=xS (fO.1 h p g);simp only[iw,bT,bg,dE];omega
def aER(d:No Q 183)(u:bO p=O)(s:St):ai Q 183 [aX p] s (aX (AD p)) s:=by
 have w:=xS u;have j:IntKind.i64.wrap (2*p.1)=2*p.1:=kj w_ w_;have g:IntKind.i64.wrap (2*p.2)=2*p.2:=kj w_ w_;have h:∃v s',ai Q 183 [aX p] s v s'/\(v=aX (AD p)/\s'=s):=by
  refine ai.ofNRZ asD (aM ?_);simp only[go_sem,seval,aX,AD,j,g,CZ,sB];exact⟨_,rfl,by simp[AD,aX]⟩
 obtain⟨_,_,h,rfl,rfl⟩:=h;exact h
def awN(A:No Q 183){r:oa}(hr:au 2 aX rv r)(b0:J r<=2000)(hn:r.all bO=O){s0:St}(hx:∀e lc s ov,CG 2 lo s ov ((oz r).map aX)->(∀k,k<lo->s.get [] k=s0.get [] k)->s.gE<=s.aL->lo<=s.aL->s.ci=s0.ci->ac e 5=ov->K (.exit 0) ⟨e,25,lc⟩ s):
 ∀(rest d:oa)(e:ax)(lc:Ag.Loc)(s:St)(ov:aa),r=d++rest->CG 2 lo s ov ((oz d).map aX)->(∀k,k<lo->s.get [] k=s0.get [] k)->s.gE<=s.aL->lo<=s.aL->s.ci=s0.ci->ac e 5=ov->ac e 1=.func (.func 183) [] []->ac e 11=rv->ac e 12=an (J r)->ac e 13=an (J d)->W Q 182 (.loop PF) ⟨e,25,lc⟩ s K:=by
 intro rest
 induction rest with
 |nil=>
  intro d e lc s ov U H w u G x Y h0 z h g;have a8:=cL U;have a7:d=r:=by rw[U];simp
  refine aF ?_;simp only[go_sem,seval,PF,h,g,a8,bJ];rw[a7]at H;exact hx _ _ _ ov H w u G x (by simp only[sN,seval,Y])
 |cons p rest ih=>
  intro d e lc s ov U H w u G x Y h0 z h g
  let⟨hlt,hat⟩:=cR U
  have a9:=λlc k=>hr.at nj.2.2.1 hat lc k;have a0:=cm (n:=J d) w_;have hp:=fO.1 hn p (cq hat);have j:=aER A hp s;have F:=H.gt
  let⟨ov',s1,a1,a2,a3,a4,a5,a6⟩:=ag3 (t:=138) nj.1 rfl d_ (s:=s) (y:=.list 2 [aX (AD p)] .GT) (y0:=aX (AD p)) H (by simp only[aaa,cU]) (by simp only[bh,oz];omega) u
  have B:=a2.gt;simp only[aX]at j a1;refine aF ?_;simp only[go_sem,seval,PF,h0,Y,z,h,g,hlt,a9,aX,F];refine aU.of j d_ ?_;simp only[go_sem,seval,Y,g,a0,F,B,a1,sB];refine ih (d++[p]) _ _ s1 ov' (by rw[U];simp) (by
   have e1:(oz (d++[p])).map aX=(oz d).map aX++[aX (AD p)]:=by simp[oz,AD]
   rw[e1];exact a2) (λk hk=>(a6 k hk).trans (w k hk)) a5 w_ (a3.trans x) ?_ ?_ ?_ ?_ ?_
  all_goals simp only[sN,seval,h0,z,h,sA]
def awO(G:No Q 182)(d:No Q 183){r:oa}(u:au 2 aX rv r)(h:J r<=2000)(hn:r.all bO=O)(w:s.gE<=s.aL):
 ∃v s',ai Q 182 [rv,.func (.func 183) [] []] s v s'/\(au 2 aX v (oz r)/\(∀k,k<s.aL->s'.get [] k=s.get [] k)/\s.aL<=s'.aL/\s'.gE<=s'.aL/\s'.ci=s.ci):=by
 have B:=u.gt;have z:=u.lenS nj;have x:nN ag 138 (ah 0) (an (J r)) I s=X (.list 2 [] (.own s.aL),s.new .tok):=by
  have h1:aP 0 (J r)=O:=bG (fT _);have h2:aP (J r*16) 1099511627776=O:=bG w_;have h3:aP (J r) 1099511627776=O:=bG w_;have Y:dP (ah 0)=X 0:=rfl;simp only[aac,nN,nj,Y,nP,h1,h2,h3];rfl
 refine ai.ofNRZ asC (aM ?_);simp only[go_sem,seval,B,z,Sf,x];refine awN d u h hn (lo:=s.aL) (s0:=s.new .tok) ?_ r [] _ _ (s.new .tok) (.list 2 [] (.own s.aL)) rfl ⟨s.aL,rfl,cr,aC _,iA _⟩ (λ_ _=>rfl) (co w) (iy _) rfl ?_ ?_ ?_ ?_ ?_;intro e lc s1 ov U A g y F h5;have j:=U.gt;simp only[go_sem,seval,h5,j];refine⟨_,rfl,?_,λk H=>(A k H).trans (cQ H),y,g,F⟩;obtain⟨k,rfl,_⟩:=U;exact .inr ⟨_,rfl⟩
 all_goals simp only[sN,seval,bC]
 all_goals rfl
