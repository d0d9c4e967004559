/- Lemmas for PartUnits. -/
import Derived.Test.YtnhmcokmdhgpbaaGreatB4
import Derived.Test.YtnhmcokmdhgpbaaGreatAg2
set_option linter.all false
open Option renaming some→X,none→Z,bind_eq_some_iff→an,bind_some→aH,map_eq_some_iff→pH,map_none→nQ,map_some→kL
open Bool renaming true→O,false→I,and_eq_true→bh,and_false→jQ,and_self→cj,false_and→lO,not_eq_true'→m9,not_true→qE,true_and→jf
open List renaming length→J,all_cons→pD,all_eq_true→fK,append_assoc→mJ,append_nil→iw,cons_append→uj,drop_eq_nil_of_le→EZ,drop_zero→kz,drop→kV,ext_getElem→E5,filterMap_cons→yu,finRange→yx,foldl_cons→AF,getD_eq_getElem?_getD→lQ,getElem?_append_left→AG,getElem?_append_right→sw,getElem?_eq_getElem→dp,getElem?_eq_some_iff→gn,getElem?_map→gZ,getElem?_take→we,getElem?_zip_eq_some→Nr,getElem_mem→AI,getElem_of_mem→Iu,head?_drop→Cr,length_append→bK,length_cons→bT,length_filter_le→jv,length_map→bj,length_nil→bn,length_range→Cs,length_set→nN,length_tail→yA,length_take→jw,length→nM,map_append→db,map_congr_left→Iw,map_cons→cU,map_eq_nil_iff→pE,map_map→kW,mem_append→fA,mem_cons_of_mem→iE,mem_cons_self→gG,mem_cons→dG,mem_filter→AK,mem_flatMap→sD,mem_map→cC,mem_of_getElem?→co,mem_range→yB,mem_singleton→kg,nodup_nil→Cv,not_mem_nil→pF,pairwise_append→Iy,pairwise_map→ux,range→g9,replicate→fB,take_length→IC,take_of_length_le→nh,take→qL
open Int renaming toNat_of_nonneg→Np
open Nat renaming beq→aB,ble_eq_true_of_le→bH,ble→aP,blt→bC,eq_of_beq_eq_true→fL,le_refl→aD,le_succ_of_le→cr,le_succ→io,le_trans→dj,lt_irrefl→bJ,lt_succ_of_lt→IG,lt_succ_self→gN,mod_eq_of_lt→Fa,mod_lt→wA,mul_le_mul→nP,not_lt_zero→wB,reduceAdd→hG,reduceBEq→cI,reduceDiv→Cw,reduceLT→eO,reduceLeDiff→qO,reduceMod→dX,reduceMul→AM,reducePow→Cx,reduceShiftRight→eG,zero_add→dP,zero_le→fN
open Option.some renaming injEq→aR
open Prod.mk renaming injEq→bu
open Go.Proofs.Tryz renaming prog→ae
open Go.Ag.W renaming loopC→aF,rfun→nR
open Go.Ag.WC renaming sound→aM
namespace Go.Proofs.YtnhmcokmdhgpbaaGreat
open Tryz
open Go.Ag
open Go.Sort (SWO)
variable{α:Type}
def M3{d:α->α->Int}(k:α->Int×Int)(h:∀x y,d x y<0↔((k x).1<(k y).1\/((k x).1=(k y).1/\(k x).2<(k y).2))):SWO (ltOf d) where
 irrefl x:=by
  simp only[ltOf,decide_eq_false_iff_not,h];omega
 trans x y z h1 h2:=by
  simp only[ltOf,dE,h]at*;omega
 ntrans x y z h1 h2:=by
  simp only[ltOf,decide_eq_false_iff_not,h]at*;omega
def L8{a b c d:Int}:lH [jF a b,c-d]<0↔(a<b\/(a=b/\c<d)):=by
 rw[SN];unfold jF;by_cases h1:a<b;simp[aQ,aj,h1];by_cases h2:b<a;have:¬a=b:=w_
 simp[aQ,aj,h1,h2,this];have:a=b:=w_
 subst this;simp[aQ,aj];omega
def HD{a b c d:Int}:lH [a-b,c-d]<0↔(a<b\/(a=b/\c<d)):=by
 rw[SN];cases h:aj (a-b) 0;have:a-b≠0:=by simpa[aj]using h
 simp only[cF];omega;have:a-b=0:=by simpa[aj]using h
 simp only[cT];omega
def eB{α:Type}(g:α->α->Int)(d:α)(l:List α)(i j:Nat):Int:=g (l.getD i d) (l.getD j d)
def jM{α:Type}(g:α->α->Int)(d:α)(l:List α):List α:=(xO (eB g d l) (J l)).map λi=>l[i]
theorem vS(g:α->α->Int)(d:α)(l:List α):(jM g d l).Perm l:=by
 have h:=(SP (eB g d l) (J l)).map λi=>l[i];have e:(yx (J l)).map (λi=>l[i])=l:=by
  refine E5 (by simp) λi u j=>?_;simp
 rwa [e]at h
def TK(g:α->α->Int)(d:α)(enc:α->aa)(l:List α):Am (eB g d l) (l.map enc)=(jM g d l).map enc:=by
 unfold Am jM;rw[kW];have w:(l.map enc).length=J l:=bj ..;rw[show(xO (eB g d l) (l.map enc).length).map (λi=>(l.map enc)[i])=(xO (eB g d l) (J l)).map (enc ∘ λi=>l[i])from ?_];have gen:∀n (u:n=J l) (r:az) (j:J r=n) (h:∀i (y:i<J r) (x:i<J l),r[i]=enc l[i]),(xO (eB g d l) n).map (λi=>r[i.1]'(by rw[j];exact i.2))=(xO (eB g d l) (J l)).map (enc ∘ λi=>l[i]):=by
  intro n u r j h;subst u;refine Iw λi _=>?_;exact h i _ _
 exact gen _ w (l.map enc) rfl λi y x=>by simp
def MQ(g:α->α->Int)(d:α)(l:List α)(u:SWO (ltOf λx y:Fin (J l)=>eB g d l x y)):(jM g d l).Pairwise λa b=>¬g b a<0:=by
 unfold jM;rw[ux];have w:=List.pairwise_mergeSort (le:=λi j:Fin (J l)=> !(ltOf λx y:Fin (J l)=>eB g d l x y) j i) (λa b c A z=>by
  simp only[m9]at*;exact u.ntrans _ _ _ z A) (λa b=>by
  simp only[Bool.or_eq_true,m9];cases h:(ltOf λx y:Fin (J l)=>eB g d l x y) b a;exact .inl rfl;right;cases h':(ltOf λx y:Fin (J l)=>eB g d l x y) a b;rfl
  have:=u.trans _ _ _ h h';rw[u.irrefl]at this;cases this) (yx (J l))
 refine w.imp λ{i j} h=>?_;simp only[m9,ltOf,eB]at h;simpa[lQ]using h
noncomputable def uS{α:Type}(enc:α->aa)(cs:az):Option (List α):=by
 classical exact if h:∃l:List α,cs=au (l.map enc)then X h.choose else Z
def OU{enc:α->aa}{cs:az}{l:List α}(h:uS enc cs=X l):cs=au (l.map enc):=by
 unfold uS at h;split at h;rename_i d;cases h;exact d.choose_spec;cases h
def Jx{enc:α->aa}{k:Nat}(d:∀a,(enc a).cells.length=k)(z:0<k)(hi:∀a b,(enc a).cells=(enc b).cells->a=b)(l:List α):uS enc (au (l.map enc))=X l:=by
 have j:∃r:List α,au (l.map enc)=au (r.map enc):=⟨l,rfl⟩;unfold uS;rw[dif_pos j];have g:∀(l r:List α),au (l.map enc)=au (r.map enc)->r=l:=by
  intro l
  induction l with
  |nil=>
   intro r h;rcases r with _|⟨y,r⟩
   rfl
   have:=congrArg nM h;simp only[List.map_nil,cU,au,bn,bK,d]at this;omega
  |cons x l w=>
   intro r h;rcases r with _|⟨y,r⟩
   have:=congrArg nM h;simp only[List.map_nil,cU,au,bn,bK,d]at this;omega;simp only[cU,au]at h;have u:=List.append_inj h (by rw[d,d]);rw[hi _ _ u.1,w r u.2]
 exact congrArg X (g l _ j.choose_spec)
noncomputable def xY{α:Type}(enc:α->aa)(h:α->α->Int)(d:α)(g:List α->Bool)(cs:az):K_:=(uS enc cs).bind λl=>bif g l then X (au ((jM h d l).map enc))else Z
noncomputable def xZ{α:Type}(enc:α->aa)(j:α->α->Int)(d:α)(h:List α->Bool)(k g:Nat):az->Nw
 |[.arr k' m 0 len _,.func (.func g') [] []]=>bif aB k' k&&aB g' g then X (X (m,λcs=>rX (bif aB (J cs) (len*k)then xY enc j d h cs else Z)))else Z
 |[.uP,.func (.func g') [] []]=>bif aB g' g then X Z else Z
 |_=>Z
variable{f:Nat}
def afn{enc:α->aa}{U:α->α->Int}{d:α}{ok:List α->Bool}{k g:Nat}{ρ:Go.Shelf.Ren}(L:SlLaysF0.n6 ae ρ)(hf:ρ.f 6=f)(aE:∀w,(isAgg (ρ.t 24)).run ae w=.ok O w)(zE:∀w,(Go.sizeOf (ρ.t 24)).run ae w=.ok k w)(ef:∀A w,(callFunc f A).run ae w=.ok (.enter f A) w)(eg:∀A w,(callFunc g A).run ae w=.ok (.enter g A) w){sp:Sp}(a5:da ae g sp)(hk:∀a,(enc a).cells.length=k)(ha:∀a,enc a=.agg (enc a).cells)(a4:0<k)(hz:∀a h,eY h (enc a) (enc a))(a8:∀l,ok l=O->J l<=1000000/\(∀(i j:Nat)(x y:α),l[i]?=X x->l[j]?=X y->sp [enc x,enc y]=X (.int .i64 (U x y)))/\(SWO (ltOf λx y:Fin (J l)=>eB U d l x y))/\(∀x y:Fin (J l),(ltOf λx y:Fin (J l)=>eB U d l x y) x y=I->(ltOf λx y:Fin (J l)=>eB U d l x y) y x=I->x=y)):
 uH f (xZ enc U d ok k g):=by
 subst hf;intro A G h w xs wr hx;refine⟨λB=>?_,λn gf cs b0 B hl H=>?_⟩
 ·unfold xZ at B
  split at B
  let⟨_,B⟩:=bf B
  cases B
  ·cases hx with
   |cons p q=>
   cases q with
   |cons q r=>
   cases r;cases p;cases q with
   |func q1 q2=>
   cases q1;cases q2;refine .inr ⟨ef _ _,(AnyF.slices_SortFunc_none L Z 0 _ w).mono ?_⟩;rintro e w' ⟨rfl,rfl⟩;exact⟨_,rfl,G,wr,.refl,.tup .nil⟩
  cases B
 ·unfold xZ at B
  split at B
  ·rename_i k' m len a0 g'
   have hb:=(bf B).1;have hq:=(bf B).2;clear B;simp only[bh]at hb;have e1:=fL hb.1;have e2:=fL hb.2;subst e1;subst e2;injection hq with hq;injection hq with hq;injection hq with a7 a6
   subst a7;subst a6;have H:=HP H
   let⟨F,H⟩:=bf H
   have F:=fL F;simp only[xY,an]at H
   let⟨l,h1,H⟩:=H
   let⟨h2,H⟩:=bf H
   have H:=(sI H).symm;subst H;have a9:=OU h1;subst a9;have a3:∀v∈l.map enc,J v.cells=k'/\v=.agg v.cells:=λv hv=>by
    obtain⟨a,_,rfl⟩:=cC.1 hv;exact⟨hk a,ha a⟩
   have a1:J l=len:=by
    rw[nH (λv hv=>(a3 v hv).1),bj]at F;exact Nat.eq_of_mul_eq_mul_right a4 F
   let⟨q1,q2,q3,q4⟩:=a8 l h2
   cases hx with
   |cons p q=>
   cases q with
   |cons q r=>
   cases r;cases q with
   |func u1 u2=>
   cases u1;cases u2;have Y:(l.map enc).length=J l:=bj ..;have hy:∀z,VR G (.arr k' m 0 len a0) z->VR G (.arr k' m 0 (l.map enc).length a0) z:=λz hz=>by rw[Y,a1];exact hz
   have gen:∀n (hn:n=J l),SWO (ltOf λx y:Fin n=>eB U d l x y)/\(∀x y:Fin n,(ltOf λx y:Fin n=>eB U d l x y) x y=I->(ltOf λx y:Fin n=>eB U d l x y) y x=I->x=y):=by
    intro n hn;subst hn;exact⟨q3,q4⟩
   have a2:=λhO=>TH L rfl aE zE ef eg a5 wr (rows:=l.map enc) (us:=l.map enc) hl a3 a4 rfl (λi v u e1 e2=>by
    rw[e1]at e2;cases e2;rw[gZ,pH]at e1;obtain⟨a,_,rfl⟩:=e1;exact hz a _) (eB U d l) (λi j u u' e1 e2=>by
    rw[gZ,pH]at e1 e2;obtain⟨a,g1,rfl⟩:=e1;obtain⟨b,g2,rfl⟩:=e2;have e:eB U d l i j=U a b:=by
     unfold eB;rw[lQ,lQ,g1,g2];rfl
    rw[q2 i j a b g1 g2,e]) hO (gen _ Y).2 (by rw[Y];exact q1) (hy _ p)
   rw[TK]at a2;exact a2 (gen _ Y).1
  let⟨_,B⟩:=bf B
  cases B;cases B
def yW:aa->Option cQ
 |.agg [.int .i64 i,.int .i64 a,.int .i64 b,.int .i64 c,.int .i64 d,.int .i64 lx,.int .i64 hx,.int .i64 ly,.int .i64 hy]=>
   bif lx==min a c&&(hx==max a c&&(ly==min b d&&hy==max b d))then X (i,((a,b),(c,d)))else Z
 |_=>Z
variable{v:aa}
def Vi{x:cQ}(h:yW v=X x):v=cJ x:=by
 unfold yW at h;split at h
 let⟨h1,h⟩:=bf h
 cases h;simp only[bh,bE]at h1;obtain⟨rfl,rfl,rfl,rfl⟩:=h1;rfl;cases h
def N8(x:cQ):yW (cJ x)=X x:=by
 simp only[yW,cJ,ja,kF,u9,qp,qf,bS,cj,cT]
def A4:aa->Option Mt
 |.agg [.int .i64 a,.int .i64 b,.int .i64 c]=>X (a,b,c)
 |_=>Z
def Vk{x:Mt}(h:A4 v=X x):v=gB x:=by
 unfold A4 at h;split at h;cases h;rfl;cases h
def N9(x:Mt):A4 (gB x)=X x:=rfl
def mC(n:Int):Bool:=decide (0<=n)&&decide (n<=1000000)
theorem MP{a b:Int}(g:mC a=O)(d:mC b=O):IntKind.i64.wrap (a-b)=a-b:=by
 grind [mC,ka]
def zh(x y:cQ):Int:=lH [jF (kF x.2) (kF y.2),x.1-y.1]
def td(x y:Mt):Int:=lH [x.1-y.1,x.2.1-y.2.1]
def OH:Sp
 |[u,v]=>(yW u).bind λx=>(yW v).bind λy=>bif mC x.1&&mC y.1 then X (bD (zh x y))else Z
 |_=>Z
def OJ:Sp
 |[u,v]=>(A4 u).bind λx=>(A4 v).bind λy=>bif mC x.1&&(mC y.1&&(mC x.2.1&&mC y.2.1))then X (bD (td x y))else Z
 |_=>Z
def TS1:de:=[(126,oX),(125,vG)]
def UX:eh TS1:=.cons OE (.cons adT .nil)
def akF:da ae 184 OH:=by
 refine mD UX λd u h=>?_;unfold OH at h;split at h;simp only[an]at h
 let⟨x,h1,y,h2,h⟩:=h
 let⟨h3,h⟩:=bf h
 simp only[bh]at h3;have h:=sI h;subst h;rw[Vi h1,Vi h2];exact⟨rfl,_,s0,akG rfl rfl (MP h3.1 h3.2) (aD _),rfl,1,rfl⟩;cases h
def akJ:da ae 189 OJ:=by
 refine mD UX λd u h=>?_;unfold OJ at h;split at h;simp only[an]at h
 let⟨x,h1,y,h2,h⟩:=h
 let⟨h3,h⟩:=bf h
 simp only[bh]at h3;have h:=sI h;subst h;rw[Vk h1,Vk h2];exact⟨rfl,_,s0,akK rfl (MP h3.1 h3.2.1) (MP h3.2.2.1 h3.2.2.2) _,rfl,1,rfl⟩;cases h
noncomputable def Hs(l:Ni):Bool:=by classical exact decide (J l<=1000000/\(∀x∈l,mC x.1=O)/\(l.map (·.1)).Nodup)
abbrev VB:=List Mt
noncomputable def Ht(l:VB):Bool:=by classical exact decide (J l<=1000000/\(∀x∈l,mC x.1=O/\mC x.2.1=O)/\(l.map λm=>(m.1,m.2.1)).Nodup)
variable{β:Type}
theorem LG{k:α->β}{l:List α}(h:(l.map k).Nodup){i j:Nat}{x y:α}(hi:l[i]?=X x)(d:l[j]?=X y)(e:k x=k y):i=j:=by
 have u:(l.map k)[i]?=X (k x):=by rw[gZ,hi];rfl
 have g:(l.map k)[j]?=X (k x):=by rw[gZ,d,e];rfl
 grind [List.getElem?_inj]
def Dl{l:List α}{d:α}(i:Fin (J l)):l.getD i d=l[i]:=by
 rw[lQ];simp
noncomputable def TI:=xZ cJ zh (0,((0,0),(0,0))) Hs 9 184
noncomputable def TJ:=xZ gB td (0,0,0) Ht 3 189
def aD8:uH 183 TI:=by
 refine afn Tryz.sortF304 rfl Tryz.isAgg279 Tryz.sizeOf279 (Go.Proofs.enters_of func183 k_ rfl) (Go.Proofs.enters_of func184 k_ rfl) akF (λ_=>rfl) (λ_=>rfl) d_ (λa h=>⟨2,rfl⟩) λl d=>?_;simp only[Hs,dE]at d;refine⟨d.1,λi j x y z w=>?_,?_,?_⟩;have u:=d.2.1 x (co z);have g:=d.2.1 y (co w);simp only[fb,OH,N8,u,g];rfl;exact M3 (λi:Fin (J l)=>(kF (l.getD i (0,((0,0),(0,0)))).2,(l.getD i (0,((0,0),(0,0)))).1)) λx y=>L8;intro x y u g;simp only[ltOf,decide_eq_false_iff_not,eB,zh,L8,Dl]at u g;exact Fin.ext (LG d.2.2 (i:=x) (j:=y) (x:=l[x]) (y:=l[y]) (by simp) (by simp) w_)
def aEc:uH 188 TJ:=by
 refine afn Tryz.sortF309 rfl Tryz.isAgg214 Tryz.sizeOf214 (Go.Proofs.enters_of func188 k_ rfl) (Go.Proofs.enters_of func189 k_ rfl) akJ (λ_=>rfl) (λ_=>rfl) d_ (λa h=>⟨2,rfl⟩) λl d=>?_;simp only[Ht,dE]at d;refine⟨d.1,λi j x y z w=>?_,?_,?_⟩;have u:=d.2.1 x (co z);have g:=d.2.1 y (co w);simp only[fb,OJ,N9,u.1,u.2,g.1,g.2];rfl;exact M3 (λi:Fin (J l)=>((l.getD i (0,0,0)).1,(l.getD i (0,0,0)).2.1)) λx y=>HD;intro x y u g;simp only[ltOf,decide_eq_false_iff_not,eB,td,HD,Dl]at u g;exact Fin.ext (LG d.2.2 (i:=x) (j:=y) (x:=l[x]) (y:=l[y]) (by simp) (by simp) (by
  simp only[bu];omega))
abbrev nX:=List (Nat×(V_))
def EV(f:Nat):nX->Option (az->Nw)
 |[]=>Z
 |(k,v)::l=>bif aB k f&&rD f then X v else EV f l
def agc{f:Nat}(h:rD f=I):∀W:nX,EV f W=Z
 |[]=>rfl
 |(k,v)::l=>by
  rw[EV,h,jQ];exact agc h l
def qV(t:nX):Prop:=∀p∈t,uH p.1 p.2
def qV.nil:qV []:=λ_ h=>by cases h
def qV.cons{sp:V_}{t:nX}(h:uH f sp)(g:qV t):qV ((f,sp)::t):=by
 intro p d;rcases dG.1 d with rfl|d
 exact h;exact g p d
def agb{f:Nat}{sp:V_}:∀{t:nX},EV f t=X sp->(f,sp)∈t
 |[],h=>by cases h
 |(k,v)::l,h=>by
  simp only[EV]at h;cases hk:aB k f&&rD f;rw[hk]at h;exact iE _ (agb h)
  simp_all
noncomputable def QW(T:de)(W:nX)(ch:cE):ay:= {P:=ae,hint:=Ds,spec:=λf=>Ap f T,ch:=ch,kmax:=λ_=>1000000,specW:=λf=>EV f W }
instance(T:de)(W:nX)(ch:cE):Std (QW T W ch):=⟨rfl,rfl,λ_=>rfl,λ_ h=>⟨H8 h T,agc h W⟩⟩
variable{T:de}
theorem XF(j:eh T){W:nX}(g:qV W):Ag.rf (QW T W λ_=>0) where
 mixed:=Ly
 spec f sp hsp args v hv G hp w xs wr hx:=j _ (H7 hsp) args v hv G hp w xs wr hx
 specH f sp h args v G hp w xs wr hx hv:=by cases h
 specW f sp h:=g _ (agb h)
 names f fn d:=by
  have d:ae.funcs[f]?=X fn:=d
  grind [Ss]
def jd(hT:eh T){W:nX}(hW:qV W){f:FuncId}{args:az}{u:aa}(Y:dW args=O)(U:∀d,∃v s',ai (QW T W d) f (di args) s0 v s'/\eY s'.heap v u)(G:Gh)(h:aC aI)(w:World)(xs:er)(wr:WR G h w)(H:bO G args xs):
 kh ae f ⟨xs⟩ w λy F=>∃A,WR A h F/\ck G h w A h F 0 0/\VR A u y:=by
 let⟨N,hN⟩:=W4 (B:=1000000) w_ (λd n=>∃v s',(b9 (QW T W d) n).call f (di args) [] s0=X (v,s')/\eY s'.heap v u)
  (λd n m x ⟨v,s',j,g⟩=>⟨v,s',(mn (QW T W d) x).call _ _ _ _ _ j,g⟩)
  (λd n ⟨v,s',j,g⟩=>⟨s'.ci,λz hc=>⟨v,s',(qt (QW T W λ_=>0) n).call f _ [] d s0 v s' j z hc,g⟩⟩)
  (λd _=>let⟨v,s',⟨n,j⟩,g⟩:=U d;⟨n,v,s',j,g⟩)
 exact MU (Q:=QW T W λ_=>0) (n:=N) (XF hT hW) (λ_=>(by decide:0<1000000)) Y (λd hi=>hN d hi) G h w xs wr H
def H3(A:eh T){W:nX}(z:qV W){sp:Sp}(h:∀args u,sp args=X u->pures args=O/\∀B,∃v s',ai (QW T W B) f args s0 v s'/\eY s'.heap v u):da ae f sp:=by
 intro args x j G y w xs d g
 let⟨hp,hr⟩:=h args x j
 exact jd A z (args:=args) (Aq hp) (by rw[ky hp];exact hr) G y w xs d g
def jK{α β:Type}(F:α->α->Option β):List α->List β
 |[]=>[]
 |a::l=>l.filterMap (F a)++jK F l
theorem ad6{α β:Type}{F:α->α->Option β}(d:∀a b,F a b=F b a)(a:α):∀l:List α,(jK F (l++[a])).Perm (jK F l++l.filterMap (F a))
 |[]=>by simp[jK]
 |b::l=>by
  have j:=ad6 d a l;rw[uj,jK,jK,List.filterMap_append,yu (a:=b),d a b];have e:[a].filterMap (F b)=(F b a).toList:=by
   cases h:F b a<;>simp[h]
  rw[e];have g:∀o:Option β,(l.filterMap (F b)++o.toList++jK F (l++[a])).Perm (l.filterMap (F b)++jK F l++(o.toList++l.filterMap (F a))):=λo=>by
   simp only[mJ];refine List.Perm.append_left _ ((List.Perm.append_left _ j).trans ?_)
   grind [List.perm_append_comm]
  grind
theorem aA1{F:α->α->Option β}(g:∀a b,F a b=F b a){l l':List α}(h:l.Perm l'):(jK F l).Perm (jK F l'):=by
 induction h with
 |nil=>exact .refl _
 |cons a h d=>exact(h.filterMap _).append d
 |swap a b l=>
  rw[jK,jK,jK,jK,yu,yu,g a b];rcases F b a with _|x
  grind [List.Perm.append_right,List.perm_append_comm]
  simp only[];rw[uj,uj,<-mJ,<-mJ];exact(List.Perm.append_right _ List.perm_append_comm).cons _
 |trans _ _ u j=>exact u.trans j
def x7{α β:Type}(keep:α->α->Bool)(G:α->α->Option β):List α->List α->List β->List β
 |[],_,out=>out
 |a::l,act,out=>x7 keep G l (act.filter (keep a)++[a]) (out++(act.filter (keep a)).filterMap (G a))
theorem JE{α β:Type}{p:α->Bool}{f:α->Option β}(h:∀x,p x=I->f x=Z):∀l:List α,(l.filter p).filterMap f=l.filterMap f
 |[]=>rfl
 |x::l=>by
  cases hp:p x;rw[List.filter_cons_of_neg (by simp[hp]),yu,h x hp,JE h l];rw[List.filter_cons_of_pos hp,yu,yu,JE h l]
theorem afx{α β:Type}{keep:α->α->Bool}{F:α->α->Option β}{low:α->Int}(j:∀a b,F a b=F b a)(h:∀a b c,keep a b=I->low a<=low c->F c b=Z):
 ∀(l P act:List α)(out:List β),(P++l).Pairwise (λa b=>low a<=low b)->(∀c,(∀x∈P,low x<=low c)->P.filterMap (F c)=act.filterMap (F c))->out.Perm (jK F P)->(x7 keep F l act out).Perm (jK F (P++l))
 |[],P,act,out,_,_,ho=>by simpa[x7]using ho
 |a::l,P,act,out,hs,ha,ho=>by
  have e:P++a::l=(P++[a])++l:=by simp
  have g:∀x∈P,low x<=low a:=λx d=>(Iy.1 hs).2.2 x d a gG;rw[x7,e];rw[e]at hs;refine afx j h l (P++[a]) _ _ hs ?_ ?_
  grind [JE]
  refine List.Perm.trans ?_ (ad6 j a P).symm;rw[JE λx d=>h a x a d (Int.le_refl _),<-ha a g];exact ho.append_right _
def aEJ{keep:α->α->Bool}{F:α->α->Option β}{low:α->Int}(d:∀a b,F a b=F b a)(j:∀a b c,keep a b=I->low a<=low c->F c b=Z){l r:List α}(g:l.Pairwise (λa b=>low a<=low b))(h:l.Perm r):(x7 keep F l [] []).Perm (jK F r):=
 (afx d j l [] [] [] g (λ_ _=>rfl) (.refl _)).trans (aA1 d h)
def fM(a b:cQ):Option Mt:=bif aj (kS a.2 b.2) 0 then Z else X (min a.1 b.1,max a.1 b.1,kS a.2 b.2)
def al7(a b:cQ):fM a b=fM b a:=by
 unfold fM;rw[axL a.2 b.2,Int.min_comm,Int.max_comm]
theorem WO{a b:cQ}(h:¬boxes a.2 b.2):fM a b=Z:=by
 grind [fM,aj,axP]
def jU:Nat->wj->Ni
 |_,[]=>[]
 |i,s::l=>(((i:Nat):Int),s)::jU (i+1) l
theorem xh:∀(l:wj)(i:Nat),(jU i l).length=J l
 |[],_=>rfl
 |_::l,i=>by rw[jU,bT,xh l,bT]
theorem Bt:∀{l:wj}{i:Nat}{x:cQ},x∈jU i l->(i:Int)<=x.1/\x.1<(i+J l:Nat)
 |[],_,_,h=>by cases h
 |s::l,i,x,h=>by
  rcases dG.1 h with rfl|h
  grind
  have:=Bt h;simp only[bT];omega
theorem Dw:∀(l:wj)(i:Nat),(jU i l).Pairwise λa b=>a.1<b.1
 |[],_=>.nil
 |s::l,i=>.cons (λx d=>by have:=Bt d;omega) (Dw l (i+1))
def gw(l:wj):VB:=jK fM (jU 0 l)
def zN(a b:Mt):Prop:=a.1<b.1\/(a.1=b.1/\a.2.1<b.2.1)
theorem De{a b:cQ}{m:Mt}(h:fM a b=X m):m.1=min a.1 b.1/\m.2.1=max a.1 b.1:=by
 grind [fM]
theorem Mc{α β:Type}{F:α->α->Option β}{m:β}:∀{l:List α},m∈jK F l->∃x∈l,∃y∈l,F x y=X m
 |[],h=>by cases h
 |a::l,h=>by
  rcases fA.1 h with h|h
  grind
  let⟨x,h1,y,h2,h3⟩:=Mc h
  grind
def HF{α β:Type}{F:α->α->Option β}:∀l:List α,(jK F l).length<=J l*J l
 |[]=>by simp[jK]
 |a::l=>by
  have g:=List.length_filterMap_le (F a) l;have d:=HF (F:=F) l;rw[jK,bK,bT,Nat.add_mul,Nat.mul_add];omega
theorem HG:∀{l:Ni},l.Pairwise (λa b=>a.1<b.1)->(jK fM l).Pairwise zN
 |[],_=>.nil
 |a::l,.cons h1 h2=>by
  rw[jK,Iy];refine⟨?_,HG h2,λx g y d=>?_⟩;rw[List.pairwise_filterMap];refine(List.Pairwise.and_mem.1 h2).imp ?_;rintro x y ⟨g,d,h⟩ b w c j;have B:=De w;have A:=De j
  grind [zN]
  let⟨z,hz,hzx⟩:=List.mem_filterMap.1 g
  let⟨u,hu,v,hv,huv⟩:=Mc d
  have B:=De hzx;have A:=De huv
  grind [zN]
def d9:cQ:=(0,((0,0),(0,0)))
def d3:Mt:=(0,0,0)
def aEL(l:Ni):SWO (ltOf λx y:Fin (J l)=>eB zh d9 l x y):=M3 (λi:Fin (J l)=>(kF (l.getD i d9).2,(l.getD i d9).1)) λ_ _=>L8
def aEM(l:VB):SWO (ltOf λx y:Fin (J l)=>eB td d3 l x y):=M3 (λi:Fin (J l)=>((l.getD i d3).1,(l.getD i d3).2.1)) λ_ _=>HD
def An(l:wj):Ni:=jM zh d9 (jU 0 l)
def th(l:wj):VB:=x7 (λa x=> !iK a x) fM (An l) [] []
def TT(l:wj):(An l).Perm (jU 0 l):=vS _ _ _
def Di(l:wj):(th l).Perm (gw l):=by
 refine aEJ (low:=λa:cQ=>kF a.2) al7 ?_ ?_ (TT l);intro a b c d h;refine WO λg=>?_;have d:u9 b.2<kF a.2:=by simpa[iK,aQ]using d
 have:=g.1.1;simp only[kF,u9]at*;omega;refine(MQ zh d9 _ (aEL _)).imp ?_
 simp_all [zh,L8]
variable{l:wj}
theorem asi(h:J l<=1000):Hs (jU 0 l)=O:=by
 simp only[Hs,dE];refine⟨by rw[xh];omega,λx d=>?_,?_⟩
 have:=Bt d;simp only[mC,bh,dE];omega
 grind [Dw]
theorem anN(h:J l<=1000):Ht (th l)=O:=by
 have d:=Di l;simp only[Ht,dE];refine⟨?_,λx g=>?_,?_⟩;rw[d.length_eq]
 have:=HF (F:=fM) (jU 0 l);rw[xh]at this;have:J l*J l<=1000*1000:=nP h h;unfold gw;omega
 let⟨a,ha,b,hb,hab⟩:=Mc (d.mem_iff.1 g)
 have e:=De hab;have u:=Bt ha;have j:=Bt hb;simp only[mC,bh,dE];omega;rw[(d.map _).nodup_iff,List.nodup_iff_pairwise_ne,ux];refine(HG (Dw l 0)).imp λh=>?_
 grind [zN]
theorem anO(l:wj):jM td d3 (th l)=gw l:=by
 refine List.Perm.eq_of_pairwise (le:=λa b=>¬td b a<0) (λa b d u j g=>?_) (MQ td d3 _ (aEM _)) ?_ ((vS _ _ _).trans (Di l));have d:=((vS td d3 (th l)).trans (Di l)).mem_iff.1 d;simp only[td,HD]at j g
 grind [gw,zN,HG,Dw,Iu,List.pairwise_iff_getElem]
 refine(HG (Dw l 0)).imp λh=>?_;simp only[zN]at h;simp only[td,HD];omega
end Go.Proofs.YtnhmcokmdhgpbaaGreat
namespace Go.Proofs.YtnhmcokmdhgpbaaGreat
open Tryz
open Go.Ag
variable{Q:ay}[Std Q]
theorem YH:∀(l:wj)(i:Nat)(s:bG),jU i (l++[s])=jU i l++[(((i+J l:Nat):Int),s)]
 |[],i,s=>rfl
 |x::l,i,s=>by
  rw[uj,jU,YH l,jU,bT,show i+1+J l=i+(J l+1)from w_];rfl
def B0(d:wj)(n:Nat):Ni:=jU 0 d++fB n Cm
theorem aCS(d:wj)(s:bG)(n:Nat):(B0 d (n+1)).set (J d) (((J d:Nat):Int),s)=B0 (d++[s]) n:=by
 grind [B0,List.set_append_right,xh,YH]
def aCR(d:wj)(n:Nat):(B0 d n).length=J d+n:=by
 unfold B0;rw[bK,xh,List.length_replicate]
def ay6:da ae 182 BI:=by
 refine mD (T:=[]) .nil λd u h=>?_;unfold BI at h;split at h;have h:=sI h;subst h;exact⟨rfl,_,s0,azb R_ _ _ _,rfl,2,rfl⟩;cases h
def A5:Sp
 |[.agg [.int .i64 a,.int .i64 b],.agg [.int .i64 c,.int .i64 d]]=>X (.bool (bV a d&&bV c b))
 |_=>Z
def aiI:da ae 187 A5:=by
 refine mD (T:=[]) .nil λg u h=>?_;unfold A5 at h;split at h;rename_i a b c d;have h:=sI h;subst h;exact⟨rfl,_,s0,aiK R_ (a,b) (c,d) _,rfl,1,rfl⟩;cases h
variable{m:Nat}{s s':St}
def dz.putT(h:dz m s s')(o:ra):dz m s (s'.xW (s'.top.put m o)):=
 ⟨λk d=>by rw[jH,aN,bN.2 d];exact h.old k d,h.aL,h.ci,mU h.mw (aD _)⟩
variable{K:gk}{segs:wj}{sv:aa}
theorem ash(x:Q.spec 182=X BI)(hs:aq 4 cd sv segs)(U:J segs<=1000){s0:St}(hx:∀e lc s,ac e 4=.arr 9 m 0 (J segs) (J segs)->dz m s0 s->s.get [] m=X (.cells (au ((jU 0 segs).map cJ)))->K (.exit 0) ⟨e,102,lc⟩ s):
 ∀(rest d:wj)(e:aw)(lc:Ag.Loc)(s:St),segs=d++rest->dz m s0 s->s.get [] m=X (.cells (au ((B0 d (J rest)).map cJ)))->
  ac e 4=.arr 9 m 0 (J segs) (J segs)->ac e 20=sv->ac e 21=ak (J segs)->ac e 22=ak (J d)->W Q 118 (.loop PX) ⟨e,102,lc⟩ s K:=by
 intro rest
 induction rest with
 |nil=>
  intro d e lc s y F H G w h u;have A:=cz y;refine aF ?_;simp only[go_sem,seval,PX,h,u,A,bJ]
  grind [jT,B0]
 |cons g rest ih=>
  intro d e lc s y F H G w h u
  let⟨hlt,hat⟩:=cH y
  have B:=λlc k=>hs.at Aj.2.2.1 hat lc k;have z:=cm (n:=J d) w_;have q1:BI [ah g.1.1,ah g.2.1]=X (aX (kF g,u9 g)):=rfl;have Y:BI [ah g.1.2,ah g.2.2]=X (aX (qp g,qf g)):=rfl;have j:=YG (s:=s.top) H (i:=J d) (by rw[aCR,bT];omega) ((((J d:Nat):Int)),g);rw[bT,aCS]at j;simp only[cJ,ja,afK]at j;refine aF ?_;simp only[go_sem,seval,PX,G,w,h,u,hlt,B,z,cd,x,q1,Y,aX,dl,F.mw,j,sB];refine ih (d++[g]) _ _ _ (cP y) (F.putT _) (by rw[jH,aN,bS];rfl) ?_ ?_ ?_ ?_
  all_goals simp only[jW,jT,cI,cT,cF,G,w,h]
def gl:aa->pb
 |.arr _ n _ _ _=>X n
 |_=>Z
def gI(sz:Nat)(s:St)(v:aa)(xs:az):Prop:=(v=.uP/\xs=[])\/(xs≠[]/\∃k,v=.arr sz k 0 (J xs) (J xs)/\s.get [] k=X (.cells (au xs))/\k<s.aL)
variable{xs:az}{sz:Nat}{v:aa}
def gI.gt(h:gI sz s v xs):v.gt=O:=by
 rcases h with⟨rfl,_⟩|⟨_,k,rfl,_⟩<;>rfl
theorem gI.cells(h:gI sz s v xs):v.cells=[v]:=by
 rcases h with⟨rfl,_⟩|⟨_,k,rfl,_⟩<;>rfl
def gI.mono(h:gI sz s v xs)(d:∀n,gl v=X n->s'.get [] n=s.get [] n)(u:s.aL<=s'.aL):gI sz s' v xs:=by
 rcases h with h|⟨j,k,rfl,g,w⟩
 exact .inl h;exact .inr ⟨j,k,rfl,by rw[d k rfl];exact g,w_⟩
def gI.lt(h:gI sz s v xs):∀n,gl v=X n->n<s.aL:=by
 intro n d;rcases h with⟨rfl,_⟩|⟨_,k,rfl,_,h⟩
 cases d;cases d;exact h
def CJ{t:TypeId}{E:EI}(H:jk ae t=X E)(w:E.n=sz)(hb:E.b<=88)(x:aa)(j:∀y∈xs,J y.cells=sz)(G:J xs<1000000)(F:s.gE<=s.aL)(h:gI sz s v xs):
 ∃d,cL ae [] t v (.list sz [x] .Al) O s=X (.arr sz s.aL 0 (J xs+1) (J xs+1),d)/\gI sz d (.arr sz s.aL 0 (J xs+1) (J xs+1)) (xs++[x])/\d.aL=s.aL+1/\d.ci=s.ci/\d.gE<=d.aL/\(∀n,n<s.aL->gl v≠X n->d.get [] n=s.get [] n):=by
 subst w;have g:eE (J xs+1) E.b=O:=tY w_ hb;have Y:(xs++[x]).length=J xs+1:=by simp
 rcases h with⟨rfl,rfl⟩|⟨_,k,rfl,hk,U⟩
 refine⟨s.new (.cells (au [x])),?_,.inr ⟨by simp,s.aL,rfl,?_,gN _⟩,rfl,rfl,cr F,λn w _=>?_⟩;have g:eE 1 E.b=O:=g;simp only[ce,cL,H,aH,cR,fk,iq,bT,bn,dP,g];rw[eA,bS];rfl;rw[eA,bN.2 (by omega:n≠s.aL)];rfl;have B:(au xs).length=J xs*E.n:=Pg j;have A:au [x]=x.cells:=by show x.cells++au []=_;simp[au]
 refine⟨(s.put k Z).new (.cells (au (xs++[x]))),?_,.inr ⟨by simp,s.aL,by rw[Y],?_,gN _⟩,rfl,rfl,?_,λn w u=>?_⟩;simp only[ce,cL,H,aH,cR,fk,hk,bT,bn,dP,g,B,cj,kz,A,mQ];rw[eA,kr,bS];rfl;exact cr (cG s k Z F);have z:n≠k:=λe=>u (by rw[e];rfl);rw[eA,kr,bN.2 (by omega:n≠s.aL),cF,aN,bN.2 z];rfl
def qQ(s:St)(av:aa)(act:Ni):Prop:=(av=.uP/\act=[])\/∃(k:Nat)(R:Ni),av=.arr 9 k 0 (J act) (J R)/\s.get [] k=X (.cells (au (R.map cJ)))/\R.take (J act)=act/\J act<=J R/\J R<=1000/\k<s.aL
variable{xs:Ni}
def qQ.gt(h:qQ s v xs):v.gt=O:=by
 rcases h with⟨rfl,_⟩|⟨k,R,rfl,_⟩<;>rfl
def qQ.mono(h:qQ s v xs)(d:∀n,gl v=X n->s'.get [] n=s.get [] n)(x:s.aL<=s'.aL):qQ s' v xs:=by
 rcases h with h|⟨k,R,rfl,w,u,j,g,y⟩
 exact .inl h;exact .inr ⟨k,R,rfl,by rw[d k rfl];exact w,u,j,g,w_⟩
def qQ.lt(h:qQ s v xs):∀n,gl v=X n->n<s.aL:=by
 intro n d;rcases h with⟨rfl,_⟩|⟨k,R,rfl,_,_,_,_,h⟩
 cases d;cases d;exact h
def qQ.len(h:qQ s v xs)(mk:aK)(s':St):fZ ae mk 274 v s'=X (ak (J xs)):=by
 rcases h with⟨rfl,rfl⟩|⟨k,R,rfl,_⟩
 exact vQ.2.2.2.2.1 _ _;exact G6 _ _ _ _ _ _ _
variable{i:Nat}{b:cQ}
def qQ.at(h:qQ s v xs)(hi:xs[i]?=X b):∃n o,(∀lc,fR ae lc 274 v (ak i)=X (.ptr n o))/\zJ ae 279 o (s.get [] n)=X (cJ b):=by
 have d:i<J xs:=(gn.1 hi).1;rcases h with⟨rfl,rfl⟩|⟨k,R,rfl,w,u,x,_⟩
 cases hi;have j:R[i]?=X b:=by rw[<-u,we,iP d]at hi;exact hi
 refine⟨k,0+i*9,λlc=>?_,by rw[dP];exact J8 w j⟩;have g:bC i (J xs)=O:=bH d;rw[vQ.2.2.2.1];simp only[ce,mV,aH,g,cj]
structure nm (s:St) (m:Nat) (its act:Ni) (out:VB) (av ov:aa):Prop where
 it:s.get [] m=some (.cells (au (its.map cJ)))
 mlt:m<s.aL
 act:qQ s av act
 out:gI 3 s ov (out.map gB)
 d1:gl av≠some m
 d2:gl ov≠some m
 d3:∀n,gl av=some n->gl ov≠some n
 mw:s.gE<=s.aL
variable{out:VB}{act its:Ni}{av ov:aa}
def nm.app(h:nm s m its act out av ov)(j:J out<1000000)(x:Mt):∃g d,cL ae [] 210 ov (.list 3 [gB x] .Al) O s=X (d,g)/\nm g m its act (out++[x]) av d/\(∀n,n<s.aL->gl ov≠X n->g.get [] n=s.get [] n)/\g.aL=s.aL+1/\gl d=X s.aL/\d.gt=O:=by
 let⟨g,h1,h2,h3,h4,h5,h6⟩:=CJ (t:=210) Ey.1 rfl d_ (gB x) (λy w=>by obtain⟨a,_,rfl⟩:=cC.1 w;rfl) (by rw[bj];exact j) h.mw h.out
 refine⟨g,_,h1,⟨(h6 m h.mlt h.d2).trans h.it,by have:=h.mlt;omega,h.act.mono (λn u=>h6 n (h.act.lt n u) (h.d3 n u)) w_,by rw[db];exact h2,h.d1,λe=>?_,λn u e=>?_,h5⟩,h6,h3,rfl,rfl⟩;injection e with e
 have:=h.mlt;omega;injection e with e
 have:=h.act.lt n u;omega
def qv(s:bG):Bool:=bU s.1&&bU s.2
variable{a:cQ}
def al8(h:(bV (qp a.2) (qf b.2)&&bV (qp b.2) (qf a.2))=I):fM a b=Z:=by
 refine WO λd=>?_
 let⟨h1,h2⟩:=d.2
 have j:bV (qp a.2) (qf b.2)=O:=dQ h1;have g:bV (qp b.2) (qf a.2)=O:=dQ h2;rw[j,g]at h;cases h
def ar1(Y:Q.spec 187=X A5)(a7:Q.spec 119=X kH){nb n52 n51:Nat}(na:qv a.2=O)(b6:∀x∈act,qv x.2=O)(d7:J act<=1000)(e1:gl av≠X nb)(r:VB)(hr:J r<=1000000)(hx:∀e lc s ov,ac e 4=.arr 9 m 0 (J its) (J its)->ac e 50=.arr 9 m 0 (J its) (J its)->ac e 51=ak n51->ac e 52=ak n52->ac e 8=av->ac e 10=.ptr nb 0->ac e 7=ov->nm s m its act r av ov->s.get [] nb=X (.cells (ja a))->nb<s.aL->gl ov≠X nb->K (.exit 4) ⟨e,102,lc⟩ s):
 ∀(rest h:Ni)(out:VB)(ov:aa)(e:aw)(lc:Ag.Loc)(s:St),act=h++rest->r=out++rest.filterMap (fM a)->nm s m its act out av ov->s.get [] nb=X (.cells (ja a))->nb<s.aL->gl ov≠X nb->
  ac e 4=.arr 9 m 0 (J its) (J its)->ac e 50=.arr 9 m 0 (J its) (J its)->ac e 51=ak n51->ac e 52=ak n52->ac e 8=av->ac e 10=.ptr nb 0->ac e 7=ov->
  ac e 59=av->ac e 60=ak (J act)->ac e 61=ak (J h)->W Q 118 (.loop Dx) ⟨e,102,lc⟩ s K:=by
 intro rest
 induction rest with
 |nil=>
  intro h out ov e lc s h1 z a8 hb B A h4 U H G h8 g h7 u d F;have c0:=cz h1;have b8:r=out:=by rw[z];simp
  refine aF ?_;simp only[go_sem,seval,Dx,d,F,c0,bJ];rw[b8]at hx;exact hx _ _ _ ov (by simp only[sN,seval,h4]) (by simp only[sN,seval,U]) (by simp only[sN,seval,H]) (by simp only[sN,seval,G]) (by simp only[sN,seval,h8]) (by simp only[sN,seval,g]) (by simp only[sN,seval,h7]) a8 hb B A
 |cons b rest ih=>
  intro h out ov e lc s h1 z a8 hb B A h4 U H G h8 g h7 u d F
  let⟨hlt,hat⟩:=cH h1
  let⟨n,o,hia,hld⟩:=a8.act.at hat
  have b1:=cm (n:=J h) w_;have e0:=a8.act.gt;have a9:qv b.2=O:=b6 b (by rw[h1];simp);simp only[qv,bh]at na a9;have q1:A5 [.agg [ah (qp a.2),ah (qf a.2)],.agg [ah (qp b.2),ah (qf b.2)]]=X (.bool (bV (qp a.2) (qf b.2)&&bV (qp b.2) (qf a.2))):=rfl;have q2:=Se na.1 na.2 a9.1 a9.2;simp only[cd,bD]at q2;simp only[cJ,ja]at hld hb;have next:∀(w:VB)(j:aa)(y:aw)(b0:Ag.Loc)(s':St),r=w++rest.filterMap (fM a)->nm s' m its act w av j->s'.get [] nb=X (.cells (ja a))->nb<s'.aL->gl j≠X nb->
   ac y 4=.arr 9 m 0 (J its) (J its)->ac y 50=.arr 9 m 0 (J its) (J its)->ac y 51=ak n51->ac y 52=ak n52->ac y 8=av->ac y 10=.ptr nb 0->ac y 7=j->
   ac y 59=av->ac y 60=ak (J act)->ac y 61=ah ((J h+1:Nat))->W Q 118 (.loop Dx) ⟨y,102,b0⟩ s' K:=λw j y b0 s' c1 c2 c3 c4 c5 c6 c7 c8 c9 d6 d5 d4 d2 d1 d0=>
    ih (h++[b]) w j y b0 s' (by rw[h1];simp) c1 c2 c3 c4 c5 c6 c7 c8 c9 d6 d5 d4 d2 d1 (by rw[d0,bK];rfl)
  refine aF ?_;cases hy:(bV (qp a.2) (qf b.2)&&bV (qp b.2) (qf a.2))with
  |false=>
   rw[hy]at q1;have hf:fM a b=Z:=al8 hy;simp only[go_sem,seval,Dx,g,u,d,F,hlt,hia,hld,hb,b1,Y,q1];refine next out ov _ _ _ (by rw[z,yu,hf]) a8 hb B A ?_ ?_ ?_ ?_ ?_ ?_ ?_ ?_ ?_ ?_<;>simp only[sN,seval,h4,U,H,G,h8,g,h7,u,d]
  |true=>
   rw[hy]at q1;cases hk:aj (kS a.2 b.2) 0 with
   |true=>
    have hf:fM a b=Z:=by unfold fM;rw[hk];rfl
    simp only[go_sem,seval,Dx,g,u,d,F,hlt,hia,hld,hb,b1,Y,a7,q1,q2,hk];refine next out ov _ _ _ (by rw[z,yu,hf]) a8 hb B A ?_ ?_ ?_ ?_ ?_ ?_ ?_ ?_ ?_ ?_<;>simp only[sN,seval,h4,U,H,G,h8,g,h7,u,d]
   |false=>
    have hf:fM a b=X (min a.1 b.1,max a.1 b.1,kS a.2 b.2):=by unfold fM;rw[hk];rfl
    have a0:r=(out++[(min a.1 b.1,max a.1 b.1,kS a.2 b.2)])++rest.filterMap (fM a):=by rw[z,yu,hf];simp
    have ho:J out<1000000:=by
     have:J out+1<=J r:=by rw[a0,bK,bK];simp
     omega
    let⟨s1,j,a1,a2,a3,a4,a5,a6⟩:=a8.app ho (min a.1 b.1,max a.1 b.1,kS a.2 b.2)
    simp only[gB]at a1;have ko:=a8.out.gt;simp only[go_sem,seval,Dx,h7,g,u,d,F,hlt,hia,hld,hb,ko,b1,Y,a7,q1,q2,hk,wP,uM,a1,sB];refine next _ j _ _ _ a0 a2 ((a3 nb B A).trans hb) w_ (λe=>by rw[a5]at e;injection e with e;omega) ?_ ?_ ?_ ?_ ?_ ?_ ?_ ?_ ?_ ?_
    all_goals simp only[sN,seval,h4,U,H,G,h8,g,h7,u,d]
def nm.mono(h:nm s m its act out av ov)(g:∀n,n<s.aL->s'.get [] n=s.get [] n)(d:s.aL<=s'.aL)(j:s'.gE<=s'.aL):nm s' m its act out av ov:=
 ⟨(g m h.mlt).trans h.it,by have:=h.mlt;omega,h.act.mono (λn d=>g n (h.act.lt n d)) d,h.out.mono (λn d=>g n (h.out.lt n d)) d,h.d1,h.d2,h.d3,j⟩
def nm.appA(h:nm s m its act out av ov)(a0:J act<1000)(a:cQ):∃Y w,cL ae [] 274 av (.list 9 [cJ a] .Al) O s=X (w,Y)/\nm Y m its (act++[a]) out w ov/\w.gt=O:=by
 have y:eE (J act+1) 72=O:=tY w_ d_;have u:=h.mlt;have g:(act++[a]).length=J act+1:=by simp
 rcases h.act with⟨rfl,rfl⟩|⟨k,R,rfl,h1,h2,h3,h4,h5⟩
 refine⟨s.new (.cells (au [cJ a])),.arr 9 s.aL 0 1 1,?_,⟨?_,IG u,.inr ⟨s.aL,[a],rfl,?_,rfl,aD _,by simp,gN _⟩,h.out.mono (λn d=>?_) (io _),λe=>?_,h.d2,λn d e=>?_,cr h.mw⟩,rfl⟩;have y:eE 1 72=O:=y;simp only[ce,cL,vQ,aH,cR,fk,iq,bT,bn,dP,y];rw[eA,bN.2 (by omega:m≠s.aL)];exact h.it;rw[eA,bS];rfl
 have:=h.out.lt n d;rw[eA,bN.2 (by omega:n≠s.aL)];rfl;injection e with e;omega
 injection d with d
 have:=h.out.lt n e;omega;have F:(au (R.map cJ)).length=J R*9:=by rw[nH xi];simp
 have B:au [cJ a]=(cJ a).cells:=by show(cJ a).cells++au []=_;simp[au]
 have A:m≠k:=λe=>h.d1 (by rw[e];rfl);by_cases hfull:J act=J R;have U:R=act:=by rw[<-h2,hfull,IC]
 subst U;refine⟨(s.put k Z).new (.cells (au (R.map cJ++[cJ a]))),.arr 9 s.aL 0 (J R+1) (J R+1),?_,⟨?_,IG u,.inr ⟨s.aL,R++[a],by rw[g],?_,by rw[IC],aD _,by rw[g];omega,gN _⟩,h.out.mono (λn d=>?_) (io _),λe=>?_,h.d2,λn d e=>?_,cr (cG s k Z h.mw)⟩,rfl⟩;simp only[ce,cL,vQ,aH,cR,fk,h1,bT,bn,dP,y,F,cj,kz,B,mQ];rw[eA,kr,bN.2 (by omega:m≠s.aL),cF,aN,bN.2 A];exact h.it;rw[eA,kr,bS,db];rfl
 have:=h.out.lt n d;have j:n≠k:=λe=>h.d3 k rfl (by rw[d,e]);rw[eA,kr,bN.2 (by omega:n≠s.aL),cF,aN,bN.2 j];rfl;injection e with e;omega
 injection d with d
 have:=h.out.lt n e;omega;have z:J act<J R:=w_
 have H:(J act*9==J R*9)=I:=bN.2 w_;have G:aP (J act+1) (J R)=O:=bH w_;have hw:=xV (k:=9) xi (rows:=R.map cJ) (i:=J act) (by rw[bj];exact z) (x:=cJ a) rfl;refine⟨s.put k (X (.cells (au ((R.set (J act) a).map cJ)))),.arr 9 k 0 (J act+1) (J R),?_,⟨?_,u,.inr ⟨k,R.set (J act) a,by rw[g,nN],?_,?_,by rw[g,nN];omega,by rw[nN];exact h4,h5⟩,h.out.mono (λn d=>?_) (aD _),h.d1,h.d2,h.d3,cG s k _ h.mw⟩,rfl⟩;simp only[ce,cL,vQ,aH,cR,fk,h1,bT,bn,dP,y,F,cj,H,cF,G,B,hw,List.map_set];rw[aN,bN.2 A];exact h.it;rw[aN,bS];rfl;rw[g,List.take_succ_eq_append_getElem (by rw[nN];exact z),List.take_set_of_le (aD _),List.getElem_set_self,h2];have j:n≠k:=λe=>h.d3 k rfl (by rw[d,e]);rw[aN,bN.2 j];rfl
def afw{α β:Type}{keep:α->α->Bool}{G:α->α->Option β}:∀(l act:List α)(out:List β),J out<=(x7 keep G l act out).length
 |[],_,out=>aD _
 |a::l,act,out=>by
  rw[x7];refine dj ?_ (afw l _ _);rw[bK];omega
def alf{g:aa}(j:g.gt=O)(s:St):ai Q 185 [.uP,g] s .uP s:=by
 have d:ai Q 244 [.uP,g] s (bD (-1)) s:=by
  refine ai.ofNZ aak (aM ?_);simp only[go_sem,dX,eG,cI,eO,hG,qO,vQ];refine aF ?_;have u:aQ 0 ((0:Nat):Int)=I:=rfl;simp only[go_sem,dX,eG,cI,eO,reduceCtorEq,Kt,u,bD]
 refine ai.ofNZ ZN (aM ?_);simp only[go_sem,dX,eG,cI,eO,hG,qO,j];refine aV.of d d_ ?_;have h:aj (-1) (-1)=O:=rfl;simp only[go_sem,dX,eG,cI,eO,reduceCtorEq,bD,h]
def ald{nb:Nat}(d:nm s m its act out av ov)(u:s.get [] nb=X (.cells (ja a)))(w:gl av≠X nb):
 ∃v s',ai Q 185 [av,.func (.func 186) [] [.ptr nb 0]] s v s'/\(nm s' m its (act.filter λx=> !iK a x) out v ov/\s'.get [] nb=X (.cells (ja a))/\s'.aL=s.aL/\gl v=gl av/\v.gt=O):=by
 rcases d.act with⟨rfl,rfl⟩|⟨k,R,rfl,h1,Y,A,U,H⟩
 exact⟨_,_,alf rfl s,d,u,rfl,rfl,rfl⟩;have h:nb≠k:=λe=>w (by rw[e];rfl);obtain⟨v,s',z,rfl,g,R',j,y,B⟩:=alg (Q:=Q) (lcap:=J R) h w_ A A h1 u d.mw;rw[Y]at z y;have G:=jv (λx=> !iK a x) act;refine⟨_,s',z,⟨?_,by rw[g.aL];exact d.mlt,.inr ⟨k,R',by rw[j],B,y,by rw[j];omega,by rw[j];exact U,by rw[g.aL];exact H⟩,d.out.mono (λn F=>g.old n λe=>d.d3 k rfl (by rw[F,e])) (by rw[g.aL];exact aD _),d.d1,d.d2,d.d3,g.mw⟩,(g.old nb h).trans u,g.aL,rfl,rfl⟩;exact(g.old m λe=>d.d1 (by rw[e];rfl)).trans d.it
def axA(a0:Q.spec 187=X A5)(a4:Q.spec 119=X kH)(hn:∀x∈its,qv x.2=O)(hl:J its<=1000){F:VB}(hF:J F<=1000000)(h:∀e lc s ov,ac e 7=ov->gI 3 s ov (F.map gB)->s.gE<=s.aL->K (.exit 2) ⟨e,102,lc⟩ s):
 ∀(rest d act:Ni)(out:VB)(av ov:aa)(e:aw)(lc:Ag.Loc)(s:St),its=d++rest->F=x7 (λa x=> !iK a x) fM rest act out->(∀x∈act,x∈its)->J act<=J d->nm s m its act out av ov->
  ac e 4=.arr 9 m 0 (J its) (J its)->ac e 50=.arr 9 m 0 (J its) (J its)->ac e 51=ak (J its)->ac e 52=ak (J d)->ac e 8=av->ac e 7=ov->W Q 118 (.loop PY) ⟨e,102,lc⟩ s K:=by
 intro rest
 induction rest with
 |nil=>
  intro d act out av ov e lc s h1 A ha b8 g h4 y u j h8 h7;have b0:=cz h1;refine aF ?_;simp only[go_sem,dX,eG,eO,PY,u,j,b0,bJ];have A:F=out:=A;refine h _ _ _ ov (by simp only[sN,cI,h7]) ?_ g.mw;rw[A];exact g.out
 |cons a rest ih=>
  intro d act out av ov e lc s h1 A ha b8 g h4 y u j h8 h7
  let⟨hlt,hat⟩:=cH h1
  have H:=J8 g.it hat;have a6:=cm (n:=J d) w_;have b1:=g.act.gt;have na:qv a.2=O:=hn a (co hat);have c8:=g.mlt
  let⟨z,hz,zn,zm,zo,zg⟩:=ow (.cells [ah 0,ah 0,ah 0,ah 0,ah 0,ah 0,ah 0,ah 0,ah 0]) g.mw
  have a8:∀lc,EL lc z s.aL 0 (cJ a) (z.get [] s.aL)=X (lc,z.put s.aL (X (.cells (ja a)))):=λlc=>by rw[zg];rfl
  have d1:nm (z.put s.aL (X (.cells (ja a)))) m its act out av ov:=g.mono (λn hn=>by rw[aN,bN.2 (by omega:n≠s.aL)];exact zo n hn) (by show s.aL<=z.aL;omega) (cG z _ _ zm);have Jb:(z.put s.aL (X (.cells (ja a)))).get [] s.aL=X (.cells (ja a)):=by rw[aN,bS];rfl
  have Jn:(z.put s.aL (X (.cells (ja a)))).aL=s.aL+1:=zn;have Y:gl av≠X s.aL:=λe=>by have:=g.act.lt _ e;omega
  have a9:gl ov≠X s.aL:=λe=>by have:=g.out.lt _ e;omega
  generalize hz1:z.put s.aL (X (.cells (ja a)))=z1 at*;have w:=a8;simp only[cJ,ja]at H w;refine aF ?_;simp only[go_sem,dX,eG,cI,eO,hG,PY,y,u,j,h8,hlt,vQ,H,hz,w,dl,b1];refine aV.ex (ald d1 Jb Y) d_ ?_;rintro v s2 ⟨I2,b6,c7,hrow,a7⟩;have G:=I2.act.len;simp only[go_sem,dX,eG,cI,eO,hG,a7,G];have c9:(act.filter λx=> !iK a x).length<=J act:=jv _ _;have d0:(out++(act.filter λx=> !iK a x).filterMap (fM a)).length<=J F:=by rw[A];exact afw _ _ _
  refine ar1 a0 a4 (a:=a) (m:=m) (nb:=s.aL) (n52:=J d) (n51:=J its) (its:=its) (act:=act.filter λx=> !iK a x) (av:=v) na (λx h=>hn x (ha x (AK.1 h).1)) w_ (by rw[hrow];exact Y) (out++(act.filter λx=> !iK a x).filterMap (fM a)) w_ ?_ (act.filter λx=> !iK a x) [] out ov _ _ s2 rfl rfl I2 b6 w_ a9 ?_ ?_ ?_ ?_ ?_ ?_ ?_ ?_ ?_ ?_
  ·intro e2 c6 s3 a5 g4 c2 c1 c0 g8 c3 g7 I3 U c5 c4
   let⟨s4,av4,a1,a2,a3⟩:=I3.appA w_ a
   have B:=I3.act.gt;simp only[ja]at U;simp only[cJ,ja]at a1;simp only[go_sem,dX,eG,qL,kV,cI,eO,hG,AM,qO,g8,c3,c0,U,a6,B,a1,sB];refine ih (d++[a]) ((act.filter λx=> !iK a x)++[a]) _ av4 a5 _ _ _ (by rw[h1];simp) A ?_ ?_ a2 ?_ ?_ ?_ ?_ ?_ ?_;intro x h;rcases fA.1 h with h|h
   exact ha x (AK.1 h).1;rw[kg.1 h];exact co hat;rw[bK,bK];simp only[bT,bn];omega
   all_goals simp only[sN,cI,hG,g4,c2,c1,g7,sA]
  all_goals simp only[sN,cI,h4,y,u,j,h7,bn]
  all_goals rfl
def Oz{k:Nat}:∀{l:az},(∀v∈l,J v.cells=k/\v=.agg v.cells)->chunk O k (J l) (au l)=X l
 |[],_=>rfl
 |v::l,h=>by
  let⟨h1,h2⟩:=h v gG
  have d:=Oz (l:=l) λx g=>h x (iE _ g);have u:cut (v.cells++au l) 0 k=X v.cells:=by
   simp only[cut,kz,fa];rw[List.take_append_of_le_length w_,nh w_,h1];simp
  have j:(v.cells++au l).drop k=au l:=by rw[<-h1,List.drop_left]
  show(bif O then(cut (v.cells++au l) 0 k).bind λe=>(chunk O k (J l) ((v.cells++au l).drop k)).bind λr=>X (.agg e::r)else _)=_;rw[u,j,d];show X (aa.agg v.cells::l)=_;rw[<-h2]
def anW{xs:az}(j:∀v∈xs,J v.cells=sz/\v=.agg v.cells)(h1:aB sz 1=I){k:Nat}(w:∀v∈au xs,bW s.heap k v=X v)(h:gI sz s v xs):bW s.heap (k+1) v=X (dS sz xs):=by
 rcases h with⟨rfl,rfl⟩|⟨d,n,rfl,g,_⟩
 rfl;have g:s.heap.get n=X (.cells (au xs)):=g;have y:cut (au xs) 0 (J xs*sz)=X (au xs):=by
  have:=nH (k:=sz) λv u=>(j v u).1;simp only[cut,kz,fa];rw[nh w_,this];simp
 have e:dS sz xs=.list sz xs .no:=by
  rcases xs with _|⟨x,xs⟩
  exact absurd rfl d;rfl
 show(match s.heap.get n with
  |some (.cells cs)=>(cut cs 0 (J xs*sz)).bind λc=>(cK (bW s.heap k) c).bind λz=>(chunk (!aB sz 1) sz (J xs) z).bind λxs=>X (aa.list sz xs .no)
  |_=>Z)=_
 rw[g,e];simp only[y,aH,o8 w,h1,Bool.not_false,Oz j]
def CN:az->Option wj
 |[]=>X []
 |v::l=>(CM v).bind λs=>(CN l).bind λr=>X (s::r)
def I9:aa->Option wj
 |.uP=>X []
 |.list 4 xs _=>CN xs
 |_=>Z
def Vm:∀{xs:az}{l:wj},CN xs=X l->xs=l.map cd
 |[],l,h=>by injection h with h;subst h;rfl
 |v::xs,l,h=>by
  simp only[CN,an,aR]at h;obtain⟨s,g,r,d,rfl⟩:=h;rw[Ob g,Vm d];rfl
def Vn:∀l:wj,CN (l.map cd)=X l
 |[]=>rfl
 |s::l=>by simp only[cU,CN,Vo,aH,Vn l]
variable{l:wj}
def ahS(h:I9 v=X l):aq 4 cd v l/\Ag.d8 v=O/\aq 4 cd (dh v) l:=by
 unfold I9 at h;split at h;cases h;exact⟨.inl R_,rfl,.inl R_⟩;rename_i xs r
 have:=Vm h;subst this;have d:aq 4 cd (.list 4 (l.map cd) r) l:=.inr ⟨r,rfl⟩;exact⟨d,qh aDv d⟩;cases h
def ahT(h:aq 4 cd v l):I9 v=X l:=by
 rcases h with⟨rfl,rfl⟩|⟨r,rfl⟩
 rfl;exact Vn l
def Hh(l:VB):aa:=dS 3 (l.map gB)
def A3:Sp
 |[u]=>(I9 u).bind λl=>bif decide (J l<=1000)&&l.all qv then X (.tup [Hh (gw l),ah 0])else Z
 |_=>Z
def ahF(h:aq 4 cd v l)(g:J l<=1000)(d:∀x∈l,qv x=O):A3 [v]=X (.tup [Hh (gw l),ah 0]):=by
 simp only[fq,A3,ahT h,g,dT,jf,fK.2 d]
def qT:de:=[(182,BI),(187,A5),(119,kH)]
def ag8:eh qT:=.cons ay6 (.cons aiI (.cons Sf .nil))
noncomputable def qU:nX:=[(183,TI),(188,TJ)]
def ahc:qV qU:=.cons aD8 (.cons aEc .nil)
def axX(h:Nat)(u:h<=1000)(s:St):mo ae 274 (ak h) (ak h) O s=X (.arr 9 s.aL 0 h h,s.new (.cells (au ((fB h Cm).map cJ)))):=by
 have j:aP h h=O:=bH (aD _);have g:aP (h*72) 1099511627776=O:=bH w_;have d:aP h 1099511627776=O:=bH w_;simp only[fb,mo,vQ,mV,j,g,d,qE,jQ,cF,lZ,agk]
def asl(h:(cJ a).cells=(cJ b).cells):a=b:=by
 have d:yW (cJ a)=yW (cJ b):=by
  have:cJ a=cJ b:=by show aa.agg (cJ a).cells=aa.agg (cJ b).cells;rw[h]
  rw[this]
 rw[N8,N8]at d;exact sI d
def ax1{a b:Mt}(h:(gB a).cells=(gB b).cells):a=b:=by
 have d:A4 (gB a)=A4 (gB b):=by
  have:gB a=gB b:=by show aa.agg (gB a).cells=aa.agg (gB b).cells;rw[h]
  rw[this]
 rw[N9,N9]at d;exact sI d
def ahJ(ch:cE)(hs:aq 4 cd sv segs)(d:J segs<=1000)(hn:∀x∈segs,qv x=O):∃v s',ai (QW qT qU ch) 118 [sv] s0 v s'/\eY s'.heap v (.tup [Hh (gw segs),ah 0]):=by
 have c2:Std (QW qT qU ch):=inferInstance;have a1:(QW qT qU ch).spec 182=X BI:=rfl;have u:(QW qT qU ch).spec 187=X A5:=rfl;have a2:(QW qT qU ch).spec 119=X kH:=rfl;have w:(QW qT qU ch).spec 183=Z:=rfl;have g:(QW qT qU ch).spec 188=Z:=rfl;have B:(QW qT qU ch).specW 183=X TI:=rfl;have j:(QW qT qU ch).specW 188=X TJ:=rfl;have b6:No (QW qT qU ch) 118:=R_;generalize QW qT qU ch=Q at*;have a8:=hs.lenS Aj;have b0:aQ 20000 ((J segs:Nat):Int)=I:=by simp only[aQ,decide_eq_false_iff_not];omega
 have b1:=hs.gt;have a6:=axX (J segs) d s0;have a9:=asi d;have a3:(An segs).length=J segs:=by rw[(TT segs).length_eq,xh]
 have a0:=xh segs 0;refine ai.ofNRZ asF (aM ?_);simp only[go_sem,seval,a8,b0,b1,Ma,a6];refine ash a1 hs d (m:=s0.aL) (s0:=s0.new (.cells (au ((fB (J segs) Cm).map cJ)))) ?_ segs [] _ _ _ rfl (.refl (by show s0.gE<=s0.aL+1;decide)) (by rw[eA,bS];rfl) ?_ ?_ ?_ ?_
 ·intro e lc s1 h4 hb hm
  simp only[go_sem,seval,h4,w];have hg:(bif aB (au ((jU 0 segs).map cJ)).length (J segs*9)then xY cJ zh (0,((0,0),(0,0))) Hs (au ((jU 0 segs).map cJ))else Z)=X (au ((An segs).map cJ)):=by
   have h1:(au ((jU 0 segs).map cJ)).length=J segs*9:=by rw[nH xi,bj,a0]
   rw[h1,fa,bS,cT,xY,Jx (k:=9) (λ_=>rfl) d_ (λa b=>asl)];simp only[fq,a9];rfl
  refine aV.of (ai.specWp (n:=s0.aL) (cs':=au ((An segs).map cJ)) w (Std.H _) B rfl hm hg) d_ ?_;have a5:=cG s1 s0.aL (X (.cells (au ((An segs).map cJ)))) hb.mw;have c0:s1.aL=s0.aL+1:=hb.aL;simp only[go_sem,seval,h4,G6];refine axA u a2 (m:=s0.aL) (its:=An segs) (F:=th segs) ?_ w_ ?_ ?_ (An segs) [] [] [] .uP .uP _ _ _ rfl rfl (λ_ h=>by cases h) (aD _) ⟨by rw[aN,bS];rfl,by show s0.aL<s1.aL;omega,.inl R_,.inl R_,λe=>(by cases e),λe=>(by cases e),λ_ h=>(by cases h),a5⟩ ?_ ?_ ?_ ?_ ?_ ?_;intro x hx;have hx:=(TT segs).mem_iff.1 hx;have:∀(l:wj)(i:Nat),x∈jU i l->x.2∈l:=by
   intro l
   induction l with
   |nil=>intro i h;cases h
   |cons y l ih=>
    intro i h;rcases dG.1 h with rfl|h
    exact gG;exact iE _ (ih _ h)
  exact hn _ (this _ _ hx);rw[(Di segs).length_eq]
  have:=HF (F:=fM) (jU 0 segs);rw[a0]at this;have:J segs*J segs<=1000*1000:=nP d d;unfold gw;omega;intro u b8 s2 ov h7 hR c1;have a4:=anN d;have Y:=hR.gt;have z:∃G,ai Q 188 [ov,.func (.func 189) [] []] s2 (.tup []) G/\gI 3 G ov ((gw segs).map gB):=by
   rcases hR with⟨rfl,h0⟩|⟨h0,k,rfl,hk,a7⟩
   refine⟨s2,ai.specW0 g (Std.H _) j rfl,.inl ⟨rfl,?_⟩⟩;have h0:=pE.1 h0
   have:=Di segs;rw[h0]at this;rw[<-List.Perm.nil_eq this];rfl;have A:(gw segs).length=(th segs).length:=(Di segs).length_eq.symm;have hg:(bif aB (au ((th segs).map gB)).length (((th segs).map gB).length*3)then xY gB td (0,0,0) Ht (au ((th segs).map gB))else Z)=X (au ((gw segs).map gB)):=by
    have h1:(au ((th segs).map gB)).length=((th segs).map gB).length*3:=nH λv U=>by
     obtain⟨a,_,rfl⟩:=cC.1 U;rfl
    rw[h1,fa,bS,cT,xY,Jx (k:=3) (λ_=>rfl) d_ (λa b=>ax1)];simp only[fq,a4];exact congrArg (λx=>X (au (x.map gB))) (anO segs)
   refine⟨_,ai.specWp (n:=k) (cs':=au ((gw segs).map gB)) g (Std.H _) j rfl hk hg,.inr ⟨?_,k,?_,?_,a7⟩⟩;intro hc;have hc:=pE.1 hc;rw[hc]at A;exact h0 (by rw[List.eq_nil_of_length_eq_zero A.symm];rfl);rw[bj,bj,A];rw[aN,bS];rfl
  let⟨G,hr3,hR3⟩:=z
  simp only[go_sem,seval,h7,Y,g];refine aV.of hr3 d_ ?_;simp only[go_sem,seval,h7,Y];refine⟨_,rfl,3,?_⟩;have hf:=anW (sz:=3) (k:=1) (λv U=>by obtain⟨a,_,rfl⟩:=cC.1 U;exact R_) rfl (λv U=>?_) hR3;show(cK (bW G.heap 2) [ov,ah 0]).bind (λr=>X (aa.tup r))=_;simp only[cK,hf,aH];rfl;have:∀l:VB,v∈au (l.map gB)->bW G.heap 1 v=X v:=by
   intro l
   induction l with
   |nil=>intro h;cases h
   |cons a l ih=>
    intro h;rw[cU,au,fA]at h;rcases h with h|h
    simp only[gB,lZ,dG,pF,or_false]at h;rcases h with rfl|rfl|rfl<;>rfl
    exact ih h
  exact this _ U
  all_goals simp only[sN,seval,h4,a3,bn]
  all_goals rfl
 all_goals simp only[sN,seval,bn]
 all_goals rfl
def ahG:da ae 118 A3:=by
 intro g x d G y w xs j u;unfold A3 at d;split at d;simp only[an]at d
 let⟨l,h1,h⟩:=d
 let⟨h2,h⟩:=bf h
 simp only[bh,dE]at h2;have h:=sI h;subst h
 let⟨_,h4,h5⟩:=ahS h1
 refine jd ag8 ahc (by simp only[dW,h4,cj]) (λz=>?_) G y w xs j u;exact ahJ z h5 h2.1 (fK.1 h2.2);cases d
def F7{l:cf}(j:aq 1 ax sv l)(d:J l<=1000000){g:FuncId}{cap:az}(h:Q.spec g=Z){p:ag->Bool}(u:∀x∈l,ai Q g (.str x::cap) s (.bool (p x)) s):ai Q 108 [sv,.func (.func g) [] cap] s (.bool (l.any p)) s:=
 F5 VW Yl bL j (ED d) (λx _=>⟨vK _ 0,rfl⟩) h u
def fY:wF ae 9 aa.str where
 eq a b:=by
  rw[JC];by_cases h:a=b;subst h;simp;simp[h]
 same a:=by simp[pd,se]
 gt _:=rfl
def iA:Nat->ba->dd
 |_,[]=>[]
 |i,o::l=>(o.id,ah ((i:Nat):Int))::iA (i+1) l
def Yi:∀(l:ba)(i:Nat)(o:Obj),iA i (l++[o])=iA i l++[(o.id,ah ((i+J l:Nat):Int))]
 |[],_,_=>rfl
 |x::l,i,o=>by
  rw[uj,iA,Yi l,iA,bT,show i+1+J l=i+(J l+1)from w_];rfl
def o9(k:ag):ba->pb
 |[]=>Z
 |o::l=>bif k==o.id then X 0 else(o9 k l).map (· +1)
def PE(k:ag):∀l:ba,ct k l=(o9 k l).bind λi=>l[i]?
 |[]=>rfl
 |o::l=>by
  simp only[ct,o9];cases h:k==o.id;simp only[cF,PE k l];cases o9 k l<;>rfl;rfl
def Ha(k:ag):∀(l:ba)(i:Nat),bX k (iA i l)=(o9 k l).map λj=>ah ((i+j:Nat):Int)
 |[],_=>rfl
 |o::l,i=>by
  simp only[iA,bX,o9];by_cases h:k=o.id;subst h;simp;have:(k==o.id)=I:=by simpa using h
  rw[iN h,this,Ha k l];simp only[cF];rcases o9 k l with _|j
  rfl;simp only[kL];rw[show i+1+j=i+(j+1)from w_]
def Yc{k:ag}:∀{l:ba},k ∉ l.map Obj.id->o9 k l=Z
 |[],_=>rfl
 |o::l,h=>by
  have j:(k==o.id)=I:=by
   simp only[cU,dG,not_or]at h;simpa using h.1
  have d:=Yc (k:=k) (l:=l) λg=>h (by rw[cU];exact iE _ g);simp only[o9,j,cF,d,nQ]
def rJ(k:ag):jV ae 72 (.str k)=X (9,3):=k_
variable{l:ba}
def aza(ho:aq 6 Obj.val ov l)(hl:J l<=1000000)(x:(l.map Obj.id).Nodup){s0:St}{x2:az}(hx:∀e lc s,ac e 4=.uV 4 1 0->ac e 2=.uV 2 1 0->lc.gen 2=1->lc.get 2 1=X x2->lc.get 4 1=X [ov,.map m]->dz m s0 s->bg aa.str s m (iA 0 l)->K (.exit 0) ⟨e,29,lc⟩ s):
 ∀(rest d:ba)(e:aw)(lc:Ag.Loc)(s:St),l=d++rest->dz m s0 s->bg aa.str s m (iA 0 d)->
  ac e 4=.uV 4 1 0->ac e 2=.uV 2 1 0->lc.gen 2=1->lc.get 2 1=X x2->lc.gen 4=1->lc.get 4 1=X [ov,.map m]->ac e 15=ov->ac e 16=ak (J l)->ac e 17=ak (J d)->W Q 61 (.loop Ru) ⟨e,29,lc⟩ s K:=by
 intro rest
 induction rest with
 |nil=>
  intro d e lc s u hb U A h2 g2 B g4 z j g h;have Y:=cz u;have G:d=l:=by rw[u];simp
  refine aF ?_;simp only[go_sem,seval,Ru,g,h,Y,bJ];exact hx _ _ _ (by simp only[sN,seval,A]) (by simp only[sN,seval,h2]) g2 B z hb (by rw[<-G];exact U)
 |cons o rest ih=>
  intro d e lc s u hb U A h2 g2 B g4 z j g h
  let⟨hlt,hat⟩:=cH u
  have a0:=λlc k=>ho.at dY.2.2.1 hat lc k;have F:=cm (n:=J d) w_;have H:bX o.id (iA 0 d)=Z:=by
   rw[Ha,Yc,nQ];intro hc;rw[u,db]at x;exact(List.nodup_append.1 x).2.2 _ hc o.id (by simp) rfl
  have w:=lN fY rJ U o.id (ah ((J d:Nat):Int));have y:dt o.id (ah ((J d:Nat):Int)) (iA 0 d)=iA 0 (d++[o]):=by
   rw[rE H,Yi,dP]
  rw[y]at w;refine aF ?_;simp only[go_sem,seval,Ru,A,j,g,h,hlt,a0,F,g4,z,Obj.val,Obj.cells,w];refine ih (d++[o]) _ _ _ (cP u) (hb.put _) bg.put ?_ ?_ ?_ ?_ ?_ ?_ ?_ ?_ ?_<;>simp only[aaj,cI,A,h2,g2,B,g4,z,j,g,sA]
def ay0(u:Q.spec 36=X gV)(d:aq 6 Obj.val ov l)(G:∀o∈l,o.rf)(F:J l<=1000000)(g:(l.map Obj.id).Nodup)(z:bw l=O)(B:s.gE<=s.aL):
 ∃v s',ai Q 61 [.agg [ov]] s v s'/\(v=.tup [.agg [ov,.map s.aL],.bool O]/\bg aa.str s' s.aL (iA 0 l)/\dz s.aL (s.new (.map [] 0)) s'):=by
 have A:=aae;have h:=d.lenS dY;have j:=d.cs;have w:=zP d G w_;rw[z]at w;refine ai.ofNRZ avt (aM ?_);simp only[go_sem,seval,h,j,u,w,jq,sB];refine aza d F g (m:=s.aL) (s0:=s.new (.map [] 0)) (x2:=[.uP,.nilm]) ?_ l [] _ _ _ rfl (.refl (cr B)) ?_ ?_ ?_ ?_ ?_ ?_ ?_ ?_ ?_ ?_;intro e lc s1 Y h2 g2 y x H U;simp only[go_sem,seval,Y,h2,y,x];exact⟨_,rfl,rfl,U,H⟩;show(s.new _).get [] s.aL=_;rw[eA,bS];rfl
 all_goals simp only[aaj,u6,cI,bn]
 all_goals rfl
variable{q:Obj}
def adi{k:ag}(h:ct k l=X q):∃i,o9 k l=X i/\l[i]?=X q:=by
 rw[PE,an]at h;exact h
def arJ{k:ag}:∀{l:ba},o9 k l=X i->i<J l:=by
 intro l
 induction l generalizing i with
 |nil=>intro h;cases h
 |cons o l d=>
  intro h;simp only[o9]at h;cases hk:k==o.id;rw[hk]at h;simp only[cF,pH]at h;obtain⟨j,g,rfl⟩:=h
  have:=d g;simp only[bT];omega;rw[hk]at h;cases h;simp
def CH{α:Type}(p:α->Bool):∀l:List α,(!(l.any λx=> !p x))=l.all p
 |[]=>rfl
 |x::l=>by
  simp only[List.any_cons,pD,Bool.not_or,Bool.not_not,CH p l]
variable{n:Nat}
def SU(u:aq 6 Obj.val ov l)(A:bg aa.str s n (iA 0 l)){id:ag}(w:ct id l=X q):ai Q 64 [.agg [ov,.map n],.str id] s (aX (q.x,q.y)) s:=by
 let⟨i,h1,h2⟩:=adi w
 have j:=λlc k=>u.at dY.2.2.1 h2 lc k;have d:=rM fY rJ uf A id;rw[Ha,h1]at d;simp only[kL,Option.getD_some,dP]at d;have z:=u.cs;have g:∃v s',ai Q 64 [.agg [ov,.map n],.str id] s v s'/\(v=aX (q.x,q.y)/\s'=s):=by
  refine ai.ofNRZ avx (aM ?_);simp only[go_sem,seval,d,j,Obj.val,Obj.cells];exact⟨_,rfl,rfl⟩
 obtain⟨v,s',h,rfl,rfl⟩:=g;exact h
def ayf(u:aq 6 Obj.val ov l){k:Nat}(y:bg aa.str s n (iA 0 l))(w:s.get [] k=X (.cells [ov,.map n]))(id:ag):ai Q 180 [.str id,.ptr k 0] s (.bool (!dI l id)) s:=by
 have d:=nG fY rJ uf y id;have x:=u.gt;refine ai.ofNZ aty (aM ?_);rcases hq:ct id l with _|q
 have g:o9 id l=Z:=by
  rcases g:o9 id l with _|i
  rfl
  have:=arJ g;rw[PE,g,aH,dp this]at hq;cases hq
 have h:dI l id=I:=by simp only[dI,mS,hq];rfl
 rw[Ha,g]at d;simp only[nQ,ii]at d;simp only[go_sem,seval,w,d,h]
 let⟨i,h1,h2⟩:=adi hq
 have j:=λlc k=>u.at dY.2.2.1 h2 lc k;have h:dI l id=aj q.mT 1:=by simp only[dI,mS,hq]
 rw[Ha,h1]at d;simp only[kL,ii,dP]at d;simp only[go_sem,seval,w,d,h,j,Obj.val,Obj.cells]
variable{o:Obj}
def ayB(h:aq 6 Obj.val ov l)(A:bg aa.str s n (iA 0 l))(w:n<s.aL)(go:o.rf)(u:J o.gT<=1000000):
 ai Q 113 [.agg [ov,.map n],o.val] s (.bool (o.gT.all (dI l))) (s.new (.cells [ov,.map n])):=by
 have z:=h.cs;have g:bg aa.str (s.new (.cells [ov,.map n])) n (iA 0 l):=by
  show(s.new _).get [] n=_;rw[eA,bN.2 (by omega:n≠s.aL)];exact A
 have y:(s.new (.cells [ov,.map n])).get [] s.aL=X (.cells [ov,.map n]):=by rw[eA,bS];rfl
 have d:=F7 (Q:=Q) go.gT u (nJ 180) (s:=s.new (.cells [ov,.map n])) (cap:=[.ptr s.aL 0]) (p:=λx=> !dI l x) λx _=>ayf h g y x;have j:=go.all;refine ai.ofNZ asC (aM ?_);simp only[go_sem,seval,j,Obj.val,Obj.cells];refine aV.of d d_ ?_;simp only[go_sem,seval,CH]
variable{l:cf}
def Ye(F:J l<=1000000)(Y:∀(i:Nat)(y:ag),l[i]?=X y->∃a,(∀lc,fR ae lc 25 sv (ak i)=X a)/\∀lc,lC ae [] 9 a lc s=X (.str y)){x:ag}{lc:Ag.Loc}{r:Int}(H:∀e,r= -1->K (.exit 0) ⟨e,19,lc⟩ s)(U:∀e,ac e 4=ah r->K .ret ⟨e,19,lc⟩ s):
 ∀(rest d:cf)(e:aw),l=d++rest->r=fX (λy=>x==y) rest (J d)->ac e 0=sv->ac e 1=.str x->ac e 7=ak (J l)->ac e 8=ak (J d)->W Q 117 (.loop Kc) ⟨e,19,lc⟩ s K:=by
 intro rest
 induction rest with
 |nil=>
  intro d e w u z h g j;have B:=cz w;refine aF ?_;simp only[go_sem,seval,Kc,g,j,B,bJ];exact H _ u
 |cons y rest G=>
  intro d e w u z h g j
  let⟨hlt,hat⟩:=cH w
  let⟨a,hia,hld⟩:=Y _ _ hat
  have A:=cm (n:=J d) w_;refine aF ?_;cases hd:x==y with
  |true=>
   simp only[go_sem,seval,Kc,z,h,g,j,hlt,hia,hld,hd];exact U _ (by simp only[sN,seval,u,fX,hd])
  |false=>
   simp only[go_sem,seval,Kc,z,h,g,j,hlt,hia,hld,hd,A];refine G (d++[y]) _ (cP w) (by rw[u];simp only[fX,hd,cF,sA]) ?_ ?_ ?_ ?_
   all_goals simp only[sN,seval,z,h,g,sA]
def Wo(j:No Q 65)(d:J l<=1000000)(g:sv.gt=O)(h:∀u,fZ ae u 25 sv s=X (ak (J l)))(z:∀(i:Nat)(y:ag),l[i]?=X y->∃a,(∀lc,fR ae lc 25 sv (ak i)=X a)/\∀lc,lC ae [] 9 a lc s=X (.str y))(x:ag):ai Q 65 [sv,.str x] s (.bool (l.contains x)) s:=by
 have F:ai Q 117 [sv,.str x] s (bD (fX (λy=>x==y) l 0)) s:=by
  refine ai.ofNZ Y0 (aM ?_);simp only[go_sem,seval,h,g];refine Ye d z (x:=x) (r:=fX (λy=>x==y) l 0) ?_ ?_ l [] _ rfl rfl (by simp only[sG,seval, *]) (by simp only[sG,seval, *]) (by simp only[sG,seval, *]) (by simp only[sN,seval];rfl);intro e w;simp only[go_sem,seval,w];rfl;intro e A;simp only[go_sem,seval,A];rfl
 have B:l.any (λy=>x==y)=l.contains x:=by
  rw[List.contains_eq_any_beq]
 refine ai.ofNZ avy (aM ?_);simp only[go_sem,seval,g];refine aV.of F d_ ?_;simp only[go_sem,seval,bD,JT,B]
def OQ(d:No Q 65)(h:aq 1 ax sv l)(g:J l<=1000000)(x:ag)(s:St):ai Q 65 [sv,.str x] s (.bool (l.contains x)) s:=
 Wo d g h.gt (λj=>h.lenS bL j s) (λi y u=>⟨_,λlc=>h.at bL.2.2.1 u lc .i64,λlc=>by rw[R7,vK];rfl⟩) x
def Wn(d:No Q 65){off len cap:Nat}{cs:az}(w:s.get [] m=X (.cells cs))(h:J l=len)(z:∀(i:Nat)(y:ag),l[i]?=X y->cs[off+i]?=X (.str y))(g:J l<=1000000)(x:ag):ai Q 65 [.arr 1 m off len cap,.str x] s (.bool (l.contains x)) s:=by
 refine Wo d g rfl (λu=>?_) (λi y j=>⟨.ptr m (off+i*1),λlc=>?_,λlc=>?_⟩) x;rw[h];exact zI u 1 m off len cap s;have:i<len:=by rw[<-h];exact(gn.1 j).1
 have A:bC i len=O:=bH this;rw[bL.2.2.2.1];simp only[ce,mV,aH,A,cj];rw[xz,w,qm,vK,Nat.mul_one]
 have:=z i y j;rw[Cr,this]
def kQ:Sp
 |[v,.str x]=>(fH 1 jB v).bind λl=>bif decide (J l<=1000000)then X (.bool (l.contains x))else Z
 |_=>Z
def FF(h:aq 1 ax v l)(d:J l<=1000000)(x:ag):kQ [v,.str x]=X (.bool (l.contains x)):=by
 simp only[fq,kQ,oo nY h,d,dT]
def OS:da ae 65 kQ:=by
 intro g u d G z w xs j x;unfold kQ at d;split at d;simp only[an]at d
 let⟨l,h1,h⟩:=d
 let⟨h2,h⟩:=bf h
 simp only[dE]at h2;have h:=sI h;subst h;have y:=lX (λ_ _ h=>pS h) h1
 let⟨h3,h4⟩:=qh qC y
 refine jd (T:=[]) (W:=[]) .nil .nil (by simp only[dW,h3,Ag.d8,br,cj]) (λA=>?_) G z w xs j x;exact⟨_,_,OQ R_ h4 h2 _ _,⟨1,rfl⟩⟩;cases d
abbrev CK:=ag×ag
def iY(k:CK):aa:=.agg [.str k.1,.str k.2]
def WM(a b c d:ag):i9 ae 8 132 (.agg [.str a,.str b]) (.agg [.str c,.str d])=X (wQ (a,b) (c,d)):=by
 have h:i9 ae 8 132 (.agg [.str a,.str b]) (.agg [.str c,.str d])=(X (a==c)).bind λr=>bif r then(X (b==d)).bind λr=>bif r then X O else X I else X I:=k_
 rw[h];unfold wQ;cases a==c<;>cases b==d<;>rfl
def RQ:wF ae 132 iY where
 eq a b:=by
  have h:=WM a.1 a.2 b.1 b.2;have e:iY a=.agg [.str a.1,.str a.2]:=rfl;have d:iY b=.agg [.str b.1,.str b.2]:=rfl;rw[e,d,h];by_cases hab:a=b;rw[dQ hab,(VX a b).2 hab];rw[dN hab];cases hc:wQ a b;rfl;exact absurd ((VX a b).1 hc) hab
 same a:=by simp[iY,pd,uN,se]
 gt _:=rfl
def ab1(k:CK):jV ae 203 (iY k)=X (132,25):=k_
abbrev pX:=List CK
abbrev Q_:=CK->cf
def jA(id:ag)(d:pX×(Q_))(k:CK):pX×(Q_):=bif(d.2 k).contains id then d else(eT k d.1,lM d.2 k (d.2 k++[id]))
abbrev AY:=sO iY ax
def Tx(d:o.mT=2):(mB o).length=J o.gT-1:=by
 have:aj o.mT 3=I:=by rw[d];rfl
 simp only[mB,this,cF,iw,bj,List.length_zip,yA];omega
def afb(d:o.mT=3):(mB o).length=J o.gT:=by
 have:aj o.mT 3=O:=by rw[d];rfl
 simp only[mB,this,cT,bj,List.length_zip,bK,yA,jw];omega
def aDK(u:o.mT=2\/o.mT=3)(hi:i<J o.gT)(j:¬(i+1=J o.gT/\o.mT=2)){a b:ag}(w:o.gT[i]?=X a)(d:o.gT[(i+1) % J o.gT]?=X b):(mB o)[i]?=X (fI a b):=by
 have g:(o.gT.zip (o.gT.tail++(bif aj o.mT 3 then o.gT.take 1 else [])))[i]?=X (a,b):=by
  rw[Nr];refine⟨w,?_⟩;by_cases hlast:i+1=J o.gT;have x:o.mT=3:=u.resolve_left λh=>j ⟨hlast,h⟩;have:aj o.mT 3=O:=by rw[x];rfl
  rw[hlast,Nat.mod_self]at d;rw[this,cT,sw (by rw[yA];omega),yA,show i-(J o.gT-1)=0 from w_,we,iP w_];exact d;rw[Fa w_]at d;rw[AG (by rw[yA];omega),List.getElem?_tail];exact d
 simp only[mB,gZ,g,kL]
def Wt{α:Type}{l:List α}{a:α}(h:l[i]?=X a):l.drop i=a::l.drop (i+1):=by
 have d:i<J l:=(gn.1 h).1;rw[List.drop_eq_getElem_cons d,(gn.1 h).2]
def aeD{a b:Nat}(h:0<b):cN ae .rem 3 (ah ((a:Nat):Int)) (ah ((b:Nat):Int))=X (ah ((a % b:Nat):Int)):=by
 have d:aj ((b:Nat):Int) 0=I:=by simp only[aj,bN];omega
 show(bif aj ((b:Nat):Int) 0 then Z else X (ah (((a:Nat):Int).tmod ((b:Nat):Int))))=_;rw[d,cF,Int.ofNat_tmod]
def axy(a0:No Q 65)(go:o.rf)(hk:o.mT=2\/o.mT=3)(hr:J o.gT<=1000){lo B:Nat}{s0:St}{KE:pX}{VE:Q_}{n17:aa}{n18 n19:Nat}{x1:K_}(hx:∀e lc s T,AY s m lo KE VE T->(∀n,n<lo->n≠m->s.get [] n=s0.get [] n)->s0.aL<=s.aL->s.gE<=s.aL->ac e 3=.map m->ac e 17=n17->ac e 18=ak n18->ac e 19=ak n19->ac e 1=.uV 1 1 0->lc.get 1 1=x1->lc.gen 1=1->K (.exit 2) ⟨e,110,lc⟩ s):
 ∀(r i:Nat)(K1:pX)(V1:Q_)(T1:CK->Nat)(e:aw)(lc:Ag.Loc)(s:St),r+i=J o.gT->((mB o).drop i).foldl (jA o.id) (K1,V1)=(KE,VE)->AY s m lo K1 V1 T1->(∀k,(V1 k).length+r<=1000000)->(∀n,n<lo->n≠m->s.get [] n=s0.get [] n)->s0.aL<=s.aL->s.gE<=s.aL->
  ac e 3=.map m->ac e 17=n17->ac e 18=ak n18->ac e 19=ak n19->ac e 1=.uV 1 1 0->lc.get 1 1=x1->lc.gen 1=1->ac e 5=.uV 5 B 0->lc.gen 5=B->lc.get 5 B=X o.cells->
  ac e 38=o.refsV->ac e 39=ak (J o.gT)->ac e 40=ak i->W Q 62 (.loop GR) ⟨e,110,lc⟩ s K:=by
 have rc:=go.gT.gt;have tc:=go.mt.gt;have b1:=go.gT.lenS bL;intro r
 induction r with
 |zero=>
  intro i K1 V1 T1 e lc s c3 w hO hV u G d Y A z y U l1 g1 h5 B l5 x j g;have hi:i=J o.gT:=w_
  have hd:(mB o).drop i=[]:=EZ (by
   rcases hk with hk|hk
   rw[Tx hk];omega;rw[afb hk];omega)
  rw[hd]at w;simp only[List.foldl_nil,bu]at w;obtain⟨rfl,rfl⟩:=w;refine aF ?_;simp only[go_sem,seval,GR,j,g,hi,bJ];exact hx _ _ _ T1 hO u G d (by simp only[sN,seval,Y]) (by simp only[sN,seval,A]) (by simp only[sN,seval,z]) (by simp only[sN,seval,y]) (by simp only[sN,seval,U]) l1 g1
 |succ r ih=>
  intro i K1 V1 T1 e lc s c3 w hO hV u G d Y A z y U l1 g1 h5 B l5 x j g;have H:i<J o.gT:=w_
  have F:=cm (n:=i) w_;obtain⟨a,ha⟩:∃a,o.gT[i]?=X a:=⟨_,dp H⟩;have b8:=λlc k=>go.gT.at bL.2.2.1 ha lc k;have c8:(((i+1:Nat):Int)==((J o.gT:Nat):Int))=decide (i+1=J o.gT):=by
   by_cases h:i+1=J o.gT;rw[h];simp;rw[dN h];simpa using λhc=>h w_
  by_cases hb:i+1=J o.gT/\o.mT=2
  ·
   have hd:(mB o).drop i=[]:=EZ (by rw[Tx hb.2];omega);rw[hd]at w;simp only[List.foldl_nil,bu]at w;obtain⟨rfl,rfl⟩:=w;have e1:aj ((i+1:Nat):Int) ((J o.gT:Nat):Int)=O:=by rw[hb.1];simp[aj]
   have e2:aj o.mT 2=O:=by rw[hb.2];rfl
   refine aF ?_;simp only[go_sem,seval,GR,h5,B,l5,x,j,g,H,b8,ax,F,rc,b1,e1,e2,Obj.cells];exact hx _ _ _ T1 hO u G d (by simp only[sN,seval,Y]) (by simp only[sN,seval,A]) (by simp only[sN,seval,z]) (by simp only[sN,seval,y]) (by simp only[sN,seval,U]) l1 g1
  ·have hn:0<J o.gT:=by omega
   obtain⟨b,c1⟩:∃b,o.gT[(i+1) % J o.gT]?=X b:=⟨_,dp (wA _ hn)⟩;have c5:=λlc k=>go.gT.at bL.2.2.1 c1 lc k;have b0:=aeD (a:=i+1) hn;have c6:=aDK hk H hb ha c1;rw[Wt c6,AF]at w
   let⟨v,hlk,hvl⟩:=hO.look RQ ab1 yd (fI a b)
   have c2:=hvl.gt;have c0:=OQ a0 hvl (by have:=hV (fI a b);omega) o.id s.top;have b6:mi ae [] 203 (.map m) (.agg [.str (DT a b),.str (DQ a b)]) I s.top=X v:=hlk;have c4:¬(aj ((i+1:Nat):Int) ((J o.gT:Nat):Int)=O/\aj o.mT 2=O):=λh=>hb ⟨by have:=eq_of_beq h.1;omega,eq_of_beq h.2⟩;refine aF ?_;cases e1:aj ((i+1:Nat):Int) ((J o.gT:Nat):Int)<;>cases e2:aj o.mT 2
   case true.true=>exact absurd ⟨e1,e2⟩ c4
   all_goals
    simp only[go_sem,seval,GR,Y,h5,B,l5,x,j,g,H,b8,c5,ax,F,rc,b1,e1,e2,Obj.cells,d,b0,VF,VH,b6,c2,sB];refine iX.calm d c0 d_ (by simp[eU,jN]) ?_;cases hc:(V1 (fI a b)).contains o.id<;>simp only[jA,hc,cT,cF]at w
    ·let⟨v0,p,s1,av,s2,s3,a1,a2,a3,a4,a5,a6,a7,a8,a9,a10⟩:=hO.app RQ ab1 yd bL.1 rfl (λn hn=>tY hn d_) (fI a b) o.id (by have:=hV (fI a b);omega) d
     have c7:rP ae [] 203 (.map m) (.agg [.str (DT a b),.str (DQ a b)]) s=X (.tup [v0,ak p],s1):=a1;simp only[ax]at a3;simp only[go_sem,seval,Y,h5,B,l5,Obj.cells,g,F,Xv,Xu,c7,a2,a3,a4,a5,sB];refine ih (i+1) _ _ _ _ _ s3 w_ w a6 (λk=>?_) (λn U h2=>(a7 n U h2).trans (u n U h2)) w_ a10 ?_ ?_ ?_ ?_ ?_ ?_ ?_ ?_ ?_ ?_ ?_ ?_ ?_
     have:=hV (fI a b);by_cases hkk:k=fI a b;subst hkk;rw[sk,bK];simp only[bT,bn];omega;rw[kT _ _ hkk]
     have:=hV k;omega
     all_goals simp only[sL,seval,Y,A,z,y,U,l1,g1,h5,B,l5,x,j,Obj.cells]
    ·simp only[go_sem,seval,g,F]
     refine ih (i+1) K1 V1 T1 _ _ s w_ w hO (λk=>by have:=hV k;omega) u G d ?_ ?_ ?_ ?_ ?_ ?_ ?_ ?_ ?_ ?_ ?_ ?_ ?_
     all_goals simp only[sL,seval,Y,A,z,y,U,l1,g1,h5,B,l5,x,j,Obj.cells]
end Go.Proofs.YtnhmcokmdhgpbaaGreat
namespace Go.Proofs.YtnhmcokmdhgpbaaGreat
open Tryz
open Go.Ag
open Go.Sort (SWO)
def aEd{α:Type}{enc encF:α->aa}{U:α->α->Int}{d:α}{ok:List α->Bool}{k f g:Nat}{ρ:Go.Shelf.Ren}(L:SlLaysF0.n6 ae ρ)(hf:ρ.f 6=f)(aE:∀w,(isAgg (ρ.t 24)).run ae w=.ok O w)(zE:∀w,(Go.sizeOf (ρ.t 24)).run ae w=.ok k w)(ef:∀A w,(callFunc f A).run ae w=.ok (.enter f A) w)(eg:∀A w,(callFunc g A).run ae w=.ok (.enter g A) w){sp:Sp}(a5:da ae g sp)(hk:∀a,(enc a).cells.length=k)(ha:∀a,enc a=.agg (enc a).cells)(a4:0<k)(hz:∀a h,eY h (enc a) (encF a))(a8:∀l,ok l=O->J l<=1000000/\(∀(i j:Nat)(x y:α),l[i]?=X x->l[j]?=X y->sp [encF x,encF y]=X (ah (U x y)))/\(SWO (ltOf λx y:Fin (J l)=>eB U d l x y))/\(∀x y:Fin (J l),(ltOf λx y:Fin (J l)=>eB U d l x y) x y=I->(ltOf λx y:Fin (J l)=>eB U d l x y) y x=I->x=y)):
 uH f (xZ enc U d ok k g):=by
 subst hf;intro A G h w xs wr hx;refine⟨λB=>?_,λn gf cs b0 B hl H=>?_⟩
 ·unfold xZ at B
  split at B
  let⟨_,B⟩:=bf B
  cases B
  ·cases hx with
   |cons p q=>
   cases q with
   |cons q r=>
   cases r;cases p;cases q with
   |func q1 q2=>
   cases q1;cases q2;refine .inr ⟨ef _ _,(AnyF.slices_SortFunc_none L Z 0 _ w).mono ?_⟩;rintro e w' ⟨rfl,rfl⟩;exact⟨_,rfl,G,wr,.refl,.tup .nil⟩
  cases B
 ·unfold xZ at B
  split at B
  ·rename_i k' m len a0 g'
   have hb:=(bf B).1;have hq:=(bf B).2;clear B;simp only[bh]at hb;have e1:=fL hb.1;have e2:=fL hb.2;subst e1;subst e2;injection hq with hq;injection hq with hq;injection hq with a7 a6
   subst a7;subst a6;have H:=HP H
   let⟨F,H⟩:=bf H
   have F:=fL F;simp only[xY,an]at H
   let⟨l,h1,H⟩:=H
   let⟨h2,H⟩:=bf H
   have H:=(sI H).symm;subst H;have a9:=OU h1;subst a9;have a3:∀v∈l.map enc,J v.cells=k'/\v=.agg v.cells:=λv hv=>by
    obtain⟨a,_,rfl⟩:=cC.1 hv;exact⟨hk a,ha a⟩
   have a1:J l=len:=by
    rw[nH (λv hv=>(a3 v hv).1),bj]at F;exact Nat.eq_of_mul_eq_mul_right a4 F
   let⟨q1,q2,q3,q4⟩:=a8 l h2
   cases hx with
   |cons p q=>
   cases q with
   |cons q r=>
   cases r;cases q with
   |func u1 u2=>
   cases u1;cases u2;have Y:(l.map enc).length=J l:=bj ..;have hy:∀z,VR G (.arr k' m 0 len a0) z->VR G (.arr k' m 0 (l.map enc).length a0) z:=λz hz=>by rw[Y,a1];exact hz
   have gen:∀n (hn:n=J l),SWO (ltOf λx y:Fin n=>eB U d l x y)/\(∀x y:Fin n,(ltOf λx y:Fin n=>eB U d l x y) x y=I->(ltOf λx y:Fin n=>eB U d l x y) y x=I->x=y):=by
    intro n hn;subst hn;exact⟨q3,q4⟩
   have a2:=λhO=>TH L rfl aE zE ef eg a5 wr (rows:=l.map enc) (us:=l.map encF) hl a3 a4 (by rw[bj,bj]) (λi v u e1 e2=>by
    rw[gZ,pH]at e1 e2;obtain⟨a,g1,rfl⟩:=e1;obtain⟨b,g2,rfl⟩:=e2;rw[g1]at g2;cases g2;exact hz a _) (eB U d l) (λi j u u' e1 e2=>by
    rw[gZ,pH]at e1 e2;obtain⟨a,g1,rfl⟩:=e1;obtain⟨b,g2,rfl⟩:=e2;have e:eB U d l i j=U a b:=by
     unfold eB;rw[lQ,lQ,g1,g2];rfl
    rw[q2 i j a b g1 g2,e]) hO (gen _ Y).2 (by rw[Y];exact q1) (hy _ p)
   rw[TK]at a2;exact a2 (gen _ Y).1
  let⟨_,B⟩:=bf B
  cases B;cases B
abbrev gH:=CK×cf×Nat
def ie(a:gH):aa:=.agg [.str a.1.1,.str a.1.2,.list 1 (a.2.1.map ax) (.own a.2.2)]
def xy(a:gH):aa:=.agg [.str a.1.1,.str a.1.2,.list 1 (a.2.1.map ax) .no]
end Go.Proofs.YtnhmcokmdhgpbaaGreat
namespace Go.Proofs.YtnhmcokmdhgpbaaGreat
open Tryz
open Go.Ag
variable{Q:ay}[Std Q]
open Go.Sort (SWO)
def uO(a b:CK):Int:=bif aj (iy a.1 b.1) 0 then iy a.2 b.2 else iy a.1 b.1
variable{s:St}
def akz(d:Q.spec 121=X oY)(a b:CK)(g:s.gE<=s.aL):ai Q 116 [.list 1 [.str a.1,.str b.1,.str a.2,.str b.2] .Al] s (bD (uO a b)) s:=by
 have x:oY [.str a.1,.str b.1]=X (ah (iy a.1 b.1)):=rfl;have w:oY [.str a.2,.str b.2]=X (ah (iy a.2 b.2)):=rfl;have u:IntKind.i64.wrap (0+1)=1:=d_
 have Y:IntKind.i64.wrap (0+2)=2:=d_
 have j:IntKind.i64.wrap (2+1)=3:=d_
 have U:IntKind.i64.wrap (2+2)=4:=d_
 have H:IntKind.i64.wrap (4+1)=5:=d_
 have G:aQ 1 ((4:Nat):Int)=O:=d_
 have F:aQ 3 ((4:Nat):Int)=O:=d_
 have l3:aQ 5 ((4:Nat):Int)=I:=d_
 have B:dJ (ah 0)=X 0:=rfl;have A:dJ (ah 1)=X 1:=rfl;have z:dJ (ah 2)=X 2:=rfl;have y:dJ (ah 3)=X 3:=rfl;refine ai.ofNZ asE (aM ?_);simp only[go_sem,dX,eG,eO,qO];refine aF ?_;cases e1:aj (iy a.1 b.1) 0;have h:uO a b=iy a.1 b.1:=by unfold uO;rw[e1];rfl
 simp only[go_sem,dX,eG,kV,cI,eO,hG,Cx,dX,reduceCtorEq,Cw,YZ,u,G,B,A,g,mW,d,x,e1,h,bD];have h:uO a b=iy a.2 b.2:=by unfold uO;rw[e1];rfl
 simp only[go_sem,dX,eG,kV,cI,eO,hG,Cx,dX,Cw,YZ,u,Y,G,B,A,g,mW,d,x,e1];refine aF ?_;cases e2:aj (iy a.2 b.2) 0;simp only[go_sem,dX,eG,kV,cI,eO,hG,Cx,dX,reduceCtorEq,Cw,j,F,z,y,g,mW,d,w,e2,h,bD];have ez:iy a.2 b.2=0:=by simpa[aj]using e2
 simp only[go_sem,dX,eG,kV,cI,eO,hG,Cx,dX,Cw,j,U,F,z,y,g,mW,d,w,e2];refine aF ?_;simp only[go_sem,dX,eG,cI,eO,hG,reduceCtorEq,H,l3,h,ez,bD]
def aky(d:Q.spec 121=X oY)(a b:gH)(j:s.gE<=s.aL):ai Q 115 [xy a,xy b] s (bD (uO a.1 b.1)) s:=by
 have h:dJ (ah 0)=X 0:=rfl;have g:dJ (ah 1)=X 1:=rfl;refine ai.ofNZ asD (aM ?_);simp only[go_sem,dX,eG,qL,kV,cI,eO,hG,AM,qO,xy,h,g,sB];refine aV.of (akz d a.1 b.1 j) d_ ?_;simp only[go_sem,dX,eG,cI,eO,reduceCtorEq,bD]
def iO(l:ba)(d:pX×(Q_))(o:Obj):pX×(Q_):=(kq l o).foldl (jA o.id) d
theorem NX(id:ag)(k:CK):∀(g:pX)(d:pX×(Q_)),((g.foldl (jA id) d).2 k).length<=(d.2 k).length+J g
 |[],d=>by simp
 |j::g,d=>by
  rw[AF];refine dj (NX id k g _) ?_;have:((jA id d j).2 k).length<=(d.2 k).length+1:=by
   unfold jA;cases (d.2 j).contains id;simp only[cF];by_cases h:k=j;subst h;rw[sk,bK];simp;rw[kT _ _ h];omega;simp
  rw[bT];omega
variable{o:Obj}
def aDL(d:o.mT=2\/o.mT=3):(mB o).length<=J o.gT:=by
 rcases d with d|d
 rw[Tx d];omega;rw[afb d];exact aD _
variable{l:ba}
def acb(h:Bw l o=I):kq l o=[]:=by unfold kq;rw[h];rfl
def acd(h:Bw l o=O):kq l o=mB o:=by unfold kq;rw[h];rfl
def awY(a8:No Q 65){ov:aa}(ho:aq 6 Obj.val ov l)(hg:∀o∈l,o.rf)(hl:J l<=1000)(hr:∀o∈l,J o.gT<=999){n m lo:Nat}(hn:n<lo)(c6:n≠m){s0:St}(hM:bg aa.str s0 n (iA 0 l)){K:gk}{KE:pX}{VE:Q_}(hx:∀e lc s T,AY s m lo KE VE T->(∀k,k<lo->k≠m->s.get [] k=s0.get [] k)->s0.aL<=s.aL->s.gE<=s.aL->ac e 3=.map m->K (.exit 0) ⟨e,110,lc⟩ s):
 ∀(rest d:ba)(g:pX)(V1:Q_)(T1:CK->Nat)(e:aw)(lc:Ag.Loc)(s:St),l=d++rest->rest.foldl (iO l) (g,V1)=(KE,VE)->AY s m lo g V1 T1->(∀k,(V1 k).length<=999*J d)->(∀k,k<lo->k≠m->s.get [] k=s0.get [] k)->s0.aL<=s.aL->s.gE<=s.aL->
  ac e 3=.map m->ac e 17=ov->ac e 18=ak (J l)->ac e 19=ak (J d)->ac e 1=.uV 1 1 0->lc.get 1 1=X [ov,.map n]->lc.gen 1=1->W Q 62 (.loop GS) ⟨e,110,lc⟩ s K:=by
 intro rest
 induction rest with
 |nil=>
  intro d g V1 T1 e lc s U hf hO hV G a3 a0 h3 y u x r1 l1 g1;have c8:=cz U;simp only[List.foldl_nil,bu]at hf;obtain⟨rfl,rfl⟩:=hf;refine aF ?_;simp only[go_sem,seval,GS,u,x,c8,bJ];exact hx _ _ _ T1 hO G a3 a0 (by simp only[sN,seval,h3])
 |cons o rest ih=>
  intro d g V1 T1 e lc s U hf hO hV G a3 a0 h3 y u x r1 l1 g1
  let⟨hlt,hat⟩:=cH U
  have a6:=λlc k=>ho.at dY.2.2.1 hat lc k;have a2:=cm (n:=J d) w_;have b0:=co hat;have go:=hg o b0;have e3:=hr o b0;have rc:=go.gT.gt;have tc:=go.mt.gt;have e6:=ho.gt;have c7:=go.gT.lenS bL;rw[AF]at hf;have b6:∀k,(V1 k).length<=999*(d++[o]).length:=λk=>by
   have:=hV k;rw[bK,bT,bn];omega
  have e4:=hO.mlt;have e5:=hO.los;refine aF ?_;by_cases hk:o.mT=2\/o.mT=3
  ·have c9:bg aa.str s n (iA 0 l):=(G n hn c6).trans hM
   have a1:=ayB (Q:=Q) ho c9 w_ go w_;obtain⟨z,hz⟩:=cw (s.new (.cells [ov,.map n]));rw[hz]at a1;have zn:z.aL=s.aL+1:=by rw[<-hz];rfl
   have zo:∀j,j<s.aL->z.get [] j=s.get [] j:=λj hj=>by rw[<-hz,eA,bN.2 (by omega:j≠s.aL)];rfl
   have zm:z.gE<=z.aL:=by rw[<-hz];exact cr a0
   have zO:AY z m lo g V1 T1:=hO.mono (zo m w_) (λk hk=>zo _ (hO.tok k hk).2.2) w_;have a7:∀k,k<lo->k≠m->z.get [] k=s0.get [] k:=λk U h2=>(zo k w_).trans (G k U h2);have H:(aj o.mT 2=O)\/(aj o.mT 2=I/\aj o.mT 3=O):=by
    rcases hk with h|h
    left;rw[h];rfl;right;rw[h];exact R_
   have a5:Bw l o=o.gT.all (dI l):=by
    unfold Bw;rcases H with h|⟨h,h'⟩
    rw[h];rfl;rw[h,h'];rfl
   have fin:∀(F:aw)(w:Ag.Loc),o.gT.all (dI l)=O->ac F 3=.map m->ac F 17=ov->ac F 18=ak (J l)->ac F 19=ak (J d)->ac F 1=.uV 1 1 0->w.get 1 1=X [ov,.map n]->w.gen 1=1->∀g5,ac F 5=.uV 5 g5 0->w.gen 5=g5->w.get 5 g5=X o.cells->
    ac F 38=o.refsV->ac F 39=ak (J o.gT)->ac F 40=ah ((0:Nat):Int)->∀K':gk,(∀B A Y T2,AY Y m lo (iO l (g,V1) o).1 (iO l (g,V1) o).2 T2->(∀k,k<lo->k≠m->Y.get [] k=s0.get [] k)->s0.aL<=Y.aL->Y.gE<=Y.aL->ac B 3=.map m->ac B 17=ov->ac B 18=ak (J l)->ac B 19=ak (J d)->ac B 1=.uV 1 1 0->A.get 1 1=X [ov,.map n]->A.gen 1=1->K' (.exit 2) ⟨B,110,A⟩ Y)->W Q 62 (.loop GR) ⟨F,110,w⟩ z K':=by
    intro F w b1 c3 e0 d7 d6 c1 cl cg g5 c5 d1 d0 d5 d4 d2 K' hK;have a9:iO l (g,V1) o=(mB o).foldl (jA o.id) (g,V1):=by
     unfold iO;rw[acd (by rw[a5];exact b1)]
    exact axy a8 go hk w_ (s0:=z) (KE:=(iO l (g,V1) o).1) (VE:=(iO l (g,V1) o).2) (n17:=ov) (n18:=J l) (n19:=J d) (x1:=X [ov,.map n]) (λB A Y T2 q1 q2 q3 q4 q5 q6 q7 q8 q9 c0 b8=>hK B A Y T2 q1 (λk U h2=>(q2 k U h2).trans (a7 k U h2)) w_ q4 q5 q6 q7 q8 q9 c0 b8) (J o.gT) 0 g V1 T1 F w z w_ (by rw[kz,a9]) zO (λk=>by have:=hV k;omega) (λ_ _ _=>rfl) (aD _) zm c3 e0 d7 d6 c1 cl cg c5 d1 d0 d5 d4 d2
   rcases H with e1|⟨e1,B⟩
   case' inl=>simp only[go_sem,seval,GS,r1,l1,y,u,x,hlt,a6,e1,Obj.val,Obj.cells]
   case' inr=>simp only[go_sem,seval,GS,r1,l1,y,u,x,hlt,a6,e1,B,Obj.val,Obj.cells]
   all_goals
    refine aV.of a1 d_ ?_;cases hb:o.gT.all (dI l)with
    |false=>
     have a4:iO l (g,V1) o=(g,V1):=by
      unfold iO;rw[acb (by rw[a5];exact hb)];rfl
     rw[a4]at hf;simp only[go_sem,seval,x,a2];refine ih (d++[o]) g V1 T1 _ _ z (cP U) hf zO b6 a7 w_ zm ?_ ?_ ?_ ?_ ?_ ?_ ?_<;>simp only[aaj,cI,h3,y,u,r1,l1,g1,sA]
    |true=>
     simp only[go_sem,seval,c7,rc];refine fin _ _ hb ?_ ?_ ?_ ?_ ?_ ?_ ?_ (lc.gen 5+1) ?_ ?_ ?_ ?_ ?_ ?_ _ ?_
     case refine_14=>
      intro e7 A Y T2 p1 p2 p3 p4 p5 p6 p7 p8 p9 c4 c2;simp only[go_sem,seval,p8,a2];refine ih (d++[o]) (iO l (g,V1) o).1 (iO l (g,V1) o).2 T2 _ _ Y (by rw[U];simp) hf p1 (λk=>?_) p2 p3 p4 ?_ ?_ ?_ ?_ ?_ ?_ ?_;have q1:=NX o.id k (mB o) (g,V1);have q2:=aDL hk;have q3:=hV k;have q4:(iO l (g,V1) o).2 k=((mB o).foldl (jA o.id) (g,V1)).2 k:=by
       unfold iO;rw[acd (by rw[a5];exact hb)]
      rw[q4,bK,bT,bn];simp only at q1;omega
      all_goals simp only[jT,cI,cT,cF,p5,p6,p7,p9,c4,c2,sA]
     all_goals simp only[aaj,cI,h3,y,u,x,r1,l1,g1,Obj.cells,bS]
     all_goals rfl
  have e1:aj o.mT 2=I:=by simp only[aj,bN];exact λh=>hk (.inl h)
  have B:aj o.mT 3=I:=by simp only[aj,bN];exact λh=>hk (.inr h)
  have a4:iO l (g,V1) o=(g,V1):=by
   unfold iO;rw[acb (by unfold Bw;rw[e1,B];rfl)];rfl
  rw[a4]at hf;simp only[go_sem,seval,GS,y,u,x,hlt,a6,a2,e1,B,Obj.val,Obj.cells];refine ih (d++[o]) g V1 T1 _ _ s (cP U) hf hO b6 G a3 a0 ?_ ?_ ?_ ?_ ?_ ?_ ?_<;>simp only[aaj,cI,h3,y,u,r1,l1,g1,sA]
end Go.Proofs.YtnhmcokmdhgpbaaGreat
namespace Go.Proofs.YtnhmcokmdhgpbaaGreat
open Tryz
open Go.Ag
open Go.Sort (SWO)
theorem Jq(a b:ag):iy a b=cM a b:=by
 unfold iy;cases h:Op.bytesLess a b;have j:¬cM a b<0:=λd=>by rw[(n8 a b).1 d]at h;cases h
 have u:=A9 a b;cases h2:Op.bytesLess b a;have g:¬cM b a<0:=λd=>by rw[(n8 b a).1 d]at h2;cases h2
 simp only[cF];omega;have g:=(n8 b a).2 h2;rcases Wg a b with e|e|e
 omega;omega;rw[e];rfl;have j:=(n8 a b).2 h;rcases Wg a b with e|e|e
 rw[e];rfl;omega;omega
def Js(a b:CK):uO a b=iJ a b:=by
 unfold uO iJ;rw[Jq,Jq]
def Fu:aa->Option gH
 |.agg [.str a,.str b,.list 1 xs .no]=>(jY jB xs).bind λl=>X ((a,b),l,0)
 |_=>Z
def ahQ(a:gH):Fu (xy a)=X (a.1,a.2.1,0):=by
 show(jY jB (a.2.1.map ax)).bind (λl=>X ((a.1.1,a.1.2),l,0))=_;rw[BA nY];rfl
def Vj{v:aa}{a:gH}(h:Fu v=X a):v=xy a:=by
 unfold Fu at h;split at h;simp only[an,aR]at h;obtain⟨l,d,rfl⟩:=h;rw[Hc (λ_ _ h=>pS h) d];rfl;cases h
def OI:Sp
 |[u,v]=>(Fu u).bind λa=>(Fu v).bind λb=>X (bD (uO a.1 b.1))
 |_=>Z
def awS(a:gH):br (xy a)=O:=by
 simp only[xy,br,pures,BU qC,cj]
def ahm:de:=[(121,oY)]
def ahn:eh ahm:=.cons OG .nil
def akI:da ae 115 OI:=by
 refine H3 ahn (W:=[]) .nil λd u h=>?_;unfold OI at h;split at h;simp only[an]at h
 let⟨a,h1,b,h2,h⟩:=h
 have h:=sI h;subst h;rw[Vj h1,Vj h2];refine⟨by simp only[pures,awS,cj],λg=>⟨_,_,aky rfl a b (aD _),1,rfl⟩⟩;cases h
abbrev q_:=List gH
noncomputable def D7(l:q_):Bool:=by classical exact decide (J l<=1000000/\(l.map (·.1)).Nodup)
abbrev iZ:gH:=(([],[]),[],0)
def nB(a b:gH):Int:=uO a.1 b.1
noncomputable def MR:=xZ ie nB iZ D7 3 115
def MZ{α β:Type}{d:α->α->Int}(h:SWO (ltOf d))(k:β->α):SWO (ltOf λx y=>d (k x) (k y)) where
 irrefl x:=h.irrefl (k x)
 trans x y z:=h.trans (k x) (k y) (k z)
 ntrans x y z:=h.ntrans (k x) (k y) (k z)
def awT(a:gH)(h:aC aI):eY h (ie a) (xy a):=by
 refine⟨3,?_⟩;have:cK (bW h 1) (a.2.1.map ax)=X (a.2.1.map ax):=o8 λv d=>by
  obtain⟨x,_,rfl⟩:=cC.1 d;rfl
 show(cK (bW h 2) [.str a.1.1,.str a.1.2,.list 1 (a.2.1.map ax) (.own a.2.2)]).bind (λr=>X (aa.agg r))=_;have e:bW h 2 (.list 1 (a.2.1.map ax) (.own a.2.2))=X (.list 1 (a.2.1.map ax) .no):=by
  show(cK (bW h 1) (a.2.1.map ax)).bind (λys=>X (aa.list 1 ys .no))=_;rw[this];rfl
 simp only[cK,e,aH];rfl
def aEb:uH 114 MR:=by
 refine aEd (encF:=xy) Tryz.sortF220 rfl Tryz.isAgg136 Tryz.sizeOf136 (Go.Proofs.enters_of func114 k_ rfl) (Go.Proofs.enters_of func115 k_ rfl) akI (λ_=>rfl) (λ_=>rfl) d_ awT λl d=>?_;simp only[D7,dE]at d;refine⟨d.1,λi j x y z w=>?_,?_,?_⟩;simp only[OI,ahQ,aH];rfl;have e:(λx y:Fin (J l)=>eB nB iZ l x y)=λx y:Fin (J l)=>iJ (l.getD x iZ).1 (l.getD y iZ).1:=by
  funext x y;simp only[eB,nB,Js]
 rw[e];exact MZ H5 λi:Fin (J l)=>(l.getD i iZ).1;intro x y u g;have e:(λx y:Fin (J l)=>eB nB iZ l x y)=λx y:Fin (J l)=>iJ (l.getD x iZ).1 (l.getD y iZ).1:=by
  funext x y;simp only[eB,nB,Js]
 rw[e]at u g;have h:=afL _ _ u g;rw[Dl,Dl]at h;exact Fin.ext (LG d.2 (i:=x) (j:=y) (x:=l[x]) (y:=l[y]) (by simp) (by simp) h)
def aCU{K:pX}(G:K.Nodup)(U:J K<=1000000)(g:CK->gH)(F:∀k,(g k).1=k){rows:q_}(z:rows.Perm (K.map g)):D7 rows=O/\jM nB iZ rows=(EF K).map g:=by
 have B:(K.map g).map (·.1)=K:=by
  rw[kW]
  conv=>rhs;rw[<-List.map_id K]
  exact Iw λk _=>F k
 have A:D7 rows=O:=by
  simp only[D7,dE];refine⟨by rw[z.length_eq,bj];exact U,?_⟩;rw[(z.map _).nodup_iff,B];exact G
 refine⟨A,?_⟩;have j:=(vS nB iZ rows).trans z;have Y:SWO (ltOf λx y:Fin (J rows)=>eB nB iZ rows x y):=by
  have e:(λx y:Fin (J rows)=>eB nB iZ rows x y)=λx y:Fin (J rows)=>iJ (rows.getD x iZ).1 (rows.getD y iZ).1:=by
   funext x y;simp only[eB,nB,Js]
  rw[e];exact MZ H5 λi:Fin (J rows)=>(rows.getD i iZ).1
 have H:=MQ nB iZ rows Y;have d:(jM nB iZ rows).map (·.1)=EF K:=by
  refine aD7 (((j.map _).trans (by rw[B])).trans (H1 K).symm) ?_ (afk K);rw[ux];refine H.imp λ{a b} h=>?_;simp only[nB,Js]at h;simp only[ltOf,m9,decide_eq_false_iff_not];exact h
 have u:∀x∈jM nB iZ rows,x=g x.1:=λx w=>by
  obtain⟨k,_,rfl⟩:=cC.1 (j.mem_iff.1 w);rw[F]
 rw[<-d,kW]
 conv=>lhs;rw[<-List.map_id (jM nB iZ rows)]
 exact Iw λx w=>u x w
end Go.Proofs.YtnhmcokmdhgpbaaGreat
namespace Go.Proofs.YtnhmcokmdhgpbaaGreat
open Tryz
open Go.Ag
variable{Q:ay}[Std Q]
variable{R:q_}
def R4:∀v∈R.map ie,J v.cells=3:=λv d=>by
 obtain⟨x,_,rfl⟩:=cC.1 d;rfl
variable{m:Nat}{s:St}{α:Type}{t:TypeId}
def awI{enc:α->aa}{kt e:TypeId}(d:ae.underlying t=X (.map kt e)){L:List (α×aa)}(h:bg enc s m L):fZ ae [] t (.map m) s=X (ak (J L)):=by
 have h:s.get [] m=_:=h;simp only[fZ,d,aH,h,O3]
def afT:ae.underlying 203=X (.map 132 25):=k_
variable{E:EI}{sz:Nat}
def ahN(H:jk ae t=X E)(w:E.n=sz)(G:E.b<=88){k:Nat}{xs:az}(x:aa)(g:∀y∈xs,J y.cells=sz)(z:J xs<1000000)(B:s.gE<=s.aL)(F:s.get [] k=X (.cells (au xs)))(mu:Bool):
 ∃d,cL ae [] t (.arr sz k 0 (J xs) (J xs)) (.list sz [x] .Al) mu s=X (.arr sz s.aL 0 (J xs+1) (J xs+1),d)/\d.get [] s.aL=X (.cells (au (xs++[x])))/\d.aL=s.aL+1/\d.ci=s.ci/\d.gE<=d.aL/\(∀n,n<s.aL->n≠k->d.get [] n=s.get [] n):=by
 subst w;have A:eE (J xs+1) E.b=O:=tY w_ G;have u:(au xs).length=J xs*E.n:=Pg g;have j:au [x]=x.cells:=by show x.cells++au []=_;simp[au]
 refine⟨(s.put k Z).new (.cells (au (xs++[x]))),?_,?_,rfl,rfl,?_,λn w h=>?_⟩;simp only[ce,cL,H,aH,cR,fk,F,bT,bn,dP,A,u,cj,kz,j,mQ];rw[eA,kr,bS];rfl;exact cr (cG s k Z B);rw[eA,kr,bN.2 (by omega:n≠s.aL),cF,aN,bN.2 h];rfl
variable{C:gk}{it:Nat}
def awV(hK:∀i,1000000<=Q.kmax i){K:pX}{V:Q_}{T:CK->Nat}(a0:J K<1000000){s0:St}(hx:∀e lc s (r:Nat) (rows:q_),rows.Perm (K.map λk=>(k,V k,T k))->ac e 11=.arr 3 r 0 (J rows) (J rows)->s.get [] r=X (.cells (au (rows.map ie)))->r<s.aL->s0.aL<=r->(∀n,n<s0.aL->s.get [] n=s0.get [] n)->s.gE<=s.aL->C (.exit 4) ⟨e,110,lc⟩ s):
 ∀(c:Nat)(seen:be)(e:aw)(lc:Ag.Loc)(s:St)(r:Nat),c+J seen=J K->hJ iY s it m (gm K λk=>.list 1 ((V k).map ax) (.own (T k))) seen->ac e 95=.ptr it 0->ac e 11=.arr 3 r 0 (J seen) (J seen)->s.get [] r=X (.cells (au ((seen.map λb=>((λk=>(k,V k,T k):CK->gH) (K.getD b ([],[])))).map ie)))->
  s0.aL<=r->s0.aL<=it->m<s0.aL->r<s.aL->it<s.aL->r≠it->(∀n,n<s0.aL->s.get [] n=s0.get [] n)->s.gE<=s.aL->W Q 62 (.loop Rv) ⟨e,110,lc⟩ s C:=by
 intro c
 induction c with
 |zero=>
  intro seen e lc s r hc z d j F l1 l2 Y U l5 A h g;rcases z.aL Q.ch Q.kmax (λi=>by rw[Ag.t7];have:=hK i;omega)with⟨hp,hnx⟩|⟨b,p,s1,hb,hnm,hlt,_⟩
  rw[Ag.t7]at hp;refine aF ?_;simp only[go_sem,seval,Rv,d,tm,hnx,sB];refine hx _ _ _ r (seen.map λb=>((λk=>(k,V k,T k):CK->gH) (K.getD b ([],[])))) ?_ (by simp only[sN,seval,j,bj]) F U l1 h g;have h1:=hp.map λb=>((λk=>(k,V k,T k):CK->gH) (K.getD b ([],[])));refine h1.trans ?_;have:(g9 (J K)).map (λb=>((λk=>(k,V k,T k):CK->gH) (K.getD b ([],[]))))=K.map λk=>(k,V k,T k):=by
   refine E5 (by simp) λi h1 h2=>?_;have y:i<J K:=by simpa using h2
   simp[lQ,y]
  rw[this];rw[Ag.t7]at hlt;omega
 |succ c ih=>
  intro seen e lc s r hc z d j F l1 l2 Y U l5 A h g;rcases z.aL Q.ch Q.kmax (λi=>by rw[Ag.t7];have:=hK i;omega)with⟨hp,hnx⟩|⟨b,p,s1,hb,hnm,hlt,hnx,ho,y,hn1,hm1⟩
  have:=hp.length_eq;rw[Ag.t7,Cs]at this;omega;have x:b<J K:=by
   have:=(gn.1 hb).1;rwa [Ag.t7]at this
  have G:p=(K[b],.list 1 ((V K[b]).map ax) (.own (T K[b]))):=by
   have:(gm K λk=>aa.list 1 ((V k).map ax) (.own (T k)))[b]?=X (K[b],.list 1 ((V K[b]).map ax) (.own (T K[b]))):=by
    unfold gm;rw[gZ,dp x];rfl
   rw[this]at hb;exact(sI hb).symm
  have H:m≠it:=w_
  have I1:=z.go H hb hnm ho y;have w:=hJ.entry y I1.hm hb;have u:s1.gE<=s1.aL:=by rw[hm1,hn1];exact cG s it Z g
  have B:s1.get [] r=_:=(ho r A).trans F
  let⟨s2,a1,a2,a3,a4,a5,a6⟩:=ahN (t:=129) B7.1 rfl d_ (ie (K[b],V K[b],T K[b])) R4 (by rw[bj,bj];rw[Ag.t7]at hlt;omega) u B I
  rw[bj,bj]at a1;subst G;simp only[iY]at hnx w;simp only[ie]at a1;refine aF ?_;simp only[go_sem,seval,Rv,d,j,tm,Dk,hnx,w,sB,a1];refine ih (seen++[b]) _ _ s2 s1.aL (by rw[bK];simp only[bT,bn];omega) ⟨?_,?_,I1.nd,I1.lt⟩ ?_ ?_ ?_ w_ l2 Y w_ w_ w_ (λn hn=>?_) a5;rw[a6 it w_ (λe=>A e.symm)];exact I1.hi;exact(a6 m w_ w_).trans I1.hm;simp only[sN,seval,d];simp only[sN,seval,sA];rw[a2,db,db];simp[lQ,x,ie];rw[a6 n w_ w_,ho n w_];exact h n hn
def gW(l:ba):pX×(Q_):=l.foldl (iO l) ([],λ_=>[])
theorem ahv(id:ag)(k:CK)(d:pX×(Q_))(h1:d.1.Nodup)(g:∀j,j ∉ d.1->d.2 j=[]):(jA id d k).1.Nodup/\(∀j,j ∉ (jA id d k).1->(jA id d k).2 j=[])/\(jA id d k).1.length<=J d.1+1:=by
 unfold jA;cases (d.2 k).contains id
 grind [yU,ahw,rQ,kT]
 exact⟨h1,g,io _⟩
theorem ae9(id:ag):∀(g:pX)(d:pX×(Q_)),d.1.Nodup->(∀j,j ∉ d.1->d.2 j=[])->(g.foldl (jA id) d).1.Nodup/\(∀j,j ∉ (g.foldl (jA id) d).1->(g.foldl (jA id) d).2 j=[])/\(g.foldl (jA id) d).1.length<=J d.1+J g
 |[],d,h1,h2=>⟨h1,h2,aD _⟩
 |k::g,d,h1,h2=>by
  let⟨a,b,c⟩:=ahv id k d h1 h2
  let⟨a',b',c'⟩:=ae9 id g _ a b
  grind
theorem SB(l:ba):∀(os:ba)(d:pX×(Q_)),d.1.Nodup->(∀j,j ∉ d.1->d.2 j=[])->(os.foldl (iO l) d).1.Nodup/\(∀j,j ∉ (os.foldl (iO l) d).1->(os.foldl (iO l) d).2 j=[])/\(os.foldl (iO l) d).1.length<=J d.1+(os.flatMap (kq l)).length
 |[],d,h1,h2=>⟨h1,h2,aD _⟩
 |o::os,d,h1,h2=>by
  let⟨a,b,c⟩:=ae9 o.id (kq l o) d h1 h2
  let⟨a',b',c'⟩:=SB l os (iO l d o) a b
  grind [iO]
def aAv(l:ba):(gW l).1.Nodup:=(SB l l ([],λ_=>[]) Cv λ_ _=>rfl).1
theorem adZ(l:ba):(gW l).1.length<=(l.flatMap (kq l)).length:=by
 have:(gW l).1.length<=([]:pX).length+(l.flatMap (kq l)).length:=(SB l l ([],λ_=>[]) Cv λ_ _=>rfl).2.2
 grind
def iB(l:ba):pX:=EF (gW l).1
def agA(s:St)(v:aa)(l:ba):Prop:=∃(r c:Nat)(T:CK->Nat),v=.arr 3 r 0 (iB l).length c/\s.get [] r=X (.cells (au ((iB l).map λk=>ie (k,(gW l).2 k,T k))))/\r<s.aL
def awU{a b:gH}(h:(ie a).cells=(ie b).cells):a=b:=by
 let⟨⟨a1,a2⟩,a3,a4⟩:=a
 let⟨⟨b1,b2⟩,b3,b4⟩:=b
 simp only[ie,lZ,List.cons.injEq,aa.str.injEq,aa.list.injEq,gS.own.injEq,aT,tA]at h;obtain⟨rfl,rfl,g,rfl⟩:=h;have:a3=b3:=by
  have d:=BA nY a3;rw[g,BA nY b3]at d;exact(sI d).symm
 rw[this]
variable{l:ba}{n:Nat}{ov:aa}
theorem awN(hK:∀i,1000000<=Q.kmax i)(j:Q.spec 114=Z)(u:Q.specW 114=X MR)(w:No Q 65)(G:aq 6 Obj.val ov l)(hg:∀o∈l,o.rf)(hl:J l<=1000)(hr:∀o∈l,J o.gT<=999)(a4:(gW l).1.length<1000000)(hM:bg aa.str s n (iA 0 l))(hn:n<s.aL)(Y:s.gE<=s.aL):
 ∃v s',ai Q 62 [.agg [ov,.map n]] s v s'/\(agA s' v l/\(∀k,k<s.aL->s'.get [] k=s.get [] k)/\s.aL<=s'.aL/\s'.gE<=s'.aL/\v.gt=O):=by
 have a6:=G.cs;have a2:=G.lenS dY;refine ai.ofNRZ avu (aM ?_);simp only[go_sem,seval,a6,a2,jq];have a7:AY (s.new (.map [] 0)) s.aL (s.aL+1) [] (λ_=>[]) (λ_=>0):=⟨cu,Cv,λ_ h=>(by cases h),λ_ h=>(by cases h),λ_ _=>rfl,gN _,aD _⟩;refine awY w G hg hl hr (n:=n) (m:=s.aL) (lo:=s.aL+1) w_ w_ (s0:=s.new (.map [] 0)) (by show St.get _ [] n=_;rw[cV hn];exact hM) (KE:=(gW l).1) (VE:=(gW l).2) ?_ l [] [] (λ_=>[]) (λ_=>0) _ _ _ rfl rfl a7 (λ_=>fN _) (λ_ _ _=>rfl) (aD _) (cr Y) ?_ ?_ ?_ ?_ ?_ ?_ ?_
 ·intro e lc d T hO b6 U z h3
  have g:=awI afT hO.hm;rw[Ag.t7]at g;have a0:mo ae 129 (ah 0) (ak (gW l).1.length) O d=X (.arr 3 d.aL 0 0 0,d.new (.cells [])):=by
   have h1:aP 0 (gW l).1.length=O:=bH (fN _);have h2:aP ((gW l).1.length*56) 1099511627776=O:=bH w_;have h3:aP (gW l).1.length 1099511627776=O:=bH w_;have n0:dJ (ah 0)=X 0:=rfl;simp only[fb,mo,B7,n0,mV,h1,h2,h3,qE,jQ,cF,eZ]
  have a8:s.aL+1<=d.aL:=U;have A:bg iY (d.new (.cells [])) s.aL (gm (gW l).1 λk=>.list 1 (((gW l).2 k).map ax) (.own (T k))):=by
   show St.get _ [] s.aL=_;rw[cV w_];exact hO.hm
  have x:=hJ.new afT A;have hI:=hJ.begin A (by show s.aL<d.aL+1;omega);rw[Ag.t7]at x;simp only[go_sem,seval,h3,g,Ma,a0,FW,x];refine awV hK (it:=d.aL+1) (m:=s.aL) (K:=(gW l).1) (V:=(gW l).2) (T:=T) a4 (s0:=d) ?_ (gW l).1.length [] _ _ _ d.aL (by simp) (by rw[Ag.t7]at hI;exact hI) ?_ ?_ ?_ (aD _) (io _) w_ ?_ ?_ w_ (λk hk=>?_) ?_
  ·intro e2 b0 s2 r rows hp B F a1 b1 a9 y
   let⟨hok,hsort⟩:=aCU (aAv l) w_ (λk=>(k,(gW l).2 k,T k)) (λ_=>rfl) hp
   have a3:J rows=(iB l).length:=by rw[hp.length_eq,bj];exact(H1 _).length_eq.symm
   have a5:(bif aB (au (rows.map ie)).length (J rows*3)then xY ie nB iZ D7 (au (rows.map ie))else Z)=X (au ((iB l).map λk=>ie (k,(gW l).2 k,T k))):=by
    have h1:(au (rows.map ie)).length=J rows*3:=by rw[nH R4,bj]
    rw[h1,fa,bS,cT,xY,Jx (k:=3) (λ_=>rfl) d_ (λa b=>awU)];simp only[fq,hok,hsort,kW];rfl
   simp only[go_sem,seval,B,j];refine aV.of (ai.specWp (n:=r) (cs':=au ((iB l).map λk=>ie (k,(gW l).2 k,T k))) j (Std.H _) u rfl F a5) d_ ?_;simp only[go_sem,seval,B];refine⟨_,rfl,⟨r,rows.length,T,by rw[a3],by rw[aN,bS];rfl,a1⟩,λk hk=>?_,?_,cG s2 r _ y,rfl⟩
   all_goals grind [aN,cV]
  simp only[sN,seval]<;>rfl;simp only[sN,seval]<;>rfl;rw[cV (by show d.aL<d.aL+1;omega),cu];rfl;show d.aL<d.aL+1+1;omega;show d.aL+1<d.aL+1+1;omega;rw[cV (by show k<d.aL+1;omega),cV hk];exact cr (cr z)
 all_goals simp_all [jT,aaF,aaK]
variable{lo:Nat}
def Ve(B:jk ae t=X E)(u:E.n=sz)(z:E.b<=88){enc:α->aa}{l:List α}(A:bR sz lo s ov (l.map enc))(a:α)(w:J l<=900000)(j:lo<=s.aL)(x:s.gE<=s.aL):
 ∃d g,cL ae [] t ov (.list sz [enc a] .Al) I s.top=X (d,g)/\bR sz lo (s.xW g) d ((l++[a]).map enc)/\g.ci=s.ci/\s.aL<=g.aL/\(s.xW g).gE<=(s.xW g).aL/\(∀n,n<lo->(s.xW g).get [] n=s.get [] n)/\d.gt=O/\d.cells=[d]:=by
 let⟨d,g,h1,h2,h3,h4,h5,h7,h6⟩:=Fs (t:=t) B u z (s:=s.top) (y:=.list sz [enc a] .Al) (ys:=[enc a]) (show bR sz lo s.top ov _ from A) (by subst u;simp only[ce,cR]) (by rw[bj];show J l+1<=1000000;omega) j (aD _)
 have h:s.aL<=g.aL:=h4;have e:(l++[a]).map enc=l.map enc++[enc a]:=by rw[db];rfl
 exact⟨d,g,h1,by rw[e];exact h2,h3,h,mU x h,h7,h2.gt,h6⟩
variable{i:Nat}
def Lu{r:Nat}(h:s.get [] r=X (.cells (au (R.map ie)))){x:gH}(hi:R[i]?=X x):zJ ae 136 (i*3) (s.get [] r)=X (ie x):=by
 rw[h,qm,aer,aeR R4 (by rw[gZ,hi];rfl)];rfl
def R5(mk:aK)(n m o l c:Nat)(s:St):fZ ae mk 129 (.arr n m o l c) s=X (ak l):=k_
def HJ{k:ag}{q:Obj}(h:ct k l=X q):eM l k=(q.x,q.y):=by unfold eM;rw[h]
variable{K:gk}{c:Nat}
def aDw(ho:aq 6 Obj.val ov l){r:Nat}(c0:J R<=1000)(U:∀x∈R,(∃q,ct x.1.1 l=X q)/\∃q,ct x.1.2 l=X q){s0:St}(hM:bg aa.str s0 n (iA 0 l))(hr:s0.get [] r=X (.cells (au (R.map ie))))(hn:n<lo)(b1:r<lo)(hx:∀e lc s sv,bR 4 lo s sv ((R.map λx=>oD l x.1).map cd)->(∀k,k<lo->s.get [] k=s0.get [] k)->s.gE<=s.aL->lo<=s.aL->ac e 5=sv->K (.exit 0) ⟨e,30,lc⟩ s):
 ∀(rest d:q_)(e:aw)(lc:Ag.Loc)(s:St)(sv:aa),R=d++rest->bR 4 lo s sv ((d.map λx=>oD l x.1).map cd)->(∀k,k<lo->s.get [] k=s0.get [] k)->s.gE<=s.aL->lo<=s.aL->ac e 5=sv->ac e 8=.arr 3 r 0 (J R) c->ac e 9=ak (J R)->ac e 10=ak (J d)->ac e 2=.uV 2 1 0->lc.get 2 1=X [ov,.map n]->lc.gen 2=1->W Q 67 (.loop Rz) ⟨e,30,lc⟩ s K:=by
 intro rest
 induction rest with
 |nil=>
  intro d e lc s sv G B h g u h5 h8 Y j h2 H g2;have b8:=cz G;have b6:d=R:=by rw[G];simp
  refine aF ?_;simp only[go_sem,seval,Rz,Y,j,b8,bJ];rw[b6]at B;exact hx _ _ _ sv B h g u (by simp only[sN,seval,h5])
 |cons x rest ih=>
  intro d e lc s sv G B h g u h5 h8 Y j h2 H g2
  let⟨hlt,hat⟩:=cH G
  have b0:s.get [] r=_:=(h r b1).trans hr;have A:=Lu b0 hat;have a9:=cm (n:=J d) w_;have F:bg aa.str s.top n (iA 0 l):=(h n hn).trans hM
  let⟨⟨q1,hq1⟩,⟨q2,hq2⟩⟩:=U x (co hat)
  have p1:=SU (Q:=Q) ho F hq1;have p2:=SU (Q:=Q) ho F hq2;have c1:=ho.gt;have a0:=B.gt;have z:=iL g;have n0:dJ (ah 0)=X 0:=rfl;have n1:dJ (ah 1)=X 1:=rfl
  let⟨sv',s1,a1,a2,a3,a4,a5,a6,a7,a8⟩:=Ve (t:=141) Aj.1 rfl d_ B (oD l x.1) (by
   rw[bj];omega) u g
  have w:cd (oD l x.1)=.agg [ah q1.x,ah q1.y,ah q2.x,ah q2.y]:=by
   simp only[cd,oD,HJ hq1,HJ hq2]
  rw[w]at a1;simp only[ie]at A;refine aF ?_;simp only[go_sem,seval,Rz,h8,Y,j,hlt,A,B7,h5,h2,H,n0,g];refine iX.calm g p1 d_ (by rfl) ?_;simp only[go_sem,seval,h2,H,n1];refine iX.calm g p2 d_ (by rfl) ?_;simp only[go_sem,seval,aX,j,a9,a0,a1,a3,a4,z,sB];refine ih (d++[x]) _ _ (s.xW s1) sv' (by rw[G];simp) (by rw[db];exact a2) (λk U=>(a6 k U).trans (h k U)) a5 (by show lo<=s1.aL;omega) ?_ ?_ ?_ ?_ ?_ ?_ ?_
  all_goals simp only[aaj,cI,h2,H,g2,h8,Y,sA]
def aDx(z:aq 6 Obj.val ov l){r:Nat}(w:J R<=1000)(G:∀x∈R,(∃q,ct x.1.1 l=X q)/\∃q,ct x.1.2 l=X q)(U:bg aa.str s n (iA 0 l))(B:s.get [] r=X (.cells (au (R.map ie))))(F:n<s.aL)(h:r<s.aL)(j:s.gE<=s.aL):
 ∃v s',ai Q 67 [.agg [ov,.map n],.arr 3 r 0 (J R) c] s v s'/\(aq 4 cd v (R.map λx=>oD l x.1)/\(∀k,k<s.aL->s'.get [] k=s.get [] k)/\s.aL<=s'.aL/\s'.gE<=s'.aL):=by
 have H:=z.cs;refine ai.ofNRZ avA ?_;refine aM ?_;simp only[go_sem,seval,R5];refine aDw z (c:=c) (lo:=s.aL) w G U B F h ?_ R [] _ _ s .uP rfl (.inl R_) (λ_ _=>rfl) j (aD _) ?_ ?_ ?_ ?_ ?_ ?_ ?_;intro e lc s1 sv A y d u Y;have g:=A.gt;simp only[go_sem,seval,Y,g];exact⟨_,rfl,A.isL,y,u,d⟩
 all_goals simp only[aaj,u6,cI,bn,bS]
 all_goals rfl
def Sm(x y z:Int):Int:=match tD I (.int .i64 x) [.int .i64 y,.int .i64 z]with|some (.int _ w)=>w|_=>0
def Sq(x y z:Int):Int:=match tD O (.int .i64 x) [.int .i64 y,.int .i64 z]with|some (.int _ w)=>w|_=>0
def VD(P:Program)(mk:aK)(d:n_)(mu:Bool)(x y z:Int)(s:St):fQ P mk .min d mu [ah x,ah y,ah z] s=X (ah (Sm x y z),s):=rfl
def VG(P:Program)(mk:aK)(d:n_)(mu:Bool)(x y z:Int)(s:St):fQ P mk .max d mu [ah x,ah y,ah z] s=X (ah (Sq x y z),s):=rfl
def rB(n:Nat):e_:=(g9 n).map λi=>((i:Nat):Int)
def Yh(n:Nat):(rB n).length=n:=by simp[rB]
def PF(h:i<n):(rB n)[i]?=X ((i:Nat):Int):=by simp[rB,h]
variable{segs:wj}{lv:aa}
def ax2{sv:aa}(hs:aq 4 cd sv segs)(hl:aq 1 bD lv (rB (J segs)))(b6:J segs<=1000){s0:St}(hx:∀e lc s ov,bR 4 lo s ov (segs.map cd)->(∀k,k<lo->s.get [] k=s0.get [] k)->s.gE<=s.aL->lo<=s.aL->ac e 6=ov->ac e 1=lv->ac e 2=.map m->K (.exit 0) ⟨e,208,lc⟩ s):
 ∀(rest d:wj)(e:aw)(lc:Ag.Loc)(s:St)(ov:aa)(a b:Int),segs=d++rest->bR 4 lo s ov (d.map cd)->(∀k,k<lo->s.get [] k=s0.get [] k)->s.gE<=s.aL->lo<=s.aL->ac e 6=ov->ac e 7=ah a->ac e 8=ah b->ac e 0=sv->ac e 1=lv->ac e 2=.map m->ac e 26=lv->ac e 27=ak (J segs)->ac e 28=ak (J d)->W Q 66 (.loop K8) ⟨e,208,lc⟩ s K:=by
 intro rest
 induction rest with
 |nil=>
  intro d e lc s ov a b A U z w x h6 h7 h8 Y r1 h2 u h j;have b0:=cz A;have a9:d=segs:=by rw[A];simp
  refine aF ?_;simp only[go_sem,seval,K8,h,j,b0,bJ];rw[a9]at U;exact hx _ _ _ ov U z w x (by simp only[sN,seval,h6]) (by simp only[sN,seval,r1]) (by simp only[sN,seval,h2])
 |cons g rest ih=>
  intro d e lc s ov a b A U z w x h6 h7 h8 Y r1 h2 u h j
  let⟨hlt,hat⟩:=cH A
  have H:=λlc k=>hs.at Aj.2.2.1 hat lc k;have G:=λlc k=>hl.at ff.2.2.1 (PF hlt) lc k;have F:=cm (n:=J d) w_;have B:=U.gt
  let⟨ov',s1,a1,a2,a3,a4,a5,a6,a7⟩:=Fs (t:=141) Aj.1 rfl d_ (s:=s) (y:=.list 4 [cd g] .Al) (ys:=[cd g]) U (by simp only[ce,cR]) (by simp only[bj,bT,bn];omega) x w
  have b1:=a2.gt;simp only[cd]at a1;have a8:bR 4 lo s1 ov' ((d++[g]).map cd):=by rw[db];exact a2
  have a0:∀k,k<lo->s1.get [] k=s0.get [] k:=λk hk=>(a6 k hk).trans (z k hk);refine aF ?_;cases h0z:aj ((J d:Nat):Int) 0 with
  |true=>
   simp only[go_sem,seval,K8,h6,Y,u,h,j,hlt,H,G,cd,bD,B,sB];simp only[go_sem,seval,h7,h8,j,F,a1,h0z,a5,uM,wP,VD,VG,sB];refine ih (d++[g]) _ _ s1 ov' (Sm (min g.1.1 g.2.1) g.1.1 g.2.1) (Sq (max g.1.1 g.2.1) g.1.1 g.2.1) (by rw[A];simp) a8 a0 a5 w_ ?_ ?_ ?_ ?_ ?_ ?_ ?_ ?_ ?_
   all_goals first
    |(simp only[sN,seval,Y,r1,h2,u,h,sA];done)
    |(simp only[sN,seval];rfl)
  |false=>
   simp only[go_sem,seval,K8,h6,h7,h8,Y,u,h,j,hlt,H,G,F,cd,bD,B,sB,a1,h0z,a5,VD,VG];refine ih (d++[g]) _ _ s1 ov' (Sm a g.1.1 g.2.1) (Sq b g.1.1 g.2.1) (by rw[A];simp) a8 a0 a5 w_ ?_ ?_ ?_ ?_ ?_ ?_ ?_ ?_ ?_
   all_goals first
    |(simp only[sN,seval,Y,r1,h2,u,h,sA];done)
    |(simp only[sN,seval];rfl)
def alX(a b c d:Int):i9 ae 8 143 (.agg [ah a,ah b]) (.agg [ah c,ah d])=X (bif aj a c then aj b d else I):=by
 have h:i9 ae 8 143 (.agg [ah a,ah b]) (.agg [ah c,ah d])=(X (aj a c)).bind λr=>bif r then(X (aj b d)).bind λr=>bif r then X O else X I else X I:=k_
 rw[h];cases aj a c<;>cases aj b d<;>rfl
def awa:wF ae 143 aX where
 eq a b:=by
  let⟨a1,a2⟩:=a
  let⟨b1,b2⟩:=b
  have h:=alX a1 a2 b1 b2;have g:aX (a1,a2)=.agg [ah a1,ah a2]:=rfl;have d:aX (b1,b2)=.agg [ah b1,ah b2]:=rfl;rw[g,d,h];by_cases h1:a1=b1<;>by_cases h2:a2=b2<;>simp[aj,h1,h2]
 same a:=by simp[aX,pd,uN,se,aj]
 gt _:=rfl
def awl(k:l_):jV ae 139 (aX k)=X (143,3):=k_
def mR(l:VB):List ((l_)×aa):=l.map λx=>((x.1,x.2.1),ah x.2.2)
def Xi{k:l_}:∀{l:VB},(∀y∈l,(y.1,y.2.1)≠k)->bX k (mR l)=Z
 |[],_=>rfl
 |y::l,h=>by
  show(if k=(y.1,y.2.1)then _ else bX k (mR l))=_;rw[iN λe=>h y gG e.symm];exact Xi λz d=>h z (iE _ d)
def NZ{l:wj}{x:Mt}(h:x∈gw l):(0<=x.1/\x.1<J l)/\(0<=x.2.1/\x.2.1<J l):=by
 let⟨a,ha,b,hb,hab⟩:=Mc h
 have e:=De hab;have g:=Bt ha;have d:=Bt hb;omega
def So(l:VB):aq 3 gB (Hh l) l:=by
 rcases l with _|⟨x,l⟩
 exact .inl R_;exact .inr ⟨.no,rfl⟩
def ayF(hl:aq 1 bD lv (rB (J segs)))(h:J segs<=1000){s0:St}(hx:∀e lc s,dz m s0 s->bg aX s m (mR (gw segs))->K (.exit 2) ⟨e,208,lc⟩ s):
 ∀(rest d:VB)(e:aw)(lc:Ag.Loc)(s:St),gw segs=d++rest->dz m s0 s->bg aX s m (mR d)->ac e 1=lv->ac e 2=.map m->ac e 82=Hh (gw segs)->ac e 83=ak (gw segs).length->ac e 84=ak (J d)->W Q 66 (.loop Rx) ⟨e,208,lc⟩ s K:=by
 have a8:(gw segs).length<=1000000:=by
  have:=HF (F:=fM) (jU 0 segs);rw[xh]at this;have:J segs*J segs<=1000*1000:=nP h h;unfold gw;omega
 intro rest
 induction rest with
 |nil=>
  intro d e lc s z U Y r1 r2 u g j;have a4:J d=(gw segs).length:=by rw[z];simp
  have a1:d=gw segs:=by rw[z];simp
  refine aF ?_;simp only[go_sem,seval,Rx,g,j,a4,bJ];rw[a1]at Y;exact hx _ _ _ U Y
 |cons x rest ih=>
  intro d e lc s z U Y r1 r2 u g j;have a3:J d<(gw segs).length:=by rw[z];simp
  have H:(gw segs)[d.length]?=X x:=by rw[z];simp
  have a5:=λlc k=>(So (gw segs)).at Ey.2.2.1 H lc k;have a0:=cm (n:=J d) w_
  let⟨⟨b1,b2⟩,b3,b4⟩:=NZ (co H)
  have a7:=hl.gt;have ea:x.1=((x.1.toNat:Nat):Int):=(Np b1).symm;have eb:x.2.1=((x.2.1.toNat:Nat):Int):=(Np b3).symm;have G:∀lc,fR ae lc 26 lv (ah x.1)=X (.ro [ah x.1]):=λlc=>by
   rw[ea];exact hl.at ff.2.2.1 (PF w_) lc .i64
  have B:∀lc,fR ae lc 26 lv (ah x.2.1)=X (.ro [ah x.2.1]):=λlc=>by
   rw[eb];exact hl.at ff.2.2.1 (PF w_) lc .i64
  have a2:bX (x.1,x.2.1) (mR d)=Z:=Xi λy hy e=>by
   have hs:(gw segs).Pairwise zN:=HG (Dw segs 0);rw[z]at hs
   have:=(Iy.1 hs).2.2 y hy x gG;simp only[bu]at e;simp only[zN]at this;omega
  have a6:bg aX s.top m (mR d):=Y;have w:=lN awa awl a6 (x.1,x.2.1) (ah x.2.2);have A:dt (x.1,x.2.1) (ah x.2.2) (mR d)=mR (d++[x]):=by
   rw[rE a2];unfold mR;rw[db];rfl
  rw[A]at w;simp only[aX]at w;refine aF ?_;simp only[go_sem,seval,Rx,r1,r2,u,g,j,a3,a5,a0,gB,G,B,U.mw,w,sB];refine ih (d++[x]) _ _ _ (cP z) (U.putT _) ?_ ?_ ?_ ?_ ?_ ?_;show St.get _ [] m=_;rw[jH,aN,bS];rfl
  all_goals simp only[sN,seval,r1,r2,u,g,sA]
def axJ(y:Q.spec 118=X A3){sv:aa}(hs:aq 4 cd sv segs)(z:aq 1 bD lv (rB (J segs)))(d:J segs<=1000)(hn:∀x∈segs,qv x=O)(hM:bg aX s m [])(H:m<s.aL)(G:s.gE<=s.aL):
 ∃v s',ai Q 66 [sv,lv,.map m] s v s'/\(v=.tup []/\bg aX s' m (mR (gw segs))/\(∀k,k<s.aL->k≠m->s'.get [] k=s.get [] k)/\s.aL<=s'.aL/\s'.gE<=s'.aL):=by
 have a2:=hs.gt;have B:=z.gt;have u:=z.lenS ff;rw[Yh]at u;have h:=(So (gw segs)).lenS Ey;have U:=(So (gw segs)).gt;refine ai.ofNRZ avz ?_;refine aM ?_;simp only[go_sem,seval,u,B];refine ax2 hs z d (m:=m) (lo:=s.aL) (s0:=s) ?_ segs [] _ _ s .uP 0 0 rfl (.inl R_) (λ_ _=>rfl) G (aD _) ?_ ?_ ?_ ?_ ?_ ?_ ?_ ?_ ?_
 ·intro e lc s1 ov hO w g Y h6 r1 r2
  have A:=hO.gt;have j:=hO.isL.lenS Aj;have a0:bV ((J segs:Nat):Int) 20000=O:=by simp only[bV,dE];omega
  have q1:=ahF hO.isL d hn;simp only[go_sem,seval,h6,A,j,a0,y,q1,h,U,sB];refine ayF z d (m:=m) (s0:=s1) ?_ (gw segs) [] _ _ s1 rfl (.refl g) ((w m H).trans hM) ?_ ?_ ?_ ?_ ?_;intro e2 a3 s2 hb a1;simp only[go_sem,seval];exact⟨_,rfl,rfl,a1,λk hk F=>(hb.old k F).trans (w k hk),by rw[hb.aL];exact Y,hb.mw⟩
  all_goals simp only[sN,seval,r1,r2,bn]
  all_goals rfl
 all_goals simp only[sN,seval,bn]
 all_goals rfl
def awk(k:CK):jV ae 131 (iY k)=X (132,4):=k_
def jC(KB:pX):List (CK×aa):=gm KB λ_=>.bool O
variable{KB:pX}
def ahW(d:KB.Nodup)(k:CK):dt k (.bool O) (jC KB)=jC (eT k KB):=by
 unfold jC;rw[Dv _ d];exact M7 λj _=>by
  by_cases h:j=k;subst h;rw[sk];rw[kT _ _ h]
noncomputable def noted(mb:Nat)(KB:pX)(s:St):St:=s.put mb (X (.map (cY iY 0 (jC KB)) (jC KB).length))
def MI(mk:aK)(m off len lcap:Nat)(lo hi:sh)(e:aw)(s:St):eH ae mk 25 (.arr 1 m off len lcap) lo hi Z e s=(dK e hi len).bind λh=>(dK e lo 0).bind λl=>bif aP l h&&aP h lcap then X (.arr 1 m (off+l*1) (h-l) (lcap-l))else Z:=by
 have h:eH ae mk 25 (.arr 1 m off len lcap) lo hi Z e s=(dK e hi len).bind λh=>(dK e lo 0).bind λl=>bif aB 1 1&&aP l h&&aP h lcap&&aP lcap lcap&&O then X (.arr 1 m (off+l*1) (h-l) (lcap-l))else Z:=k_
 have q:aP lcap lcap=O:=bH (aD _);rw[h];simp only[Bool.and_true,Nat.beq_refl,jf,q]
def akn(mu:Bool)(s:St)(m c:Nat)(a b:aa)(h:s.get [] m=X (.cells [a,b])):fQ ae [] .clear [25] mu [.arr 1 m 1 1 c] s=X (.tup [],s.put m (X (.cells [a,.str []]))):=by
 have u:ae.underlying 25=X (.slice 9):=k_
 simp only[ce,fQ,u,aH,ri,bL,h];rfl
variable{bx mb:Nat}
def ada(u:s.get [] bx=X (.cells [.map mb]))(w:bg iY s mb (jC KB))(j:KB.Nodup)(a b:ag):ai Q 63 [.str a,.str b,.ptr bx 0] s (.tup []) (noted mb (eT (fI a b) KB) s):=by
 have d:=lN RQ awk w (fI a b) (.bool O);rw[ahW j]at d;simp only[iY,fI]at d;have g:∃v s',ai Q 63 [.str a,.str b,.ptr bx 0] s v s'/\(v=.tup []/\s'=noted mb (eT (fI a b) KB) s):=by
  refine ai.ofNRZ avv ?_;refine aM ?_;simp only[go_sem,dX,eG,qL,kV,cI,eO,hG,AM,qO,reduceCtorEq,u,VF,VH,d,ad4,sB];exact⟨_,rfl,rfl,rfl⟩
 obtain⟨v,s',h,rfl,rfl⟩:=g;exact h
def akR{a b:ag}(y:s.get [] n=X (.cells [.str a,.str b]))(j:s.gE<=s.aL):
 ∃v s',ai Q 68 [.arr 1 n 0 2 2] s v s'/\((a=b/\v=.arr 1 n 0 1 2/\s'=s.put n (X (.cells [.str a,.str []])))\/(a≠b/\v=.arr 1 n 0 2 2/\s'=s)):=by
 have A:IntKind.i64.wrap (1-1)=0:=d_
 have U:IntKind.i64.wrap (1+1)=2:=d_
 have w3:IntKind.i64.wrap (2-1)=1:=d_
 have w4:IntKind.i64.wrap (2+1)=3:=d_
 have l1:aQ ((2:Nat):Int) 2=I:=d_
 have G:aQ 1 ((2:Nat):Int)=O:=d_
 have l3:aQ 2 ((2:Nat):Int)=I:=d_
 have l4:aQ 1 ((1:Nat):Int)=I:=d_
 have F:dJ (ah 0)=X 0:=rfl;have B:dJ (ah 1)=X 1:=rfl;have x:∀g,ac g 27=ah 1->dK g (X (.tmp 27)) 0=X 1:=λg h=>by show(ev g (.tmp 27)).bind dJ=_;rw[eC,h];rfl
 have w:∀g,ac g 55=ah 1->dK g (X (.tmp 55)) 0=X 1:=λg h=>by show(ev g (.tmp 55)).bind dJ=_;rw[eC,h];rfl
 have u:∀g k,ac g 58=ah 1->dK g (X (.tmp 58)) k=X 1:=λg k h=>by show(ev g (.tmp 58)).bind dJ=_;rw[eC,h];rfl
 have H:∀g d,dK g Z d=X d:=λ_ _=>rfl;have z:=λY c=>akn Y s n c (.str a) (.str b) y;refine ai.ofNRZ avB (aM ?_);simp only[go_sem,dX,eG,cI,eO,qO,zI,l1];refine aF ?_;cases hab:b==a;have e:a≠b:=λe=>by rw[e]at hab;simp at hab
 simp only[go_sem,dX,eG,kV,cI,eO,hG,AM,Cx,dX,Cw,abh,zI,bL,G,F,B,A,U,j,y,hab];refine aF ?_;simp only[go_sem,dX,eG,cI,eO,reduceCtorEq,zI,l3];exact⟨_,rfl,.inr ⟨e,rfl⟩⟩;have e:a=b:=(eq_of_beq hab).symm;subst e;simp only[go_sem,dX,eG,kV,cI,eO,hG,AM,Nat.reduceSub,Cx,dX,Cw,abh,zI,bL,G,F,B,A,j,y,hab,MI,x,H];refine aF ?_;simp only[go_sem,dX,eG,cI,eO,AM,Nat.reduceSub,reduceCtorEq,avC,zI,l4,MI,w,u,H,z];exact⟨_,rfl,.inl rfl⟩
theorem awd(a b:ag):fI a b=if cM a b<=0 then(a,b)else(b,a):=by
 have d:=n8 a b
 grind [fI,DT,DQ,Ag.leBytes,rj]
theorem awc(a b:ag):fI a b=fI b a:=by
 grind [awd,A9,rj]
def zS(id:ag)(KB:pX)(os:cf):pX:=os.foldl (λKB o=>eT (fI o id) KB) KB
theorem acK{id:ag}{k:CK}:∀{os:cf}{KB:pX},k∈zS id KB os↔k∈KB\/∃o∈os,k=fI o id
 |[],KB=>by simp[zS]
 |o::os,KB=>by
  show k∈zS id (eT (fI o id) KB) os↔_;rw[acK,rQ]
  grind
def adb{id:ag}:∀{os:cf}{KB:pX},KB.Nodup->(zS id KB os).Nodup
 |[],_,h=>h
 |o::os,KB,h=>adb (os:=os) (yU h)
structure AW (l:ba) (D:cf) (KB:pX) (K:nt) (V:Pt->cf):Prop where
 v:∀q id,id∈V q↔id∈D/\eM l id=q
 b:∀k,k∈KB↔∃x y,x∈D/\y∈D/\x≠y/\eM l x=eM l y/\k=fI x y
 nd:KB.Nodup
 len:∀q,(V q).length<=D.length
variable{K:nt}{D:cf}{V:Pt->cf}
theorem AW.old(h:AW l D KB K V){id:ag}(hi:id∈V (eM l id)):AW l (D++[id]) KB K V:=by
 have g:=((h.v _ _).1 hi).1;have d:∀x,x∈D++[id]↔x∈D:=λx=>by
  grind
 refine⟨λq x=>by rw[d];exact h.v q x,λk=>?_,h.nd,λq=>by rw[bK];have:=h.len q;omega⟩;rw[h.b];simp only[d]
theorem AW.new(h:AW l D KB K V){id:ag}(hi:id ∉ V (eM l id)):AW l (D++[id]) (zS id KB (V (eM l id))) (eT (eM l id) K) (lM V (eM l id) (V (eM l id)++[id])):=by
 have j:id ∉ D:=λg=>hi ((h.v _ _).2 ⟨g,rfl⟩);have d:∀x,x∈D++[id]↔x∈D\/x=id:=λx=>by grind
 refine⟨λq x=>?_,λk=>?_,adb h.nd,λq=>?_⟩;rw[d];by_cases hq:q=eM l id;subst hq;rw[sk,fA,kg,h.v]
 grind
 rw[kT _ _ hq,h.v]
 grind
 rw[acK,h.b];simp only[d,h.v]
 grind [awc]
 rw[bK];by_cases hq:q=eM l id;subst hq;rw[sk,bK]
 have:=h.len (eM l id)
 grind
 rw[kT _ _ hq]
 have:=h.len q;omega
def ade{s0:St}(h:dz mb s0 s):dz mb s0 (noted mb KB s):=h.put _
def adf:bg iY (noted mb KB s) mb (jC KB):=bg.put
variable{lc:Ag.Loc}{KE:pX}{v:aa}{E0:aw}
theorem aiL{os:cf}(hv:aq 1 ax v os)(a3:J os<=1000000){id:ag}(H:bx≠mb){s0:St}(hb:s0.get [] bx=X (.cells [.map mb]))(hx:∀e s,dz mb s0 s->bg iY s mb (jC KE)->(∀t,t≠15->t≠66->t≠67->t<68->ac e t=ac E0 t)->C (.exit 4) ⟨e,180,lc⟩ s):
 ∀(rest d:cf)(KB:pX)(e:aw)(s:St),os=d++rest->KB.Nodup->zS id KB rest=KE->dz mb s0 s->bg iY s mb (jC KB)->(∀t,t≠15->t≠66->t≠67->t<68->ac e t=ac E0 t)->ac E0 7=.func (.func 63) [] [.ptr bx 0]->ac E0 12=.str id->ac E0 64=v->ac E0 65=ak (J os)->ac e 66=ak (J d)->W Q 40 (.loop Q0) ⟨e,180,lc⟩ s C:=by
 intro rest
 induction rest with
 |nil=>
  intro d KB e s j F hf B hM w e7 z y h g;have U:=cz j;have x:=(w 65 d_ d_ d_ d_).trans h;refine aF ?_;simp only[go_sem,seval,Q0,x,g,U,bJ];refine hx _ _ B (by rw[<-hf];exact hM) λt j h2 h3 h4=>?_
  grind [LJ]
 |cons o rest ih=>
  intro d KB e s j F hf B hM w e7 z y h g
  let⟨hlt,hat⟩:=cH j
  have Y:=λlc k=>hv.at bL.2.2.1 hat lc k;have G:=cm (n:=J d) w_;have x:=(w 65 d_ d_ d_ d_).trans h;have a1:=(w 64 d_ d_ d_ d_).trans y;have h7:=(w 7 d_ d_ d_ d_).trans e7;have a2:=(w 12 d_ d_ d_ d_).trans z;have a0:s.get [] bx=_:=(B.old bx H).trans hb;have A:=ada (Q:=Q) a0 hM F o id;refine aF ?_;simp only[go_sem,seval,Q0,h7,a2,a1,x,g,hlt,Y,ax];refine aV.of A d_ ?_;simp only[go_sem,seval,g,G];refine ih (d++[o]) (eT (fI o id) KB) _ _ (by rw[j];simp) (yU F) hf (ade B) adf (λt j h2 h3 h4=>?_) e7 z y h (by simp only[sN,seval,sA]);have u:∀k,68<=k->(t==k)=I:=λk hk=>by simp;omega
  have c1:(t==15)=I:=by simpa using j
  have c2:(t==66)=I:=by simpa using h2
  have c3:(t==67)=I:=by simpa using h3
  simp only[jT,u 68 d_,u 69 d_,u 70 d_,u 71 d_,u 72 d_,u 73 d_,u 74 d_,c1,c2,c3,cF];exact w t j h2 h3 h4
def alY(a b c d:Int):i9 ae 8 50 (.agg [ah a,ah b]) (.agg [ah c,ah d])=X (bif aj a c then aj b d else I):=by
 have h:i9 ae 8 50 (.agg [ah a,ah b]) (.agg [ah c,ah d])=(X (aj a c)).bind λr=>bif r then(X (aj b d)).bind λr=>bif r then X O else X I else X I:=k_
 rw[h];cases aj a c<;>cases aj b d<;>rfl
def abX:wF ae 50 aX where
 eq a b:=by
  let⟨a1,a2⟩:=a
  let⟨b1,b2⟩:=b
  have h:=alY a1 a2 b1 b2;have g:aX (a1,a2)=.agg [ah a1,ah a2]:=rfl;have d:aX (b1,b2)=.agg [ah b1,ah b2]:=rfl;rw[g,d,h];by_cases h1:a1=b1<;>by_cases h2:a2=b2<;>simp[aj,h1,h2]
 same a:=by simp[aX,pd,uN,se,aj]
 gt _:=rfl
def ab0(k:Pt):jV ae 134 (aX k)=X (50,25):=k_
structure Fk (l:ba) (s0 s:St) (ma mb lo:Nat) (D:cf) (KB:pX) (K:nt) (V:Pt->cf) (T:Pt->Nat):Prop where
 o:sO aX ax s ma lo K V T
 m:bg iY s mb (jC KB)
 fr:∀k,k<lo->k≠ma->k≠mb->s.get [] k=s0.get [] k
 i:AW l D KB K V
 nx:s0.aL<=s.aL
 mw:s.gE<=s.aL
structure IQ (e:aw) (lc:Ag.Loc) (ov lv:aa) (n bx ma:Nat):Prop where
 h3:ac e 3=.uV 3 1 0
 h5:ac e 5=lv
 h6:ac e 6=.ptr bx 0
 h7:ac e 7=.func (.func 63) [] [.ptr bx 0]
 h8:ac e 8=.map ma
 l3:lc.get 3 1=some [ov,.map n]
 g3:lc.gen 3=1
def aio(U:No Q 65)(ho:aq 6 Obj.val ov l){ma:Nat}(c1:n≠ma)(c2:n≠mb)(c3:n<lo)(c4:bx≠ma)(c5:bx≠mb)(c6:bx<lo)(c7:mb≠ma)(c8:mb<lo){s0:St}(hM:bg aa.str s0 n (iA 0 l))(c9:s0.get [] bx=X (.cells [.map mb])){a b:ag}(d1:∀id,id∈ [a,b]->∃q,ct id l=X q){x42 x43 x44:aa}(hD:J D<=10000)(hx:∀e lc s KB K V T,Fk l s0 s ma mb lo (D++[a,b]) KB K V T->IQ e lc ov lv n bx ma->ac e 42=x42->ac e 43=x43->ac e 44=x44->C (.exit 2) ⟨e,180,lc⟩ s):
 ∀(rest d:cf)(e:aw)(lc:Ag.Loc)(s:St)(KB:pX)(K:nt)(V:Pt->cf)(T:Pt->Nat),[a,b]=d++rest->Fk l s0 s ma mb lo (D++d) KB K V T->IQ e lc ov lv n bx ma->ac e 42=x42->ac e 43=x43->ac e 44=x44->ac e 49=.agg [.str a,.str b]->ac e 50=ak (J d)->W Q 40 (.loop Q5) ⟨e,180,lc⟩ s C:=by
 intro rest
 induction rest with
 |nil=>
  intro d e lc s KB K V T G S E z y x w u;have b1:d=[a,b]:=by rw[G];simp
  subst b1;have hl:aQ ((2:Nat):Int) 2=I:=rfl;refine aF ?_;simp only[go_sem,dX,eG,eO,hG,Q5,u,hl];refine hx _ _ s KB K V T S ⟨?_,?_,?_,?_,?_,E.l3,E.g3⟩ ?_ ?_ ?_<;>simp only[sN,cI,E.h3,E.h5,E.h6,E.h7,E.h8,z,y,x]
 |cons id rest ih=>
  intro d e lc s KB K V T G S E z y x w u
  let⟨h3,h5,h6,h7,h8,l3,g3⟩:=E
  have b6:J d<2:=by
   have:=congrArg nM G;simp only[jW]at this;omega
  have d0:([a,b]:cf)[d.length]?=X id:=by rw[G];simp
  have F:aQ ((J d:Nat):Int) 2=O:=by simp only[aQ,dE];omega
  have c0:Bo ae 132 (.agg [.str a,.str b]) (ak (J d))=X (.str id):=by
   rw[YJ,mV];have hb:bC (J d) 2=O:=bH b6;simp only[fq,hb,vK,Nat.mul_one,Cr];have:([aa.str a,aa.str b]:az)=([a,b]:cf).map aa.str:=rfl;rw[this,gZ,d0];rfl
  have Y:=cm (n:=J d) w_
  let⟨q,hq⟩:=d1 id (by rw[G];simp)
  have a0:=HJ hq;have d2:bg aa.str s n (iA 0 l):=(S.fr n c3 c1 c2).trans hM;have A:=SU (Q:=Q) ho d2 hq;have d7:=ho.gt
  let⟨v,hlk,hvl⟩:=S.o.look abX ab0 yd (eM l id)
  have B:=hvl.gt;have b0:=S.i.len (eM l id);have e0:(D++d).length<=10002:=by rw[bK];omega
  have g:=OQ U hvl w_ id s;have b8:=hvl.lenS bL;rw[a0]at hlk;simp only[aX]at hlk A;have e2:D++d++[id]=D++(d++[id]):=by simp
  refine aF ?_;simp only[go_sem,dX,eG,qL,kV,cI,eO,hG,Q5,h3,w,u,F,c0,l3];refine aV.of A d_ ?_;cases hc:(V (eM l id)).contains id with
  |true=>
   rw[hc]at g;have j:id∈V (eM l id):=by simpa using hc
   simp only[go_sem,dX,eG,qL,kV,cI,eO,hG,h8,hlk,B];refine aV.of g d_ ?_;simp only[go_sem,dX,eG,cI,eO,u,Y];refine ih (d++[id]) _ _ s KB K V T (cP G) ⟨S.o,S.m,S.fr,by rw[<-e2];exact S.i.old j,S.nx,S.mw⟩ ⟨?_,?_,?_,?_,?_,?_,?_⟩ ?_ ?_ ?_ ?_ ?_
   all_goals simp only[aaj,cI,h3,h5,h6,h7,h8,l3,g3,z,y,x,w,sA]
  |false=>
   rw[hc]at g;have j:id ∉ V (eM l id):=by
    intro h;have:(V (eM l id)).contains id=O:=by simpa using h
    rw[hc]at this;cases this
   simp only[go_sem,dX,eG,qL,kV,cI,eO,hG,h8,hlk,B];refine aV.of g d_ ?_;simp only[go_sem,dX,eG,qL,kV,cI,eO,hG,h8,hlk,B,b8];refine aiL hvl w_ (id:=id) (bx:=bx) (mb:=mb) c5 (s0:=s) ((S.fr bx c6 c4 c5).trans c9) (KE:=zS id KB (V (eM l id))) ?_ (V (eM l id)) [] KB _ s rfl S.i.nd rfl (.refl S.mw) S.m (λ_ _ _ _ _=>rfl) ?_ ?_ ?_ ?_ ?_
   ·intro e' s2 H d4 he
    have S2:sO aX ax s2 ma lo K V T:=S.o.mono (H.old ma c7.symm) (λk hk=>H.old _ (by have:=(S.o.tok k hk).2.1;omega)) (by rw[H.aL];exact aD _)
    let⟨v0,p,s3,av,s4,s5,a1,a2,a3,a4,a5,a6,a7,a8,a9,a10⟩:=S2.app abX ab0 yd bL.1 rfl (λn hn=>tY hn d_) (eM l id) id w_ H.mw
    rw[a0]at a1;simp only[aX]at a1;simp only[ax]at a3;have d6:=H.aL;have d5:=S.nx;simp only[go_sem,dX,eG,qL,kV,cI,eO,hG,AM,Nat.reduceEqDiff,qO,he,ne_eq,not_false_eq_true,h8,u,Y,Xv,Xu,a1,a2,a3,a4,a5,sB];refine ih (d++[id]) _ _ s5 (zS id KB (V (eM l id))) _ _ _ (by rw[G];simp) ⟨a6,?_,λk k1 k2 k3=>?_,by rw[<-e2];exact S.i.new j,w_,a10⟩ ⟨?_,?_,?_,?_,?_,?_,?_⟩ ?_ ?_ ?_ ?_ ?_;exact(a7 mb c8 c7).trans d4;rw[a7 k k1 k2,H.old k k3];exact S.fr k k1 k2 k3
    all_goals simp only[sL,seval,he,ne_eq,not_false_eq_true,h3,h5,h6,h7,h8,l3,g3,z,y,x,w,sA]
   all_goals simp only[sN,cI,h7,bn]
   all_goals rfl
def qd(R:q_):cf:=R.flatMap λx=>[x.1.1,x.1.2]
def alH(R:q_)(x:gH):qd (R++[x])=qd R++[x.1.1,x.1.2]:=by simp[qd]
def alG(R:q_):(qd R).length=2*J R:=by
 induction R with
 |nil=>rfl
 |cons x R d=>
  show([x.1.1,x.1.2]++qd R).length=_;rw[bK,d];simp only[bT,bn];omega
def aiE(u:No Q 65)(ho:aq 6 Obj.val ov l){ma r:Nat}(c1:n≠ma)(c2:n≠mb)(c3:n<lo)(c4:bx≠ma)(c5:bx≠mb)(c6:bx<lo)(c7:mb≠ma)(c8:mb<lo)(c9:r≠ma)(c10:r≠mb)(a1:r<lo){s0:St}(hM:bg aa.str s0 n (iA 0 l))(a0:s0.get [] bx=X (.cells [.map mb]))(a4:J R<=1000)(hR:s0.get [] r=X (.cells (au (R.map ie))))(hk:∀x∈R,(∃q,ct x.1.1 l=X q)/\∃q,ct x.1.2 l=X q)(hx:∀e lc s KB K V T,Fk l s0 s ma mb lo (qd R) KB K V T->IQ e lc ov (.arr 3 r 0 (J R) c) n bx ma->C (.exit 0) ⟨e,180,lc⟩ s):
 ∀(rest d:q_)(e:aw)(lc:Ag.Loc)(s:St)(KB:pX)(K:nt)(V:Pt->cf)(T:Pt->Nat),R=d++rest->Fk l s0 s ma mb lo (qd d) KB K V T->IQ e lc ov (.arr 3 r 0 (J R) c) n bx ma->ac e 42=.arr 3 r 0 (J R) c->ac e 43=ak (J R)->ac e 44=ak (J d)->W Q 40 (.loop Q6) ⟨e,180,lc⟩ s C:=by
 intro rest
 induction rest with
 |nil=>
  intro d e lc s KB K V T z S E j h g;have Y:=cz z;have U:d=R:=by rw[z];simp
  rw[U]at S;refine aF ?_;simp only[go_sem,seval,Q6,h,g,Y,bJ];refine hx _ _ s KB K V T S ⟨?_,?_,?_,?_,?_,E.l3,E.g3⟩<;>simp only[sN,seval,E.h3,E.h5,E.h6,E.h7,E.h8]
 |cons x rest ih=>
  intro d e lc s KB K V T z S E j h g
  let⟨hlt,hat⟩:=cH z
  have H:s.get [] r=_:=(S.fr r a1 c9 c10).trans hR;have w:=Lu H hat;have G:=cm (n:=J d) w_;have y:=hk x (co hat)
  let⟨h3,h5,h6,h7,h8,l3,g3⟩:=E
  simp only[ie]at w;refine aF ?_;simp only[go_sem,seval,Q6,j,h,g,hlt,w,B7];refine aio u ho (lv:=.arr 3 r 0 (J R) c) c1 c2 c3 c4 c5 c6 c7 c8 hM a0 (a:=x.1.1) (b:=x.1.2) (λid hid=>?_) (x42:=.arr 3 r 0 (J R) c) (x43:=ak (J R)) (x44:=ak (J d)) (D:=qd d) (by rw[alG];omega) ?_ [x.1.1,x.1.2] [] _ _ s KB K V T rfl (by rw[iw];exact S) ⟨?_,?_,?_,?_,?_,?_,?_⟩ ?_ ?_ ?_ ?_ ?_;simp only[dG,pF,or_false]at hid;rcases hid with rfl|rfl
  exact y.1;exact y.2
  ·intro e2 a3 s2 a2 K2 V2 T2 S2 E2 F B A
   let⟨i3,i5,i6,i7,i8,j3,k3⟩:=E2
   simp only[go_sem,seval,A,G];refine ih (d++[x]) _ _ s2 a2 K2 V2 T2 (cP z) (by rw[alH];exact S2) ⟨?_,?_,?_,?_,?_,j3,k3⟩ ?_ ?_ ?_
   all_goals simp only[sN,seval,i3,i5,i6,i7,i8,F,B,sA]
  all_goals simp only[aaj,cI,h3,h5,h6,h7,h8,l3,g3,j,h,g,bn]
  all_goals rfl
def aiM{N:Nat}(hN:N<=1000){s0:St}(hx:∀e s ov,bR 1 lo s ov ((rB N).map bD)->(∀k,k<lo->s.get [] k=s0.get [] k)->s.gE<=s.aL->lo<=s.aL->ac e 16=ov->ac e 3=ac E0 3->ac e 5=ac E0 5->ac e 6=ac E0 6->ac e 7=ac E0 7->C (.exit 6) ⟨e,180,lc⟩ s):
 ∀(c i:Nat)(e:aw)(s:St)(ov:aa),c+i=N->bR 1 lo s ov ((rB i).map bD)->(∀k,k<lo->s.get [] k=s0.get [] k)->s.gE<=s.aL->lo<=s.aL->ac e 16=ov->ac e 3=ac E0 3->ac e 5=ac E0 5->ac e 6=ac E0 6->ac e 7=ac E0 7->ac e 86=ak N->ac e 87=ak i->W Q 40 (.loop Q7) ⟨e,180,lc⟩ s C:=by
 intro c
 induction c with
 |zero=>
  intro i e s ov hc x j g h w U H G F d u;have:i=N:=w_
  subst this;refine aF ?_;simp only[go_sem,seval,Q7,d,u,bJ];refine hx _ s ov x j g h ?_ ?_ ?_ ?_ ?_<;>simp only[sN,seval,w,U,H,G,F]
 |succ c ih=>
  intro i e s ov hc x j g h w U H G F d u;have B:i<N:=w_
  have A:=cm (n:=i) w_;have z:=x.gt
  let⟨ov',s1,a1,a2,a3,a4,a5,a6,a7⟩:=Fs (t:=26) ff.1 rfl d_ (s:=s) (y:=.list 1 [bD i] .Al) (ys:=[bD i]) x (by simp only[ce,cR]) (by simp only[bj,bT,bn,Yh];omega) h g
  have Y:=a2.gt;have e1:(rB i).map bD++[bD i]=(rB (i+1)).map bD:=by simp[rB,List.range_succ]
  rw[e1]at a2;simp only[bD]at a1;refine aF ?_;simp only[go_sem,seval,Q7,w,d,u,B,A,z,a1,sB];refine ih (i+1) _ s1 ov' w_ a2 (λk hk=>(a6 k hk).trans (j k hk)) a5 w_ ?_ ?_ ?_ ?_ ?_ ?_ ?_<;>simp only[sN,seval,U,H,G,F,d]
def xH(u:ag)(KB:pX)(ys:cf):pX:=ys.foldl (λKB y=>eT (fI u y) KB) KB
def zT(ys:cf)(KB:pX)(us:cf):pX:=us.foldl (λKB u=>xH u KB ys) KB
theorem acL{u:ag}{k:CK}:∀{ys:cf}{KB:pX},k∈xH u KB ys↔k∈KB\/∃y∈ys,k=fI u y
 |[],KB=>by simp[xH]
 |o::os,KB=>by
  show k∈xH u (eT (fI u o) KB) os↔_;rw[acL,rQ]
  grind
def SA{u:ag}:∀{os:cf}{KB:pX},KB.Nodup->(xH u KB os).Nodup
 |[],_,h=>h
 |o::os,KB,h=>SA (os:=os) (yU h)
theorem acM{ys:cf}{k:CK}:∀{us:cf}{KB:pX},k∈zT ys KB us↔k∈KB\/∃u∈us,∃y∈ys,k=fI u y
 |[],KB=>by simp[zT]
 |u::us,KB=>by
  show k∈zT ys (xH u KB ys) us↔_;rw[acM,acL]
  grind
def adc{ys:cf}:∀{us:cf}{KB:pX},KB.Nodup->(zT ys KB us).Nodup
 |[],_,h=>h
 |u::us,KB,h=>adc (us:=us) (SA h)
variable{ys:cf}
theorem aiz(hv:aq 1 ax v ys)(a4:J ys<=1000000){u:ag}(Y:bx≠mb){s0:St}(hb:s0.get [] bx=X (.cells [.map mb]))(hx:∀e s,dz mb s0 s->bg iY s mb (jC KE)->(∀t,t≠27->t<155->ac e t=ac E0 t)->C (.exit 12) ⟨e,180,lc⟩ s):
 ∀(rest h:cf)(KB:pX)(e:aw)(s:St),ys=h++rest->KB.Nodup->xH u KB rest=KE->dz mb s0 s->bg iY s mb (jC KB)->(∀t,t≠27->t<155->ac e t=ac E0 t)->ac E0 7=.func (.func 63) [] [.ptr bx 0]->ac E0 25=.str u->ac E0 153=v->ac E0 154=ak (J ys)->ac e 155=ak (J h)->W Q 40 (.loop Q8) ⟨e,180,lc⟩ s C:=by
 intro rest
 induction rest with
 |nil=>
  intro h KB e s y H hf G hM z e7 A w g d;have a0:=cz y;have j:=(z 154 d_ d_).trans g;refine aF ?_;simp only[go_sem,seval,Q8,j,d,a0,bJ];refine hx _ _ G (by rw[<-hf];exact hM) λt y h2=>?_
  grind [LJ]
 |cons o rest ih=>
  intro h KB e s y H hf G hM z e7 A w g d
  let⟨hlt,hat⟩:=cH y
  have a1:=λlc k=>hv.at bL.2.2.1 hat lc k;have U:=cm (n:=J h) w_;have j:=(z 154 d_ d_).trans g;have F:=(z 153 d_ d_).trans w;have h7:=(z 7 d_ d_).trans e7;have a3:=(z 25 d_ d_).trans A;have a2:s.get [] bx=_:=(G.old bx Y).trans hb;have B:=ada (Q:=Q) a2 hM H u o;refine aF ?_;simp only[go_sem,seval,Q8,h7,a3,F,j,d,hlt,a1,ax];refine aV.of B d_ ?_;simp only[go_sem,seval,d,U];refine ih (h++[o]) (eT (fI u o) KB) _ _ (by rw[y];simp) (yU H) hf (ade G) adf (λt y h2=>?_) e7 A w g (by simp only[sN,seval,sA]);have x:∀k,155<=k->(t==k)=I:=λk hk=>by simp;omega
  have c1:(t==27)=I:=by simpa using y
  simp only[jT,x 155 d_,x 156 d_,x 157 d_,x 158 d_,x 159 d_,x 160 d_,x 161 d_,x 162 d_,x 163 d_,c1,cF];exact z t y h2
theorem aiA{us:cf}{va vb:aa}(a0:aq 1 ax va us)(w:aq 1 ax vb ys)(b1:J us<=1000000)(a1:J ys<=1000000){kb:Nat}{p1 p2:ag}(A:bx≠mb)(a5:kb≠mb){s0:St}(hb:s0.get [] bx=X (.cells [.map mb]))(hk:s0.get [] kb=X (.cells [.str p1,.str p2,vb]))(hx:∀e s,dz mb s0 s->bg iY s mb (jC KE)->(∀t,t<25->ac e t=ac E0 t)->ac e 103=ac E0 103->C (.exit 10) ⟨e,180,lc⟩ s):
 ∀(rest d:cf)(KB:pX)(e:aw)(s:St),us=d++rest->KB.Nodup->zT ys KB rest=KE->dz mb s0 s->bg iY s mb (jC KB)->(∀t,t<25->ac e t=ac E0 t)->ac e 103=ac E0 103->ac E0 7=.func (.func 63) [] [.ptr bx 0]->ac E0 22=.ptr kb 0->ac e 146=va->ac e 147=ak (J us)->ac e 148=ak (J d)->W Q 40 (.loop Q9) ⟨e,180,lc⟩ s C:=by
 intro rest
 induction rest with
 |nil=>
  intro d KB e s F U hf z hM he x e7 y j h g;have a3:=cz F;refine aF ?_;simp only[go_sem,seval,Q9,h,g,a3,bJ];refine hx _ _ z (by rw[<-hf];exact hM) (λt F=>?_) ?_
  all_goals grind [LJ]
 |cons o rest ih=>
  intro d KB e s F U hf z hM he x e7 y j h g
  let⟨hlt,hat⟩:=cH F
  have a6:=λlc k=>a0.at bL.2.2.1 hat lc k;have Y:=cm (n:=J d) w_;have h7:=(he 7 d_).trans e7;have b0:=(he 22 d_).trans y;have a7:s.get [] bx=_:=(z.old bx A).trans hb;have a4:s.get [] kb=_:=(z.old kb a5).trans hk;have a2:=w.lenS bL;have H:=w.gt;refine aF ?_;simp only[go_sem,seval,Q9,b0,j,h,g,hlt,a6,ax,a4,a2,H];refine aiz w a1 (u:=o) (bx:=bx) A (s0:=s) a7 (KE:=xH o KB ys) ?_ ys [] KB _ s rfl U rfl (.refl z.mw) hM (λ_ _ _=>rfl) ?_ ?_ ?_ ?_ ?_
  ·intro e2 s2 a9 a8 B
   have G:ac e2 148=ak (J d):=(B 148 d_ d_).trans (by simp only[sN,seval,g]);simp only[go_sem,seval,G,Y];refine ih (d++[o]) (xH o KB ys) _ s2 (by rw[F];simp) (SA U) hf (z.trans a9) a8 (λt ht=>?_) ?_ e7 y ?_ ?_ ?_;have hh:∀k,25<=k->(t==k)=I:=λk hk=>by simp;omega
   simp only[jT,hh 164 d_,hh 148 d_,cF];rw[B t w_ w_]
   grind [jT]
   simp_all [sN]
   simp_all [sN]
   all_goals simp_all [sN]
  all_goals simp only[sN,seval,h7,bn]
  all_goals rfl
def ail(a b:CK):cN ae .eql 132 (.agg [.str a.1,.str a.2]) (.agg [.str b.1,.str b.2])=X (.bool (wQ a b)):=by
 have h:cN ae .eql 132 (.agg [.str a.1,.str a.2]) (.agg [.str b.1,.str b.2])=(i9 ae 8 132 (.agg [.str a.1,.str a.2]) (.agg [.str b.1,.str b.2])).bind λr=>X (.bool r):=k_
 rw[h,WM];rfl
def aff(mk:aK)(m:Nat)(cs:az)(e:aw)(s:St)(h:s.get mk m=X (.cells cs))(j:2<=J cs):eH ae mk 132 (.ptr m 0) Z Z Z e s=X (.arr 1 m 0 2 2):=by
 have g:eH ae mk 132 (.ptr m 0) Z Z Z e s=(s.get mk m).bind λo=>match o with
  |.cells cs=>bif aP 0 2&&aP 2 2&&O&&bC 0 (2*1)&&aP (0+2*1) (J cs)then X (.arr 1 m (0+0*1) (2-0) (2-0))else Z
  |_=>Z:=k_
 rw[g,h];have d:aP (0+2*1) (J cs)=O:=bH w_;simp only[aH,d];rfl
def OP(a b:CK):Bool:=[b.1,b.2].contains a.1||[b.1,b.2].contains a.2
def Ew(a b:CK)(mT:Int):Bool:=wQ a b||(aj mT 1&&OP a b)
def xf(R:q_)(x:Mt)(k:CK):Prop:=Ew (R.getD x.1.toNat iZ).1 (R.getD x.2.1.toNat iZ).1 x.2.2=I/\∃u∈(R.getD x.1.toNat iZ).2.1,∃y∈(R.getD x.2.1.toNat iZ).2.1,k=fI u y
def aFP:ae.underlying 139=X (.map 143 3):=k_
variable{M:VB}
theorem anA{b:Nat}{p:(l_)×aa}(h:(mR M)[b]?=X p):∃x,M[b]?=X x/\p=((x.1,x.2.1),ah x.2.2):=by
 grind [mR]
theorem aiJ(hK:∀i,1000000<=Q.kmax i)(G:No Q 65){mf r:Nat}(f3:J M<=1000000)(f2:J R<=1000)(e9:∀x∈M,(0<=x.1/\x.1<J R)/\(0<=x.2.1/\x.2.1<J R))(c7:∀x∈R,J x.2.1<=1000000)(c1:it<lo)(c2:mf<lo)(c3:bx<lo)(c4:mb<lo)(c5:r<lo)(d1:mf≠it)(d2:bx≠it)(d3:mb≠it)(d4:r≠it)(d5:mf≠mb)(d6:bx≠mb)(d7:r≠mb){s0:St}(hM:bg aX s0 mf (mR M))(e7:s0.get [] bx=X (.cells [.map mb]))(hR:s0.get [] r=X (.cells (au (R.map ie)))){KB0:pX}(hx:∀e lc s KB,(∀k,k∈KB↔k∈KB0\/∃x∈M,xf R x k)->KB.Nodup->bg iY s mb (jC KB)->(∀k,k<lo->k≠it->k≠mb->s.get [] k=s0.get [] k)->s0.aL<=s.aL->s.gE<=s.aL->ac e 6=ac E0 6->C (.exit 8) ⟨e,180,lc⟩ s):
 ∀(cc:Nat)(seen:be)(e:aw)(lc:Ag.Loc)(s:St)(KB:pX),cc+J seen=J M->hJ aX s it mf (mR M) seen->(∀k,k∈KB↔k∈KB0\/∃b∈seen,∃x,M[b]?=X x/\xf R x k)->KB.Nodup->bg iY s mb (jC KB)->(∀k,k<lo->k≠it->k≠mb->s.get [] k=s0.get [] k)->s0.aL<=s.aL->lo<=s.aL->s.gE<=s.aL->
  ac e 6=ac E0 6->ac e 5=.arr 3 r 0 (J R) c->ac e 7=.func (.func 63) [] [.ptr bx 0]->ac e 103=.ptr it 0->W Q 40 (.loop KQ) ⟨e,180,lc⟩ s C:=by
 have f1:(mR M).length=J M:=bj ..;intro cc
 induction cc with
 |zero=>
  intro seen e lc s KB hc e0 c8 nd hB F a7 e6 a1 h6 h5 h7 j;rcases e0.aL Q.ch Q.kmax (λi=>by have:=hK i;omega)with⟨hp,hn⟩|⟨b,p,s1,hb,hnm,hlt,_⟩
  refine aF ?_;simp only[go_sem,seval,KQ,j,tm,hn,sB];refine hx _ _ s KB (λk=>?_) nd hB F a7 a1 (by simp only[sN,seval,h6]);rw[c8];refine or_congr Iff.rfl ⟨?_,?_⟩
  grind
  rintro⟨x,h1,h2⟩;obtain⟨b,hb,rfl⟩:=Iu h1;exact⟨b,hp.mem_iff.2 (yB.2 w_),M[b],dp hb,h2⟩;omega
 |succ cc ih=>
  intro seen e lc s KB hc e0 c8 nd hB F a7 e6 a1 h6 h5 h7 j;rcases e0.aL Q.ch Q.kmax (λi=>by have:=hK i;omega)with⟨hp,hn⟩|⟨b,p,s1,hb,hnm,hlt,hn,ho,hi,hn1,hm1⟩
  have:=hp.length_eq;rw[Cs]at this;omega
  ·obtain⟨x,e5,rfl⟩:=anA hb
   have I1:=e0.go d1 hb hnm ho hi;have c0:=hJ.entry hi I1.hm hb;have u:s1.gE<=s1.aL:=by rw[hm1,hn1];exact cG s it Z a1
   let⟨⟨b1,b2⟩,b3,b4⟩:=e9 x (co e5)
   have b8:x.1.toNat<J R:=w_
   have b6:x.2.1.toNat<J R:=w_
   obtain⟨g,a0⟩:∃g,R[x.1.toNat]?=X g:=⟨_,dp b8⟩;obtain⟨d,Y⟩:∃d,R[x.2.1.toNat]?=X d:=⟨_,dp b6⟩;have ga:R.getD x.1.toNat iZ=g:=by rw[lQ,a0];rfl
   have gb:R.getD x.2.1.toNat iZ=d:=by rw[lQ,Y];rfl
   have n1:dJ (ah x.1)=X x.1.toNat:=by
    conv=>lhs;rw[<-Np b1]
    exact mV _ _
   have n2:dJ (ah x.2.1)=X x.2.1.toNat:=by
    conv=>lhs;rw[<-Np b3]
    exact mV _ _
   have c6:s1.get [] r=_:=((ho r d4).trans (F r c5 d4 d7)).trans hR;have la:=Lu c6 a0;have lb:=Lu c6 Y;have m0:dJ (ah 0)=X 0:=rfl;have m1:dJ (ah 1)=X 1:=rfl;simp only[ie]at la lb;simp only[aX]at hn c0;have b0:=iL u;have a9:=awB u (.cells [.str [],.str [],.uP]);have H:(s1.new (.cells [.str [],.str [],.uP])).gE<=(s1.new (.cells [.str [],.str [],.uP])).aL:=cr u;have a8:=iL H;obtain⟨z,hz⟩:=cw ((s1.new (.cells [.str [],.str [],.uP])).xW ((s1.new (.cells [.str [],.str [],.uP])).top.put s1.aL (X (.cells [.str d.1.1,.str d.1.2,.list 1 (d.2.1.map ax) (.own d.2.2)]))));have zn:z.aL=s1.aL+1:=by rw[<-hz];rfl
   have A:z.gE<=z.aL:=by rw[<-hz];exact mU H (aD _)
   have zg:∀k,k≠s1.aL->z.get [] k=(s1.new (.cells [.str [],.str [],.uP])).get [] k:=λk hk=>by rw[<-hz,jH,aN,bN.2 hk];rfl
   have zo:∀k,k<s1.aL->z.get [] k=s1.get [] k:=λk hk=>(zg k w_).trans (cV hk);have zk:z.get [] s1.aL=X (.cells [.str d.1.1,.str d.1.2,.list 1 (d.2.1.map ax) (.own d.2.2)]):=by rw[<-hz,jH,aN,bS];rfl
   have a6:∀e,eH ae [] 132 (.ptr s1.aL 0) Z Z Z e z.top=X (.arr 1 s1.aL 0 2 2):=λe=>aff _ _ _ _ _ (show z.top.get [] s1.aL=_ from zk) (by simp);have fin:∀(e':aw)(U:Ag.Loc)(s':St)(KB':pX),(∀k,k∈KB'↔k∈KB\/xf R x k)->KB'.Nodup->bg iY s' mb (jC KB')->(∀k,k<s1.aL->k≠mb->s'.get [] k=s1.get [] k)->s'.aL=s1.aL+1->s'.gE<=s'.aL->ac e' 6=ac E0 6->ac e' 5=.arr 3 r 0 (J R) c->ac e' 7=.func (.func 63) [] [.ptr bx 0]->ac e' 103=.ptr it 0->W Q 40 (.loop KQ) ⟨e',180,U⟩ s' C:=by
    intro e' U s' KB' k1 k2 k3 k4 k5 k6 k7 k8 k9 vh;refine ih (seen++[b]) e' U s' KB' (by grind) ⟨(k4 it w_ d3.symm).trans I1.hi,(k4 mf w_ d5).trans I1.hm,I1.nd,I1.lt⟩ (λk=>?_) k2 k3 (λk q1 q2 q3=>?_) w_ w_ k6 k7 k8 k9 vh
    grind
    grind
   have zB:bg iY z mb (jC KB):=((zo mb w_).trans (ho mb d3)).trans hB;have e1:z.get [] bx=X (.cells [.map mb]):=(((zo bx w_).trans (ho bx d2)).trans (F bx c3 d2 d6)).trans e7;have w:∀(i:Nat)(y:ag),([d.1.1,d.1.2]:cf)[i]?=X y->([aa.str d.1.1,aa.str d.1.2,.list 1 (d.2.1.map ax) (.own d.2.2)]:az)[0+i]?=X (.str y):=λi y hy=>by
    match i,hy with
    |0,hy=>grind
    |1,hy=>grind
   have a5:z.top.get [] s1.aL=_:=zk;have d0:=Wn G (cap:=2) (off:=0) (len:=2) a5 rfl w (by simp) g.1.1;have c9:=Wn G (cap:=2) (off:=0) (len:=2) a5 rfl w (by simp) g.1.2;have e8:=ail g.1 d.1;have e4:aq 1 ax (.list 1 (g.2.1.map ax) (.own g.2.2)) g.2.1:=.inr ⟨_,rfl⟩;have e3:aq 1 ax (.list 1 (d.2.1.map ax) (.own d.2.2)) d.2.1:=.inr ⟨_,rfl⟩;have o1:=c7 g (co a0);have o2:=c7 d (co Y);have skip:Ew g.1 d.1 x.2.2=O->∀k,k∈KB↔k∈KB\/xf R x k:=λh k=>by
    unfold xf;rw[ga,gb,h];simp
   have B:Ew g.1 d.1 x.2.2=I->∀k,k∈zT d.2.1 KB g.2.1↔k∈KB\/xf R x k:=λh k=>by
    unfold xf;rw[ga,gb,h,acM];simp
   refine aF ?_;simp only[go_sem,seval,KQ,j,tm,hn,Dk,c0,sB,h5,m0,m1,n1,n2,b8,b6,la,lb,B7,dl,cu,du,b0,a9,a8,hz,a6,A,u];refine iX.calm A d0 d_ (by simp[eU,jN]) ?_;have D:Ew g.1 d.1 x.2.2=(wQ g.1 d.1||(aj x.2.2 1&&OP g.1 d.1)):=rfl;cases hc1:([d.1.1,d.1.2]:cf).contains g.1.1<;>simp only[go_sem,seval,m1,zk,a6]
   case' false=>refine iX.calm A c9 d_ (by simp[eU,jN]) ?_
   all_goals
    cases hc2:([d.1.1,d.1.2]:cf).contains g.1.2<;>cases heq:wQ g.1 d.1<;>cases hkd:aj x.2.2 1<;>simp only[go_sem,seval,e8,heq,hkd,zk,bL,bj]<;>simp only[OP,hc1,hc2,heq,hkd]at D
    all_goals first
     |refine fin _ _ z KB (skip D) nd zB (λk h1 _=>zo k h1) zn A ?_ ?_ ?_ ?_
      all_goals simp only[sN,seval,h6,h5,h7,j]
     |refine aiA e4 e3 o1 o2 (bx:=bx) (mb:=mb) (kb:=s1.aL) d6 w_ (s0:=z) e1 zk (KE:=zT d.2.1 KB g.2.1) ?_ g.2.1 [] KB _ z rfl nd rfl (.refl A) zB (λ_ _=>rfl) rfl ?_ ?_ ?_ ?_ ?_
      intro e2 s2 a4 f0 a2 a3;simp only[go_sem,seval];refine fin _ _ s2 (zT d.2.1 KB g.2.1) (B D) (adc nd) f0 (λk h1 h2=>(a4.old k h2).trans (zo k h1)) (by rw[a4.aL,zn]) a4.mw ?_ ?_ ?_ ?_;rw[a2 6 d_];simp only[sN,seval,h6];rw[a2 5 d_];simp only[sN,seval,h5];rw[a2 7 d_];simp only[sN,seval,h7];rw[a3];simp only[sN,seval,j]
      all_goals simp only[sN,seval,h7,bn]
      all_goals rfl
def Es(k:CK):ag:=bif k.1==k.2 then []else k.2
def jp(k:CK):Nat:=bif k.1==k.2 then 1 else 2
abbrev jm:=CK×Nat
def gY(x:jm):aa:=.agg [.str [],ah 2,.arr 1 x.2 0 (jp x.1) 2]
def A8(k:CK):az:=[.str k.1,.str (Es k)]
def aFO:ae.underlying 131=X (.map 132 4):=k_
abbrev f_:=List jm
structure NL (lo:Nat) (s:St) (ov:aa) (acc:f_):Prop where
 row:gI 3 s ov (acc.map gY)
 ids:∀x∈acc,s.get [] x.2=some (.cells (A8 x.1))/\lo<=x.2/\x.2<s.aL/\gl ov≠some x.2
 rlo:∀r,gl ov=some r->lo<=r
def Uc{R:f_}:∀v∈R.map gY,J v.cells=3:=λv d=>by
 obtain⟨x,_,rfl⟩:=cC.1 d;rfl
def aiQ(hK:∀i,1000000<=Q.kmax i)(c0:J KB<1000000)(c1:it<lo)(c2:mb<lo)(d1:mb≠it)(B:∀e lc s ov (d:f_),(d.map (·.1)).Perm KB->NL lo s ov d->s.gE<=s.aL->ac e 28=ov->C (.exit 14) ⟨e,180,lc⟩ s):
 ∀(cc:Nat)(seen:be)(e:aw)(lc:Ag.Loc)(s:St)(ov:aa)(d:f_),cc+J seen=J KB->hJ iY s it mb (jC KB) seen->d.map (·.1)=seen.map (λb=>KB.getD b ([],[]))->NL lo s ov d->lo<=s.aL->s.gE<=s.aL->ac e 28=ov->ac e 166=.ptr it 0->W Q 40 (.loop Ra) ⟨e,180,lc⟩ s C:=by
 have b6:(jC KB).length=J KB:=Ag.t7 _ _;intro cc
 induction cc with
 |zero=>
  intro seen e lc s ov d hc a7 y u b1 F H g;rcases a7.aL Q.ch Q.kmax (λi=>by have:=hK i;omega)with⟨hp,hn⟩|⟨b,p,s1,h,hnm,hlt,_⟩
  refine aF ?_;simp only[go_sem,seval,Ra,g,tm,hn,sB];refine B _ _ s ov d ?_ u F (by simp only[sN,seval,H]);rw[y];rw[b6]at hp;refine(hp.map _).trans ?_;have:(g9 (J KB)).map (λb=>KB.getD b ([],[]))=KB:=by
   refine E5 (by simp) λi h1 h2=>?_;simp[lQ,h2]
  rw[this];omega
 |succ cc ih=>
  intro seen e lc s ov d hc a7 y u b1 F H g;rcases a7.aL Q.ch Q.kmax (λi=>by have:=hK i;omega)with⟨hp,hn⟩|⟨b,p,s1,h,hnm,hlt,hn,ho,hi,hn1,hm1⟩
  have:=hp.length_eq;rw[Cs]at this;omega
  ·have a0:b<J KB:=by
    have:=(gn.1 h).1;omega
   obtain⟨k,hk⟩:=cw (KB[b]);have b0:p=(k,.bool O):=by
    have:(jC KB)[b]?=X (KB[b],.bool O):=by
     unfold jC gm;rw[gZ,dp a0];rfl
    rw[this]at h;rw[<-hk];exact(sI h).symm
   subst b0;have I1:=a7.go d1 h hnm ho hi;have Y:=hJ.entry hi I1.hm h;have U:s1.gE<=s1.aL:=by rw[hm1,hn1];exact cG s it Z F
   have a8:=u.row.gt
   let⟨z,hz,zn,zmw,zo,zk⟩:=yZ (.cells [.str [],.str []]) (.cells [.str k.1,.str k.2]) U
   have a9:∀e,eH ae [] 132 (.ptr s1.aL 0) Z Z Z e z=X (.arr 1 s1.aL 0 2 2):=λe=>aff _ _ _ _ _ zk (by simp);have G:∃v w,ai Q 68 [.arr 1 s1.aL 0 2 2] z v w/\(v=.arr 1 s1.aL 0 (jp k) 2/\w.get [] s1.aL=X (.cells (A8 k))/\(∀j,j≠s1.aL->w.get [] j=z.get [] j)/\w.aL=z.aL/\w.gE<=w.aL):=by
    obtain⟨v,w,A,⟨e1,rfl,rfl⟩|⟨e1,rfl,rfl⟩⟩:=akR (Q:=Q) zk zmw;have h:(k.1==k.2)=O:=by simpa using e1
    refine⟨_,_,A,by unfold jp;rw[h];rfl,?_,λj hj=>by rw[aN,bN.2 hj];rfl,rfl,cG z _ _ zmw⟩;rw[aN,bS];unfold A8 Es;rw[h];rfl;have h:(k.1==k.2)=I:=by simpa using e1
    refine⟨_,_,A,by unfold jp;rw[h];rfl,?_,λ_ _=>rfl,rfl,zmw⟩;rw[zk];unfold A8 Es;rw[h];rfl
   simp only[iY]at hn Y;refine aF ?_;simp only[go_sem,seval,Ra,H,g,tm,hn,Dk,Y,dl,cu,du,hz,a9,sB];refine aV.ex G d_ ?_;rintro v w ⟨rfl,y1,y2,y3,y4⟩;have b8:gI 3 w ov (d.map gY):=u.row.mono (λr A=>by
    have h1:=u.row.lt r A;have h2:=u.rlo r A;rw[y2 r w_,zo r w_,ho r w_]) w_
   let⟨s3,a1,a2,a3,a4,a5,a6⟩:=CJ (t:=43) kw.1 rfl d_ (gY (k,s1.aL)) Uc (by
    have h1:=congrArg nM y;simp only[bj]at h1⊢;omega) y4 b8
   simp only[gY]at a1;simp only[go_sem,seval,a8,ajw,a1,sB];refine ih (seen++[b]) _ _ s3 _ (d++[(k,s1.aL)]) (by rw[bK];simp only[bT,bn];omega) ⟨?_,?_,I1.nd,I1.lt⟩ ?_ ⟨by rw[db];exact a2,λx B=>?_,λr A=>?_⟩ w_ a5 ?_ ?_;rw[a6 it w_ (λe=>by have:=u.rlo it e;omega),y2 it w_,zo it w_];exact I1.hi;have:s3.get [] mb=s1.get [] mb:=by rw[a6 mb w_ (λe=>by have:=u.rlo mb e;omega),y2 mb w_,zo mb w_]
   exact this.trans I1.hm;rw[db,db,y];simp[lQ,a0,hk];rcases fA.1 B with B|B
   let⟨i1,i2,i3,i4⟩:=u.ids x B
   refine⟨?_,i2,w_,λe=>by injection e with e;omega⟩;rw[a6 x.2 w_ i4,y2 x.2 w_,zo x.2 w_,ho x.2 w_];exact i1;rw[kg.1 B];refine⟨?_,by show lo<=s1.aL;omega,by show s1.aL<s3.aL;omega,λe=>by injection e with e;omega⟩;rw[a6 s1.aL w_ (λe=>by have:=u.row.lt _ e;omega)];exact y1;injection A with A
   omega
   all_goals simp only[sN,seval,g,bj]
open Go.Sort (SWO)
theorem OL:∀{a b c:cf},fU a b<0->fU b c<0->fU a c<0
 |[],[],_,h1,_=>by simp[fU]at h1
 |_::_,[],_,h1,_=>by simp[fU]at h1
 |[],_::_,[],_,h2=>by simp[fU]at h2
 |[],_::_,_::_,_,_=>by simp[fU]
 |_::_,_::_,[],_,h2=>by simp[fU]at h2
 |a::x,b::y,c::z,h1,h2=>by
  simp only[fU,Jq]at*;by_cases p:cM a b=0
  have:=rj p;subst this;have e:aj (cM a a) 0=O:=by rw[p];rfl
  rw[e]at h1;cases q:aj (cM a c) 0;rw[q]at h2;exact h2;rw[q]at h2;exact OL h1 h2;have e:aj (cM a b) 0=I:=by simp[aj,p]
  rw[e]at h1;by_cases q:cM b c=0
  grind [rj]
  have d:aj (cM b c) 0=I:=by simp[aj,q]
  rw[d]at h2;have g:=Ba h1 h2
  grind [aj]
def akM(a:cf):fU a a=0:=by have:=Jt a a;omega
theorem afy:SWO (ltOf fU) where
 irrefl x:=by simp[ltOf,akM]
 trans x y z h1 h2:=by
  grind [ltOf,OL]
 ntrans x y z h1 h2:=by
  grind [ltOf,OM,Jt,OL]
theorem afM{x y:cf}(h1:ltOf fU x y=I)(d:ltOf fU y x=I):x=y:=by
 grind [ltOf,Jt,OM]
def mG(x:jm):aa:=.agg [.str [],ah 2,.list 1 ((iM x.1).map ax) .no]
def vN(x:Nat×Nat):aa:=.agg [.str [],ah 2,.arr 1 x.1 0 x.2 2]
def wL:MT->(f_->Rd)->Rd
 |[],k=>k []
 |x::l,k=>.ask x.1 λo=>match o with
  |.cells [.str a,.str b]=>bif x.2==1 then wL l λr=>k (((a,a),x.1)::r)else bif x.2==2&&!(a==b)then wL l λr=>k (((a,b),x.1)::r)else .ret Z
  |_=>.ret Z
def Ga(g:M_)(x:jm):Prop:=∃b,g x.2=X (.cells [.str x.1.1,.str b])/\(jp x.1=1\/(jp x.1=2/\b=x.1.2))
theorem Od{g:M_}{u:aa}:∀{l:MT}{K:f_->Rd},em g (wL l K)=X u->∃L,L.map (λx=>(x.2,jp x.1))=l/\(∀x∈L,Ga g x)/\em g (K L)=X u
 |[],K,h=>⟨[],rfl,λ_ h=>(by cases h),h⟩
 |x::l,K,h=>by
  have h:(g x.1).bind (λo=>em g (match o with
   |.cells [.str a,.str b]=>bif x.2==1 then wL l λr=>K (((a,a),x.1)::r)else bif x.2==2&&!(a==b)then wL l λr=>K (((a,b),x.1)::r)else .ret Z
   |_=>.ret Z))=X u:=h
  simp only[an]at h
  let⟨o,h1,h⟩:=h
  split at h;rename_i a b;cases e1:x.2==1;rw[e1]at h;simp only[cF]at h;cases e2:(x.2==2&&!(a==b));rw[e2]at h;cases h;rw[e2]at h;simp only[bh,m9]at e2
  let⟨L,q1,q2,q3⟩:=Od h
  have j:jp (a,b)=2:=by unfold jp;rw[e2.2];rfl
  refine⟨((a,b),x.1)::L,?_,λy d=>?_,q3⟩
  grind
  rcases dG.1 d with rfl|d
  exact⟨b,h1,.inr ⟨j,rfl⟩⟩;exact q2 y d;rw[e1]at h
  let⟨L,q1,q2,q3⟩:=Od h
  have j:jp (a,a)=1:=by unfold jp;simp
  refine⟨((a,a),x.1)::L,?_,λy d=>?_,q3⟩
  grind
  rcases dG.1 d with rfl|d
  exact⟨b,h1,.inl j⟩;exact q2 y d;cases h
theorem Vq{g:M_}:∀{L:f_}{K:f_->Rd},(∀x∈L,g x.2=X (.cells (A8 x.1)))->em g (wL (L.map λx=>(x.2,jp x.1)) K)=em g (K L)
 |[],K,_=>rfl
 |x::L,K,h=>by
  have u:=h x gG;have j:=λK=>Vq (K:=K) λy d=>h y (iE _ d)
  let⟨⟨a,b⟩,n⟩:=x
  show(g n).bind _=_
  grind [A8,Es,jp]
def af9{h:aC aI}{x:jm}(hi:Ga h.get x):eY h (gY x) (mG x):=by
 let⟨b,h1,d⟩:=hi
 refine⟨3,?_⟩;have e:bW h 2 (.arr 1 x.2 0 (jp x.1) 2)=X (.list 1 ((iM x.1).map ax) .no):=by
  show(match h.get x.2 with
   |some (.cells cs)=>(cut cs 0 (jp x.1*1)).bind λc=>(cK (bW h 1) c).bind λj=>(chunk (!aB 1 1) 1 (jp x.1) j).bind λxs=>X (aa.list 1 xs .no)
   |_=>Z)=_
  rw[h1]
  let⟨⟨p,q⟩,n⟩:=x
  unfold iM;simp only[jp]at d⊢;cases e:p==q;rw[e]at d;have g:b=q:=by
   rcases d with d|d
   cases d;exact d.2
  subst g;rfl;rfl
 show(cK (bW h 2) [.str [],ah 2,.arr 1 x.2 0 (jp x.1) 2]).bind (λr=>X (aa.agg r))=_;simp only[cK,e,aH];rfl
def Bn:aa->Option cf
 |.agg [.str _,.int .i64 _,w]=>bif br w then fH 1 jB w else Z
 |_=>Z
def Wk:Sp
 |[u,v]=>(Bn u).bind λa=>(Bn v).bind λb=>bif pures [u,v]&&bC (J a) small then X (bD (fU a b))else Z
 |_=>Z
variable{l:cf}
theorem Yb(h:Bn v=X l):∃a i w,v=.agg [.str a,ah i,w]/\aq 1 ax w l/\br w=O:=by
 unfold Bn at h
 grind [lX,pS]
def arB(x:jm):Bn (mG x)=X (iM x.1):=by
 have d:br (.list 1 ((iM x.1).map ax) .no)=O:=by simp only[br,BU qC,cj]
 show(bif br (.list 1 ((iM x.1).map ax) .no)then jY jB ((iM x.1).map ax)else Z)=_;rw[d,BA nY];rfl
def aGF(x:jm):br (mG x)=O:=by simp only[mG,br,pures,BU qC,cj]
def aku(d:Q.spec 71=X EM){w w':aa}{r:cf}(h:aq 1 ax w l)(g:aq 1 ax w' r)(x:br w=O)(u:br w'=O)(y:J l<small)(a b:ag)(i j:Int)(s:St):ai Q 70 [.agg [.str a,ah i,w],.agg [.str b,ah j,w']] s (bD (fU l r)) s:=by
 have q:=aED h g x u y;have A:=h.gt;have z:=g.gt;refine ai.ofNZ avE (aM ?_);simp only[go_sem,seval,d,q,A,z,bD]
def ahk:de:=[(71,EM)]
def ahl:eh ahk:=.cons aEE .nil
def akN:da ae 70 Wk:=by
 refine H3 ahl (W:=[]) .nil λd u h=>?_;unfold Wk at h;split at h;simp only[an]at h
 let⟨a,h1,b,h2,h⟩:=h
 let⟨h3,h⟩:=bf h
 simp only[bh]at h3;have h:=sI h;subst h;obtain⟨B,i,w,rfl,z,y⟩:=Yb h1;obtain⟨A,j,F,rfl,x,g⟩:=Yb h2;exact⟨h3.1,λG=>⟨_,_,aku rfl z x y g (Nat.le_of_ble_eq_true h3.2) _ _ _ _ _,1,rfl⟩⟩;cases h
abbrev dV:jm:=(([],[]),0)
def jS(a b:jm):Int:=fU (iM a.1) (iM b.1)
noncomputable def BJ(l:f_):Bool:=by classical exact decide (J l<=1000000/\(l.map λx=>iM x.1).Nodup)
noncomputable def Og(m:Nat):Option MT->Rd
 |some l=>bif l.all (λx=> !(x.1==m))then wL l λL=>rX (bif BJ L then X (au ((jM jS dV L).map gY))else Z)else .ret Z
 |none=>.ret Z
noncomputable def EG:az->Nw
 |[.arr k' m 0 len _,.func (.func g') [] []]=>bif aB k' 3&&aB g' 70 then X (X (m,λcs=>bif aB (J cs) (len*3)then Og m (uS vN cs)else .ret Z))else Z
 |[.uP,.func (.func g') [] []]=>bif aB g' 70 then X Z else Z
 |_=>Z
theorem azp(k:CK):(iM k).length<=2:=by
 grind [iM]
theorem aEf:uH 69 EG:=by
 have L:=Tryz.sortF134;have ef:∀g w,(callFunc 69 g).run ae w=.ok (.enter 69 g) w:=Go.Proofs.enters_of func69 k_ rfl;have eg:∀g w,(callFunc 70 g).run ae w=.ok (.enter 70 g) w:=Go.Proofs.enters_of func70 k_ rfl;intro g G h w xs wr hx;refine⟨λB=>?_,λn gf cs a3 B hl d=>?_⟩
 ·unfold EG at B
  split at B
  grind
  ·cases hx with
   |cons p q=>
   cases q with
   |cons q r=>
   cases r;cases p;cases q with
   |func q1 q2=>
   cases q1;cases q2;refine .inr ⟨ef _ _,(AnyF.slices_SortFunc_none L Z 0 _ w).mono ?_⟩;rintro e w' ⟨rfl,rfl⟩;exact⟨_,rfl,G,wr,.refl,.tup .nil⟩
  cases B
 ·unfold EG at B
  split at B
  ·rename_i k' m len H g'
   have hb:=(bf B).1;have hq:=(bf B).2;clear B;simp only[bh]at hb;have e1:=fL hb.1;have Y:=fL hb.2;subst e1;subst Y;injection hq with hq;injection hq with hq;injection hq with a5 a4
   subst a5;subst a4;have d:em h.get (bif aB (J cs) (len*3)then Og m (uS vN cs)else .ret Z)=X (.agg a3):=d;cases A:aB (J cs) (len*3)with
   |false=>rw[A]at d;cases d
   |true=>
   rw[A]at d;have A:=fL A;simp only[cT]at d;cases hd:uS vN cs with
   |none=>rw[hd]at d;cases d
   |some l0=>
   rw[hd]at d;have a2:=OU hd;have d:em h.get (bif l0.all (λx=> !(x.1==m))then wL l0 λL=>rX (bif BJ L then X (au ((jM jS dV L).map gY))else Z)else .ret Z)=X (.agg a3):=d;cases hne:l0.all (λx=> !(x.1==m))with
   |false=>rw[hne]at d;cases d
   |true=>
   rw[hne]at d
   let⟨l,h1,hat,d⟩:=Od d
   have d:=HP d
   let⟨h2,d⟩:=bf d
   have d:=(sI d).symm;subst d;have a6:l0.map vN=l.map gY:=by rw[<-h1,kW];rfl
   rw[a6]at a2;subst a2;have a9:∀x∈l,x.2≠m:=λx hx e=>by
    have:(x.2,jp x.1)∈l0:=by rw[<-h1];exact cC.2 ⟨x,hx,rfl⟩
    grind
   have a1:∀v∈l.map gY,J v.cells=3/\v=.agg v.cells:=λv hv=>by
    obtain⟨a,_,rfl⟩:=cC.1 hv;exact R_
   have U:J l=len:=by
    rw[nH (λv hv=>(a1 v hv).1),bj]at A;omega
   simp only[BJ,dE]at h2;cases hx with
   |cons p q=>
   cases q with
   |cons q r=>
   cases r;cases q with
   |func u1 u2=>
   cases u1;cases u2;have F:(l.map gY).length=J l:=bj ..;have hy:∀z,VR G (.arr 3 m 0 len H) z->VR G (.arr 3 m 0 (l.map gY).length H) z:=λz hz=>by rw[F,U];exact hz
   have gen:∀n (hn:n=J l),SWO (ltOf λx y:Fin n=>eB jS dV l x y)/\(∀x y:Fin n,(ltOf λx y:Fin n=>eB jS dV l x y) x y=I->(ltOf λx y:Fin n=>eB jS dV l x y) y x=I->x=y):=by
    intro n hn;subst hn;refine⟨MZ afy λi:Fin (J l)=>iM (l.getD i dV).1,λx y q1 q2=>?_⟩;have h:=afM (x:=iM (l.getD x dV).1) (y:=iM (l.getD y dV).1) q1 q2;rw[Dl,Dl]at h;exact Fin.ext (LG h2.2 (i:=x) (j:=y) (x:=l[x]) (y:=l[y]) (by simp) (by simp) h)
   have a0:=λhO=>TH L rfl Tryz.isAgg59 Tryz.sizeOf59 ef eg akN wr (rows:=l.map gY) (us:=l.map mG) hl a1 d_ (by rw[bj,bj]) (λi v u e1 Y=>by
    rw[gZ,pH]at e1 Y;obtain⟨a,g1,rfl⟩:=e1;obtain⟨b,g2,rfl⟩:=Y;rw[g1]at g2;cases g2;have a7:=co g1
    let⟨b',i1,i2⟩:=hat a a7
    exact af9 ⟨b',by grind [aC.get_set],i2⟩) (eB jS dV l) (λi j u u' e1 Y=>by
    rw[gZ,pH]at e1 Y;obtain⟨a,g1,rfl⟩:=e1;obtain⟨b,g2,rfl⟩:=Y;have e:eB jS dV l i j=jS a b:=by
     unfold eB;rw[lQ,lQ,g1,g2];rfl
    have a8:=aae;have hb:bC (iM a.1).length small=O:=bH (by have:=azp a.1;omega);rw[e];show((Bn (mG a)).bind λa'=>(Bn (mG b)).bind λb'=>bif pures [mG a,mG b]&&bC (J a') small then X (bD (fU a' b'))else Z)=_;simp only[fb,arB,pures,aGF,hb];rfl) hO (gen _ F).2 (by rw[F];exact h2.1) (hy _ p)
   rw[TK]at a0;exact a0 (gen _ F).1
  all_goals grind
end Go.Proofs.YtnhmcokmdhgpbaaGreat
namespace Go.Proofs.YtnhmcokmdhgpbaaGreat
open Tryz
open Go.Ag
open Go.Sort (SWO)
def Pf{α β:Type}{f:α->List β}{n:Nat}:∀{l:List α},(∀x∈l,(f x).length<=n)->(l.flatMap f).length<=J l*n
 |[],_=>fN _
 |x::l,h=>by
  have j:=h x gG;have g:=Pf (l:=l) λy d=>h y (iE _ d);rw[List.flatMap_cons,bK,bT,Nat.succ_mul];omega
theorem ac9{α:Type}[DecidableEq α]:∀{K L:List α},K.Nodup->(∀x∈K,x∈L)->J K<=J L
 |[],_,_,_=>fN _
 |x::K,L,nd,h=>by
  let⟨h1,h2⟩:=List.nodup_cons.1 nd
  have j:=h x gG;have g:=ac9 (K:=K) (L:=L.erase x) h2 λy d=>(List.mem_erase_of_ne (λe=>h1 (by rw[<-e];exact d))).2 (h y (iE _ d))
  grind
theorem abW(a b:ag):((fI a b).1=a\/(fI a b).1=b)/\((fI a b).2=a\/(fI a b).2=b):=by
 grind [fI,DT,DQ]
variable{o:Obj}
theorem aDM{k:CK}(h:k∈mB o):k.1∈o.gT/\k.2∈o.gT:=by
 unfold mB at h;obtain⟨p,d,rfl⟩:=cC.1 h;have j:p.1∈o.gT:=(List.of_mem_zip d).1;have g:p.2∈o.gT:=by
  rcases fA.1 (List.of_mem_zip d).2 with h|h
  exact List.mem_of_mem_tail h
  grind
 grind [abW]
variable{l:ba}
theorem J6{r:ag}(h:dI l r=O):∃q,ct r l=X q/\q.mT=1:=by
 grind [dI,mS,aj]
theorem awM{k:CK}(h:k∈kq l o):dI l k.1=O/\dI l k.2=O:=by
 grind [kq,Bw,aDM]
theorem ace(l:ba)(o:Obj):(kq l o).length<=J o.gT:=by
 grind [kq,mB]
theorem afa(id:ag):∀(g:pX)(d:pX×(Q_)),(∀k,k∈(g.foldl (jA id) d).1->k∈d.1\/k∈g)/\∀k y,y∈(g.foldl (jA id) d).2 k->y∈d.2 k\/(y=id/\k∈g)
 |[],d=>⟨λ_ h=>.inl h,λ_ _ h=>.inl h⟩
 |j::g,d=>by
  let⟨h1,h2⟩:=afa id g (jA id d j)
  have z:∀k,k∈(jA id d j).1->k∈d.1\/k=j:=λk w=>by
   grind [jA,rQ]
  have x:∀k y,y∈(jA id d j).2 k->y∈d.2 k\/(y=id/\k=j):=λk y u=>by
   unfold jA at u;cases e:(d.2 j).contains id;rw[e]at u
   grind [lM]
   rw[e]at u;exact .inl u
  grind
theorem SD(l:ba):∀(os:ba)(d:pX×(Q_)),(∀k,k∈(os.foldl (iO l) d).1->k∈d.1\/∃o∈os,k∈kq l o)/\∀k y,y∈(os.foldl (iO l) d).2 k->y∈d.2 k\/∃o∈os,y=o.id/\k∈kq l o
 |[],d=>⟨λ_ h=>.inl h,λ_ _ h=>.inl h⟩
 |o::os,d=>by
  let⟨h1,h2⟩:=SD l os (iO l d o)
  let⟨a1,a2⟩:=afa o.id (kq l o) d
  refine⟨λk u=>?_,λk y g=>?_⟩;rcases h1 k u with h|⟨q,j,h⟩
  rcases a1 k h with h|h<;>grind
  grind
  rcases h2 k y g with h|⟨q,j,h⟩
  rcases a2 k y h with h|h<;>grind
  grind
theorem aAu{k:CK}(h:k∈(gW l).1):∃o∈l,k∈kq l o:=by
 rcases(SD l l ([],λ_=>[])).1 k h with h|h
 cases h;exact h
def ad0{k:CK}{y:ag}(h:y∈(gW l).2 k):∃o∈l,y=o.id/\k∈kq l o:=by
 rcases(SD l l ([],λ_=>[])).2 k y h with h|h
 cases h;exact h
theorem adj(l:ba)(k:CK):∀(os:ba)(d:pX×(Q_)),((os.foldl (iO l) d).2 k).length<=(d.2 k).length+(os.flatMap (kq l)).length
 |[],_=>Nat.le_add_right _ _
 |o::os,d=>by
  have g:=adj l k os (iO l d o)
  grind [NX,iO]
theorem aAw(l:ba)(k:CK):((gW l).2 k).length<=(l.flatMap (kq l)).length:=by
 grind [gW,adj]
theorem axR{k:CK}:k∈iB l↔k∈(gW l).1:=(H1 _).mem_iff
theorem RT{k:CK}(h:k∈iB l):dI l k.1=O/\dI l k.2=O:=by
 grind [aAu,axR,awM]
theorem ayA(g:bw l=O){r:ag}(h:dI l r=O):bU (eM l r)=O:=by
 let⟨q,hq,hk⟩:=J6 h
 unfold bw at g;simp only[bh]at g;have d:=rR l [] g.1 q (oA hq).1;rw[HJ hq];unfold dC at d
 let⟨_,d⟩:=(λh=>⟨trivial,h⟩:_->True/\_) d
 cases e1:lz q with
 |true=>rw[e1]at d;cases d
 |false=>
 rw[e1]at d;cases e2:qW q.mT [] [] q.gT with
 |true=>rw[e2]at d;cases d
 |false=>
 rw[e2,hk]at d;have d:(J q.gT==0&&zU q.x q.y)=O:=d
 grind [zU,bV,aQ,bU]
theorem aDu(d:bw l=O){k:CK}(h:k∈iB l):qv (oD l k)=O:=by
 grind [RT,qv,oD,ayA]
def FI(l:ba):pX:=(gw ((iB l).map (oD l))).flatMap λx=>
 let a:=(iB l).getD x.1.toNat ([],[])
 let b:=(iB l).getD x.2.1.toNat ([],[])
 bif Ew a b x.2.2 then []else((gW l).2 a).flatMap λu=>((gW l).2 b).map λy=>fI u y
def zq(l:ba):cf:=(iB l).flatMap λk=>[k.1,k.2]
def LC(l:ba):pX:=(zq l).flatMap λx=>((zq l).filter λy=> !(x==y)&&(aj (eM l x).1 (eM l y).1&&aj (eM l x).2 (eM l y).2)).map λy=>fI x y
def uL(l:ba):pX:=(LC l++FI l).foldl (λK k=>eT k K) []
theorem U5{k:CK}:∀{l K:pX},k∈l.foldl (λK k=>eT k K) K↔k∈K\/k∈l
 |[],K=>by simp
 |j::l,K=>by
  rw[AF,U5,rQ,dG]
  grind
def U6:∀{l K:pX},K.Nodup->(l.foldl (λK k=>eT k K) K).Nodup
 |[],_,h=>h
 |j::l,K,h=>by
  rw[AF];exact U6 (yU h)
def Vw(l:ba):(uL l).Nodup:=U6 Cv
def acI{k:CK}:k∈uL l↔k∈LC l\/k∈FI l:=by
 unfold uL;rw[U5,fA];simp
theorem acJ{k:CK}:k∈LC l↔∃x y,x∈zq l/\y∈zq l/\x≠y/\eM l x=eM l y/\k=fI x y:=by
 grind [aj,LC]
theorem arY(T:CK->Nat){k:CK}:(∃x∈gw ((iB l).map (oD l)),xf ((iB l).map λk=>(k,(gW l).2 k,T k)) x k)↔k∈FI l:=by
 unfold FI;rw[sD];refine exists_congr λx=>and_congr_right λd=>?_;have g:=NZ d;rw[bj]at g;have h:∀i:Int,0<=i->i<(iB l).length->((iB l).map λk=>(k,(gW l).2 k,T k)).getD i.toNat iZ=((iB l).getD i.toNat ([],[]),(gW l).2 ((iB l).getD i.toNat ([],[])),T ((iB l).getD i.toNat ([],[]))):=λi u j=>by
  grind
 grind [xf]
theorem alI{x:ag}(h:x∈zq l):∃q∈l,q.id=x:=by
 unfold zq at h
 let⟨k,hk,hx⟩:=sD.1 h
 let⟨h1,h2⟩:=RT hk
 let⟨q1,g1,_⟩:=J6 h1
 let⟨q2,g2,_⟩:=J6 h2
 simp only[dG,pF,or_false]at hx;rcases hx with rfl|rfl
 exact⟨q1,oA g1⟩;exact⟨q2,oA g2⟩
theorem Vu{k:CK}(h:k∈uL l):k.1∈l.map Obj.id/\k.2∈l.map Obj.id:=by
 have ids:∀{x y:ag},x∈l.map Obj.id->y∈l.map Obj.id->(fI x y).1∈l.map Obj.id/\(fI x y).2∈l.map Obj.id:=λ{x y} g d=>by
  grind [abW]
 rcases acI.1 h with h|h
 obtain⟨x,y,g,d,_,_,rfl⟩:=acJ.1 h
 grind [alI]
 unfold FI at h
 let⟨x,_,h⟩:=sD.1 h
 cases e:Ew ((iB l).getD x.1.toNat ([],[])) ((iB l).getD x.2.1.toNat ([],[])) x.2.2;simp only[e,cF,sD,cC]at h;obtain⟨u,j,y,d,rfl⟩:=h;obtain⟨z,B,rfl,_⟩:=ad0 j;obtain⟨w,A,rfl,_⟩:=ad0 d
 grind [List.mem_map_of_mem]
 simp only[e,cT]at h;cases h
theorem Vv(l:ba):(uL l).length<=J l*J l:=by
 have h:=ac9 (L:=(l.map Obj.id).flatMap λx=>(l.map Obj.id).map λy=>(x,y)) (Vw l) λk d=>by
  grind [Vu]
 have g:=Pf (f:=λx=>(l.map Obj.id).map λy=>(x,y)) (n:=J l) (l:=l.map Obj.id) λx _=>by
  grind
 grind
theorem ads{a b:CK}(h:iM a=iM b):a=b:=by
 grind [iM]
def qB(K:pX):pX:=(jM jS dV (K.map λk=>(k,0))).map (·.1)
def aEN(L:f_):SWO (ltOf λx y:Fin (J L)=>eB jS dV L x y):=MZ afy λi:Fin (J L)=>iM (L.getD i dV).1
variable{K:pX}
def aEg{L:f_}(h:(L.map (·.1)).Perm K):(jM jS dV L).map (·.1)=qB K:=by
 have g:((jM jS dV L).map (·.1)).Perm (qB K):=by
  refine(((vS jS dV L).map _).trans h).trans ?_;refine(((vS jS dV (K.map λk=>(k,0))).map (·.1)).trans ?_).symm;rw[kW];exact .of_eq (List.map_id K)
 have d:∀L:f_,((jM jS dV L).map (·.1)).Pairwise λa b=>¬fU (iM b) (iM a)<0:=λL=>by
  rw[ux];exact MQ jS dV L (aEN L)
 refine g.eq_of_pairwise (λa b _ _ u j=>?_) (d L) (d _);exact ads (afM (by simp_all [ltOf]) (by simp_all [ltOf]))
theorem azh{L:f_}(h:(L.map (·.1)).Perm K)(g:K.Nodup)(j:J K<=1000000):BJ L=O:=by
 simp only[BJ,dE];have d:=h.length_eq
 grind [ads]
theorem ayC{α:Type}[DecidableEq α]{K L:List α}(h1:K.Nodup)(d:L.Nodup)(h:∀x,x∈K↔x∈L):K.Perm L:=by
 grind
end Go.Proofs.YtnhmcokmdhgpbaaGreat
namespace Go.Proofs.YtnhmcokmdhgpbaaGreat
open Tryz
open Go.Ag
def pO:de:=[(36,gV),(118,A3)]
def agN:eh pO:=.cons xC (.cons ahG .nil)
noncomputable def pP:nX:=[(114,MR),(69,EG)]
def aha:qV pP:=.cons aEb (.cons aEf .nil)
def Ch(l:ba):aa:=dS 3 ((qB (uL l)).map λk=>mG (k,0))
theorem Xm{g:W_}:∀{a b c d:az},cK g a=X c->cK g b=X d->cK g (a++b)=X (c++d)
 |[],b,c,d,h1,h2=>by
   cases h1;exact h2
 |x::a,b,c,d,h1,h2=>by
  simp only[cK,an,aR]at h1;obtain⟨u,w,r,h,rfl⟩:=h1;have j:=Xm h h2
  grind [cK]
theorem Xo{h:aC aI}:∀{L:f_},(∀x∈L,Ga h.get x)->∃m,cK (bW h m) (au (L.map gY))=X (au (L.map mG))
 |[],_=>⟨0,rfl⟩
 |x::L,hi=>by
  let⟨k,hk⟩:=af9 (hi x gG)
  let⟨m1,h1⟩:=Pq hk
  let⟨m2,h2⟩:=Xo (L:=L) λy d=>hi y (iE _ d)
  refine⟨max m1 m2,?_⟩
  grind [au,Xm,zx,Dj,Nat.le_max_right]
variable{s:St}{v:aa}
theorem an1{L:f_}(hi:∀x∈L,Ga s.heap.get x)(h:gI 3 s v (L.map gY)):eY s.heap v (dS 3 (L.map mG)):=by
 rcases h with⟨rfl,j⟩|⟨g,n,rfl,u,_⟩
 have j:=pE.1 j;subst j;exact⟨1,rfl⟩
 let⟨m,hm⟩:=Xo hi
 refine⟨m+1,?_⟩;have u:s.heap.get n=X (.cells (au (L.map gY))):=u;have z:cut (au (L.map gY)) 0 ((L.map gY).length*3)=X (au (L.map gY)):=by
  have:=nH (k:=3) (λv d=>Uc (R:=L) v d);simp only[cut,kz,fa];rw[nh w_,this];simp
 have e:dS 3 (L.map mG)=.list 3 (L.map mG) .no:=by
  rcases L with _|⟨x,xs⟩
  exact absurd rfl g;rfl
 have y:(L.map gY).length=(L.map mG).length:=by rw[bj,bj]
 have w:=Oz (k:=3) (l:=L.map mG) λv d=>by
  obtain⟨a,_,rfl⟩:=cC.1 d;exact R_
 grind [bW,aB]
def ahE{segs:wj}(h:J segs<=1000):(gw segs).length<=1000000:=by
 have d:=HF (F:=fM) (jU 0 segs);rw[xh]at d;have:J segs*J segs<=1000*1000:=nP h h;unfold gw;omega
theorem aCN{a b:Nat×Nat}(h:(vN a).cells=(vN b).cells):a=b:=by
 grind [vN,lZ]
theorem arA{g:M_}{x:jm}(h:g x.2=X (.cells (A8 x.1))):Ga g x:=by
 refine⟨Es x.1,h,?_⟩
 grind [jp,Es]
variable{lo:Nat}{ov:aa}
def aD4{Q:ay}[Std Q](j:Q.spec 69=Z)(h:Q.specW 69=X EG){d:f_}(B:NL lo s ov d)(U:BJ d=O):
 ∃s',ai Q 69 [ov,.func (.func 70) [] []] s (.tup []) s'/\eY s'.heap ov (dS 3 ((jM jS dV d).map mG)):=by
 have z:=vS jS dV d;rcases B.row with⟨rfl,w⟩|⟨w,k,rfl,Y,A⟩
 have w:=pE.1 w;subst w;refine⟨s,ai.specW0 j (Std.H _) h rfl,?_⟩;rw[List.Perm.eq_nil z];exact⟨1,rfl⟩;have hid:=λx g=>(B.ids x g).1;have u:∀x∈d,x.2≠k:=λx g e=>(B.ids x g).2.2.2 (by rw[e];rfl);have G:(d.map gY).length=J d:=bj ..;have y:em (s.get []) (bif aB (au (d.map gY)).length ((d.map gY).length*3)then Og k (uS vN (au (d.map gY)))else .ret Z)=X (.agg (au ((jM jS dV d).map gY))):=by
  have h1:(au (d.map gY)).length=(d.map gY).length*3:=nH λv F=>Uc v F;have h2:d.map gY=(d.map λx=>(x.2,jp x.1)).map vN:=by rw[kW];rfl
  have h3:uS vN (au (d.map gY))=X (d.map λx=>(x.2,jp x.1)):=by
   rw[h2];exact Jx (k:=3) (λ_=>rfl) d_ (λa b=>aCN) _
  rw[h1,fa,bS,cT,h3];have h4:(d.map λx=>(x.2,jp x.1)).all (λx=> !(x.1==k))=O:=by
   rw[fK];intro x g;obtain⟨a,ha,rfl⟩:=cC.1 g;simpa using u a ha
  show em (s.get []) (bif(d.map λx=>(x.2,jp x.1)).all (λx=> !(x.1==k))then wL (d.map λx=>(x.2,jp x.1)) λL=>rX (bif BJ L then X (au ((jM jS dV L).map gY))else Z)else .ret Z)=_;rw[h4,cT,Vq hid,U];rfl
 refine⟨_,ai.specW (n:=k) (cs':=au ((jM jS dV d).map gY)) j (Std.H _) h rfl Y y,?_⟩;refine an1 (λx g=>arA ?_) (.inr ⟨λe=>?_,k,?_,?_,A⟩);have g:=z.mem_iff.1 g;have:(s.put k (X (.cells (au ((jM jS dV d).map gY))))).get [] x.2=s.get [] x.2:=by
  rw[aN,bN.2 (u x g)];rfl
 exact this.trans (hid x g)
 simp_all
 rw[bj,bj,z.length_eq];rw[aN,bS];rfl
variable{l:ba}
theorem ajR(ch:cE)(ho:aq 6 Obj.val ov l)(hg:∀o∈l,o.rf)(hl:J l<=900)(hr:∀o∈l,J o.gT<=999)(hv:bw l=O)(g:(iB l).length<=1000)(g0:s.gE<=s.aL):
 ∃v s',ai (QW pO pP ch) 40 [.agg [ov]] s v s'/\eY s'.heap v (Ch l):=by
 have l2:Std (QW pO pP ch):=inferInstance;have hK:∀i,1000000<=(QW pO pP ch).kmax i:=λ_=>aD _;have i1:(QW pO pP ch).spec 36=X gV:=rfl;have f1:(QW pO pP ch).spec 118=X A3:=rfl;have i7:No (QW pO pP ch) 40:=R_;have j:No (QW pO pP ch) 65:=R_;have a6:(QW pO pP ch).spec 69=Z:=rfl;have b0:(QW pO pP ch).specW 69=X EG:=rfl;have f2:(QW pO pP ch).spec 114=Z:=rfl;have a9:(QW pO pP ch).specW 114=X MR:=rfl;generalize QW pO pP ch=Q at*;have l0:=ho.cs;have i6:(l.flatMap (kq l)).length<=J l*999:=Pf λo h=>dj (ace l o) (hr o h);have k4:J l*999<=900*999:=Nat.mul_le_mul_right _ hl;have j7:=adZ l;refine ai.ofNRZ auA (aM ?_);simp only[go_sem,seval];have f6:=ay0 i1 ho hg w_ (rz hv) hv g0;refine aV.ex f6 d_ ?_;rintro v s1 ⟨rfl,e0,e9⟩;have n1:s1.aL=s.aL+1:=e9.aL;simp only[go_sem,seval,sB];have f5:=awN hK f2 a9 j ho hg w_ hr w_ (n:=s.aL) e0 w_ e9.mw;refine aV.ex f5 d_ ?_;rintro v d ⟨⟨r,c,T,rfl,d5,j5⟩,d1,k2,c7,_⟩;obtain⟨R,B⟩:=cw ((iB l).map (λk=>(k,(gW l).2 k,T k)));have g4:(iB l).length=J R:=by rw[<-B,bj]
 have g8:((iB l).map λk=>ie (k,(gW l).2 k,T k))=R.map ie:=by rw[<-B,kW];rfl
 rw[g4]at g⊢;rw[g8]at d5;have l1:∀x∈R,dI l x.1.1=O/\dI l x.1.2=O:=λx hx=>by
  grind [RT]
 have d4:∀x∈R,(∃q,ct x.1.1 l=X q)/\∃q,ct x.1.2 l=X q:=λx hx=>by
  grind [J6]
 have h8:bg aa.str d s.aL (iA 0 l):=(d1 _ w_).trans e0;have cn:aa.nilm.cells=[.nilm]:=rfl;obtain⟨z,hz⟩:=cw (((d.new (.map [] 0)).new (.cells [.nilm])).put (d.aL+1) (X (.cells [.map d.aL])));have c2:(d.new (.map [] 0)).aL=d.aL+1:=rfl;have zn:z.aL=d.aL+2:=by rw[<-hz];rfl
 have zb:z.get [] (d.aL+1)=X (.cells [.map d.aL]):=by rw[<-hz,aN,bS];rfl
 have zm:z.get [] d.aL=X (.map [] 0):=by
  rw[<-hz,aN,bN.2 (by omega:d.aL≠d.aL+1),cF,cV (by rw[c2];omega)];exact cu
 have zo:∀k,k<d.aL->z.get [] k=d.get [] k:=λk hk=>by
  grind [aN,cV]
 have zw:z.gE<=z.aL:=by
  rw[<-hz];exact cG _ _ _ (cr (cr c7))
 have g1:((d.new (.map [] 0)).new (.cells [.nilm])).get [] (d.aL+1)=X (.cells [.nilm]):=cu
 let⟨y,hy,_,yw,yo,ym⟩:=ow (.map [] 0) zw
 have yn:y.aL=d.aL+3:=by rw[<-hy];show z.aL+1=_;omega
 have yM:bg aa.str y s.aL (iA 0 l):=((yo _ w_).trans (zo _ w_)).trans h8;have a7:y.get [] (d.aL+1)=X (.cells [.map d.aL]):=(yo _ w_).trans zb;have yR:y.get [] r=X (.cells (au (R.map ie))):=((yo _ w_).trans (zo _ w_)).trans d5;have yS:Fk l y y z.aL d.aL (z.aL+1) (qd []) [] [] (λ_=>[]) (λ_=>0):=by
  refine⟨⟨ym,Cv,λ_ h=>(by cases h),λ_ h=>(by cases h),λ_ _=>rfl,gN _,w_⟩,(yo _ w_).trans zm,λ_ _ _ _=>rfl,⟨λq id=>?_,λk=>?_,Cv,λ_=>fN _⟩,aD _,yw⟩;simp[qd];simp[qd]
 simp only[go_sem,seval,jq,dl,g1,du,R5,cn,c2,hz,hy,sB];refine aiE j ho (n:=s.aL) (bx:=d.aL+1) (ma:=z.aL) (mb:=d.aL) (lo:=z.aL+1) (r:=r) (c:=c) w_ w_ w_ w_ w_ w_ w_ w_ w_ w_ w_ (s0:=y) yM a7 g yR d4 ?_ R [] _ _ y [] [] _ _ rfl yS ⟨?_,?_,?_,?_,?_,?_,?_⟩ ?_ ?_ ?_
 ·intro e3 j4 Y f7 K3 V3 T3 S3 E3
  have a3:∀k,k<z.aL->k≠d.aL->Y.get [] k=y.get [] k:=λk U h2=>S3.fr k w_ w_ h2;have j1:=S3.nx;simp only[go_sem,seval,E3.h5,R5,sB];refine aiM (N:=J R) g (lo:=Y.aL) (s0:=Y) (E0:=e3) ?_ (J R) 0 _ Y .uP rfl (.inl R_) (λ_ _=>rfl) S3.mw (aD _) ?_ ?_ ?_ ?_ ?_ ?_ ?_
  ·intro e4 s4 lv d7 d0 c6 i5 i2 g3 g5 g6 g7
   let⟨w,hw,wn,ww,wo,_⟩:=ow (.map [] 0) c6
   have wm:bg aX w s4.aL []:=by rw[<-hw];exact cu
   have a2:∀k,k<Y.aL->w.get [] k=Y.get [] k:=λk U=>(wo k w_).trans (d0 k U);have a0:∀k,k<z.aL->k≠d.aL->w.get [] k=y.get [] k:=λk U h2=>(a2 k w_).trans (a3 k U h2);have wM:bg aa.str w s.aL (iA 0 l):=(a0 _ w_ w_).trans yM;have wR:w.get [] r=X (.cells (au (R.map ie))):=(a0 _ w_ w_).trans yR;have f3:=aDx (Q:=Q) ho (n:=s.aL) (r:=r) (c:=c) g d4 wM wR w_ w_ ww;have f9:=d7.gt;have k3:=g3.trans E3.h3;have k5:=g5.trans E3.h5;have k6:=g6.trans E3.h6;have k7:=g7.trans E3.h7;simp only[go_sem,seval,k3,k5,E3.l3,jq,hw,sB];refine aV.ex f3 d_ ?_;rintro sv s5 ⟨b8,a5,k1,c5⟩;have f8:=b8.gt;have c0:(R.map λx=>oD l x.1)=(iB l).map (oD l):=by rw[<-B,kW];rfl
   have F:(R.map λx=>oD l x.1).length=J R:=bj ..;have a8:∀x∈R.map (λx=>oD l x.1),qv x=O:=λx hx=>by
    grind [aDu]
   have f4:=axJ f1 b8 (lv:=lv) (by rw[F];exact d7.isL) (by rw[F];exact g) a8 (m:=s4.aL) ((a5 _ w_).trans wm) w_ c5;simp only[go_sem,seval,f8,i2,f9,sB];refine aV.ex f4 d_ ?_;rintro v s6 ⟨rfl,H,c9,k0,c4⟩;obtain⟨M,G⟩:=cw (gw (R.map λx=>oD l x.1));have h0:J M<=1000000:=by rw[<-G];exact ahE (by rw[F];exact g)
   have h4:∀x∈M,(0<=x.1/\x.1<J R)/\(0<=x.2.1/\x.2.1<J R):=λx hx=>by
    rw[<-G]at hx
    have:=NZ hx;rwa [F]at this
   have g2:∀x∈R,J x.2.1<=1000000:=λx hx=>by
    grind [aAw]
   rw[G]at H;have c1:=hJ.new aFP H;have hI:=hJ.begin H w_;obtain⟨u,hu⟩:=cw (s6.new (.iter (X s4.aL) (mR M).length [] (mR M).length));rw[hu]at c1 hI;have un:u.aL=s6.aL+1:=by rw[<-hu];rfl
   have uo:∀k,k<s6.aL->u.get [] k=s6.get [] k:=λk hk=>by rw[<-hu,cV hk]
   have uw:u.gE<=u.aL:=by rw[<-hu];exact cr c4
   have a1:∀k,k<Y.aL->u.get [] k=Y.get [] k:=λk U=>(uo k w_).trans ((c9 k w_ w_).trans ((a5 k w_).trans (a2 k U)));have A:∀k,k<z.aL->k≠d.aL->u.get [] k=y.get [] k:=λk U h2=>(a1 k w_).trans (a3 k U h2);simp only[go_sem,seval,FW,c1,sB];refine aiJ hK j (it:=s6.aL) (mf:=s4.aL) (bx:=d.aL+1) (mb:=d.aL) (r:=r) (c:=c) (lo:=s6.aL+1) (M:=M) h0 (R:=R) g h4 g2 w_ w_ w_ w_ w_ w_ w_ w_ w_ w_ w_ w_ (s0:=u) ((uo _ w_).trans H) ((A _ w_ w_).trans a7) ((A _ w_ w_).trans yR) (KB0:=f7) (E0:=e4) ?_ (J M) [] _ _ u f7 (by simp) hI (λk=>by simp) S3.i.nd ((a1 _ w_).trans S3.m) (λ_ _ _ _=>rfl) (aD _) w_ uw ?_ ?_ ?_ ?_
   ·intro e7 j3 s7 KB7 e2 b6 e6 c8 j8 c3 i0
    have Kv:=i0.trans k6;have d2:s7.get [] (d.aL+1)=X (.cells [.map d.aL]):=((c8 _ w_ w_ w_).trans (A _ w_ w_)).trans a7;have e1:KB7.Perm (uL l):=ayC b6 (Vw l) λk=>by
     rw[e2,acI,acJ,S3.i.b,<-G,c0];have he:qd R=zq l:=by
      rw[<-B];unfold qd zq;rw[List.flatMap_map]
     rw[he];refine or_congr Iff.rfl ?_;rw[<-B];exact arY T
    have h9:J KB7<1000000:=by
     rw[e1.length_eq];have U:=Vv l;have h2:J l*J l<=900*900:=nP hl hl;omega
    have a4:=hJ.new aFO e6;have e5:=hJ.begin e6 w_;obtain⟨t,ht⟩:=cw (s7.new (.iter (X d.aL) (jC KB7).length [] (jC KB7).length));rw[ht]at a4 e5;have tn:t.aL=s7.aL+1:=by rw[<-ht];rfl
    have tw:t.gE<=t.aL:=by rw[<-ht];exact cr c3
    simp only[go_sem,seval,Kv,d2,FW,a4,sB];refine aiQ hK (it:=s7.aL) (mb:=d.aL) (lo:=s7.aL+1) (KB:=KB7) h9 w_ w_ w_ ?_ (J KB7) [] _ _ t .uP [] (by simp) e5 rfl ⟨.inl R_,λ_ h=>(by cases h),λ_ h=>(by cases h)⟩ w_ tw ?_ ?_;intro e8 j2 s8 i8 i3 hp d6 i4 f0;have b1:=d6.row.gt
    let⟨s9,c134,hfz⟩:=aD4 a6 b0 d6 (azh hp b6 w_)
    simp only[go_sem,seval,f0,b1,a6,sB];refine aV.of c134 d_ ?_;simp only[go_sem,seval,f0,b1];refine⟨_,rfl,?_⟩;have e:Ch l=dS 3 ((jM jS dV i3).map mG):=by
     unfold Ch;rw[<-aEg (hp.trans e1),kW];rfl
    rw[e];exact hfz
    all_goals simp only[sN,seval]
   all_goals simp only[sN,seval,k5,k7]
  all_goals simp only[sN,seval]
  all_goals rfl
 all_goals simp only[aaj,u6,cI,bn]
 all_goals rfl
def md(l:ba):Bool:=bw l&&(decide (J l<=900)&&(l.all (λo=>decide (J o.gT<=999))&&decide ((iB l).length<=1000)))
structure Ut (l:ba):Prop where
 valid:bw l=true
 len:l.length<=900
 gT:∀o∈l,o.gT.length<=999
 keys:(iB l).length<=1000
def oh:md l=O↔Ut l:=by
 unfold md;simp only[bh,dE,fK];exact⟨λ⟨a,b,c,d⟩=>⟨a,b,c,d⟩,λ⟨a,b,c,d⟩=>⟨a,b,c,d⟩⟩
def CR:Sp
 |[v]=>(lY v).bind λl=>bif md l then X (Ch l)else Z
 |_=>Z
def aiP:da ae 40 CR:=by
 intro args u d G h w xs z A;unfold CR at d;split at d;simp only[an]at d
 let⟨l,x,d⟩:=d
 let⟨g,d⟩:=bf d
 have d:=sI d;subst d;obtain⟨v,rfl,x,y,F⟩:=qX x
 let⟨ht,v',j,hl'⟩:=pg x y
 have j:di [.agg [v]]=[.agg [v']]:=by simp only[di,j]
 have g:=oh.1 g;refine jd agN aha (args:=[.agg [v]]) (by simp only[dW,ht,cj]) (λB=>?_) G h w xs z A;rw[j];exact ajR B hl' y g.len g.gT g.valid g.keys d_;cases d
variable{Q:ay}[Std Q]
def ayh(p:Pt):bU p=(bV (-2097152) (min p.1 p.2)&&bV (max p.1 p.2) 2097152):=by
 rw[Bool.eq_iff_iff];simp only[bU,bV,aQ,bh,m9,dE,decide_eq_false_iff_not];omega
def ahK(r:nt):(!r.any λp=> !bU p)=r.all bU:=by
 induction r with
 |nil=>rfl
 |cons p r d=>
  rw[List.any_cons,pD,Bool.not_or,d,Bool.not_not]
def acY(d:No Q 255)(p:Pt)(s:St):ai Q 255 [aX p] s (.bool (bU p)) s:=by
 refine ai.ofNZ aud (aM ?_);rw[ayh];cases e1:bV (-2097152) (min p.1 p.2);simp only[go_sem,seval,aX,uM,e1];simp only[go_sem,seval,aX,wP,uM,e1]
def am8(d:No Q 255)(p:Pt)(s:St):ai Q 254 [aX p] s (.bool (!bU p)) s:=by
 refine ai.ofNZ auc ?_;have g:=acY d p s;refine aM ?_;simp only[aX]at g;simp only[go_sem,seval,aX];refine aV.of g d_ ?_;simp only[go_sem,seval]
variable{sv:aa}
def apb{l:nt}(j:aq 2 aX sv l)(d:J l<=1000000){g:FuncId}{cap:az}(h:Q.spec g=Z){p:Pt->Bool}(u:∀x∈l,ai Q g (aX x::cap) s (.bool (p x)) s):ai Q 253 [sv,.func (.func g) [] cap] s (.bool (l.any p)) s:=
 F5 ajH arQ m6 j (ED d) (λx _=>⟨(Mj _ 0).trans rfl,rfl⟩) h u
def aeC(h:No Q 255)(y:No Q 203){r:nt}(w:aq 2 aX sv r)(s:St):ai Q 203 [sv] s (.bool (oC r)) s:=by
 have g:=w.gt;have d:=w.lenS m6;have A:oC r=(bV 3 ((J r:Nat):Int)&&(bV ((J r:Nat):Int) 2000&&!r.any λp=> !bU p)):=by
  have u:bV 3 ((J r:Nat):Int)=decide (3<=J r):=decide_eq_decide.2 w_;have j:bV ((J r:Nat):Int) 2000=decide (J r<=2000):=decide_eq_decide.2 w_;rw[ahK,u,j];rfl
 refine ai.ofNZ atJ (aM ?_);rw[A];cases u:bV 3 ((J r:Nat):Int);simp only[go_sem,seval,g,d,u];cases j:bV ((J r:Nat):Int) 2000;simp only[go_sem,seval,g,d,u,j];have B:J r<=2000:=by simp only[bV,dE]at j;omega
 have z:=apb (Q:=Q) w w_ (nJ 254) (cap:=[]) (s:=s) (p:=λp=> !bU p) λx _=>am8 h x s;simp only[go_sem,seval,g,d,u,j];refine aV.of z d_ ?_;simp only[go_sem,seval]
variable{i:Nat}{p:Pt}
def ae8{r:nt}{q:Pt}(h1:r[i]?=X p)(d:r[(i+1) % J r]?=X q):eW r i=(p,q):=by
 unfold eW;rw[h1,d];rfl
variable{K:gk}{bx:Nat}{P:j_}{D:F_}{rv:aa}
def aDJ{r:nt}(A:aq 2 aX rv r)(a5:J r<=2000){n:Nat}(hb:∀i s,P i s->s.get [] bx=X (.cells [rv]))(Y:∀i s,P i s->s.gE<=s.aL)(H:∀i s,i<J r->P i s->∃v s',iH Q n [ak i,cd (eW r i)] s.top v s'/\(s'.ci=s.ci/\s.aL<=s'.aL/\((v=.bool O/\P (i+1) (s.xW s'))\/(v=.bool I/\D (s.xW s')))))(hx:∀e lc s,P (J r) s->K (.exit 0) ⟨e,27,lc⟩ s)(hd:∀e lc s,D s->K .ret ⟨e,27,lc⟩ s):
 ∀(rest d:nt)(e:aw)(lc:Ag.Loc)(s:St),r=d++rest->P (J d) s->ac e 0=.yld n->ac e 1=.ptr bx 0->ac e 5=rv->ac e 6=ak (J r)->ac e 7=ak (J d)->W Q 207 (.loop Qu) ⟨e,27,lc⟩ s K:=by
 intro rest
 induction rest with
 |nil=>
  intro d e lc s G x h0 j h5 F B;have y:=cz G;refine aF ?_;simp only[go_sem,seval,Qu,F,B,y,bJ];exact hx _ _ _ (by rw[<-y];exact x)
 |cons p rest ih=>
  intro d e lc s G x h0 j h5 F B
  let⟨hlt,hat⟩:=cH G
  have a1:=λlc k=>A.at m6.2.2.1 hat lc k;have u:=cm (n:=J d) w_;have g:0<J r:=w_
  have w:=aeD (a:=J d+1) (b:=J r) g;obtain⟨q,hq⟩:∃q,r[(J d+1) % J r]?=X q:=⟨_,dp (wA _ g)⟩;have z:=λlc k=>A.at m6.2.2.1 hq lc k;have h:=ae8 hat hq;have a3:=A.gt;have a0:=A.lenS m6;have a4:=hb _ _ x;have hm:=Y _ _ x
  let⟨v,s1,hy,hc1,hc2,hc3⟩:=H (J d) s hlt x
  rw[h]at hy;simp only[cd]at hy;refine aF ?_;simp only[go_sem,seval,Qu,h5,F,B,hlt,a1,aX,h0,j,u,a3,a4,tW,a0,w,z,sB,hm];refine Ij.of hy hc1 hc2 d_ (by simp[eU,jN]) ?_;rcases hc3 with⟨rfl,U⟩|⟨rfl,a2⟩
  ·simp only[go_sem,seval,B,u]
   refine ih (d++[p]) _ _ (s.xW s1) (by rw[G];simp) (by rw[bK];exact U) ?_ ?_ ?_ ?_ ?_
   all_goals simp only[sN,seval,h0,j,h5,F,sA]
  simp only[go_sem,seval];exact hd _ _ _ a2
def B6{r:nt}(j:aq 2 aX rv r)(d:J r<=2000){n:Nat}(A:∀i s,P i s->s.get [] bx=X (.cells [rv]))(u:∀i s,P i s->s.gE<=s.aL)(g:∀i s,i<J r->P i s->∃v s',iH Q n [ak i,cd (eW r i)] s.top v s'/\(s'.ci=s.ci/\s.aL<=s'.aL/\((v=.bool O/\P (i+1) (s.xW s'))\/(v=.bool I/\D (s.xW s')))))(z:P 0 s):
 ∃v s',ai Q 207 [.yld n,.ptr bx 0] s v s'/\(v=.tup []/\(P (J r) s'\/D s')):=by
 have y:=A _ _ z;have w:=j.lenS m6;have x:=j.gt;refine ai.ofNRZ atQ (aM ?_);simp only[go_sem,seval,y,tW,w,x];refine aDJ j d A u g ?_ ?_ r [] _ _ s rfl z ?_ ?_ ?_ ?_ ?_;intro e lc B h;simp only[go_sem,seval];exact⟨_,rfl,rfl,.inl h⟩;intro e lc B h;simp only[go_sem,seval];exact⟨_,rfl,rfl,.inr h⟩
 all_goals simp only[sN,seval,bn]
 all_goals rfl
def B5{r:nt}(g:aq 2 aX rv r)(s:St):ai Q 128 [rv] s (.func (.func 207) [] [.ptr s.aL 0]) (s.new (.cells [rv])):=by
 have d:=g.cs;refine ai.ofNZ asU (aM ?_);simp only[go_sem,seval,d]
noncomputable abbrev mj(E:aw)(x:Du):aI:=.loop 122 E 54 [21,22] Gk Gm x
def agf{a b:Nat}(h:b<=a)(j:a<=100000):IntKind.i64.wrap (((a:Nat):Int)-((b:Nat):Int))=((a-b:Nat):Int):=by
 have g:mC ((a:Nat):Int)=O:=by unfold mC;simp only[bh,dE];omega
 have d:mC ((b:Nat):Int)=O:=by unfold mC;simp only[bh,dE];omega
 rw[MP g d];omega
def Yj(a b:Nat):aj ((a:Nat):Int) ((b:Nat):Int)=(a==b):=by
 rw[Bool.eq_iff_iff];simp only[aj,bE];omega
def BT{r:nt}(d:r.all bU=O)(hi:i<J r):bU (eW r i).1=O/\bU (eW r i).2=O:=by
 have h:=fK.1 d;have g:(i+1) % J r<J r:=wA _ w_;unfold eW;rw[dp hi,dp g];exact⟨h _ (AI _),h _ (AI _)⟩
structure gR (r:nt) (i:Nat) (s0 s:St):Prop where
 old:∀j,j<s0.aL->s.get [] j=s0.get [] j
 mw:s.gE<=s.aL
 lt:s0.aL<s.aL
 ci:s.ci=s0.ci
variable{b2 b3 b4 b5:Nat}{E:aw}
def aDQ(U:Q.spec 119=X kH){r:nt}(a8:J r<=2000)(hn:r.all bU=O)(hi:i<J r){s0:St}(H:s0.get [] b2=X (.cells [.bool I]))(a7:s0.get [] b3=X (.cells [ak (J r)]))(a6:s0.get [] b4=X (.cells [ak i]))(a5:s0.get [] b5=X (.cells (cd (eW r i)).cells))(l2:b2<s0.aL)(l3:b3<s0.aL)(l4:b4<s0.aL)(l5:b5<s0.aL)(e2:ac E 2=.ptr b2 0)(e3:ac E 3=.ptr b3 0)(e4:ac E 4=.ptr b4 0)(e5:ac E 5=.ptr b5 0){k:Nat}(hk:k<J r)(a3:k<=i)(Y:gR r i s0 s)(hl:s.get [] s0.aL=X (mj E Z)):
 ∃v s',iH Q s0.aL [ak k,cd (eW r k)] s.top v s'/\(s'.ci=s.ci/\s.aL<=s'.aL/\gR r i s0 (s.xW s')/\((v=.bool O/\s'.get [] s0.aL=X (mj E Z)/\k<i/\mX r i k=O)\/(v=.bool I/\((s'.get [] s0.aL=X (mj E (X (.exit 2)))/\k=i)\/(s'.get [] s0.aL=X (mj E (X .ret))/\k<i/\mX r i k=I))))):=by
 let⟨n1,n2⟩:=BT hn hi
 let⟨n3,n4⟩:=BT hn hk
 have hq:=Se n1 n2 n3 n4;have a9:=Y.lt;have a2:=Y.mw;refine iH.any (ca:=P0) (cb:=Ke) (show s.top.get [] s0.aL=_ from hl) rfl rfl asJ asN ?_;refine aM ?_;obtain⟨w,G⟩:=cw (s.top.put s0.aL Z);have wn:w.aL=s.aL:=by rw[<-G];rfl
 have wo:∀j,j≠s0.aL->w.get [] j=s.get [] j:=λj A=>by rw[<-G,aN,bN.2 A];rfl
 obtain⟨z,u⟩:=cw ((w.new (.cells [ah 0,ah 0,ah 0,ah 0])).put w.aL (X (.cells (cd (eW r k)).cells)));simp only[cd,lZ]at u;have a4:(w.new (.cells [ah 0,ah 0,ah 0,ah 0])).get [] w.aL=X (.cells [ah 0,ah 0,ah 0,ah 0]):=cu;simp only[go_sem,seval,P0,cd,G,dl,a4,du,u,sB];have zn:z.aL=s.aL+1:=by rw[<-u,<-wn];rfl
 have zc:z.ci=s.ci:=by rw[<-u,<-G];rfl
 have zm:z.gE<=z.aL:=by
  rw[<-u];exact cG _ _ _ (by show w.gE<=w.aL+1;rw[<-G];exact cr (cG s.top _ _ (aD _)))
 have zk:z.get [] w.aL=X (.cells (cd (eW r k)).cells):=by rw[<-u,aN,bS];rfl
 have h:∀j,j<s0.aL->z.get [] j=s0.get [] j:=λj A=>by
  rw[<-u,aN,bN.2 (by omega:j≠w.aL),cF,cV w_,wo j w_];exact Y.old j A
 have z2:=(h b2 l2).trans H;have z3:=(h b3 l3).trans a7;have z4:=(h b4 l4).trans a6;have z5:=(h b5 l5).trans a5;have fin:∀(d:St)(o:Du),(∀j,j<s0.aL->d.get [] j=s0.get [] j)->d.aL=s.aL+1->d.ci=s.ci->d.gE<=d.aL->(d.put s0.aL (X (mj E o))).ci=s.ci/\s.aL<=(d.put s0.aL (X (mj E o))).aL/\gR r i s0 (s.xW (d.put s0.aL (X (mj E o))))/\(d.put s0.aL (X (mj E o))).get [] s0.aL=X (mj E o):=λd o q1 q2 q3 q4=>by
  have qn:(d.put s0.aL (X (mj E o))).aL=s.aL+1:=q2;refine⟨q3,w_,⟨λj A=>?_,mU a2 w_,?_,?_⟩,by rw[aN,bS];rfl⟩;rw[jH,aN,bN.2 (by omega:j≠s0.aL)];exact q1 j A;show s0.aL<(d.put s0.aL (X (mj E o))).aL;omega;exact q3.trans Y.ci
 obtain⟨M,hM⟩:=cw (kS (eW r i) (eW r k));rw[hM]at hq;have x:mX r i k=bif(aj ((i-k:Nat):Int) 1||aj ((i-k:Nat):Int) ((J r-1:Nat):Int))then aj M 1 else aj M 0:=by
  have h1:aj ((i-k:Nat):Int) 1=(i-k==1):=Yj (i-k) 1;unfold mX;rw[hM,h1,Yj]
 have a1:=agf a3 w_;have a0:IntKind.i64.wrap (((J r:Nat):Int)-1)=((J r-1:Nat):Int):=agf (a:=J r) (b:=1) w_ w_;refine aM ?_;simp only[cd,lZ]at hq z5 zk;by_cases hE:k=i;subst hE;have B:bV ((k:Nat):Int) ((k:Nat):Int)=O:=by simp[bV]
 simp only[go_sem,seval,Ke,e4,z4,B,lA,lI]
 let⟨f1,f2,f3,f4⟩:=fin z (X (.exit 2)) h zn zc zm
 exact⟨f1,f2,f3,.inr (.inl f4)⟩
 ·have g:k<i:=by omega
  have B:bV ((i:Nat):Int) ((k:Nat):Int)=I:=by simp only[bV,decide_eq_false_iff_not];omega
  obtain⟨y,F⟩:=cw (z.put b2 (X (.cells [.bool I])));have yn:y.aL=s.aL+1:=by rw[<-F];exact zn
  have yc:y.ci=s.ci:=by rw[<-F];exact zc
  have ym:y.gE<=y.aL:=by rw[<-F];exact cG _ _ _ zm
  have yo:∀j,j<s0.aL->y.get [] j=s0.get [] j:=λj A=>by
   rw[<-F,aN];cases e:j==b2;exact h j A
   have:=eq_of_beq e;subst this;exact H.symm
  let⟨f1,f2,f3,f4⟩:=fin z Z h zn zc zm
  let⟨g1,g2,g3,g4⟩:=fin y (X .ret) yo yn yc ym
  cases c1:aj ((i-k:Nat):Int) 1<;>cases c2:aj ((i-k:Nat):Int) ((J r-1:Nat):Int)<;>cases c3:aj M 1<;>cases c4:aj M 0<;>simp only[c1,c2,c3,c4,Bool.or_true,Bool.or_false,cT,cF]at x<;>simp only[go_sem,seval,Ke,e2,e3,e4,e5,z2,z3,z4,z5,zk,B,lA,lI,U,hq,bD,a1,a0,c1,c2,c3,c4,dl,du,F]
  all_goals first
   |exact⟨f1,f2,f3,.inl ⟨f4,g,x⟩⟩
   |exact⟨g1,g2,g3,.inr (.inr ⟨g4,g,x⟩)⟩
def aDR(w:Q.spec 119=X kH){r:nt}(hr:aq 2 aX rv r)(d:J r<=2000)(hn:r.all bU=O)(hi:i<J r){s0:St}(F:s0.get [] bx=X (.cells [rv]))(Y:s0.get [] b2=X (.cells [.bool I]))(U:s0.get [] b3=X (.cells [ak (J r)]))(H:s0.get [] b4=X (.cells [ak i]))(G:s0.get [] b5=X (.cells (cd (eW r i)).cells))(lx:bx<s0.aL)(l2:b2<s0.aL)(l3:b3<s0.aL)(l4:b4<s0.aL)(l5:b5<s0.aL)(e2:ac E 2=.ptr b2 0)(e3:ac E 3=.ptr b3 0)(e4:ac E 4=.ptr b4 0)(e5:ac E 5=.ptr b5 0)(A:s0.gE<=s0.aL):
 ∃v s',ai Q 207 [.yld s0.aL,.ptr bx 0] (s0.new (mj E Z)) v s'/\(v=.tup []/\gR r i s0 s'/\((s'.get [] s0.aL=X (mj E (X (.exit 2)))/\∀k,k<i->mX r i k=O)\/(s'.get [] s0.aL=X (mj E (X .ret))/\∃k,k<i/\mX r i k=I))):=by
 obtain⟨v,s',g,rfl,h⟩:=B6 hr d (bx:=bx) (n:=s0.aL) (P:=λk s=>gR r i s0 s/\s.get [] s0.aL=X (mj E Z)/\k<=i/\∀j,j<k->mX r i j=O) (D:=λs=>gR r i s0 s/\((s.get [] s0.aL=X (mj E (X (.exit 2)))/\∀k,k<i->mX r i k=O)\/(s.get [] s0.aL=X (mj E (X .ret))/\∃k,k<i/\mX r i k=I))) (λk s h=>(h.1.old bx lx).trans F) (λk s h=>h.1.mw) (λk s hk ⟨hI,hl,B,u⟩=>by
  let⟨v,s',q1,q2,q3,q4,q5⟩:=aDQ w d hn hi Y U H G l2 l3 l4 l5 e2 e3 e4 e5 hk B hI hl
  refine⟨v,s',q1,q2,q3,?_⟩;rcases q5 with⟨rfl,x,z,h3⟩|⟨rfl,⟨x,z⟩|⟨x,z,h3⟩⟩
  refine .inl ⟨rfl,q4,x,w_,λj y=>?_⟩;by_cases e:j=k;subst e;exact h3;exact u j w_;subst z;exact .inr ⟨rfl,q4,.inl ⟨x,u⟩⟩;exact .inr ⟨rfl,q4,.inr ⟨x,k,z,h3⟩⟩) (s:=s0.new (mj E Z)) ⟨⟨λj y=>cV y,cr A,gN _,rfl⟩,cu,fN _,λj y=>absurd y (wB _)⟩
 refine⟨_,s',g,rfl,?_⟩;rcases h with⟨_,_,h,_⟩|h
 omega;exact h
noncomputable abbrev qs(E:aw)(x:Du):aI:=.loop 122 E 54 [17,18] Gl Gn x
def ru:tu ae 207=O:=k_
def vM{r:nt}(h:aq 2 aX rv r):jr rv=O:=by
 rcases h with⟨rfl,_⟩|⟨_,rfl⟩<;>rfl
def aDP(y:Q.spec 119=X kH){r:nt}(hr:aq 2 aX rv r)(g:J r<=2000)(hn:r.all bU=O)(hi:i<J r){s0:St}(H:s0.get [] bx=X (.cells [rv]))(a1:s0.get [] b2=X (.cells [.bool I]))(a0:s0.get [] b3=X (.cells [ak (J r)]))(Y:s0.get [] b4=X (.cells [ak i]))(U:s0.get [] b5=X (.cells (cd (eW r i)).cells))(lx:bx<s0.aL)(l2:b2<s0.aL)(l3:b3<s0.aL)(l4:b4<s0.aL)(l5:b5<s0.aL)(e2:ac E 2=.ptr b2 0)(e3:ac E 3=.ptr b3 0)(e4:ac E 4=.ptr b4 0)(e5:ac E 5=.ptr b5 0)(z:ac E 20=.func (.func 207) [] [.ptr bx 0])(hE:E.all jr=O)(F:s0.gE<=s0.aL)(hk:∀x s2,gR r i s0 s2->((x=.exit 2/\∀k,k<i->mX r i k=O)\/(x=.ret/\∃k,k<i/\mX r i k=I))->K x ⟨E,54,[]⟩ s2):W Q 122 (.rfun (.tmp 20) [21,22] Gk Gm) ⟨E,54,[]⟩ s0 K:=by
 obtain⟨v,s',d,rfl,A,h⟩:=aDR y hr g hn hi H a1 a0 Y U lx l2 l3 l4 l5 e2 e3 e4 e5 F;have w:gR r i s0 (s'.put s0.aL Z):=⟨λj hj=>by rw[aN,bN.2 (by omega:j≠s0.aL)];exact A.old j hj,cG _ _ _ A.mw,A.lt,A.ci⟩;rcases h with⟨G,B⟩|⟨G,u⟩
 exact nR (h:=207) (first:=[]) (captured:=[.ptr bx 0]) (v:=.tup []) (s1:=s') (by simp only[eC,z]) (by rw[Std.P,ru,Y9,hE];rfl) d G (hk _ _ w (.inl ⟨rfl,B⟩));exact nR (h:=207) (first:=[]) (captured:=[.ptr bx 0]) (v:=.tup []) (s1:=s') (by simp only[eC,z]) (by rw[Std.P,ru,Y9,hE];rfl) d G (hk _ _ w (.inr ⟨rfl,u⟩))
def aDN(U:Q.spec 119=X kH){r:nt}(Y:aq 2 aX rv r)(G:J r<=2000)(hn:r.all bU=O)(hi:i<J r){s0:St}(a7:s0.get [] bx=X (.cells [rv]))(a9:s0.get [] b2=X (.cells [.bool I]))(a8:s0.get [] b3=X (.cells [ak (J r)]))(lx:bx<s0.aL)(l2:b2<s0.aL)(l3:b3<s0.aL)(e1:ac E 1=.ptr bx 0)(e2:ac E 2=.ptr b2 0)(e3:ac E 3=.ptr b3 0)(hE:E.all jr=O)(hI:gR r 0 s0 s)(hl:s.get [] s0.aL=X (qs E Z)):
 ∃v s',iH Q s0.aL [ak i,cd (eW r i)] s.top v s'/\(s'.ci=s.ci/\s.aL<=s'.aL/\gR r 0 s0 (s.xW s')/\((v=.bool O/\s'.get [] s0.aL=X (qs E Z)/\∀k,k<i->mX r i k=O)\/(v=.bool I/\s'.get [] s0.aL=X (qs E (X .ret))/\∃k,k<i/\mX r i k=I))):=by
 have b0:=hI.lt;have a3:=hI.mw;have a6:=Y.gt;refine iH.any (ca:=P1) (cb:=P2) (show s.top.get [] s0.aL=_ from hl) rfl rfl asM asO ?_;refine aM ?_;obtain⟨w,F⟩:=cw (s.top.put s0.aL Z);have wn:w.aL=s.aL:=by rw[<-F];rfl
 have wc:w.ci=s.ci:=by rw[<-F];rfl
 have wo:∀j,j≠s0.aL->w.get [] j=s.get [] j:=λj A=>by rw[<-F,aN,bN.2 A];rfl
 have wm:w.gE<=w.aL:=by rw[<-F];exact cG s.top _ _ (aD _)
 let⟨z,hz,_,zm,zo,zk⟩:=yZ (.cells [ah 0]) (.cells [ak i]) wm
 have zn:z.aL=s.aL+1:=by rw[<-hz,<-wn];rfl
 let⟨y,hy,_,ym,yo,yk⟩:=yZ (.cells [ah 0,ah 0,ah 0,ah 0]) (.cells (cd (eW r i)).cells) zm
 have yn:y.aL=s.aL+2:=by
  rw[<-hy];show z.aL+1=_;omega
 have yc:y.ci=s.ci:=by rw[<-hy,<-hz];exact wc
 have g:∀j,j<s0.aL->y.get [] j=s0.get [] j:=λj A=>by rw[yo j w_,zo j w_,wo j w_];exact hI.old j A
 have a0:=(g bx lx).trans a7;simp only[cd,lZ]at hy;have a5:(w.new (.cells [ah 0])).get [] w.aL=X (.cells [ah 0]):=cu;have a4:(z.new (.cells [ah 0,ah 0,ah 0,ah 0])).get [] z.aL=X (.cells [ah 0,ah 0,ah 0,ah 0]):=cu;simp only[go_sem,seval,P1,cd,F,dl,a5,a4,du,hz,hy,sB];refine aM ?_;have u:=B5 (Q:=Q) Y y
 let⟨x,hx,_,xm,xo,xk⟩:=ow (.cells [rv]) ym
 have xn:x.aL=s.aL+3:=by
  rw[<-hx];show y.aL+1=_;omega
 have xc:x.ci=s.ci:=by rw[<-hx];exact yc
 have d:∀j,j<s0.aL->x.get [] j=s0.get [] j:=λj A=>(xo j w_).trans (g j A);rw[hx]at u;simp only[go_sem,seval,P2,e1,a0,tW,a6];refine aV.of u d_ ?_;simp only[go_sem,seval];have a1:=vM Y;refine aDP U Y G hn hi (bx:=y.aL) (b2:=b2) (b3:=b3) (b4:=w.aL) (b5:=z.aL) (s0:=x) xk ((d b2 l2).trans a9) ((d b3 l3).trans a8) ?_ ?_ w_ w_ w_ w_ w_ ?_ ?_ ?_ ?_ ?_ ?_ xm ?_;rw[xo _ w_,yo _ w_];exact zk;rw[xo _ w_];exact yk;simp only[sN,seval,e2];simp only[sN,seval,e3];simp only[sN,seval];simp only[sN,seval];simp only[sN,seval];exact aC.all_set (aC.all_set (aC.all_set (aC.all_set (aC.all_set (aC.all_set hE rfl) rfl) rfl) rfl) a1) rfl;intro ex h B hc;have n2:=B.lt;have g1:∀(o:Du),(h.put s0.aL (X (qs E o))).ci=s.ci/\s.aL<=(h.put s0.aL (X (qs E o))).aL/\gR r 0 s0 (s.xW (h.put s0.aL (X (qs E o))))/\(h.put s0.aL (X (qs E o))).get [] s0.aL=X (qs E o):=λo=>by
  have qn:(h.put s0.aL (X (qs E o))).aL=h.aL:=rfl;have qc:(h.put s0.aL (X (qs E o))).ci=s.ci:=B.ci.trans xc;refine⟨qc,w_,⟨λj A=>?_,mU a3 w_,?_,qc.trans hI.ci⟩,by rw[aN,bS];rfl⟩;rw[jH,aN,bN.2 (by omega:j≠s0.aL)];exact(B.old j w_).trans (d j A);show s0.aL<h.aL;omega
 rcases hc with⟨rfl,a2⟩|⟨rfl,H⟩
 let⟨f1,f2,f3,f4⟩:=g1 Z
 exact⟨f1,f2,f3,.inl ⟨rfl,f4,a2⟩⟩
 let⟨f1,f2,f3,f4⟩:=g1 (X .ret)
 exact⟨f1,f2,f3,.inr ⟨rfl,f4,H⟩⟩
def Za:(dR Gl&&dR Gn)=O:=k_
def afc{r:nt}(h:oC r=O):(jL r=O↔∀i,i<J r->∀k,k<i->mX r i k=O):=by
 unfold jL;rw[h,jf,fK];simp only[yB,fK]
def aDS{r:nt}{k:Nat}(hi:i<J r)(g:k<i)(h:mX r i k=I):jL r=I:=by
 cases e:jL r;rfl;have d:oC r=O:=by unfold jL at e;simp only[bh]at e;exact e.1
 have:=(afc d).1 e i hi k g;rw[h]at this;cases this
def Em{r:nt}(h:oC r=O):(3<=J r/\J r<=2000)/\r.all bU=O:=by
 unfold oC at h;simp only[bh,dE]at h;exact⟨⟨h.1,h.2.1⟩,h.2.2⟩
variable{lc:Ag.Loc}
def aDO(F:Q.spec 119=X kH){r:nt}(hr:aq 2 aX rv r)(u:oC r=O){by':Nat}{s0:St}(a0:s0.get [] bx=X (.cells [rv]))(Y:s0.get [] by'=X (.cells [rv]))(a2:s0.get [] b2=X (.cells [.bool I]))(a1:s0.get [] b3=X (.cells [ak (J r)]))(lx:bx<s0.aL)(ly:by'<s0.aL)(l2:b2<s0.aL)(l3:b3<s0.aL)(e1:ac E 1=.ptr bx 0)(e2:ac E 2=.ptr b2 0)(e3:ac E 3=.ptr b3 0)(G:ac E 16=.func (.func 207) [] [.ptr by' 0])(hE:E.all jr=O)(H:s0.gE<=s0.aL)(A:∀x s2,gR r 0 s0 s2->((x=.normal/\jL r=O)\/(x=.ret/\jL r=I))->K x ⟨E,54,lc⟩ s2):W Q 122 (.rfun (.tmp 16) [17,18] Gl Gn) ⟨E,54,lc⟩ s0 K:=by
 let⟨⟨l3',hlen⟩,hn⟩:=Em u
 obtain⟨v,s',g,rfl,h⟩:=B6 hr hlen (bx:=by') (n:=s0.aL) (P:=λi s=>gR r 0 s0 s/\s.get [] s0.aL=X (qs E Z)/\∀j,j<i->∀k,k<j->mX r j k=O) (D:=λs=>gR r 0 s0 s/\s.get [] s0.aL=X (qs E (X .ret))/\jL r=I) (λk s h=>(h.1.old by' ly).trans Y) (λk s h=>h.1.mw) (λi s hi ⟨d,hl,w⟩=>by
  let⟨v,s',q1,q2,q3,q4,q5⟩:=aDN F hr hlen hn hi a0 a2 a1 lx l2 l3 e1 e2 e3 hE d hl
  refine⟨v,s',q1,q2,q3,?_⟩;rcases q5 with⟨rfl,h1,h2⟩|⟨rfl,h1,k,h2,h3⟩
  refine .inl ⟨rfl,q4,h1,λj y k A=>?_⟩;by_cases e:j=i;subst e;exact h2 k A;exact w j w_ k A;exact .inr ⟨rfl,q4,h1,aDS hi h2 h3⟩) (s:=s0.new (qs E Z)) ⟨⟨λj y=>cV y,cr H,gN _,rfl⟩,cu,λj y=>absurd y (wB _)⟩
 have z:gR r 0 s0 s'->gR r 0 s0 (s'.put s0.aL Z):=λd=>⟨λj y=>by rw[aN,bN.2 (by omega:j≠s0.aL)];exact d.old j y,cG _ _ _ d.mw,d.lt,d.ci⟩;rcases h with⟨d,U,w⟩|⟨d,U,B⟩
 exact nR (h:=207) (first:=[]) (captured:=[.ptr by' 0]) (v:=.tup []) (s1:=s') (by simp only[eC,G]) (by rw[Std.P,ru,Za,hE];rfl) g U (A _ _ (z d) (.inl ⟨rfl,(afc u).2 w⟩));exact nR (h:=207) (first:=[]) (captured:=[.ptr by' 0]) (v:=.tup []) (s1:=s') (by simp only[eC,G]) (by rw[Std.P,ru,Za,hE];rfl) g U (A _ _ (z d) (.inr ⟨rfl,B⟩))
def aDT(A:No Q 255)(B:No Q 203)(U:Q.spec 119=X kH)(a5:No Q 122){r:nt}(z:aq 2 aX rv r)(a2:s.gE<=s.aL):
 ∃v s',ai Q 122 [rv] s v s'/\(v=.bool (jL r)/\(∀j,j<s.aL->s'.get [] j=s.get [] j)/\s.aL<=s'.aL/\s'.gE<=s'.aL/\s'.ci=s.ci):=by
 have H:=z.cs;have a0:=vM z;have a3:=z.lenS m6
 let⟨x,hx,xn,xm,xo,x0,x1⟩:=vt (.cells [rv]) (.cells [.bool I]) a2
 have a1:(s.new (.cells [rv])).aL=s.aL+1:=rfl;have xc:x.ci=s.ci:=by rw[<-hx];rfl
 have Y:=aeC A B z x;refine ai.ofNRZ asP (aM ?_);simp only[go_sem,seval,H,a1,hx,x0,tW];refine aV.of Y d_ ?_;cases hreg:oC r with
 |false=>
  have F:jL r=I:=by unfold jL;rw[hreg];rfl
  obtain⟨y,d⟩:=cw (x.put (s.aL+1) (X (.cells [.bool I])));have yk:y.get [] (s.aL+1)=X (.cells [.bool I]):=by rw[<-d,aN,bS];rfl
  simp only[go_sem,seval,dl,x1,du,d,yk];refine⟨_,rfl,by rw[F],λj G=>?_,?_,?_,?_⟩;rw[<-d,aN,bN.2 (by omega:j≠s.aL+1)];exact xo j G;rw[<-d];show s.aL<=x.aL;omega;rw[<-d];exact cG _ _ _ xm;rw[<-d];exact xc
 |true=>
  let⟨w,hw,_,wm,wo,wk⟩:=yZ (.cells [ah 0]) (.cells [ak (J r)]) xm
  have a4:(x.new (.cells [ah 0])).get [] x.aL=X (.cells [ah 0]):=cu;have wn:w.aL=s.aL+3:=by
   rw[<-hw];show x.aL+1=_;omega
  have wc:w.ci=s.ci:=by rw[<-hw];exact xc
  have w0:=(wo s.aL w_).trans x0;have g:=B5 (Q:=Q) z w
  let⟨u,hu,_,um,uo,uk⟩:=ow (.cells [rv]) wm
  have un:u.aL=s.aL+4:=by
   rw[<-hu];show w.aL+1=_;omega
  have uc:u.ci=s.ci:=by rw[<-hu];exact wc
  rw[hu]at g;simp only[go_sem,seval,x0,tW,H,a3,dl,a4,du,hw,w0];refine aV.of g d_ ?_;simp only[go_sem,seval];refine aDO U z hreg (bx:=s.aL) (by':=w.aL) (b2:=s.aL+1) (b3:=x.aL) (s0:=u) ?_ uk ?_ ?_ w_ w_ w_ w_ ?_ ?_ ?_ ?_ ?_ um ?_;rw[uo _ w_];exact w0;rw[uo _ w_,wo _ w_];exact x1;rw[uo _ w_];exact wk;simp only[sN,seval];simp only[sN,seval];simp only[sN,seval];simp only[sN,seval]
  ·repeat' (first|exact rfl|refine aC.all_set ?_ (by first|exact a0|rfl))
  intro ex s2 h hc;have n2:=h.lt;have b2:s2.get [] (s.aL+1)=X (.cells [.bool I]):=by rw[h.old _ w_,uo _ w_,wo _ w_];exact x1
  have old:∀j,j<s.aL->s2.get [] j=s.get [] j:=λj G=>by rw[h.old _ w_,uo _ w_,wo _ w_];exact xo j G
  rcases hc with⟨rfl,F⟩|⟨rfl,F⟩
  obtain⟨y,d⟩:=cw (s2.put (s.aL+1) (X (.cells [.bool O])));have yk:y.get [] (s.aL+1)=X (.cells [.bool O]):=by rw[<-d,aN,bS];rfl
  simp only[go_sem,seval,dl,b2,du,d,yk];refine⟨_,rfl,by rw[F],λj G=>?_,?_,?_,?_⟩;rw[<-d,aN,bN.2 (by omega:j≠s.aL+1)];exact old j G;rw[<-d];show s.aL<=s2.aL;omega;rw[<-d];exact cG _ _ _ h.mw;rw[<-d];exact h.ci.trans uc;simp only[go_sem,seval,b2];exact⟨_,rfl,by rw[F],old,w_,h.mw,h.ci.trans uc⟩
def qZ(v:aa):Option nt:=fH 2 ny v
def wK{r:nt}(h:qZ v=X r):aq 2 aX v r/\Ag.d8 v=O/\aq 2 aX (dh v) r:=by
 have d:aq 2 aX v r:=lX (λ_ _ h=>qY h) h;exact⟨d,qh Mb d⟩
theorem pR{r:nt}(h:aq 2 aX v r):qZ v=X r:=by
 rcases h with⟨rfl,rfl⟩|⟨k,rfl⟩
 rfl;show(bif aB 2 2 then jY ny (r.map aX)else Z)=_;exact BA Fw r
def pw:Sp
 |[v]=>(qZ v).bind λr=>X (.bool (jL r))
 |_=>Z
def MF{r:nt}(h:aq 2 aX v r):pw [v]=X (.bool (jL r)):=by
 simp only[pw,pR h,aH]
def UO:de:=[(119,kH)]
def agV:eh UO:=.cons Sf .nil
def MG:da ae 122 pw:=by
 intro g u h G y w xs j x;unfold pw at h;split at h;simp only[an]at h
 let⟨r,h1,h⟩:=h
 have h:=sI h;subst h
 let⟨_,h4,hr⟩:=wK h1
 refine jd agV (W:=[]) .nil (by simp only[dW,h4,cj]) (λz=>?_) G y w xs j x;obtain⟨v,s',d,rfl,_⟩:=aDT (Q:=QW UO [] z) R_ R_ rfl R_ hr (s:=s0) d_;exact⟨_,_,d,1,rfl⟩;cases h
def ij(p:Pt):Bool:=(bV (-4194304) p.1&&bV p.1 4194304)&&(bV (-4194304) p.2&&bV p.2 4194304)
def Uh(h:ij p=O):(-4194304<=p.1/\p.1<=4194304)/\(-4194304<=p.2/\p.2<=4194304):=by
 simp only[ij,bV,bh,dE]at h;exact h
def MY{x y:Int}(g: -4194304<=x/\x<=4194304)(d: -4194304<=y/\y<=4194304): -8388608<=x-y/\x-y<=8388608:=w_
def aFI(d:No Q 264){a b c:Pt}(H:ij a=O)(G:ij b=O)(F:ij c=O)(s:St):ai Q 264 [aX a,aX b,aX c] s (bD (vU a b c)) s:=by
 have⟨a1,a2⟩:=Uh H;have⟨b1,b2⟩:=Uh G;have⟨c1,c2⟩:=Uh F;have z:=EN b1 a1;have y:=EN c2 b2;have x:=EN b2 a2;have w:=EN c1 b1;have j:=MY b1 a1;have h:=MY c2 b2;have d3:=MY b2 a2;have g:=MY c1 b1;have B:=Hi j h;have A:=Hi d3 g;have Y:=DX j h;have U:=DX d3 g;have u:IntKind.i64.wrap ((b.1-a.1)*(c.2-b.2)-(b.2-a.2)*(c.1-b.1))=(b.1-a.1)*(c.2-b.2)-(b.2-a.2)*(c.1-b.1):=ka w_ w_;refine ai.ofNZ auf (aM ?_);simp only[go_sem,seval,aX,bD,vU,z,y,x,w,B,A,u,CQ]
def air(d:No Q 265)(a n b:Int)(s:St):ai Q 265 [ah a,ah n,ah b] s (.bool (rg a n b)) s:=by
 have g:rg a n b=(bV (min a b) n&&bV n (max a b)):=rfl;refine ai.ofNZ aug (aM ?_);rw[g];cases e1:bV (min a b) n;simp only[go_sem,seval,uM,e1];simp only[go_sem,seval,wP,uM,e1]
def Ar:Sp
 |[u,v,w]=>(ny u).bind λa=>(ny v).bind λb=>(ny w).bind λc=>bif ij a&&(ij b&&ij c)then X (bD (vU a b c))else Z
 |_=>Z
def aFF{a b c:Pt}(h:ij a=O)(g:ij b=O)(d:ij c=O):Ar [aX a,aX b,aX c]=X (bD (vU a b c)):=by
 simp only[fb,Ar,Fw,h,g,d]
def aFG:da ae 264 Ar:=by
 refine H3 (T:=[]) .nil (W:=[]) .nil λd u h=>?_;unfold Ar at h;split at h;simp only[an]at h
 let⟨a,h1,b,h2,c,h3,h⟩:=h
 let⟨h4,h⟩:=bf h
 simp only[bh]at h4;have h:=sI h;subst h;rw[qY h1,qY h2,qY h3];exact⟨rfl,λg=>⟨_,_,aFI (Q:=QW [] [] g) R_ h4.1 h4.2.1 h4.2.2 _,1,rfl⟩⟩;cases h
def wO:Sp
 |[.int .i64 a,.int .i64 n,.int .i64 b]=>X (.bool (rg a n b))
 |_=>Z
def aiq:da ae 265 wO:=by
 refine H3 (T:=[]) .nil (W:=[]) .nil λd u h=>?_;unfold wO at h;split at h;have h:=sI h;subst h;exact⟨rfl,λg=>⟨_,_,air (Q:=QW [] [] g) R_ _ _ _ _,1,rfl⟩⟩;cases h
theorem Ev(r:nt):(fJ r).length=J r:=by
 unfold fJ;rw[List.length_zip,bK,yA,jw];omega
def Eu{r:nt}(hi:i<J r):(fJ r)[i]?=X (eW r i):=by
 have d:(i+1) % J r<J r:=wA _ w_;rw[ae8 (dp hi) (dp d)];unfold fJ;rw[Nr];refine⟨dp hi,?_⟩;by_cases e:i+1<J r;have:i<J r.tail:=by rw[yA];omega
 rw[AG this,List.getElem?_tail,dp e];simp only[Fa e];have j:i+1=J r:=w_
 have:J r.tail<=i:=by rw[yA];omega
 rw[sw this,yA];have h:i-(J r-1)=0:=w_
 have g:(i+1) % J r=0:=by rw[j,Nat.mod_self]
 rw[h,we,iP w_];simp only[g];rw[dp]
noncomputable abbrev pf(E:aw)(x:Du):aI:=.loop 210 E 88 [11,12] GB GC x
structure NJ (e e':aw):Prop where
 h3:ac e' 3=ac e 3
 h4:ac e' 4=ac e 4
 h5:ac e' 5=ac e 5
 h7:ac e' 7=ac e 7
 h8:ac e' 8=ac e 8
variable{N:ir}{T:Int}{b7:Nat}{e:aw}{S:bG}
def aBE(d:Q.spec 265=X wO)(z:ac e 3=.ptr b3 0)(y:ac e 7=.ptr b7 0)(u:ac e 8=ah T)(x:s.get [] b3=X (.cells [ah p.1,ah p.2]))(j:s.get [] b7=X (.cells (cd S).cells))(h:∀w,ac w 19=.bool (aj T 0&&(rg S.1.1 p.1 S.2.1&&rg S.1.2 p.2 S.2.2))->NJ e w->N ⟨w,88,lc⟩ s):WV Q 210 GD ⟨e,88,lc⟩ s N:=by
 simp only[cd,lZ]at j;have g:wO [ah S.1.1,ah p.1,ah S.2.1]=X (.bool (rg S.1.1 p.1 S.2.1)):=rfl;have A:wO [ah S.1.2,ah p.2,ah S.2.2]=X (.bool (rg S.1.2 p.2 S.2.2)):=rfl;cases c1:aj T 0 with
 |false=>
  simp only[go_sem,seval,GD,u,c1];refine h _ ?_ ⟨?_,?_,?_,?_,?_⟩<;>simp only[sN,seval,c1,lO]
 |true=>
  cases c2:rg S.1.1 p.1 S.2.1 with
  |false=>
   rw[c2]at g;simp only[go_sem,seval,GD,z,y,u,x,j,c1,d,g];refine h _ ?_ ⟨?_,?_,?_,?_,?_⟩<;>simp only[sN,seval,c1,c2,lO,jQ]
  |true=>
   rw[c2]at g;simp only[go_sem,seval,GD,z,y,u,x,j,c1,d,g,A];refine h _ ?_ ⟨?_,?_,?_,?_,?_⟩<;>simp only[sN,seval,c1,c2,jf]
def aBF(u:ac e 3=.ptr b3 0)(j:ac e 7=.ptr b7 0)(x:ac e 8=ah T)(g:s.get [] b3=X (.cells [ah p.1,ah p.2]))(d:s.get [] b7=X (.cells (cd S).cells))(h:∀w,ac w 44=.bool (bV S.1.2 p.2&&(aQ p.2 S.2.2&&aQ 0 T))->NJ e w->N ⟨w,88,lc⟩ s):WV Q 210 Dz ⟨e,88,lc⟩ s N:=by
 simp only[cd,lZ]at d;cases c1:bV S.1.2 p.2 with
 |false=>
  simp only[go_sem,seval,Dz,u,j,g,d,c1];refine h _ ?_ ⟨?_,?_,?_,?_,?_⟩<;>simp only[sN,seval,c1,lO]
 |true=>
  cases c2:aQ p.2 S.2.2 with
  |false=>
   simp only[go_sem,seval,Dz,u,j,g,d,c1,c2];refine h _ ?_ ⟨?_,?_,?_,?_,?_⟩<;>simp only[sN,seval,c1,c2,lO,jQ]
  |true=>
   simp only[go_sem,seval,Dz,u,j,x,g,d,c1,c2];refine h _ ?_ ⟨?_,?_,?_,?_,?_⟩<;>simp only[sN,seval,c1,c2,jf]
def aBG(u:ac e 3=.ptr b3 0)(j:ac e 7=.ptr b7 0)(x:ac e 8=ah T)(g:s.get [] b3=X (.cells [ah p.1,ah p.2]))(d:s.get [] b7=X (.cells (cd S).cells))(h:∀w,ac w 65=.bool (aQ p.2 S.1.2&&(bV S.2.2 p.2&&aQ T 0))->NJ e w->N ⟨w,88,lc⟩ s):WV Q 210 Bu ⟨e,88,lc⟩ s N:=by
 simp only[cd,lZ]at d;cases c1:aQ p.2 S.1.2 with
 |false=>
  simp only[go_sem,seval,Bu,u,j,g,d,c1];refine h _ ?_ ⟨?_,?_,?_,?_,?_⟩<;>simp only[sN,seval,c1,lO]
 |true=>
  cases c2:bV S.2.2 p.2 with
  |false=>
   simp only[go_sem,seval,Bu,u,j,g,d,c1,c2];refine h _ ?_ ⟨?_,?_,?_,?_,?_⟩<;>simp only[sN,seval,c1,c2,lO,jQ]
  |true=>
   simp only[go_sem,seval,Bu,u,j,x,g,d,c1,c2];refine h _ ?_ ⟨?_,?_,?_,?_,?_⟩<;>simp only[sN,seval,c1,c2,jf]
structure lS (b5:Nat) (s0 s:St):Prop where
 old:∀j,j<s0.aL->j≠b5->s.get [] j=s0.get [] j
 mw:s.gE<=s.aL
 lt:s0.aL<s.aL
 ci:s.ci=s0.ci
variable{l:wj}
def aci{w:Int}:zK p (S::l) w=bif BK S p then 0 else zK p l (w+vZ S p):=rfl
def axm(a2:Q.spec 264=X Ar)(a1:Q.spec 265=X wO)(wa:ij S.1=O)(wb:ij S.2=O)(wp:ij p=O)(hi:i<=2000){s0:St}(a7:s0.get [] b3=X (.cells [ah p.1,ah p.2]))(a0:s0.get [] b4=X (.cells [ah 0]))(l3:b3<s0.aL)(l4:b4<s0.aL)(l5:b5<s0.aL)(d3:b3≠b5)(d4:b4≠b5)(e3:ac E 3=.ptr b3 0)(e4:ac E 4=.ptr b4 0)(e5:ac E 5=.ptr b5 0)(hI:lS b5 s0 s)(hl:s.get [] s0.aL=X (pf E Z)){n:Int}(a3:s.get [] b5=X (.cells [ah n]))(hn: -(i:Int)<=n/\n<=i):
 ∃v s',iH Q s0.aL [ak i,cd S] s.top v s'/\(s'.ci=s.ci/\s.aL<=s'.aL/\lS b5 s0 (s.xW s')/\((v=.bool O/\BK S p=I/\s'.get [] s0.aL=X (pf E Z)/\s'.get [] b5=X (.cells [ah (n+vZ S p)]))\/(v=.bool I/\BK S p=O/\s'.get [] s0.aL=X (pf E (X .ret))))):=by
 have a8:=hI.lt;have a5:=hI.mw;have hq:=aFF wa wb wp;obtain⟨T,hT⟩:=cw (vU S.1 S.2 p);rw[hT]at hq;simp only[aX,bD]at hq;have a4:BK S p=(aj T 0&&(rg S.1.1 p.1 S.2.1&&rg S.1.2 p.2 S.2.2)):=by rw[<-hT];rfl
 have d:vZ S p=bif(bV S.1.2 p.2&&(aQ p.2 S.2.2&&aQ 0 T))then 1 else bif(aQ p.2 S.1.2&&(bV S.2.2 p.2&&aQ T 0))then-1 else 0:=by rw[<-hT];rfl
 refine iH.any (ca:=QB) (cb:=QC) (show s.top.get [] s0.aL=_ from hl) rfl rfl atU atV ?_;refine aM ?_;obtain⟨w,hw⟩:=cw (s.top.put s0.aL Z);have wn:w.aL=s.aL:=by rw[<-hw];rfl
 have wo:∀j,j≠s0.aL->w.get [] j=s.get [] j:=λj x=>by rw[<-hw,aN,bN.2 x];rfl
 have wm:w.gE<=w.aL:=by rw[<-hw];exact cG s.top _ _ (aD _)
 obtain⟨z,G⟩:=cw ((w.new (.cells [ah 0,ah 0,ah 0,ah 0])).put w.aL (X (.cells (cd S).cells)));have zn:z.aL=s.aL+1:=by rw[<-G,<-wn];rfl
 have zc:z.ci=s.ci:=by rw[<-G,<-hw];rfl
 have zm:z.gE<=z.aL:=by rw[<-G];exact cG _ _ _ (cr wm)
 have zk:z.get [] w.aL=X (.cells (cd S).cells):=by rw[<-G,aN,bS];rfl
 have zs:∀j,j<s.aL->j≠s0.aL->z.get [] j=s.get [] j:=λj x g=>by rw[<-G,aN,bN.2 (by omega:j≠w.aL),cF,cV w_,wo j g]
 have U:∀j,j<s0.aL->j≠b5->z.get [] j=s0.get [] j:=λj x g=>(zs j w_ w_).trans (hI.old j x g);have z3:=(U b3 l3 d3).trans a7;have z4:=(U b4 l4 d4).trans a0;have z5:=(zs b5 w_ w_).trans a3;simp only[cd,lZ]at G;have a6:(w.new (.cells [ah 0,ah 0,ah 0,ah 0])).get [] w.aL=X (.cells [ah 0,ah 0,ah 0,ah 0]):=cu;simp only[go_sem,seval,QB,cd,hw,dl,a6,du,G,sB];have fin:∀(u:St)(o:Du),(∀j,j<s0.aL->j≠b5->u.get [] j=s0.get [] j)->u.aL=s.aL+1->u.ci=s.ci->u.gE<=u.aL->(u.put s0.aL (X (pf E o))).ci=s.ci/\s.aL<=(u.put s0.aL (X (pf E o))).aL/\lS b5 s0 (s.xW (u.put s0.aL (X (pf E o))))/\(u.put s0.aL (X (pf E o))).get [] s0.aL=X (pf E o)/\(u.put s0.aL (X (pf E o))).get [] b5=u.get [] b5:=λu o q1 q2 q3 q4=>by
  have qn:(u.put s0.aL (X (pf E o))).aL=s.aL+1:=q2;refine⟨q3,w_,⟨λj x g=>?_,mU a5 w_,?_,q3.trans hI.ci⟩,by rw[aN,bS];rfl,by rw[aN,bN.2 (by omega:b5≠s0.aL)];rfl⟩;rw[jH,aN,bN.2 (by omega:j≠s0.aL)];exact q1 j x g;show s0.aL<(u.put s0.aL (X (pf E o))).aL;omega
 refine aM ?_;have Y:=zk;simp only[cd,lZ]at Y;simp only[go_sem,seval,QC,e3,z3,Y,a2,hq];refine aBE a1 (b3:=b3) (b7:=w.aL) (p:=p) (S:=S) (T:=T) ?_ ?_ ?_ z3 zk ?_;simp only[sN,seval,e3];simp only[sN,seval];simp only[sN,seval];intro e1 A ⟨k3,k4,k5,k7,k8⟩;simp only[sN,seval,e3,e4,e5]at k3 k4 k5 k7 k8;rw[<-a4]at A;cases ho:BK S p with
 |true=>
  rw[ho]at A;obtain⟨y,h⟩:=cw (z.put b4 (X (.cells [ah 0])));have yo:∀j,j<s0.aL->j≠b5->y.get [] j=s0.get [] j:=λj x g=>by
   rw[<-h,aN];cases e:j==b4;exact U j x g
   have:=eq_of_beq e;subst this;exact a0.symm
  let⟨f1,f2,f3,f4,f5⟩:=fin y (X .ret) yo (by rw[<-h];exact zn) (by rw[<-h];exact zc) (by rw[<-h];exact cG _ _ _ zm)
  simp only[go_sem,seval,Dz,Bu,A,k4,z4,dl,du,h,lA,lI];exact⟨f1,f2,f3,.inr f4⟩
 |false=>
  rw[ho]at A;simp only[go_sem,seval,A];refine aBF (b3:=b3) (b7:=w.aL) (p:=p) (S:=S) (T:=T) k3 k7 k8 z3 zk ?_;intro b0 F ⟨j3,j4,j5,j7,j8⟩;cases h7:(bV S.1.2 p.2&&(aQ p.2 S.2.2&&aQ 0 T))with
  |true=>
   rw[h7]at F d;have d:vZ S p=1:=d;obtain⟨y,h⟩:=cw (z.put b5 (X (.cells [ah (n+1)])));have H:IntKind.i64.wrap (n+1)=n+1:=ka w_ w_;have yo:∀j,j<s0.aL->j≠b5->y.get [] j=s0.get [] j:=λj x g=>by rw[<-h,aN,bN.2 g];exact U j x g
   let⟨f1,f2,f3,f4,f5⟩:=fin y Z yo (by rw[<-h];exact zn) (by rw[<-h];exact zc) (by rw[<-h];exact cG _ _ _ zm)
   have y5:y.get [] b5=X (.cells [ah (n+1)]):=by rw[<-h,aN,bS];rfl
   simp only[go_sem,seval,Bu,F,j5,k5,z5,H,dl,du,h,lA,lI];exact⟨f1,f2,f3,.inl ⟨f4,by rw[d];exact f5.trans y5⟩⟩
  |false=>
   rw[h7]at F d;simp only[go_sem,seval,F];refine aBG (b3:=b3) (b7:=w.aL) (p:=p) (S:=S) (T:=T) (j3.trans k3) (j7.trans k7) (j8.trans k8) z3 zk ?_;intro a9 B ⟨i3,i4,i5,i7,i8⟩;cases h9:(aQ p.2 S.1.2&&(bV S.2.2 p.2&&aQ T 0))with
   |true=>
    rw[h9]at B d;have d:vZ S p= -1:=d;obtain⟨y,h⟩:=cw (z.put b5 (X (.cells [ah (n-1)])));have H:IntKind.i64.wrap (n-1)=n-1:=ka w_ w_;have yo:∀j,j<s0.aL->j≠b5->y.get [] j=s0.get [] j:=λj x g=>by rw[<-h,aN,bN.2 g];exact U j x g
    let⟨f1,f2,f3,f4,f5⟩:=fin y Z yo (by rw[<-h];exact zn) (by rw[<-h];exact zc) (by rw[<-h];exact cG _ _ _ zm)
    have y5:y.get [] b5=X (.cells [ah (n-1)]):=by rw[<-h,aN,bS];rfl
    simp only[go_sem,seval,B,i5,j5,k5,z5,H,dl,du,h,lA,lI];exact⟨f1,f2,f3,.inl ⟨f4,by rw[d];exact f5.trans y5⟩⟩
   |false=>
    rw[h9]at B d;have d:vZ S p=0:=d
    let⟨f1,f2,f3,f4,f5⟩:=fin z Z U zn zc zm
    simp only[go_sem,seval,B,lA,lI];exact⟨f1,f2,f3,.inl ⟨f4,by rw[d,Int.add_zero];exact f5.trans z5⟩⟩
def Z3:(dR GB&&dR GC)=O:=k_
def aGY{r:nt}(d:r.all ij=O)(hi:i<J r):ij (eW r i).1=O/\ij (eW r i).2=O:=by
 have h:=fK.1 d;have g:(i+1) % J r<J r:=wA _ w_;unfold eW;rw[dp hi,dp g];exact⟨h _ (AI _),h _ (AI _)⟩
def aGZ(S:bG)(p:Pt): -1<=vZ S p/\vZ S p<=1:=by
 unfold vZ;cases (bV S.1.2 p.2&&(aQ p.2 S.2.2&&aQ 0 (vU S.1 S.2 p)));cases (aQ p.2 S.1.2&&(bV S.2.2 p.2&&aQ (vU S.1 S.2 p) 0))<;>simp;simp
def axl(F:Q.spec 264=X Ar)(B:Q.spec 265=X wO){r:nt}(hr:aq 2 aX rv r)(z:J r<=2000)(hn:r.all ij=O)(wp:ij p=O){s0:St}(a1:s0.get [] bx=X (.cells [rv]))(a4:s0.get [] b3=X (.cells [ah p.1,ah p.2]))(a3:s0.get [] b4=X (.cells [ah 0]))(a2:s0.get [] b5=X (.cells [ah 0]))(lx:bx<s0.aL)(l3:b3<s0.aL)(l4:b4<s0.aL)(l5:b5<s0.aL)(dx:bx≠b5)(d3:b3≠b5)(d4:b4≠b5)(e3:ac E 3=.ptr b3 0)(e4:ac E 4=.ptr b4 0)(e5:ac E 5=.ptr b5 0)(G:ac E 10=.func (.func 207) [] [.ptr bx 0])(hE:E.all jr=O)(a0:s0.gE<=s0.aL)(hk:∀x H,lS b5 s0 H->((x=.normal/\∃w,H.get [] b5=X (.cells [ah w])/\qo r p=bif aj w 0 then-1 else 1)\/(x=.ret/\qo r p=0))->K x ⟨E,88,lc⟩ H):W Q 210 (.rfun (.tmp 10) [11,12] GB GC) ⟨E,88,lc⟩ s0 K:=by
 obtain⟨v,s',u,rfl,h⟩:=B6 hr z (bx:=bx) (n:=s0.aL) (P:=λi s=>lS b5 s0 s/\s.get [] s0.aL=X (pf E Z)/\∃w:Int,(-(i:Int)<=w/\w<=i)/\s.get [] b5=X (.cells [ah w])/\zK p ((fJ r).drop i) w=qo r p) (D:=λs=>lS b5 s0 s/\s.get [] s0.aL=X (pf E (X .ret))/\qo r p=0) (λk s h=>(h.1.old bx lx dx).trans a1) (λk s h=>h.1.mw) (λi s hi ⟨d,A,w,hw,h5,g⟩=>by
  let⟨wa,wb⟩:=aGY hn hi
  let⟨v,s',q1,q2,q3,q4,q5⟩:=axm F B wa wb wp (by omega:i<=2000) a4 a3 l3 l4 l5 d3 d4 e3 e4 e5 d A h5 hw
  rw[Wt (Eu hi),aci]at g;refine⟨v,s',q1,q2,q3,?_⟩;rcases q5 with⟨rfl,U,h1,h2⟩|⟨rfl,U,h1⟩
  rw[U]at g;have hb:=aGZ (eW r i) p;exact .inl ⟨rfl,q4,h1,_,w_,h2,g⟩;rw[U]at g;exact .inr ⟨rfl,q4,h1,g.symm⟩) (s:=s0.new (pf E Z)) ⟨⟨λj hj _=>cV hj,cr a0,gN _,rfl⟩,cu,0,by simp,(cV l5).trans a2,rfl⟩
 have y:lS b5 s0 s'->lS b5 s0 (s'.put s0.aL Z):=λd=>⟨λj hj Y=>by rw[aN,bN.2 (by omega:j≠s0.aL)];exact d.old j hj Y,cG _ _ _ d.mw,d.lt,d.ci⟩;rcases h with⟨d,g,w,hw,h5,A⟩|⟨d,g,A⟩
 refine nR (h:=207) (first:=[]) (captured:=[.ptr bx 0]) (v:=.tup []) (s1:=s') (by simp only[eC,G]) (by rw[Std.P,ru,Z3,hE];rfl) u g (hk _ _ (y d) (.inl ⟨rfl,w,?_,?_⟩));rw[aN,bN.2 (by omega:b5≠s0.aL)];exact h5;rw[<-A,EZ (by rw[Ev];exact aD _)];rfl;exact nR (h:=207) (first:=[]) (captured:=[.ptr bx 0]) (v:=.tup []) (s1:=s') (by simp only[eC,G]) (by rw[Std.P,ru,Z3,hE];rfl) u g (hk _ _ (y d) (.inr ⟨rfl,A⟩))
def axs(A:Q.spec 264=X Ar)(z:Q.spec 265=X wO)(a2:No Q 210){r:nt}(B:aq 2 aX rv r)(j:J r<=2000)(hn:r.all ij=O)(wp:ij p=O)(Y:s.gE<=s.aL):
 ∃v s',ai Q 210 [rv,aX p] s v s'/\v=ah (qo r p):=by
 have a1:=B.gt;have H:=vM B
 let⟨x,hx,xn,xm,_,x0,x1⟩:=vt (.cells [ah p.1,ah p.2]) (.cells [ah 0]) Y
 have U:(s.new (.cells [ah p.1,ah p.2])).aL=s.aL+1:=rfl
 let⟨w,hw,_,wm,wo,wk⟩:=yZ (.cells [ah 0]) (.cells [ah 0]) xm
 have a0:(x.new (.cells [ah 0])).get [] x.aL=X (.cells [ah 0]):=cu;have wn:w.aL=s.aL+3:=by
  rw[<-hw];show x.aL+1=_;omega
 have d:=B5 (Q:=Q) B w
 let⟨u,hu,_,um,uo,uk⟩:=ow (.cells [rv]) wm
 have un:u.aL=s.aL+4:=by
  rw[<-hu];show w.aL+1=_;omega
 rw[hu]at d;refine ai.ofNRZ atW (aM ?_);simp only[go_sem,seval,aX,a1,U,hx,a0,dl,du,hw];refine aV.of d d_ ?_;simp only[go_sem,seval];refine axl A z B j hn wp (bx:=w.aL) (b3:=s.aL) (b4:=s.aL+1) (b5:=x.aL) (s0:=u) uk ?_ ?_ ?_ w_ w_ w_ w_ w_ w_ w_ ?_ ?_ ?_ ?_ ?_ um ?_;rw[uo _ w_,wo _ w_];exact x0;rw[uo _ w_,wo _ w_];exact x1;rw[uo _ w_];exact wk;simp only[sN,seval];simp only[sN,seval];simp only[sN,seval];simp only[sN,seval]
 ·repeat' (first|exact rfl|refine aC.all_set ?_ (by first|exact H|rfl))
 intro ex G hI hc;have b4:G.get [] (s.aL+1)=X (.cells [ah 0]):=by rw[hI.old _ w_ w_,uo _ w_,wo _ w_];exact x1
 rcases hc with⟨rfl,wi,h5,g⟩|⟨rfl,g⟩
 cases hz:aj wi 0 with
 |true=>
  rw[hz]at g;obtain⟨y,h⟩:=cw (G.put (s.aL+1) (X (.cells [ah (-1)])));have F:y.get [] (s.aL+1)=X (.cells [ah (-1)]):=by rw[<-h,aN,bS];rfl
  simp only[go_sem,seval,h5,hz,dl,b4,du,h,F];exact⟨_,rfl,by rw[g];rfl⟩
 |false=>
  rw[hz]at g;obtain⟨y,h⟩:=cw (G.put (s.aL+1) (X (.cells [ah 1])));have F:y.get [] (s.aL+1)=X (.cells [ah 1]):=by rw[<-h,aN,bS];rfl
  simp only[go_sem,seval,h5,hz,dl,b4,du,h,F];exact⟨_,rfl,by rw[g];rfl⟩
 simp only[go_sem,seval,b4];exact⟨_,rfl,by rw[g]⟩
def vm:Sp
 |[u,v]=>(qZ u).bind λr=>(ny v).bind λp=>bif decide (J r<=2000)&&(r.all ij&&ij p)then X (bD (qo r p))else Z
 |_=>Z
def UQ:de:=[(264,Ar),(265,wO)]
def agW:eh UQ:=.cons aFG (.cons aiq .nil)
def acq{r:nt}(h:aq 2 aX v r)(h1:J r<=2000)(g:r.all ij=O)(d:ij p=O):vm [v,aX p]=X (bD (qo r p)):=by
 simp only[fb,vm,pR h,Fw,dQ h1,g,d]
def acr:da ae 210 vm:=by
 intro g u h G z w xs j x;unfold vm at h;split at h;simp only[an]at h
 let⟨r,h1,p,h2,h⟩:=h
 let⟨h3,h⟩:=bf h
 simp only[bh,dE]at h3;have h:=sI h;subst h
 let⟨_,h4,hr⟩:=wK h1
 have y:=qY h2;subst y;refine jd agW (W:=[]) .nil (by simp only[dW,h4,jf];rfl) (λA=>?_) G z w xs j x;obtain⟨v,s',d,rfl⟩:=axs (Q:=QW UQ [] A) rfl rfl R_ hr h3.1 h3.2.1 h3.2.2 (s:=s0) d_;exact⟨_,_,d,1,rfl⟩;cases h
def CD(sz lo:Nat)(s:St)(ov:aa)(xs:az):Prop:=∃k,ov=.list sz xs (.own k)/\s.get [] k=X .tok/\lo<=k/\k<s.aL
variable{xs:az}
def CD.gt{sz:Nat}(h:CD sz lo s ov xs):ov.gt=O:=by
 obtain⟨k,rfl,_⟩:=h;rfl
def ahM{t:TypeId}{E:EI}{sz:Nat}(G:jk ae t=X E)(z:E.n=sz)(F:E.b<=88){y y0:aa}(h:CD sz lo s ov xs)(u:cR [] E.g E.n y s=X [y0])(j:J xs<=900000)(A:s.gE<=s.aL):
 ∃d s',cL ae [] t ov y I s=X (d,s')/\CD sz lo s' d (xs++[y0])/\s'.ci=s.ci/\s.aL<=s'.aL/\s'.gE<=s'.aL/\(∀n,n<lo->s'.get [] n=s.get [] n):=by
 subst z;obtain⟨k,rfl,B,U,H⟩:=h;have w:eE (J xs+ [y0].length) E.b=O:=tY (by simp only[bT,bn];omega) F;refine⟨.list E.n (xs++[y0]) (.own s.aL),(s.put k Z).new .tok,?_,⟨s.aL,rfl,by rw[eA,kr,bS];rfl,w_,gN _⟩,rfl,io _,cr (cG s k Z A),λn x=>?_⟩;simp only[ce,cL,G,aH,u,fk,B,w,cj];rw[eA,kr,bN.2 w_,cF,aN,bN.2 w_];rfl
def Au(p:Pt):Pt:=(2*p.1,2*p.2)
def xF(h:bU p=O):(-2097152<=p.1/\p.1<=2097152)/\(-2097152<=p.2/\p.2<=2097152):=by
 simp only[bU,aQ,bh,m9,decide_eq_false_iff_not]at h;omega
def ak9{r:nt}(h:r.all bU=O):(od r).all ij=O:=by
 rw[fK];intro q d;obtain⟨p,g,rfl⟩:=cC.1 d
 have:=xF (fK.1 h p g);simp only[ij,bV,bh,dE];omega
def aFN(j:bU p=O)(s:St):ai Q 209 [aX p] s (aX (Au p)) s:=by
 have u:=xF j;have g:IntKind.i64.wrap (2*p.1)=2*p.1:=ka w_ w_;have d:IntKind.i64.wrap (2*p.2)=2*p.2:=ka w_ w_;have h:∃v s',ai Q 209 [aX p] s v s'/\(v=aX (Au p)/\s'=s):=by
  refine ai.ofNRZ atS (aM ?_);simp only[go_sem,seval,aX,Au,g,d,CQ,sB];exact⟨_,rfl,by simp[Au]⟩
 obtain⟨_,_,h,rfl,rfl⟩:=h;exact h
def axE{r:nt}(hr:aq 2 aX rv r)(a8:J r<=2000)(hn:r.all bU=O){s0:St}(hx:∀e lc s ov,CD 2 lo s ov ((od r).map aX)->(∀k,k<lo->s.get [] k=s0.get [] k)->s.gE<=s.aL->lo<=s.aL->s.ci=s0.ci->ac e 5=ov->K (.exit 0) ⟨e,25,lc⟩ s):
 ∀(rest d:nt)(e:aw)(lc:Ag.Loc)(s:St)(ov:aa),r=d++rest->CD 2 lo s ov ((od d).map aX)->(∀k,k<lo->s.get [] k=s0.get [] k)->s.gE<=s.aL->lo<=s.aL->s.ci=s0.ci->ac e 5=ov->ac e 1=.func (.func 209) [] []->ac e 11=rv->ac e 12=ak (J r)->ac e 13=ak (J d)->W Q 208 (.loop Qw) ⟨e,25,lc⟩ s K:=by
 intro rest
 induction rest with
 |nil=>
  intro d e lc s ov F B w u A x h5 h0 z h g;have Y:=cz F;have U:d=r:=by rw[F];simp
  refine aF ?_;simp only[go_sem,seval,Qw,h,g,Y,bJ];rw[U]at B;exact hx _ _ _ ov B w u A x (by simp only[sN,seval,h5])
 |cons p rest ih=>
  intro d e lc s ov F B w u A x h5 h0 z h g
  let⟨hlt,hat⟩:=cH F
  have a0:=λlc k=>hr.at m6.2.2.1 hat lc k;have H:=cm (n:=J d) w_;have hp:=fK.1 hn p (co hat);have j:=aFN (Q:=Q) hp s;have G:=B.gt
  let⟨ov',s1,a1,a2,a3,a4,a5,a6⟩:=ahM (t:=154) m6.1 rfl d_ (s:=s) (y:=.list 2 [aX (Au p)] .Al) (y0:=aX (Au p)) B (by simp only[ce,cR]) (by simp only[bj,od];omega) u
  have a7:=a2.gt;simp only[aX]at j a1;refine aF ?_;simp only[go_sem,seval,Qw,h0,h5,z,h,g,hlt,a0,aX];refine aV.of j d_ ?_;simp only[go_sem,seval,g,H,G,a1,sB];refine ih (d++[p]) _ _ s1 ov' (by rw[F];simp) (by
   have e1:(od (d++[p])).map aX=(od d).map aX++[aX (Au p)]:=by simp[od,Au]
   rw[e1];exact a2) (λk hk=>(a6 k hk).trans (w k hk)) a5 w_ (a3.trans x) ?_ ?_ ?_ ?_ ?_
  all_goals simp only[sN,seval,h0,z,h,sA]
def axF{r:nt}(j:aq 2 aX rv r)(g:J r<=2000)(U:r.all bU=O)(u:s.gE<=s.aL):
 ∃v s',ai Q 208 [rv,.func (.func 209) [] []] s v s'/\(aq 2 aX v (od r)/\(∀k,k<s.aL->s'.get [] k=s.get [] k)/\s.aL<=s'.aL/\s'.gE<=s'.aL/\s'.ci=s.ci):=by
 have A:=j.gt;have y:=j.lenS m6;have w:mo ae 154 (ah 0) (ak (J r)) I s=X (.list 2 [] (.own s.aL),s.new .tok):=by
  have h1:aP 0 (J r)=O:=bH (fN _);have h2:aP (J r*16) 1099511627776=O:=bH w_;have h3:aP (J r) 1099511627776=O:=bH w_;have H:dJ (ah 0)=X 0:=rfl;simp only[fb,mo,m6,H,mV,h1,h2,h3];rfl
 refine ai.ofNRZ atR (aM ?_);simp only[go_sem,seval,A,y,Ma,w];refine axE j g U (lo:=s.aL) (s0:=s.new .tok) ?_ r [] _ _ (s.new .tok) (.list 2 [] (.own s.aL)) rfl ⟨s.aL,rfl,cu,aD _,gN _⟩ (λ_ _=>rfl) (cr u) (io _) rfl ?_ ?_ ?_ ?_ ?_;intro e lc s1 ov G z d x B Y;have h:=G.gt;simp only[go_sem,seval,Y,h];refine⟨_,rfl,?_,λk F=>(z k F).trans (cV F),x,d,B⟩;obtain⟨k,rfl,_⟩:=G;exact .inr ⟨_,rfl⟩
 all_goals simp only[sN,seval,bn]
 all_goals rfl
def ary(lc:Ag.Loc)(m o:Nat)(i:aa):fR ae lc 226 (.ptr m o) i=(dJ i).bind λi=>bif bC i 3 then X (.ptr m (o+i*1))else Z:=k_
noncomputable abbrev rN(E:aw)(x:Du):aI:=.loop 129 E 38 [13,14] Gp Gq x
def DR(x:bG):Pt:=(x.1.1+x.2.1,x.1.2+x.2.2)
def oZ(l:wj)(s:nt)(v:Int):Nat:=(l.filter λx=>aj (qo (od s) (DR x)) v).length
theorem akO(l:wj)(S:bG)(s:nt)(v:Int):oZ (l++[S]) s v=oZ l s v+bif aj (qo (od s) (DR S)) v then 1 else 0:=by
 grind [oZ]
def ON(l:wj)(s:nt)(v:Int):oZ l s v<=J l:=jv _ _
def acj{p:Pt}:∀{l:wj}{w:Int},zK p l w=1\/zK p l w=0\/zK p l w= -1
 |[],w=>by
   show(bif aj w 0 then(-1:Int)else 1)=1\/(bif aj w 0 then(-1:Int)else 1)=0\/(bif aj w 0 then(-1:Int)else 1)= -1;cases aj w 0<;>simp
 |S::l,w=>by
  rw[aci];cases BK S p;exact acj;exact .inr (.inl rfl)
def o0(c:Nat×Nat×Nat):az:=[ak c.1,ak c.2.1,ak c.2.2]
def pV(l:wj)(s:nt):Nat×Nat×Nat:=(oZ l s 1,oZ l s 0,oZ l s (-1))
variable{t:nt}{bv:aa}
theorem axU(F:Q.spec 210=X vm)(a3:J t<=2000)(ht:t.all bU=O)(B:aq 2 aX bv (od t))(na:bU S.1=O)(nb:bU S.2=O)(a5:J l<=2000){b6:Nat}{s0:St}(a1:s0.get [] b6=X (.cells [bv]))(l5:b5<s0.aL)(l6:b6<s0.aL)(d6:b6≠b5)(e5:ac E 5=.ptr b5 0)(e6:ac E 6=.ptr b6 0)(G:lS b5 s0 s)(hl:s.get [] s0.aL=X (rN E Z))(H:s.get [] b5=X (.cells (o0 (pV l t)))):
 ∃v s',iH Q s0.aL [ak i,cd S] s.top v s'/\(s'.ci=s.ci/\s.aL<=s'.aL/\lS b5 s0 (s.xW s')/\v=.bool O/\s'.get [] s0.aL=X (rN E Z)/\s'.get [] b5=X (.cells (o0 (pV (l++[S]) t)))):=by
 have a4:=G.lt;have Y:=G.mw;have n1:=xF na;have n2:=xF nb;have a2:=B.gt;have d:ij (DR S)=O:=by
  have h1: -4194304<=S.1.1+S.2.1/\S.1.1+S.2.1<=4194304:=w_
  have h2: -4194304<=S.1.2+S.2.2/\S.1.2+S.2.2<=4194304:=w_
  simp only[ij,DR,bV,bh];exact⟨⟨dQ h1.1,dQ h1.2⟩,dQ h2.1,dQ h2.2⟩
 have U:=acq B (by grind [od]) (ak9 ht) d;obtain⟨L,hL⟩:=cw (qo (od t) (DR S));have hv:L=1\/L=0\/L= -1:=by rw[<-hL];exact acj
 rw[hL]at U;simp only[aX,bD,DR]at U;have w1:IntKind.i64.wrap (S.1.1+S.2.1)=S.1.1+S.2.1:=ka w_ w_;have w2:IntKind.i64.wrap (S.1.2+S.2.2)=S.1.2+S.2.2:=ka w_ w_;refine iH.any (ca:=P5) (cb:=P6) (show s.top.get [] s0.aL=_ from hl) rfl rfl asV asW ?_;refine aM ?_;obtain⟨w,x⟩:=cw (s.top.put s0.aL Z);have wn:w.aL=s.aL:=by rw[<-x];rfl
 have wo:∀j,j≠s0.aL->w.get [] j=s.get [] j:=λj A=>by rw[<-x,aN,bN.2 A];rfl
 have wm:w.gE<=w.aL:=by rw[<-x];exact cG s.top _ _ (aD _)
 obtain⟨z,h⟩:=cw ((w.new (.cells [ah 0,ah 0,ah 0,ah 0])).put w.aL (X (.cells (cd S).cells)));have zn:z.aL=s.aL+1:=by rw[<-h,<-wn];rfl
 have zc:z.ci=s.ci:=by rw[<-h,<-x];rfl
 have zm:z.gE<=z.aL:=by rw[<-h];exact cG _ _ _ (cr wm)
 have zk:z.get [] w.aL=X (.cells (cd S).cells):=by rw[<-h,aN,bS];rfl
 have zs:∀j,j<s.aL->j≠s0.aL->z.get [] j=s.get [] j:=λj A g=>by grind [aN,cV]
 have zo:∀j,j<s0.aL->j≠b5->z.get [] j=s0.get [] j:=λj A g=>(zs j w_ w_).trans (G.old j A g);have z6:=(zo b6 l6 d6).trans a1;have z5:=(zs b5 w_ w_).trans H;simp only[cd,lZ]at h zk;have a0:(w.new (.cells [ah 0,ah 0,ah 0,ah 0])).get [] w.aL=X (.cells [ah 0,ah 0,ah 0,ah 0]):=cu;simp only[go_sem,dX,eG,qL,kV,cI,eO,hG,P5,cd,x,dl,a0,du,h,sB];have fin:∀(y:St)(c:az),z.put b5 (X (.cells c))=y->(y.put s0.aL (X (rN E Z))).ci=s.ci/\s.aL<=(y.put s0.aL (X (rN E Z))).aL/\lS b5 s0 (s.xW (y.put s0.aL (X (rN E Z))))/\(y.put s0.aL (X (rN E Z))).get [] s0.aL=X (rN E Z)/\(y.put s0.aL (X (rN E Z))).get [] b5=X (.cells c):=λy c u=>by
  have yn:y.aL=s.aL+1:=by rw[<-u];exact zn
  have qn:(y.put s0.aL (X (rN E Z))).aL=s.aL+1:=yn;have yc:y.ci=s.ci:=by rw[<-u];exact zc
  refine⟨yc,w_,⟨λj A g=>?_,mU Y w_,?_,yc.trans G.ci⟩,by rw[aN,bS];rfl,?_⟩
  grind [jH,aN]
  show s0.aL<(y.put s0.aL (X (rN E Z))).aL;omega
  grind [aN]
 have k1:=ON l t 1;have k2:=ON l t 0;have k3:=ON l t (-1);have q1:=cm (n:=oZ l t 1) w_;have q2:=cm (n:=oZ l t 0) w_;have q3:=cm (n:=oZ l t (-1)) w_;have m0:dJ (ah 0)=X 0:=rfl;have m1:dJ (ah 1)=X 1:=rfl;have m2:dJ (ah 2)=X 2:=rfl;have v0:IntKind.i64.wrap (1-1)=0:=by rfl
 have v1:IntKind.i64.wrap (1-0)=1:=by rfl
 have v2:IntKind.i64.wrap (1- -1)=2:=by rfl
 simp only[o0,pV]at z5;refine aM ?_;obtain⟨y,u⟩:=cw (z.put b5 (X (.cells (o0 (pV (l++[S]) t)))));have f:=fin y _ u;rcases hv with rfl|rfl|rfl<;>simp only[o0,pV,akO,hL,aj,Int.reduceBEq,Int.reduceNeg,cT,cF,Nat.add_zero]at u<;>simp only[go_sem,dX,eG,qL,kV,cI,eO,hG,AM,qO,P6,e5,e6,z5,z6,zk,a2,tW,w1,w2,F,U,v0,v1,v2,ary,m0,m1,m2,q1,q2,q3,dl,du,u,lA,lI,sB]<;>exact⟨f.1,f.2.1,f.2.2.1,f.2.2.2⟩
theorem axT(x:Q.spec 210=X vm){r:nt}(hr:aq 2 aX rv r)(w:J r<=2000)(hn:r.all bU=O)(u:J t<=2000)(ht:t.all bU=O)(H:aq 2 aX bv (od t)){b6:Nat}{s0:St}(G:s0.get [] bx=X (.cells [rv]))(U:s0.get [] b6=X (.cells [bv]))(Y:s0.get [] b5=X (.cells [ah 0,ah 0,ah 0]))(lx:bx<s0.aL)(l5:b5<s0.aL)(l6:b6<s0.aL)(dx:bx≠b5)(d6:b6≠b5)(e5:ac E 5=.ptr b5 0)(e6:ac E 6=.ptr b6 0)(a0:ac E 12=.func (.func 207) [] [.ptr bx 0])(hE:E.all jr=O)(B:s0.gE<=s0.aL)(hk:∀y,lS b5 s0 y->y.get [] b5=X (.cells (o0 (pV (fJ r) t)))->K .normal ⟨E,38,lc⟩ y):W Q 129 (.rfun (.tmp 12) [13,14] Gp Gq) ⟨E,38,lc⟩ s0 K:=by
 obtain⟨v,s',g,rfl,h⟩:=B6 hr w (bx:=bx) (n:=s0.aL) (P:=λi s=>lS b5 s0 s/\s.get [] s0.aL=X (rN E Z)/\s.get [] b5=X (.cells (o0 (pV ((fJ r).take i) t)))) (D:=λ_=>False) (λk s h=>(h.1.old bx lx dx).trans G) (λk s h=>h.1.mw) (λi s hi ⟨d,hl,h5⟩=>by
  let⟨na,nb⟩:=BT hn hi
  obtain⟨v,s',q1,q2,q3,q4,rfl,q5,q6⟩:=axU x u ht H na nb (l:=(fJ r).take i) (i:=i) (by grind) U l5 l6 d6 e5 e6 d hl h5;refine⟨_,s',q1,q2,q3,.inl ⟨rfl,q4,q5,?_⟩⟩;have e:(fJ r).take (i+1)=(fJ r).take i++[eW r i]:=by
   rw[List.take_add_one,Eu hi];rfl
  rw[e];exact q6) (s:=s0.new (rN E Z)) ⟨⟨λj F _=>cV F,cr B,gN _,rfl⟩,cu,(cV l5).trans Y⟩
 have z:lS b5 s0 s'->lS b5 s0 (s'.put s0.aL Z):=λd=>⟨λj F A=>by rw[aN,bN.2 (by omega:j≠s0.aL)];exact d.old j F A,cG _ _ _ d.mw,d.lt,d.ci⟩;rcases h with⟨d,hg,h5⟩|h
 refine nR (h:=207) (first:=[]) (captured:=[.ptr bx 0]) (v:=.tup []) (s1:=s') (by simp only[eC,a0]) (by rw[Std.P,ru,asY,hE];rfl) g hg (hk _ (z d) ?_)
 grind [aN,Ev]
 exact h.elim
theorem axV(A:Q.spec 210=X vm)(a7:No Q 129){tv:aa}{r:nt}(F:aq 2 aX rv r)(z:J r<=2000)(hn:r.all bU=O)(j:aq 2 aX tv t)(g:J t<=2000)(ht:t.all bU=O)(a1:s.gE<=s.aL):
 ∃v s',ai Q 129 [rv,tv] s v s'/\v=.agg (o0 (pV (fJ r) t)):=by
 have a3:=F.gt;have H:=j.gt;have U:=vM F;have G:=vM j
 let⟨x,hx,xn,xm,_,x0,x1⟩:=vt (.cells [ah 0,ah 0,ah 0]) (.cells [ah 0,ah 0,ah 0]) a1
 have a0:(s.new (.cells [ah 0,ah 0,ah 0])).aL=s.aL+1:=rfl;have B:=axF (Q:=Q) j g ht xm;refine ai.ofNRZ asX (aM ?_);simp only[go_sem,dX,eG,cI,eO,hG,qO,H,a0,hx];refine aV.ex B d_ ?_;rintro bv y ⟨d,yo,yn,ym,yc⟩;have a5:=d.gt;have a4:=d.scal
 let⟨w,hw,wn,wm,wo,wk⟩:=yZ (.cells [.uP]) (.cells [bv]) ym
 have a2:(y.new (.cells [.uP])).get [] y.aL=X (.cells [.uP]):=cu;have cn:aa.uP.cells=[.uP]:=rfl;have h:=B5 (Q:=Q) F w
 let⟨u,hu,_,um,uo,uk⟩:=ow (.cells [rv]) wm
 have un:u.aL=y.aL+2:=by
  rw[<-hu];show w.aL+1=_;omega
 rw[hu]at h;simp only[go_sem,dX,eG,qL,kV,cI,eO,a5,a4,cn,a2,dl,du,hw,a3];refine aV.of h d_ ?_;simp only[go_sem];refine axT A F z hn g ht d (bx:=w.aL) (b5:=s.aL+1) (b6:=y.aL) (s0:=u) uk ?_ ?_ w_ w_ w_ w_ w_ ?_ ?_ ?_ ?_ um ?_;rw[uo _ w_];exact wk
 grind
 simp only[sN,cI];simp only[sN,cI];simp only[sN,cI]
 ·have a6:=vM d
  repeat' (first|exact rfl|refine aC.all_set ?_ (by first|exact U|exact G|exact a6|rfl))
 intro s2 hI h5;have h4:s2.get [] s.aL=X (.cells [ah 0,ah 0,ah 0]):=by rw[hI.old _ w_ w_,uo _ w_,wo _ w_,yo _ w_];exact x0
 obtain⟨q,Y⟩:=cw (s2.put s.aL (X (.cells (o0 (pV (fJ r) t)))));have qk:q.get [] s.aL=X (.cells (o0 (pV (fJ r) t))):=by rw[<-Y,aN,bS];rfl
 simp only[o0]at h5 Y qk;simp only[go_sem,dX,eG,qL,kV,cI,eO,hG,reduceCtorEq,h5,dl,h4,du,Y,qk];exact⟨_,rfl,rfl⟩
def DS:Sp
 |[u,v]=>(qZ u).bind λr=>(qZ v).bind λt=>bif(decide (J r<=2000)&&r.all bU)&&(decide (J t<=2000)&&t.all bU)then X (.agg (o0 (pV (fJ r) t)))else Z
 |_=>Z
def acN{u:aa}{r:nt}(h:aq 2 aX u r)(w:aq 2 aX v t)(h1:J r<=2000)(j:r.all bU=O)(g:J t<=2000)(d:t.all bU=O):DS [u,v]=X (.agg (o0 (pV (fJ r) t))):=by
 simp only[fb,DS,pR h,pR w,dQ h1,j,dQ g,d]
def UR:de:=[(210,vm)]
def agX:eh UR:=.cons acr .nil
def axS:da ae 129 DS:=by
 intro g u h G y w xs j x;unfold DS at h;split at h;simp only[an]at h
 let⟨r,h1,t,h2,h⟩:=h
 let⟨h3,h⟩:=bf h
 simp only[bh,dE]at h3;have h:=sI h;subst h
 let⟨_,h4,hr⟩:=wK h1
 let⟨_,h5,ht⟩:=wK h2
 refine jd agX (W:=[]) .nil (by simp only[dW,h4,h5,cj]) (λz=>?_) G y w xs j x;obtain⟨v,s',d,rfl⟩:=axV (Q:=QW UR [] z) rfl R_ hr h3.1.1 h3.1.2 ht h3.2.1 h3.2.2 (s:=s0) d_;exact⟨_,_,d,2,rfl⟩;cases h
