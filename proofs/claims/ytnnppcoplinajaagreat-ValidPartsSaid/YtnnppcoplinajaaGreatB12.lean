/- Lemmas for ValidParts. -/
import Derived.Test.YtnnppcoplinajaaGreatB10
import Derived.Test.YtnnppcoplinajaaGreatB6
import Derived.Test.YtnnppcoplinajaaGreatB11
import Derived.Test.YtnnppcoplinajaaGreatB9
import Derived.Test.YtnnppcoplinajaaGreatAg3
import Derived.Test.YtnnppcoplinajaaGreatB5
set_option linter.all false
open Bool renaming and_eq_true→bm,and_false→gh,and_self→bW,and_true→mP,eq_iff_iff→xj,false_or→hZ,not_eq_true'→mQ,not_true→jp,true_and→en
open Int renaming toNat_of_nonneg→Kr
open List renaming all_cons→jq,all_eq_true→fu,append_assoc→lV,append_nil→nD,cons_append→qW,drop_eq_nil_of_le→Gv,drop_zero→mR,drop→bK,ext_getElem→Gw,filterMap_cons→xC,finRange→t0,flatMap_cons→Bj,foldl_cons→t5,getD_eq_getElem?_getD→kU,getElem?_cons_succ→iJ,getElem?_cons_zero→gi,getElem?_eq_getElem→fE,getElem?_eq_some_iff→nF,getElem?_map→iw,getElem?_take→GA,getElem_mem→xD,getElem_of_mem→GB,length_append→cD,length_cons→dM,length_filter_le→kE,length_map→bP,length_nil→cV,length_range→DM,length_set→GC,length_tail→xE,map_append→eE,map_congr_left→Bl,map_cons→eA,map_eq_nil_iff→zy,map_map→ll,mem_append→jb,mem_cons_of_mem→fW,mem_cons_self→gF,mem_cons→dl,mem_filterMap→GD,mem_filter→kV,mem_flatMap→kW,mem_map_of_mem→DP,mem_map→cx,mem_of_getElem?→dB,mem_singleton→qX,nodup_nil→Bp,not_mem_nil→vH,of_mem_zip→GF,pairwise_map→GG,range→gV,replicate→gG,take_of_length_le→qY,take→cM
open Nat renaming beq→aK,ble_eq_true_of_le→cE,ble→bn,blt→bh,eq_of_beq_eq_true→jr,le_refl→bk,le_succ_of_le→bU,le_succ→jV,le_trans→eG,lt_irrefl→cq,lt_succ_self→kF,mod_lt→ua,mul_le_mul→qZ,reduceAdd→bG,reduceBEq→ai,reduceDiv→dY,reduceEqDiff→dU,reduceLT→ay,reduceLeDiff→cy,reduceMod→dC,reduceMul→dw,reducePow→dD,reduceSub→dG,zero_add→eH,zero_le→jW
open Go.Op renaming bytesLess→eR
open Option renaming bind_eq_some_iff→aj,bind_some→bg,map_eq_some_iff→ub,map_none→sD,map_some→jI
open Option.some renaming injEq→aH
open Prod.mk renaming injEq→bu
open Go.Proofs.Tryz renaming prog→ah
open Go.Ag.W renaming drawX→gK,loopC→bq,loopE→lz
open Go.Ag.WC renaming sound→bT
namespace Go.Proofs.YtnnppcoplinajaaGreat
open Go.Ag
open Go.Sort (SWO)
variable{α:Type}
def Kf{d:α->α->Int}(k:α->Int×Int)(h: ∀x y,d x y<0↔((k x).1<(k y).1\/((k x).1=(k y).1/\(k x).2<(k y).2))):SWO (ltOf d) where
 irrefl x:=by
  simp only[ltOf,decide_eq_false_iff_not,h];omega
 trans x y z h1 h2:=by
  simp only[ltOf,dE,h] at*;omega
 ntrans x y z h1 h2:=by
  simp only[ltOf,decide_eq_false_iff_not,h] at*;omega
def JF{a b c d:Int}:lO [iO a b,c-d]<0↔(a<b\/(a=b/\c<d)):=by
 rw[P5];unfold iO;by_cases h1:a<b;simp[aV,an,h1];by_cases h2:b<a;have: ¬a=b:=by omega
 simp[aV,an,h1,h2,this];have:a=b:=by omega
 subst this;simp[aV,an];omega
def FM{a b c d:Int}:lO [a-b,c-d]<0↔(a<b\/(a=b/\c<d)):=by
 rw[P5];cases h:an (a-b) 0 with
 |true=>
  have:a-b=0:=by simpa[an] using h
  simp only[cT];omega
 |false=>
  have:a-b≠0:=by simpa[an] using h
  simp only[cF];omega
def d8{α:Type}(e:α->α->Int)(d:α)(l:List α)(i j:Nat):Int:=e (l.getD i d) (l.getD j d)
def jS{α:Type}(e:α->α->Int)(d:α)(l:List α):List α:=(wX (d8 e d l) l.length).map fun i=>l[i]
def vq(j:α->α->Int)(d:α)(l:List α):(jS j d l).Perm l:=by
 have h:=(P7 (d8 j d l) l.length).map fun i=>l[i];have e:(t0 l.length).map (fun i=>l[i])=l:=by
  refine Gw (by simp) fun i w u=>?_;simp
 rwa [e] at h
def Re(e:α->α->Int)(d:α)(enc:α->aa)(l:List α):xe (d8 e d l) (l.map enc)=(jS e d l).map enc:=by
 unfold xe jS;rw[ll];have w:(l.map enc).length=l.length:=bP ..;rw[show(wX (d8 e d l) (l.map enc).length).map (fun i=>(l.map enc)[i])=(wX (d8 e d l) l.length).map (enc ∘ fun i=>l[i]) from ?_];have gen: ∀n (u:n=l.length) (r:List aa) (j:r.length=n) (h: ∀i (y:i<r.length) (x:i<l.length),r[i]=enc l[i]),(wX (d8 e d l) n).map (fun i=>r[i.1]'(by rw[j];exact i.2))=(wX (d8 e d l) l.length).map (enc ∘ fun i=>l[i]):=by
  intro n u r j h;subst u;refine Bl fun i _=>?_;exact h i _ _
 exact gen _ w (l.map enc) rfl fun i y x=>by simp
def J5(e:α->α->Int)(d:α)(l:List α)(u:SWO (ltOf fun x y:Fin l.length=>d8 e d l x y)):(jS e d l).Pairwise fun a b=> ¬e b a<0:=by
 unfold jS;rw[GG];have w:=List.pairwise_mergeSort (le:=fun i j:Fin l.length=> !(ltOf fun x y:Fin l.length=>d8 e d l x y) j i) (fun a b c A z=>by
  simp only[mQ] at*;exact u.ntrans _ _ _ z A) (fun a b=>by
  simp only[Bool.or_eq_true,mQ];cases h:(ltOf fun x y:Fin l.length=>d8 e d l x y) b a with
  |false=>exact .inl rfl
  |true=>
   right;cases h':(ltOf fun x y:Fin l.length=>d8 e d l x y) a b with
   |false=>rfl
   |true=>
    have:=u.trans _ _ _ h h';rw[u.irrefl] at this;cases this) (t0 l.length)
 refine w.imp fun {i j} h=>?_;simp only[mQ,ltOf,decide_eq_false_iff_not,d8] at h;simpa[kU] using h
noncomputable def uD{α:Type}(enc:α->aa)(cs:List aa):Option (List α):=by
 classical exact if h: ∃l:List α,cs=aF (l.map enc) then some h.choose else none
def Mn{enc:α->aa}{cs:List aa}{l:List α}(h:uD enc cs=some l):cs=aF (l.map enc):=by
 unfold uD at h;split at h;rename_i d;injection h with h;subst h
 exact d.choose_spec;cases h
def Hg{enc:α->aa}{k:Nat}(d: ∀a,(enc a).cells.length=k)(z:0<k)(A: ∀a b,(enc a).cells=(enc b).cells->a=b)(l:List α):uD enc (aF (l.map enc))=some l:=by
 have j: ∃r:List α,aF (l.map enc)=aF (r.map enc):=⟨l,rfl⟩;unfold uD;rw[dif_pos j];have e: ∀(l r:List α),aF (l.map enc)=aF (r.map enc)->r=l:=by
  intro l
  induction l with
  |nil=>
   intro r h;cases r with
   |nil=>rfl
   |cons y r=>
    have:=congrArg List.length h;simp only[List.map_nil,eA,aF,cV,cD,d] at this;omega
  |cons x l w=>
   intro r h;cases r with
   |nil=>
    have:=congrArg List.length h;simp only[List.map_nil,eA,aF,cV,cD,d] at this;omega
   |cons y r=>
    simp only[eA,aF] at h;have u:=List.append_inj h (by rw[d,d]);rw[A _ _ u.1,w r u.2]
 exact congrArg some (e l _ j.choose_spec)
noncomputable def xd{α:Type}(enc:α->aa)(h:α->α->Int)(d:α)(e:List α->Bool)(cs:List aa):Option (List aa):=(uD enc cs).bind fun l=>bif e l then some (aF ((jS h d l).map enc)) else none
noncomputable def xf{α:Type}(enc:α->aa)(h:α->α->Int)(d:α)(e:List α->Bool)(k g:Nat):List aa->Option o7
 | [.arr k' m 0 len _,.func (.func g') [] []]=>bif aK k' k&&aK g' g then some (some (m,fun cs=>tN (bif aK cs.length (len*k) then xd enc h d e cs else none))) else none
 | [.AL,.func (.func g') [] []]=>bif aK g' g then some none else none
 |_=>none
variable{f:Nat}
def acB{enc:α->aa}{I:α->α->Int}{d:α}{ok:List α->Bool}{k g:Nat}{ρ:Go.Shelf.Ren}(L:SlLaysF0.n6 ah ρ)(hf:ρ.f 6=f)(aE: ∀w,(isAgg (ρ.t 24)).run ah w= .ok true w)(zE: ∀w,(Go.sizeOf (ρ.t 24)).run ah w= .ok k w)(ef: ∀A w,(callFunc f A).run ah w= .ok (.enter f A) w)(eg: ∀A w,(callFunc g A).run ah w= .ok (.enter g A) w){sp:Sp}(a2:cQ ah g sp)(hk: ∀a,(enc a).cells.length=k)(ha: ∀a,enc a= .agg (enc a).cells)(a1:0<k)(hz: ∀a h,gm h (enc a) (enc a))(a5: ∀l,ok l=true->l.length<=1000000/\(∀(i j:Nat) (x y:α),l[i]? =some x->l[j]? =some y->sp [enc x,enc y]=some (.int .i64 (I x y)))/\(SWO (ltOf fun x y:Fin l.length=>d8 I d l x y))/\(∀x y:Fin l.length,(ltOf fun x y:Fin l.length=>d8 I d l x y) x y=false->(ltOf fun x y:Fin l.length=>d8 I d l x y) y x=false->x=y)):
 uj f (xf enc I d ok k g):=by
 subst hf;intro A G h w xs wr hx;refine⟨fun B=>?_,fun n gf cs a7 B hl H=>?_⟩
 ·unfold xf at B
  split at B;obtain⟨_,B⟩:=aY B;cases B
  ·cases hx with
   |cons p q=>
   cases q with
   |cons q r=>
   cases r;cases p;cases q with
   |func q1 q2=>
   cases q1;cases q2;refine .inr ⟨ef _ _,(AnyF.slices_SortFunc_none L none 0 _ w).mono ?_⟩;rintro e w' ⟨rfl,rfl⟩;exact⟨_,rfl,G,wr,.refl,.tup .nil⟩
  cases B
 ·unfold xf at B
  split at B
  ·rename_i k' m len O g'
   have hb:=(aY B).1;have Z:=(aY B).2;clear B;simp only[bm] at hb;have S:=jr hb.1;have N:=jr hb.2;subst S;subst N;injection Z with Z;injection Z with Z;injection Z with a4 a3
   subst a4;subst a3;have H:=FV H;obtain⟨F,H⟩:=aY H;have F:=jr F;simp only[xd,aj] at H;obtain⟨l,h1,H⟩:=H;obtain⟨h2,H⟩:=aY H;have H:=(sI H).symm;subst H;have a6:=Mn h1;subst a6;have a0: ∀v∈l.map enc,v.cells.length=k'/\v= .agg v.cells:=fun v hv=>by
    obtain⟨a,_,rfl⟩:=cx.1 hv;exact⟨hk a,ha a⟩
   have U:l.length=len:=by
    rw[oh (fun v hv=>(a0 v hv).1),bP] at F;exact Nat.eq_of_mul_eq_mul_right a1 F
   obtain⟨q1,q2,q3,q4⟩:=a5 l h2;cases hx with
   |cons p q=>
   cases q with
   |cons q r=>
   cases r;cases q with
   |func u1 u2=>
   cases u1;cases u2;have J:(l.map enc).length=l.length:=bP ..;have hy: ∀z,VR G (.arr k' m 0 len O) z->VR G (.arr k' m 0 (l.map enc).length O) z:=fun z hz=>by rw[J,U];exact hz
   have gen: ∀n (hn:n=l.length),SWO (ltOf fun x y:Fin n=>d8 I d l x y)/\(∀x y:Fin n,(ltOf fun x y:Fin n=>d8 I d l x y) x y=false->(ltOf fun x y:Fin n=>d8 I d l x y) y x=false->x=y):=by
    intro n hn;subst hn;exact⟨q3,q4⟩
   have Y:=fun hO=>Q9 L rfl aE zE ef eg a2 wr (rows:=l.map enc) (us:=l.map enc) hl a0 a1 rfl (fun i v u S N=>by
    rw[S] at N;injection N with N;subst N
    rw[iw,ub] at S;obtain⟨a,_,rfl⟩:=S;exact hz a _) (d8 I d l) (fun i j u u' S N=>by
    rw[iw,ub] at S N;obtain⟨a,g1,rfl⟩:=S;obtain⟨b,g2,rfl⟩:=N;have e:d8 I d l i j=I a b:=by
     unfold d8;rw[kU,kU,g1,g2];rfl
    rw[q2 i j a b g1 g2,e]) hO (gen _ J).2 (by rw[J];exact q1) (hy _ p)
   rw[Re] at Y;exact Y (gen _ J).1
  obtain⟨_,B⟩:=aY B;cases B;cases B
def xO:aa->Option cL
 | .agg [.int .i64 i,.int .i64 a,.int .i64 b,.int .i64 c,.int .i64 d,.int .i64 lx,.int .i64 hx,.int .i64 ly,.int .i64 hy]=>
   bif lx==min a c&&(hx==max a c&&(ly==min b d&&hy==max b d)) then some (i,((a,b),(c,d))) else none
 |_=>none
variable{v:aa}
def TF{x:cL}(h:xO v=some x):v=cI x:=by
 unfold xO at h;split at h;obtain⟨d,h⟩:=aY h;injection h with h;subst h
 simp only[bm,bE] at d;obtain⟨rfl,rfl,rfl,rfl⟩:=d;rfl;cases h
def Ll(x:cL):xO (cI x)=some x:=by
 simp only[xO,cI,iR,jz,uO,qD,qz,bS,bW,cT]
def zQ:aa->Option Mt
 | .agg [.int .i64 a,.int .i64 b,.int .i64 c]=>some (a,b,c)
 |_=>none
def TH{x:Mt}(h:zQ v=some x):v=gB x:=by
 unfold zQ at h;split at h;injection h with h;subst h;rfl
 cases h
def Lm(x:Mt):zQ (gB x)=some x:=rfl
def mI(n:Int):Bool:=decide (0<=n)&&decide (n<=1000000)
def J4{a b:Int}(e:mI a=true)(d:mI b=true):IntKind.i64.wrap (a-b)=a-b:=by
 simp only[mI,bm,dE] at e d;exact jE (by omega) (by omega)
def xX(x y:cL):Int:=lO [iO (jz x.2) (jz y.2),x.1-y.1]
def sX(x y:Mt):Int:=lO [x.1-y.1,x.2.1-y.2.1]
def L9:Sp
 | [u,v]=>(xO u).bind fun x=>(xO v).bind fun y=>bif mI x.1&&mI y.1 then some (bO (xX x y)) else none
 |_=>none
def Mb:Sp
 | [u,v]=>(zQ u).bind fun x=>(zQ v).bind fun y=>bif mI x.1&&(mI y.1&&(mI x.2.1&&mI y.2.1)) then some (bO (sX x y)) else none
 |_=>none
def KT:dp:=[(232,oG),(108,ve)]
def S6:du KT:=.cons Hb (.cons aaP .nil)
def ahc:cQ ah 305 L9:=by
 refine pV S6 fun e u h=>?_;unfold L9 at h;split at h;simp only[aj] at h;obtain⟨x,w,y,j,h⟩:=h;obtain⟨d,h⟩:=aY h;simp only[bm] at d;have h:=sI h;subst h;rw[TF w,TF j];exact⟨rfl,_,_,ahd (sp:=fun f=>gD f KT) rfl rfl rfl (J4 d.1 d.2) (bk _),rfl,⟨1,rfl⟩⟩;cases h
def ahg:cQ ah 310 Mb:=by
 refine pV S6 fun e u h=>?_;unfold Mb at h;split at h;simp only[aj] at h;obtain⟨x,w,y,j,h⟩:=h;obtain⟨d,h⟩:=aY h;simp only[bm] at d;have h:=sI h;subst h;rw[TH w,TH j];exact⟨rfl,_,_,ahh (sp:=fun f=>gD f KT) rfl rfl (J4 d.1 d.2.1) (J4 d.2.2.1 d.2.2.2) _,rfl,⟨1,rfl⟩⟩;cases h
noncomputable def FF(l:List cL):Bool:=by classical exact decide (l.length<=1000000/\(∀x∈l,mI x.1=true)/\(l.map (·.1)).Nodup)
noncomputable def FG(l:List Mt):Bool:=by classical exact decide (l.length<=1000000/\(∀x∈l,mI x.1=true/\mI x.2.1=true)/\(l.map fun m=>(m.1,m.2.1)).Nodup)
variable{β:Type}
def Jh{k:α->β}{l:List α}(h:(l.map k).Nodup){i j:Nat}{x y:α}(w:l[i]? =some x)(u:l[j]? =some y)(e:k x=k y):i=j:=by
 have d:(l.map k)[i]? =some (k x):=by rw[iw,w];rfl
 have z:(l.map k)[j]? =some (k x):=by rw[iw,u,e];rfl
 exact(List.getElem?_inj ((nF.1 d).1) h).1 (d.trans z.symm)
def B8{l:List α}{d:α}(i:Fin l.length):l.getD i d=l[i]:=by
 rw[kU];simp
noncomputable def Ra:=xf cI xX (0,((0,0),(0,0))) FF 9 305
noncomputable def Rc:=xf gB sX (0,0,0) FG 3 310
def avN:uj 304 Ra:=by
 refine acB Tryz.sortF304 rfl Tryz.isAgg368 Tryz.sizeOf368 (Go.Proofs.enters_of Tryz.func304 (by kernel_rfl) rfl) (Go.Proofs.enters_of Tryz.func305 (by kernel_rfl) rfl) ahc (fun _=>rfl) (fun _=>rfl) (by decide) (fun a h=>⟨2,rfl⟩) fun l d=>?_;simp only[FF,dE] at d;refine⟨d.1,fun i j x y z w=>?_,?_,?_⟩;have u:=d.2.1 x (dB z);have e:=d.2.1 y (dB w);simp only[dW,L9,Ll,u,e,bW];rfl;exact Kf (fun i:Fin l.length=>(jz (l.getD i (0,((0,0),(0,0)))).2,(l.getD i (0,((0,0),(0,0)))).1)) fun x y=>JF;intro x y u e;simp only[ltOf,decide_eq_false_iff_not,d8,xX,JF,B8] at u e;exact Fin.ext (Jh d.2.2 (i:=x) (j:=y) (x:=l[x]) (y:=l[y]) (by simp) (by simp) (by omega))
def avQ:uj 309 Rc:=by
 refine acB Tryz.sortF309 rfl Tryz.isAgg290 Tryz.sizeOf290 (Go.Proofs.enters_of Tryz.func309 (by kernel_rfl) rfl) (Go.Proofs.enters_of Tryz.func310 (by kernel_rfl) rfl) ahg (fun _=>rfl) (fun _=>rfl) (by decide) (fun a h=>⟨2,rfl⟩) fun l d=>?_;simp only[FG,dE] at d;refine⟨d.1,fun i j x y z w=>?_,?_,?_⟩;have u:=d.2.1 x (dB z);have e:=d.2.1 y (dB w);simp only[dW,Mb,Lm,u.1,u.2,e.1,e.2,bW];rfl;exact Kf (fun i:Fin l.length=>((l.getD i (0,0,0)).1,(l.getD i (0,0,0)).2.1)) fun x y=>FM;intro x y u e;simp only[ltOf,decide_eq_false_iff_not,d8,sX,FM,B8] at u e;exact Fin.ext (Jh d.2.2 (i:=x) (j:=y) (x:=l[x]) (y:=l[y]) (by simp) (by simp) (by
  simp only[bu];omega))
abbrev ri:=List (Nat×(List aa->Option o7))
def Ki(f:Nat):ri->Option (List aa->Option o7)
 | []=>none
 |(k,v)::l=>bif aK k f then some v else Ki f l
def sQ(t:ri):Prop:= ∀p∈t,uj p.1 p.2
def sQ.nil:sQ []:=fun _ h=>by cases h
def sQ.cons{sp:List aa->Option o7}{t:ri}(h:uj f sp)(e:sQ t):sQ ((f,sp)::t):=by
 intro p d;rcases dl.1 d with rfl|d
 exact h;exact e p d
def adt{f:Nat}{sp:List aa->Option o7}: ∀ {t:ri},Ki f t=some sp->(f,sp)∈t
 | [],h=>by cases h
 |(k,v)::l,h=>by
  simp only[Ki] at h;cases hk:aK k f with
  |true=>
   rw[hk] at h;injection h with h;subst h
   have:=jr hk;subst this;exact gF
  |false=>
   rw[hk] at h;exact fW _ (adt h)
noncomputable def QW(T:dp)(W:ri)(ch:Nat->Nat):aD:= {P:=ah,hint:=ak,spec:=fun f=>gD f T,ch:=ch,kmax:=fun _=>1000000,specW:=fun f=>Ki f W }
instance(T:dp)(W:ri)(ch:Nat->Nat):Std (QW T W ch):=⟨rfl,rfl,fun _=>rfl⟩
variable{T:dp}
def V8(j:du T){W:ri}(e:sQ W):Ag.Al (QW T W fun _=>0) where
 mixed:=ZH
 spec f sp hsp args v hv G hp w xs wr hx:=j _ (RF hsp) args v hv G hp w xs wr hx
 specH f sp h args v G hp w xs wr hx hv:=by cases h
 specW f sp h:=e _ (adt h)
 names f fn d:=by
  have d:ah.funcs[f]? =some fn:=d
  have:=fu.1 ZK fn (by
   rw[<-Array.getElem?_toList] at d;exact dB d)
  simpa using this
def jo(Y:du T){W:ri}(U:sQ W){f:FuncId}{args:List aa}{u:aa}(J:ei args=true)(I: ∀d, ∃v s',aq (QW T W d) f (dz args) s0 v s'/\gm s'.heap v u)(G:Gh)(h:aC aJ)(w:World)(xs:List Value)(wr:WR G h w)(H:bR G args xs):
 lZ ah f ⟨xs⟩ w fun y F=> ∃A,WR A h F/\cJ G h w A h F 0 0/\VR A u y:=by
 obtain⟨N,Z⟩:=fan (B:=1000000) (by omega) (fun d n=> ∃v s',(b9 (QW T W d) n).call f (dz args) [] s0=some (v,s')/\gm s'.heap v u)
  (fun d n m x ⟨v,s',j,e⟩=>⟨v,s',(m9 (QW T W d) x).call _ _ _ _ _ j,e⟩)
  (fun d n ⟨v,s',j,e⟩=>⟨s'.ci,fun z S=>⟨v,s',(tE (QW T W fun _=>0) n).call f _ [] d s0 v s' j z S,e⟩⟩)
  (fun d _=>let⟨v,s',⟨n,j⟩,e⟩:=I d;⟨n,v,s',j,e⟩)
 exact acF (Q:=QW T W fun _=>0) (n:=N) (V8 Y U) (fun _=>(by decide:0<1000000)) J (fun d O=>Z d O) G h w xs wr H
def Gg(F:du T){W:ri}(B:sQ W){sp:Sp}(h: ∀args u,sp args=some u->pures args=true/\ ∀H, ∃v s',aq (QW T W H) f args s0 v s'/\gm s'.heap v u):cQ ah f sp:=by
 intro args x y G A w xs e j;obtain⟨d,z⟩:=h args x y;exact jo F B (args:=args) (xi d) (by rw[kC d];exact z) G A w xs e j
def iW{α β:Type}(F:α->α->Option β):List α->List β
 | []=>[]
 |a::l=>l.filterMap (F a)++iW F l
def abp{α β:Type}{F:α->α->Option β}(j: ∀a b,F a b=F b a)(a:α): ∀l:List α,(iW F (l++[a])).Perm (iW F l++l.filterMap (F a))
 | []=>by simp[iW]
 |b::l=>by
  have u:=abp j a l;rw[qW,iW,iW,List.filterMap_append,xC (a:=b),j a b];have e:[a].filterMap (F b)=(F b a).toList:=by
   cases h:F b a<;>simp[h]
  rw[e];have d: ∀o:Option β,(l.filterMap (F b)++o.toList++iW F (l++[a])).Perm (l.filterMap (F b)++iW F l++(o.toList++l.filterMap (F a))):=fun o=>by
   simp only[lV];refine List.Perm.append_left _ ((List.Perm.append_left _ u).trans ?_);rw[<-lV,<-lV];exact List.Perm.append_right _ List.perm_append_comm
  have:=d (F b a);cases h:F b a<;>rw[h] at this<;>exact this
def atJ{F:α->α->Option β}(j: ∀a b,F a b=F b a){l d:List α}(h:l.Perm d):(iW F l).Perm (iW F d):=by
 induction h with
 |nil=>exact .refl _
 |cons a h e=>exact(h.filterMap _).append e
 |swap a b l=>
  rw[iW,iW,iW,iW,xC,xC,j a b];cases F b a with
  |none=>
   simp only[];rw[<-lV,<-lV];exact List.Perm.append_right _ List.perm_append_comm
  |some x=>
   simp only[];rw[qW,qW,<-lV,<-lV];exact(List.Perm.append_right _ List.perm_append_comm).cons _
 |trans _ _ w u=>exact w.trans u
def xg{α β:Type}(keep:α->α->Bool)(G:α->α->Option β):List α->List α->List β->List β
 | [],_,out=>out
 |a::l,act,out=>xg keep G l (act.filter (keep a)++[a]) (out++(act.filter (keep a)).filterMap (G a))
def Hp{α β:Type}{p:α->Bool}{f:α->Option β}(h: ∀x,p x=false->f x=none): ∀l:List α,(l.filter p).filterMap f=l.filterMap f
 | []=>rfl
 |x::l=>by
  cases hp:p x with
  |true=>rw[List.filter_cons_of_pos hp,xC,xC,Hp h l]
  |false=>rw[List.filter_cons_of_neg (by simp[hp]),xC,h x hp,Hp h l]
def acQ{α β:Type}{keep:α->α->Bool}{F:α->α->Option β}{low:α->Int}(y: ∀a b,F a b=F b a)(j: ∀a b c,keep a b=false->low a<=low c->F c b=none):
 ∀(l P act:List α) (out:List β),(P++l).Pairwise (fun a b=>low a<=low b)->(∀c,(∀x∈P,low x<=low c)->P.filterMap (F c)=act.filterMap (F c))->out.Perm (iW F P)->(xg keep F l act out).Perm (iW F (P++l))
 | [],P,act,out,_,_,ho=>by simpa[xg] using ho
 |a::l,P,act,out,hs,ha,ho=>by
  have e:P++a::l=(P++[a])++l:=by simp
  have h: ∀x∈P,low x<=low a:=fun x d=>(List.pairwise_append.1 hs).2.2 x d a gF;rw[xg,e];rw[e] at hs;refine acQ y j l (P++[a]) _ _ hs ?_ ?_;intro c w;have u:low a<=low c:=w a (by simp);rw[List.filterMap_append,List.filterMap_append,ha c fun x d=>w x (by simp[d]),Hp fun x d=>j a x c d u];refine List.Perm.trans ?_ (abp y a P).symm;rw[Hp fun x d=>j a x a d (Int.le_refl _),<-ha a h];exact ho.append_right _
def awk{keep:α->α->Bool}{F:α->α->Option β}{low:α->Int}(d: ∀a b,F a b=F b a)(j: ∀a b c,keep a b=false->low a<=low c->F c b=none){l r:List α}(e:l.Pairwise (fun a b=>low a<=low b))(h:l.Perm r):(xg keep F l [] []).Perm (iW F r):=
 (acQ d j l [] [] [] e (fun _ _=>rfl) (.refl _)).trans (atJ d h)
def fM(a b:cL):Option Mt:=bif an (gX a.2 b.2) 0 then none else some (min a.1 b.1,max a.1 b.1,gX a.2 b.2)
def aic(a b:cL):fM a b=fM b a:=by
 unfold fM;rw[Pr a.2 b.2,Int.min_comm,Int.max_comm]
def Vv{a b:cL}(h: ¬boxes a.2 b.2):fM a b=none:=by
 unfold fM;cases h1:an (gX a.2 b.2) 0 with
 |true=>rfl
 |false=>exact(h (aq7 (by simpa[an] using h1))).elim
def ij:Nat->List bI->List cL
 |_,[]=>[]
 |i,s::l=>(((i:Nat):Int),s)::ij (i+1) l
theorem wA: ∀(l:List bI) (i:Nat),(ij i l).length=l.length
 | [],_=>rfl
 |_::l,i=>by rw[ij,dM,wA l,dM]
def Ar: ∀ {l:List bI} {i:Nat} {x:cL},x∈ij i l->(i:Int)<=x.1/\x.1<(i+l.length:Nat)
 | [],_,_,h=>by cases h
 |s::l,i,x,h=>by
  rcases dl.1 h with rfl|h
  refine⟨Int.le_refl _,?_⟩;simp only[dM];omega
  have:=Ar h;simp only[dM];omega
def Ci: ∀(l:List bI) (i:Nat),(ij i l).Pairwise fun a b=>a.1<b.1
 | [],_=>.nil
 |s::l,i=>.cons (fun x d=>by have:=Ar d;omega) (Ci l (i+1))
def gr(l:List bI):List Mt:=iW fM (ij 0 l)
def uY(a b:Mt):Prop:=a.1<b.1\/(a.1=b.1/\a.2.1<b.2.1)
def BW{a b:cL}{m:Mt}(h:fM a b=some m):m.1=min a.1 b.1/\m.2.1=max a.1 b.1:=by
 unfold fM at h;cases h1:an (gX a.2 b.2) 0 with
 |true=>rw[h1] at h;cases h
 |false=>
  rw[h1] at h;have h:=sI h;subst h;exact⟨rfl,rfl⟩
def JG{α β:Type}{F:α->α->Option β}{m:β}: ∀ {l:List α},m∈iW F l-> ∃x∈l, ∃y∈l,F x y=some m
 | [],h=>by cases h
 |a::l,h=>by
  rcases jb.1 h with h|h
  obtain⟨y,e,d⟩:=GD.1 h;exact⟨a,gF,y,fW _ e,d⟩;obtain⟨x,e,y,d,j⟩:=JG h;exact⟨x,fW _ e,y,fW _ d,j⟩
def FP{α β:Type}{F:α->α->Option β}: ∀l:List α,(iW F l).length<=l.length*l.length
 | []=>by simp[iW]
 |a::l=>by
  have e:=List.length_filterMap_le (F a) l;have d:=FP (F:=F) l;rw[iW,cD,dM,Nat.add_mul,Nat.mul_add];omega
def FQ: ∀ {l:List cL},l.Pairwise (fun a b=>a.1<b.1)->(iW fM l).Pairwise uY
 | [],_=>.nil
 |a::l,.cons h1 h2=>by
  rw[iW,List.pairwise_append];refine⟨?_,FQ h2,fun x h y e=>?_⟩;rw[List.pairwise_filterMap];refine(List.Pairwise.and_mem.1 h2).imp ?_;rintro x y ⟨h,e,F⟩ b J c I;have O:=BW J;have N:=BW I;have A:=h1 x h;have w:=h1 y e;simp only[uY];omega;obtain⟨z,B,d⟩:=GD.1 h;obtain⟨u,H,v,G,j⟩:=JG e;have O:=BW d;have N:=BW j;have A:=h1 z B;have w:=h1 u H;have S:=h1 v G;simp only[uY];omega
def d9:cL:=(0,((0,0),(0,0)))
def d3:Mt:=(0,0,0)
def awm(l:List cL):SWO (ltOf fun x y:Fin l.length=>d8 xX d9 l x y):=Kf (fun i:Fin l.length=>(jz (l.getD i d9).2,(l.getD i d9).1)) fun _ _=>JF
def awn(l:List Mt):SWO (ltOf fun x y:Fin l.length=>d8 sX d3 l x y):=Kf (fun i:Fin l.length=>((l.getD i d3).1,(l.getD i d3).2.1)) fun _ _=>FM
def ze(l:List bI):List cL:=jS xX d9 (ij 0 l)
def ta(l:List bI):List Mt:=xg (fun a x=> !iE a x) fM (ze l) [] []
def Rk(l:List bI):(ze l).Perm (ij 0 l):=vq _ _ _
def B6(l:List bI):(ta l).Perm (gr l):=by
 refine awk (low:=fun a:cL=>jz a.2) aic ?_ ?_ (Rk l);intro a b c d j;refine Vv fun e=>?_;have d:uO b.2<jz a.2:=by simpa[iE,aV] using d
 have:=e.1.1;simp only[jz,uO] at*;omega;refine(J5 xX d9 _ (awm _)).imp ?_;intro a b h;simp only[xX,JF] at h;omega
variable{l:List bI}
def amx(h:l.length<=1000):FF (ij 0 l)=true:=by
 simp only[FF,dE];refine⟨by rw[wA];omega,fun x d=>?_,?_⟩
 have:=Ar d;simp only[mI,bm,dE];omega;rw[List.nodup_iff_pairwise_ne,GG];exact(Ci l 0).imp fun h=>by omega
def aji(h:l.length<=1000):FG (ta l)=true:=by
 have d:=B6 l;simp only[FG,dE];refine⟨?_,fun x u=>?_,?_⟩;rw[d.length_eq]
 have:=FP (F:=fM) (ij 0 l);rw[wA] at this;have:l.length*l.length<=1000*1000:=qZ h h;unfold gr;omega;obtain⟨a,y,b,w,j⟩:=JG (d.mem_iff.1 u);have e:=BW j;have A:=Ar y;have z:=Ar w;simp only[mI,bm,dE];omega;rw[(d.map _).nodup_iff,List.nodup_iff_pairwise_ne,GG];refine(FQ (Ci l 0)).imp fun h=>?_;simp only[uY] at h;simp only[ne_eq,bu];omega
def ajj(l:List bI):jS sX d3 (ta l)=gr l:=by
 refine List.Perm.eq_of_pairwise (le:=fun a b=> ¬sX b a<0) (fun a b d x z y=>?_) (J5 sX d3 _ (awn _)) ?_ ((vq _ _ _).trans (B6 l));have d:=((vq sX d3 (ta l)).trans (B6 l)).mem_iff.1 d;simp only[sX,FM] at z y;have e:(gr l).Pairwise uY:=FQ (Ci l 0);obtain⟨i,w,rfl⟩:=GB d;obtain⟨j,u,rfl⟩:=GB x;rcases Nat.lt_trichotomy i j with h|h|h
 have:=List.pairwise_iff_getElem.1 e i j w u h;simp only[uY] at this;omega;subst h;rfl
 have:=List.pairwise_iff_getElem.1 e j i u w h;simp only[uY] at this;omega;refine(FQ (Ci l 0)).imp fun h=>?_;simp only[uY] at h;simp only[sX,FM];omega
end Go.Proofs.YtnnppcoplinajaaGreat
namespace Go.Proofs.YtnnppcoplinajaaGreat
open Go.Ag
variable{Q:aD}[Std Q]
theorem W0: ∀(l:List bI) (i:Nat) (s:bI),ij i (l++[s])=ij i l++[(((i+l.length:Nat):Int),s)]
 | [],i,s=>rfl
 |x::l,i,s=>by
  rw[qW,ij,W0 l,ij,dM,show i+1+l.length=i+(l.length+1) by omega];rfl
def AV(d:List bI)(n:Nat):List cL:=ij 0 d++gG n Bf
theorem auO(d:List bI)(s:bI)(n:Nat):(AV d (n+1)).set d.length (((d.length:Nat):Int),s)=AV (d++[s]) n:=by
 grind [AV,List.set_append_right,wA,W0]
def auN(d:List bI)(n:Nat):(AV d n).length=d.length+n:=by
 unfold AV;rw[cD,wA,List.length_replicate]
def asf:cQ ah 303 AF:=by
 refine pV (T:=[]) .nil fun d u h=>?_;unfold AF at h;split at h;have h:=sI h;subst h;exact⟨rfl,_,_,ash (sp:=fun f=>gD f []) rfl _ _ _,rfl,⟨2,rfl⟩⟩;cases h
def zU:Sp
 | [.agg [.int .i64 a,.int .i64 b],.agg [.int .i64 c,.int .i64 d]]=>some (.bool (bV a d&&bV c b))
 |_=>none
def afK:cQ ah 308 zU:=by
 refine pV (T:=[]) .nil fun e u h=>?_;unfold zU at h;split at h;rename_i a b c d;have h:=sI h;subst h;exact⟨rfl,_,_,afM (sp:=fun f=>gD f []) rfl (a,b) (c,d) _,rfl,⟨1,rfl⟩⟩;cases h
variable{m:Nat}{s s':St}
def dn.putT(h:dn m s s')(o:Option aJ):dn m s (s'.Gt (s'.top.put m o)):=
 ⟨fun k d=>by rw[lL,aR,bN.2 d];exact h.old k d,h.aL,h.ci,pB h.mw (bk _)⟩
variable{K:Ex->Fr->St->Prop}{segs:List bI}{sv:aa}
theorem amw(y:Q.spec 303=some AF)(Z:ax 4 bL sv segs)(O:segs.length<=1000){s0:St}(hx: ∀e lc s,ac e 4= .arr 9 m 0 segs.length segs.length->dn m s0 s->s.get [] m=some (.cells (aF ((ij 0 segs).map cI)))->K (.exit 0) ⟨e,102,lc⟩ s):
 ∀(h d:List bI) (e:aw) (lc:Ag.Loc) (s:St),segs=d++h->dn m s0 s->s.get [] m=some (.cells (aF ((AV d h.length).map cI)))->
  ac e 4= .arr 9 m 0 segs.length segs.length->ac e 20=sv->ac e 21=aM segs.length->ac e 22=aM d.length->W Q 224 (.loop Oa) ⟨e,102,lc⟩ s K:=by
 intro h
 induction h with
 |nil=>
  intro d e lc s z H N J u j x;have F:d.length=segs.length:=by rw[z];simp
  refine bq ?_;simp only[aU,jK,js,isStore,fZ,fT,cut,eM,cM,bK,ai,ay,bG,dw,dG,dU,cy,te,dD,dC,reduceCtorEq,ED,iu,FZ,ofValue,pF,LA,D4,LJ,jl,JM,abI,w6,FX,mG,C6,C7,qR,yT,abK,JN,wq,x8,BX,qu,oK,BZ,mj,qv,uH,z9,fD,co,kT,sk,acu,TX,abJ,acX,acs,LD,LH,LI,Qt,Qy,JL,Rs,Ry,Rz,RZ,R0,R5,R6,MA,MB,Hl,MC,MG,MH,MI,MJ,MM,MN,vo,sj,zd,LG,LC,Qv,Rt,tW,R4,Hn,MD,jn,Qz,Qq,Qw,RA,Ru,R1,yi,uZ,LF,Qs,Qu,Qx,QA,QB,Qr,Rx,RB,Rv,R7,R3,Hm,ME,MF,MO,MP,MQ,MR,MS,Ho,MT,Eo,pS,Dj,Wx,CD,Aw,Nj,N9,KJ,KF,KA,KI,Ky,Kx,KH,KD,Kz,KC,KG,Mm,Ml,K7,K5,K6,K8,Nr,Nq,Mp,Mo,LY,LZ,LX,LW,Rq,Rp,mr,aP,aQ,pD,hG,Std.P,Std.hint,Oa,u,j,x,F,cq]
  grind [iV,AV]
 |cons g h Y=>
  intro d e lc s z H N J u j x;have B:d.length<segs.length:=by rw[z];simp
  have I:segs[d.length]? =some g:=by rw[z];simp
  have G:=fun lc k=>Z.at vo.2.2.1 I lc k;have A:=dg (n:=d.length) (by omega);have U:AF [ag g.1.1,ag g.2.1]=some (aN (jz g,uO g)):=rfl;have S:AF [ag g.1.2,ag g.2.2]=some (aN (qD g,qz g)):=rfl;have w:=WZ (s:=s.top) N (i:=d.length) (by rw[auN,dM];omega) ((((d.length:Nat):Int)),g);rw[dM,auO] at w;simp only[cI,iR] at w;refine bq ?_;simp only[aU,jK,js,isStore,fZ,fT,cut,eM,cM,bK,ai,ay,bG,dw,dG,dU,cy,te,dD,dC,reduceCtorEq,ED,iu,FZ,ofValue,pF,LA,D4,LJ,jl,JM,abI,w6,FX,mG,C6,C7,qR,yT,abK,JN,wq,x8,BX,qu,oK,BZ,mj,qv,uH,z9,fD,co,kT,sk,acu,TX,abJ,acX,acs,LD,LH,LI,Qt,Qy,JL,Rs,Ry,Rz,RZ,R0,R5,R6,MA,MB,Hl,MC,MG,MH,MI,MJ,MM,MN,vo,sj,zd,LG,LC,Qv,Rt,tW,R4,Hn,MD,jn,Qz,Qq,Qw,RA,Ru,R1,yi,uZ,LF,Qs,Qu,Qx,QA,QB,Qr,Rx,RB,Rv,R7,R3,Hm,ME,MF,MO,MP,MQ,MR,MS,Ho,MT,Eo,pS,Dj,Wx,CD,Aw,Nj,N9,KJ,KF,KA,KI,Ky,Kx,KH,KD,Kz,KC,KG,Mm,Ml,K7,K5,K6,K8,Nr,Nq,Mp,Mo,LY,LZ,LX,LW,Rq,Rp,mr,aP,aQ,pD,hG,Std.P,Std.hint,Oa,J,u,j,x,B,G,A,bL,y,U,S,aN,cO,H.mw,w,bj,bc,aX,aZ,evc,gi,iJ];refine⟨rfl,Y (d++[g]) _ _ _ (by rw[z];simp) (H.putT _) (by rw[lL,aR,bS];rfl) ?_ ?_ ?_ ?_⟩
  all_goals simp only[aW,fh,ai,J,u,j,cD]
def jD:aa->Option Nat
 | .arr _ n _ _ _=>some n
 |_=>none
def ku(sz:Nat)(s:St)(v:aa)(xs:List aa):Prop:=(v= .AL/\xs=[])\/(xs≠ []/\ ∃k,v= .arr sz k 0 xs.length xs.length/\s.get [] k=some (.cells (aF xs))/\k<s.aL)
variable{xs:List aa}{sz:Nat}{v:aa}
def ku.ge(h:ku sz s v xs):v.ge=true:=by
 rcases h with⟨rfl,_⟩|⟨_,k,rfl,_⟩<;>rfl
def ku.mono(h:ku sz s v xs)(d: ∀n,jD v=some n->s'.get [] n=s.get [] n)(u:s.aL<=s'.aL):ku sz s' v xs:=by
 rcases h with h|⟨j,k,rfl,e,w⟩
 exact .inl h;exact .inr ⟨j,k,rfl,by rw[d k rfl];exact e,by omega⟩
def ku.lt(h:ku sz s v xs): ∀n,jD v=some n->n<s.aL:=by
 intro n d;rcases h with⟨rfl,_⟩|⟨_,k,rfl,_,h⟩
 cases d;cases d;exact h
def Li{t:TypeId}{E:EI}(I:lQ ah t=some E)(z:E.n=sz)(S:E.b<=88)(x:aa)(u: ∀y∈xs,y.cells.length=sz)(H:xs.length<1000000)(G:s.gt<=s.aL)(h:ku sz s v xs):
 ∃d,fB ah [] t v (.list sz [x] .GE) true s=some (.arr sz s.aL 0 (xs.length+1) (xs.length+1),d)/\ku sz d (.arr sz s.aL 0 (xs.length+1) (xs.length+1)) (xs++[x])/\d.aL=s.aL+1/\d.ci=s.ci/\d.gt<=d.aL/\(∀n,n<s.aL->jD v≠some n->d.get [] n=s.get [] n):=by
 subst z;have j:iY (xs.length+1) E.b=true:=vi (by omega) S;have N:(xs++[x]).length=xs.length+1:=by simp
 rcases h with⟨rfl,rfl⟩|⟨_,k,rfl,O,J⟩
 refine⟨s.new (.cells (aF [x])),?_,.inr ⟨by simp,s.aL,rfl,?_,kF _⟩,rfl,rfl,bU G,fun n z _=>?_⟩;have j:iY 1 E.b=true:=j;simp only[fH,fh,fB,I,bg,em,jM,kB,eH,j];rw[eT,bS];rfl;rw[eT,bN.2 (by omega:n≠s.aL)];rfl;have F:(aF xs).length=xs.length*E.n:=MZ u;have B:aF [x]=x.cells:=by show x.cells++aF []=_;simp[aF]
 refine⟨(s.put k none).new (.cells (aF (xs++[x]))),?_,.inr ⟨by simp,s.aL,by rw[N],?_,kF _⟩,rfl,rfl,?_,fun n z w=>?_⟩;simp only[fH,fh,fB,I,bg,em,jM,O,eH,j,F,bW,mR,B,qx];rw[eT,mA,bS];rfl;exact bU (cR s k none G);have A:n≠k:=fun e=>w (by rw[e];rfl);rw[eT,mA,bN.2 (by omega:n≠s.aL),cF,aR,bN.2 A];rfl
def rg(s:St)(av:aa)(act:List cL):Prop:=(av= .AL/\act=[])\/ ∃(k:Nat) (R:List cL),av= .arr 9 k 0 act.length R.length/\s.get [] k=some (.cells (aF (R.map cI)))/\R.take act.length=act/\act.length<=R.length/\R.length<=1000/\k<s.aL
variable{xs:List cL}
def rg.ge(h:rg s v xs):v.ge=true:=by
 rcases h with⟨rfl,_⟩|⟨k,R,rfl,_⟩<;>rfl
def rg.mono(h:rg s v xs)(d: ∀n,jD v=some n->s'.get [] n=s.get [] n)(x:s.aL<=s'.aL):rg s' v xs:=by
 rcases h with h|⟨k,R,rfl,w,u,j,e,y⟩
 exact .inl h;exact .inr ⟨k,R,rfl,by rw[d k rfl];exact w,u,j,e,by omega⟩
def rg.lt(h:rg s v xs): ∀n,jD v=some n->n<s.aL:=by
 intro n d;rcases h with⟨rfl,_⟩|⟨k,R,rfl,_,_,_,_,h⟩
 cases d;cases d;exact h
def rg.len(h:rg s v xs)(mk:aI)(s':St):iG ah mk 363 v s'=some (aM xs.length):=by
 rcases h with⟨rfl,rfl⟩|⟨k,R,rfl,_⟩
 exact sj.2.2.2.2.1 _ _;exact Fl _ _ _ _ _ _ _
variable{i:Nat}{b:cL}
def rg.at(h:rg s v xs)(e:xs[i]? =some b): ∃n o,(∀lc,ii ah lc 363 v (aM i)=some (.ptr n o))/\yD ah 368 o (s.get [] n)=some (cI b):=by
 have d:i<xs.length:=(nF.1 e).1;rcases h with⟨rfl,rfl⟩|⟨k,R,rfl,x,w,y,_⟩
 cases e;have u:R[i]? =some b:=by rw[<-w,GA,iP d] at e;exact e
 refine⟨k,0+i*9,fun lc=>?_,by rw[eH];exact HM x u⟩;have j:bh i xs.length=true:=cE d;rw[sj.2.2.2.1];simp only[fH,pE,bg,j,bW]
structure nM (s:St) (m:Nat) (its act:List cL) (out:List Mt) (av ov:aa):Prop where
 it:s.get [] m=some (.cells (aF (its.map cI)))
 mlt:m<s.aL
 act:rg s av act
 out:ku 3 s ov (out.map gB)
 d1:jD av≠some m
 d2:jD ov≠some m
 d3: ∀n,jD av=some n->jD ov≠some n
 mw:s.gt<=s.aL
variable{out:List Mt}{act its:List cL}{av ov:aa}
def nM.app(h:nM s m its act out av ov)(u:out.length<1000000)(x:Mt): ∃j d,fB ah [] 286 ov (.list 3 [gB x] .GE) true s=some (d,j)/\nM j m its act (out++[x]) av d/\(∀n,n<s.aL->jD ov≠some n->j.get [] n=s.get [] n)/\j.aL=s.aL+1/\jD d=some s.aL/\d.ge=true:=by
 obtain⟨j,H,G,F,I,B,z⟩:=Li (t:=286) zd.1 rfl (by decide) (gB x) (fun y A=>by obtain⟨a,_,rfl⟩:=cx.1 A;rfl) (by rw[bP];exact u) h.mw h.out;refine⟨j,_,H,⟨(z m h.mlt h.d2).trans h.it,by have:=h.mlt;omega,h.act.mono (fun n w=>z n (h.act.lt n w) (h.d3 n w)) (by omega),by rw[eE];exact G,h.d1,fun e=>?_,fun n w e=>?_,B⟩,z,F,rfl,rfl⟩;injection e with e
 have:=h.mlt;omega;injection e with e
 have:=h.act.lt n w;omega
def qI(s:bI):Bool:=bf s.1&&bf s.2
variable{a:cL}
def aid(h:(bV (qD a.2) (qz b.2)&&bV (qD b.2) (qz a.2))=false):fM a b=none:=by
 refine Vv fun d=>?_;obtain⟨j,e⟩:=d.2;have w:bV (qD a.2) (qz b.2)=true:=dQ j;have u:bV (qD b.2) (qz a.2)=true:=dQ e;rw[w,u] at h;cases h
def amp(S:Q.spec 308=some zU)(a0:Q.spec 225=some kN){nb n52 n51:Nat}(na:qI a.2=true)(b7: ∀x∈act,qI x.2=true)(e0:act.length<=1000)(e1:jD av≠some nb)(r:List Mt)(hr:r.length<=1000000)(hx: ∀e lc s ov,ac e 4= .arr 9 m 0 its.length its.length->ac e 50= .arr 9 m 0 its.length its.length->ac e 51=aM n51->ac e 52=aM n52->ac e 8=av->ac e 10= .ptr nb 0->ac e 7=ov->nM s m its act r av ov->s.get [] nb=some (.cells (iR a))->nb<s.aL->jD ov≠some nb->K (.exit 4) ⟨e,102,lc⟩ s):
 ∀(d h:List cL) (out:List Mt) (ov:aa) (e:aw) (lc:Ag.Loc) (s:St),act=h++d->r=out++d.filterMap (fM a)->nM s m its act out av ov->s.get [] nb=some (.cells (iR a))->nb<s.aL->jD ov≠some nb->
  ac e 4= .arr 9 m 0 its.length its.length->ac e 50= .arr 9 m 0 its.length its.length->ac e 51=aM n51->ac e 52=aM n52->ac e 8=av->ac e 10= .ptr nb 0->ac e 7=ov->
  ac e 59=av->ac e 60=aM act.length->ac e 61=aM h.length->W Q 224 (.loop Cn) ⟨e,102,lc⟩ s K:=by
 intro d
 induction d with
 |nil=>
  intro h out ov e lc s h1 B I Y G F h4 O N J h8 u h7 y j H;have c0:h.length=act.length:=by rw[h1];simp
  have b8:r=out:=by rw[B];simp
  refine bq ?_;simp only[go_sem,seval,Cn,j,H,c0,cq];rw[b8] at hx;exact hx _ _ _ ov (by simp only[sN,seval,h4]) (by simp only[sN,seval,O]) (by simp only[sN,seval,N]) (by simp only[sN,seval,J]) (by simp only[sN,seval,h8]) (by simp only[sN,seval,u]) (by simp only[sN,seval,h7]) I Y G F
 |cons b d ih=>
  intro h out ov e lc s h1 B I Y G F h4 O N J h8 u h7 y j H;have b0:h.length<act.length:=by rw[h1];simp
  have d0:act[h.length]? =some b:=by rw[h1];simp
  obtain⟨n,o,b1,U⟩:=I.act.at d0;have a9:=dg (n:=h.length) (by omega);have b6:=I.act.ge;have a7:qI b.2=true:=b7 b (by rw[h1];simp);simp only[qI,bm] at na a7;have q1:zU [.agg [ag (qD a.2),ag (qz a.2)],.agg [ag (qD b.2),ag (qz b.2)]]=some (.bool (bV (qD a.2) (qz b.2)&&bV (qD b.2) (qz a.2))):=rfl;have q2:=Ps na.1 na.2 a7.1 a7.2;simp only[bL,bO] at q2;simp only[cI,iR] at U Y;have next: ∀(z:List Mt) (w:aa) (A:aw) (a8:Ag.Loc) (s':St),r=z++d.filterMap (fM a)->nM s' m its act z av w->s'.get [] nb=some (.cells (iR a))->nb<s'.aL->jD w≠some nb->
   ac A 4= .arr 9 m 0 its.length its.length->ac A 50= .arr 9 m 0 its.length its.length->ac A 51=aM n51->ac A 52=aM n52->ac A 8=av->ac A 10= .ptr nb 0->ac A 7=w->
   ac A 59=av->ac A 60=aM act.length->ac A 61=ag ((h.length+1:Nat))->W Q 224 (.loop Cn) ⟨A,102,a8⟩ s' K:=fun z w A a8 s' c1 c2 c3 c4 c5 c6 c7 c8 c9 d7 d6 d5 d4 d2 d1=>
    ih (h++[b]) z w A a8 s' (by rw[h1];simp) c1 c2 c3 c4 c5 c6 c7 c8 c9 d7 d6 d5 d4 d2 (by rw[d1,cD];rfl)
  refine bq ?_;cases hy:(bV (qD a.2) (qz b.2)&&bV (qD b.2) (qz a.2)) with
  |false=>
   rw[hy] at q1;have hf:fM a b=none:=aid hy;simp only[go_sem,seval,Cn,u,y,j,H,b0,b1,U,Y,b6,a9,S,q1,aP,aQ];refine next out ov _ _ _ (by rw[B,xC,hf]) I Y G F ?_ ?_ ?_ ?_ ?_ ?_ ?_ ?_ ?_ ?_
   all_goals simp only[sN,seval,h4,O,N,J,h8,u,h7,y,j]
  |true=>
   rw[hy] at q1;cases hk:an (gX a.2 b.2) 0 with
   |true=>
    have hf:fM a b=none:=by unfold fM;rw[hk];rfl
    simp only[go_sem,seval,Cn,u,y,j,H,b0,b1,U,Y,b6,a9,S,a0,q1,q2,hk,aP,aQ];refine next out ov _ _ _ (by rw[B,xC,hf]) I Y G F ?_ ?_ ?_ ?_ ?_ ?_ ?_ ?_ ?_ ?_
    all_goals simp only[sN,seval,h4,O,N,J,h8,u,h7,y,j]
   |false=>
    have hf:fM a b=some (min a.1 b.1,max a.1 b.1,gX a.2 b.2):=by unfold fM;rw[hk];rfl
    have Z:r=(out++[(min a.1 b.1,max a.1 b.1,gX a.2 b.2)])++d.filterMap (fM a):=by rw[B,xC,hf];simp
    have ho:out.length<1000000:=by
     have:out.length+1<=r.length:=by rw[Z,cD,cD];simp
     omega
    obtain⟨s1,w,a1,a2,a3,a4,a5,a6⟩:=I.app ho (min a.1 b.1,max a.1 b.1,gX a.2 b.2);simp only[gB] at a1;have ko:=I.out.ge;simp only[go_sem,seval,Cn,h7,u,y,j,H,b0,b1,U,Y,b6,ko,a6,a9,S,a0,q1,q2,hk,aP,aQ,rp,sR,a1,bj,bc,aX,aZ,evc];refine next _ w _ _ _ Z a2 ((a3 nb G F).trans Y) (by omega) (fun e=>by rw[a5] at e;injection e with e;omega) ?_ ?_ ?_ ?_ ?_ ?_ ?_ ?_ ?_ ?_
    all_goals simp only[sN,seval,h4,O,N,J,h8,u,h7,y,j]
def avC(mk:aI)(e:aw)(s:St):iZ ah mk 363 .AL none none none e s=some .AL:=by kernel_rfl
def nM.mono(h:nM s m its act out av ov)(e: ∀n,n<s.aL->s'.get [] n=s.get [] n)(d:s.aL<=s'.aL)(j:s'.gt<=s'.aL):nM s' m its act out av ov:=
 ⟨(e m h.mlt).trans h.it,by have:=h.mlt;omega,h.act.mono (fun n d=>e n (h.act.lt n d)) d,h.out.mono (fun n d=>e n (h.out.lt n d)) d,h.d1,h.d2,h.d3,j⟩
def nM.appA(h:nM s m its act out av ov)(O:act.length<1000)(a:cL): ∃N y,fB ah [] 363 av (.list 9 [cI a] .GE) true s=some (y,N)/\nM N m its (act++[a]) out y ov/\y.ge=true:=by
 have z:iY (act.length+1) 72=true:=vi (by omega) (by decide);have w:=h.mlt;have j:(act++[a]).length=act.length+1:=by simp
 rcases h.act with⟨rfl,rfl⟩|⟨k,R,rfl,U,S,h3,h4,Z⟩
 refine⟨s.new (.cells (aF [cI a])),.arr 9 s.aL 0 1 1,?_,⟨?_,Nat.lt_succ_of_lt w,.inr ⟨s.aL,[a],rfl,?_,rfl,bk _,by simp,kF _⟩,h.out.mono (fun n d=>?_) (jV _),fun e=>?_,h.d2,fun n d e=>?_,bU h.mw⟩,rfl⟩;have z:iY 1 72=true:=z;simp only[fH,fh,fB,sj,bg,em,jM,kB,eH,z];rw[eT,bN.2 (by omega:m≠s.aL)];exact h.it;rw[eT,bS];rfl
 have:=h.out.lt n d;rw[eT,bN.2 (by omega:n≠s.aL)];rfl;injection e with e;omega
 injection d with d
 have:=h.out.lt n e;omega;have G:(aF (R.map cI)).length=R.length*9:=by rw[oh wB];simp
 have F:aF [cI a]=(cI a).cells:=by show(cI a).cells++aF []=_;simp[aF]
 have B:m≠k:=fun e=>h.d1 (by rw[e];rfl);by_cases hfull:act.length=R.length;have J:R=act:=by rw[<-S,hfull,List.take_length]
 subst J;refine⟨(s.put k none).new (.cells (aF (R.map cI++[cI a]))),.arr 9 s.aL 0 (R.length+1) (R.length+1),?_,⟨?_,Nat.lt_succ_of_lt w,.inr ⟨s.aL,R++[a],by rw[j],?_,by rw[List.take_length],bk _,by rw[j];omega,kF _⟩,h.out.mono (fun n d=>?_) (jV _),fun e=>?_,h.d2,fun n d e=>?_,bU (cR s k none h.mw)⟩,rfl⟩;simp only[fH,fh,fB,sj,bg,em,jM,U,eH,z,G,bW,mR,F,qx];rw[eT,mA,bN.2 (by omega:m≠s.aL),cF,aR,bN.2 B];exact h.it;rw[eT,mA,bS,eE];rfl
 have:=h.out.lt n d;have u:n≠k:=fun e=>h.d3 k rfl (by rw[d,e]);rw[eT,mA,bN.2 (by omega:n≠s.aL),cF,aR,bN.2 u];rfl;injection e with e;omega
 injection d with d
 have:=h.out.lt n e;omega;have A:act.length<R.length:=by omega
 have I:(act.length*9==R.length*9)=false:=bN.2 (by omega);have H:bn (act.length+1) R.length=true:=cE (by omega);have Y:=yW (k:=9) wB (rows:=R.map cI) (i:=act.length) (by rw[bP];exact A) (x:=cI a) rfl;refine⟨s.put k (some (.cells (aF ((R.set act.length a).map cI)))),.arr 9 k 0 (act.length+1) R.length,?_,⟨?_,w,.inr ⟨k,R.set act.length a,by rw[j,GC],?_,?_,by rw[j,GC];omega,by rw[GC];exact h4,Z⟩,h.out.mono (fun n d=>?_) (bk _),h.d1,h.d2,h.d3,cR s k _ h.mw⟩,rfl⟩;simp only[fH,fh,fB,sj,bg,em,jM,U,eH,z,G,bW,I,cF,H,F,Y,List.map_set];rw[aR,bN.2 B];exact h.it;rw[aR,bS];rfl;rw[j,List.take_succ_eq_append_getElem (by rw[GC];exact A),List.take_set_of_le (bk _),List.getElem_set_self,S];have u:n≠k:=fun e=>h.d3 k rfl (by rw[d,e]);rw[aR,bN.2 u];rfl
def acP{α β:Type}{keep:α->α->Bool}{G:α->α->Option β}: ∀(l act:List α) (out:List β),out.length<=(xg keep G l act out).length
 | [],_,out=>bk _
 |a::l,act,out=>by
  rw[xg];refine eG ?_ (acP l _ _);rw[cD];omega
def ahF(h:No Q 306)(e:No Q 418){g:aa}(u:g.ge=true)(s:St):aq Q 306 [.AL,g] s .AL s:=by
 have d:aq Q 418 [.AL,g] s (bO (-1)) s:=by
  refine aq.ofNZ Yu (bT ?_);simp only[go_sem,cM,bK,ai,ay,bG,dw,dG,dU,cy,dD,dC,reduceCtorEq,dY,sj];refine bq ?_;have w:aV 0 ((0:Nat):Int)=false:=rfl;simp only[go_sem,cM,bK,ai,ay,bG,dw,dG,dU,cy,dD,dC,reduceCtorEq,dY,IB,w,bO]
 refine aq.ofNZ E7 (bT ?_);simp only[go_sem,cM,bK,ai,ay,bG,dw,dG,dU,cy,dD,dC,reduceCtorEq,dY,u];refine ct.of d (by decide) ?_;have j:an (-1) (-1)=true:=rfl;simp only[go_sem,cM,bK,ai,ay,bG,dw,dG,dU,cy,dD,dC,reduceCtorEq,dY,bO,j,avC]
def ahD(h:No Q 306)(d:No Q 418)(u:No Q 307){nb:Nat}(I:nM s m its act out av ov)(z:s.get [] nb=some (.cells (iR a)))(A:jD av≠some nb):
 ∃v s',aq Q 306 [av,.func (.func 307) [] [.ptr nb 0]] s v s'/\(nM s' m its (act.filter fun x=> !iE a x) out v ov/\s'.get [] nb=some (.cells (iR a))/\s'.aL=s.aL/\jD v=jD av/\v.ge=true):=by
 rcases I.act with⟨rfl,rfl⟩|⟨k,R,rfl,Y,U,S,O,N⟩
 exact⟨_,_,ahF h d rfl s,I,z,rfl,rfl,rfl⟩;have w:nb≠k:=fun e=>A (by rw[e];rfl);obtain⟨v,s',F,rfl,j,Z,y,B,G⟩:=ahG (lcap:=R.length) h d u w (by omega) S Y z I.mw;rw[U] at F B;have J:=kE (fun x=> !iE a x) act;refine⟨_,s',F,⟨?_,by rw[j.aL];exact I.mlt,.inr ⟨k,Z,by rw[y],G,B,by rw[y];omega,by rw[y];exact O,by rw[j.aL];exact N⟩,I.out.mono (fun n H=>j.old n fun e=>I.d3 k rfl (by rw[H,e])) (by rw[j.aL];exact bk _),I.d1,I.d2,I.d3,j.mw⟩,(j.old nb w).trans z,j.aL,rfl,rfl⟩;exact(j.old m fun e=>I.d1 (by rw[e];rfl)).trans I.it
def aqV(O:No Q 306)(H:No Q 418)(N:No Q 307)(a7:Q.spec 308=some zU)(a8:Q.spec 225=some kN)(Z: ∀x∈its,qI x.2=true)(hl:its.length<=1000){F:List Mt}(hF:F.length<=1000000)(j: ∀e lc s ov,ac e 7=ov->ku 3 s ov (F.map gB)->s.gt<=s.aL->K (.exit 2) ⟨e,102,lc⟩ s):
 ∀(h d act:List cL) (out:List Mt) (av ov:aa) (e:aw) (lc:Ag.Loc) (s:St),its=d++h->F=xg (fun a x=> !iE a x) fM h act out->(∀x∈act,x∈its)->act.length<=d.length->nM s m its act out av ov->
  ac e 4= .arr 9 m 0 its.length its.length->ac e 50= .arr 9 m 0 its.length its.length->ac e 51=aM its.length->ac e 52=aM d.length->ac e 8=av->ac e 7=ov->W Q 224 (.loop Ob) ⟨e,102,lc⟩ s K:=by
 intro h
 induction h with
 |nil=>
  intro d act out av ov e lc s h1 G ha c3 I h4 B w u h8 h7;have c0:d.length=its.length:=by rw[h1];simp
  refine bq ?_;simp only[go_sem,cM,bK,ai,ay,bG,dw,dG,dU,cy,dD,dC,reduceCtorEq,dY,Ob,w,u,c0,cq];have G:F=out:=G;refine j _ _ _ ov (by simp only[sN,ai,bG,h7]) ?_ I.mw;rw[G];exact I.out
 |cons a h ih=>
  intro d act out av ov e lc s h1 G ha c3 I h4 B w u h8 h7;have b8:d.length<its.length:=by rw[h1];simp
  have A:its[d.length]? =some a:=by rw[h1];simp
  have a4:=HM I.it A;have b0:=dg (n:=d.length) (by omega);have c1:=I.act.ge;have na:qI a.2=true:=Z a (dB A);have d4:=I.mlt;obtain⟨z,S⟩:=bZ (s.new (.cells [ag 0,ag 0,ag 0,ag 0,ag 0,ag 0,ag 0,ag 0,ag 0]));have zn:z.aL=s.aL+1:=by rw[<-S];rfl
  have zg:z.get [] s.aL=some (.cells [ag 0,ag 0,ag 0,ag 0,ag 0,ag 0,ag 0,ag 0,ag 0]):=by rw[<-S,eT,bS];rfl
  have zo: ∀n,n<s.aL->z.get [] n=s.get [] n:=fun n Z=>by rw[<-S,eT,bN.2 (by omega:n≠s.aL)];rfl
  have zm:z.gt<=z.aL:=by rw[<-S];exact bU I.mw
  have b6: ∀lc,Kc lc z s.aL 0 (cI a) (z.get [] s.aL)=some (lc,z.put s.aL (some (.cells (iR a)))):=fun lc=>by rw[zg];rfl
  have J:nM (z.put s.aL (some (.cells (iR a)))) m its act out av ov:=I.mono (fun n Z=>by rw[aR,bN.2 (by omega:n≠s.aL)];exact zo n Z) (by show s.aL<=z.aL;omega) (cR z _ _ zm);have Jb:(z.put s.aL (some (.cells (iR a)))).get [] s.aL=some (.cells (iR a)):=by rw[aR,bS];rfl
  have Jn:(z.put s.aL (some (.cells (iR a)))).aL=s.aL+1:=zn;have a6:jD av≠some s.aL:=fun e=>by have:=I.act.lt _ e;omega
  have b7:jD ov≠some s.aL:=fun e=>by have:=I.out.lt _ e;omega
  generalize hz1:z.put s.aL (some (.cells (iR a)))=z1 at*;have y:=b6;simp only[cI,iR] at a4 y;refine bq ?_;simp only[go_sem,cM,bK,ai,ay,bG,dw,dG,dU,cy,dD,dC,reduceCtorEq,dY,Ob,B,w,u,h8,b8,sj,a4,S,y,aP,cO,c1];refine ct.ex (ahD O H N J Jb a6) (by decide) ?_;rintro v s2 ⟨I2,c2,d2,Y,b1⟩;have a0:=I2.act.len;simp only[go_sem,cM,bK,ai,ay,bG,dw,dG,dU,cy,dD,dC,reduceCtorEq,dY,b1,a0];have d5:(act.filter fun x=> !iE a x).length<=act.length:=kE _ _;have d6:(out++(act.filter fun x=> !iE a x).filterMap (fM a)).length<=F.length:=by rw[G];exact acP _ _ _
  refine amp a7 a8 (a:=a) (m:=m) (nb:=s.aL) (n52:=d.length) (n51:=its.length) (its:=its) (act:=act.filter fun x=> !iE a x) (av:=v) na (fun x j=>Z x (ha x (kV.1 j).1)) (by omega) (by rw[Y];exact a6) (out++(act.filter fun x=> !iE a x).filterMap (fM a)) (by omega) ?_ (act.filter fun x=> !iE a x) [] out ov _ _ s2 rfl rfl I2 c2 (by omega) b7 ?_ ?_ ?_ ?_ ?_ ?_ ?_ ?_ ?_ ?_
  ·intro e2 d1 s3 a9 g4 c6 c5 c4 g8 c7 g7 I3 a5 d0 c9
   obtain⟨s4,c8,a1,a2,a3⟩:=I3.appA (by omega) a;have U:=I3.act.ge;simp only[iR] at a5;simp only[cI,iR] at a1;simp only[go_sem,cM,bK,ai,ay,bG,dw,dG,dU,cy,dD,dC,reduceCtorEq,dY,g8,c7,c4,a5,b0,U,a3,aP,aQ,a1,bj,bc,aX,aZ,evc];refine ih (d++[a]) ((act.filter fun x=> !iE a x)++[a]) _ c8 a9 _ _ _ (by rw[h1];simp) G ?_ ?_ a2 ?_ ?_ ?_ ?_ ?_ ?_;intro x j;rcases jb.1 j with j|j
   exact ha x (kV.1 j).1;rw[qX.1 j];exact dB A;rw[cD,cD];simp only[fh];omega
   all_goals simp only[sN,ai,bG,g4,c6,c5,g7,sA]
  all_goals simp only[sN,ai,bG,h4,B,w,u,h7,cV]
  all_goals rfl
def L4{k:Nat}: ∀ {l:List aa},(∀v∈l,v.cells.length=k/\v= .agg v.cells)->aZ true k l.length (aF l)=some l
 | [],_=>rfl
 |v::l,h=>by
  obtain⟨d,z⟩:=h v gF;have j:=L4 (l:=l) fun x u=>h x (fW _ u);have y:cut (v.cells++aF l) 0 k=some v.cells:=by
   simp only[cut,mR,iU];rw[List.take_append_of_le_length (by omega),qY (by omega),d];simp
  have w:(v.cells++aF l).drop k=aF l:=by rw[<-d,List.drop_left]
  show(bif true then(cut (v.cells++aF l) 0 k).bind fun e=>(aZ true k l.length ((v.cells++aF l).drop k)).bind fun r=>some (.agg e::r) else _)=_;rw[y,w,j];show some (aa.agg v.cells::l)=_;rw[<-z]
def ajp{xs:List aa}(u: ∀v∈xs,v.cells.length=sz/\v= .agg v.cells)(A:aK sz 1=false){k:Nat}(y: ∀v∈aF xs,cC s.heap k v=some v)(h:ku sz s v xs):cC s.heap (k+1) v=some (io sz xs):=by
 rcases h with⟨rfl,rfl⟩|⟨d,n,rfl,j,_⟩
 rfl;have j:s.heap.get n=some (.cells (aF xs)):=j;have z:cut (aF xs) 0 (xs.length*sz)=some (aF xs):=by
  have:=oh (k:=sz) fun v w=>(u v w).1;simp only[cut,mR,iU];rw[qY (by omega),this];simp
 have e:io sz xs= .list sz xs .no:=by
  cases xs with
  |nil=>exact absurd rfl d
  |cons x xs=>rfl
 show(match s.heap.get n with
  |some (.cells cs)=>(cut cs 0 (xs.length*sz)).bind fun c=>(dq (cC s.heap k) c).bind fun B=>(aZ (!aK sz 1) sz xs.length B).bind fun xs=>some (aa.list sz xs .no)
  |_=>none)=_
 rw[j,e];simp only[z,bg,yd y,A,Bool.not_false,L4 u]
def Bz:List aa->Option (List bI)
 | []=>some []
 |v::l=>(uq v).bind fun s=>(Bz l).bind fun r=>some (s::r)
def G4:aa->Option (List bI)
 | .AL=>some []
 | .list 4 xs _=>Bz xs
 |_=>none
def TN: ∀ {xs:List aa} {l:List bI},Bz xs=some l->xs=l.map bL
 | [],l,h=>by injection h with h;subst h;rfl
 |v::xs,l,h=>by
  simp only[Bz,aj,aH] at h;obtain⟨s,e,r,d,rfl⟩:=h;rw[zS e,TN d];rfl
def TP: ∀l:List bI,Bz (l.map bL)=some l
 | []=>rfl
 |s::l=>by simp only[eA,Bz,G3,bg,TP l]
variable{l:List bI}
def afl(h:G4 v=some l):ax 4 bL v l/\dL v=true/\ax 4 bL (cW v) l:=by
 unfold G4 at h;split at h;injection h with h;subst h
 exact⟨.inl ⟨rfl,rfl⟩,rfl,.inl ⟨rfl,rfl⟩⟩;rename_i xs r
 have:=TN h;subst this;have d:ax 4 bL (.list 4 (l.map bL) r) l:=.inr ⟨r,rfl⟩;exact⟨d,n7 avi d⟩;cases h
def afm(h:ax 4 bL v l):G4 v=some l:=by
 rcases h with⟨rfl,rfl⟩|⟨r,rfl⟩
 rfl;exact TP l
def Fy(l:List Mt):aa:=io 3 (l.map gB)
def zP:Sp
 | [u]=>(G4 u).bind fun l=>bif decide (l.length<=1000)&&l.all qI then some (.tup [Fy (gr l),ag 0]) else none
 |_=>none
def ae7(h:ax 4 bL v l)(e:l.length<=1000)(d: ∀x∈l,qI x=true):zP [v]=some (.tup [Fy (gr l),ag 0]):=by
 simp only[dW,zP,afm h,e,dT,en,fu.2 d]
def oA:dp:=[(303,AF),(308,zU),(225,kN)]
def aeB:du oA:=.cons asf (.cons afK (.cons Pu .nil))
noncomputable def oB:ri:=[(304,Ra),(309,Rc)]
def aeJ:sQ oB:=.cons avN (.cons avQ .nil)
def arh(h:Nat)(u:h<=1000)(s:St):n9 ah 363 (aM h) (aM h) true s=some (.arr 9 s.aL 0 h h,s.new (.cells (aF ((gG h Bf).map cI)))):=by
 have j:bn h h=true:=cE (bk _);have e:bn (h*72) 1099511627776=true:=cE (by omega);have d:bn h 1099511627776=true:=cE (by omega);simp only[dW,n9,sj,pE,j,e,d,jp,gh,bW,cF,lK,adN]
def amz(h:(cI a).cells=(cI b).cells):a=b:=by
 have d:xO (cI a)=xO (cI b):=by
  have:cI a=cI b:=by show aa.agg (cI a).cells=aa.agg (cI b).cells;rw[h]
  rw[this]
 rw[Ll,Ll] at d;exact sI d
def arj{a b:Mt}(h:(gB a).cells=(gB b).cells):a=b:=by
 have d:zQ (gB a)=zQ (gB b):=by
  have:gB a=gB b:=by show aa.agg (gB a).cells=aa.agg (gB b).cells;rw[h]
  rw[this]
 rw[Lm,Lm] at d;exact sI d
def afb(ch:Nat->Nat)(hs:ax 4 bL sv segs)(d:segs.length<=1000)(hn: ∀x∈segs,qI x=true): ∃v s',aq (QW oA oB ch) 224 [sv] s0 v s'/\gm s'.heap v (.tup [Fy (gr segs),ag 0]):=by
 have I:Std (QW oA oB ch):=inferInstance;have a0:(QW oA oB ch).spec 303=some AF:=rfl;have w:(QW oA oB ch).spec 308=some zU:=rfl;have a1:(QW oA oB ch).spec 225=some kN:=rfl;have z:(QW oA oB ch).spec 304=none:=rfl;have j:(QW oA oB ch).spec 309=none:=rfl;have O:(QW oA oB ch).specW 304=some Ra:=rfl;have u:(QW oA oB ch).specW 309=some Rc:=rfl;have N:No (QW oA oB ch) 306:=⟨rfl,rfl⟩;have G:No (QW oA oB ch) 418:=⟨rfl,rfl⟩;have J:No (QW oA oB ch) 307:=⟨rfl,rfl⟩;have b7:No (QW oA oB ch) 224:=⟨rfl,rfl⟩;generalize QW oA oB ch=Q at*;have a8:=hs.lenS vo;have b0:aV 20000 ((segs.length:Nat):Int)=false:=by simp only[aV,decide_eq_false_iff_not];omega
 have b1:=hs.ge;have a6:=arh segs.length d s0;have a9:=amx d;have a2:(ze segs).length=segs.length:=by rw[(Rk segs).length_eq,wA]
 have Z:=wA segs 0;refine aq.ofNRZ anH (bT ?_);simp only[go_sem,seval,a8,b0,b1,Qb,a6,hG];refine amw a0 hs d (m:=s0.aL) (s0:=s0.new (.cells (aF ((gG segs.length Bf).map cI)))) ?_ segs [] _ _ _ rfl (.refl (by show s0.gt<=s0.aL+1;decide)) (by rw[eT,bS];rfl) ?_ ?_ ?_ ?_
 ·intro e lc s1 h4 hb hm
  simp only[go_sem,seval,h4,hG,z];have hg:(bif aK (aF ((ij 0 segs).map cI)).length (segs.length*9) then xd cI xX (0,((0,0),(0,0))) FF (aF ((ij 0 segs).map cI)) else none)=some (aF ((ze segs).map cI)):=by
   have h1:(aF ((ij 0 segs).map cI)).length=segs.length*9:=by rw[oh wB,bP,Z]
   rw[h1,iU,bS,cT,xd,Hg (k:=9) (fun _=>rfl) (by decide) (fun a b=>amz)];simp only[dW,a9];rfl
  refine ct.of (aq.specWp (n:=s0.aL) (cs':=aF ((ze segs).map cI)) z (Std.H _) O rfl hm hg) (by decide) ?_;have a5:=cR s1 s0.aL (some (.cells (aF ((ze segs).map cI)))) hb.mw;have c0:s1.aL=s0.aL+1:=hb.aL;simp only[go_sem,seval,h4,Fl,hG];refine aqV N G J w a1 (m:=s0.aL) (its:=ze segs) (F:=ta segs) ?_ (by omega) ?_ ?_ (ze segs) [] [] [] .AL .AL _ _ _ rfl rfl (fun _ h=>by cases h) (bk _) ⟨by rw[aR,bS];rfl,by show s0.aL<s1.aL;omega,.inl ⟨rfl,rfl⟩,.inl ⟨rfl,rfl⟩,fun e=>(by cases e),fun e=>(by cases e),fun _ h=>(by cases h),a5⟩ ?_ ?_ ?_ ?_ ?_ ?_;intro x hx;have hx:=(Rk segs).mem_iff.1 hx;have: ∀(l:List bI) (i:Nat),x∈ij i l->x.2∈l:=by
   intro l
   induction l with
   |nil=>intro i h;cases h
   |cons y l ih=>
    intro i h;rcases dl.1 h with rfl|h
    exact gF;exact fW _ (ih _ h)
  exact hn _ (this _ _ hx);rw[(B6 segs).length_eq]
  have:=FP (F:=fM) (ij 0 segs);rw[Z] at this;have:segs.length*segs.length<=1000*1000:=qZ d d;unfold gr;omega;intro w b8 s2 ov h7 hR c1;have a4:=aji d;have Y:=hR.ge;have A: ∃S,aq Q 309 [ov,.func (.func 310) [] []] s2 (.tup []) S/\ku 3 S ov ((gr segs).map gB):=by
   rcases hR with⟨rfl,h0⟩|⟨h0,k,rfl,hk,a7⟩
   refine⟨s2,aq.specW0 j (Std.H _) u rfl,.inl ⟨rfl,?_⟩⟩;have h0:=zy.1 h0
   have:=B6 segs;rw[h0] at this;rw[<-List.Perm.nil_eq this];rfl;have B:(gr segs).length=(ta segs).length:=(B6 segs).length_eq.symm;have hg:(bif aK (aF ((ta segs).map gB)).length (((ta segs).map gB).length*3) then xd gB sX (0,0,0) FG (aF ((ta segs).map gB)) else none)=some (aF ((gr segs).map gB)):=by
    have h1:(aF ((ta segs).map gB)).length=((ta segs).map gB).length*3:=oh fun v U=>by
     obtain⟨a,_,rfl⟩:=cx.1 U;rfl
    rw[h1,iU,bS,cT,xd,Hg (k:=3) (fun _=>rfl) (by decide) (fun a b=>arj)];simp only[dW,a4];exact congrArg (fun x=>some (aF (x.map gB))) (ajj segs)
   refine⟨_,aq.specWp (n:=k) (cs':=aF ((gr segs).map gB)) j (Std.H _) u rfl hk hg,.inr ⟨?_,k,?_,?_,a7⟩⟩;intro hc;have hc:=zy.1 hc;rw[hc] at B;exact h0 (by rw[List.eq_nil_of_length_eq_zero B.symm];rfl);rw[bP,bP,B];rw[aR,bS];rfl
  obtain⟨S,a3,b6⟩:=A;simp only[go_sem,seval,h7,Y,j];refine ct.of a3 (by decide) ?_;simp only[go_sem,seval,h7,Y];refine⟨_,rfl,3,?_⟩;have hf:=ajp (sz:=3) (k:=1) (fun v U=>by obtain⟨a,_,rfl⟩:=cx.1 U;exact⟨rfl,rfl⟩) rfl (fun v U=>?_) b6;show(dq (cC S.heap 2) [ov,ag 0]).bind (fun r=>some (aa.tup r))=_;simp only[dq,hf,bg];rfl;have: ∀l:List Mt,v∈aF (l.map gB)->cC S.heap 1 v=some v:=by
   intro l
   induction l with
   |nil=>intro h;cases h
   |cons a l ih=>
    intro h;rw[eA,aF,jb] at h;rcases h with h|h
    simp only[gB,lK,dl,vH,or_false] at h;rcases h with rfl|rfl|rfl<;>rfl
    exact ih h
  exact this _ U
  all_goals simp only[sN,seval,h4,a2,cV]
  all_goals rfl
 all_goals simp only[sN,seval,cV]
 all_goals rfl
def ae8:cQ ah 224 zP:=by
 intro j x d G z w xs u y;unfold zP at d;split at d;simp only[aj] at d;obtain⟨l,F,h⟩:=d;obtain⟨e,h⟩:=aY h;simp only[bm,dE] at e;have h:=sI h;subst h;obtain⟨_,B,A⟩:=afl F;refine jo aeB aeJ (by simp only[ei,B,bW]) (fun H=>?_) G z w xs u y;exact afb H A e.1 (fu.1 e.2);cases d
def j6{α:Type}(p:α->Bool):List α->Nat->Int
 | [],_=> -1
 |x::l,i=>bif p x then(i:Int) else j6 p l (i+1)
def Eu{α:Type}(p:α->Bool): ∀(l:List α) (i:Nat),bV 0 (j6 p l i)=l.any p
 | [],_=>rfl
 |x::l,i=>by
  simp only[j6,List.any_cons];cases p x with
  |true=>simp[bV]
  |false=>exact Eu p l (i+1)
variable{lc:Ag.Loc}{g:FuncId}{cap:List aa}{l:List ae}{p:ae->Bool}
def amf(Y:ax 1 aA sv l)(O:l.length<=1000000)(I:Q.spec g=none)(hg: ∀x∈l,aq Q g (.str x::cap) s (.bool (p x)) s){r:Int}(U: ∀e,r= -1->K (.exit 0) ⟨e,19,lc⟩ s)(Z: ∀e,ac e 4=ag r->K .ret ⟨e,19,lc⟩ s):
 ∀(h d:List ae) (e:aw),l=d++h->r=j6 p h d.length->ac e 0=sv->ac e 1= .func (.func g) [] cap->ac e 7=aM l.length->ac e 8=aM d.length->W Q 261 (.loop Ih) ⟨e,19,lc⟩ s K:=by
 intro h
 induction h with
 |nil=>
  intro d e y A N J z w;have G:d.length=l.length:=by rw[y];simp
  refine bq ?_;simp only[go_sem,seval,Ih,z,w,G,cq];exact U _ A
 |cons x h S=>
  intro d e y A N J z w;have F:d.length<l.length:=by rw[y];simp
  have u:l[d.length]? =some x:=by rw[y];simp
  have H:=fun lc k=>Y.at co.2.2.1 u lc k;have B:=dg (n:=d.length) (by omega);have j:=hg x (dB u);have e1:([]:List aa)++([aa.str x]++cap)= .str x::cap:=rfl;refine bq ?_;simp only[go_sem,seval,Ih,N,J,z,w,F,H,aA,I];refine ct.of j (by decide) ?_;cases hd:p x with
  |true=>
   simp only[go_sem,seval];exact Z _ (by simp only[sN,seval,w,A,j6,hd])
  |false=>
   simp only[go_sem,seval,w,B];refine S (d++[x]) _ (by rw[y];simp) (by rw[A];simp only[j6,hd,cF,sA]) ?_ ?_ ?_ ?_
   all_goals simp only[sN,seval,N,J,z,sA]
def amg(y:No Q 261)(h:ax 1 aA sv l)(d:l.length<=1000000)(u:Q.spec g=none)(A: ∀x∈l,aq Q g (.str x::cap) s (.bool (p x)) s):aq Q 261 [sv,.func (.func g) [] cap] s (bO (j6 p l 0)) s:=by
 have j:=h.lenS co;have w:=h.ge;refine aq.ofNZ EZ (bT ?_);simp only[go_sem,seval,j,w];refine amf h d u A (r:=j6 p l 0) ?_ ?_ l [] _ rfl rfl (by simp only[sG,seval, *]) (by simp only[sG,seval, *]) (by simp only[sG,seval, *]) (by simp only[sN,seval];rfl);intro e z;simp only[go_sem,seval,z];rfl;intro e B;simp only[go_sem,seval,B];rfl
def Nh(d:No Q 261)(u:No Q 167)(w:ax 1 aA sv l)(e:l.length<=1000000)(h:Q.spec g=none)(y: ∀x∈l,aq Q g (.str x::cap) s (.bool (p x)) s):aq Q 167 [sv,.func (.func g) [] cap] s (.bool (l.any p)) s:=by
 have j:=w.ge;refine aq.ofNZ EM (bT ?_);simp only[go_sem,seval,j];refine ct.of (amg d w e h y) (by decide) ?_;simp only[go_sem,seval,bO,nP,Eu]
def im:Bt ah 9 aa.str where
 eq a b:=by
  rw[Hk];by_cases h:a=b;subst h;simp;simp[h]
 same a:=by simp[tz,w9]
 ge _:=rfl
def ig:Nat->List Obj->List (ae×aa)
 |_,[]=>[]
 |i,o::l=>(o.id,ag ((i:Nat):Int))::ig (i+1) l
def WH: ∀(l:List Obj) (i:Nat) (o:Obj),ig i (l++[o])=ig i l++[(o.id,ag ((i+l.length:Nat):Int))]
 | [],_,_=>rfl
 |x::l,i,o=>by
  rw[qW,ig,WH l,ig,dM,show i+1+l.length=i+(l.length+1) by omega];rfl
def pz(k:ae):List Obj->Option Nat
 | []=>none
 |o::l=>bif k==o.id then some 0 else(pz k l).map (· +1)
def Nn(k:ae): ∀l:List Obj,cj k l=(pz k l).bind fun i=>l[i]?
 | []=>rfl
 |o::l=>by
  simp only[cj,pz];cases h:k==o.id with
  |true=>rfl
  |false=>
   simp only[cF,Nn k l];cases pz k l<;>rfl
def Fp(k:ae): ∀(l:List Obj) (i:Nat),cu k (ig i l)=(pz k l).map fun j=>ag ((i+j:Nat):Int)
 | [],_=>rfl
 |o::l,i=>by
  simp only[ig,cu,pz];by_cases h:k=o.id;subst h;simp;have:(k==o.id)=false:=by simpa using h
  rw[iN h,this,Fp k l];simp only[cF];cases pz k l with
  |none=>rfl
  |some j=>simp only[jI];rw[show i+1+j=i+(j+1) by omega]
def WA{k:ae}: ∀ {l:List Obj},k ∉ l.map Obj.id->pz k l=none
 | [],_=>rfl
 |o::l,h=>by
  have j:(k==o.id)=false:=by
   simp only[eA,dl,not_or] at h;simpa using h.1
  have d:=WA (k:=k) (l:=l) fun e=>h (by rw[eA];exact fW _ e);simp only[pz,j,cF,d,sD]
def Pc(k:ae):lh ah 127 (.str k)=some (9,3):=by kernel_rfl
variable{l:List Obj}
def asg(ho:ax 6 Obj.val ov l)(hl:l.length<=1000000)(z:(l.map Obj.id).Nodup){s0:St}{x2:List aa}(hx: ∀e lc s,ac e 4= .Ge 4 1 0->ac e 2= .Ge 2 1 0->lc.gen 2=1->lc.get 2 1=some x2->lc.get 4 1=some [ov,.map m]->dn m s0 s->bJ aa.str s m (ig 0 l)->K (.exit 0) ⟨e,29,lc⟩ s):
 ∀(h d:List Obj) (e:aw) (lc:Ag.Loc) (s:St),l=d++h->dn m s0 s->bJ aa.str s m (ig 0 d)->
  ac e 4= .Ge 4 1 0->ac e 2= .Ge 2 1 0->lc.gen 2=1->lc.get 2 1=some x2->lc.gen 4=1->lc.get 4 1=some [ov,.map m]->ac e 15=ov->ac e 16=aM l.length->ac e 17=aM d.length->W Q 126 (.loop NC) ⟨e,29,lc⟩ s K:=by
 intro h
 induction h with
 |nil=>
  intro d e lc s x Y N F h2 g2 G g4 B w j u;have S:d.length=l.length:=by rw[x];simp
  have I:d=l:=by rw[x];simp
  refine bq ?_;simp only[go_sem,seval,NC,j,u,S,cq];exact hx _ _ _ (by simp only[sN,seval,F]) (by simp only[sN,seval,h2]) g2 G B Y (by rw[<-I];exact N)
 |cons o h ih=>
  intro d e lc s x Y N F h2 g2 G g4 B w j u;have O:d.length<l.length:=by rw[x];simp
  have Z:l[d.length]? =some o:=by rw[x];simp
  have U:=fun lc k=>ho.at fD.2.2.1 Z lc k;have H:=dg (n:=d.length) (by omega);have J:cu o.id (ig 0 d)=none:=by
   rw[Fp,WA,sD];intro hc;rw[x,eE] at z;exact(List.nodup_append.1 z).2.2 _ hc o.id (by simp) rfl
  have y:=vz im Pc N o.id (ag ((d.length:Nat):Int));have A:ee o.id (ag ((d.length:Nat):Int)) (ig 0 d)=ig 0 (d++[o]):=by
   rw[uR J,WH,eH]
  rw[A] at y;refine bq ?_;simp only[go_sem,seval,NC,F,w,j,u,O,U,H,g4,B,Obj.val,Obj.cells,y];refine ih (d++[o]) _ _ _ (by rw[x];simp) (Y.put _) bJ.put ?_ ?_ ?_ ?_ ?_ ?_ ?_ ?_ ?_
  all_goals simp only[aW,gw,gI,ai,F,h2,g2,G,g4,B,w,j,sA]
def asb(w:Q.spec 31=some jh)(x:No Q 126)(h:ax 6 Obj.val ov l)(I: ∀o∈l,o.Al)(H:l.length<=1000000)(j:(l.map Obj.id).Nodup)(B:cZ l=true)(G:s.gt<=s.aL):
 ∃v s',aq Q 126 [.agg [ov]] s v s'/\(v= .tup [.agg [ov,.map s.aL],.bool true]/\bJ aa.str s' s.aL (ig 0 l)/\dn s.aL (s.new (.map [] 0)) s'):=by
 have F:=i6;have u:=h.lenS fD;have d:=h.cs;have y:=AA h I (by omega);rw[B] at y;refine aq.ofNRZ amD (bT ?_);simp only[go_sem,seval,u,d,w,y,mz,uu,bj,bc,aX,aZ,evc];refine asg h H j (m:=s.aL) (s0:=s.new (.map [] 0)) (x2:=[.AL,.nilm]) ?_ l [] _ _ _ rfl (.refl (bU G)) ?_ ?_ ?_ ?_ ?_ ?_ ?_ ?_ ?_ ?_;intro e lc Y O S U A z J N;simp only[go_sem,seval,O,S,U,A,z,d];exact⟨_,rfl,rfl,N,J⟩;show(s.new _).get [] s.aL=_;rw[eT,bS];rfl
 all_goals simp only[aW,gw,gI,uM,ai,bG,cV]
 all_goals rfl
variable{q:Obj}{k:ae}
def Z4(h:cj k l=some q): ∃i,pz k l=some i/\l[i]? =some q:=by
 rw[Nn,aj] at h;exact h
def al7: ∀ {l:List Obj},pz k l=some i->i<l.length:=by
 intro l
 induction l generalizing i with
 |nil=>intro h;cases h
 |cons o l d=>
  intro h;simp only[pz] at h;cases hk:k==o.id with
  |true=>rw[hk] at h;injection h with h;subst h;simp
  |false=>
   rw[hk] at h;simp only[cF,ub] at h;obtain⟨j,e,rfl⟩:=h
   have:=d e;simp only[dM];omega
def Bw{α:Type}(p:α->Bool): ∀l:List α,(!(l.any fun x=> !p x))=l.all p
 | []=>rfl
 |x::l=>by
  simp only[List.any_cons,jq,Bool.not_or,Bool.not_not,Bw p l]
variable{n:Nat}
def Qj(w:No Q 129)(z:ax 6 Obj.val ov l)(hM:bJ aa.str s n (ig 0 l)){id:ae}(A:cj id l=some q):aq Q 129 [.agg [ov,.map n],.str id] s (aN (q.x,q.y)) s:=by
 obtain⟨i,F,B⟩:=Z4 A;have j:=fun lc k=>z.at fD.2.2.1 B lc k;have d:=qC im Pc Kk hM id;rw[Fp,F] at d;simp only[jI,Option.getD_some,eH] at d;have u:=z.cs;have e: ∃v s',aq Q 129 [.agg [ov,.map n],.str id] s v s'/\(v=aN (q.x,q.y)/\s'=s):=by
  refine aq.ofNRZ amG (bT ?_);simp only[go_sem,seval,u,d,j,Obj.val,Obj.cells];exact⟨_,rfl,rfl⟩
 obtain⟨v,s',h,rfl,rfl⟩:=e;exact h
def ary(w:No Q 301)(x:ax 6 Obj.val ov l){k:Nat}(hM:bJ aa.str s n (ig 0 l))(y:s.get [] k=some (.cells [ov,.map n]))(id:ae):aq Q 301 [.str id,.ptr k 0] s (.bool (!di l id)) s:=by
 have d:=yG im Pc Kk hM id;have u:=x.ge;refine aq.ofNZ aoA (bT ?_);cases hq:cj id l with
 |none=>
  have e:pz id l=none:=by
   cases e:pz id l with
   |none=>rfl
   |some i=>
    have:=al7 e;rw[Nn,e,bg,fE this] at hq;cases hq
  have h:di l id=false:=by simp only[di,mZ,hq];rfl
  rw[Fp,e] at d;simp only[sD,od] at d;simp only[go_sem,seval,y,aP,aQ,d,h,ew,gi,iJ]
 |some q=>
  obtain⟨i,A,z⟩:=Z4 hq;have j:=fun lc k=>x.at fD.2.2.1 z lc k;have h:di l id=an q.uP 1:=by simp only[di,mZ,hq]
  rw[Fp,A] at d;simp only[jI,od,eH] at d;simp only[go_sem,seval,y,aP,aQ,d,h,j,u,ew,gi,iJ,Obj.val,Obj.cells]
variable{o:Obj}
def arQ(y:No Q 219)(d:No Q 301)(e:No Q 261)(h:No Q 167)(z:ax 6 Obj.val ov l)(hM:bJ aa.str s n (ig 0 l))(F:n<s.aL)(go:o.Al)(B:o.gE.length<=1000000):
 aq Q 219 [.agg [ov,.map n],o.val] s (.bool (o.gE.all (di l))) (s.new (.cells [ov,.map n])):=by
 have u:=z.cs;have w:bJ aa.str (s.new (.cells [ov,.map n])) n (ig 0 l):=by
  show(s.new _).get [] n=_;rw[eT,bN.2 (by omega:n≠s.aL)];exact hM
 have G:(s.new (.cells [ov,.map n])).get [] s.aL=some (.cells [ov,.map n]):=by rw[eT,bS];rfl
 have j:=Nh e h go.gE B d.s (s:=s.new (.cells [ov,.map n])) (cap:=[.ptr s.aL 0]) (p:=fun x=> !di l x) fun x _=>ary d z w G x;have A:=go.all;refine aq.ofNZ anA (bT ?_);simp only[go_sem,seval,u,A,Obj.val,Obj.cells];refine ct.of j (by decide) ?_;simp only[go_sem,seval,Bw]
variable{l:List ae}
def al8(O:l.length<=1000000)(Z: ∀(i:Nat) (y:ae),l[i]? =some y-> ∃a,(∀lc,ii ah lc 25 sv (aM i)=some a)/\ ∀lc,lM ah [] 9 a lc s=some (.str y)){x:ae}{r:Int}(U: ∀e,r= -1->K (.exit 0) ⟨e,19,lc⟩ s)(Y: ∀e,ac e 4=ag r->K .ret ⟨e,19,lc⟩ s):
 ∀(h d:List ae) (e:aw),l=d++h->r=j6 (fun y=>x==y) h d.length->ac e 0=sv->ac e 1= .str x->ac e 7=aM l.length->ac e 8=aM d.length->W Q 223 (.loop Ia) ⟨e,19,lc⟩ s K:=by
 intro h
 induction h with
 |nil=>
  intro d e B G H F A z;have J:d.length=l.length:=by rw[B];simp
  refine bq ?_;simp only[go_sem,seval,Ia,A,z,J,cq];exact U _ G
 |cons y h S=>
  intro d e B G H F A z;have j:d.length<l.length:=by rw[B];simp
  have N:l[d.length]? =some y:=by rw[B];simp
  obtain⟨a,w,u⟩:=Z _ _ N;have I:=dg (n:=d.length) (by omega);refine bq ?_;cases hd:x==y with
  |true=>
   simp only[go_sem,seval,Ia,H,F,A,z,j,w,u,hd];exact Y _ (by simp only[sN,seval,z,G,j6,hd])
  |false=>
   simp only[go_sem,seval,Ia,H,F,A,z,j,w,u,hd,I];refine S (d++[y]) _ (by rw[B];simp) (by rw[G];simp only[j6,hd,cF,sA]) ?_ ?_ ?_ ?_
   all_goals simp only[sN,seval,H,F,A,sA]
def Vd(u:No Q 223)(w:No Q 130)(d:l.length<=1000000)(h:sv.ge=true)(j: ∀z,iG ah z 25 sv s=some (aM l.length))(B: ∀(i:Nat) (y:ae),l[i]? =some y-> ∃a,(∀lc,ii ah lc 25 sv (aM i)=some a)/\ ∀lc,lM ah [] 9 a lc s=some (.str y))(x:ae):aq Q 130 [sv,.str x] s (.bool (l.contains x)) s:=by
 have H:aq Q 223 [sv,.str x] s (bO (j6 (fun y=>x==y) l 0)) s:=by
  refine aq.ofNZ anG (bT ?_);simp only[go_sem,seval,j,h];refine al8 d B (x:=x) (r:=j6 (fun y=>x==y) l 0) ?_ ?_ l [] _ rfl rfl (by simp only[sG,seval, *]) (by simp only[sG,seval, *]) (by simp only[sG,seval, *]) (by simp only[sN,seval];rfl);intro e A;simp only[go_sem,seval,A];rfl;intro e F;simp only[go_sem,seval,F];rfl
 have G:l.any (fun y=>x==y)=l.contains x:=by
  rw[List.contains_eq_any_beq]
 refine aq.ofNZ amH (bT ?_);simp only[go_sem,seval,h];refine ct.of H (by decide) ?_;simp only[go_sem,seval,bO,nP,Eu,G]
def Mh(d:No Q 223)(e:No Q 130)(j:ax 1 aA sv l)(h:l.length<=1000000)(x:ae)(s:St):aq Q 130 [sv,.str x] s (.bool (l.contains x)) s:=
 Vd d e h j.ge (fun u=>j.lenS co u s) (fun i y w=>⟨_,fun lc=>j.at co.2.2.1 w lc .i64,fun lc=>by rw[I6,gR];rfl⟩) x
def Vb(d:No Q 223)(e:No Q 130){off len cap:Nat}{cs:List aa}(z:s.get [] m=some (.cells cs))(j:l.length=len)(A: ∀(i:Nat) (y:ae),l[i]? =some y->cs[off+i]? =some (.str y))(h:l.length<=1000000)(x:ae):aq Q 130 [.arr 1 m off len cap,.str x] s (.bool (l.contains x)) s:=by
 refine Vd d e h rfl (fun w=>?_) (fun i y u=>⟨.ptr m (off+i*1),fun lc=>?_,fun lc=>?_⟩) x;rw[j];exact yC w 1 m off len cap s;have:i<len:=by rw[<-j];exact(nF.1 u).1
 have B:bh i len=true:=cE this;rw[co.2.2.2.1];simp only[fH,pE,bg,B,bW];rw[aP,z,aQ,gR,Nat.mul_one]
 have:=A i y u;rw[List.head?_drop,this]
def pm:Sp
 | [v,.str x]=>(ek 1 iL v).bind fun l=>bif decide (l.length<=1000000) then some (.bool (l.contains x)) else none
 |_=>none
def Mi(h:ax 1 aA v l)(d:l.length<=1000000)(x:ae):pm [v,.str x]=some (.bool (l.contains x)):=by
 simp only[dW,pm,pA pg h,d,dT]
def Vc:cQ ah 130 pm:=by
 intro j u d G A w xs x y;unfold pm at d;split at d;simp only[aj] at d;obtain⟨l,H,h⟩:=d;obtain⟨e,h⟩:=aY h;simp only[dE] at e;have h:=sI h;subst h;have z:=jN (fun _ _ h=>pf h) H;obtain⟨F,B⟩:=n7 tS z;refine jo (T:=[]) (W:=[]) .nil .nil (by simp only[ei,F,dL,bH,bW]) (fun I=>?_) G A w xs x y;exact⟨_,_,Mh ⟨rfl,rfl⟩ ⟨rfl,rfl⟩ B e _ _,⟨1,rfl⟩⟩;cases d
abbrev CK:=ae×ae
def iM(k:CK):aa:=.agg [.str k.1,.str k.2]
def Vp(a b c d:ae):j1 ah 8 196 (.agg [.str a,.str b]) (.agg [.str c,.str d])=some (sU (a,b) (c,d)):=by
 have h:j1 ah 8 196 (.agg [.str a,.str b]) (.agg [.str c,.str d])=(some (a==c)).bind fun r=>bif r then(some (b==d)).bind fun r=>bif r then some true else some false else some false:=by kernel_rfl
 rw[h];unfold sU;cases a==c<;>cases b==d<;>rfl
def O9:Bt ah 196 iM where
 eq a b:=by
  have h:=Vp a.1 a.2 b.1 b.2;have e:iM a= .agg [.str a.1,.str a.2]:=rfl;have d:iM b= .agg [.str b.1,.str b.2]:=rfl;rw[e,d,h];by_cases hab:a=b;rw[dQ hab,(D9 a b).2 hab];rw[dN hab];cases hc:sU a b with
  |true=>exact absurd ((D9 a b).1 hc) hab
  |false=>rfl
 same a:=by simp[iM,tz,wd,w9]
 ge _:=rfl
def YV(k:CK):lh ah 279 (iM k)=some (196,25):=by kernel_rfl
def fA(id:ae)(d:List CK×(CK->List ae))(k:CK):List CK×(CK->List ae):=bif(d.2 k).contains id then d else(eC k d.1,jT d.2 k (d.2 k++[id]))
abbrev zK:=sK iM aA
def QY(d:o.uP=2):(kh o).length=o.gE.length-1:=by
 have:an o.uP 3=false:=by rw[d];rfl
 simp only[kh,this,cF,nD,bP,List.length_zip,xE];omega
def acn(d:o.uP=3):(kh o).length=o.gE.length:=by
 have:an o.uP 3=true:=by rw[d];rfl
 simp only[kh,this,cT,bP,List.length_zip,cD,xE,List.length_take];omega
def avp(u:o.uP=2\/o.uP=3)(y:i<o.gE.length)(j: ¬(i+1=o.gE.length/\o.uP=2)){a b:ae}(w:o.gE[i]? =some a)(d:o.gE[(i+1) % o.gE.length]? =some b):(kh o)[i]? =some (ey a b):=by
 have e:(o.gE.zip (o.gE.tail++(bif an o.uP 3 then o.gE.take 1 else [])))[i]? =some (a,b):=by
  rw[List.getElem?_zip_eq_some];refine⟨w,?_⟩;by_cases hlast:i+1=o.gE.length;have x:o.uP=3:=u.resolve_left fun h=>j ⟨hlast,h⟩;have:an o.uP 3=true:=by rw[x];rfl
  rw[hlast,Nat.mod_self] at d;rw[this,cT,List.getElem?_append_right (by rw[xE];omega),xE,show i-(o.gE.length-1)=0 by omega,GA,iP (by omega)];exact d;rw[Nat.mod_eq_of_lt (by omega)] at d;rw[List.getElem?_append_left (by rw[xE];omega),List.getElem?_tail];exact d
 simp only[kh,iw,e,jI]
def Vh{α:Type}{l:List α}{a:α}(h:l[i]? =some a):l.drop i=a::l.drop (i+1):=by
 have d:i<l.length:=(nF.1 h).1;rw[List.drop_eq_getElem_cons d,(nF.1 h).2]
def abP{a b:Nat}(h:0<b):dI ah .rem 3 (ag ((a:Nat):Int)) (ag ((b:Nat):Int))=some (ag ((a % b:Nat):Int)):=by
 have d:an ((b:Nat):Int) 0=false:=by simp only[an,bN];omega
 show(bif an ((b:Nat):Int) 0 then none else some (ag (((a:Nat):Int).tmod ((b:Nat):Int))))=_;rw[d,cF,Int.ofNat_tmod]
def aqT(b8:No Q 130)(b7:No Q 223)(go:o.Al)(hk:o.uP=2\/o.uP=3)(hr:o.gE.length<=1000){lo x:Nat}{s0:St}{KE:List CK}{VE:CK->List ae}{n17:aa}{n18 n19:Nat}{x1:Option (List aa)}(hx: ∀e lc s T,zK s m lo KE VE T->(∀n,n<lo->n≠m->s.get [] n=s0.get [] n)->s0.aL<=s.aL->s.gt<=s.aL->ac e 3= .map m->ac e 17=n17->ac e 18=aM n18->ac e 19=aM n19->ac e 1= .Ge 1 1 0->lc.get 1 1=x1->lc.gen 1=1->K (.exit 2) ⟨e,110,lc⟩ s):
 ∀(r i:Nat) (K1:List CK) (V1:CK->List ae) (T1:CK->Nat) (e:aw) (lc:Ag.Loc) (s:St),r+i=o.gE.length->((kh o).drop i).foldl (fA o.id) (K1,V1)=(KE,VE)->zK s m lo K1 V1 T1->(∀k,(V1 k).length+r<=1000000)->(∀n,n<lo->n≠m->s.get [] n=s0.get [] n)->s0.aL<=s.aL->s.gt<=s.aL->
  ac e 3= .map m->ac e 17=n17->ac e 18=aM n18->ac e 19=aM n19->ac e 1= .Ge 1 1 0->lc.get 1 1=x1->lc.gen 1=1->ac e 5= .Ge 5 x 0->lc.gen 5=x->lc.get 5 x=some o.cells->
  ac e 38=o.refsV->ac e 39=aM o.gE.length->ac e 40=aM i->W Q 127 (.loop yy) ⟨e,110,lc⟩ s K:=by
 have rc:=go.gE.ge;have tc:=go.gT.ge;have G:=go.gE.lenS co;intro r
 induction r with
 |zero=>
  intro i K1 V1 T1 e lc s c4 hf hO hV O b0 d y Y U S h1 l1 g1 B x z w u j;have hi:i=o.gE.length:=by omega
  have hd:(kh o).drop i=[]:=Gv (by
   rcases hk with hk|hk
   rw[QY hk];omega;rw[acn hk];omega)
  rw[hd] at hf;simp only[List.foldl_nil,bu] at hf;obtain⟨rfl,rfl⟩:=hf;refine bq ?_;simp only[go_sem,seval,yy,u,j,hi,cq];exact hx _ _ _ T1 hO O b0 d (by simp only[sN,seval,y]) (by simp only[sN,seval,Y]) (by simp only[sN,seval,U]) (by simp only[sN,seval,S]) (by simp only[sN,seval,h1]) l1 g1
 |succ r ih=>
  intro i K1 V1 T1 e lc s c4 hf hO hV O b0 d y Y U S h1 l1 g1 B x z w u j;have N:i<o.gE.length:=by omega
  have F:=dg (n:=i) (by omega);obtain⟨a,ha⟩: ∃a,o.gE[i]? =some a:=⟨_,fE N⟩;have H:=fun lc k=>go.gE.at co.2.2.1 ha lc k;have c7:(((i+1:Nat):Int)==((o.gE.length:Nat):Int))=decide (i+1=o.gE.length):=by
   by_cases h:i+1=o.gE.length;rw[h];simp;rw[dN h];simpa using fun hc=>h (by omega)
  by_cases hb:i+1=o.gE.length/\o.uP=2
  ·
   have hd:(kh o).drop i=[]:=Gv (by rw[QY hb.2];omega);rw[hd] at hf;simp only[List.foldl_nil,bu] at hf;obtain⟨rfl,rfl⟩:=hf;have e1:an ((i+1:Nat):Int) ((o.gE.length:Nat):Int)=true:=by rw[hb.1];simp[an]
   have e2:an o.uP 2=true:=by rw[hb.2];rfl
   refine bq ?_;simp only[go_sem,seval,yy,B,x,z,w,u,j,N,H,aA,F,rc,G,e1,e2,Obj.cells];exact hx _ _ _ T1 hO O b0 d (by simp only[sN,seval,y]) (by simp only[sN,seval,Y]) (by simp only[sN,seval,U]) (by simp only[sN,seval,S]) (by simp only[sN,seval,h1]) l1 g1
  ·have hn:0<o.gE.length:=by omega
   obtain⟨b,c1⟩: ∃b,o.gE[(i+1) % o.gE.length]? =some b:=⟨_,fE (ua _ hn)⟩;have J:=fun lc k=>go.gE.at co.2.2.1 c1 lc k;have Z:=abP (a:=i+1) hn;have c6:=avp hk N hb ha c1;rw[Vh c6,t5] at hf;obtain⟨v,c5,c0⟩:=hO.look O9 YV tW (ey a b);have I:=c0.ge;have A:=Mh b7 b8 c0 (by have:=hV (ey a b);omega) o.id s.top;have a0:n8 ah [] 279 (.map m) (.agg [.str (CB a b),.str (Cz a b)]) false s.top=some v:=c5;have b6:(an ((i+1:Nat):Int) ((o.gE.length:Nat):Int)=true/\an o.uP 2=false)\/an ((i+1:Nat):Int) ((o.gE.length:Nat):Int)=false:=by
    by_cases h:i+1=o.gE.length;left;refine⟨by rw[h];simp[an],?_⟩;simp only[an,bN];exact fun h2=>hb ⟨h,h2⟩;right;simp only[an,bN];omega
   cases hc:(V1 (ey a b)).contains o.id with
   |true=>
    rw[hc] at A;have b1:((kh o).drop (i+1)).foldl (fA o.id) (K1,V1)=(KE,VE):=by
     rw[<-hf];simp only[fA,hc,cT]
    refine lz ?_;rcases b6 with⟨e1,e2⟩|e1
    ·simp only[go_sem,seval,yy,y,B,x,z,w,u,j,N,H,J,aA,F,rc,G,e1,e2,Obj.cells]
     refine gK d ?_;simp only[go_sem,oP,oQ,seval,y,B,x,z,w,u,j,H,J,aA,rc,G,Z,Obj.cells,D5,D6,bj,bc,aX,aZ,evc];refine gK d ?_;simp only[go_sem,oP,oQ,seval,y,B,x,z,Obj.cells,a0,I];refine jY.calm d A (by decide) (by rfl) ?_;simp only[go_sem,oP,oQ,seval,j,F,I];refine ih (i+1) K1 V1 T1 _ _ s (by omega) b1 hO (fun k=>by have:=hV k;omega) O b0 d ?_ ?_ ?_ ?_ ?_ ?_ ?_ ?_ ?_ ?_ ?_ ?_ ?_
     all_goals simp only[aW,gw,gI,ai,y,Y,U,S,h1,l1,g1,B,x,z,w,u,Obj.cells]
    ·simp only[go_sem,seval,yy,y,B,x,z,w,u,j,N,H,J,aA,F,rc,G,e1,Obj.cells]
     refine gK d ?_;simp only[go_sem,oP,oQ,seval,y,B,x,z,w,u,j,H,J,aA,rc,G,Z,Obj.cells,D5,D6,bj,bc,aX,aZ,evc];refine gK d ?_;simp only[go_sem,oP,oQ,seval,y,B,x,z,Obj.cells,a0,I];refine jY.calm d A (by decide) (by rfl) ?_;simp only[go_sem,oP,oQ,seval,j,F,I];refine ih (i+1) K1 V1 T1 _ _ s (by omega) b1 hO (fun k=>by have:=hV k;omega) O b0 d ?_ ?_ ?_ ?_ ?_ ?_ ?_ ?_ ?_ ?_ ?_ ?_ ?_
     all_goals simp only[aW,gw,gI,ai,y,Y,U,S,h1,l1,g1,B,x,z,w,u,Obj.cells]
   |false=>
    rw[hc] at A;have b1:((kh o).drop (i+1)).foldl (fA o.id) (eC (ey a b) K1,jT V1 (ey a b) (V1 (ey a b)++[o.id]))=(KE,VE):=by
     rw[<-hf];simp only[fA,hc,cF]
    obtain⟨v0,p,s1,av,s2,s3,a1,a2,a3,a4,a5,a6,a7,a8,a9,c2⟩:=hO.app O9 YV tW co.1 rfl (fun n hn=>vi hn (by decide)) (ey a b) o.id (by have:=hV (ey a b);omega) d;have c3:rM ah [] 279 (.map m) (.agg [.str (CB a b),.str (Cz a b)]) s=some (.tup [v0,aM p],s1):=a1;simp only[aA] at a3;refine lz ?_;rcases b6 with⟨e1,e2⟩|e1
    ·simp only[go_sem,seval,yy,y,B,x,z,w,u,j,N,H,J,aA,F,rc,G,e1,e2,Obj.cells]
     refine gK d ?_;simp only[go_sem,oP,oQ,seval,y,B,x,z,w,u,j,H,J,aA,rc,G,Z,Obj.cells,D5,D6,bj,bc,aX,aZ,evc];refine gK d ?_;simp only[go_sem,oP,oQ,seval,y,B,x,z,Obj.cells,a0,I];refine jY.calm d A (by decide) (by rfl) ?_;simp only[go_sem,oP,oQ,seval,y,B,x,z,Obj.cells,I];simp only[go_sem,oP,oQ,seval,j,F,Nb,Na,c3,a2,a3,a4,a5,ew,bj,bc,aX,aZ,evc];refine ih (i+1) _ _ _ _ _ s3 (by omega) b1 a6 (fun k=>?_) (fun n h1 h2=>(a7 n h1 h2).trans (O n h1 h2)) (by omega) c2 ?_ ?_ ?_ ?_ ?_ ?_ ?_ ?_ ?_ ?_ ?_ ?_ ?_;by_cases hkk:k=ey a b;subst hkk;rw[oo,cD]
     have:=hV (ey a b);simp only[fh];omega;rw[jU _ _ hkk]
     have:=hV k;omega
     all_goals simp only[aW,gw,gI,ai,y,Y,U,S,h1,l1,g1,B,x,z,w,u,Obj.cells]
    ·simp only[go_sem,seval,yy,y,B,x,z,w,u,j,N,H,J,aA,F,rc,G,e1,Obj.cells]
     refine gK d ?_;simp only[go_sem,oP,oQ,seval,y,B,x,z,w,u,j,H,J,aA,rc,G,Z,Obj.cells,D5,D6,bj,bc,aX,aZ,evc];refine gK d ?_;simp only[go_sem,oP,oQ,seval,y,B,x,z,Obj.cells,a0,I];refine jY.calm d A (by decide) (by rfl) ?_;simp only[go_sem,oP,oQ,seval,y,B,x,z,Obj.cells,I];simp only[go_sem,oP,oQ,seval,j,F,Nb,Na,c3,a2,a3,a4,a5,ew,bj,bc,aX,aZ,evc];refine ih (i+1) _ _ _ _ _ s3 (by omega) b1 a6 (fun k=>?_) (fun n h1 h2=>(a7 n h1 h2).trans (O n h1 h2)) (by omega) c2 ?_ ?_ ?_ ?_ ?_ ?_ ?_ ?_ ?_ ?_ ?_ ?_ ?_;by_cases hkk:k=ey a b;subst hkk;rw[oo,cD]
     have:=hV (ey a b);simp only[fh];omega;rw[jU _ _ hkk]
     have:=hV k;omega
     all_goals simp only[aW,gw,gI,ai,y,Y,U,S,h1,l1,g1,B,x,z,w,u,Obj.cells]
end Go.Proofs.YtnnppcoplinajaaGreat
namespace Go.Proofs.YtnnppcoplinajaaGreat
open Go.Ag
open Go.Sort (SWO)
def avR{α:Type}{enc encF:α->aa}{I:α->α->Int}{d:α}{ok:List α->Bool}{k f g:Nat}{ρ:Go.Shelf.Ren}(L:SlLaysF0.n6 ah ρ)(hf:ρ.f 6=f)(aE: ∀w,(isAgg (ρ.t 24)).run ah w= .ok true w)(zE: ∀w,(Go.sizeOf (ρ.t 24)).run ah w= .ok k w)(ef: ∀A w,(callFunc f A).run ah w= .ok (.enter f A) w)(eg: ∀A w,(callFunc g A).run ah w= .ok (.enter g A) w){sp:Sp}(a2:cQ ah g sp)(hk: ∀a,(enc a).cells.length=k)(ha: ∀a,enc a= .agg (enc a).cells)(a1:0<k)(hz: ∀a h,gm h (enc a) (encF a))(a5: ∀l,ok l=true->l.length<=1000000/\(∀(i j:Nat) (x y:α),l[i]? =some x->l[j]? =some y->sp [encF x,encF y]=some (ag (I x y)))/\(SWO (ltOf fun x y:Fin l.length=>d8 I d l x y))/\(∀x y:Fin l.length,(ltOf fun x y:Fin l.length=>d8 I d l x y) x y=false->(ltOf fun x y:Fin l.length=>d8 I d l x y) y x=false->x=y)):
 uj f (xf enc I d ok k g):=by
 subst hf;intro A G h w xs wr hx;refine⟨fun B=>?_,fun n gf cs a7 B hl H=>?_⟩
 ·unfold xf at B
  split at B;obtain⟨_,B⟩:=aY B;cases B
  ·cases hx with
   |cons p q=>
   cases q with
   |cons q r=>
   cases r;cases p;cases q with
   |func q1 q2=>
   cases q1;cases q2;refine .inr ⟨ef _ _,(AnyF.slices_SortFunc_none L none 0 _ w).mono ?_⟩;rintro e w' ⟨rfl,rfl⟩;exact⟨_,rfl,G,wr,.refl,.tup .nil⟩
  cases B
 ·unfold xf at B
  split at B
  ·rename_i k' m len N g'
   have hb:=(aY B).1;have hq:=(aY B).2;clear B;simp only[bm] at hb;have Y:=jr hb.1;have U:=jr hb.2;subst Y;subst U;injection hq with hq;injection hq with hq;injection hq with a4 a3
   subst a4;subst a3;have H:=FV H;obtain⟨F,H⟩:=aY H;have F:=jr F;simp only[xd,aj] at H;obtain⟨l,h1,H⟩:=H;obtain⟨h2,H⟩:=aY H;have H:=(sI H).symm;subst H;have a6:=Mn h1;subst a6;have a0: ∀v∈l.map enc,v.cells.length=k'/\v= .agg v.cells:=fun v hv=>by
    obtain⟨a,_,rfl⟩:=cx.1 hv;exact⟨hk a,ha a⟩
   have O:l.length=len:=by
    rw[oh (fun v hv=>(a0 v hv).1),bP] at F;exact Nat.eq_of_mul_eq_mul_right a1 F
   obtain⟨q1,q2,q3,q4⟩:=a5 l h2;cases hx with
   |cons p q=>
   cases q with
   |cons q r=>
   cases r;cases q with
   |func u1 u2=>
   cases u1;cases u2;have J:(l.map enc).length=l.length:=bP ..;have hy: ∀z,VR G (.arr k' m 0 len N) z->VR G (.arr k' m 0 (l.map enc).length N) z:=fun z hz=>by rw[J,O];exact hz
   have gen: ∀n (hn:n=l.length),SWO (ltOf fun x y:Fin n=>d8 I d l x y)/\(∀x y:Fin n,(ltOf fun x y:Fin n=>d8 I d l x y) x y=false->(ltOf fun x y:Fin n=>d8 I d l x y) y x=false->x=y):=by
    intro n hn;subst hn;exact⟨q3,q4⟩
   have Z:=fun hO=>Q9 L rfl aE zE ef eg a2 wr (rows:=l.map enc) (us:=l.map encF) hl a0 a1 (by rw[bP,bP]) (fun i v u Y U=>by
    rw[iw,ub] at Y U;obtain⟨a,g1,rfl⟩:=Y;obtain⟨b,S,rfl⟩:=U;rw[g1] at S;injection S with S;subst S
    exact hz a _) (d8 I d l) (fun i j u u' Y U=>by
    rw[iw,ub] at Y U;obtain⟨a,g1,rfl⟩:=Y;obtain⟨b,S,rfl⟩:=U;have e:d8 I d l i j=I a b:=by
     unfold d8;rw[kU,kU,g1,S];rfl
    rw[q2 i j a b g1 S,e]) hO (gen _ J).2 (by rw[J];exact q1) (hy _ p)
   rw[Re] at Z;exact Z (gen _ J).1
  obtain⟨_,B⟩:=aY B;cases B;cases B
abbrev gH:=CK×List ae×Nat
def gW(a:gH):aa:=.agg [.str a.1.1,.str a.1.2,.list 1 (a.2.1.map aA) (.own a.2.2)]
def wH(a:gH):aa:=.agg [.str a.1.1,.str a.1.2,.list 1 (a.2.1.map aA) .no]
end Go.Proofs.YtnnppcoplinajaaGreat
namespace Go.Proofs.YtnnppcoplinajaaGreat
open Go.Ag
variable{Q:aD}[Std Q]
open Go.Sort (SWO)
def uA(a b:CK):Int:=bif an (fI a.1 b.1) 0 then fI a.2 b.2 else fI a.1 b.1
variable{s:St}
def ag8(u:No Q 222)(d:Q.spec 228=some pk)(a b:CK)(e:s.gt<=s.aL):aq Q 222 [.list 1 [.str a.1,.str b.1,.str a.2,.str b.2] .GE] s (bO (uA a b)) s:=by
 have y:pk [.str a.1,.str b.1]=some (ag (fI a.1 b.1)):=rfl;have x:pk [.str a.2,.str b.2]=some (ag (fI a.2 b.2)):=rfl;have w:IntKind.i64.wrap (0+1)=1:=by decide
 have N:IntKind.i64.wrap (0+2)=2:=by decide
 have j:IntKind.i64.wrap (2+1)=3:=by decide
 have J:IntKind.i64.wrap (2+2)=4:=by decide
 have I:IntKind.i64.wrap (4+1)=5:=by decide
 have H:aV 1 ((4:Nat):Int)=true:=by decide
 have G:aV 3 ((4:Nat):Int)=true:=by decide
 have O:aV 5 ((4:Nat):Int)=false:=by decide
 have F:dr (ag 0)=some 0:=rfl;have B:dr (ag 1)=some 1:=rfl;have A:dr (ag 2)=some 2:=rfl;have z:dr (ag 3)=some 3:=rfl;refine aq.ofNZ anF (bT ?_);simp only[go_sem,cM,bK,ai,ay,bG,dw,dG,dU,cy,dD,dC,reduceCtorEq,dY];refine bq ?_;cases e1:an (fI a.1 b.1) 0 with
 |false=>
  have h:uA a b=fI a.1 b.1:=by unfold uA;rw[e1];rfl
  simp only[go_sem,cM,bK,ai,ay,bG,dw,dG,dU,cy,dD,dC,reduceCtorEq,dY,EP,w,H,F,B,e,ng,d,y,e1,h,bO]
 |true=>
  have h:uA a b=fI a.2 b.2:=by unfold uA;rw[e1];rfl
  simp only[go_sem,cM,bK,ai,ay,bG,dw,dG,dU,cy,dD,dC,reduceCtorEq,dY,EP,w,N,H,F,B,e,ng,d,y,e1];refine bq ?_;cases e2:an (fI a.2 b.2) 0 with
  |false=>simp only[go_sem,cM,bK,ai,ay,bG,dw,dG,dU,cy,dD,dC,reduceCtorEq,dY,EP,j,G,A,z,e,ng,d,x,e2,h,bO]
  |true=>
   have S:fI a.2 b.2=0:=by simpa[an] using e2
   simp only[go_sem,cM,bK,ai,ay,bG,dw,dG,dU,cy,dD,dC,reduceCtorEq,dY,EP,j,J,G,A,z,e,ng,d,x,e2];refine bq ?_;simp only[go_sem,cM,bK,ai,ay,bG,dw,dG,dU,cy,dD,dC,reduceCtorEq,dY,EP,I,O,h,S,bO]
def ag7(h:No Q 221)(d:No Q 222)(e:Q.spec 228=some pk)(a b:gH)(w:s.gt<=s.aL):aq Q 221 [wH a,wH b] s (bO (uA a.1 b.1)) s:=by
 have u:dr (ag 0)=some 0:=rfl;have j:dr (ag 1)=some 1:=rfl;refine aq.ofNZ anC (bT ?_);simp only[go_sem,cM,bK,ai,ay,bG,dw,dG,dU,cy,dD,dC,reduceCtorEq,dY,wH,u,j,bj,bc,aX,aZ,evc];refine ct.of (ag8 d e a.1 b.1 w) (by decide) ?_;simp only[go_sem,cM,bK,ai,ay,bG,dw,dG,dU,cy,dD,dC,reduceCtorEq,dY,bO]
def fo(l:List Obj)(d:List CK×(CK->List ae))(o:Obj):List CK×(CK->List ae):=(fR l o).foldl (fA o.id) d
def GV(id:ae)(k:CK): ∀(e:List CK) (d:List CK×(CK->List ae)),((e.foldl (fA id) d).2 k).length<=(d.2 k).length+e.length
 | [],d=>by simp
 |j::e,d=>by
  rw[t5];refine eG (GV id k e _) ?_;have:((fA id d j).2 k).length<=(d.2 k).length+1:=by
   unfold fA;cases (d.2 j).contains id with
   |true=>simp
   |false=>
    simp only[cF];by_cases h:k=j;subst h;rw[oo,cD];simp;rw[jU _ _ h];omega
  rw[dM];omega
variable{o:Obj}
def aco(d:o.uP=2\/o.uP=3):(kh o).length<=o.gE.length:=by
 rcases d with d|d
 rw[QY d];omega;rw[acn d];exact bk _
variable{l:List Obj}
def Ph(h:tD l o=false):fR l o=[]:=by unfold fR;rw[h];rfl
def Pj(h:tD l o=true):fR l o=kh o:=by unfold fR;rw[h];rfl
def aql(b8:No Q 130)(b1:No Q 223)(b6:No Q 219)(a9:No Q 301)(b0:No Q 261)(b7:No Q 167){ov:aa}(ho:ax 6 Obj.val ov l)(hg: ∀o∈l,o.Al)(hl:l.length<=1000)(hr: ∀o∈l,o.gE.length<=999){n m lo:Nat}(hn:n<lo)(d1:n≠m){s0:St}(hM:bJ aa.str s0 n (ig 0 l)){K:Ex->Fr->St->Prop}{KE:List CK}{VE:CK->List ae}(hx: ∀e lc s T,zK s m lo KE VE T->(∀k,k<lo->k≠m->s.get [] k=s0.get [] k)->s0.aL<=s.aL->s.gt<=s.aL->ac e 3= .map m->K (.exit 0) ⟨e,110,lc⟩ s):
 ∀(A d:List Obj) (u:List CK) (V1:CK->List ae) (T1:CK->Nat) (e:aw) (lc:Ag.Loc) (s:St),l=d++A->A.foldl (fo l) (u,V1)=(KE,VE)->zK s m lo u V1 T1->(∀k,(V1 k).length<=999*d.length)->(∀k,k<lo->k≠m->s.get [] k=s0.get [] k)->s0.aL<=s.aL->s.gt<=s.aL->
  ac e 3= .map m->ac e 17=ov->ac e 18=aM l.length->ac e 19=aM d.length->ac e 1= .Ge 1 1 0->lc.get 1 1=some [ov,.map n]->lc.gen 1=1->W Q 127 (.loop EF) ⟨e,110,lc⟩ s K:=by
 intro A
 induction A with
 |nil=>
  intro d u V1 T1 e lc s H N hO hV Z a5 a1 h3 y w x r1 l1 g1;have d2:d.length=l.length:=by rw[H];simp
  simp only[List.foldl_nil,bu] at N;obtain⟨rfl,rfl⟩:=N;refine bq ?_;simp only[go_sem,seval,EF,w,x,d2,cq];exact hx _ _ _ T1 hO Z a5 a1 (by simp only[sN,seval,h3])
 |cons o A ih=>
  intro d u V1 T1 e lc s H N hO hV Z a5 a1 h3 y w x r1 l1 g1;have a6:d.length<l.length:=by rw[H];simp
  have c7:l[d.length]? =some o:=by rw[H];simp
  have a7:=fun lc k=>ho.at fD.2.2.1 c7 lc k;have G:=dg (n:=d.length) (by omega);have c2:=dB c7;have go:=hg o c2;have e8:=hr o c2;have rc:=go.gE.ge;have tc:=go.gT.ge;have c6:=ho.ge;have c4:=go.gE.lenS co;rw[t5] at N;have a8: ∀k,(V1 k).length<=999*(d++[o]).length:=fun k=>by
   have:=hV k;rw[cD,dM,cV];omega
  have e9:=hO.mlt;have f0:=hO.los;refine bq ?_;by_cases hk:o.uP=2\/o.uP=3
  ·have d4:bJ aa.str s n (ig 0 l):=(Z n hn d1).trans hM
   have S:=arQ b6 a9 b0 b7 ho d4 (by omega) go (by omega);obtain⟨z,hz⟩:=bZ (s.new (.cells [ov,.map n]));rw[hz] at S;have zn:z.aL=s.aL+1:=by rw[<-hz];rfl
   have zo: ∀j,j<s.aL->z.get [] j=s.get [] j:=fun j hj=>by rw[<-hz,eT,bN.2 (by omega:j≠s.aL)];rfl
   have zm:z.gt<=z.aL:=by rw[<-hz];exact bU a1
   have zO:zK z m lo u V1 T1:=hO.mono (zo m (by omega)) (fun k hk=>zo _ (hO.tok k hk).2.2) (by omega);have a2: ∀k,k<lo->k≠m->z.get [] k=s0.get [] k:=fun k H h2=>(zo k (by omega)).trans (Z k H h2);have a0:(an o.uP 2=true)\/(an o.uP 2=false/\an o.uP 3=true):=by
    rcases hk with h|h
    left;rw[h];rfl;right;rw[h];exact⟨rfl,rfl⟩
   have Y:tD l o=o.gE.all (di l):=by
    unfold tD;rcases a0 with h|⟨h,h'⟩
    rw[h];rfl;rw[h,h'];rfl
   have fin: ∀(O:aw) (F:Ag.Loc),o.gE.all (di l)=true->ac O 3= .map m->ac O 17=ov->ac O 18=aM l.length->ac O 19=aM d.length->ac O 1= .Ge 1 1 0->F.get 1 1=some [ov,.map n]->F.gen 1=1-> ∀g5,ac O 5= .Ge 5 g5 0->F.gen 5=g5->F.get 5 g5=some o.cells->
    ac O 38=o.refsV->ac O 39=aM o.gE.length->ac O 40=ag ((0:Nat):Int)-> ∀K':Ex->Fr->St->Prop,(∀I B J T2,zK J m lo (fo l (u,V1) o).1 (fo l (u,V1) o).2 T2->(∀k,k<lo->k≠m->J.get [] k=s0.get [] k)->s0.aL<=J.aL->J.gt<=J.aL->ac I 3= .map m->ac I 17=ov->ac I 18=aM l.length->ac I 19=aM d.length->ac I 1= .Ge 1 1 0->B.get 1 1=some [ov,.map n]->B.gen 1=1->K' (.exit 2) ⟨I,110,B⟩ J)->W Q 127 (.loop yy) ⟨O,110,F⟩ z K':=by
    intro O F c8 c3 e7 e6 e5 c1 cl cg g5 c5 d7 d6 e4 e3 e0 K' hK;have c0:fo l (u,V1) o=(kh o).foldl (fA o.id) (u,V1):=by
     unfold fo;rw[Pj (by rw[Y];exact c8)]
    exact aqT b8 b1 go hk (by omega) (s0:=z) (KE:=(fo l (u,V1) o).1) (VE:=(fo l (u,V1) o).2) (n17:=ov) (n18:=l.length) (n19:=d.length) (x1:=some [ov,.map n]) (fun I B J T2 q1 q2 q3 q4 q5 q6 q7 q8 q9 d0 c9=>hK I B J T2 q1 (fun k H h2=>(q2 k H h2).trans (a2 k H h2)) (by omega) q4 q5 q6 q7 q8 q9 d0 c9) o.gE.length 0 u V1 T1 O F z (by omega) (by rw[mR,c0]) zO (fun k=>by have:=hV k;omega) (fun _ _ _=>rfl) (bk _) zm c3 e7 e6 e5 c1 cl cg c5 d7 d6 e4 e3 e0
   rcases a0 with e1|⟨e1,I⟩
   ·simp only[go_sem,seval,EF,r1,l1,g1,y,w,x,a6,a7,G,e1,c6,rc,tc,Obj.val,Obj.cells]
    refine ct.of S (by decide) ?_;cases hb:o.gE.all (di l) with
    |false=>
     have U:fo l (u,V1) o=(u,V1):=by
      unfold fo;rw[Ph (by rw[Y];exact hb)];rfl
     rw[U] at N;simp only[go_sem,seval,x,G];refine ih (d++[o]) u V1 T1 _ _ z (by rw[H];simp) N zO a8 a2 (by omega) zm ?_ ?_ ?_ ?_ ?_ ?_ ?_
     all_goals simp only[aW,gw,gI,ai,h3,y,w,r1,l1,g1,sA]
    |true=>
     simp only[go_sem,seval,Obj.cells,c4,rc,tc];refine fin _ _ hb ?_ ?_ ?_ ?_ ?_ ?_ ?_ (lc.gen 5+1) ?_ ?_ ?_ ?_ ?_ ?_ _ ?_
     case refine_14=>
      intro d5 B J T2 p1 p2 p3 p4 p5 p6 p7 p8 p9 a4 a3;simp only[go_sem,seval,p8,G];refine ih (d++[o]) (fo l (u,V1) o).1 (fo l (u,V1) o).2 T2 _ _ J (by rw[H];simp) N p1 (fun k=>?_) p2 p3 p4 ?_ ?_ ?_ ?_ ?_ ?_ ?_;have q1:=GV o.id k (kh o) (u,V1);have q2:=aco hk;have q3:=hV k;have q4:(fo l (u,V1) o).2 k=((kh o).foldl (fA o.id) (u,V1)).2 k:=by
       unfold fo;rw[Pj (by rw[Y];exact hb)]
      rw[q4,cD,dM,cV];simp only at q1;omega
      all_goals simp only[aW,gw,gI,ai,p5,p6,p7,p9,a4,a3,sA]
     all_goals simp only[aW,gw,gI,ai,h3,y,w,x,r1,l1,g1,Obj.cells,bS]
     all_goals rfl
   ·simp only[go_sem,seval,EF,r1,l1,g1,y,w,x,a6,a7,G,e1,I,c6,rc,tc,Obj.val,Obj.cells]
    refine ct.of S (by decide) ?_;cases hb:o.gE.all (di l) with
    |false=>
     have U:fo l (u,V1) o=(u,V1):=by
      unfold fo;rw[Ph (by rw[Y];exact hb)];rfl
     rw[U] at N;simp only[go_sem,seval,x,G];refine ih (d++[o]) u V1 T1 _ _ z (by rw[H];simp) N zO a8 a2 (by omega) zm ?_ ?_ ?_ ?_ ?_ ?_ ?_
     all_goals simp only[aW,gw,gI,ai,h3,y,w,r1,l1,g1,sA]
    |true=>
     simp only[go_sem,seval,Obj.cells,c4,rc,tc];refine fin _ _ hb ?_ ?_ ?_ ?_ ?_ ?_ ?_ (lc.gen 5+1) ?_ ?_ ?_ ?_ ?_ ?_ _ ?_
     case refine_14=>
      intro d5 B J T2 p1 p2 p3 p4 p5 p6 p7 p8 p9 a4 a3;simp only[go_sem,seval,p8,G];refine ih (d++[o]) (fo l (u,V1) o).1 (fo l (u,V1) o).2 T2 _ _ J (by rw[H];simp) N p1 (fun k=>?_) p2 p3 p4 ?_ ?_ ?_ ?_ ?_ ?_ ?_;have q1:=GV o.id k (kh o) (u,V1);have q2:=aco hk;have q3:=hV k;have q4:(fo l (u,V1) o).2 k=((kh o).foldl (fA o.id) (u,V1)).2 k:=by
       unfold fo;rw[Pj (by rw[Y];exact hb)]
      rw[q4,cD,dM,cV];simp only at q1;omega
      all_goals simp only[aW,gw,gI,ai,p5,p6,p7,p9,a4,a3,sA]
     all_goals simp only[aW,gw,gI,ai,h3,y,w,x,r1,l1,g1,Obj.cells,bS]
     all_goals rfl
  ·have e1:an o.uP 2=false:=by simp only[an,bN];exact fun h=>hk (.inl h)
   have I:an o.uP 3=false:=by simp only[an,bN];exact fun h=>hk (.inr h)
   have U:fo l (u,V1) o=(u,V1):=by
    unfold fo;rw[Ph (by unfold tD;rw[e1,I];rfl)];rfl
   rw[U] at N;simp only[go_sem,seval,EF,r1,l1,g1,y,w,x,a6,a7,G,e1,I,Obj.val,Obj.cells];refine ih (d++[o]) u V1 T1 _ _ s (by rw[H];simp) N hO a8 Z a5 a1 ?_ ?_ ?_ ?_ ?_ ?_ ?_
   all_goals simp only[aW,gw,gI,ai,h3,y,w,r1,l1,g1,sA]
end Go.Proofs.YtnnppcoplinajaaGreat
namespace Go.Proofs.YtnnppcoplinajaaGreat
open Go.Ag
open Go.Sort (SWO)
def Hc(a b:ae):fI a b=db a b:=by
 unfold fI;cases h:eR a b with
 |true=>
  have u:=(BN a b).2 h;rcases U5 a b with e|e|e
  rw[e];rfl;omega;omega
 |false=>
  have u: ¬db a b<0:=fun d=>by rw[(BN a b).1 d] at h;cases h
  have w:=BO a b;cases h2:eR b a with
  |true=>
   have j:=(BN b a).2 h2;rcases U5 a b with e|e|e
   omega;omega;rw[e];rfl
  |false=>
   have j: ¬db b a<0:=fun d=>by rw[(BN b a).1 d] at h2;cases h2
   simp only[cF];omega
def He(a b:CK):uA a b=iC a b:=by
 unfold uA iC;rw[Hc,Hc]
def D3:aa->Option gH
 | .agg [.str a,.str b,.list 1 xs .no]=>(hJ iL xs).bind fun l=>some ((a,b),l,0)
 |_=>none
def afi(a:gH):D3 (wH a)=some (a.1,a.2.1,0):=by
 show(hJ iL (a.2.1.map aA)).bind (fun l=>some ((a.1.1,a.1.2),l,0))=_;rw[yH pg];rfl
def TG{v:aa}{a:gH}(h:D3 v=some a):v=wH a:=by
 unfold D3 at h;split at h;simp only[aj,aH] at h;obtain⟨l,d,rfl⟩:=h;rw[Fq (fun _ _ h=>pf h) d];rfl;cases h
def Ma:Sp
 | [u,v]=>(D3 u).bind fun a=>(D3 v).bind fun b=>some (bO (uA a.1 b.1))
 |_=>none
def aqg(a:gH):bH (wH a)=true:=by
 simp only[wH,bH,pures,vf tS,bW,mP]
def aeR:dp:=[(228,pk)]
def aeS:du aeR:=.cons L8 .nil
def ahf:cQ ah 221 Ma:=by
 refine Gg aeS (W:=[]) .nil fun d u h=>?_;unfold Ma at h;split at h;simp only[aj] at h;obtain⟨a,j,b,e,h⟩:=h;have h:=sI h;subst h;rw[TG j,TG e];refine⟨by simp only[pures,aqg,bW],fun w=>⟨_,_,ag7 ⟨rfl,rfl⟩ ⟨rfl,rfl⟩ rfl a b (bk _),1,rfl⟩⟩;cases h
noncomputable def CS(l:List gH):Bool:=by classical exact decide (l.length<=1000000/\(l.map (·.1)).Nodup)
abbrev iQ:gH:=(([],[]),[],0)
def nS(a b:gH):Int:=uA a.1 b.1
noncomputable def J6:=xf gW nS iQ CS 3 221
def Ke{α β:Type}{d:α->α->Int}(h:SWO (ltOf d))(k:β->α):SWO (ltOf fun x y=>d (k x) (k y)) where
 irrefl x:=h.irrefl (k x)
 trans x y z:=h.trans (k x) (k y) (k z)
 ntrans x y z:=h.ntrans (k x) (k y) (k z)
def aqh(a:gH)(h:aC aJ):gm h (gW a) (wH a):=by
 refine⟨3,?_⟩;have:dq (cC h 1) (a.2.1.map aA)=some (a.2.1.map aA):=yd fun v d=>by
  obtain⟨x,_,rfl⟩:=cx.1 d;rfl
 show(dq (cC h 2) [.str a.1.1,.str a.1.2,.list 1 (a.2.1.map aA) (.own a.2.2)]).bind (fun r=>some (aa.agg r))=_;have e:cC h 2 (.list 1 (a.2.1.map aA) (.own a.2.2))=some (.list 1 (a.2.1.map aA) .no):=by
  show(dq (cC h 1) (a.2.1.map aA)).bind (fun ys=>some (aa.list 1 ys .no))=_;rw[this];rfl
 simp only[dq,e,bg];rfl
def avP:uj 220 J6:=by
 refine avR (encF:=wH) Tryz.sortF220 rfl Tryz.isAgg200 Tryz.sizeOf200 (Go.Proofs.enters_of Tryz.func220 (by kernel_rfl) rfl) (Go.Proofs.enters_of Tryz.func221 (by kernel_rfl) rfl) ahf (fun _=>rfl) (fun _=>rfl) (by decide) aqh fun l d=>?_;simp only[CS,dE] at d;refine⟨d.1,fun i j x y A z=>?_,?_,?_⟩;simp only[Ma,afi,bg];rfl;have e:(fun x y:Fin l.length=>d8 nS iQ l x y)=fun x y:Fin l.length=>iC (l.getD x iQ).1 (l.getD y iQ).1:=by
  funext x y;simp only[d8,nS,He]
 rw[e];exact Ke Gk fun i:Fin l.length=>(l.getD i iQ).1;intro x y w u;have e:(fun x y:Fin l.length=>d8 nS iQ l x y)=fun x y:Fin l.length=>iC (l.getD x iQ).1 (l.getD y iQ).1:=by
  funext x y;simp only[d8,nS,He]
 rw[e] at w u;have h:=adc _ _ w u;rw[B8,B8] at h;exact Fin.ext (Jh d.2 (i:=x) (j:=y) (x:=l[x]) (y:=l[y]) (by simp) (by simp) h)
def auQ{K:List CK}(G:K.Nodup)(I:K.length<=1000000)(g:CK->gH)(F: ∀k,(g k).1=k){rows:List gH}(z:rows.Perm (K.map g)):CS rows=true/\jS nS iQ rows=(Dn K).map g:=by
 have B:(K.map g).map (·.1)=K:=by
  rw[ll]
  conv=>rhs;rw[<-List.map_id K]
  exact Bl fun k _=>F k
 have A:CS rows=true:=by
  simp only[CS,dE];refine⟨by rw[z.length_eq,bP];exact I,?_⟩;rw[(z.map _).nodup_iff,B];exact G
 refine⟨A,?_⟩;have j:=(vq nS iQ rows).trans z;have J:SWO (ltOf fun x y:Fin rows.length=>d8 nS iQ rows x y):=by
  have e:(fun x y:Fin rows.length=>d8 nS iQ rows x y)=fun x y:Fin rows.length=>iC (rows.getD x iQ).1 (rows.getD y iQ).1:=by
   funext x y;simp only[d8,nS,He]
  rw[e];exact Ke Gk fun i:Fin rows.length=>(rows.getD i iQ).1
 have H:=J5 nS iQ rows J;have d:(jS nS iQ rows).map (·.1)=Dn K:=by
  refine avM (((j.map _).trans (by rw[B])).trans (Dp K).symm) ?_ (acy K);rw[GG];refine H.imp fun {a b} h=>?_;simp only[nS,He] at h;simp only[ltOf,mQ,decide_eq_false_iff_not];exact h
 have u: ∀x∈jS nS iQ rows,x=g x.1:=fun x w=>by
  obtain⟨k,_,rfl⟩:=cx.1 (j.mem_iff.1 w);rw[F]
 rw[<-d,ll]
 conv=>lhs;rw[<-List.map_id (jS nS iQ rows)]
 exact Bl fun x w=>u x w
end Go.Proofs.YtnnppcoplinajaaGreat
namespace Go.Proofs.YtnnppcoplinajaaGreat
open Go.Ag
variable{Q:aD}[Std Q]
variable{R:List gH}
def Pk: ∀v∈R.map gW,v.cells.length=3:=fun v d=>by
 obtain⟨x,_,rfl⟩:=cx.1 d;rfl
variable{n:Nat}{s:St}{o:aJ}
theorem ck(h:n<s.aL):(s.new o).get [] n=s.get [] n:=by
 rw[eT,bN.2 (by omega:n≠s.aL)];rfl
def cG:(s.new o).get [] s.aL=some o:=by rw[eT,bS];rfl
variable{m:Nat}{α:Type}{t:TypeId}
def aqa{enc:α->aa}{kt e:TypeId}(d:ah.underlying t=some (.map kt e)){L:List (α×aa)}(h:bJ enc s m L):iG ah [] t (.map m) s=some (aM L.length):=by
 have h:s.get [] m=_:=h;simp only[iG,d,bg,h,Mv]
def adg:ah.underlying 279=some (.map 196 25):=by kernel_rfl
variable{E:EI}{sz:Nat}
def aff(I:lQ ah t=some E)(w:E.n=sz)(H:E.b<=88){k:Nat}{xs:List aa}(x:aa)(e: ∀y∈xs,y.cells.length=sz)(z:xs.length<1000000)(F:s.gt<=s.aL)(G:s.get [] k=some (.cells (aF xs)))(A:Bool):
 ∃d,fB ah [] t (.arr sz k 0 xs.length xs.length) (.list sz [x] .GE) A s=some (.arr sz s.aL 0 (xs.length+1) (xs.length+1),d)/\d.get [] s.aL=some (.cells (aF (xs++[x])))/\d.aL=s.aL+1/\d.ci=s.ci/\d.gt<=d.aL/\(∀n,n<s.aL->n≠k->d.get [] n=s.get [] n):=by
 subst w;have B:iY (xs.length+1) E.b=true:=vi (by omega) H;have u:(aF xs).length=xs.length*E.n:=MZ e;have j:aF [x]=x.cells:=by show x.cells++aF []=_;simp[aF]
 refine⟨(s.put k none).new (.cells (aF (xs++[x]))),?_,?_,rfl,rfl,?_,fun n w h=>?_⟩;simp only[fH,fh,fB,I,bg,em,jM,G,eH,B,u,bW,mR,j,qx];rw[eT,mA,bS];rfl;exact bU (cR s k none F);rw[eT,mA,bN.2 (by omega:n≠s.aL),cF,aR,bN.2 h];rfl
variable{C:Ex->Fr->St->Prop}{it:Nat}
def aqj(Z: ∀i,1000000<=Q.kmax i){K:List CK}{V:CK->List ae}{T:CK->Nat}(a0:K.length<1000000){s0:St}(hx: ∀e lc s (r:Nat) (rows:List gH),rows.Perm (K.map fun k=>(k,V k,T k))->ac e 11= .arr 3 r 0 rows.length rows.length->s.get [] r=some (.cells (aF (rows.map gW)))->r<s.aL->s0.aL<=r->(∀n,n<s0.aL->s.get [] n=s0.get [] n)->s.gt<=s.aL->C (.exit 4) ⟨e,110,lc⟩ s):
 ∀(c:Nat) (seen:List Nat) (e:aw) (lc:Ag.Loc) (s:St) (r:Nat),c+seen.length=K.length->iK iM s it m (gc K fun k=>.list 1 ((V k).map aA) (.own (T k))) seen->ac e 95= .ptr it 0->ac e 11= .arr 3 r 0 seen.length seen.length->s.get [] r=some (.cells (aF ((seen.map fun b=>((fun k=>(k,V k,T k):CK->gH) (K.getD b ([],[])))).map gW)))->
  s0.aL<=r->s0.aL<=it->m<s0.aL->r<s.aL->it<s.aL->r≠it->(∀n,n<s0.aL->s.get [] n=s0.get [] n)->s.gt<=s.aL->W Q 127 (.loop ND) ⟨e,110,lc⟩ s C:=by
 intro c
 induction c with
 |zero=>
  intro seen e lc s r hc I d h F Y U S O l5 A u j;rcases I.aL Q.ch Q.kmax (fun i=>by rw[tT];have:=Z i;omega) with⟨hp,hnx⟩|⟨b,p,s1,hb,hnm,hlt,_⟩
  rw[tT] at hp;refine bq ?_;simp only[go_sem,seval,ND,d,ye,hnx,ew,bj,bc,aX,aZ,evc];refine hx _ _ _ r (seen.map fun b=>((fun k=>(k,V k,T k):CK->gH) (K.getD b ([],[])))) ?_ (by simp only[sN,seval,h,bP]) F O Y u j;have h1:=hp.map fun b=>((fun k=>(k,V k,T k):CK->gH) (K.getD b ([],[])));refine h1.trans ?_;have:(gV K.length).map (fun b=>((fun k=>(k,V k,T k):CK->gH) (K.getD b ([],[]))))=K.map fun k=>(k,V k,T k):=by
   refine Gw (by simp) fun i h1 h2=>?_;have z:i<K.length:=by simpa using h2
   simp[kU,z]
  rw[this];rw[tT] at hlt;omega
 |succ c ih=>
  intro seen e lc s r hc I d h F Y U S O l5 A u j;rcases I.aL Q.ch Q.kmax (fun i=>by rw[tT];have:=Z i;omega) with⟨hp,hnx⟩|⟨b,p,s1,hb,hnm,hlt,hnx,ho,z,hn1,hm1⟩
  have:=hp.length_eq;rw[tT,DM] at this;omega;have y:b<K.length:=by
   have:=(nF.1 hb).1;rwa [tT] at this
  have G:p=(K[b],.list 1 ((V K[b]).map aA) (.own (T K[b]))):=by
   have:(gc K fun k=>aa.list 1 ((V k).map aA) (.own (T k)))[b]? =some (K[b],.list 1 ((V K[b]).map aA) (.own (T K[b]))):=by
    unfold gc;rw[iw,fE y];rfl
   rw[this] at hb;exact(sI hb).symm
  have H:m≠it:=by omega
  have I1:=I.go H hb hnm ho z;have w:=iK.entry z I1.hm hb;have x:s1.gt<=s1.aL:=by rw[hm1,hn1];exact cR s it none j
  have B:s1.get [] r=_:=(ho r A).trans F;obtain⟨s2,N,a2,a3,a4,a5,J⟩:=aff (t:=193) A0.1 rfl (by decide) (gW (K[b],V K[b],T K[b])) Pk (by rw[bP,bP];rw[tT] at hlt;omega) x B false;rw[bP,bP] at N;subst G;simp only[iM] at hnx w;simp only[gW] at N;refine bq ?_;simp only[go_sem,seval,ND,d,h,ye,Ev,hnx,w,ew,hG,bj,bc,aX,aZ,evc];simp only[go_sem,seval,Ev,w,h,ew,hG,N,bj,bc,aX,aZ,evc];refine ih (seen++[b]) _ _ s2 s1.aL (by rw[cD];simp only[fh];omega) ⟨?_,?_,I1.nd,I1.lt⟩ ?_ ?_ ?_ (by omega) U S (by omega) (by omega) (by omega) (fun n hn=>?_) a5;rw[J it (by omega) (fun e=>A e.symm)];exact I1.hi;exact(J m (by omega) (by omega)).trans I1.hm;simp only[sN,seval,d];simp only[sN,seval,sA];rw[a2,eE,eE];simp[kU,y,gW];rw[J n (by omega) (by omega),ho n (by omega)];exact u n hn
def eJ(l:List Obj):List CK×(CK->List ae):=l.foldl (fo l) ([],fun _=>[])
def ae2(id:ae)(k:CK)(d:List CK×(CK->List ae))(x:d.1.Nodup)(w: ∀j,j ∉ d.1->d.2 j=[]):(fA id d k).1.Nodup/\(∀j,j ∉ (fA id d k).1->(fA id d k).2 j=[])/\(fA id d k).1.length<=d.1.length+1:=by
 unfold fA;cases (d.2 k).contains id with
 |true=>exact⟨x,w,jV _⟩
 |false=>
  refine⟨xN x,fun j u=>?_,(ae3 k d.1).2⟩;have h:j≠k/\j ∉ d.1:=⟨fun e=>u (nf.2 (.inl e)),fun e=>u (nf.2 (.inr e))⟩;show jT d.2 k (d.2 k++[id]) j=[];rw[jU _ _ h.1];exact w j h.2
def ack(id:ae): ∀(e:List CK) (d:List CK×(CK->List ae)),d.1.Nodup->(∀j,j ∉ d.1->d.2 j=[])->(e.foldl (fA id) d).1.Nodup/\(∀j,j ∉ (e.foldl (fA id) d).1->(e.foldl (fA id) d).2 j=[])/\(e.foldl (fA id) d).1.length<=d.1.length+e.length
 | [],d,h1,h2=>⟨h1,h2,bk _⟩
 |k::e,d,h1,h2=>by
  obtain⟨a,b,c⟩:=ae2 id k d h1 h2;obtain⟨u,h,w⟩:=ack id e _ a b;refine⟨u,h,?_⟩;rw[t5,dM];omega
def PS(l:List Obj): ∀(os:List Obj) (d:List CK×(CK->List ae)),d.1.Nodup->(∀j,j ∉ d.1->d.2 j=[])->(os.foldl (fo l) d).1.Nodup/\(∀j,j ∉ (os.foldl (fo l) d).1->(os.foldl (fo l) d).2 j=[])/\(os.foldl (fo l) d).1.length<=d.1.length+(os.flatMap (fR l)).length
 | [],d,h1,h2=>⟨h1,h2,bk _⟩
 |o::os,d,h1,h2=>by
  obtain⟨a,b,c⟩:=ack o.id (fR l o) d h1 h2;obtain⟨h,e,u⟩:=PS l os (fo l d o) a b;refine⟨h,e,?_⟩;rw[t5,Bj,cD];have:(fo l d o).1.length<=d.1.length+(fR l o).length:=c;omega
def atD(l:List Obj):(eJ l).1.Nodup:=(PS l l ([],fun _=>[]) Bp fun _ _=>rfl).1
def aaW(l:List Obj):(eJ l).1.length<=(l.flatMap (fR l)).length:=by
 have:(eJ l).1.length<=([]:List CK).length+(l.flatMap (fR l)).length:=(PS l l ([],fun _=>[]) Bp fun _ _=>rfl).2.2;rwa [cV,eH] at this
def eU(l:List Obj):List CK:=Dn (eJ l).1
def ad8(s:St)(v:aa)(l:List Obj):Prop:= ∃(r c:Nat) (T:CK->Nat),v= .arr 3 r 0 (eU l).length c/\s.get [] r=some (.cells (aF ((eU l).map fun k=>gW (k,(eJ l).2 k,T k))))/\r<s.aL
def aqi{a b:gH}(h:(gW a).cells=(gW b).cells):a=b:=by
 obtain⟨⟨y,x⟩,e,w⟩:=a;obtain⟨⟨u,b2⟩,b3,b4⟩:=b;simp only[gW,lK,List.cons.injEq,aa.str.injEq,aa.list.injEq,nL.own.injEq,aT,tA] at h;obtain⟨rfl,rfl,j,rfl⟩:=h;have:e=b3:=by
  have d:=yH pg e;rw[j,yH pg b3] at d;exact(sI d).symm
 rw[this]
variable{l:List Obj}{ov:aa}
def aqf(hK: ∀i,1000000<=Q.kmax i)(b1:No Q 127)(u:Q.spec 220=none)(A:Q.specW 220=some J6)(G:No Q 130)(z:No Q 223)(B:No Q 219)(x:No Q 301)(y:No Q 261)(F:No Q 167)(ho:ax 6 Obj.val ov l)(hg: ∀o∈l,o.Al)(hl:l.length<=1000)(hr: ∀o∈l,o.gE.length<=999)(a6:(eJ l).1.length<1000000)(hM:bJ aa.str s n (ig 0 l))(hn:n<s.aL)(a1:s.gt<=s.aL):
 ∃v s',aq Q 127 [.agg [ov,.map n]] s v s'/\(ad8 s' v l/\(∀k,k<s.aL->s'.get [] k=s.get [] k)/\s.aL<=s'.aL/\s'.gt<=s'.aL/\v.ge=true):=by
 have a9:=ho.cs;have a4:=ho.lenS fD;refine aq.ofNRZ amE (bT ?_);simp only[go_sem,seval,a9,a4,uu,mz];have b0:zK (s.new (.map [] 0)) s.aL (s.aL+1) [] (fun _=>[]) (fun _=>0):=⟨cG,Bp,fun _ h=>(by cases h),fun _ h=>(by cases h),fun _ _=>rfl,kF _,bk _⟩;refine aql G z B x y F ho hg hl hr (n:=n) (m:=s.aL) (lo:=s.aL+1) (by omega) (by omega) (s0:=s.new (.map [] 0)) (by show St.get _ [] n=_;rw[ck hn];exact hM) (KE:=(eJ l).1) (VE:=(eJ l).2) ?_ l [] [] (fun _=>[]) (fun _=>0) _ _ _ rfl rfl b0 (fun _=>jW _) (fun _ _ _=>rfl) (bk _) (bU a1) ?_ ?_ ?_ ?_ ?_ ?_ ?_;intro e lc d T hO a8 a0 N h3;have j:=aqa adg hO.hm;rw[tT] at j;have a2:n9 ah 193 (ag 0) (aM (eJ l).1.length) true d=some (.arr 3 d.aL 0 0 0,d.new (.cells [])):=by
  have h1:bn 0 (eJ l).1.length=true:=cE (jW _);have h2:bn ((eJ l).1.length*56) 1099511627776=true:=cE (by omega);have h3:bn (eJ l).1.length 1099511627776=true:=cE (by omega);have n0:dr (ag 0)=some 0:=rfl;simp only[dW,n9,A0,n0,pE,h1,h2,h3,jp,gh,bW,cF,aX]
 have b6:s.aL+1<=d.aL:=a0;have S:bJ iM (d.new (.cells [])) s.aL (gc (eJ l).1 fun k=>.list 1 (((eJ l).2 k).map aA) (.own (T k))):=by
  show St.get _ [] s.aL=_;rw[ck (by omega)];exact hO.hm
 have I:=iK.new adg S;have hI:=iK.begin S (by show s.aL<d.aL+1;omega);rw[tT] at I;simp only[go_sem,seval,h3,j,Qb,a2,Hz,I,hG];refine aqj hK (it:=d.aL+1) (m:=s.aL) (K:=(eJ l).1) (V:=(eJ l).2) (T:=T) a6 (s0:=d) ?_ (eJ l).1.length [] _ _ _ d.aL (by simp) (by rw[tT] at hI;exact hI) ?_ ?_ ?_ (bk _) (jV _) (by omega) ?_ ?_ (by omega) (fun k hk=>?_) ?_;intro e2 b7 s2 r rows hp U Y a3 b8 O J;obtain⟨Z,w⟩:=auQ (atD l) (by omega) (fun k=>(k,(eJ l).2 k,T k)) (fun _=>rfl) hp;have a5:rows.length=(eU l).length:=by rw[hp.length_eq,bP];exact(Dp _).length_eq.symm
 have a7:(bif aK (aF (rows.map gW)).length (rows.length*3) then xd gW nS iQ CS (aF (rows.map gW)) else none)=some (aF ((eU l).map fun k=>gW (k,(eJ l).2 k,T k))):=by
  have h1:(aF (rows.map gW)).length=rows.length*3:=by rw[oh Pk,bP]
  rw[h1,iU,bS,cT,xd,Hg (k:=3) (fun _=>rfl) (by decide) (fun a b=>aqi)];simp only[dW,Z,w,ll];rfl
 simp only[go_sem,seval,U,hG,u];refine ct.of (aq.specWp (n:=r) (cs':=aF ((eU l).map fun k=>gW (k,(eJ l).2 k,T k))) u (Std.H _) A rfl Y a7) (by decide) ?_;simp only[go_sem,seval,U,hG];refine⟨_,rfl,⟨r,rows.length,T,by rw[a5],by rw[aR,bS];rfl,a3⟩,fun k hk=>?_,?_,cR s2 r _ J,rfl⟩;rw[aR,bN.2 (by omega:k≠r),cF,O k (by omega),a8 k (by omega) (by omega),ck hk];show s.aL<=s2.aL;omega;simp only[sN,seval]<;>rfl;simp only[sN,seval]<;>rfl;rw[ck (by show d.aL<d.aL+1;omega),cG];rfl;show d.aL<d.aL+1+1;omega;show d.aL+1<d.aL+1+1;omega;rw[ck (by show k<d.aL+1;omega),ck hk];exact bU (bU N)
 all_goals simp only[aW,nQ,ai,bG,cV]
 all_goals rfl
variable{lo:Nat}
def TC(G:lQ ah t=some E)(w:E.n=sz)(B:E.b<=88){enc:α->aa}{l:List α}(F:cP sz lo s ov (l.map enc))(a:α)(x:l.length<=900000)(u:lo<=s.aL)(A:s.gt<=s.aL):
 ∃d h,fB ah [] t ov (.list sz [enc a] .GE) false s.top=some (d,h)/\cP sz lo (s.Gt h) d ((l++[a]).map enc)/\h.ci=s.ci/\s.aL<=h.aL/\(s.Gt h).gt<=(s.Gt h).aL/\(∀n,n<lo->(s.Gt h).get [] n=s.get [] n)/\d.ge=true/\d.cells=[d]:=by
 obtain⟨d,h,O,z,N,J,S,H,I⟩:=D2 (t:=t) G w B (s:=s.top) (y:=.list sz [enc a] .GE) (ys:=[enc a]) (show cP sz lo s.top ov _ from F) (by subst w;simp only[fH,em]) (by rw[bP];show l.length+1<=1000000;omega) u (bk _);have j:s.aL<=h.aL:=J;have e:(l++[a]).map enc=l.map enc++[enc a]:=by rw[eE];rfl
 exact⟨d,h,O,by rw[e];exact z,N,j,pB A j,H,z.ge,I⟩
variable{i:Nat}
def I5{r:Nat}(h:s.get [] r=some (.cells (aF (R.map gW)))){x:gH}(d:R[i]? =some x):yD ah 200 (i*3) (s.get [] r)=some (gW x):=by
 rw[h,aQ,abG,ab1 Pk (by rw[iw,d];rfl)];rfl
def Pl(mk:aI)(n m o l c:Nat)(s:St):iG ah mk 193 (.arr n m o l c) s=some (aM l):=by kernel_rfl
def FT{k:ae}{q:Obj}(h:cj k l=some q):dS l k=(q.x,q.y):=by unfold dS;rw[h]
variable{K:Ex->Fr->St->Prop}{c:Nat}
def avj(z:No Q 129)(ho:ax 6 Obj.val ov l){r:Nat}(c0:R.length<=1000)(hk: ∀x∈R,(∃q,cj x.1.1 l=some q)/\ ∃q,cj x.1.2 l=some q){s0:St}(hM:bJ aa.str s0 n (ig 0 l))(hr:s0.get [] r=some (.cells (aF (R.map gW))))(hn:n<lo)(b1:r<lo)(hx: ∀e lc s sv,cP 4 lo s sv ((R.map fun x=>jm l x.1).map bL)->(∀k,k<lo->s.get [] k=s0.get [] k)->s.gt<=s.aL->lo<=s.aL->ac e 5=sv->K (.exit 0) ⟨e,30,lc⟩ s):
 ∀(j d:List gH) (e:aw) (lc:Ag.Loc) (s:St) (sv:aa),R=d++j->cP 4 lo s sv ((d.map fun x=>jm l x.1).map bL)->(∀k,k<lo->s.get [] k=s0.get [] k)->s.gt<=s.aL->lo<=s.aL->ac e 5=sv->ac e 8= .arr 3 r 0 R.length c->ac e 9=aM R.length->ac e 10=aM d.length->ac e 2= .Ge 2 1 0->lc.get 2 1=some [ov,.map n]->lc.gen 2=1->W Q 132 (.loop NH) ⟨e,30,lc⟩ s K:=by
 intro j
 induction j with
 |nil=>
  intro d e lc s sv G Y u h B h5 h8 h9 w h2 H g2;have b8:d.length=R.length:=by rw[G];simp
  have b6:d=R:=by rw[G];simp
  refine bq ?_;simp only[go_sem,seval,NH,h9,w,b8,cq];rw[b6] at Y;exact hx _ _ _ sv Y u h B (by simp only[sN,seval,h5])
 |cons x j ih=>
  intro d e lc s sv G Y u h B h5 h8 h9 w h2 H g2;have b7:d.length<R.length:=by rw[G];simp
  have U:R[d.length]? =some x:=by rw[G];simp
  have b0:s.get [] r=_:=(u r b1).trans hr;have S:=I5 b0 U;have a9:=dg (n:=d.length) (by omega);have Z:bJ aa.str s.top n (ig 0 l):=(u n hn).trans hM;obtain⟨⟨q1,N⟩,⟨q2,J⟩⟩:=hk x (dB U);have p1:=Qj z ho Z N;have p2:=Qj z ho Z J;have F:=ho.ge;have A:=Y.ge;have O:=m8 h;have n0:dr (ag 0)=some 0:=rfl;have n1:dr (ag 1)=some 1:=rfl;obtain⟨a0,s1,a1,a2,a3,a4,a5,a6,a7,a8⟩:=TC (t:=205) vo.1 rfl (by decide) Y (jm l x.1) (by
   rw[bP];omega) B h
  have I:bL (jm l x.1)= .agg [ag q1.x,ag q1.y,ag q2.x,ag q2.y]:=by
   simp only[bL,jm,FT N,FT J]
  rw[I] at a1;simp only[gW] at S;refine lz ?_;simp only[go_sem,seval,NH,h8,h9,w,b7,S,aP,A0,L1];refine gK h ?_;simp only[go_sem,HQ,seval,h5,h2,H,g2,A,F,n0,n1];refine jY.calm h p1 (by decide) (by rfl) ?_;simp only[go_sem,HQ,seval,h5,h2,H,g2,A,F,n0,n1];refine jY.calm h p2 (by decide) (by rfl) ?_;simp only[go_sem,HQ,seval,aN,w,a9,h5,h2,H,g2,A,F,n0,n1,a1,a3,a4,a7,O,bj,bc,aX,aZ,evc];refine ih (d++[x]) _ _ (s.Gt s1) a0 (by rw[G];simp) (by rw[eE];exact a2) (fun k hk=>(a6 k hk).trans (u k hk)) a5 (by show lo<=s1.aL;omega) ?_ ?_ ?_ ?_ ?_ ?_ ?_
  all_goals simp only[aW,gw,gI,ai,h2,H,g2,h8,h9,sA]
def avk(F:No Q 132)(d:No Q 129)(G:ax 6 Obj.val ov l){r:Nat}(z:R.length<=1000)(N: ∀x∈R,(∃q,cj x.1.1 l=some q)/\ ∃q,cj x.1.2 l=some q)(hM:bJ aa.str s n (ig 0 l))(I:s.get [] r=some (.cells (aF (R.map gW))))(J:n<s.aL)(u:r<s.aL)(w:s.gt<=s.aL):
 ∃v s',aq Q 132 [.agg [ov,.map n],.arr 3 r 0 R.length c] s v s'/\(ax 4 bL v (R.map fun x=>jm l x.1)/\(∀k,k<s.aL->s'.get [] k=s.get [] k)/\s.aL<=s'.aL/\s'.gt<=s'.aL):=by
 have B:=G.cs;refine aq.ofNRZ amP ?_;refine WE.sound ?_;simp only[go_sem,seval,B,uu,hG,Pl];refine avj d G (c:=c) (lo:=s.aL) z N hM I J u ?_ R [] _ _ s .AL rfl (.inl ⟨rfl,rfl⟩) (fun _ _=>rfl) w (bk _) ?_ ?_ ?_ ?_ ?_ ?_ ?_;intro e lc S sv H A h y O;have j:=H.ge;simp only[go_sem,seval,O,j];exact⟨_,rfl,H.isL,A,y,h⟩
 all_goals simp only[aW,nQ,ai,bG,cV]
 all_goals rfl
def PA(x y z:Int):Int:=match tF false (.int .i64 x) [.int .i64 y,.int .i64 z] with|some (.int _ w)=>w|_=>0
def PD(x y z:Int):Int:=match tF true (.int .i64 x) [.int .i64 y,.int .i64 z] with|some (.int _ w)=>w|_=>0
def Ud(P:Program)(mk:aI)(d:List TypeId)(e:Bool)(x y z:Int)(s:St):je P mk .min d e [ag x,ag y,ag z] s=some (ag (PA x y z),s):=rfl
def Ue(P:Program)(mk:aI)(d:List TypeId)(e:Bool)(x y z:Int)(s:St):je P mk .max d e [ag x,ag y,ag z] s=some (ag (PD x y z),s):=rfl
def rG(n:Nat):List Int:=(gV n).map fun i=>((i:Nat):Int)
def WD(n:Nat):(rG n).length=n:=by simp[rG]
def Np(h:i<n):(rG n)[i]? =some ((i:Nat):Int):=by simp[rG,h]
variable{segs:List bI}{lv:aa}
def ark{sv:aa}(hs:ax 4 bL sv segs)(hl:ax 1 bO lv (rG segs.length))(b6:segs.length<=1000){s0:St}(hx: ∀e lc s ov,cP 4 lo s ov (segs.map bL)->(∀k,k<lo->s.get [] k=s0.get [] k)->s.gt<=s.aL->lo<=s.aL->ac e 6=ov->ac e 1=lv->ac e 2= .map m->K (.exit 0) ⟨e,208,lc⟩ s):
 ∀(h d:List bI) (e:aw) (lc:Ag.Loc) (s:St) (ov:aa) (a b:Int),segs=d++h->cP 4 lo s ov (d.map bL)->(∀k,k<lo->s.get [] k=s0.get [] k)->s.gt<=s.aL->lo<=s.aL->ac e 6=ov->ac e 7=ag a->ac e 8=ag b->ac e 0=sv->ac e 1=lv->ac e 2= .map m->ac e 26=lv->ac e 27=aM segs.length->ac e 28=aM d.length->W Q 131 (.loop HP) ⟨e,208,lc⟩ s K:=by
 intro h
 induction h with
 |nil=>
  intro d e lc s ov a b J S I F H h6 Y U Z r1 h2 w u j;have b0:d.length=segs.length:=by rw[J];simp
  have a9:d=segs:=by rw[J];simp
  refine bq ?_;simp only[go_sem,seval,HP,u,j,b0,cq];rw[a9] at S;exact hx _ _ _ ov S I F H (by simp only[sN,seval,h6]) (by simp only[sN,seval,r1]) (by simp only[sN,seval,h2])
 |cons g h ih=>
  intro d e lc s ov a b J S I F H h6 Y U Z r1 h2 w u j;have G:d.length<segs.length:=by rw[J];simp
  have b1:segs[d.length]? =some g:=by rw[J];simp
  have O:=fun lc k=>hs.at vo.2.2.1 b1 lc k;have N:=fun lc k=>hl.at kT.2.2.1 (Np G) lc k;have z:=dg (n:=d.length) (by omega);have x:=S.ge;obtain⟨B,s1,a1,a2,a3,a4,a5,a6,a7⟩:=D2 (t:=205) vo.1 rfl (by decide) (s:=s) (y:=.list 4 [bL g] .GE) (ys:=[bL g]) S (by simp only[fH,em]) (by simp only[fh,bP];omega) H F;have A:=a2.ge;simp only[bL] at a1;have a8:cP 4 lo s1 B ((d++[g]).map bL):=by rw[eE];exact a2
  have a0: ∀k,k<lo->s1.get [] k=s0.get [] k:=fun k hk=>(a6 k hk).trans (I k hk);refine bq ?_;cases h0z:an ((d.length:Nat):Int) 0 with
  |true=>
   simp only[go_sem,seval,HP,h6,Y,U,Z,w,u,j,G,O,N,z,bL,bO,x,bj,bc,aX,aZ,evc];simp only[go_sem,seval,Y,U,j,z,x,A,a1,h0z,a5,sR,rp,Ud,Ue,bj,bc,aX,aZ,evc];refine ih (d++[g]) _ _ s1 B (PA (min g.1.1 g.2.1) g.1.1 g.2.1) (PD (max g.1.1 g.2.1) g.1.1 g.2.1) (by rw[J];simp) a8 a0 a5 (by omega) ?_ ?_ ?_ ?_ ?_ ?_ ?_ ?_ ?_
   all_goals first
    |(simp only[sN,seval,Z,r1,h2,w,u,sA];done)
    |(simp only[sN,seval];rfl)
  |false=>
   simp only[go_sem,seval,HP,h6,Y,U,Z,w,u,j,G,O,N,z,bL,bO,x,bj,bc,aX,aZ,evc];simp only[go_sem,seval,Y,U,j,z,x,A,a1,h0z,a5,sR,rp,Ud,Ue,bj,bc,aX,aZ,evc];refine ih (d++[g]) _ _ s1 B (PA a g.1.1 g.2.1) (PD b g.1.1 g.2.1) (by rw[J];simp) a8 a0 a5 (by omega) ?_ ?_ ?_ ?_ ?_ ?_ ?_ ?_ ?_
   all_goals first
    |(simp only[sN,seval,Z,r1,h2,w,u,sA];done)
    |(simp only[sN,seval];rfl)
def ahX(a b c d:Int):j1 ah 8 207 (.agg [ag a,ag b]) (.agg [ag c,ag d])=some (bif an a c then an b d else false):=by
 have h:j1 ah 8 207 (.agg [ag a,ag b]) (.agg [ag c,ag d])=(some (an a c)).bind fun r=>bif r then(some (an b d)).bind fun r=>bif r then some true else some false else some false:=by kernel_rfl
 rw[h];cases an a c<;>cases an b d<;>rfl
def apR:Bt ah 207 aN where
 eq a b:=by
  obtain⟨j,e⟩:=a;obtain⟨d,b2⟩:=b;have h:=ahX j e d b2;have w:aN (j,e)= .agg [ag j,ag e]:=rfl;have u:aN (d,b2)= .agg [ag d,ag b2]:=rfl;rw[w,u,h];by_cases h1:j=d<;>by_cases h2:e=b2<;>simp[an,h1,h2]
 same a:=by simp[aN,tz,wd,w9,an]
 ge _:=rfl
def apX(k:Int×Int):lh ah 203 (aN k)=some (207,3):=by kernel_rfl
def mX(l:List Mt):List ((Int×Int)×aa):=l.map fun x=>((x.1,x.2.1),ag x.2.2)
def VJ{k:Int×Int}: ∀ {l:List Mt},(∀y∈l,(y.1,y.2.1)≠k)->cu k (mX l)=none
 | [],_=>rfl
 |y::l,h=>by
  show(if k=(y.1,y.2.1) then _ else cu k (mX l))=_;rw[iN fun e=>h y gF e.symm];exact VJ fun z d=>h z (fW _ d)
def Lh{l:List bI}{x:Mt}(h:x∈gr l):(0<=x.1/\x.1<l.length)/\(0<=x.2.1/\x.2.1<l.length):=by
 obtain⟨a,u,b,j,d⟩:=JG h;have e:=BW d;have y:=Ar u;have w:=Ar j;omega
def PC(l:List Mt):ax 3 gB (Fy l) l:=by
 cases l with
 |nil=>exact .inl ⟨rfl,rfl⟩
 |cons x l=>exact .inr ⟨.no,rfl⟩
def arT(hl:ax 1 bO lv (rG segs.length))(u:segs.length<=1000){s0:St}(hx: ∀e lc s,dn m s0 s->bJ aN s m (mX (gr segs))->K (.exit 2) ⟨e,208,lc⟩ s):
 ∀(h d:List Mt) (e:aw) (lc:Ag.Loc) (s:St),gr segs=d++h->dn m s0 s->bJ aN s m (mX d)->ac e 1=lv->ac e 2= .map m->ac e 82=Fy (gr segs)->ac e 83=aM (gr segs).length->ac e 84=aM d.length->W Q 131 (.loop NF) ⟨e,208,lc⟩ s K:=by
 have a6:(gr segs).length<=1000000:=by
  have:=FP (F:=fM) (ij 0 segs);rw[wA] at this;have:segs.length*segs.length<=1000*1000:=qZ u u;unfold gr;omega
 intro h
 induction h with
 |nil=>
  intro d e lc s B N O U S z j w;have a3:d.length=(gr segs).length:=by rw[B];simp
  have a0:d=gr segs:=by rw[B];simp
  refine bq ?_;simp only[go_sem,seval,NF,j,w,a3,cq];rw[a0] at O;exact hx _ _ _ N O
 |cons x h ih=>
  intro d e lc s B N O U S z j w;have a2:d.length<(gr segs).length:=by rw[B];simp
  have J:(gr segs)[d.length]? =some x:=by rw[B];simp
  have a4:=fun lc k=>(PC (gr segs)).at zd.2.2.1 J lc k;have Z:=dg (n:=d.length) (by omega);obtain⟨⟨b1,b2⟩,b3,b4⟩:=Lh (dB J);have Y:=hl.ge;have ea:x.1=((x.1.toNat:Nat):Int):=(Kr b1).symm;have eb:x.2.1=((x.2.1.toNat:Nat):Int):=(Kr b3).symm;have I: ∀lc,ii ah lc 26 lv (ag x.1)=some (.ro [ag x.1]):=fun lc=>by
   rw[ea];exact hl.at kT.2.2.1 (Np (by omega)) lc .i64
  have H: ∀lc,ii ah lc 26 lv (ag x.2.1)=some (.ro [ag x.2.1]):=fun lc=>by
   rw[eb];exact hl.at kT.2.2.1 (Np (by omega)) lc .i64
  have a1:cu (x.1,x.2.1) (mX d)=none:=VJ fun y hy e=>by
   have hs:(gr segs).Pairwise uY:=FQ (Ci segs 0);rw[B] at hs
   have:=(List.pairwise_append.1 hs).2.2 y hy x gF;simp only[bu] at e;simp only[uY] at this;omega
  have a5:bJ aN s.top m (mX d):=O;have A:=vz apR apX a5 (x.1,x.2.1) (ag x.2.2);have G:ee (x.1,x.2.1) (ag x.2.2) (mX d)=mX (d++[x]):=by
   rw[uR a1];unfold mX;rw[eE];rfl
  rw[G] at A;simp only[aN] at A;refine bq ?_;simp only[go_sem,seval,NF,U,S,z,j,w,a2,a4,Z,gB,I,H,Y,N.mw,A,bj,bc,aX,aZ,evc];refine ih (d++[x]) _ _ _ (by rw[B];simp) (N.putT _) ?_ ?_ ?_ ?_ ?_ ?_;show St.get _ [] m=_;rw[lL,aR,bS];rfl
  all_goals simp only[sN,seval,U,S,z,j,sA]
def aq1(Z:No Q 131)(z:Q.spec 224=some zP){sv:aa}(hs:ax 4 bL sv segs)(A:ax 1 bO lv (rG segs.length))(d:segs.length<=1000)(hn: ∀x∈segs,qI x=true)(hM:bJ aN s m [])(I:m<s.aL)(H:s.gt<=s.aL):
 ∃v s',aq Q 131 [sv,lv,.map m] s v s'/\(v= .tup []/\bJ aN s' m (mX (gr segs))/\(∀k,k<s.aL->k≠m->s'.get [] k=s.get [] k)/\s.aL<=s'.aL/\s'.gt<=s'.aL):=by
 have a0:=hs.ge;have F:=A.ge;have w:=A.lenS kT;rw[WD] at w;have j:=(PC (gr segs)).lenS zd;have J:=(PC (gr segs)).ge;refine aq.ofNRZ amO ?_;refine WE.sound ?_;simp only[go_sem,seval,w,F];refine ark hs A d (m:=m) (lo:=s.aL) (s0:=s) ?_ segs [] _ _ s .AL 0 0 rfl (.inl ⟨rfl,rfl⟩) (fun _ _=>rfl) H (bk _) ?_ ?_ ?_ ?_ ?_ ?_ ?_ ?_ ?_
 ·intro e lc s1 ov U y h N h6 r1 r2
  have B:=U.ge;have u:=U.isL.lenS vo;have O:bV ((segs.length:Nat):Int) 20000=true:=by simp only[bV,dE];omega
  have q1:=ae7 U.isL d hn;simp only[go_sem,seval,h6,r1,r2,B,u,O,z,q1,j,J,ew,bj,bc,aX,aZ,evc];refine arT A d (m:=m) (s0:=s1) ?_ (gr segs) [] _ _ s1 rfl (.refl h) ((y m I).trans hM) ?_ ?_ ?_ ?_ ?_;intro e2 a1 s2 S Y;simp only[go_sem,seval];exact⟨_,rfl,rfl,Y,fun k hk G=>(S.old k G).trans (y k hk),by rw[S.aL];exact N,S.mw⟩
  all_goals simp only[sN,seval,r1,r2,cV]
  all_goals rfl
 all_goals simp only[sN,seval,cV]
 all_goals rfl
def apW(k:CK):lh ah 195 (iM k)=some (196,4):=by kernel_rfl
def jO(KB:List CK):List (CK×aa):=gc KB fun _=>.bool true
variable{KB:List CK}
def afq(d:KB.Nodup)(k:CK):ee k (.bool true) (jO KB)=jO (eC k KB):=by
 unfold jO;rw[Cg _ d];exact Kg fun j _=>by
  by_cases h:j=k;subst h;rw[oo];rw[jU _ _ h]
noncomputable def noted(mb:Nat)(KB:List CK)(s:St):St:=s.put mb (some (.map (cX iM 0 (jO KB)) (jO KB).length))
def Q0(mk:aI)(m off len lcap:Nat)(lo d:Option Operand)(e:aw)(s:St):iZ ah mk 25 (.arr 1 m off len lcap) lo d none e s=(eV e d len).bind fun h=>(eV e lo 0).bind fun l=>bif bn l h&&bn h len then some (.arr 1 m (off+l*1) (h-l) (lcap-l)) else none:=by
 have h:iZ ah mk 25 (.arr 1 m off len lcap) lo d none e s=(eV e d len).bind fun h=>(eV e lo 0).bind fun l=>bif aK 1 1&&bn l h&&bn h len&&true then some (.arr 1 m (off+l*1) (h-l) (lcap-l)) else none:=by kernel_rfl
 rw[h];simp only[mP,Nat.beq_refl,en]
def agX(d:Bool)(s:St)(m c:Nat)(a b:aa)(h:s.get [] m=some (.cells [a,b])):je ah [] .clear [25] d [.arr 1 m 1 1 c] s=some (.tup [],s.put m (some (.cells [a,.str []]))):=by
 have u:ah.underlying 25=some (.slice 9):=by kernel_rfl
 simp only[fH,je,u,bg,ux,co,h];rfl
variable{bx mb:Nat}
def ZY(j:No Q 128)(w:s.get [] bx=some (.cells [.map mb]))(hM:bJ iM s mb (jO KB))(u:KB.Nodup)(a b:ae):aq Q 128 [.str a,.str b,.ptr bx 0] s (.tup []) (noted mb (eC (ey a b) KB) s):=by
 have d:=vz O9 apW hM (ey a b) (.bool true);rw[afq u] at d;simp only[iM,ey] at d;have e: ∃v s',aq Q 128 [.str a,.str b,.ptr bx 0] s v s'/\(v= .tup []/\s'=noted mb (eC (ey a b) KB) s):=by
  refine aq.ofNRZ amF ?_;refine WE.sound ?_;simp only[go_sem,cM,bK,ai,ay,bG,dw,dG,dU,cy,dD,dC,reduceCtorEq,dY,w,aP,aQ,D5,D6,uu,d,Qe,bj,bc,aX,aZ,evc];exact⟨_,rfl,rfl,rfl⟩
 obtain⟨v,s',h,rfl,rfl⟩:=e;exact h
def ahn(B:No Q 133){a b:ae}(z:s.get [] n=some (.cells [.str a,.str b]))(u:s.gt<=s.aL):
 ∃v s',aq Q 133 [.arr 1 n 0 2 2] s v s'/\((a=b/\v= .arr 1 n 0 1 2/\s'=s.put n (some (.cells [.str a,.str []])))\/(a≠b/\v= .arr 1 n 0 2 2/\s'=s)):=by
 have F:IntKind.i64.wrap (1-1)=0:=by decide
 have N:IntKind.i64.wrap (1+1)=2:=by decide
 have w3:IntKind.i64.wrap (2-1)=1:=by decide
 have Z:IntKind.i64.wrap (2+1)=3:=by decide
 have Y:aV ((2:Nat):Int) 2=false:=by decide
 have I:aV 1 ((2:Nat):Int)=true:=by decide
 have U:aV 2 ((2:Nat):Int)=false:=by decide
 have S:aV 1 ((1:Nat):Int)=false:=by decide
 have H:dr (ag 0)=some 0:=rfl;have G:dr (ag 1)=some 1:=rfl;have y: ∀j,ac j 27=ag 1->eV j (some (.tmp 27)) 0=some 1:=fun j h=>by show(ev j (.tmp 27)).bind dr=_;rw[dR,h];rfl
 have x: ∀j,ac j 55=ag 1->eV j (some (.tmp 55)) 0=some 1:=fun j h=>by show(ev j (.tmp 55)).bind dr=_;rw[dR,h];rfl
 have w: ∀j k,ac j 58=ag 1->eV j (some (.tmp 58)) k=some 1:=fun j k h=>by show(ev j (.tmp 58)).bind dr=_;rw[dR,h];rfl
 have J: ∀j d,eV j none d=some d:=fun _ _=>rfl;have A:=fun O c=>agX O s n c (.str a) (.str b) z;refine aq.ofNRZ amS (bT ?_);simp only[go_sem,cM,bK,ai,ay,bG,dw,dG,dU,cy,dD,dC,reduceCtorEq,dY,yC,hG,Y];refine bq ?_;cases hab:b==a with
 |true=>
  have e:a=b:=(eq_of_beq hab).symm;subst e;simp only[go_sem,cM,bK,ai,ay,bG,dw,dG,dU,cy,dD,dC,reduceCtorEq,dY,NJ,yC,co,hG,I,H,G,F,u,z,aP,aQ,hab,xh,Q0,y,J];refine bq ?_;simp only[go_sem,cM,bK,ai,ay,bG,dw,dG,dU,cy,dD,dC,reduceCtorEq,dY,amT,yC,hG,S,Q0,x,w,J,A];exact⟨_,rfl,.inl rfl⟩
 |false=>
  have e:a≠b:=fun e=>by rw[e] at hab;simp at hab
  simp only[go_sem,cM,bK,ai,ay,bG,dw,dG,dU,cy,dD,dC,reduceCtorEq,dY,NJ,yC,co,hG,I,H,G,F,N,u,z,aP,aQ,hab,xh];refine bq ?_;simp only[go_sem,cM,bK,ai,ay,bG,dw,dG,dU,cy,dD,dC,reduceCtorEq,dY,NJ,yC,hG,U];exact⟨_,rfl,.inr ⟨e,rfl⟩⟩
def YQ(a b:ae):ey a b=if db a b<=0 then(a,b) else(b,a):=by
 have u:=BN a b;unfold ey CB Cz;by_cases hl:db a b<0;have d:eR a b=true:=u.1 hl;have e:Ag.leBytes a b=true:=by show(eR a b||a==b)=true;rw[d];rfl
 rw[d,e,iP (by omega)];rfl;have d:eR a b=false:=by
  cases h:eR a b with
  |true=>exact absurd (u.2 h) hl
  |false=>rfl
 by_cases hz:db a b=0
 have:=uy hz;subst this;have e:Ag.leBytes a a=true:=by show(eR a a||a==a)=true;simp
 rw[d,e,iP (by omega)];rfl;have j:(a==b)=false:=by
  cases h:a==b with
  |true=>rw[eq_of_beq h] at hz;exact absurd (Ec b) hz
  |false=>rfl
 have e:Ag.leBytes a b=false:=by show(eR a b||a==b)=false;rw[d,j];rfl
 rw[d,e,iN (by omega)];rfl
def YP(a b:ae):ey a b=ey b a:=by
 rw[YQ,YQ,BO a b];by_cases h:db a b=0
 have:=uy h;subst this;rw[h];rfl;by_cases h2:db a b<=0;rw[iP h2,iN (by omega)];rw[iN h2,iP (by omega)]
def yI(id:ae)(KB:List CK)(os:List ae):List CK:=os.foldl (fun KB o=>eC (ey o id) KB) KB
def ZB{id:ae}{k:CK}: ∀ {os:List ae} {KB:List CK},k∈yI id KB os↔k∈KB\/ ∃o∈os,k=ey o id
 | [],KB=>by simp[yI]
 |o::os,KB=>by
  show k∈yI id (eC (ey o id) KB) os↔_;rw[ZB,nf];simp only[dl];constructor;rintro((h|h)|⟨x,hx,h⟩);exact .inr ⟨o,.inl rfl,h⟩;exact .inl h;exact .inr ⟨x,.inr hx,h⟩;rintro(h|⟨x,rfl|hx,h⟩);exact .inl (.inr h);exact .inl (.inl h);exact .inr ⟨x,hx,h⟩
def ZZ{id:ae}: ∀ {os:List ae} {KB:List CK},KB.Nodup->(yI id KB os).Nodup
 | [],_,h=>h
 |o::os,KB,h=>ZZ (os:=os) (xN h)
structure zI (l:List Obj) (D:List ae) (KB:List CK) (K:List Pt) (V:Pt->List ae):Prop where
 v: ∀q id,id∈V q↔id∈D/\dS l id=q
 b: ∀k,k∈KB↔ ∃x y,x∈D/\y∈D/\x≠y/\dS l x=dS l y/\k=ey x y
 nd:KB.Nodup
 len: ∀q,(V q).length<=D.length
variable{K:List Pt}{D:List ae}{V:Pt->List ae}
def zI.old(h:zI l D KB K V){id:ae}(u:id∈V (dS l id)):zI l (D++[id]) KB K V:=by
 have w:=((h.v _ _).1 u).1;have d: ∀x,x∈D++[id]↔x∈D:=fun x=>by
  rw[jb,qX];exact⟨fun j=>j.elim (fun h=>h) fun e=>e▸w,.inl⟩
 refine⟨fun q x=>by rw[d];exact h.v q x,fun k=>?_,h.nd,fun q=>by rw[cD];have:=h.len q;omega⟩;rw[h.b];simp only[d]
theorem zI.new(h:zI l D KB K V){id:ae}(A:id ∉ V (dS l id)):zI l (D++[id]) (yI id KB (V (dS l id))) (eC (dS l id) K) (jT V (dS l id) (V (dS l id)++[id])):=by
 have F:id ∉ D:=fun B=>A ((h.v _ _).2 ⟨B,rfl⟩);have z: ∀x,x∈D++[id]↔x∈D\/x=id:=fun x=>by rw[jb,qX]
 refine⟨fun q x=>?_,fun k=>?_,ZZ h.nd,fun q=>?_⟩;rw[z];by_cases hq:q=dS l id;subst hq;rw[oo,jb,qX,h.v];constructor;rintro(⟨h1,d⟩|rfl);exact⟨.inl h1,d⟩;exact⟨.inr rfl,rfl⟩;rintro⟨h1|h1,d⟩;exact .inl ⟨h1,d⟩;exact .inr h1;rw[jU _ _ hq,h.v];constructor;rintro⟨h1,d⟩;exact⟨.inl h1,d⟩;rintro⟨h1|rfl,d⟩;exact⟨h1,d⟩;exact absurd d.symm hq;rw[ZB,h.b];simp only[z,h.v];constructor;rintro(⟨x,y,h1,d,j,w,u⟩|⟨o,⟨h1,d⟩,j⟩);exact⟨x,y,.inl h1,.inl d,j,w,u⟩;exact⟨o,id,.inl h1,.inr rfl,fun e=>F (e▸h1),d,j⟩;rintro⟨x,y,h1|rfl,d|rfl,j,w,u⟩;exact .inl ⟨x,y,h1,d,j,w,u⟩;exact .inr ⟨x,⟨h1,w⟩,u⟩;exact .inr ⟨y,⟨d,w.symm⟩,by rw[u,YP]⟩;exact absurd rfl j;rw[cD];by_cases hq:q=dS l id;subst hq;rw[oo,cD]
 have:=h.len (dS l id);simp only[fh];omega;rw[jU _ _ hq]
 have:=h.len q;omega
def Z0{s0:St}(h:dn mb s0 s):dn mb s0 (noted mb KB s):=h.put _
def Z1:bJ iM (noted mb KB s) mb (jO KB):=bJ.put
variable{lc:Ag.Loc}{KE:List CK}{v:aa}{E0:aw}
def afN(F:No Q 128){os:List ae}(hv:ax 1 aA v os)(a4:os.length<=1000000){id:ae}(S:bx≠mb){s0:St}(hb:s0.get [] bx=some (.cells [.map mb]))(hx: ∀e s,dn mb s0 s->bJ iM s mb (jO KE)->(∀t,t≠15->t≠66->t≠67->t<68->ac e t=ac E0 t)->C (.exit 4) ⟨e,180,lc⟩ s):
 ∀(h d:List ae) (KB:List CK) (e:aw) (s:St),os=d++h->KB.Nodup->yI id KB h=KE->dn mb s0 s->bJ iM s mb (jO KB)->(∀t,t≠15->t≠66->t≠67->t<68->ac e t=ac E0 t)->ac E0 7= .func (.func 128) [] [.ptr bx 0]->ac E0 12= .str id->ac E0 64=v->ac E0 65=aM os.length->ac e 66=aM d.length->W Q 59 (.loop OU) ⟨e,180,lc⟩ s C:=by
 intro h
 induction h with
 |nil=>
  intro d KB e s j N hf I hM x e7 B A w u;have Y:d.length=os.length:=by rw[j];simp
  have z:=(x 65 (by decide) (by decide) (by decide) (by decide)).trans w;refine bq ?_;simp only[go_sem,seval,OU,z,u,Y,cq];refine hx _ _ I (by rw[<-hf];exact hM) fun t j J H h4=>?_;rw[Jl _ _ _ _ (by simpa using H)];exact x t j J H h4
 |cons o h ih=>
  intro d KB e s j N hf I hM x e7 B A w u;have U:d.length<os.length:=by rw[j];simp
  have a1:os[d.length]? =some o:=by rw[j];simp
  have Z:=fun lc k=>hv.at co.2.2.1 a1 lc k;have O:=dg (n:=d.length) (by omega);have z:=(x 65 (by decide) (by decide) (by decide) (by decide)).trans w;have a2:=(x 64 (by decide) (by decide) (by decide) (by decide)).trans A;have h7:=(x 7 (by decide) (by decide) (by decide) (by decide)).trans e7;have a3:=(x 12 (by decide) (by decide) (by decide) (by decide)).trans B;have a0:s.get [] bx=_:=(I.old bx S).trans hb;have G:=ZY F a0 hM N o id;refine bq ?_;simp only[go_sem,seval,OU,h7,a3,a2,z,u,U,Z,aA];refine ct.of G (by decide) ?_;simp only[go_sem,seval,u,O];refine ih (d++[o]) (eC (ey o id) KB) _ _ (by rw[j];simp) (xN N) hf (Z0 I) Z1 (fun t j J H h4=>?_) e7 B A w (by simp only[sN,seval,sA]);have y: ∀k,68<=k->(t==k)=false:=fun k hk=>by simp;omega
  have c1:(t==15)=false:=by simpa using j
  have c2:(t==66)=false:=by simpa using J
  have c3:(t==67)=false:=by simpa using H
  simp only[dh,y 68 (by decide),y 69 (by decide),y 70 (by decide),y 71 (by decide),y 72 (by decide),y 73 (by decide),y 74 (by decide),c1,c2,c3];exact x t j J H h4
def ahY(a b c d:Int):j1 ah 8 49 (.agg [ag a,ag b]) (.agg [ag c,ag d])=some (bif an a c then an b d else false):=by
 have h:j1 ah 8 49 (.agg [ag a,ag b]) (.agg [ag c,ag d])=(some (an a c)).bind fun r=>bif r then(some (an b d)).bind fun r=>bif r then some true else some false else some false:=by kernel_rfl
 rw[h];cases an a c<;>cases an b d<;>rfl
def YS:Bt ah 49 aN where
 eq a b:=by
  obtain⟨j,e⟩:=a;obtain⟨d,b2⟩:=b;have h:=ahY j e d b2;have w:aN (j,e)= .agg [ag j,ag e]:=rfl;have u:aN (d,b2)= .agg [ag d,ag b2]:=rfl;rw[w,u,h];by_cases h1:j=d<;>by_cases h2:e=b2<;>simp[an,h1,h2]
 same a:=by simp[aN,tz,wd,w9,an]
 ge _:=rfl
def YU(k:Pt):lh ah 198 (aN k)=some (49,25):=by kernel_rfl
structure DV (l:List Obj) (s0 s:St) (ma mb lo:Nat) (D:List ae) (KB:List CK) (K:List Pt) (V:Pt->List ae) (T:Pt->Nat):Prop where
 o:sK aN aA s ma lo K V T
 m:bJ iM s mb (jO KB)
 fr: ∀k,k<lo->k≠ma->k≠mb->s.get [] k=s0.get [] k
 i:zI l D KB K V
 nx:s0.aL<=s.aL
 mw:s.gt<=s.aL
structure GP (e:aw) (lc:Ag.Loc) (ov lv:aa) (n bx ma:Nat):Prop where
 h3:ac e 3= .Ge 3 1 0
 h5:ac e 5=lv
 h6:ac e 6= .ptr bx 0
 h7:ac e 7= .func (.func 128) [] [.ptr bx 0]
 h8:ac e 8= .map ma
 l3:lc.get 3 1=some [ov,.map n]
 g3:lc.gen 3=1
def afE(b6:No Q 128)(b1:No Q 129)(b0:No Q 130)(a0:No Q 223)(ho:ax 6 Obj.val ov l){ma:Nat}(c1:n≠ma)(c2:n≠mb)(c3:n<lo)(c4:bx≠ma)(c5:bx≠mb)(c6:bx<lo)(c7:mb≠ma)(c8:mb<lo){s0:St}(hM:bJ aa.str s0 n (ig 0 l))(d5:s0.get [] bx=some (.cells [.map mb])){a b:ae}(d7: ∀id,id∈ [a,b]-> ∃q,cj id l=some q){x42 x43 x44:aa}(hD:D.length<=10000)(hx: ∀e lc s KB K V T,DV l s0 s ma mb lo (D++[a,b]) KB K V T->GP e lc ov lv n bx ma->ac e 42=x42->ac e 43=x43->ac e 44=x44->C (.exit 2) ⟨e,180,lc⟩ s):
 ∀(j d:List ae) (e:aw) (lc:Ag.Loc) (s:St) (KB:List CK) (K:List Pt) (V:Pt->List ae) (T:Pt->Nat),[a,b]=d++j->DV l s0 s ma mb lo (D++d) KB K V T->GP e lc ov lv n bx ma->ac e 42=x42->ac e 43=x43->ac e 44=x44->ac e 49= .agg [.str a,.str b]->ac e 50=aM d.length->W Q 59 (.loop OV) ⟨e,180,lc⟩ s C:=by
 intro j
 induction j with
 |nil=>
  intro d e lc s KB K V T U S E I H G F A;have c9:d=[a,b]:=by rw[U];simp
  subst c9;have hl:aV ((2:Nat):Int) 2=false:=rfl;refine bq ?_;simp only[go_sem,cM,bK,ai,ay,bG,dw,dG,dU,cy,dD,dC,reduceCtorEq,dY,OV,A,hl];refine hx _ _ s KB K V T S ⟨?_,?_,?_,?_,?_,E.l3,E.g3⟩ ?_ ?_ ?_
  all_goals simp only[sN,ai,bG,E.h3,E.h5,E.h6,E.h7,E.h8,I,H,G]
 |cons id j ih=>
  intro d e lc s KB K V T U S E I H G F A;obtain⟨h3,h5,h6,h7,Z,l3,g3⟩:=E;have d0:d.length<2:=by
   have:=congrArg List.length U;simp only[fh,cD] at this;omega
  have d6:([a,b]:List ae)[d.length]? =some id:=by rw[U];simp
  have O:aV ((d.length:Nat):Int) 2=true:=by simp only[aV,dE];omega
  have d2:Ak ah 196 (.agg [.str a,.str b]) (aM d.length)=some (.str id):=by
   rw[W1,pE];have hb:bh d.length 2=true:=cE d0;simp only[dW,hb,gR,Nat.mul_one,List.head?_drop];have:([aa.str a,aa.str b]:List aa)=([a,b]:List ae).map aa.str:=rfl;rw[this,iw,d6];rfl
  have b7:=dg (n:=d.length) (by omega);obtain⟨q,hq⟩:=d7 id (by rw[U];simp);have b8:=FT hq;have e0:bJ aa.str s n (ig 0 l):=(S.fr n c3 c1 c2).trans hM;have J:=Qj b1 ho e0 hq;have d4:=ho.ge;obtain⟨v,z,B⟩:=S.o.look YS YU tW (dS l id);have N:=B.ge;have c0:=S.i.len (dS l id);have f4:(D++d).length<=10002:=by rw[cD];omega
  have u:=Mh a0 b0 B (by omega) id s;have d1:=B.lenS co;rw[b8] at z;simp only[aN] at z J;have e2:D++d++[id]=D++(d++[id]):=by simp
  refine lz ?_;simp only[go_sem,cM,bK,ai,ay,bG,dw,dG,dU,cy,dD,dC,reduceCtorEq,dY,OV,h3,Z,F,A,O,d2,l3,g3,d4];refine ct.of J (by decide) ?_;cases hc:(V (dS l id)).contains id with
  |true=>
   rw[hc] at u;have y:id∈V (dS l id):=by simpa using hc
   simp only[go_sem,cM,bK,ai,ay,bG,dw,dG,dU,cy,dD,dC,reduceCtorEq,dY,Z,z,N];refine ct.of u (by decide) ?_;simp only[go_sem,cM,bK,ai,ay,bG,dw,dG,dU,cy,dD,dC,reduceCtorEq,dY,A,b7];refine ih (d++[id]) _ _ s KB K V T (by rw[U];simp) ⟨S.o,S.m,S.fr,by rw[<-e2];exact S.i.old y,S.nx,S.mw⟩ ⟨?_,?_,?_,?_,?_,?_,?_⟩ ?_ ?_ ?_ ?_ ?_
   all_goals simp only[aW,gw,gI,ai,h3,h5,h6,h7,Z,l3,g3,I,H,G,F,sA]
  |false=>
   rw[hc] at u;have y:id ∉ V (dS l id):=by
    intro h;have:(V (dS l id)).contains id=true:=by simpa using h
    rw[hc] at this;cases this
   simp only[go_sem,cM,bK,ai,ay,bG,dw,dG,dU,cy,dD,dC,reduceCtorEq,dY,Z,z,N];refine ct.of u (by decide) ?_;simp only[go_sem,cM,bK,ai,ay,bG,dw,dG,dU,cy,dD,dC,reduceCtorEq,dY,Z,z,N,d1];refine afN b6 B (by omega) (id:=id) (bx:=bx) (mb:=mb) c5 (s0:=s) ((S.fr bx c6 c4 c5).trans d5) (KE:=yI id KB (V (dS l id))) ?_ (V (dS l id)) [] KB _ s rfl S.i.nd rfl (.refl S.mw) S.m (fun _ _ _ _ _=>rfl) ?_ ?_ ?_ ?_ ?_
   ·intro x s2 Y e1 w
    have e8:ac x 3= .Ge 3 1 0:=(w 3 (by decide) (by decide) (by decide) (by decide)).trans (by simp only[sN,ai,bG,h3]);have g5:ac x 5=lv:=(w 5 (by decide) (by decide) (by decide) (by decide)).trans (by simp only[sN,ai,bG,h5]);have g6:ac x 6= .ptr bx 0:=(w 6 (by decide) (by decide) (by decide) (by decide)).trans (by simp only[sN,ai,bG,h6]);have g7:ac x 7= .func (.func 128) [] [.ptr bx 0]:=(w 7 (by decide) (by decide) (by decide) (by decide)).trans (by simp only[sN,ai,bG,h7]);have g8:ac x 8= .map ma:=(w 8 (by decide) (by decide) (by decide) (by decide)).trans (by simp only[sN,ai,bG,Z]);have f0:ac x 12= .str id:=(w 12 (by decide) (by decide) (by decide) (by decide)).trans (by simp only[sN,ai,bG]);have e9:ac x 13= .Ge 13 (lc.gen 13+1) 0:=(w 13 (by decide) (by decide) (by decide) (by decide)).trans (by simp only[sN,ai,bG]);have e7:ac x 42=x42:=(w 42 (by decide) (by decide) (by decide) (by decide)).trans (by simp only[sN,ai,bG,I]);have e6:ac x 43=x43:=(w 43 (by decide) (by decide) (by decide) (by decide)).trans (by simp only[sN,ai,bG,H]);have e5:ac x 44=x44:=(w 44 (by decide) (by decide) (by decide) (by decide)).trans (by simp only[sN,ai,bG,G]);have e4:ac x 49= .agg [.str a,.str b]:=(w 49 (by decide) (by decide) (by decide) (by decide)).trans (by simp only[sN,ai,bG,F]);have e3:ac x 50=aM d.length:=(w 50 (by decide) (by decide) (by decide) (by decide)).trans (by simp only[sN,ai,bG,A]);have S2:sK aN aA s2 ma lo K V T:=S.o.mono (Y.old ma c7.symm) (fun k hk=>Y.old _ (by have:=(S.o.tok k hk).2.1;omega)) (by rw[Y.aL];exact bk _);obtain⟨v0,p,s3,av,s4,s5,a1,a2,a3,a4,a5,a6,a7,a8,a9,f1⟩:=S2.app YS YU tW co.1 rfl (fun n hn=>vi hn (by decide)) (dS l id) id (by omega) Y.mw;rw[b8] at a1;simp only[aN] at a1;simp only[aA] at a3;have f3:=Y.aL;have f2:=S.nx;simp only[go_sem,cM,bK,ai,ay,bG,dw,dG,dU,cy,dD,dC,reduceCtorEq,dY,g8,f0,e9,e3,b7,Nb,Na,a1,a2,a3,a4,a5,ew,bj,bc,aX,aZ,evc];refine ih (d++[id]) _ _ s5 (yI id KB (V (dS l id))) _ _ _ (by rw[U];simp) ⟨a6,?_,fun k k1 k2 k3=>?_,by rw[<-e2];exact S.i.new y,by omega,f1⟩ ⟨?_,?_,?_,?_,?_,?_,?_⟩ ?_ ?_ ?_ ?_ ?_;exact(a7 mb c8 c7).trans e1;rw[a7 k k1 k2,Y.old k k3];exact S.fr k k1 k2 k3
    all_goals simp only[aW,gw,gI,ai,e8,g5,g6,g7,g8,l3,g3,e7,e6,e5,e4,sA]
   all_goals simp only[sN,ai,bG,h7,cV]
   all_goals rfl
def qt(R:List gH):List ae:=R.flatMap fun x=>[x.1.1,x.1.2]
def ahP(R:List gH)(x:gH):qt (R++[x])=qt R++[x.1.1,x.1.2]:=by simp[qt]
def ahO(R:List gH):(qt R).length=2*R.length:=by
 induction R with
 |nil=>rfl
 |cons x R d=>
  show([x.1.1,x.1.2]++qt R).length=_;rw[cD,d];simp only[fh];omega
def afJ(F:No Q 128)(B:No Q 129)(A:No Q 130)(z:No Q 223)(ho:ax 6 Obj.val ov l){ma r:Nat}(c1:n≠ma)(c2:n≠mb)(c3:n<lo)(c4:bx≠ma)(c5:bx≠mb)(c6:bx<lo)(c7:mb≠ma)(c8:mb<lo)(c9:r≠ma)(a4:r≠mb)(a3:r<lo){s0:St}(hM:bJ aa.str s0 n (ig 0 l))(a2:s0.get [] bx=some (.cells [.map mb]))(a7:R.length<=1000)(hR:s0.get [] r=some (.cells (aF (R.map gW))))(hk: ∀x∈R,(∃q,cj x.1.1 l=some q)/\ ∃q,cj x.1.2 l=some q)(hx: ∀e lc s KB K V T,DV l s0 s ma mb lo (qt R) KB K V T->GP e lc ov (.arr 3 r 0 R.length c) n bx ma->C (.exit 0) ⟨e,180,lc⟩ s):
 ∀(h d:List gH) (e:aw) (lc:Ag.Loc) (s:St) (KB:List CK) (K:List Pt) (V:Pt->List ae) (T:Pt->Nat),R=d++h->DV l s0 s ma mb lo (qt d) KB K V T->GP e lc ov (.arr 3 r 0 R.length c) n bx ma->ac e 42= .arr 3 r 0 R.length c->ac e 43=aM R.length->ac e 44=aM d.length->W Q 59 (.loop OW) ⟨e,180,lc⟩ s C:=by
 intro h
 induction h with
 |nil=>
  intro d e lc s KB K V T y S E w u j;have a1:d.length=R.length:=by rw[y];simp
  have Z:d=R:=by rw[y];simp
  rw[Z] at S;refine bq ?_;simp only[go_sem,seval,OW,u,j,a1,cq];refine hx _ _ s KB K V T S ⟨?_,?_,?_,?_,?_,E.l3,E.g3⟩
  all_goals simp only[sN,seval,E.h3,E.h5,E.h6,E.h7,E.h8]
 |cons x h ih=>
  intro d e lc s KB K V T y S E w u j;have a0:d.length<R.length:=by rw[y];simp
  have I:R[d.length]? =some x:=by rw[y];simp
  have Y:s.get [] r=_:=(S.fr r a3 c9 a4).trans hR;have G:=I5 Y I;have U:=dg (n:=d.length) (by omega);have H:=hk x (dB I);obtain⟨h3,h5,h6,h7,h8,l3,g3⟩:=E;simp only[gW] at G;refine bq ?_;simp only[go_sem,seval,OW,w,u,j,a0,G,aP,A0];refine afE F B A z ho (lv:=.arr 3 r 0 R.length c) c1 c2 c3 c4 c5 c6 c7 c8 hM a2 (a:=x.1.1) (b:=x.1.2) (fun id hid=>?_) (x42:=.arr 3 r 0 R.length c) (x43:=aM R.length) (x44:=aM d.length) (D:=qt d) (by rw[ahO];omega) ?_ [x.1.1,x.1.2] [] _ _ s KB K V T rfl (by rw[nD];exact S) ⟨?_,?_,?_,?_,?_,?_,?_⟩ ?_ ?_ ?_ ?_ ?_;simp only[dl,vH,or_false] at hid;rcases hid with rfl|rfl
  exact H.1;exact H.2
  ·intro e2 a6 s2 a5 K2 V2 T2 S2 E2 O N J
   obtain⟨i3,i5,ag,i7,i8,j3,k3⟩:=E2;simp only[go_sem,seval,J,U];refine ih (d++[x]) _ _ s2 a5 K2 V2 T2 (by rw[y];simp) (by rw[ahP];exact S2) ⟨?_,?_,?_,?_,?_,j3,k3⟩ ?_ ?_ ?_
   all_goals simp only[sN,seval,i3,i5,ag,i7,i8,O,N,sA]
  all_goals simp only[aW,gw,gI,ai,h3,h5,h6,h7,h8,l3,g3,w,u,j,cV]
  all_goals rfl
def afO{N:Nat}(hN:N<=1000){s0:St}(hx: ∀e s ov,cP 1 lo s ov ((rG N).map bO)->(∀k,k<lo->s.get [] k=s0.get [] k)->s.gt<=s.aL->lo<=s.aL->ac e 16=ov->ac e 3=ac E0 3->ac e 5=ac E0 5->ac e 6=ac E0 6->ac e 7=ac E0 7->C (.exit 6) ⟨e,180,lc⟩ s):
 ∀(c i:Nat) (e:aw) (s:St) (ov:aa),c+i=N->cP 1 lo s ov ((rG i).map bO)->(∀k,k<lo->s.get [] k=s0.get [] k)->s.gt<=s.aL->lo<=s.aL->ac e 16=ov->ac e 3=ac E0 3->ac e 5=ac E0 5->ac e 6=ac E0 6->ac e 7=ac E0 7->ac e 86=aM N->ac e 87=aM i->W Q 59 (.loop OX) ⟨e,180,lc⟩ s C:=by
 intro c
 induction c with
 |zero=>
  intro i e s ov hc A u h j x S O J I d w;have:i=N:=by omega
  subst this;refine bq ?_;simp only[go_sem,seval,OX,d,w,cq];refine hx _ s ov A u h j ?_ ?_ ?_ ?_ ?_
  all_goals simp only[sN,seval,x,S,O,J,I]
 |succ c ih=>
  intro i e s ov hc A u h j x S O J I d w;have H:i<N:=by omega
  have G:=dg (n:=i) (by omega);have B:=A.ge;obtain⟨F,s1,Z,U,a3,a4,a5,a6,a7⟩:=D2 (t:=26) kT.1 rfl (by decide) (s:=s) (y:=.list 1 [bO i] .GE) (ys:=[bO i]) A (by simp only[fH,em]) (by simp only[fh,bP,WD];omega) j h;have z:=U.ge;have e1:(rG i).map bO++[bO i]=(rG (i+1)).map bO:=by simp[rG,List.range_succ]
  rw[e1] at U;simp only[bO] at Z;refine bq ?_;simp only[go_sem,seval,OX,x,d,w,H,G,B,z,Z,bj,bc,aX,aZ,evc];refine ih (i+1) _ s1 F (by omega) U (fun k Y=>(a6 k Y).trans (u k Y)) a5 (by omega) ?_ ?_ ?_ ?_ ?_ ?_ ?_
  all_goals simp only[sN,seval,S,O,J,I,d]
def wQ(u:ae)(KB:List CK)(ys:List ae):List CK:=ys.foldl (fun KB y=>eC (ey u y) KB) KB
def rQ(ys:List ae)(KB:List CK)(us:List ae):List CK:=us.foldl (fun KB u=>wQ u KB ys) KB
def ZC{u:ae}{k:CK}: ∀ {ys:List ae} {KB:List CK},k∈wQ u KB ys↔k∈KB\/ ∃y∈ys,k=ey u y
 | [],KB=>by simp[wQ]
 |o::os,KB=>by
  show k∈wQ u (eC (ey u o) KB) os↔_;rw[ZC,nf];simp only[dl];constructor;rintro((h|h)|⟨x,hx,h⟩);exact .inr ⟨o,.inl rfl,h⟩;exact .inl h;exact .inr ⟨x,.inr hx,h⟩;rintro(h|⟨x,rfl|hx,h⟩);exact .inl (.inr h);exact .inl (.inl h);exact .inr ⟨x,hx,h⟩
def PQ{u:ae}: ∀ {os:List ae} {KB:List CK},KB.Nodup->(wQ u KB os).Nodup
 | [],_,h=>h
 |o::os,KB,h=>PQ (os:=os) (xN h)
def ZD{ys:List ae}{k:CK}: ∀ {us:List ae} {KB:List CK},k∈rQ ys KB us↔k∈KB\/ ∃u∈us, ∃y∈ys,k=ey u y
 | [],KB=>by simp[rQ]
 |u::us,KB=>by
  show k∈rQ ys (wQ u KB ys) us↔_;rw[ZD,ZC];simp only[dl];constructor;rintro((h|⟨y,d,h⟩)|⟨x,hx,h⟩);exact .inl h;exact .inr ⟨u,.inl rfl,y,d,h⟩;exact .inr ⟨x,.inr hx,h⟩;rintro(h|⟨x,rfl|hx,h⟩);exact .inl (.inl h);exact .inl (.inr h);exact .inr ⟨x,hx,h⟩
def Jk{ys:List ae}: ∀ {us:List ae} {KB:List CK},KB.Nodup->(rQ ys KB us).Nodup
 | [],_,h=>h
 |u::us,KB,h=>Jk (us:=us) (PQ h)
variable{ys:List ae}
def afI(G:No Q 128)(hv:ax 1 aA v ys)(a3:ys.length<=1000000){u:ae}(S:bx≠mb){s0:St}(hb:s0.get [] bx=some (.cells [.map mb]))(hx: ∀e s,dn mb s0 s->bJ iM s mb (jO KE)->(∀t,t≠27->t<155->ac e t=ac E0 t)->C (.exit 12) ⟨e,180,lc⟩ s):
 ∀(h d:List ae) (KB:List CK) (e:aw) (s:St),ys=d++h->KB.Nodup->wQ u KB h=KE->dn mb s0 s->bJ iM s mb (jO KB)->(∀t,t≠27->t<155->ac e t=ac E0 t)->ac E0 7= .func (.func 128) [] [.ptr bx 0]->ac E0 25= .str u->ac E0 153=v->ac E0 154=aM ys.length->ac e 155=aM d.length->W Q 59 (.loop OY) ⟨e,180,lc⟩ s C:=by
 intro h
 induction h with
 |nil=>
  intro d KB e s z N hf J hM B e7 F y w j;have Y:d.length=ys.length:=by rw[z];simp
  have x:=(B 154 (by decide) (by decide)).trans w;refine bq ?_;simp only[go_sem,seval,OY,x,j,Y,cq];refine hx _ _ J (by rw[<-hf];exact hM) fun t z h2=>?_;rw[Jl _ _ _ _ (by simp;omega)];exact B t z h2
 |cons o h ih=>
  intro d KB e s z N hf J hM B e7 F y w j;have U:d.length<ys.length:=by rw[z];simp
  have a1:ys[d.length]? =some o:=by rw[z];simp
  have Z:=fun lc k=>hv.at co.2.2.1 a1 lc k;have O:=dg (n:=d.length) (by omega);have x:=(B 154 (by decide) (by decide)).trans w;have I:=(B 153 (by decide) (by decide)).trans y;have h7:=(B 7 (by decide) (by decide)).trans e7;have a2:=(B 25 (by decide) (by decide)).trans F;have a0:s.get [] bx=_:=(J.old bx S).trans hb;have H:=ZY G a0 hM N u o;refine bq ?_;simp only[go_sem,seval,OY,h7,a2,I,x,j,U,Z,aA];refine ct.of H (by decide) ?_;simp only[go_sem,seval,j,O];refine ih (d++[o]) (eC (ey u o) KB) _ _ (by rw[z];simp) (xN N) hf (Z0 J) Z1 (fun t z h2=>?_) e7 F y w (by simp only[sN,seval,sA]);have A: ∀k,155<=k->(t==k)=false:=fun k hk=>by simp;omega
  have c1:(t==27)=false:=by simpa using z
  simp only[dh,A 155 (by decide),A 156 (by decide),A 157 (by decide),A 158 (by decide),A 159 (by decide),A 160 (by decide),A 161 (by decide),A 162 (by decide),A 163 (by decide),c1];exact B t z h2
def LL(I:No Q 128){us:List ae}{va vb:aa}(Z:ax 1 aA va us)(B:ax 1 aA vb ys)(b6:us.length<=1000000)(a0:ys.length<=1000000){kb:Nat}{p1 p2:ae}(J:bx≠mb)(a5:kb≠mb){s0:St}(hb:s0.get [] bx=some (.cells [.map mb]))(hk:s0.get [] kb=some (.cells [.str p1,.str p2,vb]))(hx: ∀e s,dn mb s0 s->bJ iM s mb (jO KE)->(∀t,t<25->ac e t=ac E0 t)->ac e 103=ac E0 103->C (.exit 10) ⟨e,180,lc⟩ s):
 ∀(h d:List ae) (KB:List CK) (e:aw) (s:St),us=d++h->KB.Nodup->rQ ys KB h=KE->dn mb s0 s->bJ iM s mb (jO KB)->(∀t,t<25->ac e t=ac E0 t)->ac e 103=ac E0 103->ac E0 7= .func (.func 128) [] [.ptr bx 0]->ac E0 22= .ptr kb 0->ac e 146=va->ac e 147=aM us.length->ac e 148=aM d.length->W Q 59 (.loop OZ) ⟨e,180,lc⟩ s C:=by
 intro h
 induction h with
 |nil=>
  intro d KB e s F U hf H hM N j e7 G z x w;have a3:d.length=us.length:=by rw[F];simp
  refine bq ?_;simp only[go_sem,seval,OZ,x,w,a3,cq];refine hx _ _ H (by rw[<-hf];exact hM) (fun t F=>?_) ?_;rw[Jl _ _ _ _ (by simp;omega)];exact N t F;simp only[sN,seval,j]
 |cons o h ih=>
  intro d KB e s F U hf H hM N j e7 G z x w;have a1:d.length<us.length:=by rw[F];simp
  have a8:us[d.length]? =some o:=by rw[F];simp
  have a6:=fun lc k=>Z.at co.2.2.1 a8 lc k;have Y:=dg (n:=d.length) (by omega);have h7:=(N 7 (by decide)).trans e7;have b1:=(N 22 (by decide)).trans G;have a7:s.get [] bx=_:=(H.old bx J).trans hb;have a4:s.get [] kb=_:=(H.old kb a5).trans hk;have a2:=B.lenS co;have S:=B.ge;refine bq ?_;simp only[go_sem,seval,OZ,b1,z,x,w,a1,a6,aA,aP,a4,aQ,a2,S];refine afI I B a0 (u:=o) (bx:=bx) J (s0:=s) a7 (KE:=wQ o KB ys) ?_ ys [] KB _ s rfl U rfl (.refl H.mw) hM (fun _ _ _=>rfl) ?_ ?_ ?_ ?_ ?_;intro e2 s2 b0 a9 y;have O:ac e2 148=aM d.length:=(y 148 (by decide) (by decide)).trans (by simp only[sN,seval,w]);simp only[go_sem,seval,O,Y];refine ih (d++[o]) (wQ o KB ys) _ s2 (by rw[F];simp) (PQ U) hf (H.trans b0) a9 (fun t ht=>?_) ?_ e7 G ?_ ?_ ?_;have A: ∀k,25<=k->(t==k)=false:=fun k hk=>by simp;omega
  simp only[dh,A 164 (by decide),A 148 (by decide)];rw[y t (by omega) (by omega)];simp only[dh,A 155 (by decide),A 154 (by decide),A 153 (by decide),A 152 (by decide),A 25 (by decide),A 151 (by decide),A 150 (by decide),A 149 (by decide)];exact N t ht;simp only[sN,seval];rw[y 103 (by decide) (by decide)];simp only[sN,seval,j];simp only[sN,seval];rw[y 146 (by decide) (by decide)];simp only[sN,seval,z];simp only[sN,seval];rw[y 147 (by decide) (by decide)];simp only[sN,seval,x];simp only[sN,seval,sA]
  all_goals simp only[sN,seval,h7,cV]
  all_goals rfl
def afz(a b:CK):dI ah .eql 196 (.agg [.str a.1,.str a.2]) (.agg [.str b.1,.str b.2])=some (.bool (sU a b)):=by
 have h:dI ah .eql 196 (.agg [.str a.1,.str a.2]) (.agg [.str b.1,.str b.2])=(j1 ah 8 196 (.agg [.str a.1,.str a.2]) (.agg [.str b.1,.str b.2])).bind fun r=>some (.bool r):=by kernel_rfl
 rw[h,Vp];rfl
def acr(mk:aI)(m:Nat)(cs:List aa)(e:aw)(s:St)(h:s.get mk m=some (.cells cs))(u:2<=cs.length):iZ ah mk 196 (.ptr m 0) none none none e s=some (.arr 1 m 0 2 2):=by
 have j:iZ ah mk 196 (.ptr m 0) none none none e s=(s.get mk m).bind fun o=>match o with
  | .cells cs=>bif bn 0 2&&bn 2 2&&true&&bh 0 (2*1)&&bn (0+2*1) cs.length then some (.arr 1 m (0+0*1) (2-0) (2-0)) else none
  |_=>none:=by kernel_rfl
 rw[j,h];have d:bn (0+2*1) cs.length=true:=cE (by omega);simp only[bg,d];rfl
def zX(a b:CK):Bool:=[b.1,b.2].contains a.1|| [b.1,b.2].contains a.2
def kS(a b:CK)(uP:Int):Bool:=sU a b||(an uP 1&&zX a b)
def wz(R:List gH)(x:Mt)(k:CK):Prop:=kS (R.getD x.1.toNat iQ).1 (R.getD x.2.1.toNat iQ).1 x.2.2=false/\ ∃u∈(R.getD x.1.toNat iQ).2.1, ∃y∈(R.getD x.2.1.toNat iQ).2.1,k=ey u y
def aw2:ah.underlying 203=some (.map 207 3):=by kernel_rfl
variable{M:List Mt}
theorem ai6{b:Nat}{p:(Int×Int)×aa}(h:(mX M)[b]? =some p): ∃x,M[b]? =some x/\p=((x.1,x.2.1),ag x.2.2):=by
 grind [mX]
theorem afL(hK: ∀i,1000000<=Q.kmax i)(Z:No Q 128)(a3:No Q 130)(a2:No Q 223){mf r:Nat}(f3:M.length<=1000000)(f2:R.length<=1000)(f0: ∀x∈M,(0<=x.1/\x.1<R.length)/\(0<=x.2.1/\x.2.1<R.length))(e1: ∀x∈R,x.2.1.length<=1000000)(c1:it<lo)(c2:mf<lo)(c3:bx<lo)(c4:mb<lo)(c5:r<lo)(d1:mf≠it)(d2:bx≠it)(d3:mb≠it)(d4:r≠it)(d5:mf≠mb)(d6:bx≠mb)(d7:r≠mb){s0:St}(hM:bJ aN s0 mf (mX M))(e9:s0.get [] bx=some (.cells [.map mb]))(hR:s0.get [] r=some (.cells (aF (R.map gW)))){KB0:List CK}(hx: ∀e lc s KB,(∀k,k∈KB↔k∈KB0\/ ∃x∈M,wz R x k)->KB.Nodup->bJ iM s mb (jO KB)->(∀k,k<lo->k≠it->k≠mb->s.get [] k=s0.get [] k)->s0.aL<=s.aL->s.gt<=s.aL->ac e 6=ac E0 6->C (.exit 8) ⟨e,180,lc⟩ s):
 ∀(cc:Nat) (seen:List Nat) (e:aw) (lc:Ag.Loc) (s:St) (KB:List CK),cc+seen.length=M.length->iK aN s it mf (mX M) seen->(∀k,k∈KB↔k∈KB0\/ ∃b∈seen, ∃x,M[b]? =some x/\wz R x k)->KB.Nodup->bJ iM s mb (jO KB)->(∀k,k<lo->k≠it->k≠mb->s.get [] k=s0.get [] k)->s0.aL<=s.aL->lo<=s.aL->s.gt<=s.aL->
  ac e 6=ac E0 6->ac e 5= .arr 3 r 0 R.length c->ac e 7= .func (.func 128) [] [.ptr bx 0]->ac e 103= .ptr it 0->W Q 59 (.loop IU) ⟨e,180,lc⟩ s C:=by
 have f1:(mX M).length=M.length:=bP ..;intro cc
 induction cc with
 |zero=>
  intro seen e lc s KB hc I e3 Y hB a1 b8 e8 b6 h6 h5 h7 j;rcases I.aL Q.ch Q.kmax (fun i=>by have:=hK i;omega) with⟨hp,hn⟩|⟨b,p,s1,hb,hnm,hlt,_⟩
  refine bq ?_;simp only[go_sem,seval,IU,j,ye,hn,ew,bj,bc,aX,aZ,evc];refine hx _ _ s KB (fun k=>?_) Y hB a1 b8 b6 (by simp only[sN,seval,h6]);rw[e3];refine or_congr Iff.rfl ⟨?_,?_⟩
  grind
  rintro⟨x,N,h2⟩;obtain⟨b,hb,rfl⟩:=GB N;exact⟨b,hp.mem_iff.2 (List.mem_range.2 (by omega)),M[b],fE hb,h2⟩;omega
 |succ cc ih=>
  intro seen e lc s KB hc I e3 Y hB a1 b8 e8 b6 h6 h5 h7 j;rcases I.aL Q.ch Q.kmax (fun i=>by have:=hK i;omega) with⟨hp,hn⟩|⟨b,p,s1,hb,hnm,hlt,hn,ho,hi,hn1,hm1⟩
  have:=hp.length_eq;rw[DM] at this;omega
  ·obtain⟨x,e7,rfl⟩:=ai6 hb
   have I1:=I.go d1 hb hnm ho hi;have d0:=iK.entry hi I1.hm hb;have S:s1.gt<=s1.aL:=by rw[hm1,hn1];exact cR s it none b6
   obtain⟨⟨b1,b2⟩,b3,b4⟩:=f0 x (dB e7);have c9:x.1.toNat<R.length:=by omega
   have c8:x.2.1.toNat<R.length:=by omega
   obtain⟨u,b0⟩: ∃u,R[x.1.toNat]? =some u:=⟨_,fE c9⟩;obtain⟨d,a9⟩: ∃d,R[x.2.1.toNat]? =some d:=⟨_,fE c8⟩;have ga:R.getD x.1.toNat iQ=u:=by rw[kU,b0];rfl
   have gb:R.getD x.2.1.toNat iQ=d:=by rw[kU,a9];rfl
   have n1:dr (ag x.1)=some x.1.toNat:=by
    conv=>lhs;rw[<-Kr b1]
    exact pE _ _
   have n2:dr (ag x.2.1)=some x.2.1.toNat:=by
    conv=>lhs;rw[<-Kr b3]
    exact pE _ _
   have e0:s1.get [] r=_:=((ho r d4).trans (a1 r c5 d4 d7)).trans hR;have la:=I5 e0 b0;have lb:=I5 e0 a9;have m0:dr (ag 0)=some 0:=rfl;have m1:dr (ag 1)=some 1:=rfl;simp only[gW] at la lb;simp only[aN] at hn d0;have c7:=m8 S;have c6:=ap4 S (.cells [.str [],.str [],.AL]);have a4:(s1.new (.cells [.str [],.str [],.AL])).gt<=(s1.new (.cells [.str [],.str [],.AL])).aL:=bU S;have c0:=m8 a4;obtain⟨z,hz⟩:=bZ ((s1.new (.cells [.str [],.str [],.AL])).Gt ((s1.new (.cells [.str [],.str [],.AL])).top.put s1.aL (some (.cells [.str d.1.1,.str d.1.2,.list 1 (d.2.1.map aA) (.own d.2.2)]))));have zn:z.aL=s1.aL+1:=by rw[<-hz];rfl
   have F:z.gt<=z.aL:=by rw[<-hz];exact pB a4 (bk _)
   have zg: ∀k,k≠s1.aL->z.get [] k=(s1.new (.cells [.str [],.str [],.AL])).get [] k:=fun k hk=>by rw[<-hz,lL,aR,bN.2 hk];rfl
   have zo: ∀k,k<s1.aL->z.get [] k=s1.get [] k:=fun k hk=>(zg k (by omega)).trans (ck hk);have O:z.get [] s1.aL=some (.cells [.str d.1.1,.str d.1.2,.list 1 (d.2.1.map aA) (.own d.2.2)]):=by rw[<-hz,lL,aR,bS];rfl
   have H: ∀e,iZ ah [] 196 (.ptr s1.aL 0) none none none e z.top=some (.arr 1 s1.aL 0 2 2):=fun e=>acr _ _ _ _ _ (show z.top.get [] s1.aL=_ from O) (by simp);have fin: ∀(e':aw) (a8:Ag.Loc) (s':St) (KB':List CK),(∀k,k∈KB'↔k∈KB\/wz R x k)->KB'.Nodup->bJ iM s' mb (jO KB')->(∀k,k<s1.aL->k≠mb->s'.get [] k=s1.get [] k)->s'.aL=s1.aL+1->s'.gt<=s'.aL->ac e' 6=ac E0 6->ac e' 5= .arr 3 r 0 R.length c->ac e' 7= .func (.func 128) [] [.ptr bx 0]->ac e' 103= .ptr it 0->W Q 59 (.loop IU) ⟨e',180,a8⟩ s' C:=by
    intro e' a8 s' KB' k1 k2 k3 k4 k5 k6 k7 k8 k9 e6;refine ih (seen++[b]) e' a8 s' KB' (by grind) ⟨(k4 it (by omega) d3.symm).trans I1.hi,(k4 mf (by omega) d5).trans I1.hm,I1.nd,I1.lt⟩ (fun k=>?_) k2 k3 (fun k q1 q2 q3=>?_) (by omega) (by omega) k6 k7 k8 k9 e6
    grind
    grind
   have zB:bJ iM z mb (jO KB):=((zo mb (by omega)).trans (ho mb d3)).trans hB;have a5:z.get [] bx=some (.cells [.map mb]):=(((zo bx (by omega)).trans (ho bx d2)).trans (a1 bx c3 d2 d6)).trans e9;have U: ∀(i:Nat) (y:ae),([d.1.1,d.1.2]:List ae)[i]? =some y->([aa.str d.1.1,aa.str d.1.2,.list 1 (d.2.1.map aA) (.own d.2.2)]:List aa)[0+i]? =some (.str y):=fun i y hy=>by
    match i,hy with
    |0,hy=>grind
    |1,hy=>grind
   have b7:z.top.get [] s1.aL=_:=O;have e5:=Vb a2 a3 (cap:=2) (off:=0) (len:=2) b7 rfl U (by simp) u.1.1;have e4:=Vb a2 a3 (cap:=2) (off:=0) (len:=2) b7 rfl U (by simp) u.1.2;have J:=afz u.1 d.1;have a7:ax 1 aA (.list 1 (u.2.1.map aA) (.own u.2.2)) u.2.1:=.inr ⟨_,rfl⟩;have a6:ax 1 aA (.list 1 (d.2.1.map aA) (.own d.2.2)) d.2.1:=.inr ⟨_,rfl⟩;have o1:=e1 u (dB b0);have o2:=e1 d (dB a9);have skip:kS u.1 d.1 x.2.2=true-> ∀k,k∈KB↔k∈KB\/wz R x k:=fun h k=>by
    unfold wz;rw[ga,gb,h];simp
   have G:kS u.1 d.1 x.2.2=false-> ∀k,k∈rQ d.2.1 KB u.2.1↔k∈KB\/wz R x k:=fun h k=>by
    unfold wz;rw[ga,gb,h,ZD];simp
   refine lz ?_;simp only[go_sem,seval,IU,j,ye,hn,Ev,d0,ew,bj,bc,aX,aZ,evc];refine gK S ?_;simp only[go_sem,tu,tx,seval,h5,m0,m1,n1,n2,c9,c8,la,lb,aP,A0,cO,cG,cS,c7,c6,c0,hz];refine gK F ?_;simp only[go_sem,tu,tx,seval,m0,m1,O,aP,aQ,H,hG];refine jY.calm F e5 (by decide) (by simp[eh,mL]) ?_;cases hc1:([d.1.1,d.1.2]:List ae).contains u.1.1 with
   |true=>
    cases heq:sU u.1 d.1 with
    |true=>
     simp only[go_sem,tu,tx,seval,J,heq,O,aP,aQ,H,co,bP];refine fin _ _ z KB (skip (by unfold kS;rw[heq];rfl)) Y zB (fun k N _=>zo k N) zn F ?_ ?_ ?_ ?_
     all_goals simp only[sN,seval,h6,h5,h7,j]
    |false=>
     cases hkd:an x.2.2 1 with
     |true=>
      simp only[go_sem,tu,tx,seval,J,heq,hkd,O,aP,aQ,H,co,bP];refine fin _ _ z KB (skip (by unfold kS zX;rw[heq,hkd,hc1];rfl)) Y zB (fun k N _=>zo k N) zn F ?_ ?_ ?_ ?_
      all_goals simp only[sN,seval,h6,h5,h7,j]
     |false=>
      simp only[go_sem,tu,tx,seval,J,heq,hkd,O,aP,aQ,H,co,bP];refine LL Z a7 a6 o1 o2 (bx:=bx) (mb:=mb) (kb:=s1.aL) d6 (by omega) (s0:=z) a5 O (KE:=rQ d.2.1 KB u.2.1) ?_ u.2.1 [] KB _ z rfl Y rfl (.refl F) zB (fun _ _=>rfl) rfl ?_ ?_ ?_ ?_ ?_;intro e2 s2 B a0 w A;simp only[go_sem,seval];refine fin _ _ s2 (rQ d.2.1 KB u.2.1) (G (by unfold kS;rw[heq,hkd];rfl)) (Jk Y) a0 (fun k N h2=>(B.old k h2).trans (zo k N)) (by rw[B.aL,zn]) B.mw ?_ ?_ ?_ ?_;rw[w 6 (by decide)];simp only[sN,seval,h6];rw[w 5 (by decide)];simp only[sN,seval,h5];rw[w 7 (by decide)];simp only[sN,seval,h7];rw[A];simp only[sN,seval,j]
      all_goals simp only[sN,seval,h7,cV,bP]
      all_goals rfl
   |false=>
    simp only[go_sem,tu,tx,seval,m0,m1,O,aP,aQ,H,hG];refine jY.calm F e4 (by decide) (by simp[eh,mL]) ?_;cases heq:sU u.1 d.1 with
    |true=>
     simp only[go_sem,tu,tx,seval,J,heq,O,aP,aQ,H,co,bP];refine fin _ _ z KB (skip (by unfold kS;rw[heq];rfl)) Y zB (fun k N _=>zo k N) zn F ?_ ?_ ?_ ?_
     all_goals simp only[sN,seval,h6,h5,h7,j]
    |false=>
     cases hkd:an x.2.2 1 with
     |true=>
      cases hc2:([d.1.1,d.1.2]:List ae).contains u.1.2 with
      |true=>
       simp only[go_sem,tu,tx,seval,J,heq,hkd,O,aP,aQ,H,co,bP];refine fin _ _ z KB (skip (by unfold kS zX;rw[heq,hkd,hc1,hc2];rfl)) Y zB (fun k N _=>zo k N) zn F ?_ ?_ ?_ ?_
       all_goals simp only[sN,seval,h6,h5,h7,j]
      |false=>
       simp only[go_sem,tu,tx,seval,J,heq,hkd,O,aP,aQ,H,co,bP];refine LL Z a7 a6 o1 o2 (bx:=bx) (mb:=mb) (kb:=s1.aL) d6 (by omega) (s0:=z) a5 O (KE:=rQ d.2.1 KB u.2.1) ?_ u.2.1 [] KB _ z rfl Y rfl (.refl F) zB (fun _ _=>rfl) rfl ?_ ?_ ?_ ?_ ?_;intro e2 s2 B a0 w A;simp only[go_sem,seval];refine fin _ _ s2 (rQ d.2.1 KB u.2.1) (G (by unfold kS zX;rw[heq,hkd,hc1,hc2];rfl)) (Jk Y) a0 (fun k N h2=>(B.old k h2).trans (zo k N)) (by rw[B.aL,zn]) B.mw ?_ ?_ ?_ ?_;rw[w 6 (by decide)];simp only[sN,seval,h6];rw[w 5 (by decide)];simp only[sN,seval,h5];rw[w 7 (by decide)];simp only[sN,seval,h7];rw[A];simp only[sN,seval,j]
       all_goals simp only[sN,seval,h7,cV,bP]
       all_goals rfl
     |false=>
      simp only[go_sem,tu,tx,seval,J,heq,hkd,O,aP,aQ,H,co,bP];refine LL Z a7 a6 o1 o2 (bx:=bx) (mb:=mb) (kb:=s1.aL) d6 (by omega) (s0:=z) a5 O (KE:=rQ d.2.1 KB u.2.1) ?_ u.2.1 [] KB _ z rfl Y rfl (.refl F) zB (fun _ _=>rfl) rfl ?_ ?_ ?_ ?_ ?_;intro e2 s2 B a0 w A;simp only[go_sem,seval];refine fin _ _ s2 (rQ d.2.1 KB u.2.1) (G (by unfold kS;rw[heq,hkd];rfl)) (Jk Y) a0 (fun k N h2=>(B.old k h2).trans (zo k N)) (by rw[B.aL,zn]) B.mw ?_ ?_ ?_ ?_;rw[w 6 (by decide)];simp only[sN,seval,h6];rw[w 5 (by decide)];simp only[sN,seval,h5];rw[w 7 (by decide)];simp only[sN,seval,h7];rw[A];simp only[sN,seval,j]
      all_goals simp only[sN,seval,h7,cV,bP]
      all_goals rfl
def De(k:CK):ae:=bif k.1==k.2 then [] else k.2
def jy(k:CK):Nat:=bif k.1==k.2 then 1 else 2
abbrev ju:=CK×Nat
def gU(x:ju):aa:=.agg [.str [],ag 2,.arr 1 x.2 0 (jy x.1) 2]
def zV(k:CK):List aa:=[.str k.1,.str (De k)]
def aw1:ah.underlying 195=some (.map 196 4):=by kernel_rfl
structure KQ (lo:Nat) (s:St) (ov:aa) (acc:List ju):Prop where
 row:ku 3 s ov (acc.map gU)
 ids: ∀x∈acc,s.get [] x.2=some (.cells (zV x.1))/\lo<=x.2/\x.2<s.aL/\jD ov≠some x.2
 rlo: ∀r,jD ov=some r->lo<=r
def RL{R:List ju}: ∀v∈R.map gU,v.cells.length=3:=fun v d=>by
 obtain⟨x,_,rfl⟩:=cx.1 d;rfl
def afS(hK: ∀i,1000000<=Q.kmax i)(O:No Q 133)(b6:KB.length<1000000)(c1:it<lo)(c2:mb<lo)(d1:mb≠it)(H: ∀e lc s ov (d:List ju),(d.map (·.1)).Perm KB->KQ lo s ov d->s.gt<=s.aL->ac e 28=ov->C (.exit 14) ⟨e,180,lc⟩ s):
 ∀(cc:Nat) (seen:List Nat) (e:aw) (lc:Ag.Loc) (s:St) (ov:aa) (d:List ju),cc+seen.length=KB.length->iK iM s it mb (jO KB) seen->d.map (·.1)=seen.map (fun b=>KB.getD b ([],[]))->KQ lo s ov d->lo<=s.aL->s.gt<=s.aL->ac e 28=ov->ac e 166= .ptr it 0->W Q 59 (.loop O0) ⟨e,180,lc⟩ s C:=by
 have b0:(jO KB).length=KB.length:=tT _ _;intro cc
 induction cc with
 |zero=>
  intro seen e lc s ov d hc I A w a9 J B h;rcases I.aL Q.ch Q.kmax (fun i=>by have:=hK i;omega) with⟨hp,hn⟩|⟨b,p,s1,u,hnm,hlt,_⟩
  refine bq ?_;simp only[go_sem,seval,O0,h,ye,hn,ew,bj,bc,aX,aZ,evc];refine H _ _ s ov d ?_ w J (by simp only[sN,seval,B]);rw[A];rw[b0] at hp;refine(hp.map _).trans ?_;have:(gV KB.length).map (fun b=>KB.getD b ([],[]))=KB:=by
   refine Gw (by simp) fun i h1 h2=>?_;simp[kU,h2]
  rw[this];omega
 |succ cc ih=>
  intro seen e lc s ov d hc I A w a9 J B h;rcases I.aL Q.ch Q.kmax (fun i=>by have:=hK i;omega) with⟨hp,hn⟩|⟨b,p,s1,u,hnm,hlt,hn,ho,hi,hn1,hm1⟩
  have:=hp.length_eq;rw[DM] at this;omega
  ·have a0:b<KB.length:=by
    have:=(nF.1 u).1;omega
   obtain⟨k,hk⟩:=bZ (KB[b]);have a8:p=(k,.bool true):=by
    have:(jO KB)[b]? =some (KB[b],.bool true):=by
     unfold jO gc;rw[iw,fE a0];rfl
    rw[this] at u;rw[<-hk];exact(sI u).symm
   subst a8;have I1:=I.go d1 u hnm ho hi;have Z:=iK.entry hi I1.hm u;have Y:s1.gt<=s1.aL:=by rw[hm1,hn1];exact cR s it none J
   have S:=w.row.ge;obtain⟨z,U⟩:=bZ ((s1.new (.cells [.str [],.str []])).put s1.aL (some (.cells [.str k.1,.str k.2])));have zn:z.aL=s1.aL+1:=by rw[<-U];rfl
   have G:z.gt<=z.aL:=by rw[<-U];exact cR _ _ _ (bU Y)
   have zk:z.get [] s1.aL=some (.cells [.str k.1,.str k.2]):=by rw[<-U,aR,bS];rfl
   have zo: ∀j,j<s1.aL->z.get [] j=s1.get [] j:=fun j hj=>by rw[<-U,aR,bN.2 (by omega:j≠s1.aL),cF,ck hj]
   have a7: ∀e,iZ ah [] 196 (.ptr s1.aL 0) none none none e z=some (.arr 1 s1.aL 0 2 2):=fun e=>acr _ _ _ _ _ zk (by simp);have N: ∃v y,aq Q 133 [.arr 1 s1.aL 0 2 2] z v y/\(v= .arr 1 s1.aL 0 (jy k) 2/\y.get [] s1.aL=some (.cells (zV k))/\(∀j,j≠s1.aL->y.get [] j=z.get [] j)/\y.aL=z.aL/\y.gt<=y.aL):=by
    obtain⟨v,y,F,⟨e1,rfl,rfl⟩|⟨e1,rfl,rfl⟩⟩:=ahn O zk G;have u:(k.1==k.2)=true:=by simpa using e1
    refine⟨_,_,F,by unfold jy;rw[u];rfl,?_,fun j hj=>by rw[aR,bN.2 hj];rfl,rfl,cR z _ _ G⟩;rw[aR,bS];unfold zV De;rw[u];rfl;have u:(k.1==k.2)=false:=by simpa using e1
    refine⟨_,_,F,by unfold jy;rw[u];rfl,?_,fun _ _=>rfl,rfl,G⟩;rw[zk];unfold zV De;rw[u];rfl
   simp only[iM] at hn Z;refine bq ?_;simp only[go_sem,seval,O0,B,h,S,ye,hn,Ev,Z,ew,aP,cO,cG,cS,U,a7,bj,bc,aX,aZ,evc];refine ct.ex N (by decide) ?_;rintro v y ⟨rfl,y1,y2,y3,y4⟩;have b1:ku 3 y ov (d.map gU):=w.row.mono (fun r F=>by
    have h1:=w.row.lt r F;have h2:=w.rlo r F;rw[y2 r (by omega),zo r (by omega),ho r (by omega)]) (by omega)
   obtain⟨s3,a1,a2,a3,a4,a5,a6⟩:=Li (t:=35) jn.1 rfl (by decide) (gU (k,s1.aL)) RL (by
    have h1:=congrArg List.length A;simp only[bP] at h1 ⊢;omega) y4 b1
   simp only[gU] at a1;simp only[go_sem,seval,B,S,hG,Uy,ew,a1,bj,bc,aX,aZ,evc];refine ih (seen++[b]) _ _ s3 _ (d++[(k,s1.aL)]) (by rw[cD];simp only[fh];omega) ⟨?_,?_,I1.nd,I1.lt⟩ ?_ ⟨by rw[eE];exact a2,fun x H=>?_,fun r F=>?_⟩ (by omega) a5 ?_ ?_;rw[a6 it (by omega) (fun e=>by have:=w.rlo it e;omega),y2 it (by omega),zo it (by omega)];exact I1.hi;have:s3.get [] mb=s1.get [] mb:=by rw[a6 mb (by omega) (fun e=>by have:=w.rlo mb e;omega),y2 mb (by omega),zo mb (by omega)]
   exact this.trans I1.hm;rw[eE,eE,A];simp[kU,a0,hk];rcases jb.1 H with H|H
   obtain⟨i1,i2,i3,i4⟩:=w.ids x H;refine⟨?_,i2,by omega,fun e=>by injection e with e;omega⟩;rw[a6 x.2 (by omega) i4,y2 x.2 (by omega),zo x.2 (by omega),ho x.2 (by omega)];exact i1;rw[qX.1 H];refine⟨?_,by show lo<=s1.aL;omega,by show s1.aL<s3.aL;omega,fun e=>by injection e with e;omega⟩;rw[a6 s1.aL (by omega) (fun e=>by have:=w.row.lt _ e;omega)];exact y1;injection F with F
   omega
   all_goals simp only[sN,seval,h,bP]
open Go.Sort (SWO)
theorem Mc: ∀ {a b c:List ae},eO a b<0->eO b c<0->eO a c<0
 | [],[],_,h1,_=>by simp[eO] at h1
 |_::_,[],_,h1,_=>by simp[eO] at h1
 | [],_::_,[],_,h2=>by simp[eO] at h2
 | [],_::_,_::_,_,_=>by simp[eO]
 |_::_,_::_,[],_,h2=>by simp[eO] at h2
 |a::x,b::y,c::z,h1,h2=>by
  simp only[eO,Hc] at*;by_cases p:db a b=0
  have:=uy p;subst this;have e:an (db a a) 0=true:=by rw[p];rfl
  rw[e] at h1;cases q:an (db a c) 0 with
  |true=>rw[q] at h2;exact Mc h1 h2
  |false=>rw[q] at h2;exact h2
  have e:an (db a b) 0=false:=by simp[an,p]
  rw[e] at h1;by_cases q:db b c=0
  grind [uy]
  have d:an (db b c) 0=false:=by simp[an,q]
  rw[d] at h2;have h:=Ed h1 h2
  grind [an]
def ahj(a:List ae):eO a a=0:=by have:=BP a a;omega
theorem acR:SWO (ltOf eO) where
 irrefl x:=by simp[ltOf,ahj]
 trans x y z h1 h2:=by
  grind [ltOf,Mc]
 ntrans x y z h1 h2:=by
  grind [ltOf,Md,BP,Mc]
theorem ade{x y:List ae}(e:ltOf eO x y=false)(d:ltOf eO y x=false):x=y:=by
 grind [ltOf,BP,Md]
def mM(x:ju):aa:=.agg [.str [],ag 2,.list 1 ((iI x.1).map aA) .no]
def vj(x:Nat×Nat):aa:=.agg [.str [],ag 2,.arr 1 x.1 0 x.2 2]
def vZ:List (Nat×Nat)->(List ju->Rd)->Rd
 | [],k=>k []
 |x::l,k=>.ask x.1 fun o=>match o with
  | .cells [.str a,.str b]=>bif x.2==1 then vZ l fun r=>k (((a,a),x.1)::r) else bif x.2==2&& !(a==b) then vZ l fun r=>k (((a,b),x.1)::r) else .ret none
  |_=>.ret none
def EA(g:Nat->Option aJ)(x:ju):Prop:= ∃b,g x.2=some (.cells [.str x.1.1,.str b])/\(jy x.1=1\/(jy x.1=2/\b=x.1.2))
theorem Lw{g:Nat->Option aJ}{u:aa}: ∀ {l:List (Nat×Nat)} {K:List ju->Rd},fC g (vZ l K)=some u-> ∃L,L.map (fun x=>(x.2,jy x.1))=l/\(∀x∈L,EA g x)/\fC g (K L)=some u
 | [],K,h=>⟨[],rfl,fun _ h=>(by cases h),h⟩
 |x::l,K,h=>by
  have h:(g x.1).bind (fun o=>fC g (match o with
   | .cells [.str a,.str b]=>bif x.2==1 then vZ l fun r=>K (((a,a),x.1)::r) else bif x.2==2&& !(a==b) then vZ l fun r=>K (((a,b),x.1)::r) else .ret none
   |_=>.ret none))=some u:=h
  simp only[aj] at h;obtain⟨o,z,h⟩:=h;split at h;rename_i a b;cases e1:x.2==1 with
  |true=>
   rw[e1] at h;obtain⟨L,A,j,e⟩:=Lw h;have w:jy (a,a)=1:=by unfold jy;simp
   refine⟨((a,a),x.1)::L,?_,fun y d=>?_,e⟩
   grind
   rcases dl.1 d with rfl|d
   exact⟨b,z,.inl w⟩;exact j y d
  |false=>
   rw[e1] at h;simp only[cF] at h;cases e2:(x.2==2&& !(a==b)) with
   |true=>
    rw[e2] at h;simp only[bm,mQ] at e2;obtain⟨L,A,j,e⟩:=Lw h;have w:jy (a,b)=2:=by unfold jy;rw[e2.2];rfl
    refine⟨((a,b),x.1)::L,?_,fun y d=>?_,e⟩
    grind
    rcases dl.1 d with rfl|d
    exact⟨b,z,.inr ⟨w,rfl⟩⟩;exact j y d
   |false=>rw[e2] at h;cases h
  cases h
theorem TR{g:Nat->Option aJ}: ∀ {L:List ju} {K:List ju->Rd},(∀x∈L,g x.2=some (.cells (zV x.1)))->fC g (vZ (L.map fun x=>(x.2,jy x.1)) K)=fC g (K L)
 | [],K,_=>rfl
 |x::L,K,h=>by
  have j:=h x gF;have e:=fun K=>TR (K:=K) fun y d=>h y (fW _ d);obtain⟨⟨a,b⟩,n⟩:=x;show(g n).bind _=_
  grind [zV,De,jy]
def adr{h:aC aJ}{x:ju}(j:EA h.get x):gm h (gU x) (mM x):=by
 obtain⟨b,w,d⟩:=j;refine⟨3,?_⟩;have e:cC h 2 (.arr 1 x.2 0 (jy x.1) 2)=some (.list 1 ((iI x.1).map aA) .no):=by
  show(match h.get x.2 with
   |some (.cells cs)=>(cut cs 0 (jy x.1*1)).bind fun c=>(dq (cC h 1) c).bind fun y=>(aZ (!aK 1 1) 1 (jy x.1) y).bind fun xs=>some (aa.list 1 xs .no)
   |_=>none)=_
  rw[w];obtain⟨⟨p,q⟩,n⟩:=x;unfold iI;simp only[jy] at d ⊢;cases e:p==q with
  |true=>rfl
  |false=>
   rw[e] at d;have u:b=q:=by
    rcases d with d|d
    cases d;exact d.2
   subst u;rfl
 show(dq (cC h 2) [.str [],ag 2,.arr 1 x.2 0 (jy x.1) 2]).bind (fun r=>some (aa.agg r))=_;simp only[dq,e,bg];rfl
def Aj:aa->Option (List ae)
 | .agg [.str _,.int .i64 _,w]=>bif bH w then ek 1 iL w else none
 |_=>none
def U9:Sp
 | [u,v]=>(Aj u).bind fun a=>(Aj v).bind fun b=>bif pures [u,v]&&bh a.length small then some (bO (eO a b)) else none
 |_=>none
variable{l:List ae}
theorem Wz(h:Aj v=some l): ∃a i w,v= .agg [.str a,ag i,w]/\ax 1 aA w l/\bH w=true:=by
 unfold Aj at h
 grind [jN,pf]
def al3(x:ju):Aj (mM x)=some (iI x.1):=by
 have d:bH (.list 1 ((iI x.1).map aA) .no)=true:=by simp only[bH,vf tS,bW]
 show(bif bH (.list 1 ((iI x.1).map aA) .no) then hJ iL ((iI x.1).map aA) else none)=_;rw[d,yH pg];rfl
def axC(x:ju):bH (mM x)=true:=by simp only[mM,bH,pures,vf tS,bW,mP]
def ag0(e:No Q 135)(d:Q.spec 136=some Du){w w':aa}{r:List ae}(u:ax 1 aA w l)(h:ax 1 aA w' r)(y:bH w=true)(x:bH w'=true)(z:l.length<small)(a b:ae)(i j:Int)(s:St):aq Q 135 [.agg [.str a,ag i,w],.agg [.str b,ag j,w']] s (bO (eO l r)) s:=by
 have q:=awd u h y x z;have B:=u.ge;have A:=h.ge;refine aq.ofNZ amU (bT ?_);simp only[go_sem,seval,d,q,B,A,bO]
def aeN:dp:=[(136,Du)]
def aeO:du aeN:=.cons awe .nil
def ahl:cQ ah 135 U9:=by
 refine Gg aeO (W:=[]) .nil fun e u h=>?_;unfold U9 at h;split at h;simp only[aj] at h;obtain⟨a,F,b,B,h⟩:=h;obtain⟨d,h⟩:=aY h;simp only[bm] at d;have h:=sI h;subst h;obtain⟨H,i,w,rfl,A,z⟩:=Wz F;obtain⟨G,j,I,rfl,y,x⟩:=Wz B;exact⟨d.1,fun J=>⟨_,_,ag0 ⟨rfl,rfl⟩ rfl A y z x (Nat.le_of_ble_eq_true d.2) _ _ _ _ _,1,rfl⟩⟩;cases h
abbrev dV:ju:=(([],[]),0)
def jQ(a b:ju):Int:=eO (iI a.1) (iI b.1)
noncomputable def AG(l:List ju):Bool:=by classical exact decide (l.length<=1000000/\(l.map fun x=>iI x.1).Nodup)
noncomputable def Lx(m:Nat):Option (List (Nat×Nat))->Rd
 |some l=>bif l.all (fun x=> !(x.1==m)) then vZ l fun L=>tN (bif AG L then some (aF ((jS jQ dV L).map gU)) else none) else .ret none
 |none=>.ret none
noncomputable def Dq:List aa->Option o7
 | [.arr k' m 0 len _,.func (.func g') [] []]=>bif aK k' 3&&aK g' 135 then some (some (m,fun cs=>bif aK cs.length (len*3) then Lx m (uD vj cs) else .ret none)) else none
 | [.AL,.func (.func g') [] []]=>bif aK g' 135 then some none else none
 |_=>none
theorem asx(k:CK):(iI k).length<=2:=by
 grind [iI]
theorem avT:uj 134 Dq:=by
 have L:=Tryz.sortF134;have ef: ∀A w,(callFunc 134 A).run ah w= .ok (.enter 134 A) w:=Go.Proofs.enters_of Tryz.func134 (by kernel_rfl) rfl;have eg: ∀A w,(callFunc 135 A).run ah w= .ok (.enter 135 A) w:=Go.Proofs.enters_of Tryz.func135 (by kernel_rfl) rfl;intro A G h w xs wr hx;refine⟨fun F=>?_,fun n gf cs a2 F hl d=>?_⟩
 ·unfold Dq at F
  split at F
  grind
  ·cases hx with
   |cons p q=>
   cases q with
   |cons q r=>
   cases r;cases p;cases q with
   |func q1 q2=>
   cases q1;cases q2;refine .inr ⟨ef _ _,(AnyF.slices_SortFunc_none L none 0 _ w).mono ?_⟩;rintro e w' ⟨rfl,rfl⟩;exact⟨_,rfl,G,wr,.refl,.tup .nil⟩
  cases F
 ·unfold Dq at F
  split at F
  ·rename_i k' m len I g'
   have hb:=(aY F).1;have Z:=(aY F).2;clear F;simp only[bm] at hb;have O:=jr hb.1;have N:=jr hb.2;subst O;subst N;injection Z with Z;injection Z with Z;injection Z with a4 a3
   subst a4;subst a3;have d:fC h.get (bif aK cs.length (len*3) then Lx m (uD vj cs) else .ret none)=some (.agg a2):=d;cases B:aK cs.length (len*3) with
   |false=>rw[B] at d;cases d
   |true=>
   rw[B] at d;have B:=jr B;simp only[cT] at d;cases hd:uD vj cs with
   |none=>rw[hd] at d;cases d
   |some U=>
   rw[hd] at d;have a1:=Mn hd;have d:fC h.get (bif U.all (fun x=> !(x.1==m)) then vZ U fun L=>tN (bif AG L then some (aF ((jS jQ dV L).map gU)) else none) else .ret none)=some (.agg a2):=d;cases hne:U.all (fun x=> !(x.1==m)) with
   |false=>rw[hne] at d;cases d
   |true=>
   rw[hne] at d;obtain⟨l,h1,a6,d⟩:=Lw d;have d:=FV d;obtain⟨h2,d⟩:=aY d;have d:=(sI d).symm;subst d;have a5:U.map vj=l.map gU:=by rw[<-h1,ll];rfl
   rw[a5] at a1;subst a1;have a9: ∀x∈l,x.2≠m:=fun x hx e=>by
    have:(x.2,jy x.1)∈U:=by rw[<-h1];exact cx.2 ⟨x,hx,rfl⟩
    grind
   have a0: ∀v∈l.map gU,v.cells.length=3/\v= .agg v.cells:=fun v hv=>by
    obtain⟨a,_,rfl⟩:=cx.1 hv;exact⟨rfl,rfl⟩
   have J:l.length=len:=by
    rw[oh (fun v hv=>(a0 v hv).1),bP] at B;omega
   simp only[AG,dE] at h2;cases hx with
   |cons p q=>
   cases q with
   |cons q r=>
   cases r;cases q with
   |func u1 u2=>
   cases u1;cases u2;have H:(l.map gU).length=l.length:=bP ..;have hy: ∀z,VR G (.arr 3 m 0 len I) z->VR G (.arr 3 m 0 (l.map gU).length I) z:=fun z hz=>by rw[H,J];exact hz
   have gen: ∀n (hn:n=l.length),SWO (ltOf fun x y:Fin n=>d8 jQ dV l x y)/\(∀x y:Fin n,(ltOf fun x y:Fin n=>d8 jQ dV l x y) x y=false->(ltOf fun x y:Fin n=>d8 jQ dV l x y) y x=false->x=y):=by
    intro n hn;subst hn;refine⟨Ke acR fun i:Fin l.length=>iI (l.getD i dV).1,fun x y q1 q2=>?_⟩;have h:=ade (x:=iI (l.getD x dV).1) (y:=iI (l.getD y dV).1) q1 q2;rw[B8,B8] at h;exact Fin.ext (Jh h2.2 (i:=x) (j:=y) (x:=l[x]) (y:=l[y]) (by simp) (by simp) h)
   have Y:=fun hO=>Q9 L rfl Tryz.isAgg31 Tryz.sizeOf31 ef eg ahl wr (rows:=l.map gU) (us:=l.map mM) hl a0 (by decide) (by rw[bP,bP]) (fun i v u O N=>by
    rw[iw,ub] at O N;obtain⟨a,g1,rfl⟩:=O;obtain⟨b,S,rfl⟩:=N;rw[g1] at S;injection S with S;subst S
    have a7:=dB g1;obtain⟨b',i1,i2⟩:=a6 a a7;exact adr ⟨b',by grind [aC.get_set],i2⟩) (d8 jQ dV l) (fun i j u u' O N=>by
    rw[iw,ub] at O N;obtain⟨a,g1,rfl⟩:=O;obtain⟨b,S,rfl⟩:=N;have e:d8 jQ dV l i j=jQ a b:=by
     unfold d8;rw[kU,kU,g1,S];rfl
    have a8:=i6;have hb:bh (iI a.1).length small=true:=cE (by have:=asx a.1;omega);rw[e];show((Aj (mM a)).bind fun a'=>(Aj (mM b)).bind fun b'=>bif pures [mM a,mM b]&&bh a'.length small then some (bO (eO a' b')) else none)=_;simp only[dW,al3,pures,axC,bW,hb];rfl) hO (gen _ H).2 (by rw[H];exact h2.1) (hy _ p)
   rw[Re] at Y;exact Y (gen _ H).1
  all_goals grind
end Go.Proofs.YtnnppcoplinajaaGreat
namespace Go.Proofs.YtnnppcoplinajaaGreat
open Go.Ag
open Go.Sort (SWO)
def MY{α β:Type}{f:α->List β}{n:Nat}: ∀ {l:List α},(∀x∈l,(f x).length<=n)->(l.flatMap f).length<=l.length*n
 | [],_=>jW _
 |x::l,h=>by
  have j:=h x gF;have e:=MY (l:=l) fun y d=>h y (fW _ d);rw[Bj,cD,dM,Nat.succ_mul];omega
def ZX{α:Type}[DecidableEq α]: ∀ {K L:List α},K.Nodup->(∀x∈K,x∈L)->K.length<=L.length
 | [],_,_,_=>jW _
 |x::K,L,nd,h=>by
  obtain⟨z,w⟩:=List.nodup_cons.1 nd;have j:=h x gF;have u:=ZX (K:=K) (L:=L.erase x) w fun y d=>(List.mem_erase_of_ne (fun e=>z (by rw[<-e];exact d))).2 (h y (fW _ d));rw[List.length_erase_of_mem j] at u
  have:=List.length_pos_of_mem j;rw[dM];omega
def YR(a b:ae):((ey a b).1=a\/(ey a b).1=b)/\((ey a b).2=a\/(ey a b).2=b):=by
 unfold ey CB Cz;cases Ag.leBytes a b<;>cases eR a b<;>simp
variable{k:CK}{o:Obj}
def QX(h:k∈kh o):k.1∈o.gE/\k.2∈o.gE:=by
 unfold kh at h;obtain⟨p,d,rfl⟩:=cx.1 h;have x:p.1∈o.gE:=(GF d).1;have w:p.2∈o.gE:=by
  rcases jb.1 (GF d).2 with h|h
  exact List.mem_of_mem_tail h;cases hk:an o.uP 3 with
  |true=>rw[hk] at h;exact List.mem_of_mem_take h
  |false=>rw[hk] at h;cases h
 obtain⟨u,j⟩:=YR p.1 p.2;exact⟨by rcases u with e|e<;>rw[e]<;>assumption,by rcases j with e|e<;>rw[e]<;>assumption⟩
variable{l:List Obj}
theorem HK{r:ae}(h:di l r=true): ∃q,cj r l=some q/\q.uP=1:=by
 unfold di mZ at h;cases e:cj r l with
 |none=>rw[e] at h;cases h
 |some q=>rw[e] at h;exact⟨q,rfl,by simpa[an] using h⟩
def aqd(h:k∈fR l o):di l k.1=true/\di l k.2=true:=by
 unfold fR at h;cases e:tD l o with
 |false=>rw[e] at h;cases h
 |true=>
  rw[e] at h;unfold tD at e;simp only[bm,fu] at e;exact⟨e.2 _ (QX h).1,e.2 _ (QX h).2⟩
def Y5(l:List Obj)(o:Obj):(fR l o).length<=o.gE.length:=by
 unfold fR;cases tD l o with
 |false=>exact jW _
 |true=>
  show(kh o).length<=_;unfold kh;rw[bP,List.length_zip];omega
def acm(id:ae): ∀(x:List CK) (d:List CK×(CK->List ae)),(∀k,k∈(x.foldl (fA id) d).1->k∈d.1\/k∈x)/\ ∀k y,y∈(x.foldl (fA id) d).2 k->y∈d.2 k\/(y=id/\k∈x)
 | [],d=>⟨fun _ h=>.inl h,fun _ _ h=>.inl h⟩
 |j::x,d=>by
  obtain⟨A,z⟩:=acm id x (fA id d j);have G: ∀k,k∈(fA id d j).1->k∈d.1\/k=j:=fun k w=>by
   unfold fA at w;cases e:(d.2 j).contains id with
   |true=>rw[e] at w;exact .inl w
   |false=>rw[e] at w;exact(nf.1 w).symm
  have F: ∀k y,y∈(fA id d j).2 k->y∈d.2 k\/(y=id/\k=j):=fun k y u=>by
   unfold fA at u;cases e:(d.2 j).contains id with
   |true=>rw[e] at u;exact .inl u
   |false=>
    rw[e] at u;have u:y∈jT d.2 j (d.2 j++[id]) k:=u;by_cases w:k=j;subst w;rw[oo] at u;rcases jb.1 u with h|h
    exact .inl h;exact .inr ⟨qX.1 h,rfl⟩;rw[jU _ _ w] at u;exact .inl u
  refine⟨fun k w=>?_,fun k y u=>?_⟩;rcases A k w with h|h
  rcases G k h with h|rfl
  exact .inl h;exact .inr gF;exact .inr (fW _ h);rcases z k y u with h|⟨h,B⟩
  rcases F k y h with h|⟨h,e⟩
  exact .inl h;exact .inr ⟨h,by rw[e];exact gF⟩;exact .inr ⟨h,fW _ B⟩
def PT(l:List Obj): ∀(os:List Obj) (d:List CK×(CK->List ae)),(∀k,k∈(os.foldl (fo l) d).1->k∈d.1\/ ∃o∈os,k∈fR l o)/\ ∀k y,y∈(os.foldl (fo l) d).2 k->y∈d.2 k\/ ∃o∈os,y=o.id/\k∈fR l o
 | [],d=>⟨fun _ h=>.inl h,fun _ _ h=>.inl h⟩
 |o::os,d=>by
  obtain⟨x,w⟩:=PT l os (fo l d o);obtain⟨A,z⟩:=acm o.id (fR l o) d;refine⟨fun k u=>?_,fun k y j=>?_⟩;rcases x k u with h|⟨q,e,h⟩
  rcases A k h with h|h
  exact .inl h;exact .inr ⟨o,gF,h⟩;exact .inr ⟨q,fW _ e,h⟩;rcases w k y j with h|⟨q,e,h⟩
  rcases z k y h with h|h
  exact .inl h;exact .inr ⟨o,gF,h⟩;exact .inr ⟨q,fW _ e,h⟩
def aaX(h:k∈(eJ l).1): ∃o∈l,k∈fR l o:=by
 rcases(PT l l ([],fun _=>[])).1 k h with h|h
 cases h;exact h
def P8{y:ae}(h:y∈(eJ l).2 k): ∃o∈l,y=o.id/\k∈fR l o:=by
 rcases(PT l l ([],fun _=>[])).2 k y h with h|h
 cases h;exact h
def Z7(l:List Obj)(k:CK): ∀(os:List Obj) (d:List CK×(CK->List ae)),((os.foldl (fo l) d).2 k).length<=(d.2 k).length+(os.flatMap (fR l)).length
 | [],_=>Nat.le_add_right _ _
 |o::os,d=>by
  have j:=Z7 l k os (fo l d o);have e:=GV o.id k (fR l o) d;have h:((fo l d o).2 k).length<=(d.2 k).length+(fR l o).length:=e;rw[t5,Bj,cD];omega
theorem atE(l:List Obj)(k:CK):((eJ l).2 k).length<=(l.flatMap (fR l)).length:=by
 have:((eJ l).2 k).length<=([]:List ae).length+(l.flatMap (fR l)).length:=Z7 l k l ([],fun _=>[]);rwa [cV,eH] at this
def ara:k∈eU l↔k∈(eJ l).1:=(Dp _).mem_iff
theorem Pb(h:k∈eU l):di l k.1=true/\di l k.2=true:=by
 obtain⟨o,_,h⟩:=aaX (ara.1 h);exact aqd h
def ZV(e:cZ l=true){r:ae}(h:di l r=true):bf (dS l r)=true:=by
 obtain⟨q,j,u⟩:=HK h;unfold cZ at e;simp only[bm] at e;have d:=Jo l [] e.1 q (mB j).1;rw[FT j];unfold fS at d;obtain⟨_,d⟩:=(fun h=>⟨trivial,h⟩:_->True/\_) d;cases e1:nX q with
 |true=>rw[e1] at d;cases d
 |false=>
 rw[e1] at d;cases e2:o9 q.uP [] [] q.gE with
 |true=>rw[e2] at d;cases d
 |false=>
 rw[e2,u] at d;have d:(q.gE.length==0&&qL q.x q.y)=true:=d;simp only[qL,bV,aV,bm,dE] at d;simp only[bf,aV,bm,mQ,decide_eq_false_iff_not];omega
theorem avh(d:cZ l=true)(h:k∈eU l):qI (jm l k)=true:=by
 obtain⟨j,e⟩:=Pb h;simp only[qI,jm,ZV d j,ZV d e,bW]
def zZ(l:List Obj):List CK:=(gr ((eU l).map (jm l))).flatMap fun x=>
 let a:=(eU l).getD x.1.toNat ([],[])
 let b:=(eU l).getD x.2.1.toNat ([],[])
 bif kS a b x.2.2 then [] else((eJ l).2 a).flatMap fun u=>((eJ l).2 b).map fun y=>ey u y
def uE(l:List Obj):List ae:=(eU l).flatMap fun k=>[k.1,k.2]
def Jf(l:List Obj):List CK:=(uE l).flatMap fun x=>((uE l).filter fun y=> !(x==y)&&(an (dS l x).1 (dS l y).1&&an (dS l x).2 (dS l y).2)).map fun y=>ey x y
def ph(l:List Obj):List CK:=(Jf l++zZ l).foldl (fun K k=>eC k K) []
def Tt{k:CK}: ∀ {l K:List CK},k∈l.foldl (fun K k=>eC k K) K↔k∈K\/k∈l
 | [],K=>by simp
 |j::l,K=>by
  rw[t5,Tt,nf,dl];constructor;rintro((h|h)|h);exact .inr (.inl h);exact .inl h;exact .inr (.inr h);rintro(h|h|h);exact .inl (.inr h);exact .inl (.inl h);exact .inr h
def Tu: ∀ {l K:List CK},K.Nodup->(l.foldl (fun K k=>eC k K) K).Nodup
 | [],_,h=>h
 |j::l,K,h=>by
  rw[t5];exact Tu (xN h)
def TT(l:List Obj):(ph l).Nodup:=Tu Bp
def Fu:k∈ph l↔k∈Jf l\/k∈zZ l:=by
 unfold ph;rw[Tt,jb];simp
def Jc:k∈Jf l↔ ∃x y,x∈uE l/\y∈uE l/\x≠y/\dS l x=dS l y/\k=ey x y:=by
 have u: ∀a b:Pt,(an a.1 b.1&&an a.2 b.2)=true↔a=b:=fun a b=>by
  obtain⟨A,z⟩:=a;obtain⟨w,b2⟩:=b;simp[an]
 unfold Jf;simp only[kW,cx,kV,bm,mQ,bN];constructor;rintro⟨x,e,y,⟨d,j,h⟩,rfl⟩;exact⟨x,y,e,d,j,(u _ _).1 (by simp[h]),rfl⟩;rintro⟨x,y,e,d,j,h,rfl⟩
 have:=(u _ _).2 h;simp only[bm] at this;exact⟨x,e,y,⟨d,j,this⟩,rfl⟩
def amo(T:CK->Nat):(∃x∈gr ((eU l).map (jm l)),wz ((eU l).map fun k=>(k,(eJ l).2 k,T k)) x k)↔k∈zZ l:=by
 unfold zZ;rw[kW];refine exists_congr fun x=>and_congr_right fun z=>?_;have d:=Lh z;rw[bP] at d;have w: ∀i:Int,0<=i->i<(eU l).length->((eU l).map fun k=>(k,(eJ l).2 k,T k)).getD i.toNat iQ=((eU l).getD i.toNat ([],[]),(eJ l).2 ((eU l).getD i.toNat ([],[])),T ((eU l).getD i.toNat ([],[]))):=fun i B A=>by
  have:i.toNat<(eU l).length:=by omega
  simp[kU,iw,fE this]
 unfold wz;rw[w x.1 d.1.1 d.1.2,w x.2.1 d.2.1 d.2.2];generalize (eU l).getD x.1.toNat ([],[])=a;generalize (eU l).getD x.2.1.toNat ([],[])=b;show _↔k∈(bif kS a b x.2.2 then [] else((eJ l).2 a).flatMap fun u=>((eJ l).2 b).map fun y=>ey u y);cases kS a b x.2.2 with
 |true=>simp
 |false=>
  simp only[tA,cF,kW,cx];exact⟨fun⟨u,j,y,h,e⟩=>⟨u,j,y,h,e.symm⟩,fun⟨u,j,y,h,e⟩=>⟨u,j,y,h,e.symm⟩⟩
def Vi{x:ae}(h:x∈uE l): ∃q∈l,q.id=x:=by
 unfold uE at h;obtain⟨k,u,d⟩:=kW.1 h;obtain⟨y,w⟩:=Pb u;obtain⟨j,A,_⟩:=HK y;obtain⟨e,z,_⟩:=HK w;simp only[dl,vH,or_false] at d;rcases d with rfl|rfl
 exact⟨j,mB A⟩;exact⟨e,mB z⟩
def afp(h:k∈ph l):k.1∈l.map Obj.id/\k.2∈l.map Obj.id:=by
 have d: ∀ {x y:ae},x∈l.map Obj.id->y∈l.map Obj.id->(ey x y).1∈l.map Obj.id/\(ey x y).2∈l.map Obj.id:=fun {x y} A j=>by
  obtain⟨G,F⟩:=YR x y;exact⟨by rcases G with e|e<;>rw[e]<;>assumption,by rcases F with e|e<;>rw[e]<;>assumption⟩
 rcases Fu.1 h with h|h
 obtain⟨x,y,A,j,_,_,rfl⟩:=Jc.1 h;obtain⟨I,z,rfl⟩:=Vi A;obtain⟨H,w,rfl⟩:=Vi j;exact d (DP z) (DP w);unfold zZ at h;obtain⟨x,_,h⟩:=kW.1 h;cases e:kS ((eU l).getD x.1.toNat ([],[])) ((eU l).getD x.2.1.toNat ([],[])) x.2.2 with
 |true=>simp only[e,cT] at h;cases h
 |false=>
  simp only[e,cF,kW,cx] at h;obtain⟨u,B,y,j,rfl⟩:=h;obtain⟨N,z,rfl,_⟩:=P8 B;obtain⟨J,w,rfl,_⟩:=P8 j;exact d (DP z) (DP w)
def TS(l:List Obj):(ph l).length<=l.length*l.length:=by
 have h:=ZX (L:=(l.map Obj.id).flatMap fun x=>(l.map Obj.id).map fun y=>(x,y)) (TT l) fun k j=>by
  obtain⟨u,d⟩:=afp j;exact kW.2 ⟨k.1,u,cx.2 ⟨k.2,d,rfl⟩⟩
 have d:=MY (f:=fun x=>(l.map Obj.id).map fun y=>(x,y)) (n:=l.length) (l:=l.map Obj.id) fun x _=>by
  rw[bP,bP];exact bk _
 have e:(l.map Obj.id).length=l.length:=bP ..;rw[e] at d;exact eG h d
def aan{a b:CK}(h:iI a=iI b):a=b:=by
 obtain⟨j,e⟩:=a;obtain⟨d,b2⟩:=b;unfold iI at h;cases e1:j==e with
 |true=>
  have:=eq_of_beq e1;subst this;cases e2:d==b2 with
  |true=>
   have:=eq_of_beq e2;subst this;simp at h;simp[h]
  |false=>simp[e2] at h
 |false=>
  cases e2:d==b2 with
  |true=>simp[e1,e2] at h
  |false=>simp[e1,e2] at h;simp[h]
def oY(K:List CK):List CK:=(jS jQ dV (K.map fun k=>(k,0))).map (·.1)
def awo(L:List ju):SWO (ltOf fun x y:Fin L.length=>d8 jQ dV L x y):=Ke acR fun i:Fin L.length=>iI (L.getD i dV).1
variable{K:List CK}
def avU{L:List ju}(h:(L.map (·.1)).Perm K):(jS jQ dV L).map (·.1)=oY K:=by
 have e:((jS jQ dV L).map (·.1)).Perm (oY K):=by
  refine(((vq jQ dV L).map _).trans h).trans ?_;refine(((vq jQ dV (K.map fun k=>(k,0))).map (·.1)).trans ?_).symm;rw[ll];exact .of_eq (List.map_id K)
 have d: ∀L:List ju,((jS jQ dV L).map (·.1)).Pairwise fun a b=> ¬eO (iI b) (iI a)<0:=fun L=>by
  rw[GG];exact J5 jQ dV L (awo L)
 refine e.eq_of_pairwise (fun a b _ _ u j=>?_) (d L) (d _);exact aan (ade (by simp only[ltOf,decide_eq_false_iff_not];exact j) (by simp only[ltOf,decide_eq_false_iff_not];exact u))
def aso{L:List ju}(h:(L.map (·.1)).Perm K)(u:K.Nodup)(w:K.length<=1000000):AG L=true:=by
 simp only[AG,dE];have d:=h.length_eq;rw[bP] at d;refine⟨by omega,?_⟩;have e:(L.map fun x=>iI x.1)=(L.map (·.1)).map iI:=by rw[ll];rfl
 rw[e,(h.map _).nodup_iff];exact u.map _ fun a b j e=>j (aan e)
def arR{α:Type}[DecidableEq α]{K L:List α}(e:K.Nodup)(d:L.Nodup)(h: ∀x,x∈K↔x∈L):K.Perm L:=by
 rw[List.perm_iff_count];intro x;rw[e.count,d.count];simp only[h]
end Go.Proofs.YtnnppcoplinajaaGreat
namespace Go.Proofs.YtnnppcoplinajaaGreat
open Go.Ag
def jt:dp:=[(31,jh),(224,zP)]
def aeg:du jt:=.cons wI (.cons ae8 .nil)
noncomputable def jv:ri:=[(220,J6),(134,Dq)]
def aeC:sQ jv:=.cons avP (.cons avT .nil)
def Bb(l:List Obj):aa:=io 3 ((oY (ph l)).map fun k=>mM (k,0))
theorem VN{g:aa->Option aa}: ∀ {a b c d:List aa},dq g a=some c->dq g b=some d->dq g (a++b)=some (c++d)
 | [],b,c,d,e,h2=>by
   injection e with e;subst e;exact h2
 |x::a,b,c,d,e,h2=>by
  simp only[dq,aj,aH] at e;obtain⟨u,w,r,h,rfl⟩:=e;have j:=VN h h2
  grind [dq]
theorem VP{h:aC aJ}: ∀ {L:List ju},(∀x∈L,EA h.get x)-> ∃m,dq (cC h m) (aF (L.map gU))=some (aF (L.map mM))
 | [],_=>⟨0,rfl⟩
 |x::L,hi=>by
  obtain⟨k,u⟩:=adr (hi x gF);obtain⟨e,z⟩:=M9 u;obtain⟨d,w⟩:=VP (L:=L) fun y j=>hi y (fW _ j);refine⟨max e d,?_⟩
  grind [aF,VN,x9,Es,Nat.le_max_right]
variable{s:St}
theorem ajr{v:aa}{L:List ju}(y: ∀x∈L,EA s.heap.get x)(h:ku 3 s v (L.map gU)):gm s.heap v (io 3 (L.map mM)):=by
 rcases h with⟨rfl,u⟩|⟨j,n,rfl,w,_⟩
 have u:=zy.1 u;subst u;exact⟨1,rfl⟩;obtain⟨m,A⟩:=VP y;refine⟨m+1,?_⟩;have w:s.heap.get n=some (.cells (aF (L.map gU))):=w;have F:cut (aF (L.map gU)) 0 ((L.map gU).length*3)=some (aF (L.map gU)):=by
  have:=oh (k:=3) (fun v d=>RL (R:=L) v d);simp only[cut,mR,iU];rw[qY (by omega),this];simp
 have e:io 3 (L.map mM)= .list 3 (L.map mM) .no:=by
  cases L with
  |nil=>exact absurd rfl j
  |cons x xs=>rfl
 have B:(L.map gU).length=(L.map mM).length:=by rw[bP,bP]
 have z:=L4 (k:=3) (l:=L.map mM) fun v d=>by
  obtain⟨a,_,rfl⟩:=cx.1 d;exact⟨rfl,rfl⟩
 grind [cC,aK]
def ae6{segs:List bI}(h:segs.length<=1000):(gr segs).length<=1000000:=by
 have d:=FP (F:=fM) (ij 0 segs);rw[wA] at d;have:segs.length*segs.length<=1000*1000:=qZ h h;unfold gr;omega
theorem auM{a b:Nat×Nat}(h:(vj a).cells=(vj b).cells):a=b:=by
 grind [vj,lK]
theorem al0{g:Nat->Option aJ}{x:ju}(h:g x.2=some (.cells (zV x.1))):EA g x:=by
 refine⟨De x.1,h,?_⟩
 grind [jy,De]
variable{ov:aa}
def avJ{Q:aD}[Std Q](u:Q.spec 134=none)(j:Q.specW 134=some Dq){lo:Nat}{d:List ju}(F:KQ lo s ov d)(J:AG d=true):
 ∃s',aq Q 134 [ov,.func (.func 135) [] []] s (.tup []) s'/\gm s'.heap ov (io 3 ((jS jQ dV d).map mM)):=by
 have A:=vq jQ dV d;rcases F.row with⟨rfl,y⟩|⟨y,k,rfl,N,B⟩
 have y:=zy.1 y;subst y;refine⟨s,aq.specW0 u (Std.H _) j rfl,?_⟩;rw[List.Perm.eq_nil A];exact⟨1,rfl⟩;have hid:=fun x h=>(F.ids x h).1;have w: ∀x∈d,x.2≠k:=fun x h e=>(F.ids x h).2.2.2 (by rw[e];rfl);have I:(d.map gU).length=d.length:=bP ..;have z:fC (s.get []) (bif aK (aF (d.map gU)).length ((d.map gU).length*3) then Lx k (uD vj (aF (d.map gU))) else .ret none)=some (.agg (aF ((jS jQ dV d).map gU))):=by
  have Z:(aF (d.map gU)).length=(d.map gU).length*3:=oh fun v G=>RL v G;have Y:d.map gU=(d.map fun x=>(x.2,jy x.1)).map vj:=by rw[ll];rfl
  have U:uD vj (aF (d.map gU))=some (d.map fun x=>(x.2,jy x.1)):=by
   rw[Y];exact Hg (k:=3) (fun _=>rfl) (by decide) (fun a b=>auM) _
  rw[Z,iU,bS,cT,U];have S:(d.map fun x=>(x.2,jy x.1)).all (fun x=> !(x.1==k))=true:=by
   rw[fu];intro x h;obtain⟨a,O,rfl⟩:=cx.1 h;simpa using w a O
  show fC (s.get []) (bif(d.map fun x=>(x.2,jy x.1)).all (fun x=> !(x.1==k)) then vZ (d.map fun x=>(x.2,jy x.1)) fun L=>tN (bif AG L then some (aF ((jS jQ dV L).map gU)) else none) else .ret none)=_;rw[S,cT,TR hid,J];rfl
 refine⟨_,aq.specW (n:=k) (cs':=aF ((jS jQ dV d).map gU)) u (Std.H _) j rfl N z,?_⟩;refine ajr (fun x h=>al0 ?_) (.inr ⟨fun e=>?_,k,?_,?_,B⟩);have h:=A.mem_iff.1 h;have:(s.put k (some (.cells (aF ((jS jQ dV d).map gU))))).get [] x.2=s.get [] x.2:=by
  rw[aR,bN.2 (w x h)];rfl
 exact this.trans (hid x h)
 simp_all
 rw[bP,bP,A.length_eq];rw[aR,bS];rfl
variable{l:List Obj}
theorem agI(ch:Nat->Nat)(ho:ax 6 Obj.val ov l)(hg: ∀o∈l,o.Al)(hl:l.length<=900)(hr: ∀o∈l,o.gE.length<=999)(hv:cZ l=true)(j:(eU l).length<=1000)(i5:s.gt<=s.aL):
 ∃v s',aq (QW jt jv ch) 59 [.agg [ov]] s v s'/\gm s'.heap v (Bb l):=by
 have I:Std (QW jt jv ch):=inferInstance;have hK: ∀i,1000000<=(QW jt jv ch).kmax i:=fun _=>bk _;have k2:(QW jt jv ch).spec 31=some jh:=rfl;have g8:(QW jt jv ch).spec 224=some zP:=rfl;have l2:No (QW jt jv ch) 59:=⟨rfl,rfl⟩;have c5:No (QW jt jv ch) 126:=⟨rfl,rfl⟩;have c4:No (QW jt jv ch) 127:=⟨rfl,rfl⟩;have Y:No (QW jt jv ch) 128:=⟨rfl,rfl⟩;have U:No (QW jt jv ch) 129:=⟨rfl,rfl⟩;have B:No (QW jt jv ch) 130:=⟨rfl,rfl⟩;have c3:No (QW jt jv ch) 131:=⟨rfl,rfl⟩;have c2:No (QW jt jv ch) 132:=⟨rfl,rfl⟩;have c1:No (QW jt jv ch) 133:=⟨rfl,rfl⟩;have a6:(QW jt jv ch).spec 134=none:=rfl;have c0:(QW jt jv ch).specW 134=some Dq:=rfl;have h0:(QW jt jv ch).spec 220=none:=rfl;have b6:(QW jt jv ch).specW 220=some J6:=rfl;have A:No (QW jt jv ch) 223:=⟨rfl,rfl⟩;have b7:No (QW jt jv ch) 219:=⟨rfl,rfl⟩;have b0:No (QW jt jv ch) 301:=⟨rfl,rfl⟩;have b1:No (QW jt jv ch) 261:=⟨rfl,rfl⟩;have b8:No (QW jt jv ch) 167:=⟨rfl,rfl⟩;generalize QW jt jv ch=Q at*;have a9:=ho.cs;have l1:(l.flatMap (fR l)).length<=l.length*999:=MY fun o h=>eG (Y5 l o) (hr o h);have m7:l.length*999<=900*999:=Nat.mul_le_mul_right _ hl;have m2:=aaW l;refine aq.ofNRZ apr (bT ?_);simp only[go_sem,seval,a9];have i2:=asb k2 c5 ho hg (by omega) (qA hv) hv i5;refine ct.ex i2 (by decide) ?_;rintro v s1 ⟨rfl,f4,g2⟩;have n1:s1.aL=s.aL+1:=g2.aL;simp only[go_sem,seval,a9,ew,uu,bj,bc,aX,aZ,evc];have i1:=aqf hK c4 h0 b6 B A b7 b0 b1 b8 ho hg (by omega) hr (by omega) (n:=s.aL) f4 (by omega) g2.mw;refine ct.ex i1 (by decide) ?_;rintro v d ⟨⟨r,c,T,rfl,f1,m1⟩,e6,m6,e0,_⟩;obtain⟨R,G⟩:=bZ ((eU l).map (fun k=>(k,(eJ l).2 k,T k)));have j3:(eU l).length=R.length:=by rw[<-G,bP]
 have j4:((eU l).map fun k=>gW (k,(eJ l).2 k,T k))=R.map gW:=by rw[<-G,ll];rfl
 rw[j3] at j ⊢;rw[j4] at f1;have n0: ∀x∈R,di l x.1.1=true/\di l x.1.2=true:=fun x hx=>by
  grind [Pb]
 have f0: ∀x∈R,(∃q,cj x.1.1 l=some q)/\ ∃q,cj x.1.2 l=some q:=fun x hx=>by
  grind [HK]
 have j8:bJ aa.str d s.aL (ig 0 l):=(e6 _ (by omega)).trans f4;have cn:aa.nilm.cells=[.nilm]:=rfl;obtain⟨z,hz⟩:=bZ (((d.new (.map [] 0)).new (.cells [.nilm])).put (d.aL+1) (some (.cells [.map d.aL])));have d2:(d.new (.map [] 0)).aL=d.aL+1:=rfl;have zn:z.aL=d.aL+2:=by rw[<-hz];rfl
 have zb:z.get [] (d.aL+1)=some (.cells [.map d.aL]):=by rw[<-hz,aR,bS];rfl
 have zm:z.get [] d.aL=some (.map [] 0):=by
  rw[<-hz,aR,bN.2 (by omega:d.aL≠d.aL+1),cF,ck (by rw[d2];omega)];exact cG
 have zo: ∀k,k<d.aL->z.get [] k=d.get [] k:=fun k hk=>by
  grind [aR,ck]
 have zw:z.gt<=z.aL:=by
  rw[<-hz];exact cR _ _ _ (bU (bU e0))
 have i7:((d.new (.map [] 0)).new (.cells [.nilm])).get [] (d.aL+1)=some (.cells [.nilm]):=cG;obtain⟨y,hy⟩:=bZ (z.new (.map [] 0));have yn:y.aL=d.aL+3:=by rw[<-hy];show z.aL+1=_;omega
 have yo: ∀k,k<z.aL->y.get [] k=z.get [] k:=fun k hk=>by rw[<-hy,ck hk]
 have ym:y.get [] z.aL=some (.map [] 0):=by rw[<-hy];exact cG
 have yw:y.gt<=y.aL:=by rw[<-hy];exact bU zw
 have yM:bJ aa.str y s.aL (ig 0 l):=((yo _ (by omega)).trans (zo _ (by omega))).trans j8;have a7:y.get [] (d.aL+1)=some (.cells [.map d.aL]):=(yo _ (by omega)).trans zb;have yR:y.get [] r=some (.cells (aF (R.map gW))):=((yo _ (by omega)).trans (zo _ (by omega))).trans f1;have yS:DV l y y z.aL d.aL (z.aL+1) (qt []) [] [] (fun _=>[]) (fun _=>0):=by
  refine⟨⟨ym,Bp,fun _ h=>(by cases h),fun _ h=>(by cases h),fun _ _=>rfl,kF _,by omega⟩,(yo _ (by omega)).trans zm,fun _ _ _ _=>rfl,⟨fun q id=>?_,fun k=>?_,Bp,fun _=>jW _⟩,bk _,yw⟩;simp[qt];simp[qt]
 simp only[go_sem,seval,hG,mz,cO,i7,cS,Pl,uu,cn,d2,hz,hy,bj,bc,aX,aZ,evc];refine afJ Y U B A ho (n:=s.aL) (bx:=d.aL+1) (ma:=z.aL) (mb:=d.aL) (lo:=z.aL+1) (r:=r) (c:=c) (by omega) (by omega) (by omega) (by omega) (by omega) (by omega) (by omega) (by omega) (by omega) (by omega) (by omega) (s0:=y) yM a7 j yR f0 ?_ R [] _ _ y [] [] _ _ rfl yS ⟨?_,?_,?_,?_,?_,?_,?_⟩ ?_ ?_ ?_
 ·intro e3 m0 s3 i3 K3 V3 T3 S3 E3
  have a3: ∀k,k<z.aL->k≠d.aL->s3.get [] k=y.get [] k:=fun k S h2=>S3.fr k (by omega) (by omega) h2;have l5:=S3.nx;simp only[go_sem,seval,E3.h5,Pl,hG,bj,bc,aX,aZ,evc];refine afO (N:=R.length) j (lo:=s3.aL) (s0:=s3) (E0:=e3) ?_ R.length 0 _ s3 .AL rfl (.inl ⟨rfl,rfl⟩) (fun _ _=>rfl) S3.mw (bk _) ?_ ?_ ?_ ?_ ?_ ?_ ?_
  ·intro e4 Z lv f3 e5 d7 l0 h4 g3 g5 g6 g7
   obtain⟨w,hw⟩:=bZ (Z.new (.map [] 0));have wn:w.aL=Z.aL+1:=by rw[<-hw];rfl
   have wo: ∀k,k<Z.aL->w.get [] k=Z.get [] k:=fun k hk=>by rw[<-hw,ck hk]
   have wm:bJ aN w Z.aL []:=by rw[<-hw];exact cG
   have ww:w.gt<=w.aL:=by rw[<-hw];exact bU d7
   have a2: ∀k,k<s3.aL->w.get [] k=s3.get [] k:=fun k S=>(wo k (by omega)).trans (e5 k S);have a0: ∀k,k<z.aL->k≠d.aL->w.get [] k=y.get [] k:=fun k S h2=>(a2 k (by omega)).trans (a3 k S h2);have wM:bJ aa.str w s.aL (ig 0 l):=(a0 _ (by omega) (by omega)).trans yM;have wR:w.get [] r=some (.cells (aF (R.map gW))):=(a0 _ (by omega) (by omega)).trans yR;have h9:=avk c2 U ho (n:=s.aL) (r:=r) (c:=c) j f0 wM wR (by omega) (by omega) ww;have c8:=f3.ge;have k3:=g3.trans E3.h3;have k5:=g5.trans E3.h5;have k6:=g6.trans E3.h6;have k7:=g7.trans E3.h7;simp only[go_sem,seval,h4,k3,k5,E3.l3,E3.g3,mz,hw,c8,a9,hG,bj,bc,aX,aZ,evc];refine ct.ex h9 (by decide) ?_;rintro sv s5 ⟨c9,a5,m5,d6⟩;have i4:=c9.ge;have d0:(R.map fun x=>jm l x.1)=(eU l).map (jm l):=by rw[<-G,ll];rfl
   have H:(R.map fun x=>jm l x.1).length=R.length:=bP ..;have a8: ∀x∈R.map (fun x=>jm l x.1),qI x=true:=fun x hx=>by
    grind [avh]
   have i0:=aq1 c3 g8 c9 (lv:=lv) (by rw[H];exact f3.isL) (by rw[H];exact j) a8 (m:=Z.aL) ((a5 _ (by omega)).trans wm) (by omega) d6;simp only[go_sem,seval,i4,h4,c8,bj,bc,aX,aZ,evc];refine ct.ex i0 (by decide) ?_;rintro v s6 ⟨rfl,O,e2,m4,d5⟩;obtain⟨M,J⟩:=bZ (gr (R.map fun x=>jm l x.1));have j5:M.length<=1000000:=by rw[<-J];exact ae6 (by rw[H];exact j)
   have j7: ∀x∈M,(0<=x.1/\x.1<R.length)/\(0<=x.2.1/\x.2.1<R.length):=fun x hx=>by
    rw[<-J] at hx
    have:=Lh hx;rwa [H] at this
   have j2: ∀x∈R,x.2.1.length<=1000000:=fun x hx=>by
    grind [atE]
   rw[J] at O;have d1:=iK.new aw2 O;have hI:=iK.begin O (by omega);obtain⟨u,hu⟩:=bZ (s6.new (.iter (some Z.aL) (mX M).length [] (mX M).length));rw[hu] at d1 hI;have un:u.aL=s6.aL+1:=by rw[<-hu];rfl
   have uo: ∀k,k<s6.aL->u.get [] k=s6.get [] k:=fun k hk=>by rw[<-hu,ck hk]
   have uw:u.gt<=u.aL:=by rw[<-hu];exact bU d5
   have a1: ∀k,k<s3.aL->u.get [] k=s3.get [] k:=fun k S=>(uo k (by omega)).trans ((e2 k (by omega) (by omega)).trans ((a5 k (by omega)).trans (a2 k S)));have F: ∀k,k<z.aL->k≠d.aL->u.get [] k=y.get [] k:=fun k S h2=>(a1 k (by omega)).trans (a3 k S h2);simp only[go_sem,seval,Hz,d1,bj,bc,aX,aZ,evc];refine afL hK Y B A (it:=s6.aL) (mf:=Z.aL) (bx:=d.aL+1) (mb:=d.aL) (r:=r) (c:=c) (lo:=s6.aL+1) (M:=M) j5 (R:=R) j j7 j2 (by omega) (by omega) (by omega) (by omega) (by omega) (by omega) (by omega) (by omega) (by omega) (by omega) (by omega) (by omega) (s0:=u) ((uo _ (by omega)).trans O) ((F _ (by omega) (by omega)).trans a7) ((F _ (by omega) (by omega)).trans yR) (KB0:=i3) (E0:=e4) ?_ M.length [] _ _ u i3 (by simp) hI (fun k=>by simp) S3.i.nd ((a1 _ (by omega)).trans S3.m) (fun _ _ _ _=>rfl) (bk _) (by omega) uw ?_ ?_ ?_ ?_
   ·intro e7 l7 s7 KB7 f6 c7 g1 e1 m3 d4 k1
    have IW:=k1.trans k6;have e9:s7.get [] (d.aL+1)=some (.cells [.map d.aL]):=((e1 _ (by omega) (by omega) (by omega)).trans (F _ (by omega) (by omega))).trans a7;have f5:KB7.Perm (ph l):=arR c7 (TT l) fun k=>by
     rw[f6,Fu,Jc,S3.i.b,<-J,d0];have he:qt R=uE l:=by
      rw[<-G];unfold qt uE;rw[List.flatMap_map]
     rw[he];refine or_congr Iff.rfl ?_;rw[<-G];exact amo T
    have k0:KB7.length<1000000:=by
     rw[f5.length_eq];have S:=TS l;have h2:l.length*l.length<=900*900:=qZ hl hl;omega
    have a4:=iK.new aw1 g1;have g0:=iK.begin g1 (by omega);obtain⟨t,ht⟩:=bZ (s7.new (.iter (some d.aL) (jO KB7).length [] (jO KB7).length));rw[ht] at a4 g0;have tn:t.aL=s7.aL+1:=by rw[<-ht];rfl
    have tw:t.gt<=t.aL:=by rw[<-ht];exact bU d4
    simp only[go_sem,seval,IW,aP,e9,aQ,Hz,a4,bj,bc,aX,aZ,evc];refine afS hK c1 (it:=s7.aL) (mb:=d.aL) (lo:=s7.aL+1) (KB:=KB7) k0 (by omega) (by omega) (by omega) ?_ KB7.length [] _ _ t .AL [] (by simp) g0 rfl ⟨.inl ⟨rfl,rfl⟩,fun _ h=>(by cases h),fun _ h=>(by cases h)⟩ (by omega) tw ?_ ?_;intro e8 l6 s8 l4 k8 hp f2 k9 g4;have c6:=f2.row.ge;obtain⟨s9,h8,i8⟩:=avJ a6 c0 f2 (aso hp c7 (by omega));simp only[go_sem,seval,g4,c6,a6,bj,bc,aX,aZ,evc];refine ct.of h8 (by decide) ?_;simp only[go_sem,seval,g4,c6,bj,bc,aX,aZ,evc];refine⟨_,rfl,?_⟩;have e:Bb l=io 3 ((jS jQ dV k8).map mM):=by
     unfold Bb;rw[<-avU (hp.trans f5),ll];rfl
    rw[e];exact i8
    all_goals simp only[sN,seval]
   all_goals simp only[sN,seval,k5,k7]
  all_goals simp only[sN,seval]
  all_goals rfl
 all_goals simp only[aW,gw,gI,uM,ai,bG,cV]
 all_goals rfl
def mp(l:List Obj):Bool:=cZ l&&(decide (l.length<=900)&&(l.all (fun o=>decide (o.gE.length<=999))&&decide ((eU l).length<=1000)))
structure Sq (l:List Obj):Prop where
 valid:cZ l=true
 len:l.length<=900
 gE: ∀o∈l,o.gE.length<=999
 keys:(eU l).length<=1000
def oM:mp l=true↔Sq l:=by
 unfold mp;simp only[bm,dE,fu];exact⟨fun⟨a,b,c,d⟩=>⟨a,b,c,d⟩,fun⟨a,b,c,d⟩=>⟨a,b,c,d⟩⟩
def BE:Sp
 | [v]=>(lG v).bind fun l=>bif mp l then some (Bb l) else none
 |_=>none
def afR:cQ ah 59 BE:=by
 intro args u d G h w xs A F;unfold BE at d;split at d;simp only[aj] at d;obtain⟨l,y,d⟩:=d;obtain⟨e,d⟩:=aY d;have d:=sI d;subst d;obtain⟨v,rfl,y,z,J⟩:=rj y;obtain⟨H,B,j,x⟩:=qK y z;have j:dz [.agg [v]]=[.agg [B]]:=by simp only[dz,j]
 have e:=oM.1 e;refine jo aeg aeC (args:=[.agg [v]]) (by simp only[ei,H,bW]) (fun I=>?_) G h w xs A F;rw[j];exact agI I x z e.len e.gE e.valid e.keys (by decide);cases d
variable{Q:aD}[Std Q]
def arB(p:Pt):bf p=(bV (-2097152) (min p.1 p.2)&&bV (max p.1 p.2) 2097152):=by
 rw[xj];simp only[bf,bV,aV,bm,mQ,dE,decide_eq_false_iff_not];omega
def afc(r:List Pt):(!r.any fun p=> !bf p)=r.all bf:=by
 induction r with
 |nil=>rfl
 |cons p r d=>
  rw[List.any_cons,jq,Bool.not_or,d,Bool.not_not]
def ZO(d:No Q 430)(p:Pt)(s:St):aq Q 430 [aN p] s (.bool (bf p)) s:=by
 refine aq.ofNZ apc (bT ?_);rw[arB];cases e1:bV (-2097152) (min p.1 p.2) with
 |false=>simp only[go_sem,seval,aN,rp,sR,e1,Bool.false_and]
 |true=>simp only[go_sem,seval,aN,rp,sR,e1,en]
def aiB(d:No Q 430)(e:No Q 429)(p:Pt)(s:St):aq Q 429 [aN p] s (.bool (!bf p)) s:=by
 refine aq.ofNZ apb ?_;have h:=ZO d p s;refine bT ?_;simp only[aN] at h;simp only[go_sem,seval,aN];refine ct.of h (by decide) ?_;simp only[go_sem,seval]
variable{K:Ex->Fr->St->Prop}{g:FuncId}{l:List Pt}{cap:List aa}{p:Pt->Bool}{sv:aa}
def amb(Y:ax 2 aN sv l)(O:l.length<=1000000)(I:Q.spec g=none)(hg: ∀x∈l,aq Q g (aN x::cap) s (.bool (p x)) s){lc:Ag.Loc}{r:Int}(U: ∀e,r= -1->K (.exit 0) ⟨e,19,lc⟩ s)(Z: ∀e,ac e 4=ag r->K .ret ⟨e,19,lc⟩ s):
 ∀(h d:List Pt) (e:aw),l=d++h->r=j6 p h d.length->ac e 0=sv->ac e 1= .func (.func g) [] cap->ac e 7=aM l.length->ac e 8=aM d.length->W Q 495 (.loop OQ) ⟨e,19,lc⟩ s K:=by
 intro h
 induction h with
 |nil=>
  intro d e y A N J z w;have G:d.length=l.length:=by rw[y];simp
  refine bq ?_;simp only[go_sem,seval,OQ,z,w,G,cq];exact U _ A
 |cons x h S=>
  intro d e y A N J z w;have F:d.length<l.length:=by rw[y];simp
  have u:l[d.length]? =some x:=by rw[y];simp
  have H:=fun lc k=>Y.at mH.2.2.1 u lc k;have B:=dg (n:=d.length) (by omega);have j:=hg x (dB u);simp only[aN] at j;have e1:([]:List aa)++([aN x]++cap)=aN x::cap:=rfl;refine bq ?_;simp only[go_sem,seval,OQ,N,J,z,w,F,H,aN,I];refine ct.of j (by decide) ?_;cases hd:p x with
  |true=>
   simp only[go_sem,seval];exact Z _ (by simp only[sN,seval,w,A,j6,hd])
  |false=>
   simp only[go_sem,seval,w,B];refine S (d++[x]) _ (by rw[y];simp) (by rw[A];simp only[j6,hd,cF,sA]) ?_ ?_ ?_ ?_
   all_goals simp only[sN,seval,N,J,z,sA]
def amd(y:No Q 495)(h:ax 2 aN sv l)(d:l.length<=1000000)(u:Q.spec g=none)(A: ∀x∈l,aq Q g (aN x::cap) s (.bool (p x)) s):aq Q 495 [sv,.func (.func g) [] cap] s (bO (j6 p l 0)) s:=by
 have j:=h.lenS mH;have w:=h.ge;refine aq.ofNZ apl (bT ?_);simp only[go_sem,seval,j,w];refine amb h d u A (r:=j6 p l 0) ?_ ?_ l [] _ rfl rfl (by simp only[sG,seval, *]) (by simp only[sG,seval, *]) (by simp only[sG,seval, *]) (by simp only[sN,seval];rfl);intro e z;simp only[go_sem,seval,z];rfl;intro e B;simp only[go_sem,seval,B];rfl
def aks(d:No Q 495)(u:No Q 428)(w:ax 2 aN sv l)(e:l.length<=1000000)(h:Q.spec g=none)(y: ∀x∈l,aq Q g (aN x::cap) s (.bool (p x)) s):aq Q 428 [sv,.func (.func g) [] cap] s (.bool (l.any p)) s:=by
 have j:=w.ge;refine aq.ofNZ apa (bT ?_);simp only[go_sem,seval,j];refine ct.of (amd d w e h y) (by decide) ?_;simp only[go_sem,seval,bO,nP,Eu]
def abO(j:No Q 495)(w:No Q 428)(u:No Q 430)(d:No Q 429)(B:No Q 326){r:List Pt}(A:ax 2 aN sv r)(s:St):aq Q 326 [sv] s (.bool (oX r)) s:=by
 have h:=A.ge;have e:=A.lenS mH;have G:oX r=(bV 3 ((r.length:Nat):Int)&&(bV ((r.length:Nat):Int) 2000&& !r.any fun p=> !bf p)):=by
  have z:bV 3 ((r.length:Nat):Int)=decide (3<=r.length):=decide_eq_decide.2 (by omega);have y:bV ((r.length:Nat):Int) 2000=decide (r.length<=2000):=decide_eq_decide.2 (by omega);rw[afc,z,y];rfl
 refine aq.ofNZ aoM (bT ?_);rw[G];cases z:bV 3 ((r.length:Nat):Int) with
 |false=>simp only[go_sem,seval,h,e,z,nP]
 |true=>
  cases y:bV ((r.length:Nat):Int) 2000 with
  |false=>simp only[go_sem,seval,h,e,z,y,nP]
  |true=>
   have H:r.length<=2000:=by simp only[bV,dE] at y;omega
   have F:=aks j w A (by omega) d.s (cap:=[]) (s:=s) (p:=fun p=> !bf p) fun x _=>aiB u d x s;simp only[go_sem,seval,h,e,z,y,nP];refine ct.of F (by decide) ?_;simp only[go_sem,seval]
variable{i:Nat}
def aci{r:List Pt}{p q:Pt}(e:r[i]? =some p)(d:r[(i+1) % r.length]? =some q):eD r i=(p,q):=by
 unfold eD;rw[e,d];rfl
variable{bx:Nat}{P:Nat->St->Prop}{D:St->Prop}{rv:aa}
def avo{r:List Pt}(J:ax 2 aN rv r)(a7:r.length<=2000){n:Nat}(hb: ∀i s,P i s->s.get [] bx=some (.cells [rv]))(Y: ∀i s,P i s->s.gt<=s.aL)(S: ∀i s,i<r.length->P i s-> ∃v s',iy Q n [aM i,bL (eD r i)] s.top v s'/\(s'.ci=s.ci/\s.aL<=s'.aL/\((v= .bool true/\P (i+1) (s.Gt s'))\/(v= .bool false/\D (s.Gt s')))))(hx: ∀e lc s,P r.length s->K (.exit 0) ⟨e,27,lc⟩ s)(hd: ∀e lc s,D s->K .ret ⟨e,27,lc⟩ s):
 ∀(h d:List Pt) (e:aw) (lc:Ag.Loc) (s:St),r=d++h->P d.length s->ac e 0= .yld n->ac e 1= .ptr bx 0->ac e 5=rv->ac e 6=aM r.length->ac e 7=aM d.length->W Q 339 (.loop OC) ⟨e,27,lc⟩ s K:=by
 intro h
 induction h with
 |nil=>
  intro d e lc s I z h0 w h5 N H;have B:d.length=r.length:=by rw[I];simp
  refine bq ?_;simp only[go_sem,seval,OC,N,H,B,cq];exact hx _ _ _ (by rw[<-B];exact z)
 |cons p h ih=>
  intro d e lc s I z h0 w h5 N H;have A:d.length<r.length:=by rw[I];simp
  have G:r[d.length]? =some p:=by rw[I];simp
  have a0:=fun lc k=>J.at mH.2.2.1 G lc k;have x:=dg (n:=d.length) (by omega);have j:0<r.length:=by omega
  have y:=abP (a:=d.length+1) (b:=r.length) j;obtain⟨q,hq⟩: ∃q,r[(d.length+1) % r.length]? =some q:=⟨_,fE (ua _ j)⟩;have F:=fun lc k=>J.at mH.2.2.1 hq lc k;have u:=aci G hq;have a2:=J.ge;have Z:=J.lenS mH;have a6:=hb _ _ z;have hm:=Y _ _ z;obtain⟨v,s1,O,a5,a4,a3⟩:=S d.length s A z;rw[u] at O;simp only[bL] at O;refine lz ?_;simp only[go_sem,seval,OC,h5,N,H,A,a0,aN];refine gK hm ?_;simp only[go_sem,Ix,seval,h0,w,H,x,a2,aP,a6,aQ,qQ,Z,y,F,aN,bj,bc,aX,aZ,evc];refine Gq.of O a5 a4 (by decide) (by simp[eh,mL]) ?_;rcases a3 with⟨rfl,U⟩|⟨rfl,a1⟩
  ·simp only[go_sem,Ix,seval,H,x]
   refine ih (d++[p]) _ _ (s.Gt s1) (by rw[I];simp) (by rw[cD];exact U) ?_ ?_ ?_ ?_ ?_
   all_goals simp only[sN,seval,h0,w,h5,N,sA]
  simp only[go_sem,Ix,seval];exact hd _ _ _ a1
def AZ(A:No Q 339){r:List Pt}(u:ax 2 aN rv r)(d:r.length<=2000){n:Nat}(F: ∀i s,P i s->s.get [] bx=some (.cells [rv]))(w: ∀i s,P i s->s.gt<=s.aL)(j: ∀i s,i<r.length->P i s-> ∃v s',iy Q n [aM i,bL (eD r i)] s.top v s'/\(s'.ci=s.ci/\s.aL<=s'.aL/\((v= .bool true/\P (i+1) (s.Gt s'))\/(v= .bool false/\D (s.Gt s')))))(B:P 0 s):
 ∃v s',aq Q 339 [.yld n,.ptr bx 0] s v s'/\(v= .tup []/\(P r.length s'\/D s')):=by
 have z:=F _ _ B;have x:=u.lenS mH;have y:=u.ge;refine aq.ofNRZ aoS (bT ?_);simp only[go_sem,seval,aP,z,aQ,qQ,x,y];refine avo u d F w j ?_ ?_ r [] _ _ s rfl B ?_ ?_ ?_ ?_ ?_;intro e lc G h;simp only[go_sem,seval];exact⟨_,rfl,rfl,.inl h⟩;intro e lc G h;simp only[go_sem,seval];exact⟨_,rfl,rfl,.inr h⟩
 all_goals simp only[sN,seval,cV]
 all_goals rfl
def AY(e:No Q 235){r:List Pt}(h:ax 2 aN rv r)(s:St):aq Q 235 [rv] s (.func (.func 339) [] [.ptr s.aL 0]) (s.new (.cells [rv])):=by
 have d:=h.cs;refine aq.ofNZ aoe (bT ?_);simp only[go_sem,seval,d,acT]
noncomputable abbrev my(E:aw)(x:Option Ex):aJ:=.loop 229 E 54 [21,22] ER EU x
def adK{a b:Nat}(h:b<=a)(j:a<=100000):IntKind.i64.wrap (((a:Nat):Int)-((b:Nat):Int))=((a-b:Nat):Int):=by
 have e:mI ((a:Nat):Int)=true:=by unfold mI;simp only[bm,dE];omega
 have d:mI ((b:Nat):Int)=true:=by unfold mI;simp only[bm,dE];omega
 rw[J4 e d];omega
def WI(a b:Nat):an ((a:Nat):Int) ((b:Nat):Int)=(a==b):=by
 rw[xj];simp only[an,bE];omega
def AN{r:List Pt}(d:r.all bf=true)(e:i<r.length):bf (eD r i).1=true/\bf (eD r i).2=true:=by
 have h:=fu.1 d;have j:(i+1) % r.length<r.length:=ua _ (by omega);unfold eD;rw[fE e,fE j];exact⟨h _ (xD _),h _ (xD _)⟩
structure gM (r:List Pt) (i:Nat) (s0 s:St):Prop where
 old: ∀j,j<s0.aL->s.get [] j=s0.get [] j
 mw:s.gt<=s.aL
 lt:s0.aL<s.aL
 ci:s.ci=s0.ci
variable{b2 b3 b4 b5:Nat}{E:aw}
def avt(h:Q.spec 225=some kN){r:List Pt}(a7:r.length<=2000)(hn:r.all bf=true)(hi:i<r.length){s0:St}(a0:s0.get [] b2=some (.cells [.bool false]))(a6:s0.get [] b3=some (.cells [aM r.length]))(a5:s0.get [] b4=some (.cells [aM i]))(a4:s0.get [] b5=some (.cells (bL (eD r i)).cells))(l2:b2<s0.aL)(l3:b3<s0.aL)(l4:b4<s0.aL)(l5:b5<s0.aL)(e2:ac E 2= .ptr b2 0)(e3:ac E 3= .ptr b3 0)(Y:ac E 4= .ptr b4 0)(e5:ac E 5= .ptr b5 0){k:Nat}(hk:k<r.length)(a2:k<=i)(hI:gM r i s0 s)(hl:s.get [] s0.aL=some (my E none)):
 ∃v s',iy Q s0.aL [aM k,bL (eD r k)] s.top v s'/\(s'.ci=s.ci/\s.aL<=s'.aL/\gM r i s0 (s.Gt s')/\((v= .bool true/\s'.get [] s0.aL=some (my E none)/\k<i/\nj r i k=true)\/(v= .bool false/\((s'.get [] s0.aL=some (my E (some (.exit 2)))/\k=i)\/(s'.get [] s0.aL=some (my E (some .ret))/\k<i/\nj r i k=false))))):=by
 obtain⟨n1,n2⟩:=AN hn hi;obtain⟨n3,n4⟩:=AN hn hk;have G:=Ps n1 n2 n3 n4;have a8:=hI.lt;have a1:=hI.mw;refine iy.any (ca:=Oj) (cb:=wD) (show s.top.get [] s0.aL=_ from hl) rfl rfl an5 an7 ?_;refine bT ?_;obtain⟨w,hw⟩:=bZ (s.top.put s0.aL none);have wn:w.aL=s.aL:=by rw[<-hw];rfl
 have wo: ∀j,j≠s0.aL->w.get [] j=s.get [] j:=fun j U=>by rw[<-hw,aR,bN.2 U];rfl
 obtain⟨z,O⟩:=bZ ((w.new (.cells [ag 0,ag 0,ag 0,ag 0])).put w.aL (some (.cells (bL (eD r k)).cells)));simp only[bL,lK] at O;have a3:(w.new (.cells [ag 0,ag 0,ag 0,ag 0])).get [] w.aL=some (.cells [ag 0,ag 0,ag 0,ag 0]):=cG;simp only[go_sem,seval,Oj,bL,hw,cO,a3,cS,O,bj,bc,aX,aZ,evc];have zn:z.aL=s.aL+1:=by rw[<-O,<-wn];rfl
 have zc:z.ci=s.ci:=by rw[<-O,<-hw];rfl
 have zm:z.gt<=z.aL:=by
  rw[<-O];exact cR _ _ _ (by show w.gt<=w.aL+1;rw[<-hw];exact bU (cR s.top _ _ (bk _)))
 have I:z.get [] w.aL=some (.cells (bL (eD r k)).cells):=by rw[<-O,aR,bS];rfl
 have H: ∀j,j<s0.aL->z.get [] j=s0.get [] j:=fun j U=>by
  rw[<-O,aR,bN.2 (by omega:j≠w.aL),cF,ck (by omega),wo j (by omega)];exact hI.old j U
 have z2:=(H b2 l2).trans a0;have Z:=(H b3 l3).trans a6;have N:=(H b4 l4).trans a5;have J:=(H b5 l5).trans a4;have fin: ∀(F:St) (o:Option Ex),(∀j,j<s0.aL->F.get [] j=s0.get [] j)->F.aL=s.aL+1->F.ci=s.ci->F.gt<=F.aL->(F.put s0.aL (some (my E o))).ci=s.ci/\s.aL<=(F.put s0.aL (some (my E o))).aL/\gM r i s0 (s.Gt (F.put s0.aL (some (my E o))))/\(F.put s0.aL (some (my E o))).get [] s0.aL=some (my E o):=fun F o q1 q2 q3 q4=>by
  have qn:(F.put s0.aL (some (my E o))).aL=s.aL+1:=q2;refine⟨q3,by omega,⟨fun j U=>?_,pB a1 (by omega),?_,?_⟩,by rw[aR,bS];rfl⟩;rw[lL,aR,bN.2 (by omega:j≠s0.aL)];exact q1 j U;show s0.aL<(F.put s0.aL (some (my E o))).aL;omega;exact q3.trans hI.ci
 obtain⟨M,hM⟩:=bZ (gX (eD r i) (eD r k));rw[hM] at G;have u:nj r i k=bif(an ((i-k:Nat):Int) 1||an ((i-k:Nat):Int) ((r.length-1:Nat):Int)) then an M 1 else an M 0:=by
  have h1:an ((i-k:Nat):Int) 1=(i-k==1):=WI (i-k) 1;unfold nj;rw[hM,h1,WI]
 have B:=adK a2 (by omega);have A:IntKind.i64.wrap (((r.length:Nat):Int)-1)=((r.length-1:Nat):Int):=adK (a:=r.length) (b:=1) (by omega) (by omega);refine bT ?_;simp only[bL,lK] at G J I;by_cases hE:k=i;subst hE;have x:bV ((k:Nat):Int) ((k:Nat):Int)=true:=by simp[bV]
 simp only[go_sem,seval,wD,Y,N,aP,aQ,nP,x,jg,jj];obtain⟨f1,f2,f3,f4⟩:=fin z (some (.exit 2)) H zn zc zm;exact⟨f1,f2,f3,.inr (.inl f4)⟩;have d:k<i:=by omega
 have x:bV ((i:Nat):Int) ((k:Nat):Int)=false:=by simp only[bV,decide_eq_false_iff_not];omega
 obtain⟨y,S⟩:=bZ (z.put b2 (some (.cells [.bool false])));have yn:y.aL=s.aL+1:=by rw[<-S];exact zn
 have yc:y.ci=s.ci:=by rw[<-S];exact zc
 have ym:y.gt<=y.aL:=by rw[<-S];exact cR _ _ _ zm
 have yo: ∀j,j<s0.aL->y.get [] j=s0.get [] j:=fun j U=>by
  rw[<-S,aR];cases e:j==b2 with
  |true=>
   have:=eq_of_beq e;subst this;exact a0.symm
  |false=>exact H j U
 obtain⟨f1,f2,f3,f4⟩:=fin z none H zn zc zm;obtain⟨g1,g2,g3,g4⟩:=fin y (some .ret) yo yn yc ym;cases c1:an ((i-k:Nat):Int) 1 with
 |true=>
  rw[c1,Bool.true_or,cT] at u;cases c3:an M 1 with
  |true=>
   simp only[go_sem,seval,wD,e2,e3,Y,e5,z2,Z,N,J,I,aP,aQ,nP,x,jg,jj,h,G,bO,B,A,c1,c3];exact⟨f1,f2,f3,.inl ⟨f4,d,by rw[u,c3]⟩⟩
  |false=>
   simp only[go_sem,seval,wD,e2,e3,Y,e5,z2,Z,N,J,I,aP,aQ,nP,x,jg,jj,h,G,bO,B,A,c1,c3,cO,cS,S];exact⟨g1,g2,g3,.inr (.inr ⟨g4,d,by rw[u,c3]⟩)⟩
 |false=>
  cases c2:an ((i-k:Nat):Int) ((r.length-1:Nat):Int) with
  |true=>
   rw[c1,c2,hZ,cT] at u;cases c3:an M 1 with
   |true=>
    simp only[go_sem,seval,wD,e2,e3,Y,e5,z2,Z,N,J,I,aP,aQ,nP,x,jg,jj,h,G,bO,B,A,c1,c2,c3];exact⟨f1,f2,f3,.inl ⟨f4,d,by rw[u,c3]⟩⟩
   |false=>
    simp only[go_sem,seval,wD,e2,e3,Y,e5,z2,Z,N,J,I,aP,aQ,nP,x,jg,jj,h,G,bO,B,A,c1,c2,c3,cO,cS,S];exact⟨g1,g2,g3,.inr (.inr ⟨g4,d,by rw[u,c3]⟩)⟩
  |false=>
   rw[c1,c2,hZ,cF] at u;cases c3:an M 0 with
   |true=>
    simp only[go_sem,seval,wD,e2,e3,Y,e5,z2,Z,N,J,I,aP,aQ,nP,x,jg,jj,h,G,bO,B,A,c1,c2,c3];exact⟨f1,f2,f3,.inl ⟨f4,d,by rw[u,c3]⟩⟩
   |false=>
    simp only[go_sem,seval,wD,e2,e3,Y,e5,z2,Z,N,J,I,aP,aQ,nP,x,jg,jj,h,G,bO,B,A,c1,c2,c3,cO,cS,S];exact⟨g1,g2,g3,.inr (.inr ⟨g4,d,by rw[u,c3]⟩)⟩
def avu(u:No Q 339)(y:Q.spec 225=some kN){r:List Pt}(hr:ax 2 aN rv r)(d:r.length<=2000)(hn:r.all bf=true)(hi:i<r.length){s0:St}(I:s0.get [] bx=some (.cells [rv]))(S:s0.get [] b2=some (.cells [.bool false]))(O:s0.get [] b3=some (.cells [aM r.length]))(N:s0.get [] b4=some (.cells [aM i]))(J:s0.get [] b5=some (.cells (bL (eD r i)).cells))(lx:bx<s0.aL)(l2:b2<s0.aL)(l3:b3<s0.aL)(l4:b4<s0.aL)(l5:b5<s0.aL)(e2:ac E 2= .ptr b2 0)(e3:ac E 3= .ptr b3 0)(e4:ac E 4= .ptr b4 0)(e5:ac E 5= .ptr b5 0)(G:s0.gt<=s0.aL):
 ∃v s',aq Q 339 [.yld s0.aL,.ptr bx 0] (s0.new (my E none)) v s'/\(v= .tup []/\gM r i s0 s'/\((s'.get [] s0.aL=some (my E (some (.exit 2)))/\ ∀k,k<i->nj r i k=true)\/(s'.get [] s0.aL=some (my E (some .ret))/\ ∃k,k<i/\nj r i k=false))):=by
 obtain⟨v,s',w,rfl,h⟩:=AZ u hr d (bx:=bx) (n:=s0.aL) (P:=fun k s=>gM r i s0 s/\s.get [] s0.aL=some (my E none)/\k<=i/\ ∀j,j<k->nj r i j=true) (D:=fun s=>gM r i s0 s/\((s.get [] s0.aL=some (my E (some (.exit 2)))/\ ∀k,k<i->nj r i k=true)\/(s.get [] s0.aL=some (my E (some .ret))/\ ∃k,k<i/\nj r i k=false))) (fun k s h=>(h.1.old bx lx).trans I) (fun k s h=>h.1.mw) (fun k s hk ⟨hI,hl,H,x⟩=>by
  obtain⟨v,s',q1,q2,Z,F,Y⟩:=avt y d hn hi S O N J l2 l3 l4 l5 e2 e3 e4 e5 hk H hI hl;refine⟨v,s',q1,q2,Z,?_⟩;rcases Y with⟨rfl,z,B,U⟩|⟨rfl,⟨z,B⟩|⟨z,B,U⟩⟩
  refine .inl ⟨rfl,F,z,by omega,fun j A=>?_⟩;by_cases e:j=k;subst e;exact U;exact x j (by omega);subst B;exact .inr ⟨rfl,F,.inl ⟨z,x⟩⟩;exact .inr ⟨rfl,F,.inr ⟨z,k,B,U⟩⟩) (s:=s0.new (my E none)) ⟨⟨fun j A=>ck A,bU G,kF _,rfl⟩,cG,jW _,fun j A=>absurd A (Nat.not_lt_zero _)⟩
 refine⟨_,s',w,rfl,?_⟩;rcases h with⟨_,_,h,_⟩|h
 omega;exact h
noncomputable abbrev qG(E:aw)(x:Option Ex):aJ:=.loop 229 E 54 [17,18] ET EV x
def rE:tg ah 339=true:=by kernel_rfl
def vh{r:List Pt}(h:ax 2 aN rv r):jB rv=true:=by
 rcases h with⟨rfl,_⟩|⟨_,rfl⟩<;>rfl
def avs(e:No Q 339)(z:Q.spec 225=some kN){r:List Pt}(hr:ax 2 aN rv r)(u:r.length<=2000)(hn:r.all bf=true)(hi:i<r.length){s0:St}(I:s0.get [] bx=some (.cells [rv]))(S:s0.get [] b2=some (.cells [.bool false]))(O:s0.get [] b3=some (.cells [aM r.length]))(N:s0.get [] b4=some (.cells [aM i]))(J:s0.get [] b5=some (.cells (bL (eD r i)).cells))(lx:bx<s0.aL)(l2:b2<s0.aL)(l3:b3<s0.aL)(l4:b4<s0.aL)(l5:b5<s0.aL)(e2:ac E 2= .ptr b2 0)(e3:ac E 3= .ptr b3 0)(e4:ac E 4= .ptr b4 0)(e5:ac E 5= .ptr b5 0)(A:ac E 20= .func (.func 339) [] [.ptr bx 0])(Z:E.all jB=true)(G:s0.gt<=s0.aL)(Y: ∀x U,gM r i s0 U->((x= .exit 2/\ ∀k,k<i->nj r i k=true)\/(x= .ret/\ ∃k,k<i/\nj r i k=false))->K x ⟨E,54,[]⟩ U):W Q 229 (.rfun (.tmp 20) [21,22] ER EU) ⟨E,54,[]⟩ s0 K:=by
 obtain⟨v,s',d,rfl,B,h⟩:=avu e z hr u hn hi I S O N J lx l2 l3 l4 l5 e2 e3 e4 e5 G;have y:gM r i s0 (s'.put s0.aL none):=⟨fun j hj=>by rw[aR,bN.2 (by omega:j≠s0.aL)];exact B.old j hj,cR _ _ _ B.mw,B.lt,B.ci⟩;rcases h with⟨H,F⟩|⟨H,w⟩
 exact W.rfun (h:=339) (first:=[]) (captured:=[.ptr bx 0]) (v:=.tup []) (s1:=s') (by simp only[dR,A]) (by rw[Std.P,rE,XB,Z];rfl) d H (Y _ _ y (.inl ⟨rfl,F⟩));exact W.rfun (h:=339) (first:=[]) (captured:=[.ptr bx 0]) (v:=.tup []) (s1:=s') (by simp only[dR,A]) (by rw[Std.P,rE,XB,Z];rfl) d H (Y _ _ y (.inr ⟨rfl,w⟩))
def avq(I:No Q 339)(J:No Q 235)(U:Q.spec 225=some kN){r:List Pt}(Y:ax 2 aN rv r)(O:r.length<=2000)(hn:r.all bf=true)(hi:i<r.length){s0:St}(a7:s0.get [] bx=some (.cells [rv]))(a9:s0.get [] b2=some (.cells [.bool false]))(a8:s0.get [] b3=some (.cells [aM r.length]))(lx:bx<s0.aL)(l2:b2<s0.aL)(l3:b3<s0.aL)(e1:ac E 1= .ptr bx 0)(e2:ac E 2= .ptr b2 0)(e3:ac E 3= .ptr b3 0)(hE:E.all jB=true)(Z:gM r 0 s0 s)(hl:s.get [] s0.aL=some (qG E none)):
 ∃v s',iy Q s0.aL [aM i,bL (eD r i)] s.top v s'/\(s'.ci=s.ci/\s.aL<=s'.aL/\gM r 0 s0 (s.Gt s')/\((v= .bool true/\s'.get [] s0.aL=some (qG E none)/\ ∀k,k<i->nj r i k=true)\/(v= .bool false/\s'.get [] s0.aL=some (qG E (some .ret))/\ ∃k,k<i/\nj r i k=false))):=by
 have b0:=Z.lt;have a3:=Z.mw;have a6:=Y.ge;refine iy.any (ca:=Ol) (cb:=Om) (show s.top.get [] s0.aL=_ from hl) rfl rfl an6 an8 ?_;refine bT ?_;obtain⟨w,N⟩:=bZ (s.top.put s0.aL none);have wn:w.aL=s.aL:=by rw[<-N];rfl
 have wc:w.ci=s.ci:=by rw[<-N];rfl
 have wo: ∀j,j≠s0.aL->w.get [] j=s.get [] j:=fun j d=>by rw[<-N,aR,bN.2 d];rfl
 have wm:w.gt<=w.aL:=by rw[<-N];exact cR s.top _ _ (bk _)
 obtain⟨z,G⟩:=bZ ((w.new (.cells [ag 0])).put w.aL (some (.cells [aM i])));have zn:z.aL=s.aL+1:=by rw[<-G,<-wn];rfl
 have zm:z.gt<=z.aL:=by rw[<-G];exact cR _ _ _ (bU wm)
 have zk:z.get [] w.aL=some (.cells [aM i]):=by rw[<-G,aR,bS];rfl
 have zo: ∀j,j<w.aL->z.get [] j=w.get [] j:=fun j d=>by rw[<-G,aR,bN.2 (by omega:j≠w.aL),cF,ck d]
 obtain⟨y,B⟩:=bZ ((z.new (.cells [ag 0,ag 0,ag 0,ag 0])).put z.aL (some (.cells (bL (eD r i)).cells)));have yn:y.aL=s.aL+2:=by
  rw[<-B];show z.aL+1=_;omega
 have ym:y.gt<=y.aL:=by rw[<-B];exact cR _ _ _ (bU zm)
 have yk:y.get [] z.aL=some (.cells (bL (eD r i)).cells):=by rw[<-B,aR,bS];rfl
 have yo: ∀j,j<z.aL->y.get [] j=z.get [] j:=fun j d=>by rw[<-B,aR,bN.2 (by omega:j≠z.aL),cF,ck d]
 have yc:y.ci=s.ci:=by rw[<-B,<-G];exact wc
 have h: ∀j,j<s0.aL->y.get [] j=s0.get [] j:=fun j d=>by rw[yo j (by omega),zo j (by omega),wo j (by omega)];exact Z.old j d
 have a0:=(h bx lx).trans a7;simp only[bL,lK] at B;have a5:(w.new (.cells [ag 0])).get [] w.aL=some (.cells [ag 0]):=cG;have a4:(z.new (.cells [ag 0,ag 0,ag 0,ag 0])).get [] z.aL=some (.cells [ag 0,ag 0,ag 0,ag 0]):=cG;simp only[go_sem,seval,Ol,bL,N,cO,a5,a4,cS,G,B,bj,bc,aX,aZ,evc];refine bT ?_;have A:=AY J Y y;obtain⟨x,H⟩:=bZ (y.new (.cells [rv]));have xn:x.aL=s.aL+3:=by
  rw[<-H];show y.aL+1=_;omega
 have xm:x.gt<=x.aL:=by rw[<-H];exact bU ym
 have xc:x.ci=s.ci:=by rw[<-H];exact yc
 have xk:x.get [] y.aL=some (.cells [rv]):=by rw[<-H];exact cG
 have xo: ∀j,j<y.aL->x.get [] j=y.get [] j:=fun j d=>by rw[<-H,ck d]
 have e: ∀j,j<s0.aL->x.get [] j=s0.get [] j:=fun j d=>(xo j (by omega)).trans (h j d);rw[H] at A;simp only[go_sem,seval,Om,e1,a0,aP,aQ,qQ,a6];refine ct.of A (by decide) ?_;simp only[go_sem,seval];have a1:=vh Y;refine avs I U Y O hn hi (bx:=y.aL) (b2:=b2) (b3:=b3) (b4:=w.aL) (b5:=z.aL) (s0:=x) xk ((e b2 l2).trans a9) ((e b3 l3).trans a8) ?_ ?_ (by omega) (by omega) (by omega) (by omega) (by omega) ?_ ?_ ?_ ?_ ?_ ?_ xm ?_;rw[xo _ (by omega),yo _ (by omega)];exact zk;rw[xo _ (by omega)];exact yk;simp only[sN,seval,e2];simp only[sN,seval,e3];simp only[sN,seval];simp only[sN,seval];simp only[sN,seval];exact aC.all_set (aC.all_set (aC.all_set (aC.all_set (aC.all_set (aC.all_set hE rfl) rfl) rfl) rfl) a1) rfl;intro ex u F hc;have n2:=F.lt;have g1: ∀(o:Option Ex),(u.put s0.aL (some (qG E o))).ci=s.ci/\s.aL<=(u.put s0.aL (some (qG E o))).aL/\gM r 0 s0 (s.Gt (u.put s0.aL (some (qG E o))))/\(u.put s0.aL (some (qG E o))).get [] s0.aL=some (qG E o):=fun o=>by
  have qn:(u.put s0.aL (some (qG E o))).aL=u.aL:=rfl;have qc:(u.put s0.aL (some (qG E o))).ci=s.ci:=F.ci.trans xc;refine⟨qc,by omega,⟨fun j d=>?_,pB a3 (by omega),?_,qc.trans Z.ci⟩,by rw[aR,bS];rfl⟩;rw[lL,aR,bN.2 (by omega:j≠s0.aL)];exact(F.old j (by omega)).trans (e j d);show s0.aL<u.aL;omega
 rcases hc with⟨rfl,a2⟩|⟨rfl,S⟩
 obtain⟨f1,f2,f3,f4⟩:=g1 none;exact⟨f1,f2,f3,.inl ⟨rfl,f4,a2⟩⟩;obtain⟨f1,f2,f3,f4⟩:=g1 (some .ret);exact⟨f1,f2,f3,.inr ⟨rfl,f4,S⟩⟩
