/- Lemmas for ValidShown. -/
import Derived.Test.YtnnppcoplinajaaGreatB10
import Derived.Test.YtnnppcoplinajaaGreatB6
import Derived.Test.YtnnppcoplinajaaGreatB11
import Derived.Test.YtnnppcoplinajaaGreatB9
import Derived.Test.YtnnppcoplinajaaGreatAg3
import Derived.Test.YtnnppcoplinajaaGreatB5
set_option linter.all false
open Bool renaming and_eq_true→bq,and_false→gA,and_self→bX,and_true→mY,eq_iff_iff→GN,false_or→jV,not_eq_true'→oA,not_true→lD,true_and→eC
open Int renaming toNat_of_nonneg→K5
open List renaming all_cons→kx,all_eq_true→fD,append_assoc→oC,append_nil→ky,cons_append→sP,drop_eq_nil_of_le→GP,drop_zero→pn,drop→bL,ext_getElem→GQ,filterMap_cons→xK,finRange→xL,flatMap_cons→D5,foldl_cons→xM,getD_eq_getElem?_getD→m8,getElem?_cons_succ→mg,getElem?_cons_zero→kz,getElem?_eq_getElem→gB,getElem?_eq_some_iff→nR,getElem?_map→jo,getElem?_take→GU,getElem_mem→zS,getElem_of_mem→Lb,head?_drop→GV,length_append→de,length_cons→cX,length_filter_le→kA,length_map→bU,length_nil→ct,length_range→D6,length_set→GX,length_tail→xO,length→BI,map_append→eK,map_congr_left→BJ,map_cons→eT,map_eq_nil_iff→zT,map_map→m9,mem_append→hQ,mem_cons_of_mem→iw,mem_cons_self→fE,mem_cons→dG,mem_filter→jp,mem_flatMap→sS,mem_map→cw,mem_of_getElem?→dM,mem_singleton→vQ,nodup_nil→BL,not_mem_nil→xQ,of_mem_zip→G3,pairwise_append→Lf,pairwise_map→G4,range→hZ,replicate→gD,take_of_length_le→sU,take→cQ
open Nat renaming beq→aK,ble_eq_true_of_le→cN,ble→bu,blt→bh,eq_of_beq_eq_true→jI,le_refl→bj,le_succ_of_le→bW,le_succ→jW,le_trans→eL,lt_irrefl→cq,lt_succ_self→jX,mod_lt→vV,mul_le_mul→rC,reduceAdd→bH,reduceBEq→ai,reduceDiv→ek,reduceEqDiff→d8,reduceLT→aA,reduceLeDiff→cz,reduceMod→dP,reduceMul→dH,reducePow→dR,reduceSub→dS,zero_add→eM,zero_le→jY
open Go.Op renaming bytesLess→fh
open Option renaming bind_eq_some_iff→ak,bind_some→bk,map_eq_some_iff→uy,map_none→sV,map_some→jZ
open Option.some renaming injEq→aM
open Prod.mk renaming injEq→bC
open Go.Proofs.Tryz renaming prog→ah
open Go.Ag.W renaming drawX→gi,loopC→bm,loopE→kB
open Go.Ag.WC renaming sound→bP
namespace Go.Proofs.YtnnppcoplinajaaGreat
open Go.Ag
open Go.Sort (SWO)
variable{α:Type}
def KQ{d:α->α->Int}(k:α->Int×Int)(h: ∀x y,d x y<0↔((k x).1<(k y).1\/((k x).1=(k y).1/\(k x).2<(k y).2))):SWO (ltOf d) where
 irrefl x:=by
  simp only[ltOf,decide_eq_false_iff_not,h];omega
 trans x y z h1 h2:=by
  simp only[ltOf,dE,h] at*;omega
 ntrans x y z h1 h2:=by
  simp only[ltOf,decide_eq_false_iff_not,h] at*;omega
def J8{a b c d:Int}:lW [iW a b,c-d]<0↔(a<b\/(a=b/\c<d)):=by
 rw[QU];unfold iW;by_cases h1:a<b;simp[aX,an,h1];by_cases h2:b<a;have: ¬a=b:=by omega
 simp[aX,an,h1,h2,this];have:a=b:=by omega
 subst this;simp[aX,an];omega
def F9{a b c d:Int}:lW [a-b,c-d]<0↔(a<b\/(a=b/\c<d)):=by
 rw[QU];cases h:an (a-b) 0 with
 |true=>
  have:a-b=0:=by simpa[an] using h
  simp only[cT];omega
 |false=>
  have:a-b≠0:=by simpa[an] using h
  simp only[cF];omega
def em{α:Type}(e:α->α->Int)(d:α)(l:List α)(i j:Nat):Int:=e (l.getD i d) (l.getD j d)
def jU{α:Type}(e:α->α->Int)(d:α)(l:List α):List α:=(xh (em e d l) l.length).map fun i=>l[i]
theorem vE(j:α->α->Int)(d:α)(l:List α):(jU j d l).Perm l:=by
 have h:=(QX (em j d l) l.length).map fun i=>l[i];have e:(xL l.length).map (fun i=>l[i])=l:=by
  refine GQ (by simp) fun i w u=>?_;simp
 rwa [e] at h
def R3(e:α->α->Int)(d:α)(enc:α->aa)(l:List α):zD (em e d l) (l.map enc)=(jU e d l).map enc:=by
 unfold zD jU;rw[m9];have w:(l.map enc).length=l.length:=bU ..;rw[show(xh (em e d l) (l.map enc).length).map (fun i=>(l.map enc)[i])=(xh (em e d l) l.length).map (enc ∘ fun i=>l[i]) from ?_];have gen: ∀n (u:n=l.length) (r:List aa) (j:r.length=n) (h: ∀i (y:i<r.length) (x:i<l.length),r[i]=enc l[i]),(xh (em e d l) n).map (fun i=>r[i.1]'(by rw[j];exact i.2))=(xh (em e d l) l.length).map (enc ∘ fun i=>l[i]):=by
  intro n u r j h;subst u;refine BJ fun i _=>?_;exact h i _ _
 exact gen _ w (l.map enc) rfl fun i y x=>by simp
def KG(e:α->α->Int)(d:α)(l:List α)(u:SWO (ltOf fun x y:Fin l.length=>em e d l x y)):(jU e d l).Pairwise fun a b=> ¬e b a<0:=by
 unfold jU;rw[G4];have w:=List.pairwise_mergeSort (le:=fun i j:Fin l.length=> !(ltOf fun x y:Fin l.length=>em e d l x y) j i) (fun a b c A z=>by
  simp only[oA] at*;exact u.ntrans _ _ _ z A) (fun a b=>by
  simp only[Bool.or_eq_true,oA];cases h:(ltOf fun x y:Fin l.length=>em e d l x y) b a with
  |false=>exact .inl rfl
  |true=>
   right;cases h':(ltOf fun x y:Fin l.length=>em e d l x y) a b with
   |false=>rfl
   |true=>
    have:=u.trans _ _ _ h h';rw[u.irrefl] at this;cases this) (xL l.length)
 refine w.imp fun {i j} h=>?_;simp only[oA,ltOf,decide_eq_false_iff_not,em] at h;simpa[m8] using h
noncomputable def uO{α:Type}(enc:α->aa)(cs:List aa):Option (List α):=by
 classical exact if h: ∃l:List α,cs=aG (l.map enc) then some h.choose else none
def M4{enc:α->aa}{cs:List aa}{l:List α}(h:uO enc cs=some l):cs=aG (l.map enc):=by
 unfold uO at h;split at h;rename_i d;injection h with h;subst h
 exact d.choose_spec;cases h
def HF{enc:α->aa}{k:Nat}(d: ∀a,(enc a).cells.length=k)(z:0<k)(A: ∀a b,(enc a).cells=(enc b).cells->a=b)(l:List α):uO enc (aG (l.map enc))=some l:=by
 have j: ∃r:List α,aG (l.map enc)=aG (r.map enc):=⟨l,rfl⟩;unfold uO;rw[dif_pos j];have e: ∀(l r:List α),aG (l.map enc)=aG (r.map enc)->r=l:=by
  intro l
  induction l with
  |nil=>
   intro r h;cases r with
   |nil=>rfl
   |cons y r=>
    have:=congrArg BI h;simp only[List.map_nil,eT,aG,ct,de,d] at this;omega
  |cons x l w=>
   intro r h;cases r with
   |nil=>
    have:=congrArg BI h;simp only[List.map_nil,eT,aG,ct,de,d] at this;omega
   |cons y r=>
    simp only[eT,aG] at h;have u:=List.append_inj h (by rw[d,d]);rw[A _ _ u.1,w r u.2]
 exact congrArg some (e l _ j.choose_spec)
noncomputable def xD{α:Type}(enc:α->aa)(h:α->α->Int)(d:α)(e:List α->Bool)(cs:List aa):Option (List aa):=(uO enc cs).bind fun l=>bif e l then some (aG ((jU h d l).map enc)) else none
noncomputable def xE{α:Type}(enc:α->aa)(h:α->α->Int)(d:α)(e:List α->Bool)(k g:Nat):List aa->Option pA
 | [.arr k' m 0 len _,.func (.func g') [] []]=>bif aK k' k&&aK g' g then some (some (m,fun cs=>t7 (bif aK cs.length (len*k) then xD enc h d e cs else none))) else none
 | [.Ge,.func (.func g') [] []]=>bif aK g' g then some none else none
 |_=>none
variable{f:Nat}
def adF{enc:α->aa}{I:α->α->Int}{d:α}{ok:List α->Bool}{k g:Nat}{ρ:Go.Shelf.Ren}(L:SlLaysF0.n6 ah ρ)(hf:ρ.f 6=f)(aE: ∀w,(isAgg (ρ.t 24)).run ah w= .ok true w)(zE: ∀w,(Go.sizeOf (ρ.t 24)).run ah w= .ok k w)(ef: ∀A w,(callFunc f A).run ah w= .ok (.enter f A) w)(eg: ∀A w,(callFunc g A).run ah w= .ok (.enter g A) w){sp:Sp}(a2:cL ah g sp)(hk: ∀a,(enc a).cells.length=k)(ha: ∀a,enc a= .agg (enc a).cells)(a1:0<k)(hz: ∀a h,fU h (enc a) (enc a))(a5: ∀l,ok l=true->l.length<=1000000/\(∀(i j:Nat) (x y:α),l[i]? =some x->l[j]? =some y->sp [enc x,enc y]=some (.int .i64 (I x y)))/\(SWO (ltOf fun x y:Fin l.length=>em I d l x y))/\(∀x y:Fin l.length,(ltOf fun x y:Fin l.length=>em I d l x y) x y=false->(ltOf fun x y:Fin l.length=>em I d l x y) y x=false->x=y)):
 uF f (xE enc I d ok k g):=by
 subst hf;intro A G h w xs wr hx;refine⟨fun B=>?_,fun n gf cs a7 B hl H=>?_⟩
 ·unfold xE at B
  split at B;obtain⟨_,B⟩:=bc B;cases B
  ·cases hx with
   |cons p q=>
   cases q with
   |cons q r=>
   cases r;cases p;cases q with
   |func q1 q2=>
   cases q1;cases q2;refine .inr ⟨ef _ _,(AnyF.slices_SortFunc_none L none 0 _ w).mono ?_⟩;rintro e w' ⟨rfl,rfl⟩;exact⟨_,rfl,G,wr,.refl,.tup .nil⟩
  cases B
 ·unfold xE at B
  split at B
  ·rename_i k' m len O g'
   have hb:=(bc B).1;have Z:=(bc B).2;clear B;simp only[bq] at hb;have S:=jI hb.1;have N:=jI hb.2;subst S;subst N;injection Z with Z;injection Z with Z;injection Z with a4 a3
   subst a4;subst a3;have H:=Gk H;obtain⟨F,H⟩:=bc H;have F:=jI F;simp only[xD,ak] at H;obtain⟨l,h1,H⟩:=H;obtain⟨h2,H⟩:=bc H;have H:=(sI H).symm;subst H;have a6:=M4 h1;subst a6;have a0: ∀v∈l.map enc,v.cells.length=k'/\v= .agg v.cells:=fun v hv=>by
    obtain⟨a,_,rfl⟩:=cw.1 hv;exact⟨hk a,ha a⟩
   have U:l.length=len:=by
    rw[ot (fun v hv=>(a0 v hv).1),bU] at F;exact Nat.eq_of_mul_eq_mul_right a1 F
   obtain⟨q1,q2,q3,q4⟩:=a5 l h2;cases hx with
   |cons p q=>
   cases q with
   |cons q r=>
   cases r;cases q with
   |func u1 u2=>
   cases u1;cases u2;have J:(l.map enc).length=l.length:=bU ..;have hy: ∀z,VR G (.arr k' m 0 len O) z->VR G (.arr k' m 0 (l.map enc).length O) z:=fun z hz=>by rw[J,U];exact hz
   have gen: ∀n (hn:n=l.length),SWO (ltOf fun x y:Fin n=>em I d l x y)/\(∀x y:Fin n,(ltOf fun x y:Fin n=>em I d l x y) x y=false->(ltOf fun x y:Fin n=>em I d l x y) y x=false->x=y):=by
    intro n hn;subst hn;exact⟨q3,q4⟩
   have Y:=fun hO=>RY L rfl aE zE ef eg a2 wr (rows:=l.map enc) (us:=l.map enc) hl a0 a1 rfl (fun i v u S N=>by
    rw[S] at N;injection N with N;subst N
    rw[jo,uy] at S;obtain⟨a,_,rfl⟩:=S;exact hz a _) (em I d l) (fun i j u u' S N=>by
    rw[jo,uy] at S N;obtain⟨a,g1,rfl⟩:=S;obtain⟨b,g2,rfl⟩:=N;have e:em I d l i j=I a b:=by
     unfold em;rw[m8,m8,g1,g2];rfl
    rw[q2 i j a b g1 g2,e]) hO (gen _ J).2 (by rw[J];exact q1) (hy _ p)
   rw[R3] at Y;exact Y (gen _ J).1
  obtain⟨_,B⟩:=bc B;cases B;cases B
def xY:aa->Option cP
 | .agg [.int .i64 i,.int .i64 a,.int .i64 b,.int .i64 c,.int .i64 d,.int .i64 lx,.int .i64 hx,.int .i64 ly,.int .i64 hy]=>
   bif lx==min a c&&(hx==max a c&&(ly==min b d&&hy==max b d)) then some (i,((a,b),(c,d))) else none
 |_=>none
variable{v:aa}
def UB{x:cP}(h:xY v=some x):v=cK x:=by
 unfold xY at h;split at h;obtain⟨d,h⟩:=bc h;injection h with h;subst h
 simp only[bq,bE] at d;obtain⟨rfl,rfl,rfl,rfl⟩:=d;rfl;cases h
def L5(x:cP):xY (cK x)=some x:=by
 simp only[xY,cK,iZ,jz,u4,qQ,qM,bS,bX,cT]
def Aj:aa->Option Mt
 | .agg [.int .i64 a,.int .i64 b,.int .i64 c]=>some (a,b,c)
 |_=>none
def UD{x:Mt}(h:Aj v=some x):v=gu x:=by
 unfold Aj at h;split at h;injection h with h;subst h;rfl
 cases h
def L6(x:Mt):Aj (gu x)=some x:=rfl
def mS(n:Int):Bool:=decide (0<=n)&&decide (n<=1000000)
theorem KF{a b:Int}(e:mS a=true)(d:mS b=true):IntKind.i64.wrap (a-b)=a-b:=by
 grind [mS,jf]
def yf(x y:cP):Int:=lW [iW (jz x.2) (jz y.2),x.1-y.1]
def tu(x y:Mt):Int:=lW [x.1-y.1,x.2.1-y.2.1]
def MQ:Sp
 | [u,v]=>(xY u).bind fun x=>(xY v).bind fun y=>bif mS x.1&&mS y.1 then some (bF (yf x y)) else none
 |_=>none
def MS:Sp
 | [u,v]=>(Aj u).bind fun x=>(Aj v).bind fun y=>bif mS x.1&&(mS y.1&&(mS x.2.1&&mS y.2.1)) then some (bF (tu x y)) else none
 |_=>none
def LG:df:=[(232,oN),(108,vp)]
def T9:dl LG:=.cons Hy (.cons abQ .nil)
def ais:cL ah 305 MQ:=by
 refine qa T9 fun e u h=>?_;unfold MQ at h;split at h;simp only[ak] at h;obtain⟨x,w,y,j,h⟩:=h;obtain⟨d,h⟩:=bc h;simp only[bq] at d;have h:=sI h;subst h;rw[UB w,UB j];exact⟨rfl,_,_,ait (sp:=fun f=>gg f LG) rfl rfl rfl (KF d.1 d.2) (bj _),rfl,⟨1,rfl⟩⟩;cases h
def aiw:cL ah 310 MS:=by
 refine qa T9 fun e u h=>?_;unfold MS at h;split at h;simp only[ak] at h;obtain⟨x,w,y,j,h⟩:=h;obtain⟨d,h⟩:=bc h;simp only[bq] at d;have h:=sI h;subst h;rw[UD w,UD j];exact⟨rfl,_,_,aix (sp:=fun f=>gg f LG) rfl rfl (KF d.1 d.2.1) (KF d.2.2.1 d.2.2.2) _,rfl,⟨1,rfl⟩⟩;cases h
noncomputable def FW(l:List cP):Bool:=by classical exact decide (l.length<=1000000/\(∀x∈l,mS x.1=true)/\(l.map (·.1)).Nodup)
noncomputable def FX(l:List Mt):Bool:=by classical exact decide (l.length<=1000000/\(∀x∈l,mS x.1=true/\mS x.2.1=true)/\(l.map fun m=>(m.1,m.2.1)).Nodup)
variable{β:Type}
theorem JJ{k:α->β}{l:List α}(h:(l.map k).Nodup){i j:Nat}{x y:α}(u:l[i]? =some x)(d:l[j]? =some y)(e:k x=k y):i=j:=by
 have z:(l.map k)[i]? =some (k x):=by rw[jo,u];rfl
 have w:(l.map k)[j]? =some (k x):=by rw[jo,d,e];rfl
 grind [List.getElem?_inj]
def Ct{l:List α}{d:α}(i:Fin l.length):l.getD i d=l[i]:=by
 rw[m8];simp
noncomputable def RZ:=xE cK yf (0,((0,0),(0,0))) FW 9 305
noncomputable def R1:=xE gu tu (0,0,0) FX 3 310
def axz:uF 304 RZ:=by
 refine adF Tryz.sortF304 rfl Tryz.isAgg368 Tryz.sizeOf368 (Go.Proofs.enters_of Tryz.func304 (by kernel_rfl) rfl) (Go.Proofs.enters_of Tryz.func305 (by kernel_rfl) rfl) ais (fun _=>rfl) (fun _=>rfl) (by decide) (fun a h=>⟨2,rfl⟩) fun l d=>?_;simp only[FW,dE] at d;refine⟨d.1,fun i j x y z w=>?_,?_,?_⟩;have u:=d.2.1 x (dM z);have e:=d.2.1 y (dM w);simp only[dX,MQ,L5,u,e,bX];rfl;exact KQ (fun i:Fin l.length=>(jz (l.getD i (0,((0,0),(0,0)))).2,(l.getD i (0,((0,0),(0,0)))).1)) fun x y=>J8;intro x y u e;simp only[ltOf,decide_eq_false_iff_not,em,yf,J8,Ct] at u e;exact Fin.ext (JJ d.2.2 (i:=x) (j:=y) (x:=l[x]) (y:=l[y]) (by simp) (by simp) (by omega))
def axC:uF 309 R1:=by
 refine adF Tryz.sortF309 rfl Tryz.isAgg290 Tryz.sizeOf290 (Go.Proofs.enters_of Tryz.func309 (by kernel_rfl) rfl) (Go.Proofs.enters_of Tryz.func310 (by kernel_rfl) rfl) aiw (fun _=>rfl) (fun _=>rfl) (by decide) (fun a h=>⟨2,rfl⟩) fun l d=>?_;simp only[FX,dE] at d;refine⟨d.1,fun i j x y z w=>?_,?_,?_⟩;have u:=d.2.1 x (dM z);have e:=d.2.1 y (dM w);simp only[dX,MS,L6,u.1,u.2,e.1,e.2,bX];rfl;exact KQ (fun i:Fin l.length=>((l.getD i (0,0,0)).1,(l.getD i (0,0,0)).2.1)) fun x y=>F9;intro x y u e;simp only[ltOf,decide_eq_false_iff_not,em,tu,F9,Ct] at u e;exact Fin.ext (JJ d.2.2 (i:=x) (j:=y) (x:=l[x]) (y:=l[y]) (by simp) (by simp) (by
  simp only[bC];omega))
abbrev rJ:=List (Nat×(List aa->Option pA))
def KT(f:Nat):rJ->Option (List aa->Option pA)
 | []=>none
 |(k,v)::l=>bif aK k f then some v else KT f l
def tg(t:rJ):Prop:= ∀p∈t,uF p.1 p.2
def tg.nil:tg []:=fun _ h=>by cases h
def tg.cons{sp:List aa->Option pA}{t:rJ}(h:uF f sp)(e:tg t):tg ((f,sp)::t):=by
 intro p d;rcases dG.1 d with rfl|d
 exact h;exact e p d
def aew{f:Nat}{sp:List aa->Option pA}: ∀ {t:rJ},KT f t=some sp->(f,sp)∈t
 | [],h=>by cases h
 |(k,v)::l,h=>by
  simp only[KT] at h;cases hk:aK k f with
  |true=>
   simp_all
  |false=>
   rw[hk] at h;exact iw _ (aew h)
noncomputable def QW(T:df)(W:rJ)(ch:Nat->Nat):aF:= {P:=ah,hint:=aj,spec:=fun f=>gg f T,ch:=ch,kmax:=fun _=>1000000,specW:=fun f=>KT f W }
instance(T:df)(W:rJ)(ch:Nat->Nat):Std (QW T W ch):=⟨rfl,rfl,fun _=>rfl⟩
variable{T:df}
theorem Xa(j:dl T){W:rJ}(e:tg W):Ag.AL (QW T W fun _=>0) where
 mixed:=aaK
 spec f sp hsp args v hv G hp w xs wr hx:=j _ (Su hsp) args v hv G hp w xs wr hx
 specH f sp h args v G hp w xs wr hx hv:=by cases h
 specW f sp h:=e _ (aew h)
 names f fn d:=by
  have d:ah.funcs[f]? =some fn:=d
  grind [aaO]
def iu(Y:dl T){W:rJ}(U:tg W){f:FuncId}{args:List aa}{u:aa}(J:dK args=true)(I: ∀d, ∃v s',aq (QW T W d) f (dj args) s0 v s'/\fU s'.heap v u)(G:Gh)(h:aD aJ)(w:World)(xs:List Value)(wr:WR G h w)(H:bV G args xs):
 mj ah f ⟨xs⟩ w fun y F=> ∃A,WR A h F/\cO G h w A h F 0 0/\VR A u y:=by
 obtain⟨N,Z⟩:=fan (B:=1000000) (by omega) (fun d n=> ∃v s',(ce (QW T W d) n).call f (dj args) [] s0=some (v,s')/\fU s'.heap v u)
  (fun d n m x ⟨v,s',j,e⟩=>⟨v,s',(nB (QW T W d) x).call _ _ _ _ _ j,e⟩)
  (fun d n ⟨v,s',j,e⟩=>⟨s'.ci,fun z S=>⟨v,s',(tS (QW T W fun _=>0) n).call f _ [] d s0 v s' j z S,e⟩⟩)
  (fun d _=>let⟨v,s',⟨n,j⟩,e⟩:=I d;⟨n,v,s',j,e⟩)
 exact adK (Q:=QW T W fun _=>0) (n:=N) (Xa Y U) (fun _=>(by decide:0<1000000)) J (fun d O=>Z d O) G h w xs wr H
def GD(F:dl T){W:rJ}(B:tg W){sp:Sp}(h: ∀args u,sp args=some u->pures args=true/\ ∀H, ∃v s',aq (QW T W H) f args s0 v s'/\fU s'.heap v u):cL ah f sp:=by
 intro args x y G A w xs e j;obtain⟨d,z⟩:=h args x y;exact iu F B (args:=args) (vH d) (by rw[kw d];exact z) G A w xs e j
def jb{α β:Type}(F:α->α->Option β):List α->List β
 | []=>[]
 |a::l=>l.filterMap (F a)++jb F l
theorem acs{α β:Type}{F:α->α->Option β}(d: ∀a b,F a b=F b a)(a:α): ∀l:List α,(jb F (l++[a])).Perm (jb F l++l.filterMap (F a))
 | []=>by simp[jb]
 |b::l=>by
  have u:=acs d a l;rw[sP,jb,jb,List.filterMap_append,xK (a:=b),d a b];have e:[a].filterMap (F b)=(F b a).toList:=by
   cases h:F b a<;>simp[h]
  rw[e];have j: ∀o:Option β,(l.filterMap (F b)++o.toList++jb F (l++[a])).Perm (l.filterMap (F b)++jb F l++(o.toList++l.filterMap (F a))):=fun o=>by
   simp only[oC];refine List.Perm.append_left _ ((List.Perm.append_left _ u).trans ?_)
   grind [List.perm_append_comm]
  grind
theorem avp{F:α->α->Option β}(j: ∀a b,F a b=F b a){l d:List α}(h:l.Perm d):(jb F l).Perm (jb F d):=by
 induction h with
 |nil=>exact .refl _
 |cons a h e=>exact(h.filterMap _).append e
 |swap a b l=>
  rw[jb,jb,jb,jb,xK,xK,j a b];cases F b a with
  |none=>
   grind [List.Perm.append_right,List.perm_append_comm]
  |some x=>
   simp only[];rw[sP,sP,<-oC,<-oC];exact(List.Perm.append_right _ List.perm_append_comm).cons _
 |trans _ _ w u=>exact w.trans u
def xF{α β:Type}(keep:α->α->Bool)(G:α->α->Option β):List α->List α->List β->List β
 | [],_,out=>out
 |a::l,act,out=>xF keep G l (act.filter (keep a)++[a]) (out++(act.filter (keep a)).filterMap (G a))
theorem HO{α β:Type}{p:α->Bool}{f:α->Option β}(h: ∀x,p x=false->f x=none): ∀l:List α,(l.filter p).filterMap f=l.filterMap f
 | []=>rfl
 |x::l=>by
  cases hp:p x with
  |true=>rw[List.filter_cons_of_pos hp,xK,xK,HO h l]
  |false=>rw[List.filter_cons_of_neg (by simp[hp]),xK,h x hp,HO h l]
theorem adV{α β:Type}{keep:α->α->Bool}{F:α->α->Option β}{low:α->Int}(u: ∀a b,F a b=F b a)(j: ∀a b c,keep a b=false->low a<=low c->F c b=none):
 ∀(l P act:List α) (out:List β),(P++l).Pairwise (fun a b=>low a<=low b)->(∀c,(∀x∈P,low x<=low c)->P.filterMap (F c)=act.filterMap (F c))->out.Perm (jb F P)->(xF keep F l act out).Perm (jb F (P++l))
 | [],P,act,out,_,_,ho=>by simpa[xF] using ho
 |a::l,P,act,out,hs,ha,ho=>by
  have e:P++a::l=(P++[a])++l:=by simp
  have h: ∀x∈P,low x<=low a:=fun x d=>(Lf.1 hs).2.2 x d a fE;rw[xF,e];rw[e] at hs;refine adV u j l (P++[a]) _ _ hs ?_ ?_
  grind [HO]
  refine List.Perm.trans ?_ (acs u a P).symm;rw[HO fun x d=>j a x a d (Int.le_refl _),<-ha a h];exact ho.append_right _
def ax5{keep:α->α->Bool}{F:α->α->Option β}{low:α->Int}(d: ∀a b,F a b=F b a)(j: ∀a b c,keep a b=false->low a<=low c->F c b=none){l r:List α}(e:l.Pairwise (fun a b=>low a<=low b))(h:l.Perm r):(xF keep F l [] []).Perm (jb F r):=
 (adV d j l [] [] [] e (fun _ _=>rfl) (.refl _)).trans (avp d h)
def fM(a b:cP):Option Mt:=bif an (jj a.2 b.2) 0 then none else some (min a.1 b.1,max a.1 b.1,jj a.2 b.2)
def ajC(a b:cP):fM a b=fM b a:=by
 unfold fM;rw[aaB a.2 b.2,Int.min_comm,Int.max_comm]
theorem Wp{a b:cP}(h: ¬boxes a.2 b.2):fM a b=none:=by
 grind [fM,an,asU]
def iz:Nat->List bK->List cP
 |_,[]=>[]
 |i,s::l=>(((i:Nat):Int),s)::iz (i+1) l
theorem wJ: ∀(l:List bK) (i:Nat),(iz i l).length=l.length
 | [],_=>rfl
 |_::l,i=>by rw[iz,cX,wJ l,cX]
theorem AW: ∀ {l:List bK} {i:Nat} {x:cP},x∈iz i l->(i:Int)<=x.1/\x.1<(i+l.length:Nat)
 | [],_,_,h=>by cases h
 |s::l,i,x,h=>by
  rcases dG.1 h with rfl|h
  grind
  have:=AW h;simp only[cX];omega
theorem CE: ∀(l:List bK) (i:Nat),(iz i l).Pairwise fun a b=>a.1<b.1
 | [],_=>.nil
 |s::l,i=>.cons (fun x d=>by have:=AW d;omega) (CE l (i+1))
def gm(l:List bK):List Mt:=jb fM (iz 0 l)
def yU(a b:Mt):Prop:=a.1<b.1\/(a.1=b.1/\a.2.1<b.2.1)
theorem Cj{a b:cP}{m:Mt}(h:fM a b=some m):m.1=min a.1 b.1/\m.2.1=max a.1 b.1:=by
 grind [fM]
theorem Ka{α β:Type}{F:α->α->Option β}{m:β}: ∀ {l:List α},m∈jb F l-> ∃x∈l, ∃y∈l,F x y=some m
 | [],h=>by cases h
 |a::l,h=>by
  rcases hQ.1 h with h|h
  grind
  obtain⟨x,j,y,e,d⟩:=Ka h
  grind
def Gb{α β:Type}{F:α->α->Option β}: ∀l:List α,(jb F l).length<=l.length*l.length
 | []=>by simp[jb]
 |a::l=>by
  have e:=List.length_filterMap_le (F a) l;have d:=Gb (F:=F) l;rw[jb,de,cX,Nat.add_mul,Nat.mul_add];omega
theorem Gc: ∀ {l:List cP},l.Pairwise (fun a b=>a.1<b.1)->(jb fM l).Pairwise yU
 | [],_=>.nil
 |a::l,.cons h1 h2=>by
  rw[jb,Lf];refine⟨?_,Gc h2,fun x j y h=>?_⟩;rw[List.pairwise_filterMap];refine(List.Pairwise.and_mem.1 h2).imp ?_;rintro x y ⟨j,h,w⟩ b B c A;have G:=Cj B;have F:=Cj A
  grind [yU]
  obtain⟨z,H,d⟩:=List.mem_filterMap.1 j;obtain⟨u,J,v,I,e⟩:=Ka h;have G:=Cj d;have F:=Cj e
  grind [yU]
def d9:cP:=(0,((0,0),(0,0)))
def d3:Mt:=(0,0,0)
def ax7(l:List cP):SWO (ltOf fun x y:Fin l.length=>em yf d9 l x y):=KQ (fun i:Fin l.length=>(jz (l.getD i d9).2,(l.getD i d9).1)) fun _ _=>J8
def ax8(l:List Mt):SWO (ltOf fun x y:Fin l.length=>em tu d3 l x y):=KQ (fun i:Fin l.length=>((l.getD i d3).1,(l.getD i d3).2.1)) fun _ _=>F9
def zF(l:List bK):List cP:=jU yf d9 (iz 0 l)
def tB(l:List bK):List Mt:=xF (fun a x=> !iL a x) fM (zF l) [] []
def R8(l:List bK):(zF l).Perm (iz 0 l):=vE _ _ _
def Cs(l:List bK):(tB l).Perm (gm l):=by
 refine ax5 (low:=fun a:cP=>jz a.2) ajC ?_ ?_ (R8 l);intro a b c d h;refine Wp fun e=>?_;have d:u4 b.2<jz a.2:=by simpa[iL,aX] using d
 have:=e.1.1;simp only[jz,u4] at*;omega;refine(KG yf d9 _ (ax7 _)).imp ?_
 simp_all [yf,J8]
variable{l:List bK}
theorem aob(h:l.length<=1000):FW (iz 0 l)=true:=by
 simp only[FW,dE];refine⟨by rw[wJ];omega,fun x d=>?_,?_⟩
 have:=AW d;simp only[mS,bq,dE];omega
 grind [CE]
theorem akJ(h:l.length<=1000):FX (tB l)=true:=by
 have d:=Cs l;simp only[FX,dE];refine⟨?_,fun x u=>?_,?_⟩;rw[d.length_eq]
 have:=Gb (F:=fM) (iz 0 l);rw[wJ] at this;have:l.length*l.length<=1000*1000:=rC h h;unfold gm;omega;obtain⟨a,y,b,w,j⟩:=Ka (d.mem_iff.1 u);have e:=Cj j;have A:=AW y;have z:=AW w;simp only[mS,bq,dE];omega;rw[(d.map _).nodup_iff,List.nodup_iff_pairwise_ne,G4];refine(Gc (CE l 0)).imp fun h=>?_
 grind [yU]
theorem akK(l:List bK):jU tu d3 (tB l)=gm l:=by
 refine List.Perm.eq_of_pairwise (le:=fun a b=> ¬tu b a<0) (fun a b d u j e=>?_) (KG tu d3 _ (ax8 _)) ?_ ((vE _ _ _).trans (Cs l));have d:=((vE tu d3 (tB l)).trans (Cs l)).mem_iff.1 d;simp only[tu,F9] at j e
 grind [gm,yU,Gc,CE,Lb,List.pairwise_iff_getElem]
 refine(Gc (CE l 0)).imp fun h=>?_;simp only[yU] at h;simp only[tu,F9];omega
end Go.Proofs.YtnnppcoplinajaaGreat
namespace Go.Proofs.YtnnppcoplinajaaGreat
open Go.Ag
variable{Q:aF}[Std Q]
theorem XT: ∀(l:List bK) (i:Nat) (s:bK),iz i (l++[s])=iz i l++[(((i+l.length:Nat):Int),s)]
 | [],i,s=>rfl
 |x::l,i,s=>by
  rw[sP,iz,XT l,iz,cX,show i+1+l.length=i+(l.length+1) by omega];rfl
def Bm(d:List bK)(n:Nat):List cP:=iz 0 d++gD n BE
theorem awx(d:List bK)(s:bK)(n:Nat):(Bm d (n+1)).set d.length (((d.length:Nat):Int),s)=Bm (d++[s]) n:=by
 grind [Bm,List.set_append_right,wJ,XT]
def aww(d:List bK)(n:Nat):(Bm d n).length=d.length+n:=by
 unfold Bm;rw[de,wJ,List.length_replicate]
def at1:cL ah 303 Ba:=by
 refine qa (T:=[]) .nil fun d u h=>?_;unfold Ba at h;split at h;have h:=sI h;subst h;exact⟨rfl,_,_,at3 (sp:=fun f=>gg f []) rfl _ _ _,rfl,⟨2,rfl⟩⟩;cases h
def Ap:Sp
 | [.agg [.int .i64 a,.int .i64 b],.agg [.int .i64 c,.int .i64 d]]=>some (.bool (b9 a d&&b9 c b))
 |_=>none
def agW:cL ah 308 Ap:=by
 refine qa (T:=[]) .nil fun e u h=>?_;unfold Ap at h;split at h;rename_i a b c d;have h:=sI h;subst h;exact⟨rfl,_,_,agY (sp:=fun f=>gg f []) rfl (a,b) (c,d) _,rfl,⟨1,rfl⟩⟩;cases h
variable{m:Nat}{s s':St}
def dr.putT(h:dr m s s')(o:Option aJ):dr m s (s'.GE (s'.top.put m o)):=
 ⟨fun k d=>by rw[lR,aU,bN.2 d];exact h.old k d,h.aL,h.ci,pL h.mw (bj _)⟩
variable{K:Ex->Fr->St->Prop}{segs:List bK}{sv:aa}
theorem aoa(y:Q.spec 303=some Ba)(Z:au 4 bO sv segs)(O:segs.length<=1000){s0:St}(hx: ∀e lc s,ac e 4= .arr 9 m 0 segs.length segs.length->dr m s0 s->s.get [] m=some (.cells (aG ((iz 0 segs).map cK)))->K (.exit 0) ⟨e,102,lc⟩ s):
 ∀(h d:List bK) (e:aw) (lc:Ag.Loc) (s:St),segs=d++h->dr m s0 s->s.get [] m=some (.cells (aG ((Bm d h.length).map cK)))->
  ac e 4= .arr 9 m 0 segs.length segs.length->ac e 20=sv->ac e 21=aI segs.length->ac e 22=aI d.length->W Q 224 (.loop OX) ⟨e,102,lc⟩ s K:=by
 intro h
 induction h with
 |nil=>
  intro d e lc s z H N J u j x;have F:d.length=segs.length:=by rw[z];simp
  refine bm ?_;simp only[aR,jM,ie,isStore,fP,fH,cut,eR,cQ,bL,ai,aA,bH,dH,dS,d8,cz,tD,dR,dP,reduceCtorEq,EW,iE,Gp,ofValue,pP,Mg,Em,Mo,jn,Kh,acK,xr,Gm,mP,Dt,Du,rh,zi,acM,Ki,wB,yx,Ck,qH,oS,Cl,mz,qI,uT,AA,eO,bT,lf,sJ,adw,UV,acL,ad2,adv,Mi,Mm,Mn,Rp,Ru,Kg,Sg,Sl,Sm,SQ,SR,SV,SW,Nh,Ni,HK,Nj,Nn,Np,Nq,Nr,Nt,Nu,vD,sH,zC,Ml,Mh,Rr,Sh,uh,SU,HM,Nk,iq,Rv,Rm,Rs,Sn,Si,SS,yF,vh,Mj,Ro,Rq,Rt,Rx,Ry,Rn,Sk,So,Sj,SX,ST,HL,Nl,Nm,Nv,Nw,Nx,Ny,Nz,HN,NA,EH,ow,DF,XB,C5,AZ,N5,OW,Lu,Lp,Ll,Ls,Lj,Li,Lr,Ln,Lk,Lm,Lq,M3,M2,LO,LM,LN,LP,Oc,Ob,M6,M5,MB,MC,MA,Mz,Se,Sd,mF,aP,aQ,nC,ii,Std.P,Std.hint,OX,u,j,x,F,cq]
  grind [iQ,Bm]
 |cons g h Y=>
  intro d e lc s z H N J u j x;have B:d.length<segs.length:=by rw[z];simp
  have I:segs[d.length]? =some g:=by rw[z];simp
  have G:=fun lc k=>Z.at vD.2.2.1 I lc k;have A:=da (n:=d.length) (by omega);have U:Ba [ag g.1.1,ag g.2.1]=some (aN (jz g,u4 g)):=rfl;have S:Ba [ag g.1.2,ag g.2.2]=some (aN (qQ g,qM g)):=rfl;have w:=XS (s:=s.top) N (i:=d.length) (by rw[aww,cX];omega) ((((d.length:Nat):Int)),g);rw[cX,awx] at w;simp only[cK,iZ] at w;refine bm ?_;simp only[aR,jM,ie,isStore,fP,fH,cut,eR,cQ,bL,ai,aA,bH,dH,dS,d8,cz,tD,dR,dP,reduceCtorEq,EW,iE,Gp,ofValue,pP,Mg,Em,Mo,jn,Kh,acK,xr,Gm,mP,Dt,Du,rh,zi,acM,Ki,wB,yx,Ck,qH,oS,Cl,mz,qI,uT,AA,eO,bT,lf,sJ,adw,UV,acL,ad2,adv,Mi,Mm,Mn,Rp,Ru,Kg,Sg,Sl,Sm,SQ,SR,SV,SW,Nh,Ni,HK,Nj,Nn,Np,Nq,Nr,Nt,Nu,vD,sH,zC,Ml,Mh,Rr,Sh,uh,SU,HM,Nk,iq,Rv,Rm,Rs,Sn,Si,SS,yF,vh,Mj,Ro,Rq,Rt,Rx,Ry,Rn,Sk,So,Sj,SX,ST,HL,Nl,Nm,Nv,Nw,Nx,Ny,Nz,HN,NA,EH,ow,DF,XB,C5,AZ,N5,OW,Lu,Lp,Ll,Ls,Lj,Li,Lr,Ln,Lk,Lm,Lq,M3,M2,LO,LM,LN,LP,Oc,Ob,M6,M5,MB,MC,MA,Mz,Se,Sd,mF,aP,aQ,nC,ii,Std.P,Std.hint,OX,J,u,j,x,B,G,A,bO,y,U,S,aN,cS,H.mw,w,bf,aZ,aW,aY,evc,kz,mg];refine⟨rfl,Y (d++[g]) _ _ _ (by rw[z];simp) (H.putT _) (by rw[lR,aU,bS];rfl) ?_ ?_ ?_ ?_⟩
  all_goals simp only[aV,kS,ai,J,u,j]
def jE:aa->Option Nat
 | .arr _ n _ _ _=>some n
 |_=>none
def kD(sz:Nat)(s:St)(v:aa)(xs:List aa):Prop:=(v= .Ge/\xs=[])\/(xs≠ []/\ ∃k,v= .arr sz k 0 xs.length xs.length/\s.get [] k=some (.cells (aG xs))/\k<s.aL)
variable{xs:List aa}{sz:Nat}{v:aa}
def kD.ge(h:kD sz s v xs):v.ge=true:=by
 rcases h with⟨rfl,_⟩|⟨_,k,rfl,_⟩<;>rfl
def kD.mono(h:kD sz s v xs)(d: ∀n,jE v=some n->s'.get [] n=s.get [] n)(u:s.aL<=s'.aL):kD sz s' v xs:=by
 rcases h with h|⟨j,k,rfl,e,w⟩
 exact .inl h;exact .inr ⟨j,k,rfl,by rw[d k rfl];exact e,by omega⟩
def kD.lt(h:kD sz s v xs): ∀n,jE v=some n->n<s.aL:=by
 intro n d;rcases h with⟨rfl,_⟩|⟨_,k,rfl,_,h⟩
 cases d;cases d;exact h
def L1{t:TypeId}{E:EI}(I:lY ah t=some E)(z:E.n=sz)(S:E.b<=88)(x:aa)(u: ∀y∈xs,y.cells.length=sz)(H:xs.length<1000000)(G:s.gE<=s.aL)(h:kD sz s v xs):
 ∃d,eU ah [] t v (.list sz [x] .GT) true s=some (.arr sz s.aL 0 (xs.length+1) (xs.length+1),d)/\kD sz d (.arr sz s.aL 0 (xs.length+1) (xs.length+1)) (xs++[x])/\d.aL=s.aL+1/\d.ci=s.ci/\d.gE<=d.aL/\(∀n,n<s.aL->jE v≠some n->d.get [] n=s.get [] n):=by
 subst z;have j:iR (xs.length+1) E.b=true:=vw (by omega) S;have N:(xs++[x]).length=xs.length+1:=by simp
 rcases h with⟨rfl,rfl⟩|⟨_,k,rfl,O,J⟩
 refine⟨s.new (.cells (aG [x])),?_,.inr ⟨by simp,s.aL,rfl,?_,jX _⟩,rfl,rfl,bW G,fun n z _=>?_⟩;have j:iR 1 E.b=true:=j;simp only[fc,eU,I,bk,ee,ju,ki,cX,ct,eM,j];rw[eN,bS];rfl;rw[eN,bN.2 (by omega:n≠s.aL)];rfl;have F:(aG xs).length=xs.length*E.n:=NJ u;have B:aG [x]=x.cells:=by show x.cells++aG []=_;simp[aG]
 refine⟨(s.put k none).new (.cells (aG (xs++[x]))),?_,.inr ⟨by simp,s.aL,by rw[N],?_,jX _⟩,rfl,rfl,?_,fun n z w=>?_⟩;simp only[fc,eU,I,bk,ee,ju,O,cX,ct,eM,j,F,bX,pn,B,qK];rw[eN,mL,bS];rfl;exact bW (cU s k none G);have A:n≠k:=fun e=>w (by rw[e];rfl);rw[eN,mL,bN.2 (by omega:n≠s.aL),cF,aU,bN.2 A];rfl
def rG(s:St)(av:aa)(act:List cP):Prop:=(av= .Ge/\act=[])\/ ∃(k:Nat) (R:List cP),av= .arr 9 k 0 act.length R.length/\s.get [] k=some (.cells (aG (R.map cK)))/\R.take act.length=act/\act.length<=R.length/\R.length<=1000/\k<s.aL
variable{xs:List cP}
def rG.ge(h:rG s v xs):v.ge=true:=by
 rcases h with⟨rfl,_⟩|⟨k,R,rfl,_⟩<;>rfl
def rG.mono(h:rG s v xs)(d: ∀n,jE v=some n->s'.get [] n=s.get [] n)(x:s.aL<=s'.aL):rG s' v xs:=by
 rcases h with h|⟨k,R,rfl,w,u,j,e,y⟩
 exact .inl h;exact .inr ⟨k,R,rfl,by rw[d k rfl];exact w,u,j,e,by omega⟩
def rG.lt(h:rG s v xs): ∀n,jE v=some n->n<s.aL:=by
 intro n d;rcases h with⟨rfl,_⟩|⟨k,R,rfl,_,_,_,_,h⟩
 cases d;cases d;exact h
def rG.len(h:rG s v xs)(mk:aH)(s':St):iM ah mk 363 v s'=some (aI xs.length):=by
 rcases h with⟨rfl,rfl⟩|⟨k,R,rfl,_⟩
 exact sH.2.2.2.2.1 _ _;exact FE _ _ _ _ _ _ _
variable{i:Nat}{b:cP}
def rG.at(h:rG s v xs)(e:xs[i]? =some b): ∃n o,(∀lc,gS ah lc 363 v (aI i)=some (.ptr n o))/\yO ah 368 o (s.get [] n)=some (cK b):=by
 have d:i<xs.length:=(nR.1 e).1;rcases h with⟨rfl,rfl⟩|⟨k,R,rfl,x,w,y,_⟩
 cases e;have u:R[i]? =some b:=by rw[<-w,GU,iP d] at e;exact e
 refine⟨k,0+i*9,fun lc=>?_,by rw[eM];exact Ib x u⟩;have j:bh i xs.length=true:=cN d;rw[sH.2.2.2.1];simp only[fc,pO,bk,j,bX]
structure nV (s:St) (m:Nat) (its act:List cP) (out:List Mt) (av ov:aa):Prop where
 it:s.get [] m=some (.cells (aG (its.map cK)))
 mlt:m<s.aL
 act:rG s av act
 out:kD 3 s ov (out.map gu)
 d1:jE av≠some m
 d2:jE ov≠some m
 d3: ∀n,jE av=some n->jE ov≠some n
 mw:s.gE<=s.aL
variable{out:List Mt}{act its:List cP}{av ov:aa}
def nV.app(h:nV s m its act out av ov)(u:out.length<1000000)(x:Mt): ∃j d,eU ah [] 286 ov (.list 3 [gu x] .GT) true s=some (d,j)/\nV j m its act (out++[x]) av d/\(∀n,n<s.aL->jE ov≠some n->j.get [] n=s.get [] n)/\j.aL=s.aL+1/\jE d=some s.aL/\d.ge=true:=by
 obtain⟨j,H,G,F,I,B,z⟩:=L1 (t:=286) zC.1 rfl (by decide) (gu x) (fun y A=>by obtain⟨a,_,rfl⟩:=cw.1 A;rfl) (by rw[bU];exact u) h.mw h.out;refine⟨j,_,H,⟨(z m h.mlt h.d2).trans h.it,by have:=h.mlt;omega,h.act.mono (fun n w=>z n (h.act.lt n w) (h.d3 n w)) (by omega),by rw[eK];exact G,h.d1,fun e=>?_,fun n w e=>?_,B⟩,z,F,rfl,rfl⟩;injection e with e
 have:=h.mlt;omega;injection e with e
 have:=h.act.lt n w;omega
def qV(s:bK):Bool:=bg s.1&&bg s.2
variable{a:cP}
def ajD(h:(b9 (qQ a.2) (qM b.2)&&b9 (qQ b.2) (qM a.2))=false):fM a b=none:=by
 refine Wp fun d=>?_;obtain⟨j,e⟩:=d.2;have w:b9 (qQ a.2) (qM b.2)=true:=dQ j;have u:b9 (qQ b.2) (qM a.2)=true:=dQ e;rw[w,u] at h;cases h
def an0(S:Q.spec 308=some Ap)(a0:Q.spec 225=some kX){nb n52 n51:Nat}(na:qV a.2=true)(b7: ∀x∈act,qV x.2=true)(e0:act.length<=1000)(e1:jE av≠some nb)(r:List Mt)(hr:r.length<=1000000)(hx: ∀e lc s ov,ac e 4= .arr 9 m 0 its.length its.length->ac e 50= .arr 9 m 0 its.length its.length->ac e 51=aI n51->ac e 52=aI n52->ac e 8=av->ac e 10= .ptr nb 0->ac e 7=ov->nV s m its act r av ov->s.get [] nb=some (.cells (iZ a))->nb<s.aL->jE ov≠some nb->K (.exit 4) ⟨e,102,lc⟩ s):
 ∀(d h:List cP) (out:List Mt) (ov:aa) (e:aw) (lc:Ag.Loc) (s:St),act=h++d->r=out++d.filterMap (fM a)->nV s m its act out av ov->s.get [] nb=some (.cells (iZ a))->nb<s.aL->jE ov≠some nb->
  ac e 4= .arr 9 m 0 its.length its.length->ac e 50= .arr 9 m 0 its.length its.length->ac e 51=aI n51->ac e 52=aI n52->ac e 8=av->ac e 10= .ptr nb 0->ac e 7=ov->
  ac e 59=av->ac e 60=aI act.length->ac e 61=aI h.length->W Q 224 (.loop CL) ⟨e,102,lc⟩ s K:=by
 intro d
 induction d with
 |nil=>
  intro h out ov e lc s h1 B I Y G F h4 O N J h8 u h7 y j H;have c0:h.length=act.length:=by rw[h1];simp
  have b8:r=out:=by rw[B];simp
  refine bm ?_;simp only[go_sem,seval,CL,j,H,c0,cq];rw[b8] at hx;exact hx _ _ _ ov (by simp only[sN,seval,h4]) (by simp only[sN,seval,O]) (by simp only[sN,seval,N]) (by simp only[sN,seval,J]) (by simp only[sN,seval,h8]) (by simp only[sN,seval,u]) (by simp only[sN,seval,h7]) I Y G F
 |cons b d ih=>
  intro h out ov e lc s h1 B I Y G F h4 O N J h8 u h7 y j H;have b0:h.length<act.length:=by rw[h1];simp
  have d0:act[h.length]? =some b:=by rw[h1];simp
  obtain⟨n,o,b1,U⟩:=I.act.at d0;have a9:=da (n:=h.length) (by omega);have b6:=I.act.ge;have a7:qV b.2=true:=b7 b (by rw[h1];simp);simp only[qV,bq] at na a7;have q1:Ap [.agg [ag (qQ a.2),ag (qM a.2)],.agg [ag (qQ b.2),ag (qM b.2)]]=some (.bool (b9 (qQ a.2) (qM b.2)&&b9 (qQ b.2) (qM a.2))):=rfl;have q2:=Qb na.1 na.2 a7.1 a7.2;simp only[bO,bF] at q2;simp only[cK,iZ] at U Y;have next: ∀(z:List Mt) (w:aa) (A:aw) (a8:Ag.Loc) (s':St),r=z++d.filterMap (fM a)->nV s' m its act z av w->s'.get [] nb=some (.cells (iZ a))->nb<s'.aL->jE w≠some nb->
   ac A 4= .arr 9 m 0 its.length its.length->ac A 50= .arr 9 m 0 its.length its.length->ac A 51=aI n51->ac A 52=aI n52->ac A 8=av->ac A 10= .ptr nb 0->ac A 7=w->
   ac A 59=av->ac A 60=aI act.length->ac A 61=ag ((h.length+1:Nat))->W Q 224 (.loop CL) ⟨A,102,a8⟩ s' K:=fun z w A a8 s' c1 c2 c3 c4 c5 c6 c7 c8 c9 d7 d6 d5 d4 d2 d1=>
    ih (h++[b]) z w A a8 s' (by rw[h1];simp) c1 c2 c3 c4 c5 c6 c7 c8 c9 d7 d6 d5 d4 d2 (by rw[d1,de];rfl)
  refine bm ?_;cases hy:(b9 (qQ a.2) (qM b.2)&&b9 (qQ b.2) (qM a.2)) with
  |false=>
   rw[hy] at q1;have hf:fM a b=none:=ajD hy;simp only[go_sem,seval,CL,u,y,j,H,b0,b1,U,Y,b6,a9,S,q1,aP,aQ];refine next out ov _ _ _ (by rw[B,xK,hf]) I Y G F ?_ ?_ ?_ ?_ ?_ ?_ ?_ ?_ ?_ ?_
   all_goals simp only[sN,seval,h4,O,N,J,h8,u,h7,y,j]
  |true=>
   rw[hy] at q1;cases hk:an (jj a.2 b.2) 0 with
   |true=>
    have hf:fM a b=none:=by unfold fM;rw[hk];rfl
    simp only[go_sem,seval,CL,u,y,j,H,b0,b1,U,Y,b6,a9,S,a0,q1,q2,hk,aP,aQ];refine next out ov _ _ _ (by rw[B,xK,hf]) I Y G F ?_ ?_ ?_ ?_ ?_ ?_ ?_ ?_ ?_ ?_
    all_goals simp only[sN,seval,h4,O,N,J,h8,u,h7,y,j]
   |false=>
    have hf:fM a b=some (min a.1 b.1,max a.1 b.1,jj a.2 b.2):=by unfold fM;rw[hk];rfl
    have Z:r=(out++[(min a.1 b.1,max a.1 b.1,jj a.2 b.2)])++d.filterMap (fM a):=by rw[B,xK,hf];simp
    have ho:out.length<1000000:=by
     have:out.length+1<=r.length:=by rw[Z,de,de];simp
     omega
    obtain⟨s1,w,a1,a2,a3,a4,a5,a6⟩:=I.app ho (min a.1 b.1,max a.1 b.1,jj a.2 b.2);simp only[gu] at a1;have ko:=I.out.ge;simp only[go_sem,seval,CL,h7,u,y,j,H,b0,b1,U,Y,b6,ko,a6,a9,S,a0,q1,q2,hk,aP,aQ,rP,rN,a1,bf,aZ,aW,aY,evc];refine next _ w _ _ _ Z a2 ((a3 nb G F).trans Y) (by omega) (fun e=>by rw[a5] at e;injection e with e;omega) ?_ ?_ ?_ ?_ ?_ ?_ ?_ ?_ ?_ ?_
    all_goals simp only[sN,seval,h4,O,N,J,h8,u,h7,y,j]
def axp(mk:aH)(e:aw)(s:St):jd ah mk 363 .Ge none none none e s=some .Ge:=by kernel_rfl
def nV.mono(h:nV s m its act out av ov)(e: ∀n,n<s.aL->s'.get [] n=s.get [] n)(d:s.aL<=s'.aL)(j:s'.gE<=s'.aL):nV s' m its act out av ov:=
 ⟨(e m h.mlt).trans h.it,by have:=h.mlt;omega,h.act.mono (fun n d=>e n (h.act.lt n d)) d,h.out.mono (fun n d=>e n (h.out.lt n d)) d,h.d1,h.d2,h.d3,j⟩
def nV.appA(h:nV s m its act out av ov)(O:act.length<1000)(a:cP): ∃N y,eU ah [] 363 av (.list 9 [cK a] .GT) true s=some (y,N)/\nV N m its (act++[a]) out y ov/\y.ge=true:=by
 have z:iR (act.length+1) 72=true:=vw (by omega) (by decide);have w:=h.mlt;have j:(act++[a]).length=act.length+1:=by simp
 rcases h.act with⟨rfl,rfl⟩|⟨k,R,rfl,U,S,h3,h4,Z⟩
 refine⟨s.new (.cells (aG [cK a])),.arr 9 s.aL 0 1 1,?_,⟨?_,Nat.lt_succ_of_lt w,.inr ⟨s.aL,[a],rfl,?_,rfl,bj _,by simp,jX _⟩,h.out.mono (fun n d=>?_) (jW _),fun e=>?_,h.d2,fun n d e=>?_,bW h.mw⟩,rfl⟩;have z:iR 1 72=true:=z;simp only[fc,eU,sH,bk,ee,ju,ki,cX,ct,eM,z];rw[eN,bN.2 (by omega:m≠s.aL)];exact h.it;rw[eN,bS];rfl
 have:=h.out.lt n d;rw[eN,bN.2 (by omega:n≠s.aL)];rfl;injection e with e;omega
 injection d with d
 have:=h.out.lt n e;omega;have G:(aG (R.map cK)).length=R.length*9:=by rw[ot wK];simp
 have F:aG [cK a]=(cK a).cells:=by show(cK a).cells++aG []=_;simp[aG]
 have B:m≠k:=fun e=>h.d1 (by rw[e];rfl);by_cases hfull:act.length=R.length;have J:R=act:=by rw[<-S,hfull,List.take_length]
 subst J;refine⟨(s.put k none).new (.cells (aG (R.map cK++[cK a]))),.arr 9 s.aL 0 (R.length+1) (R.length+1),?_,⟨?_,Nat.lt_succ_of_lt w,.inr ⟨s.aL,R++[a],by rw[j],?_,by rw[List.take_length],bj _,by rw[j];omega,jX _⟩,h.out.mono (fun n d=>?_) (jW _),fun e=>?_,h.d2,fun n d e=>?_,bW (cU s k none h.mw)⟩,rfl⟩;simp only[fc,eU,sH,bk,ee,ju,U,cX,ct,eM,z,G,bX,pn,F,qK];rw[eN,mL,bN.2 (by omega:m≠s.aL),cF,aU,bN.2 B];exact h.it;rw[eN,mL,bS,eK];rfl
 have:=h.out.lt n d;have u:n≠k:=fun e=>h.d3 k rfl (by rw[d,e]);rw[eN,mL,bN.2 (by omega:n≠s.aL),cF,aU,bN.2 u];rfl;injection e with e;omega
 injection d with d
 have:=h.out.lt n e;omega;have A:act.length<R.length:=by omega
 have I:(act.length*9==R.length*9)=false:=bN.2 (by omega);have H:bu (act.length+1) R.length=true:=cN (by omega);have Y:=zr (k:=9) wK (rows:=R.map cK) (i:=act.length) (by rw[bU];exact A) (x:=cK a) rfl;refine⟨s.put k (some (.cells (aG ((R.set act.length a).map cK)))),.arr 9 k 0 (act.length+1) R.length,?_,⟨?_,w,.inr ⟨k,R.set act.length a,by rw[j,GX],?_,?_,by rw[j,GX];omega,by rw[GX];exact h4,Z⟩,h.out.mono (fun n d=>?_) (bj _),h.d1,h.d2,h.d3,cU s k _ h.mw⟩,rfl⟩;simp only[fc,eU,sH,bk,ee,ju,U,cX,ct,eM,z,G,bX,I,cF,H,F,Y,List.map_set];rw[aU,bN.2 B];exact h.it;rw[aU,bS];rfl;rw[j,List.take_succ_eq_append_getElem (by rw[GX];exact A),List.take_set_of_le (bj _),List.getElem_set_self,S];have u:n≠k:=fun e=>h.d3 k rfl (by rw[d,e]);rw[aU,bN.2 u];rfl
def adU{α β:Type}{keep:α->α->Bool}{G:α->α->Option β}: ∀(l act:List α) (out:List β),out.length<=(xF keep G l act out).length
 | [],_,out=>bj _
 |a::l,act,out=>by
  rw[xF];refine eL ?_ (adU l _ _);rw[de];omega
def aiZ(h:No Q 306)(e:No Q 418){g:aa}(u:g.ge=true)(s:St):aq Q 306 [.Ge,g] s .Ge s:=by
 have d:aq Q 418 [.Ge,g] s (bF (-1)) s:=by
  refine aq.ofNZ Zt (bP ?_);simp only[go_sem,cQ,bL,ai,aA,bH,dH,dS,d8,cz,dR,dP,reduceCtorEq,ek,sH];refine bm ?_;have w:aX 0 ((0:Nat):Int)=false:=rfl;simp only[go_sem,cQ,bL,ai,aA,bH,dH,dS,d8,cz,dR,dP,reduceCtorEq,ek,Ja,w,bF]
 refine aq.ofNZ Fo (bP ?_);simp only[go_sem,cQ,bL,ai,aA,bH,dH,dS,d8,cz,dR,dP,reduceCtorEq,ek,u];refine co.of d (by decide) ?_;have j:an (-1) (-1)=true:=rfl;simp only[go_sem,cQ,bL,ai,aA,bH,dH,dS,d8,cz,dR,dP,reduceCtorEq,ek,bF,j,axp]
def aiX(h:No Q 306)(d:No Q 418)(u:No Q 307){nb:Nat}(I:nV s m its act out av ov)(z:s.get [] nb=some (.cells (iZ a)))(A:jE av≠some nb):
 ∃v s',aq Q 306 [av,.func (.func 307) [] [.ptr nb 0]] s v s'/\(nV s' m its (act.filter fun x=> !iL a x) out v ov/\s'.get [] nb=some (.cells (iZ a))/\s'.aL=s.aL/\jE v=jE av/\v.ge=true):=by
 rcases I.act with⟨rfl,rfl⟩|⟨k,R,rfl,Y,U,S,O,N⟩
 exact⟨_,_,aiZ h d rfl s,I,z,rfl,rfl,rfl⟩;have w:nb≠k:=fun e=>A (by rw[e];rfl);obtain⟨v,s',F,rfl,j,Z,y,B,G⟩:=ai0 (lcap:=R.length) h d u w (by omega) S Y z I.mw;rw[U] at F B;have J:=kA (fun x=> !iL a x) act;refine⟨_,s',F,⟨?_,by rw[j.aL];exact I.mlt,.inr ⟨k,Z,by rw[y],G,B,by rw[y];omega,by rw[y];exact O,by rw[j.aL];exact N⟩,I.out.mono (fun n H=>j.old n fun e=>I.d3 k rfl (by rw[H,e])) (by rw[j.aL];exact bj _),I.d1,I.d2,I.d3,j.mw⟩,(j.old nb w).trans z,j.aL,rfl,rfl⟩;exact(j.old m fun e=>I.d1 (by rw[e];rfl)).trans I.it
def asE(O:No Q 306)(H:No Q 418)(N:No Q 307)(a7:Q.spec 308=some Ap)(a8:Q.spec 225=some kX)(Z: ∀x∈its,qV x.2=true)(hl:its.length<=1000){F:List Mt}(hF:F.length<=1000000)(j: ∀e lc s ov,ac e 7=ov->kD 3 s ov (F.map gu)->s.gE<=s.aL->K (.exit 2) ⟨e,102,lc⟩ s):
 ∀(h d act:List cP) (out:List Mt) (av ov:aa) (e:aw) (lc:Ag.Loc) (s:St),its=d++h->F=xF (fun a x=> !iL a x) fM h act out->(∀x∈act,x∈its)->act.length<=d.length->nV s m its act out av ov->
  ac e 4= .arr 9 m 0 its.length its.length->ac e 50= .arr 9 m 0 its.length its.length->ac e 51=aI its.length->ac e 52=aI d.length->ac e 8=av->ac e 7=ov->W Q 224 (.loop OY) ⟨e,102,lc⟩ s K:=by
 intro h
 induction h with
 |nil=>
  intro d act out av ov e lc s h1 G ha c3 I h4 B w u h8 h7;have c0:d.length=its.length:=by rw[h1];simp
  refine bm ?_;simp only[go_sem,cQ,bL,ai,aA,bH,dH,dS,d8,cz,dR,dP,reduceCtorEq,ek,OY,w,u,c0,cq];have G:F=out:=G;refine j _ _ _ ov (by simp only[sN,ai,bH,h7]) ?_ I.mw;rw[G];exact I.out
 |cons a h ih=>
  intro d act out av ov e lc s h1 G ha c3 I h4 B w u h8 h7;have b8:d.length<its.length:=by rw[h1];simp
  have A:its[d.length]? =some a:=by rw[h1];simp
  have a4:=Ib I.it A;have b0:=da (n:=d.length) (by omega);have c1:=I.act.ge;have na:qV a.2=true:=Z a (dM A);have d4:=I.mlt;obtain⟨z,S⟩:=bZ (s.new (.cells [ag 0,ag 0,ag 0,ag 0,ag 0,ag 0,ag 0,ag 0,ag 0]));have zn:z.aL=s.aL+1:=by rw[<-S];rfl
  have zg:z.get [] s.aL=some (.cells [ag 0,ag 0,ag 0,ag 0,ag 0,ag 0,ag 0,ag 0,ag 0]):=by rw[<-S,eN,bS];rfl
  have zo: ∀n,n<s.aL->z.get [] n=s.get [] n:=fun n Z=>by rw[<-S,eN,bN.2 (by omega:n≠s.aL)];rfl
  have zm:z.gE<=z.aL:=by rw[<-S];exact bW I.mw
  have b6: ∀lc,KN lc z s.aL 0 (cK a) (z.get [] s.aL)=some (lc,z.put s.aL (some (.cells (iZ a)))):=fun lc=>by rw[zg];rfl
  have J:nV (z.put s.aL (some (.cells (iZ a)))) m its act out av ov:=I.mono (fun n Z=>by rw[aU,bN.2 (by omega:n≠s.aL)];exact zo n Z) (by show s.aL<=z.aL;omega) (cU z _ _ zm);have Jb:(z.put s.aL (some (.cells (iZ a)))).get [] s.aL=some (.cells (iZ a)):=by rw[aU,bS];rfl
  have Jn:(z.put s.aL (some (.cells (iZ a)))).aL=s.aL+1:=zn;have a6:jE av≠some s.aL:=fun e=>by have:=I.act.lt _ e;omega
  have b7:jE ov≠some s.aL:=fun e=>by have:=I.out.lt _ e;omega
  generalize hz1:z.put s.aL (some (.cells (iZ a)))=z1 at*;have y:=b6;simp only[cK,iZ] at a4 y;refine bm ?_;simp only[go_sem,cQ,bL,ai,aA,bH,dH,dS,d8,cz,dR,dP,reduceCtorEq,ek,OY,B,w,u,h8,b8,sH,a4,S,y,aP,cS,c1];refine co.ex (aiX O H N J Jb a6) (by decide) ?_;rintro v s2 ⟨I2,c2,d2,Y,b1⟩;have a0:=I2.act.len;simp only[go_sem,cQ,bL,ai,aA,bH,dH,dS,d8,cz,dR,dP,reduceCtorEq,ek,b1,a0];have d5:(act.filter fun x=> !iL a x).length<=act.length:=kA _ _;have d6:(out++(act.filter fun x=> !iL a x).filterMap (fM a)).length<=F.length:=by rw[G];exact adU _ _ _
  refine an0 a7 a8 (a:=a) (m:=m) (nb:=s.aL) (n52:=d.length) (n51:=its.length) (its:=its) (act:=act.filter fun x=> !iL a x) (av:=v) na (fun x j=>Z x (ha x (jp.1 j).1)) (by omega) (by rw[Y];exact a6) (out++(act.filter fun x=> !iL a x).filterMap (fM a)) (by omega) ?_ (act.filter fun x=> !iL a x) [] out ov _ _ s2 rfl rfl I2 c2 (by omega) b7 ?_ ?_ ?_ ?_ ?_ ?_ ?_ ?_ ?_ ?_
  ·intro e2 d1 s3 a9 g4 c6 c5 c4 g8 c7 g7 I3 a5 d0 c9
   obtain⟨s4,c8,a1,a2,a3⟩:=I3.appA (by omega) a;have U:=I3.act.ge;simp only[iZ] at a5;simp only[cK,iZ] at a1;simp only[go_sem,cQ,bL,ai,aA,bH,dH,dS,d8,cz,dR,dP,reduceCtorEq,ek,g8,c7,c4,a5,b0,U,a3,aP,aQ,a1,bf,aZ,aW,aY,evc];refine ih (d++[a]) ((act.filter fun x=> !iL a x)++[a]) _ c8 a9 _ _ _ (by rw[h1];simp) G ?_ ?_ a2 ?_ ?_ ?_ ?_ ?_ ?_;intro x j;rcases hQ.1 j with j|j
   exact ha x (jp.1 j).1;rw[vQ.1 j];exact dM A;rw[de,de];simp only[cX,ct];omega
   all_goals simp only[sN,ai,bH,g4,c6,c5,g7,sA]
  all_goals simp only[sN,ai,bH,h4,B,w,u,h7,ct]
  all_goals rfl
def MJ{k:Nat}: ∀ {l:List aa},(∀v∈l,v.cells.length=k/\v= .agg v.cells)->aY true k l.length (aG l)=some l
 | [],_=>rfl
 |v::l,h=>by
  obtain⟨d,z⟩:=h v fE;have j:=MJ (l:=l) fun x u=>h x (iw _ u);have y:cut (v.cells++aG l) 0 k=some v.cells:=by
   simp only[cut,pn,ja];rw[List.take_append_of_le_length (by omega),sU (by omega),d];simp
  have w:(v.cells++aG l).drop k=aG l:=by rw[<-d,List.drop_left]
  show(bif true then(cut (v.cells++aG l) 0 k).bind fun e=>(aY true k l.length ((v.cells++aG l).drop k)).bind fun r=>some (.agg e::r) else _)=_;rw[y,w,j];show some (aa.agg v.cells::l)=_;rw[<-z]
def akR{xs:List aa}(u: ∀v∈xs,v.cells.length=sz/\v= .agg v.cells)(A:aK sz 1=false){k:Nat}(y: ∀v∈aG xs,cG s.heap k v=some v)(h:kD sz s v xs):cG s.heap (k+1) v=some (gw sz xs):=by
 rcases h with⟨rfl,rfl⟩|⟨d,n,rfl,j,_⟩
 rfl;have j:s.heap.get n=some (.cells (aG xs)):=j;have z:cut (aG xs) 0 (xs.length*sz)=some (aG xs):=by
  have:=ot (k:=sz) fun v w=>(u v w).1;simp only[cut,pn,ja];rw[sU (by omega),this];simp
 have e:gw sz xs= .list sz xs .no:=by
  cases xs with
  |nil=>exact absurd rfl d
  |cons x xs=>rfl
 show(match s.heap.get n with
  |some (.cells cs)=>(cut cs 0 (xs.length*sz)).bind fun c=>(dt (cG s.heap k) c).bind fun B=>(aY (!aK sz 1) sz xs.length B).bind fun xs=>some (aa.list sz xs .no)
  |_=>none)=_
 rw[j,e];simp only[z,bk,yA y,A,Bool.not_false,MJ u]
def BU:List aa->Option (List bK)
 | []=>some []
 |v::l=>(uG v).bind fun s=>(BU l).bind fun r=>some (s::r)
def Ho:aa->Option (List bK)
 | .Ge=>some []
 | .list 4 xs _=>BU xs
 |_=>none
def UJ: ∀ {xs:List aa} {l:List bK},BU xs=some l->xs=l.map bO
 | [],l,h=>by injection h with h;subst h;rfl
 |v::xs,l,h=>by
  simp only[BU,ak,aM] at h;obtain⟨s,e,r,d,rfl⟩:=h;rw[An e,UJ d];rfl
def UK: ∀l:List bK,BU (l.map bO)=some l
 | []=>rfl
 |s::l=>by simp only[eT,BU,Hn,bk,UK l]
variable{l:List bK}
def agw(h:Ho v=some l):au 4 bO v l/\dy v=true/\au 4 bO (cu v) l:=by
 unfold Ho at h;split at h;injection h with h;subst h
 exact⟨.inl ⟨rfl,rfl⟩,rfl,.inl ⟨rfl,rfl⟩⟩;rename_i xs r
 have:=UJ h;subst this;have d:au 4 bO (.list 4 (l.map bO) r) l:=.inr ⟨r,rfl⟩;exact⟨d,nz aw1 d⟩;cases h
def agx(h:au 4 bO v l):Ho v=some l:=by
 rcases h with⟨rfl,rfl⟩|⟨r,rfl⟩
 rfl;exact UK l
def FP(l:List Mt):aa:=gw 3 (l.map gu)
def Ai:Sp
 | [u]=>(Ho u).bind fun l=>bif decide (l.length<=1000)&&l.all qV then some (.tup [FP (gm l),ag 0]) else none
 |_=>none
def agi(h:au 4 bO v l)(e:l.length<=1000)(d: ∀x∈l,qV x=true):Ai [v]=some (.tup [FP (gm l),ag 0]):=by
 simp only[dX,Ai,agx h,e,dT,eC,fD.2 d]
def oI:df:=[(303,Ba),(308,Ap),(225,kX)]
def afJ:dl oI:=.cons at1 (.cons agW (.cons Qc .nil))
noncomputable def oJ:rJ:=[(304,RZ),(309,R1)]
def afR:tg oJ:=.cons axz (.cons axC .nil)
def as3(h:Nat)(u:h<=1000)(s:St):og ah 363 (aI h) (aI h) true s=some (.arr 9 s.aL 0 h h,s.new (.cells (aG ((gD h BE).map cK)))):=by
 have j:bu h h=true:=cN (bj _);have e:bu (h*72) 1099511627776=true:=cN (by omega);have d:bu h 1099511627776=true:=cN (by omega);simp only[dX,og,sH,pO,j,e,d,lD,gA,bX,cF,lO,aeP]
def aod(h:(cK a).cells=(cK b).cells):a=b:=by
 have d:xY (cK a)=xY (cK b):=by
  have:cK a=cK b:=by show aa.agg (cK a).cells=aa.agg (cK b).cells;rw[h]
  rw[this]
 rw[L5,L5] at d;exact sI d
def as5{a b:Mt}(h:(gu a).cells=(gu b).cells):a=b:=by
 have d:Aj (gu a)=Aj (gu b):=by
  have:gu a=gu b:=by show aa.agg (gu a).cells=aa.agg (gu b).cells;rw[h]
  rw[this]
 rw[L6,L6] at d;exact sI d
def agm(ch:Nat->Nat)(hs:au 4 bO sv segs)(d:segs.length<=1000)(hn: ∀x∈segs,qV x=true): ∃v s',aq (QW oI oJ ch) 224 [sv] s0 v s'/\fU s'.heap v (.tup [FP (gm segs),ag 0]):=by
 have I:Std (QW oI oJ ch):=inferInstance;have a0:(QW oI oJ ch).spec 303=some Ba:=rfl;have w:(QW oI oJ ch).spec 308=some Ap:=rfl;have a1:(QW oI oJ ch).spec 225=some kX:=rfl;have z:(QW oI oJ ch).spec 304=none:=rfl;have j:(QW oI oJ ch).spec 309=none:=rfl;have O:(QW oI oJ ch).specW 304=some RZ:=rfl;have u:(QW oI oJ ch).specW 309=some R1:=rfl;have N:No (QW oI oJ ch) 306:=⟨rfl,rfl⟩;have G:No (QW oI oJ ch) 418:=⟨rfl,rfl⟩;have J:No (QW oI oJ ch) 307:=⟨rfl,rfl⟩;have b7:No (QW oI oJ ch) 224:=⟨rfl,rfl⟩;generalize QW oI oJ ch=Q at*;have a8:=hs.lenS vD;have b0:aX 20000 ((segs.length:Nat):Int)=false:=by simp only[aX,decide_eq_false_iff_not];omega
 have b1:=hs.ge;have a6:=as3 segs.length d s0;have a9:=aob d;have a2:(zF segs).length=segs.length:=by rw[(R8 segs).length_eq,wJ]
 have Z:=wJ segs 0;refine aq.ofNRZ apk (bP ?_);simp only[go_sem,seval,a8,b0,b1,Q5,a6,ii];refine aoa a0 hs d (m:=s0.aL) (s0:=s0.new (.cells (aG ((gD segs.length BE).map cK)))) ?_ segs [] _ _ _ rfl (.refl (by show s0.gE<=s0.aL+1;decide)) (by rw[eN,bS];rfl) ?_ ?_ ?_ ?_
 ·intro e lc s1 h4 hb hm
  simp only[go_sem,seval,h4,ii,z];have hg:(bif aK (aG ((iz 0 segs).map cK)).length (segs.length*9) then xD cK yf (0,((0,0),(0,0))) FW (aG ((iz 0 segs).map cK)) else none)=some (aG ((zF segs).map cK)):=by
   have h1:(aG ((iz 0 segs).map cK)).length=segs.length*9:=by rw[ot wK,bU,Z]
   rw[h1,ja,bS,cT,xD,HF (k:=9) (fun _=>rfl) (by decide) (fun a b=>aod)];simp only[dX,a9];rfl
  refine co.of (aq.specWp (n:=s0.aL) (cs':=aG ((zF segs).map cK)) z (Std.H _) O rfl hm hg) (by decide) ?_;have a5:=cU s1 s0.aL (some (.cells (aG ((zF segs).map cK)))) hb.mw;have c0:s1.aL=s0.aL+1:=hb.aL;simp only[go_sem,seval,h4,FE,ii];refine asE N G J w a1 (m:=s0.aL) (its:=zF segs) (F:=tB segs) ?_ (by omega) ?_ ?_ (zF segs) [] [] [] .Ge .Ge _ _ _ rfl rfl (fun _ h=>by cases h) (bj _) ⟨by rw[aU,bS];rfl,by show s0.aL<s1.aL;omega,.inl ⟨rfl,rfl⟩,.inl ⟨rfl,rfl⟩,fun e=>(by cases e),fun e=>(by cases e),fun _ h=>(by cases h),a5⟩ ?_ ?_ ?_ ?_ ?_ ?_;intro x hx;have hx:=(R8 segs).mem_iff.1 hx;have: ∀(l:List bK) (i:Nat),x∈iz i l->x.2∈l:=by
   intro l
   induction l with
   |nil=>intro i h;cases h
   |cons y l ih=>
    intro i h;rcases dG.1 h with rfl|h
    exact fE;exact iw _ (ih _ h)
  exact hn _ (this _ _ hx);rw[(Cs segs).length_eq]
  have:=Gb (F:=fM) (iz 0 segs);rw[Z] at this;have:segs.length*segs.length<=1000*1000:=rC d d;unfold gm;omega;intro w b8 s2 ov h7 hR c1;have a4:=akJ d;have Y:=hR.ge;have A: ∃S,aq Q 309 [ov,.func (.func 310) [] []] s2 (.tup []) S/\kD 3 S ov ((gm segs).map gu):=by
   rcases hR with⟨rfl,h0⟩|⟨h0,k,rfl,hk,a7⟩
   refine⟨s2,aq.specW0 j (Std.H _) u rfl,.inl ⟨rfl,?_⟩⟩;have h0:=zT.1 h0
   have:=Cs segs;rw[h0] at this;rw[<-List.Perm.nil_eq this];rfl;have B:(gm segs).length=(tB segs).length:=(Cs segs).length_eq.symm;have hg:(bif aK (aG ((tB segs).map gu)).length (((tB segs).map gu).length*3) then xD gu tu (0,0,0) FX (aG ((tB segs).map gu)) else none)=some (aG ((gm segs).map gu)):=by
    have h1:(aG ((tB segs).map gu)).length=((tB segs).map gu).length*3:=ot fun v U=>by
     obtain⟨a,_,rfl⟩:=cw.1 U;rfl
    rw[h1,ja,bS,cT,xD,HF (k:=3) (fun _=>rfl) (by decide) (fun a b=>as5)];simp only[dX,a4];exact congrArg (fun x=>some (aG (x.map gu))) (akK segs)
   refine⟨_,aq.specWp (n:=k) (cs':=aG ((gm segs).map gu)) j (Std.H _) u rfl hk hg,.inr ⟨?_,k,?_,?_,a7⟩⟩;intro hc;have hc:=zT.1 hc;rw[hc] at B;exact h0 (by rw[List.eq_nil_of_length_eq_zero B.symm];rfl);rw[bU,bU,B];rw[aU,bS];rfl
  obtain⟨S,a3,b6⟩:=A;simp only[go_sem,seval,h7,Y,j];refine co.of a3 (by decide) ?_;simp only[go_sem,seval,h7,Y];refine⟨_,rfl,3,?_⟩;have hf:=akR (sz:=3) (k:=1) (fun v U=>by obtain⟨a,_,rfl⟩:=cw.1 U;exact⟨rfl,rfl⟩) rfl (fun v U=>?_) b6;show(dt (cG S.heap 2) [ov,ag 0]).bind (fun r=>some (aa.tup r))=_;simp only[dt,hf,bk];rfl;have: ∀l:List Mt,v∈aG (l.map gu)->cG S.heap 1 v=some v:=by
   intro l
   induction l with
   |nil=>intro h;cases h
   |cons a l ih=>
    intro h;rw[eT,aG,hQ] at h;rcases h with h|h
    simp only[gu,lO,dG,xQ,or_false] at h;rcases h with rfl|rfl|rfl<;>rfl
    exact ih h
  exact this _ U
  all_goals simp only[sN,seval,h4,a2,ct]
  all_goals rfl
 all_goals simp only[sN,seval,ct]
 all_goals rfl
def agj:cL ah 224 Ai:=by
 intro j x d G z w xs u y;unfold Ai at d;split at d;simp only[ak] at d;obtain⟨l,F,h⟩:=d;obtain⟨e,h⟩:=bc h;simp only[bq,dE] at e;have h:=sI h;subst h;obtain⟨_,B,A⟩:=agw F;refine iu afJ afR (by simp only[dK,B,bX]) (fun H=>?_) G z w xs u y;exact agm H A e.1 (fD.1 e.2);cases d
def fp{α:Type}(p:α->Bool):List α->Nat->Int
 | [],_=> -1
 |x::l,i=>bif p x then(i:Int) else fp p l (i+1)
def AG{α:Type}(p:α->Bool): ∀(l:List α) (i:Nat),b9 0 (fp p l i)=l.any p
 | [],_=>rfl
 |x::l,i=>by
  simp only[fp,List.any_cons];cases p x with
  |true=>simp[b9]
  |false=>exact AG p l (i+1)
variable{lc:Ag.Loc}{g:FuncId}{cap:List aa}{l:List ae}{p:ae->Bool}
def anO(Y:au 1 ax sv l)(O:l.length<=1000000)(I:Q.spec g=none)(hg: ∀x∈l,aq Q g (.str x::cap) s (.bool (p x)) s){r:Int}(U: ∀e,r= -1->K (.exit 0) ⟨e,19,lc⟩ s)(Z: ∀e,ac e 4=ag r->K .ret ⟨e,19,lc⟩ s):
 ∀(h d:List ae) (e:aw),l=d++h->r=fp p h d.length->ac e 0=sv->ac e 1= .func (.func g) [] cap->ac e 7=aI l.length->ac e 8=aI d.length->W Q 261 (.loop IL) ⟨e,19,lc⟩ s K:=by
 intro h
 induction h with
 |nil=>
  intro d e y A N J z w;have G:d.length=l.length:=by rw[y];simp
  refine bm ?_;simp only[go_sem,seval,IL,z,w,G,cq];exact U _ A
 |cons x h S=>
  intro d e y A N J z w;have F:d.length<l.length:=by rw[y];simp
  have u:l[d.length]? =some x:=by rw[y];simp
  have H:=fun lc k=>Y.at bT.2.2.1 u lc k;have B:=da (n:=d.length) (by omega);have j:=hg x (dM u);have e1:([]:List aa)++([aa.str x]++cap)= .str x::cap:=rfl;refine bm ?_;simp only[go_sem,seval,IL,N,J,z,w,F,H,ax,I];refine co.of j (by decide) ?_;cases hd:p x with
  |true=>
   simp only[go_sem,seval];exact Z _ (by simp only[sN,seval,w,A,fp,hd])
  |false=>
   simp only[go_sem,seval,w,B];refine S (d++[x]) _ (by rw[y];simp) (by rw[A];simp only[fp,hd,cF,sA]) ?_ ?_ ?_ ?_
   all_goals simp only[sN,seval,N,J,z,sA]
def anP(y:No Q 261)(h:au 1 ax sv l)(d:l.length<=1000000)(u:Q.spec g=none)(A: ∀x∈l,aq Q g (.str x::cap) s (.bool (p x)) s):aq Q 261 [sv,.func (.func g) [] cap] s (bF (fp p l 0)) s:=by
 have j:=h.lenS bT;have w:=h.ge;refine aq.ofNZ Fj (bP ?_);simp only[go_sem,seval,j,w];refine anO h d u A (r:=fp p l 0) ?_ ?_ l [] _ rfl rfl (by simp only[sG,seval, *]) (by simp only[sG,seval, *]) (by simp only[sG,seval, *]) (by simp only[sN,seval];rfl);intro e z;simp only[go_sem,seval,z];rfl;intro e B;simp only[go_sem,seval,B];rfl
def H2(d:No Q 261)(u:No Q 167)(w:au 1 ax sv l)(e:l.length<=1000000)(h:Q.spec g=none)(y: ∀x∈l,aq Q g (.str x::cap) s (.bool (p x)) s):aq Q 167 [sv,.func (.func g) [] cap] s (.bool (l.any p)) s:=by
 have j:=w.ge;refine aq.ofNZ E8 (bP ?_);simp only[go_sem,seval,j];refine co.of (anP d w e h y) (by decide) ?_;simp only[go_sem,seval,bF,ni,AG]
def iA:BO ah 9 aa.str where
 eq a b:=by
  rw[HJ];by_cases h:a=b;subst h;simp;simp[h]
 same a:=by simp[tP,xz]
 ge _:=rfl
def iy:Nat->List Obj->List (ae×aa)
 |_,[]=>[]
 |i,o::l=>(o.id,ag ((i:Nat):Int))::iy (i+1) l
def XH: ∀(l:List Obj) (i:Nat) (o:Obj),iy i (l++[o])=iy i l++[(o.id,ag ((i+l.length:Nat):Int))]
 | [],_,_=>rfl
 |x::l,i,o=>by
  rw[sP,iy,XH l,iy,cX,show i+1+l.length=i+(l.length+1) by omega];rfl
def pK(k:ae):List Obj->Option Nat
 | []=>none
 |o::l=>bif k==o.id then some 0 else(pK k l).map (· +1)
def N9(k:ae): ∀l:List Obj,ck k l=(pK k l).bind fun i=>l[i]?
 | []=>rfl
 |o::l=>by
  simp only[ck,pK];cases h:k==o.id with
  |true=>rfl
  |false=>
   simp only[cF,N9 k l];cases pK k l<;>rfl
def FH(k:ae): ∀(l:List Obj) (i:Nat),cD k (iy i l)=(pK k l).map fun j=>ag ((i+j:Nat):Int)
 | [],_=>rfl
 |o::l,i=>by
  simp only[iy,cD,pK];by_cases h:k=o.id;subst h;simp;have:(k==o.id)=false:=by simpa using h
  rw[iN h,this,FH k l];simp only[cF];cases pK k l with
  |none=>rfl
  |some j=>simp only[jZ];rw[show i+1+j=i+(j+1) by omega]
def XE{k:ae}: ∀ {l:List Obj},k ∉ l.map Obj.id->pK k l=none
 | [],_=>rfl
 |o::l,h=>by
  have j:(k==o.id)=false:=by
   simp only[eT,dG,not_or] at h;simpa using h.1
  have d:=XE (k:=k) (l:=l) fun e=>h (by rw[eT];exact iw _ e);simp only[pK,j,cF,d,sV]
def PX(k:ae):lw ah 127 (.str k)=some (9,3):=by kernel_rfl
variable{l:List Obj}
def at2(ho:au 6 Obj.val ov l)(hl:l.length<=1000000)(z:(l.map Obj.id).Nodup){s0:St}{x2:List aa}(hx: ∀e lc s,ac e 4= .Gt 4 1 0->ac e 2= .Gt 2 1 0->lc.gen 2=1->lc.get 2 1=some x2->lc.get 4 1=some [ov,.map m]->dr m s0 s->bM aa.str s m (iy 0 l)->K (.exit 0) ⟨e,29,lc⟩ s):
 ∀(h d:List Obj) (e:aw) (lc:Ag.Loc) (s:St),l=d++h->dr m s0 s->bM aa.str s m (iy 0 d)->
  ac e 4= .Gt 4 1 0->ac e 2= .Gt 2 1 0->lc.gen 2=1->lc.get 2 1=some x2->lc.gen 4=1->lc.get 4 1=some [ov,.map m]->ac e 15=ov->ac e 16=aI l.length->ac e 17=aI d.length->W Q 126 (.loop Oo) ⟨e,29,lc⟩ s K:=by
 intro h
 induction h with
 |nil=>
  intro d e lc s x Y N F h2 g2 G g4 B w j u;have S:d.length=l.length:=by rw[x];simp
  have I:d=l:=by rw[x];simp
  refine bm ?_;simp only[go_sem,seval,Oo,j,u,S,cq];exact hx _ _ _ (by simp only[sN,seval,F]) (by simp only[sN,seval,h2]) g2 G B Y (by rw[<-I];exact N)
 |cons o h ih=>
  intro d e lc s x Y N F h2 g2 G g4 B w j u;have O:d.length<l.length:=by rw[x];simp
  have Z:l[d.length]? =some o:=by rw[x];simp
  have U:=fun lc k=>ho.at eO.2.2.1 Z lc k;have H:=da (n:=d.length) (by omega);have J:cD o.id (iy 0 d)=none:=by
   rw[FH,XE,sV];intro hc;rw[x,eK] at z;exact(List.nodup_append.1 z).2.2 _ hc o.id (by simp) rfl
  have y:=vK iA PX N o.id (ag ((d.length:Nat):Int));have A:en o.id (ag ((d.length:Nat):Int)) (iy 0 d)=iy 0 (d++[o]):=by
   rw[u6 J,XH,eM]
  rw[A] at y;refine bm ?_;simp only[go_sem,seval,Oo,F,w,j,u,O,U,H,g4,B,Obj.val,Obj.cells,y];refine ih (d++[o]) _ _ _ (by rw[x];simp) (Y.put _) bM.put ?_ ?_ ?_ ?_ ?_ ?_ ?_ ?_ ?_
  all_goals simp only[aV,fQ,f7,ai,F,h2,g2,G,g4,B,w,j,sA]
def atX(w:Q.spec 31=some im)(x:No Q 126)(h:au 6 Obj.val ov l)(I: ∀o∈l,o.AL)(H:l.length<=1000000)(j:(l.map Obj.id).Nodup)(B:cM l=true)(G:s.gE<=s.aL):
 ∃v s',aq Q 126 [.agg [ov]] s v s'/\(v= .tup [.agg [ov,.map s.aL],.bool true]/\bM aa.str s' s.aL (iy 0 l)/\dr s.aL (s.new (.map [] 0)) s'):=by
 have F:=gV;have u:=h.lenS eO;have d:=h.cs;have y:=wT h I (by omega);rw[B] at y;refine aq.ofNRZ aoh (bP ?_);simp only[go_sem,seval,u,d,w,y,mJ,uI,bf,aZ,aW,aY,evc];refine at2 h H j (m:=s.aL) (s0:=s.new (.map [] 0)) (x2:=[.Ge,.nilm]) ?_ l [] _ _ _ rfl (.refl (bW G)) ?_ ?_ ?_ ?_ ?_ ?_ ?_ ?_ ?_ ?_;intro e lc Y O S U A z J N;simp only[go_sem,seval,O,S,U,A,z,d];exact⟨_,rfl,rfl,N,J⟩;show(s.new _).get [] s.aL=_;rw[eN,bS];rfl
 all_goals simp only[aV,fQ,f7,uY,ai,bH,ct]
 all_goals rfl
variable{q:Obj}{k:ae}
def aa7(h:ck k l=some q): ∃i,pK k l=some i/\l[i]? =some q:=by
 rw[N9,ak] at h;exact h
def anG: ∀ {l:List Obj},pK k l=some i->i<l.length:=by
 intro l
 induction l generalizing i with
 |nil=>intro h;cases h
 |cons o l d=>
  intro h;simp only[pK] at h;cases hk:k==o.id with
  |true=>rw[hk] at h;injection h with h;subst h;simp
  |false=>
   rw[hk] at h;simp only[cF,uy] at h;obtain⟨j,e,rfl⟩:=h
   have:=d e;simp only[cX];omega
def BR{α:Type}(p:α->Bool): ∀l:List α,(!(l.any fun x=> !p x))=l.all p
 | []=>rfl
 |x::l=>by
  simp only[List.any_cons,kx,Bool.not_or,Bool.not_not,BR p l]
variable{n:Nat}
def Rf(w:No Q 129)(z:au 6 Obj.val ov l)(hM:bM aa.str s n (iy 0 l)){id:ae}(A:ck id l=some q):aq Q 129 [.agg [ov,.map n],.str id] s (aN (q.x,q.y)) s:=by
 obtain⟨i,F,B⟩:=aa7 A;have j:=fun lc k=>z.at eO.2.2.1 B lc k;have d:=qP iA PX KV hM id;rw[FH,F] at d;simp only[jZ,Option.getD_some,eM] at d;have u:=z.cs;have e: ∃v s',aq Q 129 [.agg [ov,.map n],.str id] s v s'/\(v=aN (q.x,q.y)/\s'=s):=by
  refine aq.ofNRZ aok (bP ?_);simp only[go_sem,seval,u,d,j,Obj.val,Obj.cells];exact⟨_,rfl,rfl⟩
 obtain⟨v,s',h,rfl,rfl⟩:=e;exact h
def ati(w:No Q 301)(x:au 6 Obj.val ov l){k:Nat}(hM:bM aa.str s n (iy 0 l))(y:s.get [] k=some (.cells [ov,.map n]))(id:ae):aq Q 301 [.str id,.ptr k 0] s (.bool (!di l id)) s:=by
 have d:=yT iA PX KV hM id;have u:=x.ge;refine aq.ofNZ aqc (bP ?_);cases hq:ck id l with
 |none=>
  have e:pK id l=none:=by
   cases e:pK id l with
   |none=>rfl
   |some i=>
    have:=anG e;rw[N9,e,bk,gB this] at hq;cases hq
  have h:di l id=false:=by simp only[di,mH,hq];rfl
  rw[FH,e] at d;simp only[sV,om] at d;simp only[go_sem,seval,y,aP,aQ,d,h,eA,kz,mg]
 |some q=>
  obtain⟨i,A,z⟩:=aa7 hq;have j:=fun lc k=>x.at eO.2.2.1 z lc k;have h:di l id=an q.Al 1:=by simp only[di,mH,hq]
  rw[FH,A] at d;simp only[jZ,om,eM] at d;simp only[go_sem,seval,y,aP,aQ,d,h,j,u,eA,kz,mg,Obj.val,Obj.cells]
variable{o:Obj}
def atB(y:No Q 219)(d:No Q 301)(e:No Q 261)(h:No Q 167)(z:au 6 Obj.val ov l)(hM:bM aa.str s n (iy 0 l))(F:n<s.aL)(go:o.AL)(B:o.gT.length<=1000000):
 aq Q 219 [.agg [ov,.map n],o.val] s (.bool (o.gT.all (di l))) (s.new (.cells [ov,.map n])):=by
 have u:=z.cs;have w:bM aa.str (s.new (.cells [ov,.map n])) n (iy 0 l):=by
  show(s.new _).get [] n=_;rw[eN,bN.2 (by omega:n≠s.aL)];exact hM
 have G:(s.new (.cells [ov,.map n])).get [] s.aL=some (.cells [ov,.map n]):=by rw[eN,bS];rfl
 have j:=H2 e h go.gT B d.s (s:=s.new (.cells [ov,.map n])) (cap:=[.ptr s.aL 0]) (p:=fun x=> !di l x) fun x _=>ati d z w G x;have A:=go.all;refine aq.ofNZ ape (bP ?_);simp only[go_sem,seval,u,A,Obj.val,Obj.cells];refine co.of j (by decide) ?_;simp only[go_sem,seval,BR]
variable{l:List ae}
def anH(O:l.length<=1000000)(Z: ∀(i:Nat) (y:ae),l[i]? =some y-> ∃a,(∀lc,gS ah lc 25 sv (aI i)=some a)/\ ∀lc,lS ah [] 9 a lc s=some (.str y)){x:ae}{r:Int}(U: ∀e,r= -1->K (.exit 0) ⟨e,19,lc⟩ s)(Y: ∀e,ac e 4=ag r->K .ret ⟨e,19,lc⟩ s):
 ∀(h d:List ae) (e:aw),l=d++h->r=fp (fun y=>x==y) h d.length->ac e 0=sv->ac e 1= .str x->ac e 7=aI l.length->ac e 8=aI d.length->W Q 223 (.loop IE) ⟨e,19,lc⟩ s K:=by
 intro h
 induction h with
 |nil=>
  intro d e B G H F A z;have J:d.length=l.length:=by rw[B];simp
  refine bm ?_;simp only[go_sem,seval,IE,A,z,J,cq];exact U _ G
 |cons y h S=>
  intro d e B G H F A z;have j:d.length<l.length:=by rw[B];simp
  have N:l[d.length]? =some y:=by rw[B];simp
  obtain⟨a,w,u⟩:=Z _ _ N;have I:=da (n:=d.length) (by omega);refine bm ?_;cases hd:x==y with
  |true=>
   simp only[go_sem,seval,IE,H,F,A,z,j,w,u,hd];exact Y _ (by simp only[sN,seval,z,G,fp,hd])
  |false=>
   simp only[go_sem,seval,IE,H,F,A,z,j,w,u,hd,I];refine S (d++[y]) _ (by rw[B];simp) (by rw[G];simp only[fp,hd,cF,sA]) ?_ ?_ ?_ ?_
   all_goals simp only[sN,seval,H,F,A,sA]
def V8(u:No Q 223)(w:No Q 130)(d:l.length<=1000000)(h:sv.ge=true)(j: ∀z,iM ah z 25 sv s=some (aI l.length))(B: ∀(i:Nat) (y:ae),l[i]? =some y-> ∃a,(∀lc,gS ah lc 25 sv (aI i)=some a)/\ ∀lc,lS ah [] 9 a lc s=some (.str y))(x:ae):aq Q 130 [sv,.str x] s (.bool (l.contains x)) s:=by
 have H:aq Q 223 [sv,.str x] s (bF (fp (fun y=>x==y) l 0)) s:=by
  refine aq.ofNZ apj (bP ?_);simp only[go_sem,seval,j,h];refine anH d B (x:=x) (r:=fp (fun y=>x==y) l 0) ?_ ?_ l [] _ rfl rfl (by simp only[sG,seval, *]) (by simp only[sG,seval, *]) (by simp only[sG,seval, *]) (by simp only[sN,seval];rfl);intro e A;simp only[go_sem,seval,A];rfl;intro e F;simp only[go_sem,seval,F];rfl
 have G:l.any (fun y=>x==y)=l.contains x:=by
  rw[List.contains_eq_any_beq]
 refine aq.ofNZ aol (bP ?_);simp only[go_sem,seval,h];refine co.of H (by decide) ?_;simp only[go_sem,seval,bF,ni,AG,G]
def MX(d:No Q 223)(e:No Q 130)(j:au 1 ax sv l)(h:l.length<=1000000)(x:ae)(s:St):aq Q 130 [sv,.str x] s (.bool (l.contains x)) s:=
 V8 d e h j.ge (fun u=>j.lenS bT u s) (fun i y w=>⟨_,fun lc=>j.at bT.2.2.1 w lc .i64,fun lc=>by rw[Jy,gK];rfl⟩) x
def V7(d:No Q 223)(e:No Q 130){off len cap:Nat}{cs:List aa}(z:s.get [] m=some (.cells cs))(j:l.length=len)(A: ∀(i:Nat) (y:ae),l[i]? =some y->cs[off+i]? =some (.str y))(h:l.length<=1000000)(x:ae):aq Q 130 [.arr 1 m off len cap,.str x] s (.bool (l.contains x)) s:=by
 refine V8 d e h rfl (fun w=>?_) (fun i y u=>⟨.ptr m (off+i*1),fun lc=>?_,fun lc=>?_⟩) x;rw[j];exact yN w 1 m off len cap s;have:i<len:=by rw[<-j];exact(nR.1 u).1
 have B:bh i len=true:=cN this;rw[bT.2.2.2.1];simp only[fc,pO,bk,B,bX];rw[aP,z,aQ,gK,Nat.mul_one]
 have:=A i y u;rw[GV,this]
def nj:Sp
 | [v,.str x]=>(dW 1 gG v).bind fun l=>bif decide (l.length<=1000000) then some (.bool (l.contains x)) else none
 |_=>none
def HD(h:au 1 ax v l)(d:l.length<=1000000)(x:ae):nj [v,.str x]=some (.bool (l.contains x)):=by
 simp only[dX,nj,kT kF h,d,dT]
def MY:cL ah 130 nj:=by
 intro j u d G A w xs x y;unfold nj at d;split at d;simp only[ak] at d;obtain⟨l,H,h⟩:=d;obtain⟨e,h⟩:=bc h;simp only[dE] at e;have h:=sI h;subst h;have z:=ig (fun _ _ h=>kQ h) H;obtain⟨F,B⟩:=nz rq z;refine iu (T:=[]) (W:=[]) .nil .nil (by simp only[dK,F,dy,bG,bX]) (fun I=>?_) G A w xs x y;exact⟨_,_,MX ⟨rfl,rfl⟩ ⟨rfl,rfl⟩ B e _ _,⟨1,rfl⟩⟩;cases d
abbrev CK:=ae×ae
def iV(k:CK):aa:=.agg [.str k.1,.str k.2]
def Wj(a b c d:ae):kg ah 8 196 (.agg [.str a,.str b]) (.agg [.str c,.str d])=some (wu (a,b) (c,d)):=by
 have h:kg ah 8 196 (.agg [.str a,.str b]) (.agg [.str c,.str d])=(some (a==c)).bind fun r=>bif r then(some (b==d)).bind fun r=>bif r then some true else some false else some false:=by kernel_rfl
 rw[h];unfold wu;cases a==c<;>cases b==d<;>rfl
def PU:BO ah 196 iV where
 eq a b:=by
  have h:=Wj a.1 a.2 b.1 b.2;have e:iV a= .agg [.str a.1,.str a.2]:=rfl;have d:iV b= .agg [.str b.1,.str b.2]:=rfl;rw[e,d,h];by_cases hab:a=b;rw[dQ hab,(Hw a b).2 hab];rw[dN hab];cases hc:wu a b with
  |true=>exact absurd ((Hw a b).1 hc) hab
  |false=>rfl
 same a:=by simp[iV,tP,wt,xz]
 ge _:=rfl
def ZX(k:CK):lw ah 279 (iV k)=some (196,25):=by kernel_rfl
def fy(id:ae)(d:List CK×(CK->List ae))(k:CK):List CK×(CK->List ae):=bif(d.2 k).contains id then d else(eD k d.1,kq d.2 k (d.2 k++[id]))
abbrev Ad:=ta iV ax
def RP(d:o.Al=2):(kL o).length=o.gT.length-1:=by
 have:an o.Al 3=false:=by rw[d];rfl
 simp only[kL,this,cF,ky,bU,List.length_zip,xO];omega
def ado(d:o.Al=3):(kL o).length=o.gT.length:=by
 have:an o.Al 3=true:=by rw[d];rfl
 simp only[kL,this,cT,bU,List.length_zip,de,xO,List.length_take];omega
def axd(u:o.Al=2\/o.Al=3)(y:i<o.gT.length)(j: ¬(i+1=o.gT.length/\o.Al=2)){a b:ae}(w:o.gT[i]? =some a)(d:o.gT[(i+1) % o.gT.length]? =some b):(kL o)[i]? =some (du a b):=by
 have e:(o.gT.zip (o.gT.tail++(bif an o.Al 3 then o.gT.take 1 else [])))[i]? =some (a,b):=by
  rw[List.getElem?_zip_eq_some];refine⟨w,?_⟩;by_cases hlast:i+1=o.gT.length;have x:o.Al=3:=u.resolve_left fun h=>j ⟨hlast,h⟩;have:an o.Al 3=true:=by rw[x];rfl
  rw[hlast,Nat.mod_self] at d;rw[this,cT,List.getElem?_append_right (by rw[xO];omega),xO,show i-(o.gT.length-1)=0 by omega,GU,iP (by omega)];exact d;rw[Nat.mod_eq_of_lt (by omega)] at d;rw[List.getElem?_append_left (by rw[xO];omega),List.getElem?_tail];exact d
 simp only[kL,jo,e,jZ]
def Wc{α:Type}{l:List α}{a:α}(h:l[i]? =some a):l.drop i=a::l.drop (i+1):=by
 have d:i<l.length:=(nR.1 h).1;rw[List.drop_eq_getElem_cons d,(nR.1 h).2]
def acR{a b:Nat}(h:0<b):dz ah .rem 3 (ag ((a:Nat):Int)) (ag ((b:Nat):Int))=some (ag ((a % b:Nat):Int)):=by
 have d:an ((b:Nat):Int) 0=false:=by simp only[an,bN];omega
 show(bif an ((b:Nat):Int) 0 then none else some (ag (((a:Nat):Int).tmod ((b:Nat):Int))))=_;rw[d,cF,Int.ofNat_tmod]
def asC(b8:No Q 130)(b7:No Q 223)(go:o.AL)(hk:o.Al=2\/o.Al=3)(hr:o.gT.length<=1000){lo x:Nat}{s0:St}{KE:List CK}{VE:CK->List ae}{n17:aa}{n18 n19:Nat}{x1:Option (List aa)}(hx: ∀e lc s T,Ad s m lo KE VE T->(∀n,n<lo->n≠m->s.get [] n=s0.get [] n)->s0.aL<=s.aL->s.gE<=s.aL->ac e 3= .map m->ac e 17=n17->ac e 18=aI n18->ac e 19=aI n19->ac e 1= .Gt 1 1 0->lc.get 1 1=x1->lc.gen 1=1->K (.exit 2) ⟨e,110,lc⟩ s):
 ∀(r i:Nat) (K1:List CK) (V1:CK->List ae) (T1:CK->Nat) (e:aw) (lc:Ag.Loc) (s:St),r+i=o.gT.length->((kL o).drop i).foldl (fy o.id) (K1,V1)=(KE,VE)->Ad s m lo K1 V1 T1->(∀k,(V1 k).length+r<=1000000)->(∀n,n<lo->n≠m->s.get [] n=s0.get [] n)->s0.aL<=s.aL->s.gE<=s.aL->
  ac e 3= .map m->ac e 17=n17->ac e 18=aI n18->ac e 19=aI n19->ac e 1= .Gt 1 1 0->lc.get 1 1=x1->lc.gen 1=1->ac e 5= .Gt 5 x 0->lc.gen 5=x->lc.get 5 x=some o.cells->
  ac e 38=o.refsV->ac e 39=aI o.gT.length->ac e 40=aI i->W Q 127 (.loop yJ) ⟨e,110,lc⟩ s K:=by
 have rc:=go.gT.ge;have tc:=go.uP.ge;have G:=go.gT.lenS bT;intro r
 induction r with
 |zero=>
  intro i K1 V1 T1 e lc s c4 hf hO hV O b0 d y Y U S h1 l1 g1 B x z w u j;have hi:i=o.gT.length:=by omega
  have hd:(kL o).drop i=[]:=GP (by
   rcases hk with hk|hk
   rw[RP hk];omega;rw[ado hk];omega)
  rw[hd] at hf;simp only[List.foldl_nil,bC] at hf;obtain⟨rfl,rfl⟩:=hf;refine bm ?_;simp only[go_sem,seval,yJ,u,j,hi,cq];exact hx _ _ _ T1 hO O b0 d (by simp only[sN,seval,y]) (by simp only[sN,seval,Y]) (by simp only[sN,seval,U]) (by simp only[sN,seval,S]) (by simp only[sN,seval,h1]) l1 g1
 |succ r ih=>
  intro i K1 V1 T1 e lc s c4 hf hO hV O b0 d y Y U S h1 l1 g1 B x z w u j;have N:i<o.gT.length:=by omega
  have F:=da (n:=i) (by omega);obtain⟨a,ha⟩: ∃a,o.gT[i]? =some a:=⟨_,gB N⟩;have H:=fun lc k=>go.gT.at bT.2.2.1 ha lc k;have c7:(((i+1:Nat):Int)==((o.gT.length:Nat):Int))=decide (i+1=o.gT.length):=by
   by_cases h:i+1=o.gT.length;rw[h];simp;rw[dN h];simpa using fun hc=>h (by omega)
  by_cases hb:i+1=o.gT.length/\o.Al=2
  ·
   have hd:(kL o).drop i=[]:=GP (by rw[RP hb.2];omega);rw[hd] at hf;simp only[List.foldl_nil,bC] at hf;obtain⟨rfl,rfl⟩:=hf;have e1:an ((i+1:Nat):Int) ((o.gT.length:Nat):Int)=true:=by rw[hb.1];simp[an]
   have e2:an o.Al 2=true:=by rw[hb.2];rfl
   refine bm ?_;simp only[go_sem,seval,yJ,B,x,z,w,u,j,N,H,ax,F,rc,G,e1,e2,Obj.cells];exact hx _ _ _ T1 hO O b0 d (by simp only[sN,seval,y]) (by simp only[sN,seval,Y]) (by simp only[sN,seval,U]) (by simp only[sN,seval,S]) (by simp only[sN,seval,h1]) l1 g1
  ·have hn:0<o.gT.length:=by omega
   obtain⟨b,c1⟩: ∃b,o.gT[(i+1) % o.gT.length]? =some b:=⟨_,gB (vV _ hn)⟩;have J:=fun lc k=>go.gT.at bT.2.2.1 c1 lc k;have Z:=acR (a:=i+1) hn;have c6:=axd hk N hb ha c1;rw[Wc c6,xM] at hf;obtain⟨v,c5,c0⟩:=hO.look PU ZX uh (du a b);have I:=c0.ge;have A:=MX b7 b8 c0 (by have:=hV (du a b);omega) o.id s.top;have a0:oe ah [] 279 (.map m) (.agg [.str (C3 a b),.str (CZ a b)]) false s.top=some v:=c5;have b6:(an ((i+1:Nat):Int) ((o.gT.length:Nat):Int)=true/\an o.Al 2=false)\/an ((i+1:Nat):Int) ((o.gT.length:Nat):Int)=false:=by
    by_cases h:i+1=o.gT.length;left;refine⟨by rw[h];simp[an],?_⟩;simp only[an,bN];exact fun h2=>hb ⟨h,h2⟩;right;simp only[an,bN];omega
   cases hc:(V1 (du a b)).contains o.id with
   |true=>
    rw[hc] at A;have b1:((kL o).drop (i+1)).foldl (fy o.id) (K1,V1)=(KE,VE):=by
     rw[<-hf];simp only[fy,hc,cT]
    refine kB ?_;rcases b6 with⟨e1,e2⟩|e1
    ·simp only[go_sem,seval,yJ,y,B,x,z,w,u,j,N,H,J,ax,F,rc,G,e1,e2,Obj.cells]
     refine gi d ?_;simp only[go_sem,oZ,o0,seval,y,B,x,z,w,u,j,H,J,ax,rc,G,Z,Obj.cells,En,Eo,bf,aZ,aW,aY,evc];refine gi d ?_;simp only[go_sem,oZ,o0,seval,y,B,x,z,Obj.cells,a0,I];refine jR.calm d A (by decide) (by rfl) ?_;simp only[go_sem,oZ,o0,seval,j,F,I];refine ih (i+1) K1 V1 T1 _ _ s (by omega) b1 hO (fun k=>by have:=hV k;omega) O b0 d ?_ ?_ ?_ ?_ ?_ ?_ ?_ ?_ ?_ ?_ ?_ ?_ ?_
     all_goals simp only[aV,fQ,f7,ai,y,Y,U,S,h1,l1,g1,B,x,z,w,u,Obj.cells]
    ·simp only[go_sem,seval,yJ,y,B,x,z,w,u,j,N,H,J,ax,F,rc,G,e1,Obj.cells]
     refine gi d ?_;simp only[go_sem,oZ,o0,seval,y,B,x,z,w,u,j,H,J,ax,rc,G,Z,Obj.cells,En,Eo,bf,aZ,aW,aY,evc];refine gi d ?_;simp only[go_sem,oZ,o0,seval,y,B,x,z,Obj.cells,a0,I];refine jR.calm d A (by decide) (by rfl) ?_;simp only[go_sem,oZ,o0,seval,j,F,I];refine ih (i+1) K1 V1 T1 _ _ s (by omega) b1 hO (fun k=>by have:=hV k;omega) O b0 d ?_ ?_ ?_ ?_ ?_ ?_ ?_ ?_ ?_ ?_ ?_ ?_ ?_
     all_goals simp only[aV,fQ,f7,ai,y,Y,U,S,h1,l1,g1,B,x,z,w,u,Obj.cells]
   |false=>
    rw[hc] at A;have b1:((kL o).drop (i+1)).foldl (fy o.id) (eD (du a b) K1,kq V1 (du a b) (V1 (du a b)++[o.id]))=(KE,VE):=by
     rw[<-hf];simp only[fy,hc,cF]
    obtain⟨v0,p,s1,av,s2,s3,a1,a2,a3,a4,a5,a6,a7,a8,a9,c2⟩:=hO.app PU ZX uh bT.1 rfl (fun n hn=>vw hn (by decide)) (du a b) o.id (by have:=hV (du a b);omega) d;have c3:sj ah [] 279 (.map m) (.agg [.str (C3 a b),.str (CZ a b)]) s=some (.tup [v0,aI p],s1):=a1;simp only[ax] at a3;refine kB ?_;rcases b6 with⟨e1,e2⟩|e1
    ·simp only[go_sem,seval,yJ,y,B,x,z,w,u,j,N,H,J,ax,F,rc,G,e1,e2,Obj.cells]
     refine gi d ?_;simp only[go_sem,oZ,o0,seval,y,B,x,z,w,u,j,H,J,ax,rc,G,Z,Obj.cells,En,Eo,bf,aZ,aW,aY,evc];refine gi d ?_;simp only[go_sem,oZ,o0,seval,y,B,x,z,Obj.cells,a0,I];refine jR.calm d A (by decide) (by rfl) ?_;simp only[go_sem,oZ,o0,seval,y,B,x,z,Obj.cells,I];simp only[go_sem,oZ,o0,seval,j,F,NV,NT,c3,a2,a3,a4,a5,eA,bf,aZ,aW,aY,evc];refine ih (i+1) _ _ _ _ _ s3 (by omega) b1 a6 (fun k=>?_) (fun n h1 h2=>(a7 n h1 h2).trans (O n h1 h2)) (by omega) c2 ?_ ?_ ?_ ?_ ?_ ?_ ?_ ?_ ?_ ?_ ?_ ?_ ?_;by_cases hkk:k=du a b;subst hkk;rw[ru,de]
     have:=hV (du a b);simp only[cX,ct];omega;rw[kN _ _ hkk]
     have:=hV k;omega
     all_goals simp only[aV,fQ,f7,ai,y,Y,U,S,h1,l1,g1,B,x,z,w,u,Obj.cells]
    ·simp only[go_sem,seval,yJ,y,B,x,z,w,u,j,N,H,J,ax,F,rc,G,e1,Obj.cells]
     refine gi d ?_;simp only[go_sem,oZ,o0,seval,y,B,x,z,w,u,j,H,J,ax,rc,G,Z,Obj.cells,En,Eo,bf,aZ,aW,aY,evc];refine gi d ?_;simp only[go_sem,oZ,o0,seval,y,B,x,z,Obj.cells,a0,I];refine jR.calm d A (by decide) (by rfl) ?_;simp only[go_sem,oZ,o0,seval,y,B,x,z,Obj.cells,I];simp only[go_sem,oZ,o0,seval,j,F,NV,NT,c3,a2,a3,a4,a5,eA,bf,aZ,aW,aY,evc];refine ih (i+1) _ _ _ _ _ s3 (by omega) b1 a6 (fun k=>?_) (fun n h1 h2=>(a7 n h1 h2).trans (O n h1 h2)) (by omega) c2 ?_ ?_ ?_ ?_ ?_ ?_ ?_ ?_ ?_ ?_ ?_ ?_ ?_;by_cases hkk:k=du a b;subst hkk;rw[ru,de]
     have:=hV (du a b);simp only[cX,ct];omega;rw[kN _ _ hkk]
     have:=hV k;omega
     all_goals simp only[aV,fQ,f7,ai,y,Y,U,S,h1,l1,g1,B,x,z,w,u,Obj.cells]
end Go.Proofs.YtnnppcoplinajaaGreat
namespace Go.Proofs.YtnnppcoplinajaaGreat
open Go.Ag
open Go.Sort (SWO)
def axD{α:Type}{enc encF:α->aa}{I:α->α->Int}{d:α}{ok:List α->Bool}{k f g:Nat}{ρ:Go.Shelf.Ren}(L:SlLaysF0.n6 ah ρ)(hf:ρ.f 6=f)(aE: ∀w,(isAgg (ρ.t 24)).run ah w= .ok true w)(zE: ∀w,(Go.sizeOf (ρ.t 24)).run ah w= .ok k w)(ef: ∀A w,(callFunc f A).run ah w= .ok (.enter f A) w)(eg: ∀A w,(callFunc g A).run ah w= .ok (.enter g A) w){sp:Sp}(a2:cL ah g sp)(hk: ∀a,(enc a).cells.length=k)(ha: ∀a,enc a= .agg (enc a).cells)(a1:0<k)(hz: ∀a h,fU h (enc a) (encF a))(a5: ∀l,ok l=true->l.length<=1000000/\(∀(i j:Nat) (x y:α),l[i]? =some x->l[j]? =some y->sp [encF x,encF y]=some (ag (I x y)))/\(SWO (ltOf fun x y:Fin l.length=>em I d l x y))/\(∀x y:Fin l.length,(ltOf fun x y:Fin l.length=>em I d l x y) x y=false->(ltOf fun x y:Fin l.length=>em I d l x y) y x=false->x=y)):
 uF f (xE enc I d ok k g):=by
 subst hf;intro A G h w xs wr hx;refine⟨fun B=>?_,fun n gf cs a7 B hl H=>?_⟩
 ·unfold xE at B
  split at B;obtain⟨_,B⟩:=bc B;cases B
  ·cases hx with
   |cons p q=>
   cases q with
   |cons q r=>
   cases r;cases p;cases q with
   |func q1 q2=>
   cases q1;cases q2;refine .inr ⟨ef _ _,(AnyF.slices_SortFunc_none L none 0 _ w).mono ?_⟩;rintro e w' ⟨rfl,rfl⟩;exact⟨_,rfl,G,wr,.refl,.tup .nil⟩
  cases B
 ·unfold xE at B
  split at B
  ·rename_i k' m len N g'
   have hb:=(bc B).1;have hq:=(bc B).2;clear B;simp only[bq] at hb;have Y:=jI hb.1;have U:=jI hb.2;subst Y;subst U;injection hq with hq;injection hq with hq;injection hq with a4 a3
   subst a4;subst a3;have H:=Gk H;obtain⟨F,H⟩:=bc H;have F:=jI F;simp only[xD,ak] at H;obtain⟨l,h1,H⟩:=H;obtain⟨h2,H⟩:=bc H;have H:=(sI H).symm;subst H;have a6:=M4 h1;subst a6;have a0: ∀v∈l.map enc,v.cells.length=k'/\v= .agg v.cells:=fun v hv=>by
    obtain⟨a,_,rfl⟩:=cw.1 hv;exact⟨hk a,ha a⟩
   have O:l.length=len:=by
    rw[ot (fun v hv=>(a0 v hv).1),bU] at F;exact Nat.eq_of_mul_eq_mul_right a1 F
   obtain⟨q1,q2,q3,q4⟩:=a5 l h2;cases hx with
   |cons p q=>
   cases q with
   |cons q r=>
   cases r;cases q with
   |func u1 u2=>
   cases u1;cases u2;have J:(l.map enc).length=l.length:=bU ..;have hy: ∀z,VR G (.arr k' m 0 len N) z->VR G (.arr k' m 0 (l.map enc).length N) z:=fun z hz=>by rw[J,O];exact hz
   have gen: ∀n (hn:n=l.length),SWO (ltOf fun x y:Fin n=>em I d l x y)/\(∀x y:Fin n,(ltOf fun x y:Fin n=>em I d l x y) x y=false->(ltOf fun x y:Fin n=>em I d l x y) y x=false->x=y):=by
    intro n hn;subst hn;exact⟨q3,q4⟩
   have Z:=fun hO=>RY L rfl aE zE ef eg a2 wr (rows:=l.map enc) (us:=l.map encF) hl a0 a1 (by rw[bU,bU]) (fun i v u Y U=>by
    rw[jo,uy] at Y U;obtain⟨a,g1,rfl⟩:=Y;obtain⟨b,S,rfl⟩:=U;rw[g1] at S;injection S with S;subst S
    exact hz a _) (em I d l) (fun i j u u' Y U=>by
    rw[jo,uy] at Y U;obtain⟨a,g1,rfl⟩:=Y;obtain⟨b,S,rfl⟩:=U;have e:em I d l i j=I a b:=by
     unfold em;rw[m8,m8,g1,S];rfl
    rw[q2 i j a b g1 S,e]) hO (gen _ J).2 (by rw[J];exact q1) (hy _ p)
   rw[R3] at Z;exact Z (gen _ J).1
  obtain⟨_,B⟩:=bc B;cases B;cases B
abbrev gF:=CK×List ae×Nat
def g9(a:gF):aa:=.agg [.str a.1.1,.str a.1.2,.list 1 (a.2.1.map ax) (.own a.2.2)]
def wS(a:gF):aa:=.agg [.str a.1.1,.str a.1.2,.list 1 (a.2.1.map ax) .no]
end Go.Proofs.YtnnppcoplinajaaGreat
namespace Go.Proofs.YtnnppcoplinajaaGreat
open Go.Ag
variable{Q:aF}[Std Q]
open Go.Sort (SWO)
def uL(a b:CK):Int:=bif an (gR a.1 b.1) 0 then gR a.2 b.2 else gR a.1 b.1
variable{s:St}
def aio(u:No Q 222)(d:Q.spec 228=some pG)(a b:CK)(e:s.gE<=s.aL):aq Q 222 [.list 1 [.str a.1,.str b.1,.str a.2,.str b.2] .GT] s (bF (uL a b)) s:=by
 have y:pG [.str a.1,.str b.1]=some (ag (gR a.1 b.1)):=rfl;have x:pG [.str a.2,.str b.2]=some (ag (gR a.2 b.2)):=rfl;have w:IntKind.i64.wrap (0+1)=1:=by decide
 have N:IntKind.i64.wrap (0+2)=2:=by decide
 have j:IntKind.i64.wrap (2+1)=3:=by decide
 have J:IntKind.i64.wrap (2+2)=4:=by decide
 have I:IntKind.i64.wrap (4+1)=5:=by decide
 have H:aX 1 ((4:Nat):Int)=true:=by decide
 have G:aX 3 ((4:Nat):Int)=true:=by decide
 have O:aX 5 ((4:Nat):Int)=false:=by decide
 have F:dv (ag 0)=some 0:=rfl;have B:dv (ag 1)=some 1:=rfl;have A:dv (ag 2)=some 2:=rfl;have z:dv (ag 3)=some 3:=rfl;refine aq.ofNZ api (bP ?_);simp only[go_sem,cQ,bL,ai,aA,bH,dH,dS,d8,cz,dR,dP,reduceCtorEq,ek];refine bm ?_;cases e1:an (gR a.1 b.1) 0 with
 |false=>
  have h:uL a b=gR a.1 b.1:=by unfold uL;rw[e1];rfl
  simp only[go_sem,cQ,bL,ai,aA,bH,dH,dS,d8,cz,dR,dP,reduceCtorEq,ek,Fb,w,H,F,B,e,nF,d,y,e1,h,bF]
 |true=>
  have h:uL a b=gR a.2 b.2:=by unfold uL;rw[e1];rfl
  simp only[go_sem,cQ,bL,ai,aA,bH,dH,dS,d8,cz,dR,dP,reduceCtorEq,ek,Fb,w,N,H,F,B,e,nF,d,y,e1];refine bm ?_;cases e2:an (gR a.2 b.2) 0 with
  |false=>simp only[go_sem,cQ,bL,ai,aA,bH,dH,dS,d8,cz,dR,dP,reduceCtorEq,ek,Fb,j,G,A,z,e,nF,d,x,e2,h,bF]
  |true=>
   have S:gR a.2 b.2=0:=by simpa[an] using e2
   simp only[go_sem,cQ,bL,ai,aA,bH,dH,dS,d8,cz,dR,dP,reduceCtorEq,ek,Fb,j,J,G,A,z,e,nF,d,x,e2];refine bm ?_;simp only[go_sem,cQ,bL,ai,aA,bH,dH,dS,d8,cz,dR,dP,reduceCtorEq,ek,Fb,I,O,h,S,bF]
def ain(h:No Q 221)(d:No Q 222)(e:Q.spec 228=some pG)(a b:gF)(w:s.gE<=s.aL):aq Q 221 [wS a,wS b] s (bF (uL a.1 b.1)) s:=by
 have u:dv (ag 0)=some 0:=rfl;have j:dv (ag 1)=some 1:=rfl;refine aq.ofNZ apg (bP ?_);simp only[go_sem,cQ,bL,ai,aA,bH,dH,dS,d8,cz,dR,dP,reduceCtorEq,ek,wS,u,j,bf,aZ,aW,aY,evc];refine co.of (aio d e a.1 b.1 w) (by decide) ?_;simp only[go_sem,cQ,bL,ai,aA,bH,dH,dS,d8,cz,dR,dP,reduceCtorEq,ek,bF]
def fq(l:List Obj)(d:List CK×(CK->List ae))(o:Obj):List CK×(CK->List ae):=(fB l o).foldl (fy o.id) d
theorem Hi(id:ae)(k:CK): ∀(e:List CK) (d:List CK×(CK->List ae)),((e.foldl (fy id) d).2 k).length<=(d.2 k).length+e.length
 | [],d=>by simp
 |j::e,d=>by
  rw[xM];refine eL (Hi id k e _) ?_;have:((fy id d j).2 k).length<=(d.2 k).length+1:=by
   unfold fy;cases (d.2 j).contains id with
   |true=>simp
   |false=>
    simp only[cF];by_cases h:k=j;subst h;rw[ru,de];simp;rw[kN _ _ h];omega
  rw[cX];omega
variable{o:Obj}
def adp(d:o.Al=2\/o.Al=3):(kL o).length<=o.gT.length:=by
 rcases d with d|d
 rw[RP d];omega;rw[ado d];exact bj _
variable{l:List Obj}
def P2(h:se l o=false):fB l o=[]:=by unfold fB;rw[h];rfl
def P3(h:se l o=true):fB l o=kL o:=by unfold fB;rw[h];rfl
def ar2(b8:No Q 130)(b1:No Q 223)(b6:No Q 219)(a9:No Q 301)(b0:No Q 261)(b7:No Q 167){ov:aa}(ho:au 6 Obj.val ov l)(hg: ∀o∈l,o.AL)(hl:l.length<=1000)(hr: ∀o∈l,o.gT.length<=999){n m lo:Nat}(hn:n<lo)(d1:n≠m){s0:St}(hM:bM aa.str s0 n (iy 0 l)){K:Ex->Fr->St->Prop}{KE:List CK}{VE:CK->List ae}(hx: ∀e lc s T,Ad s m lo KE VE T->(∀k,k<lo->k≠m->s.get [] k=s0.get [] k)->s0.aL<=s.aL->s.gE<=s.aL->ac e 3= .map m->K (.exit 0) ⟨e,110,lc⟩ s):
 ∀(A d:List Obj) (u:List CK) (V1:CK->List ae) (T1:CK->Nat) (e:aw) (lc:Ag.Loc) (s:St),l=d++A->A.foldl (fq l) (u,V1)=(KE,VE)->Ad s m lo u V1 T1->(∀k,(V1 k).length<=999*d.length)->(∀k,k<lo->k≠m->s.get [] k=s0.get [] k)->s0.aL<=s.aL->s.gE<=s.aL->
  ac e 3= .map m->ac e 17=ov->ac e 18=aI l.length->ac e 19=aI d.length->ac e 1= .Gt 1 1 0->lc.get 1 1=some [ov,.map n]->lc.gen 1=1->W Q 127 (.loop EY) ⟨e,110,lc⟩ s K:=by
 intro A
 induction A with
 |nil=>
  intro d u V1 T1 e lc s H N hO hV Z a5 a1 h3 y w x r1 l1 g1;have d2:d.length=l.length:=by rw[H];simp
  simp only[List.foldl_nil,bC] at N;obtain⟨rfl,rfl⟩:=N;refine bm ?_;simp only[go_sem,seval,EY,w,x,d2,cq];exact hx _ _ _ T1 hO Z a5 a1 (by simp only[sN,seval,h3])
 |cons o A ih=>
  intro d u V1 T1 e lc s H N hO hV Z a5 a1 h3 y w x r1 l1 g1;have a6:d.length<l.length:=by rw[H];simp
  have c7:l[d.length]? =some o:=by rw[H];simp
  have a7:=fun lc k=>ho.at eO.2.2.1 c7 lc k;have G:=da (n:=d.length) (by omega);have c2:=dM c7;have go:=hg o c2;have e8:=hr o c2;have rc:=go.gT.ge;have tc:=go.uP.ge;have c6:=ho.ge;have c4:=go.gT.lenS bT;rw[xM] at N;have a8: ∀k,(V1 k).length<=999*(d++[o]).length:=fun k=>by
   have:=hV k;rw[de,cX,ct];omega
  have e9:=hO.mlt;have f0:=hO.los;refine bm ?_;by_cases hk:o.Al=2\/o.Al=3
  ·have d4:bM aa.str s n (iy 0 l):=(Z n hn d1).trans hM
   have S:=atB b6 a9 b0 b7 ho d4 (by omega) go (by omega);obtain⟨z,hz⟩:=bZ (s.new (.cells [ov,.map n]));rw[hz] at S;have zn:z.aL=s.aL+1:=by rw[<-hz];rfl
   have zo: ∀j,j<s.aL->z.get [] j=s.get [] j:=fun j hj=>by rw[<-hz,eN,bN.2 (by omega:j≠s.aL)];rfl
   have zm:z.gE<=z.aL:=by rw[<-hz];exact bW a1
   have zO:Ad z m lo u V1 T1:=hO.mono (zo m (by omega)) (fun k hk=>zo _ (hO.tok k hk).2.2) (by omega);have a2: ∀k,k<lo->k≠m->z.get [] k=s0.get [] k:=fun k H h2=>(zo k (by omega)).trans (Z k H h2);have a0:(an o.Al 2=true)\/(an o.Al 2=false/\an o.Al 3=true):=by
    rcases hk with h|h
    left;rw[h];rfl;right;rw[h];exact⟨rfl,rfl⟩
   have Y:se l o=o.gT.all (di l):=by
    unfold se;rcases a0 with h|⟨h,h'⟩
    rw[h];rfl;rw[h,h'];rfl
   have fin: ∀(O:aw) (F:Ag.Loc),o.gT.all (di l)=true->ac O 3= .map m->ac O 17=ov->ac O 18=aI l.length->ac O 19=aI d.length->ac O 1= .Gt 1 1 0->F.get 1 1=some [ov,.map n]->F.gen 1=1-> ∀g5,ac O 5= .Gt 5 g5 0->F.gen 5=g5->F.get 5 g5=some o.cells->
    ac O 38=o.refsV->ac O 39=aI o.gT.length->ac O 40=ag ((0:Nat):Int)-> ∀K':Ex->Fr->St->Prop,(∀I B J T2,Ad J m lo (fq l (u,V1) o).1 (fq l (u,V1) o).2 T2->(∀k,k<lo->k≠m->J.get [] k=s0.get [] k)->s0.aL<=J.aL->J.gE<=J.aL->ac I 3= .map m->ac I 17=ov->ac I 18=aI l.length->ac I 19=aI d.length->ac I 1= .Gt 1 1 0->B.get 1 1=some [ov,.map n]->B.gen 1=1->K' (.exit 2) ⟨I,110,B⟩ J)->W Q 127 (.loop yJ) ⟨O,110,F⟩ z K':=by
    intro O F c8 c3 e7 e6 e5 c1 cl cg g5 c5 d7 d6 e4 e3 e0 K' hK;have c0:fq l (u,V1) o=(kL o).foldl (fy o.id) (u,V1):=by
     unfold fq;rw[P3 (by rw[Y];exact c8)]
    exact asC b8 b1 go hk (by omega) (s0:=z) (KE:=(fq l (u,V1) o).1) (VE:=(fq l (u,V1) o).2) (n17:=ov) (n18:=l.length) (n19:=d.length) (x1:=some [ov,.map n]) (fun I B J T2 q1 q2 q3 q4 q5 q6 q7 q8 q9 d0 c9=>hK I B J T2 q1 (fun k H h2=>(q2 k H h2).trans (a2 k H h2)) (by omega) q4 q5 q6 q7 q8 q9 d0 c9) o.gT.length 0 u V1 T1 O F z (by omega) (by rw[pn,c0]) zO (fun k=>by have:=hV k;omega) (fun _ _ _=>rfl) (bj _) zm c3 e7 e6 e5 c1 cl cg c5 d7 d6 e4 e3 e0
   rcases a0 with e1|⟨e1,I⟩
   ·simp only[go_sem,seval,EY,r1,l1,g1,y,w,x,a6,a7,G,e1,c6,rc,tc,Obj.val,Obj.cells]
    refine co.of S (by decide) ?_;cases hb:o.gT.all (di l) with
    |false=>
     have U:fq l (u,V1) o=(u,V1):=by
      unfold fq;rw[P2 (by rw[Y];exact hb)];rfl
     rw[U] at N;simp only[go_sem,seval,x,G];refine ih (d++[o]) u V1 T1 _ _ z (by rw[H];simp) N zO a8 a2 (by omega) zm ?_ ?_ ?_ ?_ ?_ ?_ ?_
     all_goals simp only[aV,fQ,f7,ai,h3,y,w,r1,l1,g1,sA]
    |true=>
     simp only[go_sem,seval,Obj.cells,c4,rc,tc];refine fin _ _ hb ?_ ?_ ?_ ?_ ?_ ?_ ?_ (lc.gen 5+1) ?_ ?_ ?_ ?_ ?_ ?_ _ ?_
     case refine_14=>
      intro d5 B J T2 p1 p2 p3 p4 p5 p6 p7 p8 p9 a4 a3;simp only[go_sem,seval,p8,G];refine ih (d++[o]) (fq l (u,V1) o).1 (fq l (u,V1) o).2 T2 _ _ J (by rw[H];simp) N p1 (fun k=>?_) p2 p3 p4 ?_ ?_ ?_ ?_ ?_ ?_ ?_;have q1:=Hi o.id k (kL o) (u,V1);have q2:=adp hk;have q3:=hV k;have q4:(fq l (u,V1) o).2 k=((kL o).foldl (fy o.id) (u,V1)).2 k:=by
       unfold fq;rw[P3 (by rw[Y];exact hb)]
      rw[q4,de,cX,ct];simp only at q1;omega
      all_goals simp only[aV,fQ,f7,ai,p5,p6,p7,p9,a4,a3,sA]
     all_goals simp only[aV,fQ,f7,ai,h3,y,w,x,r1,l1,g1,Obj.cells,bS]
     all_goals rfl
   ·simp only[go_sem,seval,EY,r1,l1,g1,y,w,x,a6,a7,G,e1,I,c6,rc,tc,Obj.val,Obj.cells]
    refine co.of S (by decide) ?_;cases hb:o.gT.all (di l) with
    |false=>
     have U:fq l (u,V1) o=(u,V1):=by
      unfold fq;rw[P2 (by rw[Y];exact hb)];rfl
     rw[U] at N;simp only[go_sem,seval,x,G];refine ih (d++[o]) u V1 T1 _ _ z (by rw[H];simp) N zO a8 a2 (by omega) zm ?_ ?_ ?_ ?_ ?_ ?_ ?_
     all_goals simp only[aV,fQ,f7,ai,h3,y,w,r1,l1,g1,sA]
    |true=>
     simp only[go_sem,seval,Obj.cells,c4,rc,tc];refine fin _ _ hb ?_ ?_ ?_ ?_ ?_ ?_ ?_ (lc.gen 5+1) ?_ ?_ ?_ ?_ ?_ ?_ _ ?_
     case refine_14=>
      intro d5 B J T2 p1 p2 p3 p4 p5 p6 p7 p8 p9 a4 a3;simp only[go_sem,seval,p8,G];refine ih (d++[o]) (fq l (u,V1) o).1 (fq l (u,V1) o).2 T2 _ _ J (by rw[H];simp) N p1 (fun k=>?_) p2 p3 p4 ?_ ?_ ?_ ?_ ?_ ?_ ?_;have q1:=Hi o.id k (kL o) (u,V1);have q2:=adp hk;have q3:=hV k;have q4:(fq l (u,V1) o).2 k=((kL o).foldl (fy o.id) (u,V1)).2 k:=by
       unfold fq;rw[P3 (by rw[Y];exact hb)]
      rw[q4,de,cX,ct];simp only at q1;omega
      all_goals simp only[aV,fQ,f7,ai,p5,p6,p7,p9,a4,a3,sA]
     all_goals simp only[aV,fQ,f7,ai,h3,y,w,x,r1,l1,g1,Obj.cells,bS]
     all_goals rfl
  ·have e1:an o.Al 2=false:=by simp only[an,bN];exact fun h=>hk (.inl h)
   have I:an o.Al 3=false:=by simp only[an,bN];exact fun h=>hk (.inr h)
   have U:fq l (u,V1) o=(u,V1):=by
    unfold fq;rw[P2 (by unfold se;rw[e1,I];rfl)];rfl
   rw[U] at N;simp only[go_sem,seval,EY,r1,l1,g1,y,w,x,a6,a7,G,e1,I,Obj.val,Obj.cells];refine ih (d++[o]) u V1 T1 _ _ s (by rw[H];simp) N hO a8 Z a5 a1 ?_ ?_ ?_ ?_ ?_ ?_ ?_
   all_goals simp only[aV,fQ,f7,ai,h3,y,w,r1,l1,g1,sA]
end Go.Proofs.YtnnppcoplinajaaGreat
namespace Go.Proofs.YtnnppcoplinajaaGreat
open Go.Ag
open Go.Sort (SWO)
theorem Hz(a b:ae):gR a b=dn a b:=by
 unfold gR;cases h:fh a b with
 |true=>
  have u:=(ye a b).2 h;rcases VX a b with e|e|e
  rw[e];rfl;omega;omega
 |false=>
  have u: ¬dn a b<0:=fun d=>by rw[(ye a b).1 d] at h;cases h
  have w:=Au a b;cases h2:fh b a with
  |true=>
   have j:=(ye b a).2 h2;rcases VX a b with e|e|e
   omega;omega;rw[e];rfl
  |false=>
   have j: ¬dn b a<0:=fun d=>by rw[(ye b a).1 d] at h2;cases h2
   simp only[cF];omega
def HB(a b:CK):uL a b=iK a b:=by
 unfold uL iK;rw[Hz,Hz]
def El:aa->Option gF
 | .agg [.str a,.str b,.list 1 xs .no]=>(ij gG xs).bind fun l=>some ((a,b),l,0)
 |_=>none
def agt(a:gF):El (wS a)=some (a.1,a.2.1,0):=by
 show(ij gG (a.2.1.map ax)).bind (fun l=>some ((a.1.1,a.1.2),l,0))=_;rw[yV kF];rfl
def UC{v:aa}{a:gF}(h:El v=some a):v=wS a:=by
 unfold El at h;split at h;simp only[ak,aM] at h;obtain⟨l,d,rfl⟩:=h;rw[FI (fun _ _ h=>kQ h) d];rfl;cases h
def MR:Sp
 | [u,v]=>(El u).bind fun a=>(El v).bind fun b=>some (bF (uL a.1 b.1))
 |_=>none
def arX(a:gF):bG (wS a)=true:=by
 simp only[wS,bG,pures,vq rq,bX,mY]
def afZ:df:=[(228,pG)]
def af0:dl afZ:=.cons MP .nil
def aiv:cL ah 221 MR:=by
 refine GD af0 (W:=[]) .nil fun d u h=>?_;unfold MR at h;split at h;simp only[ak] at h;obtain⟨a,j,b,e,h⟩:=h;have h:=sI h;subst h;rw[UC j,UC e];refine⟨by simp only[pures,arX,bX],fun w=>⟨_,_,ain ⟨rfl,rfl⟩ ⟨rfl,rfl⟩ rfl a b (bj _),1,rfl⟩⟩;cases h
noncomputable def Df(l:List gF):Bool:=by classical exact decide (l.length<=1000000/\(l.map (·.1)).Nodup)
abbrev iY:gF:=(([],[]),[],0)
def n7(a b:gF):Int:=uL a.1 b.1
noncomputable def KH:=xE g9 n7 iY Df 3 221
def KP{α β:Type}{d:α->α->Int}(h:SWO (ltOf d))(k:β->α):SWO (ltOf fun x y=>d (k x) (k y)) where
 irrefl x:=h.irrefl (k x)
 trans x y z:=h.trans (k x) (k y) (k z)
 ntrans x y z:=h.ntrans (k x) (k y) (k z)
def arY(a:gF)(h:aD aJ):fU h (g9 a) (wS a):=by
 refine⟨3,?_⟩;have:dt (cG h 1) (a.2.1.map ax)=some (a.2.1.map ax):=yA fun v d=>by
  obtain⟨x,_,rfl⟩:=cw.1 d;rfl
 show(dt (cG h 2) [.str a.1.1,.str a.1.2,.list 1 (a.2.1.map ax) (.own a.2.2)]).bind (fun r=>some (aa.agg r))=_;have e:cG h 2 (.list 1 (a.2.1.map ax) (.own a.2.2))=some (.list 1 (a.2.1.map ax) .no):=by
  show(dt (cG h 1) (a.2.1.map ax)).bind (fun ys=>some (aa.list 1 ys .no))=_;rw[this];rfl
 simp only[dt,e,bk];rfl
def axB:uF 220 KH:=by
 refine axD (encF:=wS) Tryz.sortF220 rfl Tryz.isAgg200 Tryz.sizeOf200 (Go.Proofs.enters_of Tryz.func220 (by kernel_rfl) rfl) (Go.Proofs.enters_of Tryz.func221 (by kernel_rfl) rfl) aiv (fun _=>rfl) (fun _=>rfl) (by decide) arY fun l d=>?_;simp only[Df,dE] at d;refine⟨d.1,fun i j x y A z=>?_,?_,?_⟩;simp only[MR,agt,bk];rfl;have e:(fun x y:Fin l.length=>em n7 iY l x y)=fun x y:Fin l.length=>iK (l.getD x iY).1 (l.getD y iY).1:=by
  funext x y;simp only[em,n7,HB]
 rw[e];exact KP GH fun i:Fin l.length=>(l.getD i iY).1;intro x y w u;have e:(fun x y:Fin l.length=>em n7 iY l x y)=fun x y:Fin l.length=>iK (l.getD x iY).1 (l.getD y iY).1:=by
  funext x y;simp only[em,n7,HB]
 rw[e] at w u;have h:=aeg _ _ w u;rw[Ct,Ct] at h;exact Fin.ext (JJ d.2 (i:=x) (j:=y) (x:=l[x]) (y:=l[y]) (by simp) (by simp) h)
def awz{K:List CK}(G:K.Nodup)(I:K.length<=1000000)(g:CK->gF)(F: ∀k,(g k).1=k){rows:List gF}(z:rows.Perm (K.map g)):Df rows=true/\jU n7 iY rows=(DJ K).map g:=by
 have B:(K.map g).map (·.1)=K:=by
  rw[m9]
  conv=>rhs;rw[<-List.map_id K]
  exact BJ fun k _=>F k
 have A:Df rows=true:=by
  simp only[Df,dE];refine⟨by rw[z.length_eq,bU];exact I,?_⟩;rw[(z.map _).nodup_iff,B];exact G
 refine⟨A,?_⟩;have j:=(vE n7 iY rows).trans z;have J:SWO (ltOf fun x y:Fin rows.length=>em n7 iY rows x y):=by
  have e:(fun x y:Fin rows.length=>em n7 iY rows x y)=fun x y:Fin rows.length=>iK (rows.getD x iY).1 (rows.getD y iY).1:=by
   funext x y;simp only[em,n7,HB]
  rw[e];exact KP GH fun i:Fin rows.length=>(rows.getD i iY).1
 have H:=KG n7 iY rows J;have d:(jU n7 iY rows).map (·.1)=DJ K:=by
  refine axy (((j.map _).trans (by rw[B])).trans (DK K).symm) ?_ (adB K);rw[G4];refine H.imp fun {a b} h=>?_;simp only[n7,HB] at h;simp only[ltOf,oA,decide_eq_false_iff_not];exact h
 have u: ∀x∈jU n7 iY rows,x=g x.1:=fun x w=>by
  obtain⟨k,_,rfl⟩:=cw.1 (j.mem_iff.1 w);rw[F]
 rw[<-d,m9]
 conv=>lhs;rw[<-List.map_id (jU n7 iY rows)]
 exact BJ fun x w=>u x w
end Go.Proofs.YtnnppcoplinajaaGreat
namespace Go.Proofs.YtnnppcoplinajaaGreat
open Go.Ag
variable{Q:aF}[Std Q]
variable{R:List gF}
def P5: ∀v∈R.map g9,v.cells.length=3:=fun v d=>by
 obtain⟨x,_,rfl⟩:=cw.1 d;rfl
variable{n:Nat}{s:St}{o:aJ}
theorem cr(h:n<s.aL):(s.new o).get [] n=s.get [] n:=by
 rw[eN,bN.2 (by omega:n≠s.aL)];rfl
def cH:(s.new o).get [] s.aL=some o:=by rw[eN,bS];rfl
variable{m:Nat}{α:Type}{t:TypeId}
def arQ{enc:α->aa}{kt e:TypeId}(d:ah.underlying t=some (.map kt e)){L:List (α×aa)}(h:bM enc s m L):iM ah [] t (.map m) s=some (aI L.length):=by
 have h:s.get [] m=_:=h;simp only[iM,d,bk,h,Nb]
def aej:ah.underlying 279=some (.map 196 25):=by kernel_rfl
variable{E:EI}{sz:Nat}
def agq(I:lY ah t=some E)(w:E.n=sz)(H:E.b<=88){k:Nat}{xs:List aa}(x:aa)(e: ∀y∈xs,y.cells.length=sz)(z:xs.length<1000000)(F:s.gE<=s.aL)(G:s.get [] k=some (.cells (aG xs)))(A:Bool):
 ∃d,eU ah [] t (.arr sz k 0 xs.length xs.length) (.list sz [x] .GT) A s=some (.arr sz s.aL 0 (xs.length+1) (xs.length+1),d)/\d.get [] s.aL=some (.cells (aG (xs++[x])))/\d.aL=s.aL+1/\d.ci=s.ci/\d.gE<=d.aL/\(∀n,n<s.aL->n≠k->d.get [] n=s.get [] n):=by
 subst w;have B:iR (xs.length+1) E.b=true:=vw (by omega) H;have u:(aG xs).length=xs.length*E.n:=NJ e;have j:aG [x]=x.cells:=by show x.cells++aG []=_;simp[aG]
 refine⟨(s.put k none).new (.cells (aG (xs++[x]))),?_,?_,rfl,rfl,?_,fun n w h=>?_⟩;simp only[fc,eU,I,bk,ee,ju,G,cX,ct,eM,B,u,bX,pn,j,qK];rw[eN,mL,bS];rfl;exact bW (cU s k none F);rw[eN,mL,bN.2 (by omega:n≠s.aL),cF,aU,bN.2 h];rfl
variable{C:Ex->Fr->St->Prop}{it:Nat}
def ar0(Z: ∀i,1000000<=Q.kmax i){K:List CK}{V:CK->List ae}{T:CK->Nat}(a0:K.length<1000000){s0:St}(hx: ∀e lc s (r:Nat) (rows:List gF),rows.Perm (K.map fun k=>(k,V k,T k))->ac e 11= .arr 3 r 0 rows.length rows.length->s.get [] r=some (.cells (aG (rows.map g9)))->r<s.aL->s0.aL<=r->(∀n,n<s0.aL->s.get [] n=s0.get [] n)->s.gE<=s.aL->C (.exit 4) ⟨e,110,lc⟩ s):
 ∀(c:Nat) (seen:List Nat) (e:aw) (lc:Ag.Loc) (s:St) (r:Nat),c+seen.length=K.length->iT iV s it m (gc K fun k=>.list 1 ((V k).map ax) (.own (T k))) seen->ac e 95= .ptr it 0->ac e 11= .arr 3 r 0 seen.length seen.length->s.get [] r=some (.cells (aG ((seen.map fun b=>((fun k=>(k,V k,T k):CK->gF) (K.getD b ([],[])))).map g9)))->
  s0.aL<=r->s0.aL<=it->m<s0.aL->r<s.aL->it<s.aL->r≠it->(∀n,n<s0.aL->s.get [] n=s0.get [] n)->s.gE<=s.aL->W Q 127 (.loop Oq) ⟨e,110,lc⟩ s C:=by
 intro c
 induction c with
 |zero=>
  intro seen e lc s r hc I d h F Y U S O l5 A u j;rcases I.aL Q.ch Q.kmax (fun i=>by rw[ue];have:=Z i;omega) with⟨hp,hnx⟩|⟨b,p,s1,hb,hnm,hlt,_⟩
  rw[ue] at hp;refine bm ?_;simp only[go_sem,seval,Oq,d,yB,hnx,eA,bf,aZ,aW,aY,evc];refine hx _ _ _ r (seen.map fun b=>((fun k=>(k,V k,T k):CK->gF) (K.getD b ([],[])))) ?_ (by simp only[sN,seval,h,bU]) F O Y u j;have h1:=hp.map fun b=>((fun k=>(k,V k,T k):CK->gF) (K.getD b ([],[])));refine h1.trans ?_;have:(hZ K.length).map (fun b=>((fun k=>(k,V k,T k):CK->gF) (K.getD b ([],[]))))=K.map fun k=>(k,V k,T k):=by
   refine GQ (by simp) fun i h1 h2=>?_;have z:i<K.length:=by simpa using h2
   simp[m8,z]
  rw[this];rw[ue] at hlt;omega
 |succ c ih=>
  intro seen e lc s r hc I d h F Y U S O l5 A u j;rcases I.aL Q.ch Q.kmax (fun i=>by rw[ue];have:=Z i;omega) with⟨hp,hnx⟩|⟨b,p,s1,hb,hnm,hlt,hnx,ho,z,hn1,hm1⟩
  have:=hp.length_eq;rw[ue,D6] at this;omega;have y:b<K.length:=by
   have:=(nR.1 hb).1;rwa [ue] at this
  have G:p=(K[b],.list 1 ((V K[b]).map ax) (.own (T K[b]))):=by
   have:(gc K fun k=>aa.list 1 ((V k).map ax) (.own (T k)))[b]? =some (K[b],.list 1 ((V K[b]).map ax) (.own (T K[b]))):=by
    unfold gc;rw[jo,gB y];rfl
   rw[this] at hb;exact(sI hb).symm
  have H:m≠it:=by omega
  have I1:=I.go H hb hnm ho z;have w:=iT.entry z I1.hm hb;have x:s1.gE<=s1.aL:=by rw[hm1,hn1];exact cU s it none j
  have B:s1.get [] r=_:=(ho r A).trans F;obtain⟨s2,N,a2,a3,a4,a5,J⟩:=agq (t:=193) Bs.1 rfl (by decide) (g9 (K[b],V K[b],T K[b])) P5 (by rw[bU,bU];rw[ue] at hlt;omega) x B false;rw[bU,bU] at N;subst G;simp only[iV] at hnx w;simp only[g9] at N;refine bm ?_;simp only[go_sem,seval,Oq,d,h,yB,EN,hnx,w,eA,ii,bf,aZ,aW,aY,evc];simp only[go_sem,seval,EN,w,h,eA,ii,N,bf,aZ,aW,aY,evc];refine ih (seen++[b]) _ _ s2 s1.aL (by rw[de];simp only[cX,ct];omega) ⟨?_,?_,I1.nd,I1.lt⟩ ?_ ?_ ?_ (by omega) U S (by omega) (by omega) (by omega) (fun n hn=>?_) a5;rw[J it (by omega) (fun e=>A e.symm)];exact I1.hi;exact(J m (by omega) (by omega)).trans I1.hm;simp only[sN,seval,d];simp only[sN,seval,sA];rw[a2,eK,eK];simp[m8,y,g9];rw[J n (by omega) (by omega),ho n (by omega)];exact u n hn
def ff(l:List Obj):List CK×(CK->List ae):=l.foldl (fq l) ([],fun _=>[])
def agc(id:ae)(k:CK)(d:List CK×(CK->List ae))(x:d.1.Nodup)(w: ∀j,j ∉ d.1->d.2 j=[]):(fy id d k).1.Nodup/\(∀j,j ∉ (fy id d k).1->(fy id d k).2 j=[])/\(fy id d k).1.length<=d.1.length+1:=by
 unfold fy;cases (d.2 k).contains id with
 |true=>exact⟨x,w,jW _⟩
 |false=>
  refine⟨xX x,fun j u=>?_,(agd k d.1).2⟩;have h:j≠k/\j ∉ d.1:=⟨fun e=>u (nD.2 (.inl e)),fun e=>u (nD.2 (.inr e))⟩;show kq d.2 k (d.2 k++[id]) j=[];rw[kN _ _ h.1];exact w j h.2
def adm(id:ae): ∀(e:List CK) (d:List CK×(CK->List ae)),d.1.Nodup->(∀j,j ∉ d.1->d.2 j=[])->(e.foldl (fy id) d).1.Nodup/\(∀j,j ∉ (e.foldl (fy id) d).1->(e.foldl (fy id) d).2 j=[])/\(e.foldl (fy id) d).1.length<=d.1.length+e.length
 | [],d,h1,h2=>⟨h1,h2,bj _⟩
 |k::e,d,h1,h2=>by
  obtain⟨a,b,c⟩:=agc id k d h1 h2;obtain⟨u,h,w⟩:=adm id e _ a b;refine⟨u,h,?_⟩;rw[xM,cX];omega
def QC(l:List Obj): ∀(os:List Obj) (d:List CK×(CK->List ae)),d.1.Nodup->(∀j,j ∉ d.1->d.2 j=[])->(os.foldl (fq l) d).1.Nodup/\(∀j,j ∉ (os.foldl (fq l) d).1->(os.foldl (fq l) d).2 j=[])/\(os.foldl (fq l) d).1.length<=d.1.length+(os.flatMap (fB l)).length
 | [],d,h1,h2=>⟨h1,h2,bj _⟩
 |o::os,d,h1,h2=>by
  obtain⟨a,b,c⟩:=adm o.id (fB l o) d h1 h2;obtain⟨h,e,u⟩:=QC l os (fq l d o) a b;refine⟨h,e,?_⟩;rw[xM,D5,de];have:(fq l d o).1.length<=d.1.length+(fB l o).length:=c;omega
def avk(l:List Obj):(ff l).1.Nodup:=(QC l l ([],fun _=>[]) BL fun _ _=>rfl).1
def abY(l:List Obj):(ff l).1.length<=(l.flatMap (fB l)).length:=by
 have:(ff l).1.length<=([]:List CK).length+(l.flatMap (fB l)).length:=(QC l l ([],fun _=>[]) BL fun _ _=>rfl).2.2;rwa [ct,eM] at this
def fZ(l:List Obj):List CK:=DJ (ff l).1
def afa(s:St)(v:aa)(l:List Obj):Prop:= ∃(r c:Nat) (T:CK->Nat),v= .arr 3 r 0 (fZ l).length c/\s.get [] r=some (.cells (aG ((fZ l).map fun k=>g9 (k,(ff l).2 k,T k))))/\r<s.aL
def arZ{a b:gF}(h:(g9 a).cells=(g9 b).cells):a=b:=by
 obtain⟨⟨y,x⟩,e,w⟩:=a;obtain⟨⟨u,b2⟩,b3,b4⟩:=b;simp only[g9,lO,List.cons.injEq,aa.str.injEq,aa.list.injEq,lJ.own.injEq,aT,tA] at h;obtain⟨rfl,rfl,j,rfl⟩:=h;have:e=b3:=by
  have d:=yV kF e;rw[j,yV kF b3] at d;exact(sI d).symm
 rw[this]
variable{l:List Obj}{ov:aa}
def arW(hK: ∀i,1000000<=Q.kmax i)(b1:No Q 127)(u:Q.spec 220=none)(A:Q.specW 220=some KH)(G:No Q 130)(z:No Q 223)(B:No Q 219)(x:No Q 301)(y:No Q 261)(F:No Q 167)(ho:au 6 Obj.val ov l)(hg: ∀o∈l,o.AL)(hl:l.length<=1000)(hr: ∀o∈l,o.gT.length<=999)(a6:(ff l).1.length<1000000)(hM:bM aa.str s n (iy 0 l))(hn:n<s.aL)(a1:s.gE<=s.aL):
 ∃v s',aq Q 127 [.agg [ov,.map n]] s v s'/\(afa s' v l/\(∀k,k<s.aL->s'.get [] k=s.get [] k)/\s.aL<=s'.aL/\s'.gE<=s'.aL/\v.ge=true):=by
 have a9:=ho.cs;have a4:=ho.lenS eO;refine aq.ofNRZ aoi (bP ?_);simp only[go_sem,seval,a9,a4,uI,mJ];have b0:Ad (s.new (.map [] 0)) s.aL (s.aL+1) [] (fun _=>[]) (fun _=>0):=⟨cH,BL,fun _ h=>(by cases h),fun _ h=>(by cases h),fun _ _=>rfl,jX _,bj _⟩;refine ar2 G z B x y F ho hg hl hr (n:=n) (m:=s.aL) (lo:=s.aL+1) (by omega) (by omega) (s0:=s.new (.map [] 0)) (by show St.get _ [] n=_;rw[cr hn];exact hM) (KE:=(ff l).1) (VE:=(ff l).2) ?_ l [] [] (fun _=>[]) (fun _=>0) _ _ _ rfl rfl b0 (fun _=>jY _) (fun _ _ _=>rfl) (bj _) (bW a1) ?_ ?_ ?_ ?_ ?_ ?_ ?_;intro e lc d T hO a8 a0 N h3;have j:=arQ aej hO.hm;rw[ue] at j;have a2:og ah 193 (ag 0) (aI (ff l).1.length) true d=some (.arr 3 d.aL 0 0 0,d.new (.cells [])):=by
  have h1:bu 0 (ff l).1.length=true:=cN (jY _);have h2:bu ((ff l).1.length*56) 1099511627776=true:=cN (by omega);have h3:bu (ff l).1.length 1099511627776=true:=cN (by omega);have n0:dv (ag 0)=some 0:=rfl;simp only[dX,og,Bs,n0,pO,h1,h2,h3,lD,gA,bX,cF,aW]
 have b6:s.aL+1<=d.aL:=a0;have S:bM iV (d.new (.cells [])) s.aL (gc (ff l).1 fun k=>.list 1 (((ff l).2 k).map ax) (.own (T k))):=by
  show St.get _ [] s.aL=_;rw[cr (by omega)];exact hO.hm
 have I:=iT.new aej S;have hI:=iT.begin S (by show s.aL<d.aL+1;omega);rw[ue] at I;simp only[go_sem,seval,h3,j,Q5,a2,HX,I,ii];refine ar0 hK (it:=d.aL+1) (m:=s.aL) (K:=(ff l).1) (V:=(ff l).2) (T:=T) a6 (s0:=d) ?_ (ff l).1.length [] _ _ _ d.aL (by simp) (by rw[ue] at hI;exact hI) ?_ ?_ ?_ (bj _) (jW _) (by omega) ?_ ?_ (by omega) (fun k hk=>?_) ?_;intro e2 b7 s2 r rows hp U Y a3 b8 O J;obtain⟨Z,w⟩:=awz (avk l) (by omega) (fun k=>(k,(ff l).2 k,T k)) (fun _=>rfl) hp;have a5:rows.length=(fZ l).length:=by rw[hp.length_eq,bU];exact(DK _).length_eq.symm
 have a7:(bif aK (aG (rows.map g9)).length (rows.length*3) then xD g9 n7 iY Df (aG (rows.map g9)) else none)=some (aG ((fZ l).map fun k=>g9 (k,(ff l).2 k,T k))):=by
  have h1:(aG (rows.map g9)).length=rows.length*3:=by rw[ot P5,bU]
  rw[h1,ja,bS,cT,xD,HF (k:=3) (fun _=>rfl) (by decide) (fun a b=>arZ)];simp only[dX,Z,w,m9];rfl
 simp only[go_sem,seval,U,ii,u];refine co.of (aq.specWp (n:=r) (cs':=aG ((fZ l).map fun k=>g9 (k,(ff l).2 k,T k))) u (Std.H _) A rfl Y a7) (by decide) ?_;simp only[go_sem,seval,U,ii];refine⟨_,rfl,⟨r,rows.length,T,by rw[a5],by rw[aU,bS];rfl,a3⟩,fun k hk=>?_,?_,cU s2 r _ J,rfl⟩;rw[aU,bN.2 (by omega:k≠r),cF,O k (by omega),a8 k (by omega) (by omega),cr hk];show s.aL<=s2.aL;omega;simp only[sN,seval]<;>rfl;simp only[sN,seval]<;>rfl;rw[cr (by show d.aL<d.aL+1;omega),cH];rfl;show d.aL<d.aL+1+1;omega;show d.aL+1<d.aL+1+1;omega;rw[cr (by show k<d.aL+1;omega),cr hk];exact bW (bW N)
 all_goals simp only[aV,nY,ai,bH,ct]
 all_goals rfl
variable{lo:Nat}
def Uz(G:lY ah t=some E)(w:E.n=sz)(B:E.b<=88){enc:α->aa}{l:List α}(F:cI sz lo s ov (l.map enc))(a:α)(x:l.length<=900000)(u:lo<=s.aL)(A:s.gE<=s.aL):
 ∃d h,eU ah [] t ov (.list sz [enc a] .GT) false s.top=some (d,h)/\cI sz lo (s.GE h) d ((l++[a]).map enc)/\h.ci=s.ci/\s.aL<=h.aL/\(s.GE h).gE<=(s.GE h).aL/\(∀n,n<lo->(s.GE h).get [] n=s.get [] n)/\d.ge=true/\d.cells=[d]:=by
 obtain⟨d,h,O,z,N,J,S,H,I⟩:=Ek (t:=t) G w B (s:=s.top) (y:=.list sz [enc a] .GT) (ys:=[enc a]) (show cI sz lo s.top ov _ from F) (by subst w;simp only[fc,ee]) (by rw[bU];show l.length+1<=1000000;omega) u (bj _);have j:s.aL<=h.aL:=J;have e:(l++[a]).map enc=l.map enc++[enc a]:=by rw[eK];rfl
 exact⟨d,h,O,by rw[e];exact z,N,j,pL A j,H,z.ge,I⟩
variable{i:Nat}
def Jx{r:Nat}(h:s.get [] r=some (.cells (aG (R.map g9)))){x:gF}(d:R[i]? =some x):yO ah 200 (i*3) (s.get [] r)=some (g9 x):=by
 rw[h,aQ,acI,ac2 P5 (by rw[jo,d];rfl)];rfl
def P6(mk:aH)(n m o l c:Nat)(s:St):iM ah mk 193 (.arr n m o l c) s=some (aI l):=by kernel_rfl
def Gg{k:ae}{q:Obj}(h:ck k l=some q):ep l k=(q.x,q.y):=by unfold ep;rw[h]
variable{K:Ex->Fr->St->Prop}{c:Nat}
def aw2(z:No Q 129)(ho:au 6 Obj.val ov l){r:Nat}(c0:R.length<=1000)(hk: ∀x∈R,(∃q,ck x.1.1 l=some q)/\ ∃q,ck x.1.2 l=some q){s0:St}(hM:bM aa.str s0 n (iy 0 l))(hr:s0.get [] r=some (.cells (aG (R.map g9))))(hn:n<lo)(b1:r<lo)(hx: ∀e lc s sv,cI 4 lo s sv ((R.map fun x=>kp l x.1).map bO)->(∀k,k<lo->s.get [] k=s0.get [] k)->s.gE<=s.aL->lo<=s.aL->ac e 5=sv->K (.exit 0) ⟨e,30,lc⟩ s):
 ∀(j d:List gF) (e:aw) (lc:Ag.Loc) (s:St) (sv:aa),R=d++j->cI 4 lo s sv ((d.map fun x=>kp l x.1).map bO)->(∀k,k<lo->s.get [] k=s0.get [] k)->s.gE<=s.aL->lo<=s.aL->ac e 5=sv->ac e 8= .arr 3 r 0 R.length c->ac e 9=aI R.length->ac e 10=aI d.length->ac e 2= .Gt 2 1 0->lc.get 2 1=some [ov,.map n]->lc.gen 2=1->W Q 132 (.loop Ov) ⟨e,30,lc⟩ s K:=by
 intro j
 induction j with
 |nil=>
  intro d e lc s sv G Y u h B h5 h8 h9 w h2 H g2;have b8:d.length=R.length:=by rw[G];simp
  have b6:d=R:=by rw[G];simp
  refine bm ?_;simp only[go_sem,seval,Ov,h9,w,b8,cq];rw[b6] at Y;exact hx _ _ _ sv Y u h B (by simp only[sN,seval,h5])
 |cons x j ih=>
  intro d e lc s sv G Y u h B h5 h8 h9 w h2 H g2;have b7:d.length<R.length:=by rw[G];simp
  have U:R[d.length]? =some x:=by rw[G];simp
  have b0:s.get [] r=_:=(u r b1).trans hr;have S:=Jx b0 U;have a9:=da (n:=d.length) (by omega);have Z:bM aa.str s.top n (iy 0 l):=(u n hn).trans hM;obtain⟨⟨q1,N⟩,⟨q2,J⟩⟩:=hk x (dM U);have p1:=Rf z ho Z N;have p2:=Rf z ho Z J;have F:=ho.ge;have A:=Y.ge;have O:=nA h;have n0:dv (ag 0)=some 0:=rfl;have n1:dv (ag 1)=some 1:=rfl;obtain⟨a0,s1,a1,a2,a3,a4,a5,a6,a7,a8⟩:=Uz (t:=205) vD.1 rfl (by decide) Y (kp l x.1) (by
   rw[bU];omega) B h
  have I:bO (kp l x.1)= .agg [ag q1.x,ag q1.y,ag q2.x,ag q2.y]:=by
   simp only[bO,kp,Gg N,Gg J]
  rw[I] at a1;simp only[g9] at S;refine kB ?_;simp only[go_sem,seval,Ov,h8,h9,w,b7,S,aP,Bs,ME];refine gi h ?_;simp only[go_sem,Ih,seval,h5,h2,H,g2,A,F,n0,n1];refine jR.calm h p1 (by decide) (by rfl) ?_;simp only[go_sem,Ih,seval,h5,h2,H,g2,A,F,n0,n1];refine jR.calm h p2 (by decide) (by rfl) ?_;simp only[go_sem,Ih,seval,aN,w,a9,h5,h2,H,g2,A,F,n0,n1,a1,a3,a4,a7,O,bf,aZ,aW,aY,evc];refine ih (d++[x]) _ _ (s.GE s1) a0 (by rw[G];simp) (by rw[eK];exact a2) (fun k hk=>(a6 k hk).trans (u k hk)) a5 (by show lo<=s1.aL;omega) ?_ ?_ ?_ ?_ ?_ ?_ ?_
  all_goals simp only[aV,fQ,f7,ai,h2,H,g2,h8,h9,sA]
def aw3(F:No Q 132)(d:No Q 129)(G:au 6 Obj.val ov l){r:Nat}(z:R.length<=1000)(N: ∀x∈R,(∃q,ck x.1.1 l=some q)/\ ∃q,ck x.1.2 l=some q)(hM:bM aa.str s n (iy 0 l))(I:s.get [] r=some (.cells (aG (R.map g9))))(J:n<s.aL)(u:r<s.aL)(w:s.gE<=s.aL):
 ∃v s',aq Q 132 [.agg [ov,.map n],.arr 3 r 0 R.length c] s v s'/\(au 4 bO v (R.map fun x=>kp l x.1)/\(∀k,k<s.aL->s'.get [] k=s.get [] k)/\s.aL<=s'.aL/\s'.gE<=s'.aL):=by
 have B:=G.cs;refine aq.ofNRZ aou ?_;refine WE.sound ?_;simp only[go_sem,seval,B,uI,ii,P6];refine aw2 d G (c:=c) (lo:=s.aL) z N hM I J u ?_ R [] _ _ s .Ge rfl (.inl ⟨rfl,rfl⟩) (fun _ _=>rfl) w (bj _) ?_ ?_ ?_ ?_ ?_ ?_ ?_;intro e lc S sv H A h y O;have j:=H.ge;simp only[go_sem,seval,O,j];exact⟨_,rfl,H.isL,A,y,h⟩
 all_goals simp only[aV,nY,ai,bH,ct]
 all_goals rfl
def Ql(x y z:Int):Int:=match tU false (.int .i64 x) [.int .i64 y,.int .i64 z] with|some (.int _ w)=>w|_=>0
def Qo(x y z:Int):Int:=match tU true (.int .i64 x) [.int .i64 y,.int .i64 z] with|some (.int _ w)=>w|_=>0
def U6(P:Program)(mk:aH)(d:List TypeId)(e:Bool)(x y z:Int)(s:St):jg P mk .min d e [ag x,ag y,ag z] s=some (ag (Ql x y z),s):=rfl
def U7(P:Program)(mk:aH)(d:List TypeId)(e:Bool)(x y z:Int)(s:St):jg P mk .max d e [ag x,ag y,ag z] s=some (ag (Qo x y z),s):=rfl
def rY(n:Nat):List Int:=(hZ n).map fun i=>((i:Nat):Int)
def XG(n:Nat):(rY n).length=n:=by simp[rY]
def Oa(h:i<n):(rY n)[i]? =some ((i:Nat):Int):=by simp[rY,h]
variable{segs:List bK}{lv:aa}
def as6{sv:aa}(hs:au 4 bO sv segs)(hl:au 1 bF lv (rY segs.length))(b6:segs.length<=1000){s0:St}(hx: ∀e lc s ov,cI 4 lo s ov (segs.map bO)->(∀k,k<lo->s.get [] k=s0.get [] k)->s.gE<=s.aL->lo<=s.aL->ac e 6=ov->ac e 1=lv->ac e 2= .map m->K (.exit 0) ⟨e,208,lc⟩ s):
 ∀(h d:List bK) (e:aw) (lc:Ag.Loc) (s:St) (ov:aa) (a b:Int),segs=d++h->cI 4 lo s ov (d.map bO)->(∀k,k<lo->s.get [] k=s0.get [] k)->s.gE<=s.aL->lo<=s.aL->ac e 6=ov->ac e 7=ag a->ac e 8=ag b->ac e 0=sv->ac e 1=lv->ac e 2= .map m->ac e 26=lv->ac e 27=aI segs.length->ac e 28=aI d.length->W Q 131 (.loop Ig) ⟨e,208,lc⟩ s K:=by
 intro h
 induction h with
 |nil=>
  intro d e lc s ov a b J S I F H h6 Y U Z r1 h2 w u j;have b0:d.length=segs.length:=by rw[J];simp
  have a9:d=segs:=by rw[J];simp
  refine bm ?_;simp only[go_sem,seval,Ig,u,j,b0,cq];rw[a9] at S;exact hx _ _ _ ov S I F H (by simp only[sN,seval,h6]) (by simp only[sN,seval,r1]) (by simp only[sN,seval,h2])
 |cons g h ih=>
  intro d e lc s ov a b J S I F H h6 Y U Z r1 h2 w u j;have G:d.length<segs.length:=by rw[J];simp
  have b1:segs[d.length]? =some g:=by rw[J];simp
  have O:=fun lc k=>hs.at vD.2.2.1 b1 lc k;have N:=fun lc k=>hl.at lf.2.2.1 (Oa G) lc k;have z:=da (n:=d.length) (by omega);have x:=S.ge;obtain⟨B,s1,a1,a2,a3,a4,a5,a6,a7⟩:=Ek (t:=205) vD.1 rfl (by decide) (s:=s) (y:=.list 4 [bO g] .GT) (ys:=[bO g]) S (by simp only[fc,ee]) (by simp only[bU,cX,ct];omega) H F;have A:=a2.ge;simp only[bO] at a1;have a8:cI 4 lo s1 B ((d++[g]).map bO):=by rw[eK];exact a2
  have a0: ∀k,k<lo->s1.get [] k=s0.get [] k:=fun k hk=>(a6 k hk).trans (I k hk);refine bm ?_;cases h0z:an ((d.length:Nat):Int) 0 with
  |true=>
   simp only[go_sem,seval,Ig,h6,Y,U,Z,w,u,j,G,O,N,z,bO,bF,x,bf,aZ,aW,aY,evc];simp only[go_sem,seval,Y,U,j,z,x,A,a1,h0z,a5,rN,rP,U6,U7,bf,aZ,aW,aY,evc];refine ih (d++[g]) _ _ s1 B (Ql (min g.1.1 g.2.1) g.1.1 g.2.1) (Qo (max g.1.1 g.2.1) g.1.1 g.2.1) (by rw[J];simp) a8 a0 a5 (by omega) ?_ ?_ ?_ ?_ ?_ ?_ ?_ ?_ ?_
   all_goals first
    |(simp only[sN,seval,Z,r1,h2,w,u,sA];done)
    |(simp only[sN,seval];rfl)
  |false=>
   simp only[go_sem,seval,Ig,h6,Y,U,Z,w,u,j,G,O,N,z,bO,bF,x,bf,aZ,aW,aY,evc];simp only[go_sem,seval,Y,U,j,z,x,A,a1,h0z,a5,rN,rP,U6,U7,bf,aZ,aW,aY,evc];refine ih (d++[g]) _ _ s1 B (Ql a g.1.1 g.2.1) (Qo b g.1.1 g.2.1) (by rw[J];simp) a8 a0 a5 (by omega) ?_ ?_ ?_ ?_ ?_ ?_ ?_ ?_ ?_
   all_goals first
    |(simp only[sN,seval,Z,r1,h2,w,u,sA];done)
    |(simp only[sN,seval];rfl)
def ajm(a b c d:Int):kg ah 8 207 (.agg [ag a,ag b]) (.agg [ag c,ag d])=some (bif an a c then an b d else false):=by
 have h:kg ah 8 207 (.agg [ag a,ag b]) (.agg [ag c,ag d])=(some (an a c)).bind fun r=>bif r then(some (an b d)).bind fun r=>bif r then some true else some false else some false:=by kernel_rfl
 rw[h];cases an a c<;>cases an b d<;>rfl
def arw:BO ah 207 aN where
 eq a b:=by
  obtain⟨j,e⟩:=a;obtain⟨d,b2⟩:=b;have h:=ajm j e d b2;have w:aN (j,e)= .agg [ag j,ag e]:=rfl;have u:aN (d,b2)= .agg [ag d,ag b2]:=rfl;rw[w,u,h];by_cases h1:j=d<;>by_cases h2:e=b2<;>simp[an,h1,h2]
 same a:=by simp[aN,tP,wt,xz,an]
 ge _:=rfl
def arD(k:Int×Int):lw ah 203 (aN k)=some (207,3):=by kernel_rfl
def ny(l:List Mt):List ((Int×Int)×aa):=l.map fun x=>((x.1,x.2.1),ag x.2.2)
def WH{k:Int×Int}: ∀ {l:List Mt},(∀y∈l,(y.1,y.2.1)≠k)->cD k (ny l)=none
 | [],_=>rfl
 |y::l,h=>by
  show(if k=(y.1,y.2.1) then _ else cD k (ny l))=_;rw[iN fun e=>h y fE e.symm];exact WH fun z d=>h z (iw _ d)
def LZ{l:List bK}{x:Mt}(h:x∈gm l):(0<=x.1/\x.1<l.length)/\(0<=x.2.1/\x.2.1<l.length):=by
 obtain⟨a,u,b,j,d⟩:=Ka h;have e:=Cj d;have y:=AW u;have w:=AW j;omega
def Qn(l:List Mt):au 3 gu (FP l) l:=by
 cases l with
 |nil=>exact .inl ⟨rfl,rfl⟩
 |cons x l=>exact .inr ⟨.no,rfl⟩
def atE(hl:au 1 bF lv (rY segs.length))(u:segs.length<=1000){s0:St}(hx: ∀e lc s,dr m s0 s->bM aN s m (ny (gm segs))->K (.exit 2) ⟨e,208,lc⟩ s):
 ∀(h d:List Mt) (e:aw) (lc:Ag.Loc) (s:St),gm segs=d++h->dr m s0 s->bM aN s m (ny d)->ac e 1=lv->ac e 2= .map m->ac e 82=FP (gm segs)->ac e 83=aI (gm segs).length->ac e 84=aI d.length->W Q 131 (.loop Ot) ⟨e,208,lc⟩ s K:=by
 have a6:(gm segs).length<=1000000:=by
  have:=Gb (F:=fM) (iz 0 segs);rw[wJ] at this;have:segs.length*segs.length<=1000*1000:=rC u u;unfold gm;omega
 intro h
 induction h with
 |nil=>
  intro d e lc s B N O U S z j w;have a3:d.length=(gm segs).length:=by rw[B];simp
  have a0:d=gm segs:=by rw[B];simp
  refine bm ?_;simp only[go_sem,seval,Ot,j,w,a3,cq];rw[a0] at O;exact hx _ _ _ N O
 |cons x h ih=>
  intro d e lc s B N O U S z j w;have a2:d.length<(gm segs).length:=by rw[B];simp
  have J:(gm segs)[d.length]? =some x:=by rw[B];simp
  have a4:=fun lc k=>(Qn (gm segs)).at zC.2.2.1 J lc k;have Z:=da (n:=d.length) (by omega);obtain⟨⟨b1,b2⟩,b3,b4⟩:=LZ (dM J);have Y:=hl.ge;have ea:x.1=((x.1.toNat:Nat):Int):=(K5 b1).symm;have eb:x.2.1=((x.2.1.toNat:Nat):Int):=(K5 b3).symm;have I: ∀lc,gS ah lc 26 lv (ag x.1)=some (.ro [ag x.1]):=fun lc=>by
   rw[ea];exact hl.at lf.2.2.1 (Oa (by omega)) lc .i64
  have H: ∀lc,gS ah lc 26 lv (ag x.2.1)=some (.ro [ag x.2.1]):=fun lc=>by
   rw[eb];exact hl.at lf.2.2.1 (Oa (by omega)) lc .i64
  have a1:cD (x.1,x.2.1) (ny d)=none:=WH fun y hy e=>by
   have hs:(gm segs).Pairwise yU:=Gc (CE segs 0);rw[B] at hs
   have:=(Lf.1 hs).2.2 y hy x fE;simp only[bC] at e;simp only[yU] at this;omega
  have a5:bM aN s.top m (ny d):=O;have A:=vK arw arD a5 (x.1,x.2.1) (ag x.2.2);have G:en (x.1,x.2.1) (ag x.2.2) (ny d)=ny (d++[x]):=by
   rw[u6 a1];unfold ny;rw[eK];rfl
  rw[G] at A;simp only[aN] at A;refine bm ?_;simp only[go_sem,seval,Ot,U,S,z,j,w,a2,a4,Z,gu,I,H,Y,N.mw,A,bf,aZ,aW,aY,evc];refine ih (d++[x]) _ _ _ (by rw[B];simp) (N.putT _) ?_ ?_ ?_ ?_ ?_ ?_;show St.get _ [] m=_;rw[lR,aU,bS];rfl
  all_goals simp only[sN,seval,U,S,z,j,sA]
def asO(Z:No Q 131)(z:Q.spec 224=some Ai){sv:aa}(hs:au 4 bO sv segs)(A:au 1 bF lv (rY segs.length))(d:segs.length<=1000)(hn: ∀x∈segs,qV x=true)(hM:bM aN s m [])(I:m<s.aL)(H:s.gE<=s.aL):
 ∃v s',aq Q 131 [sv,lv,.map m] s v s'/\(v= .tup []/\bM aN s' m (ny (gm segs))/\(∀k,k<s.aL->k≠m->s'.get [] k=s.get [] k)/\s.aL<=s'.aL/\s'.gE<=s'.aL):=by
 have a0:=hs.ge;have F:=A.ge;have w:=A.lenS lf;rw[XG] at w;have j:=(Qn (gm segs)).lenS zC;have J:=(Qn (gm segs)).ge;refine aq.ofNRZ aot ?_;refine WE.sound ?_;simp only[go_sem,seval,w,F];refine as6 hs A d (m:=m) (lo:=s.aL) (s0:=s) ?_ segs [] _ _ s .Ge 0 0 rfl (.inl ⟨rfl,rfl⟩) (fun _ _=>rfl) H (bj _) ?_ ?_ ?_ ?_ ?_ ?_ ?_ ?_ ?_
 ·intro e lc s1 ov U y h N h6 r1 r2
  have B:=U.ge;have u:=U.isL.lenS vD;have O:b9 ((segs.length:Nat):Int) 20000=true:=by simp only[b9,dE];omega
  have q1:=agi U.isL d hn;simp only[go_sem,seval,h6,r1,r2,B,u,O,z,q1,j,J,eA,bf,aZ,aW,aY,evc];refine atE A d (m:=m) (s0:=s1) ?_ (gm segs) [] _ _ s1 rfl (.refl h) ((y m I).trans hM) ?_ ?_ ?_ ?_ ?_;intro e2 a1 s2 S Y;simp only[go_sem,seval];exact⟨_,rfl,rfl,Y,fun k hk G=>(S.old k G).trans (y k hk),by rw[S.aL];exact N,S.mw⟩
  all_goals simp only[sN,seval,r1,r2,ct]
  all_goals rfl
 all_goals simp only[sN,seval,ct]
 all_goals rfl
def arC(k:CK):lw ah 195 (iV k)=some (196,4):=by kernel_rfl
def jP(KB:List CK):List (CK×aa):=gc KB fun _=>.bool true
variable{KB:List CK}
def agC(d:KB.Nodup)(k:CK):en k (.bool true) (jP KB)=jP (eD k KB):=by
 unfold jP;rw[CB _ d];exact KR fun j _=>by
  by_cases h:j=k;subst h;rw[ru];rw[kN _ _ h]
noncomputable def noted(mb:Nat)(KB:List CK)(s:St):St:=s.put mb (some (.map (cY iV 0 (jP KB)) (jP KB).length))
def RR(mk:aH)(m off len lcap:Nat)(lo d:Option Operand)(e:aw)(s:St):jd ah mk 25 (.arr 1 m off len lcap) lo d none e s=(eV e d len).bind fun h=>(eV e lo 0).bind fun l=>bif bu l h&&bu h len then some (.arr 1 m (off+l*1) (h-l) (lcap-l)) else none:=by
 have h:jd ah mk 25 (.arr 1 m off len lcap) lo d none e s=(eV e d len).bind fun h=>(eV e lo 0).bind fun l=>bif aK 1 1&&bu l h&&bu h len&&true then some (.arr 1 m (off+l*1) (h-l) (lcap-l)) else none:=by kernel_rfl
 rw[h];simp only[mY,Nat.beq_refl,eC]
def aig(d:Bool)(s:St)(m c:Nat)(a b:aa)(h:s.get [] m=some (.cells [a,b])):jg ah [] .clear [25] d [.arr 1 m 1 1 c] s=some (.tup [],s.put m (some (.cells [a,.str []]))):=by
 have u:ah.underlying 25=some (.slice 9):=by kernel_rfl
 simp only[fc,jg,u,bk,uJ,bT,h];rfl
variable{bx mb:Nat}
def aa1(j:No Q 128)(w:s.get [] bx=some (.cells [.map mb]))(hM:bM iV s mb (jP KB))(u:KB.Nodup)(a b:ae):aq Q 128 [.str a,.str b,.ptr bx 0] s (.tup []) (noted mb (eD (du a b) KB) s):=by
 have d:=vK PU arC hM (du a b) (.bool true);rw[agC u] at d;simp only[iV,du] at d;have e: ∃v s',aq Q 128 [.str a,.str b,.ptr bx 0] s v s'/\(v= .tup []/\s'=noted mb (eD (du a b) KB) s):=by
  refine aq.ofNRZ aoj ?_;refine WE.sound ?_;simp only[go_sem,cQ,bL,ai,aA,bH,dH,dS,d8,cz,dR,dP,reduceCtorEq,ek,w,aP,aQ,En,Eo,uI,d,Q8,bf,aZ,aW,aY,evc];exact⟨_,rfl,rfl,rfl⟩
 obtain⟨v,s',h,rfl,rfl⟩:=e;exact h
def aiC(B:No Q 133){a b:ae}(z:s.get [] n=some (.cells [.str a,.str b]))(u:s.gE<=s.aL):
 ∃v s',aq Q 133 [.arr 1 n 0 2 2] s v s'/\((a=b/\v= .arr 1 n 0 1 2/\s'=s.put n (some (.cells [.str a,.str []])))\/(a≠b/\v= .arr 1 n 0 2 2/\s'=s)):=by
 have F:IntKind.i64.wrap (1-1)=0:=by decide
 have N:IntKind.i64.wrap (1+1)=2:=by decide
 have w3:IntKind.i64.wrap (2-1)=1:=by decide
 have Z:IntKind.i64.wrap (2+1)=3:=by decide
 have Y:aX ((2:Nat):Int) 2=false:=by decide
 have I:aX 1 ((2:Nat):Int)=true:=by decide
 have U:aX 2 ((2:Nat):Int)=false:=by decide
 have S:aX 1 ((1:Nat):Int)=false:=by decide
 have H:dv (ag 0)=some 0:=rfl;have G:dv (ag 1)=some 1:=rfl;have y: ∀j,ac j 27=ag 1->eV j (some (.tmp 27)) 0=some 1:=fun j h=>by show(ev j (.tmp 27)).bind dv=_;rw[dA,h];rfl
 have x: ∀j,ac j 55=ag 1->eV j (some (.tmp 55)) 0=some 1:=fun j h=>by show(ev j (.tmp 55)).bind dv=_;rw[dA,h];rfl
 have w: ∀j k,ac j 58=ag 1->eV j (some (.tmp 58)) k=some 1:=fun j k h=>by show(ev j (.tmp 58)).bind dv=_;rw[dA,h];rfl
 have J: ∀j d,eV j none d=some d:=fun _ _=>rfl;have A:=fun O c=>aig O s n c (.str a) (.str b) z;refine aq.ofNRZ aox (bP ?_);simp only[go_sem,cQ,bL,ai,aA,bH,dH,dS,d8,cz,dR,dP,reduceCtorEq,ek,yN,ii,Y];refine bm ?_;cases hab:b==a with
 |true=>
  have e:a=b:=(eq_of_beq hab).symm;subst e;simp only[go_sem,cQ,bL,ai,aA,bH,dH,dS,d8,cz,dR,dP,reduceCtorEq,ek,Ow,yN,bT,ii,I,H,G,F,u,z,aP,aQ,hab,xG,RR,y,J];refine bm ?_;simp only[go_sem,cQ,bL,ai,aA,bH,dH,dS,d8,cz,dR,dP,reduceCtorEq,ek,aoy,yN,ii,S,RR,x,w,J,A];exact⟨_,rfl,.inl rfl⟩
 |false=>
  have e:a≠b:=fun e=>by rw[e] at hab;simp at hab
  simp only[go_sem,cQ,bL,ai,aA,bH,dH,dS,d8,cz,dR,dP,reduceCtorEq,ek,Ow,yN,bT,ii,I,H,G,F,N,u,z,aP,aQ,hab,xG];refine bm ?_;simp only[go_sem,cQ,bL,ai,aA,bH,dH,dS,d8,cz,dR,dP,reduceCtorEq,ek,Ow,yN,ii,U];exact⟨_,rfl,.inr ⟨e,rfl⟩⟩
theorem CQ(a b:ae):du a b=if dn a b<=0 then(a,b) else(b,a):=by
 have u:=ye a b;unfold du C3 CZ;by_cases hl:dn a b<0;have d:fh a b=true:=u.1 hl;have e:Ag.leBytes a b=true:=by show(fh a b||a==b)=true;rw[d];rfl
 rw[d,e,iP (by omega)];rfl;have d:fh a b=false:=by
  cases h:fh a b with
  |true=>exact absurd (u.2 h) hl
  |false=>rfl
 by_cases hz:dn a b=0
 have:=uK hz;subst this;have e:Ag.leBytes a a=true:=by show(fh a a||a==a)=true;simp
 rw[d,e,iP (by omega)];rfl;have j:(a==b)=false:=by
  cases h:a==b with
  |true=>rw[eq_of_beq h] at hz;exact absurd (Eu b) hz
  |false=>rfl
 have e:Ag.leBytes a b=false:=by show(fh a b||a==b)=false;rw[d,j];rfl
 rw[d,e,iN (by omega)];rfl
def ZR(a b:ae):du a b=du b a:=by
 rw[CQ,CQ,Au a b];by_cases h:dn a b=0
 have:=uK h;subst this;rw[h];rfl;by_cases h2:dn a b<=0;rw[iP h2,iN (by omega)];rw[iN h2,iP (by omega)]
def yW(id:ae)(KB:List CK)(os:List ae):List CK:=os.foldl (fun KB o=>eD (du o id) KB) KB
def aaF{id:ae}{k:CK}: ∀ {os:List ae} {KB:List CK},k∈yW id KB os↔k∈KB\/ ∃o∈os,k=du o id
 | [],KB=>by simp[yW]
 |o::os,KB=>by
  show k∈yW id (eD (du o id) KB) os↔_;rw[aaF,nD];simp only[dG];constructor;rintro((h|h)|⟨x,hx,h⟩);exact .inr ⟨o,.inl rfl,h⟩;exact .inl h;exact .inr ⟨x,.inr hx,h⟩;rintro(h|⟨x,rfl|hx,h⟩);exact .inl (.inr h);exact .inl (.inl h);exact .inr ⟨x,hx,h⟩
def aa2{id:ae}: ∀ {os:List ae} {KB:List CK},KB.Nodup->(yW id KB os).Nodup
 | [],_,h=>h
 |o::os,KB,h=>aa2 (os:=os) (xX h)
structure Ab (l:List Obj) (D:List ae) (KB:List CK) (K:List Pt) (V:Pt->List ae):Prop where
 v: ∀q id,id∈V q↔id∈D/\ep l id=q
 b: ∀k,k∈KB↔ ∃x y,x∈D/\y∈D/\x≠y/\ep l x=ep l y/\k=du x y
 nd:KB.Nodup
 len: ∀q,(V q).length<=D.length
variable{K:List Pt}{D:List ae}{V:Pt->List ae}
def Ab.old(h:Ab l D KB K V){id:ae}(u:id∈V (ep l id)):Ab l (D++[id]) KB K V:=by
 have w:=((h.v _ _).1 u).1;have d: ∀x,x∈D++[id]↔x∈D:=fun x=>by
  rw[hQ,vQ];exact⟨fun j=>j.elim (fun h=>h) fun e=>e▸w,.inl⟩
 refine⟨fun q x=>by rw[d];exact h.v q x,fun k=>?_,h.nd,fun q=>by rw[de];have:=h.len q;omega⟩;rw[h.b];simp only[d]
theorem Ab.new(h:Ab l D KB K V){id:ae}(A:id ∉ V (ep l id)):Ab l (D++[id]) (yW id KB (V (ep l id))) (eD (ep l id) K) (kq V (ep l id) (V (ep l id)++[id])):=by
 have F:id ∉ D:=fun B=>A ((h.v _ _).2 ⟨B,rfl⟩);have z: ∀x,x∈D++[id]↔x∈D\/x=id:=fun x=>by rw[hQ,vQ]
 refine⟨fun q x=>?_,fun k=>?_,aa2 h.nd,fun q=>?_⟩;rw[z];by_cases hq:q=ep l id;subst hq;rw[ru,hQ,vQ,h.v];constructor;rintro(⟨h1,d⟩|rfl);exact⟨.inl h1,d⟩;exact⟨.inr rfl,rfl⟩;rintro⟨h1|h1,d⟩;exact .inl ⟨h1,d⟩;exact .inr h1;rw[kN _ _ hq,h.v];constructor;rintro⟨h1,d⟩;exact⟨.inl h1,d⟩;rintro⟨h1|rfl,d⟩;exact⟨h1,d⟩;exact absurd d.symm hq;rw[aaF,h.b];simp only[z,h.v];constructor;rintro(⟨x,y,h1,d,j,w,u⟩|⟨o,⟨h1,d⟩,j⟩);exact⟨x,y,.inl h1,.inl d,j,w,u⟩;exact⟨o,id,.inl h1,.inr rfl,fun e=>F (e▸h1),d,j⟩;rintro⟨x,y,h1|rfl,d|rfl,j,w,u⟩;exact .inl ⟨x,y,h1,d,j,w,u⟩;exact .inr ⟨x,⟨h1,w⟩,u⟩;exact .inr ⟨y,⟨d,w.symm⟩,by rw[u,ZR]⟩;exact absurd rfl j;rw[de];by_cases hq:q=ep l id;subst hq;rw[ru,de]
 have:=h.len (ep l id);simp only[cX,ct];omega;rw[kN _ _ hq]
 have:=h.len q;omega
def aa3{s0:St}(h:dr mb s0 s):dr mb s0 (noted mb KB s):=h.put _
def aa4:bM iV (noted mb KB s) mb (jP KB):=bM.put
variable{lc:Ag.Loc}{KE:List CK}{v:aa}{E0:aw}
def agZ(F:No Q 128){os:List ae}(hv:au 1 ax v os)(a4:os.length<=1000000){id:ae}(S:bx≠mb){s0:St}(hb:s0.get [] bx=some (.cells [.map mb]))(hx: ∀e s,dr mb s0 s->bM iV s mb (jP KE)->(∀t,t≠15->t≠66->t≠67->t<68->ac e t=ac E0 t)->C (.exit 4) ⟨e,180,lc⟩ s):
 ∀(h d:List ae) (KB:List CK) (e:aw) (s:St),os=d++h->KB.Nodup->yW id KB h=KE->dr mb s0 s->bM iV s mb (jP KB)->(∀t,t≠15->t≠66->t≠67->t<68->ac e t=ac E0 t)->ac E0 7= .func (.func 128) [] [.ptr bx 0]->ac E0 12= .str id->ac E0 64=v->ac E0 65=aI os.length->ac e 66=aI d.length->W Q 59 (.loop PA) ⟨e,180,lc⟩ s C:=by
 intro h
 induction h with
 |nil=>
  intro d KB e s j N hf I hM x e7 B A w u;have Y:d.length=os.length:=by rw[j];simp
  have z:=(x 65 (by decide) (by decide) (by decide) (by decide)).trans w;refine bm ?_;simp only[go_sem,seval,PA,z,u,Y,cq];refine hx _ _ I (by rw[<-hf];exact hM) fun t j J H h4=>?_;rw[JN _ _ _ _ (by simpa using H)];exact x t j J H h4
 |cons o h ih=>
  intro d KB e s j N hf I hM x e7 B A w u;have U:d.length<os.length:=by rw[j];simp
  have a1:os[d.length]? =some o:=by rw[j];simp
  have Z:=fun lc k=>hv.at bT.2.2.1 a1 lc k;have O:=da (n:=d.length) (by omega);have z:=(x 65 (by decide) (by decide) (by decide) (by decide)).trans w;have a2:=(x 64 (by decide) (by decide) (by decide) (by decide)).trans A;have h7:=(x 7 (by decide) (by decide) (by decide) (by decide)).trans e7;have a3:=(x 12 (by decide) (by decide) (by decide) (by decide)).trans B;have a0:s.get [] bx=_:=(I.old bx S).trans hb;have G:=aa1 F a0 hM N o id;refine bm ?_;simp only[go_sem,seval,PA,h7,a3,a2,z,u,U,Z,ax];refine co.of G (by decide) ?_;simp only[go_sem,seval,u,O];refine ih (d++[o]) (eD (du o id) KB) _ _ (by rw[j];simp) (xX N) hf (aa3 I) aa4 (fun t j J H h4=>?_) e7 B A w (by simp only[sN,seval,sA]);have y: ∀k,68<=k->(t==k)=false:=fun k hk=>by simp;omega
  have c1:(t==15)=false:=by simpa using j
  have c2:(t==66)=false:=by simpa using J
  have c3:(t==67)=false:=by simpa using H
  simp only[dc,y 68 (by decide),y 69 (by decide),y 70 (by decide),y 71 (by decide),y 72 (by decide),y 73 (by decide),y 74 (by decide),c1,c2,c3];exact x t j J H h4
def ajn(a b c d:Int):kg ah 8 49 (.agg [ag a,ag b]) (.agg [ag c,ag d])=some (bif an a c then an b d else false):=by
 have h:kg ah 8 49 (.agg [ag a,ag b]) (.agg [ag c,ag d])=(some (an a c)).bind fun r=>bif r then(some (an b d)).bind fun r=>bif r then some true else some false else some false:=by kernel_rfl
 rw[h];cases an a c<;>cases an b d<;>rfl
def ZT:BO ah 49 aN where
 eq a b:=by
  obtain⟨j,e⟩:=a;obtain⟨d,b2⟩:=b;have h:=ajn j e d b2;have w:aN (j,e)= .agg [ag j,ag e]:=rfl;have u:aN (d,b2)= .agg [ag d,ag b2]:=rfl;rw[w,u,h];by_cases h1:j=d<;>by_cases h2:e=b2<;>simp[an,h1,h2]
 same a:=by simp[aN,tP,wt,xz,an]
 ge _:=rfl
def ZW(k:Pt):lw ah 198 (aN k)=some (49,25):=by kernel_rfl
structure Ed (l:List Obj) (s0 s:St) (ma mb lo:Nat) (D:List ae) (KB:List CK) (K:List Pt) (V:Pt->List ae) (T:Pt->Nat):Prop where
 o:ta aN ax s ma lo K V T
 m:bM iV s mb (jP KB)
 fr: ∀k,k<lo->k≠ma->k≠mb->s.get [] k=s0.get [] k
 i:Ab l D KB K V
 nx:s0.aL<=s.aL
 mw:s.gE<=s.aL
structure Hd (e:aw) (lc:Ag.Loc) (ov lv:aa) (n bx ma:Nat):Prop where
 h3:ac e 3= .Gt 3 1 0
 h5:ac e 5=lv
 h6:ac e 6= .ptr bx 0
 h7:ac e 7= .func (.func 128) [] [.ptr bx 0]
 h8:ac e 8= .map ma
 l3:lc.get 3 1=some [ov,.map n]
 g3:lc.gen 3=1
def agQ(b6:No Q 128)(b1:No Q 129)(b0:No Q 130)(a0:No Q 223)(ho:au 6 Obj.val ov l){ma:Nat}(c1:n≠ma)(c2:n≠mb)(c3:n<lo)(c4:bx≠ma)(c5:bx≠mb)(c6:bx<lo)(c7:mb≠ma)(c8:mb<lo){s0:St}(hM:bM aa.str s0 n (iy 0 l))(d5:s0.get [] bx=some (.cells [.map mb])){a b:ae}(d7: ∀id,id∈ [a,b]-> ∃q,ck id l=some q){x42 x43 x44:aa}(hD:D.length<=10000)(hx: ∀e lc s KB K V T,Ed l s0 s ma mb lo (D++[a,b]) KB K V T->Hd e lc ov lv n bx ma->ac e 42=x42->ac e 43=x43->ac e 44=x44->C (.exit 2) ⟨e,180,lc⟩ s):
 ∀(j d:List ae) (e:aw) (lc:Ag.Loc) (s:St) (KB:List CK) (K:List Pt) (V:Pt->List ae) (T:Pt->Nat),[a,b]=d++j->Ed l s0 s ma mb lo (D++d) KB K V T->Hd e lc ov lv n bx ma->ac e 42=x42->ac e 43=x43->ac e 44=x44->ac e 49= .agg [.str a,.str b]->ac e 50=aI d.length->W Q 59 (.loop PB) ⟨e,180,lc⟩ s C:=by
 intro j
 induction j with
 |nil=>
  intro d e lc s KB K V T U S E I H G F A;have c9:d=[a,b]:=by rw[U];simp
  subst c9;have hl:aX ((2:Nat):Int) 2=false:=rfl;refine bm ?_;simp only[go_sem,cQ,bL,ai,aA,bH,dH,dS,d8,cz,dR,dP,reduceCtorEq,ek,PB,A,hl];refine hx _ _ s KB K V T S ⟨?_,?_,?_,?_,?_,E.l3,E.g3⟩ ?_ ?_ ?_
  all_goals simp only[sN,ai,bH,E.h3,E.h5,E.h6,E.h7,E.h8,I,H,G]
 |cons id j ih=>
  intro d e lc s KB K V T U S E I H G F A;obtain⟨h3,h5,h6,h7,Z,l3,g3⟩:=E;have d0:d.length<2:=by
   have:=congrArg BI U;simp only[kS] at this;omega
  have d6:([a,b]:List ae)[d.length]? =some id:=by rw[U];simp
  have O:aX ((d.length:Nat):Int) 2=true:=by simp only[aX,dE];omega
  have d2:AO ah 196 (.agg [.str a,.str b]) (aI d.length)=some (.str id):=by
   rw[XU,pO];have hb:bh d.length 2=true:=cN d0;simp only[dX,hb,gK,Nat.mul_one,GV];have:([aa.str a,aa.str b]:List aa)=([a,b]:List ae).map aa.str:=rfl;rw[this,jo,d6];rfl
  have b7:=da (n:=d.length) (by omega);obtain⟨q,hq⟩:=d7 id (by rw[U];simp);have b8:=Gg hq;have e0:bM aa.str s n (iy 0 l):=(S.fr n c3 c1 c2).trans hM;have J:=Rf b1 ho e0 hq;have d4:=ho.ge;obtain⟨v,z,B⟩:=S.o.look ZT ZW uh (ep l id);have N:=B.ge;have c0:=S.i.len (ep l id);have f4:(D++d).length<=10002:=by rw[de];omega
  have u:=MX a0 b0 B (by omega) id s;have d1:=B.lenS bT;rw[b8] at z;simp only[aN] at z J;have e2:D++d++[id]=D++(d++[id]):=by simp
  refine kB ?_;simp only[go_sem,cQ,bL,ai,aA,bH,dH,dS,d8,cz,dR,dP,reduceCtorEq,ek,PB,h3,Z,F,A,O,d2,l3,g3,d4];refine co.of J (by decide) ?_;cases hc:(V (ep l id)).contains id with
  |true=>
   rw[hc] at u;have y:id∈V (ep l id):=by simpa using hc
   simp only[go_sem,cQ,bL,ai,aA,bH,dH,dS,d8,cz,dR,dP,reduceCtorEq,ek,Z,z,N];refine co.of u (by decide) ?_;simp only[go_sem,cQ,bL,ai,aA,bH,dH,dS,d8,cz,dR,dP,reduceCtorEq,ek,A,b7];refine ih (d++[id]) _ _ s KB K V T (by rw[U];simp) ⟨S.o,S.m,S.fr,by rw[<-e2];exact S.i.old y,S.nx,S.mw⟩ ⟨?_,?_,?_,?_,?_,?_,?_⟩ ?_ ?_ ?_ ?_ ?_
   all_goals simp only[aV,fQ,f7,ai,h3,h5,h6,h7,Z,l3,g3,I,H,G,F,sA]
  |false=>
   rw[hc] at u;have y:id ∉ V (ep l id):=by
    intro h;have:(V (ep l id)).contains id=true:=by simpa using h
    rw[hc] at this;cases this
   simp only[go_sem,cQ,bL,ai,aA,bH,dH,dS,d8,cz,dR,dP,reduceCtorEq,ek,Z,z,N];refine co.of u (by decide) ?_;simp only[go_sem,cQ,bL,ai,aA,bH,dH,dS,d8,cz,dR,dP,reduceCtorEq,ek,Z,z,N,d1];refine agZ b6 B (by omega) (id:=id) (bx:=bx) (mb:=mb) c5 (s0:=s) ((S.fr bx c6 c4 c5).trans d5) (KE:=yW id KB (V (ep l id))) ?_ (V (ep l id)) [] KB _ s rfl S.i.nd rfl (.refl S.mw) S.m (fun _ _ _ _ _=>rfl) ?_ ?_ ?_ ?_ ?_
   ·intro x s2 Y e1 w
    have e8:ac x 3= .Gt 3 1 0:=(w 3 (by decide) (by decide) (by decide) (by decide)).trans (by simp only[sN,ai,bH,h3]);have g5:ac x 5=lv:=(w 5 (by decide) (by decide) (by decide) (by decide)).trans (by simp only[sN,ai,bH,h5]);have g6:ac x 6= .ptr bx 0:=(w 6 (by decide) (by decide) (by decide) (by decide)).trans (by simp only[sN,ai,bH,h6]);have g7:ac x 7= .func (.func 128) [] [.ptr bx 0]:=(w 7 (by decide) (by decide) (by decide) (by decide)).trans (by simp only[sN,ai,bH,h7]);have g8:ac x 8= .map ma:=(w 8 (by decide) (by decide) (by decide) (by decide)).trans (by simp only[sN,ai,bH,Z]);have f0:ac x 12= .str id:=(w 12 (by decide) (by decide) (by decide) (by decide)).trans (by simp only[sN,ai,bH]);have e9:ac x 13= .Gt 13 (lc.gen 13+1) 0:=(w 13 (by decide) (by decide) (by decide) (by decide)).trans (by simp only[sN,ai,bH]);have e7:ac x 42=x42:=(w 42 (by decide) (by decide) (by decide) (by decide)).trans (by simp only[sN,ai,bH,I]);have e6:ac x 43=x43:=(w 43 (by decide) (by decide) (by decide) (by decide)).trans (by simp only[sN,ai,bH,H]);have e5:ac x 44=x44:=(w 44 (by decide) (by decide) (by decide) (by decide)).trans (by simp only[sN,ai,bH,G]);have e4:ac x 49= .agg [.str a,.str b]:=(w 49 (by decide) (by decide) (by decide) (by decide)).trans (by simp only[sN,ai,bH,F]);have e3:ac x 50=aI d.length:=(w 50 (by decide) (by decide) (by decide) (by decide)).trans (by simp only[sN,ai,bH,A]);have S2:ta aN ax s2 ma lo K V T:=S.o.mono (Y.old ma c7.symm) (fun k hk=>Y.old _ (by have:=(S.o.tok k hk).2.1;omega)) (by rw[Y.aL];exact bj _);obtain⟨v0,p,s3,av,s4,s5,a1,a2,a3,a4,a5,a6,a7,a8,a9,f1⟩:=S2.app ZT ZW uh bT.1 rfl (fun n hn=>vw hn (by decide)) (ep l id) id (by omega) Y.mw;rw[b8] at a1;simp only[aN] at a1;simp only[ax] at a3;have f3:=Y.aL;have f2:=S.nx;simp only[go_sem,cQ,bL,ai,aA,bH,dH,dS,d8,cz,dR,dP,reduceCtorEq,ek,g8,f0,e9,e3,b7,NV,NT,a1,a2,a3,a4,a5,eA,bf,aZ,aW,aY,evc];refine ih (d++[id]) _ _ s5 (yW id KB (V (ep l id))) _ _ _ (by rw[U];simp) ⟨a6,?_,fun k k1 k2 k3=>?_,by rw[<-e2];exact S.i.new y,by omega,f1⟩ ⟨?_,?_,?_,?_,?_,?_,?_⟩ ?_ ?_ ?_ ?_ ?_;exact(a7 mb c8 c7).trans e1;rw[a7 k k1 k2,Y.old k k3];exact S.fr k k1 k2 k3
    all_goals simp only[aV,fQ,f7,ai,e8,g5,g6,g7,g8,l3,g3,e7,e6,e5,e4,sA]
   all_goals simp only[sN,ai,bH,h7,ct]
   all_goals rfl
def qG(R:List gF):List ae:=R.flatMap fun x=>[x.1.1,x.1.2]
def ai9(R:List gF)(x:gF):qG (R++[x])=qG R++[x.1.1,x.1.2]:=by simp[qG]
def ai8(R:List gF):(qG R).length=2*R.length:=by
 induction R with
 |nil=>rfl
 |cons x R d=>
  show([x.1.1,x.1.2]++qG R).length=_;rw[de,d];simp only[cX,ct];omega
def agV(F:No Q 128)(B:No Q 129)(A:No Q 130)(z:No Q 223)(ho:au 6 Obj.val ov l){ma r:Nat}(c1:n≠ma)(c2:n≠mb)(c3:n<lo)(c4:bx≠ma)(c5:bx≠mb)(c6:bx<lo)(c7:mb≠ma)(c8:mb<lo)(c9:r≠ma)(a4:r≠mb)(a3:r<lo){s0:St}(hM:bM aa.str s0 n (iy 0 l))(a2:s0.get [] bx=some (.cells [.map mb]))(a7:R.length<=1000)(hR:s0.get [] r=some (.cells (aG (R.map g9))))(hk: ∀x∈R,(∃q,ck x.1.1 l=some q)/\ ∃q,ck x.1.2 l=some q)(hx: ∀e lc s KB K V T,Ed l s0 s ma mb lo (qG R) KB K V T->Hd e lc ov (.arr 3 r 0 R.length c) n bx ma->C (.exit 0) ⟨e,180,lc⟩ s):
 ∀(h d:List gF) (e:aw) (lc:Ag.Loc) (s:St) (KB:List CK) (K:List Pt) (V:Pt->List ae) (T:Pt->Nat),R=d++h->Ed l s0 s ma mb lo (qG d) KB K V T->Hd e lc ov (.arr 3 r 0 R.length c) n bx ma->ac e 42= .arr 3 r 0 R.length c->ac e 43=aI R.length->ac e 44=aI d.length->W Q 59 (.loop PC) ⟨e,180,lc⟩ s C:=by
 intro h
 induction h with
 |nil=>
  intro d e lc s KB K V T y S E w u j;have a1:d.length=R.length:=by rw[y];simp
  have Z:d=R:=by rw[y];simp
  rw[Z] at S;refine bm ?_;simp only[go_sem,seval,PC,u,j,a1,cq];refine hx _ _ s KB K V T S ⟨?_,?_,?_,?_,?_,E.l3,E.g3⟩
  all_goals simp only[sN,seval,E.h3,E.h5,E.h6,E.h7,E.h8]
 |cons x h ih=>
  intro d e lc s KB K V T y S E w u j;have a0:d.length<R.length:=by rw[y];simp
  have I:R[d.length]? =some x:=by rw[y];simp
  have Y:s.get [] r=_:=(S.fr r a3 c9 a4).trans hR;have G:=Jx Y I;have U:=da (n:=d.length) (by omega);have H:=hk x (dM I);obtain⟨h3,h5,h6,h7,h8,l3,g3⟩:=E;simp only[g9] at G;refine bm ?_;simp only[go_sem,seval,PC,w,u,j,a0,G,aP,Bs];refine agQ F B A z ho (lv:=.arr 3 r 0 R.length c) c1 c2 c3 c4 c5 c6 c7 c8 hM a2 (a:=x.1.1) (b:=x.1.2) (fun id hid=>?_) (x42:=.arr 3 r 0 R.length c) (x43:=aI R.length) (x44:=aI d.length) (D:=qG d) (by rw[ai8];omega) ?_ [x.1.1,x.1.2] [] _ _ s KB K V T rfl (by rw[ky];exact S) ⟨?_,?_,?_,?_,?_,?_,?_⟩ ?_ ?_ ?_ ?_ ?_;simp only[dG,xQ,or_false] at hid;rcases hid with rfl|rfl
  exact H.1;exact H.2
  ·intro e2 a6 s2 a5 K2 V2 T2 S2 E2 O N J
   obtain⟨i3,i5,i6,i7,i8,j3,k3⟩:=E2;simp only[go_sem,seval,J,U];refine ih (d++[x]) _ _ s2 a5 K2 V2 T2 (by rw[y];simp) (by rw[ai9];exact S2) ⟨?_,?_,?_,?_,?_,j3,k3⟩ ?_ ?_ ?_
   all_goals simp only[sN,seval,i3,i5,i6,i7,i8,O,N,sA]
  all_goals simp only[aV,fQ,f7,ai,h3,h5,h6,h7,h8,l3,g3,w,u,j,ct]
  all_goals rfl
def ag0{N:Nat}(hN:N<=1000){s0:St}(hx: ∀e s ov,cI 1 lo s ov ((rY N).map bF)->(∀k,k<lo->s.get [] k=s0.get [] k)->s.gE<=s.aL->lo<=s.aL->ac e 16=ov->ac e 3=ac E0 3->ac e 5=ac E0 5->ac e 6=ac E0 6->ac e 7=ac E0 7->C (.exit 6) ⟨e,180,lc⟩ s):
 ∀(c i:Nat) (e:aw) (s:St) (ov:aa),c+i=N->cI 1 lo s ov ((rY i).map bF)->(∀k,k<lo->s.get [] k=s0.get [] k)->s.gE<=s.aL->lo<=s.aL->ac e 16=ov->ac e 3=ac E0 3->ac e 5=ac E0 5->ac e 6=ac E0 6->ac e 7=ac E0 7->ac e 86=aI N->ac e 87=aI i->W Q 59 (.loop PD) ⟨e,180,lc⟩ s C:=by
 intro c
 induction c with
 |zero=>
  intro i e s ov hc A u h j x S O J I d w;have:i=N:=by omega
  subst this;refine bm ?_;simp only[go_sem,seval,PD,d,w,cq];refine hx _ s ov A u h j ?_ ?_ ?_ ?_ ?_
  all_goals simp only[sN,seval,x,S,O,J,I]
 |succ c ih=>
  intro i e s ov hc A u h j x S O J I d w;have H:i<N:=by omega
  have G:=da (n:=i) (by omega);have B:=A.ge;obtain⟨F,s1,Z,U,a3,a4,a5,a6,a7⟩:=Ek (t:=26) lf.1 rfl (by decide) (s:=s) (y:=.list 1 [bF i] .GT) (ys:=[bF i]) A (by simp only[fc,ee]) (by simp only[bU,cX,ct,XG];omega) j h;have z:=U.ge;have e1:(rY i).map bF++[bF i]=(rY (i+1)).map bF:=by simp[rY,List.range_succ]
  rw[e1] at U;simp only[bF] at Z;refine bm ?_;simp only[go_sem,seval,PD,x,d,w,H,G,B,z,Z,bf,aZ,aW,aY,evc];refine ih (i+1) _ s1 F (by omega) U (fun k Y=>(a6 k Y).trans (u k Y)) a5 (by omega) ?_ ?_ ?_ ?_ ?_ ?_ ?_
  all_goals simp only[sN,seval,S,O,J,I,d]
def xd(u:ae)(KB:List CK)(ys:List ae):List CK:=ys.foldl (fun KB y=>eD (du u y) KB) KB
def sm(ys:List ae)(KB:List CK)(us:List ae):List CK:=us.foldl (fun KB u=>xd u KB ys) KB
def aaG{u:ae}{k:CK}: ∀ {ys:List ae} {KB:List CK},k∈xd u KB ys↔k∈KB\/ ∃y∈ys,k=du u y
 | [],KB=>by simp[xd]
 |o::os,KB=>by
  show k∈xd u (eD (du u o) KB) os↔_;rw[aaG,nD];simp only[dG];constructor;rintro((h|h)|⟨x,hx,h⟩);exact .inr ⟨o,.inl rfl,h⟩;exact .inl h;exact .inr ⟨x,.inr hx,h⟩;rintro(h|⟨x,rfl|hx,h⟩);exact .inl (.inr h);exact .inl (.inl h);exact .inr ⟨x,hx,h⟩
def QA{u:ae}: ∀ {os:List ae} {KB:List CK},KB.Nodup->(xd u KB os).Nodup
 | [],_,h=>h
 |o::os,KB,h=>QA (os:=os) (xX h)
def aaH{ys:List ae}{k:CK}: ∀ {us:List ae} {KB:List CK},k∈sm ys KB us↔k∈KB\/ ∃u∈us, ∃y∈ys,k=du u y
 | [],KB=>by simp[sm]
 |u::us,KB=>by
  show k∈sm ys (xd u KB ys) us↔_;rw[aaH,aaG];simp only[dG];constructor;rintro((h|⟨y,d,h⟩)|⟨x,hx,h⟩);exact .inl h;exact .inr ⟨u,.inl rfl,y,d,h⟩;exact .inr ⟨x,.inr hx,h⟩;rintro(h|⟨x,rfl|hx,h⟩);exact .inl (.inl h);exact .inl (.inr h);exact .inr ⟨x,hx,h⟩
def JM{ys:List ae}: ∀ {us:List ae} {KB:List CK},KB.Nodup->(sm ys KB us).Nodup
 | [],_,h=>h
 |u::us,KB,h=>JM (us:=us) (QA h)
variable{ys:List ae}
def agU(G:No Q 128)(hv:au 1 ax v ys)(a3:ys.length<=1000000){u:ae}(S:bx≠mb){s0:St}(hb:s0.get [] bx=some (.cells [.map mb]))(hx: ∀e s,dr mb s0 s->bM iV s mb (jP KE)->(∀t,t≠27->t<155->ac e t=ac E0 t)->C (.exit 12) ⟨e,180,lc⟩ s):
 ∀(h d:List ae) (KB:List CK) (e:aw) (s:St),ys=d++h->KB.Nodup->xd u KB h=KE->dr mb s0 s->bM iV s mb (jP KB)->(∀t,t≠27->t<155->ac e t=ac E0 t)->ac E0 7= .func (.func 128) [] [.ptr bx 0]->ac E0 25= .str u->ac E0 153=v->ac E0 154=aI ys.length->ac e 155=aI d.length->W Q 59 (.loop PE) ⟨e,180,lc⟩ s C:=by
 intro h
 induction h with
 |nil=>
  intro d KB e s z N hf J hM B e7 F y w j;have Y:d.length=ys.length:=by rw[z];simp
  have x:=(B 154 (by decide) (by decide)).trans w;refine bm ?_;simp only[go_sem,seval,PE,x,j,Y,cq];refine hx _ _ J (by rw[<-hf];exact hM) fun t z h2=>?_;rw[JN _ _ _ _ (by simp;omega)];exact B t z h2
 |cons o h ih=>
  intro d KB e s z N hf J hM B e7 F y w j;have U:d.length<ys.length:=by rw[z];simp
  have a1:ys[d.length]? =some o:=by rw[z];simp
  have Z:=fun lc k=>hv.at bT.2.2.1 a1 lc k;have O:=da (n:=d.length) (by omega);have x:=(B 154 (by decide) (by decide)).trans w;have I:=(B 153 (by decide) (by decide)).trans y;have h7:=(B 7 (by decide) (by decide)).trans e7;have a2:=(B 25 (by decide) (by decide)).trans F;have a0:s.get [] bx=_:=(J.old bx S).trans hb;have H:=aa1 G a0 hM N u o;refine bm ?_;simp only[go_sem,seval,PE,h7,a2,I,x,j,U,Z,ax];refine co.of H (by decide) ?_;simp only[go_sem,seval,j,O];refine ih (d++[o]) (eD (du u o) KB) _ _ (by rw[z];simp) (xX N) hf (aa3 J) aa4 (fun t z h2=>?_) e7 F y w (by simp only[sN,seval,sA]);have A: ∀k,155<=k->(t==k)=false:=fun k hk=>by simp;omega
  have c1:(t==27)=false:=by simpa using z
  simp only[dc,A 155 (by decide),A 156 (by decide),A 157 (by decide),A 158 (by decide),A 159 (by decide),A 160 (by decide),A 161 (by decide),A 162 (by decide),A 163 (by decide),c1];exact B t z h2
def Mp(I:No Q 128){us:List ae}{va vb:aa}(Z:au 1 ax va us)(B:au 1 ax vb ys)(b6:us.length<=1000000)(a0:ys.length<=1000000){kb:Nat}{p1 p2:ae}(J:bx≠mb)(a5:kb≠mb){s0:St}(hb:s0.get [] bx=some (.cells [.map mb]))(hk:s0.get [] kb=some (.cells [.str p1,.str p2,vb]))(hx: ∀e s,dr mb s0 s->bM iV s mb (jP KE)->(∀t,t<25->ac e t=ac E0 t)->ac e 103=ac E0 103->C (.exit 10) ⟨e,180,lc⟩ s):
 ∀(h d:List ae) (KB:List CK) (e:aw) (s:St),us=d++h->KB.Nodup->sm ys KB h=KE->dr mb s0 s->bM iV s mb (jP KB)->(∀t,t<25->ac e t=ac E0 t)->ac e 103=ac E0 103->ac E0 7= .func (.func 128) [] [.ptr bx 0]->ac E0 22= .ptr kb 0->ac e 146=va->ac e 147=aI us.length->ac e 148=aI d.length->W Q 59 (.loop PF) ⟨e,180,lc⟩ s C:=by
 intro h
 induction h with
 |nil=>
  intro d KB e s F U hf H hM N j e7 G z x w;have a3:d.length=us.length:=by rw[F];simp
  refine bm ?_;simp only[go_sem,seval,PF,x,w,a3,cq];refine hx _ _ H (by rw[<-hf];exact hM) (fun t F=>?_) ?_;rw[JN _ _ _ _ (by simp;omega)];exact N t F;simp only[sN,seval,j]
 |cons o h ih=>
  intro d KB e s F U hf H hM N j e7 G z x w;have a1:d.length<us.length:=by rw[F];simp
  have a8:us[d.length]? =some o:=by rw[F];simp
  have a6:=fun lc k=>Z.at bT.2.2.1 a8 lc k;have Y:=da (n:=d.length) (by omega);have h7:=(N 7 (by decide)).trans e7;have b1:=(N 22 (by decide)).trans G;have a7:s.get [] bx=_:=(H.old bx J).trans hb;have a4:s.get [] kb=_:=(H.old kb a5).trans hk;have a2:=B.lenS bT;have S:=B.ge;refine bm ?_;simp only[go_sem,seval,PF,b1,z,x,w,a1,a6,ax,aP,a4,aQ,a2,S];refine agU I B a0 (u:=o) (bx:=bx) J (s0:=s) a7 (KE:=xd o KB ys) ?_ ys [] KB _ s rfl U rfl (.refl H.mw) hM (fun _ _ _=>rfl) ?_ ?_ ?_ ?_ ?_;intro e2 s2 b0 a9 y;have O:ac e2 148=aI d.length:=(y 148 (by decide) (by decide)).trans (by simp only[sN,seval,w]);simp only[go_sem,seval,O,Y];refine ih (d++[o]) (xd o KB ys) _ s2 (by rw[F];simp) (QA U) hf (H.trans b0) a9 (fun t ht=>?_) ?_ e7 G ?_ ?_ ?_;have A: ∀k,25<=k->(t==k)=false:=fun k hk=>by simp;omega
  simp only[dc,A 164 (by decide),A 148 (by decide)];rw[y t (by omega) (by omega)];simp only[dc,A 155 (by decide),A 154 (by decide),A 153 (by decide),A 152 (by decide),A 25 (by decide),A 151 (by decide),A 150 (by decide),A 149 (by decide)];exact N t ht;simp only[sN,seval];rw[y 103 (by decide) (by decide)];simp only[sN,seval,j];simp only[sN,seval];rw[y 146 (by decide) (by decide)];simp only[sN,seval,z];simp only[sN,seval];rw[y 147 (by decide) (by decide)];simp only[sN,seval,x];simp only[sN,seval,sA]
  all_goals simp only[sN,seval,h7,ct]
  all_goals rfl
def agL(a b:CK):dz ah .eql 196 (.agg [.str a.1,.str a.2]) (.agg [.str b.1,.str b.2])=some (.bool (wu a b)):=by
 have h:dz ah .eql 196 (.agg [.str a.1,.str a.2]) (.agg [.str b.1,.str b.2])=(kg ah 8 196 (.agg [.str a.1,.str a.2]) (.agg [.str b.1,.str b.2])).bind fun r=>some (.bool r):=by kernel_rfl
 rw[h,Wj];rfl
def adu(mk:aH)(m:Nat)(cs:List aa)(e:aw)(s:St)(h:s.get mk m=some (.cells cs))(u:2<=cs.length):jd ah mk 196 (.ptr m 0) none none none e s=some (.arr 1 m 0 2 2):=by
 have j:jd ah mk 196 (.ptr m 0) none none none e s=(s.get mk m).bind fun o=>match o with
  | .cells cs=>bif bu 0 2&&bu 2 2&&true&&bh 0 (2*1)&&bu (0+2*1) cs.length then some (.arr 1 m (0+0*1) (2-0) (2-0)) else none
  |_=>none:=by kernel_rfl
 rw[j,h];have d:bu (0+2*1) cs.length=true:=cN (by omega);simp only[bk,d];rfl
def Ey(a b:CK):Bool:=[b.1,b.2].contains a.1|| [b.1,b.2].contains a.2
def mQ(a b:CK)(Al:Int):Bool:=wu a b||(an Al 1&&Ey a b)
def wI(R:List gF)(x:Mt)(k:CK):Prop:=mQ (R.getD x.1.toNat iY).1 (R.getD x.2.1.toNat iY).1 x.2.2=false/\ ∃u∈(R.getD x.1.toNat iY).2.1, ∃y∈(R.getD x.2.1.toNat iY).2.1,k=du u y
def ayN:ah.underlying 203=some (.map 207 3):=by kernel_rfl
variable{M:List Mt}
theorem akx{b:Nat}{p:(Int×Int)×aa}(h:(ny M)[b]? =some p): ∃x,M[b]? =some x/\p=((x.1,x.2.1),ag x.2.2):=by
 grind [ny]
theorem agX(hK: ∀i,1000000<=Q.kmax i)(Z:No Q 128)(a3:No Q 130)(a2:No Q 223){mf r:Nat}(f3:M.length<=1000000)(f2:R.length<=1000)(f0: ∀x∈M,(0<=x.1/\x.1<R.length)/\(0<=x.2.1/\x.2.1<R.length))(e1: ∀x∈R,x.2.1.length<=1000000)(c1:it<lo)(c2:mf<lo)(c3:bx<lo)(c4:mb<lo)(c5:r<lo)(d1:mf≠it)(d2:bx≠it)(d3:mb≠it)(d4:r≠it)(d5:mf≠mb)(d6:bx≠mb)(d7:r≠mb){s0:St}(hM:bM aN s0 mf (ny M))(e9:s0.get [] bx=some (.cells [.map mb]))(hR:s0.get [] r=some (.cells (aG (R.map g9)))){KB0:List CK}(hx: ∀e lc s KB,(∀k,k∈KB↔k∈KB0\/ ∃x∈M,wI R x k)->KB.Nodup->bM iV s mb (jP KB)->(∀k,k<lo->k≠it->k≠mb->s.get [] k=s0.get [] k)->s0.aL<=s.aL->s.gE<=s.aL->ac e 6=ac E0 6->C (.exit 8) ⟨e,180,lc⟩ s):
 ∀(cc:Nat) (seen:List Nat) (e:aw) (lc:Ag.Loc) (s:St) (KB:List CK),cc+seen.length=M.length->iT aN s it mf (ny M) seen->(∀k,k∈KB↔k∈KB0\/ ∃b∈seen, ∃x,M[b]? =some x/\wI R x k)->KB.Nodup->bM iV s mb (jP KB)->(∀k,k<lo->k≠it->k≠mb->s.get [] k=s0.get [] k)->s0.aL<=s.aL->lo<=s.aL->s.gE<=s.aL->
  ac e 6=ac E0 6->ac e 5= .arr 3 r 0 R.length c->ac e 7= .func (.func 128) [] [.ptr bx 0]->ac e 103= .ptr it 0->W Q 59 (.loop Jp) ⟨e,180,lc⟩ s C:=by
 have f1:(ny M).length=M.length:=bU ..;intro cc
 induction cc with
 |zero=>
  intro seen e lc s KB hc I e3 Y hB a1 b8 e8 b6 h6 h5 h7 j;rcases I.aL Q.ch Q.kmax (fun i=>by have:=hK i;omega) with⟨hp,hn⟩|⟨b,p,s1,hb,hnm,hlt,_⟩
  refine bm ?_;simp only[go_sem,seval,Jp,j,yB,hn,eA,bf,aZ,aW,aY,evc];refine hx _ _ s KB (fun k=>?_) Y hB a1 b8 b6 (by simp only[sN,seval,h6]);rw[e3];refine or_congr Iff.rfl ⟨?_,?_⟩
  grind
  rintro⟨x,N,h2⟩;obtain⟨b,hb,rfl⟩:=Lb N;exact⟨b,hp.mem_iff.2 (List.mem_range.2 (by omega)),M[b],gB hb,h2⟩;omega
 |succ cc ih=>
  intro seen e lc s KB hc I e3 Y hB a1 b8 e8 b6 h6 h5 h7 j;rcases I.aL Q.ch Q.kmax (fun i=>by have:=hK i;omega) with⟨hp,hn⟩|⟨b,p,s1,hb,hnm,hlt,hn,ho,hi,hn1,hm1⟩
  have:=hp.length_eq;rw[D6] at this;omega
  ·obtain⟨x,e7,rfl⟩:=akx hb
   have I1:=I.go d1 hb hnm ho hi;have d0:=iT.entry hi I1.hm hb;have S:s1.gE<=s1.aL:=by rw[hm1,hn1];exact cU s it none b6
   obtain⟨⟨b1,b2⟩,b3,b4⟩:=f0 x (dM e7);have c9:x.1.toNat<R.length:=by omega
   have c8:x.2.1.toNat<R.length:=by omega
   obtain⟨u,b0⟩: ∃u,R[x.1.toNat]? =some u:=⟨_,gB c9⟩;obtain⟨d,a9⟩: ∃d,R[x.2.1.toNat]? =some d:=⟨_,gB c8⟩;have ga:R.getD x.1.toNat iY=u:=by rw[m8,b0];rfl
   have gb:R.getD x.2.1.toNat iY=d:=by rw[m8,a9];rfl
   have n1:dv (ag x.1)=some x.1.toNat:=by
    conv=>lhs;rw[<-K5 b1]
    exact pO _ _
   have n2:dv (ag x.2.1)=some x.2.1.toNat:=by
    conv=>lhs;rw[<-K5 b3]
    exact pO _ _
   have e0:s1.get [] r=_:=((ho r d4).trans (a1 r c5 d4 d7)).trans hR;have la:=Jx e0 b0;have lb:=Jx e0 a9;have m0:dv (ag 0)=some 0:=rfl;have m1:dv (ag 1)=some 1:=rfl;simp only[g9] at la lb;simp only[aN] at hn d0;have c7:=nA S;have c6:=arK S (.cells [.str [],.str [],.Ge]);have a4:(s1.new (.cells [.str [],.str [],.Ge])).gE<=(s1.new (.cells [.str [],.str [],.Ge])).aL:=bW S;have c0:=nA a4;obtain⟨z,hz⟩:=bZ ((s1.new (.cells [.str [],.str [],.Ge])).GE ((s1.new (.cells [.str [],.str [],.Ge])).top.put s1.aL (some (.cells [.str d.1.1,.str d.1.2,.list 1 (d.2.1.map ax) (.own d.2.2)]))));have zn:z.aL=s1.aL+1:=by rw[<-hz];rfl
   have F:z.gE<=z.aL:=by rw[<-hz];exact pL a4 (bj _)
   have zg: ∀k,k≠s1.aL->z.get [] k=(s1.new (.cells [.str [],.str [],.Ge])).get [] k:=fun k hk=>by rw[<-hz,lR,aU,bN.2 hk];rfl
   have zo: ∀k,k<s1.aL->z.get [] k=s1.get [] k:=fun k hk=>(zg k (by omega)).trans (cr hk);have O:z.get [] s1.aL=some (.cells [.str d.1.1,.str d.1.2,.list 1 (d.2.1.map ax) (.own d.2.2)]):=by rw[<-hz,lR,aU,bS];rfl
   have H: ∀e,jd ah [] 196 (.ptr s1.aL 0) none none none e z.top=some (.arr 1 s1.aL 0 2 2):=fun e=>adu _ _ _ _ _ (show z.top.get [] s1.aL=_ from O) (by simp);have fin: ∀(e':aw) (a8:Ag.Loc) (s':St) (KB':List CK),(∀k,k∈KB'↔k∈KB\/wI R x k)->KB'.Nodup->bM iV s' mb (jP KB')->(∀k,k<s1.aL->k≠mb->s'.get [] k=s1.get [] k)->s'.aL=s1.aL+1->s'.gE<=s'.aL->ac e' 6=ac E0 6->ac e' 5= .arr 3 r 0 R.length c->ac e' 7= .func (.func 128) [] [.ptr bx 0]->ac e' 103= .ptr it 0->W Q 59 (.loop Jp) ⟨e',180,a8⟩ s' C:=by
    intro e' a8 s' KB' k1 k2 k3 k4 k5 k6 k7 k8 k9 e6;refine ih (seen++[b]) e' a8 s' KB' (by grind) ⟨(k4 it (by omega) d3.symm).trans I1.hi,(k4 mf (by omega) d5).trans I1.hm,I1.nd,I1.lt⟩ (fun k=>?_) k2 k3 (fun k q1 q2 q3=>?_) (by omega) (by omega) k6 k7 k8 k9 e6
    grind
    grind
   have zB:bM iV z mb (jP KB):=((zo mb (by omega)).trans (ho mb d3)).trans hB;have a5:z.get [] bx=some (.cells [.map mb]):=(((zo bx (by omega)).trans (ho bx d2)).trans (a1 bx c3 d2 d6)).trans e9;have U: ∀(i:Nat) (y:ae),([d.1.1,d.1.2]:List ae)[i]? =some y->([aa.str d.1.1,aa.str d.1.2,.list 1 (d.2.1.map ax) (.own d.2.2)]:List aa)[0+i]? =some (.str y):=fun i y hy=>by
    match i,hy with
    |0,hy=>grind
    |1,hy=>grind
   have b7:z.top.get [] s1.aL=_:=O;have e5:=V7 a2 a3 (cap:=2) (off:=0) (len:=2) b7 rfl U (by simp) u.1.1;have e4:=V7 a2 a3 (cap:=2) (off:=0) (len:=2) b7 rfl U (by simp) u.1.2;have J:=agL u.1 d.1;have a7:au 1 ax (.list 1 (u.2.1.map ax) (.own u.2.2)) u.2.1:=.inr ⟨_,rfl⟩;have a6:au 1 ax (.list 1 (d.2.1.map ax) (.own d.2.2)) d.2.1:=.inr ⟨_,rfl⟩;have o1:=e1 u (dM b0);have o2:=e1 d (dM a9);have skip:mQ u.1 d.1 x.2.2=true-> ∀k,k∈KB↔k∈KB\/wI R x k:=fun h k=>by
    unfold wI;rw[ga,gb,h];simp
   have G:mQ u.1 d.1 x.2.2=false-> ∀k,k∈sm d.2.1 KB u.2.1↔k∈KB\/wI R x k:=fun h k=>by
    unfold wI;rw[ga,gb,h,aaH];simp
   refine kB ?_;simp only[go_sem,seval,Jp,j,yB,hn,EN,d0,eA,bf,aZ,aW,aY,evc];refine gi S ?_;simp only[go_sem,tK,tL,seval,h5,m0,m1,n1,n2,c9,c8,la,lb,aP,Bs,cS,cH,cV,c7,c6,c0,hz];refine gi F ?_;simp only[go_sem,tK,tL,seval,m0,m1,O,aP,aQ,H,ii];refine jR.calm F e5 (by decide) (by simp[eh,l8]) ?_;cases hc1:([d.1.1,d.1.2]:List ae).contains u.1.1 with
   |true=>
    cases heq:wu u.1 d.1 with
    |true=>
     simp only[go_sem,tK,tL,seval,J,heq,O,aP,aQ,H,bT,bU];refine fin _ _ z KB (skip (by unfold mQ;rw[heq];rfl)) Y zB (fun k N _=>zo k N) zn F ?_ ?_ ?_ ?_
     all_goals simp only[sN,seval,h6,h5,h7,j]
    |false=>
     cases hkd:an x.2.2 1 with
     |true=>
      simp only[go_sem,tK,tL,seval,J,heq,hkd,O,aP,aQ,H,bT,bU];refine fin _ _ z KB (skip (by unfold mQ Ey;rw[heq,hkd,hc1];rfl)) Y zB (fun k N _=>zo k N) zn F ?_ ?_ ?_ ?_
      all_goals simp only[sN,seval,h6,h5,h7,j]
     |false=>
      simp only[go_sem,tK,tL,seval,J,heq,hkd,O,aP,aQ,H,bT,bU];refine Mp Z a7 a6 o1 o2 (bx:=bx) (mb:=mb) (kb:=s1.aL) d6 (by omega) (s0:=z) a5 O (KE:=sm d.2.1 KB u.2.1) ?_ u.2.1 [] KB _ z rfl Y rfl (.refl F) zB (fun _ _=>rfl) rfl ?_ ?_ ?_ ?_ ?_;intro e2 s2 B a0 w A;simp only[go_sem,seval];refine fin _ _ s2 (sm d.2.1 KB u.2.1) (G (by unfold mQ;rw[heq,hkd];rfl)) (JM Y) a0 (fun k N h2=>(B.old k h2).trans (zo k N)) (by rw[B.aL,zn]) B.mw ?_ ?_ ?_ ?_;rw[w 6 (by decide)];simp only[sN,seval,h6];rw[w 5 (by decide)];simp only[sN,seval,h5];rw[w 7 (by decide)];simp only[sN,seval,h7];rw[A];simp only[sN,seval,j]
      all_goals simp only[sN,seval,h7,ct,bU]
      all_goals rfl
   |false=>
    simp only[go_sem,tK,tL,seval,m0,m1,O,aP,aQ,H,ii];refine jR.calm F e4 (by decide) (by simp[eh,l8]) ?_;cases heq:wu u.1 d.1 with
    |true=>
     simp only[go_sem,tK,tL,seval,J,heq,O,aP,aQ,H,bT,bU];refine fin _ _ z KB (skip (by unfold mQ;rw[heq];rfl)) Y zB (fun k N _=>zo k N) zn F ?_ ?_ ?_ ?_
     all_goals simp only[sN,seval,h6,h5,h7,j]
    |false=>
     cases hkd:an x.2.2 1 with
     |true=>
      cases hc2:([d.1.1,d.1.2]:List ae).contains u.1.2 with
      |true=>
       simp only[go_sem,tK,tL,seval,J,heq,hkd,O,aP,aQ,H,bT,bU];refine fin _ _ z KB (skip (by unfold mQ Ey;rw[heq,hkd,hc1,hc2];rfl)) Y zB (fun k N _=>zo k N) zn F ?_ ?_ ?_ ?_
       all_goals simp only[sN,seval,h6,h5,h7,j]
      |false=>
       simp only[go_sem,tK,tL,seval,J,heq,hkd,O,aP,aQ,H,bT,bU];refine Mp Z a7 a6 o1 o2 (bx:=bx) (mb:=mb) (kb:=s1.aL) d6 (by omega) (s0:=z) a5 O (KE:=sm d.2.1 KB u.2.1) ?_ u.2.1 [] KB _ z rfl Y rfl (.refl F) zB (fun _ _=>rfl) rfl ?_ ?_ ?_ ?_ ?_;intro e2 s2 B a0 w A;simp only[go_sem,seval];refine fin _ _ s2 (sm d.2.1 KB u.2.1) (G (by unfold mQ Ey;rw[heq,hkd,hc1,hc2];rfl)) (JM Y) a0 (fun k N h2=>(B.old k h2).trans (zo k N)) (by rw[B.aL,zn]) B.mw ?_ ?_ ?_ ?_;rw[w 6 (by decide)];simp only[sN,seval,h6];rw[w 5 (by decide)];simp only[sN,seval,h5];rw[w 7 (by decide)];simp only[sN,seval,h7];rw[A];simp only[sN,seval,j]
       all_goals simp only[sN,seval,h7,ct,bU]
       all_goals rfl
     |false=>
      simp only[go_sem,tK,tL,seval,J,heq,hkd,O,aP,aQ,H,bT,bU];refine Mp Z a7 a6 o1 o2 (bx:=bx) (mb:=mb) (kb:=s1.aL) d6 (by omega) (s0:=z) a5 O (KE:=sm d.2.1 KB u.2.1) ?_ u.2.1 [] KB _ z rfl Y rfl (.refl F) zB (fun _ _=>rfl) rfl ?_ ?_ ?_ ?_ ?_;intro e2 s2 B a0 w A;simp only[go_sem,seval];refine fin _ _ s2 (sm d.2.1 KB u.2.1) (G (by unfold mQ;rw[heq,hkd];rfl)) (JM Y) a0 (fun k N h2=>(B.old k h2).trans (zo k N)) (by rw[B.aL,zn]) B.mw ?_ ?_ ?_ ?_;rw[w 6 (by decide)];simp only[sN,seval,h6];rw[w 5 (by decide)];simp only[sN,seval,h5];rw[w 7 (by decide)];simp only[sN,seval,h7];rw[A];simp only[sN,seval,j]
      all_goals simp only[sN,seval,h7,ct,bU]
      all_goals rfl
def DA(k:CK):ae:=bif k.1==k.2 then [] else k.2
def jy(k:CK):Nat:=bif k.1==k.2 then 1 else 2
abbrev js:=CK×Nat
def gW(x:js):aa:=.agg [.str [],ag 2,.arr 1 x.2 0 (jy x.1) 2]
def Aq(k:CK):List aa:=[.str k.1,.str (DA k)]
def ayM:ah.underlying 195=some (.map 196 4):=by kernel_rfl
structure LC (lo:Nat) (s:St) (ov:aa) (acc:List js):Prop where
 row:kD 3 s ov (acc.map gW)
 ids: ∀x∈acc,s.get [] x.2=some (.cells (Aq x.1))/\lo<=x.2/\x.2<s.aL/\jE ov≠some x.2
 rlo: ∀r,jE ov=some r->lo<=r
def SB{R:List js}: ∀v∈R.map gW,v.cells.length=3:=fun v d=>by
 obtain⟨x,_,rfl⟩:=cw.1 d;rfl
def ag6(hK: ∀i,1000000<=Q.kmax i)(O:No Q 133)(b6:KB.length<1000000)(c1:it<lo)(c2:mb<lo)(d1:mb≠it)(H: ∀e lc s ov (d:List js),(d.map (·.1)).Perm KB->LC lo s ov d->s.gE<=s.aL->ac e 28=ov->C (.exit 14) ⟨e,180,lc⟩ s):
 ∀(cc:Nat) (seen:List Nat) (e:aw) (lc:Ag.Loc) (s:St) (ov:aa) (d:List js),cc+seen.length=KB.length->iT iV s it mb (jP KB) seen->d.map (·.1)=seen.map (fun b=>KB.getD b ([],[]))->LC lo s ov d->lo<=s.aL->s.gE<=s.aL->ac e 28=ov->ac e 166= .ptr it 0->W Q 59 (.loop PG) ⟨e,180,lc⟩ s C:=by
 have b0:(jP KB).length=KB.length:=ue _ _;intro cc
 induction cc with
 |zero=>
  intro seen e lc s ov d hc I A w a9 J B h;rcases I.aL Q.ch Q.kmax (fun i=>by have:=hK i;omega) with⟨hp,hn⟩|⟨b,p,s1,u,hnm,hlt,_⟩
  refine bm ?_;simp only[go_sem,seval,PG,h,yB,hn,eA,bf,aZ,aW,aY,evc];refine H _ _ s ov d ?_ w J (by simp only[sN,seval,B]);rw[A];rw[b0] at hp;refine(hp.map _).trans ?_;have:(hZ KB.length).map (fun b=>KB.getD b ([],[]))=KB:=by
   refine GQ (by simp) fun i h1 h2=>?_;simp[m8,h2]
  rw[this];omega
 |succ cc ih=>
  intro seen e lc s ov d hc I A w a9 J B h;rcases I.aL Q.ch Q.kmax (fun i=>by have:=hK i;omega) with⟨hp,hn⟩|⟨b,p,s1,u,hnm,hlt,hn,ho,hi,hn1,hm1⟩
  have:=hp.length_eq;rw[D6] at this;omega
  ·have a0:b<KB.length:=by
    have:=(nR.1 u).1;omega
   obtain⟨k,hk⟩:=bZ (KB[b]);have a8:p=(k,.bool true):=by
    have:(jP KB)[b]? =some (KB[b],.bool true):=by
     unfold jP gc;rw[jo,gB a0];rfl
    rw[this] at u;rw[<-hk];exact(sI u).symm
   subst a8;have I1:=I.go d1 u hnm ho hi;have Z:=iT.entry hi I1.hm u;have Y:s1.gE<=s1.aL:=by rw[hm1,hn1];exact cU s it none J
   have S:=w.row.ge;obtain⟨z,U⟩:=bZ ((s1.new (.cells [.str [],.str []])).put s1.aL (some (.cells [.str k.1,.str k.2])));have zn:z.aL=s1.aL+1:=by rw[<-U];rfl
   have G:z.gE<=z.aL:=by rw[<-U];exact cU _ _ _ (bW Y)
   have zk:z.get [] s1.aL=some (.cells [.str k.1,.str k.2]):=by rw[<-U,aU,bS];rfl
   have zo: ∀j,j<s1.aL->z.get [] j=s1.get [] j:=fun j hj=>by rw[<-U,aU,bN.2 (by omega:j≠s1.aL),cF,cr hj]
   have a7: ∀e,jd ah [] 196 (.ptr s1.aL 0) none none none e z=some (.arr 1 s1.aL 0 2 2):=fun e=>adu _ _ _ _ _ zk (by simp);have N: ∃v y,aq Q 133 [.arr 1 s1.aL 0 2 2] z v y/\(v= .arr 1 s1.aL 0 (jy k) 2/\y.get [] s1.aL=some (.cells (Aq k))/\(∀j,j≠s1.aL->y.get [] j=z.get [] j)/\y.aL=z.aL/\y.gE<=y.aL):=by
    obtain⟨v,y,F,⟨e1,rfl,rfl⟩|⟨e1,rfl,rfl⟩⟩:=aiC O zk G;have u:(k.1==k.2)=true:=by simpa using e1
    refine⟨_,_,F,by unfold jy;rw[u];rfl,?_,fun j hj=>by rw[aU,bN.2 hj];rfl,rfl,cU z _ _ G⟩;rw[aU,bS];unfold Aq DA;rw[u];rfl;have u:(k.1==k.2)=false:=by simpa using e1
    refine⟨_,_,F,by unfold jy;rw[u];rfl,?_,fun _ _=>rfl,rfl,G⟩;rw[zk];unfold Aq DA;rw[u];rfl
   simp only[iV] at hn Z;refine bm ?_;simp only[go_sem,seval,PG,B,h,S,yB,hn,EN,Z,eA,aP,cS,cH,cV,U,a7,bf,aZ,aW,aY,evc];refine co.ex N (by decide) ?_;rintro v y ⟨rfl,y1,y2,y3,y4⟩;have b1:kD 3 y ov (d.map gW):=w.row.mono (fun r F=>by
    have h1:=w.row.lt r F;have h2:=w.rlo r F;rw[y2 r (by omega),zo r (by omega),ho r (by omega)]) (by omega)
   obtain⟨s3,a1,a2,a3,a4,a5,a6⟩:=L1 (t:=35) iq.1 rfl (by decide) (gW (k,s1.aL)) SB (by
    have h1:=congrArg BI A;simp only[bU] at h1 ⊢;omega) y4 b1
   simp only[gW] at a1;simp only[go_sem,seval,B,S,ii,Vq,eA,a1,bf,aZ,aW,aY,evc];refine ih (seen++[b]) _ _ s3 _ (d++[(k,s1.aL)]) (by rw[de];simp only[cX,ct];omega) ⟨?_,?_,I1.nd,I1.lt⟩ ?_ ⟨by rw[eK];exact a2,fun x H=>?_,fun r F=>?_⟩ (by omega) a5 ?_ ?_;rw[a6 it (by omega) (fun e=>by have:=w.rlo it e;omega),y2 it (by omega),zo it (by omega)];exact I1.hi;have:s3.get [] mb=s1.get [] mb:=by rw[a6 mb (by omega) (fun e=>by have:=w.rlo mb e;omega),y2 mb (by omega),zo mb (by omega)]
   exact this.trans I1.hm;rw[eK,eK,A];simp[m8,a0,hk];rcases hQ.1 H with H|H
   obtain⟨i1,i2,i3,i4⟩:=w.ids x H;refine⟨?_,i2,by omega,fun e=>by injection e with e;omega⟩;rw[a6 x.2 (by omega) i4,y2 x.2 (by omega),zo x.2 (by omega),ho x.2 (by omega)];exact i1;rw[vQ.1 H];refine⟨?_,by show lo<=s1.aL;omega,by show s1.aL<s3.aL;omega,fun e=>by injection e with e;omega⟩;rw[a6 s1.aL (by omega) (fun e=>by have:=w.row.lt _ e;omega)];exact y1;injection F with F
   omega
   all_goals simp only[sN,seval,h,bU]
open Go.Sort (SWO)
theorem MT: ∀ {a b c:List ae},fX a b<0->fX b c<0->fX a c<0
 | [],[],_,h1,_=>by simp[fX] at h1
 |_::_,[],_,h1,_=>by simp[fX] at h1
 | [],_::_,[],_,h2=>by simp[fX] at h2
 | [],_::_,_::_,_,_=>by simp[fX]
 |_::_,_::_,[],_,h2=>by simp[fX] at h2
 |a::x,b::y,c::z,h1,h2=>by
  simp only[fX,Hz] at*;by_cases p:dn a b=0
  have:=uK p;subst this;have e:an (dn a a) 0=true:=by rw[p];rfl
  rw[e] at h1;cases q:an (dn a c) 0 with
  |true=>rw[q] at h2;exact MT h1 h2
  |false=>rw[q] at h2;exact h2
  have e:an (dn a b) 0=false:=by simp[an,p]
  rw[e] at h1;by_cases q:dn b c=0
  grind [uK]
  have d:an (dn b c) 0=false:=by simp[an,q]
  rw[d] at h2;have h:=Ev h1 h2
  grind [an]
def aiz(a:List ae):fX a a=0:=by have:=HC a a;omega
theorem adW:SWO (ltOf fX) where
 irrefl x:=by simp[ltOf,aiz]
 trans x y z h1 h2:=by
  grind [ltOf,MT]
 ntrans x y z h1 h2:=by
  grind [ltOf,MU,HC,MT]
theorem aeh{x y:List ae}(e:ltOf fX x y=false)(d:ltOf fX y x=false):x=y:=by
 grind [ltOf,HC,MU]
def mV(x:js):aa:=.agg [.str [],ag 2,.list 1 ((fI x.1).map ax) .no]
def vz(x:Nat×Nat):aa:=.agg [.str [],ag 2,.arr 1 x.1 0 x.2 2]
def wg:List (Nat×Nat)->(List js->Rd)->Rd
 | [],k=>k []
 |x::l,k=>.ask x.1 fun o=>match o with
  | .cells [.str a,.str b]=>bif x.2==1 then wg l fun r=>k (((a,a),x.1)::r) else bif x.2==2&& !(a==b) then wg l fun r=>k (((a,b),x.1)::r) else .ret none
  |_=>.ret none
def EU(g:Nat->Option aJ)(x:js):Prop:= ∃b,g x.2=some (.cells [.str x.1.1,.str b])/\(jy x.1=1\/(jy x.1=2/\b=x.1.2))
theorem Mc{g:Nat->Option aJ}{u:aa}: ∀ {l:List (Nat×Nat)} {K:List js->Rd},fC g (wg l K)=some u-> ∃L,L.map (fun x=>(x.2,jy x.1))=l/\(∀x∈L,EU g x)/\fC g (K L)=some u
 | [],K,h=>⟨[],rfl,fun _ h=>(by cases h),h⟩
 |x::l,K,h=>by
  have h:(g x.1).bind (fun o=>fC g (match o with
   | .cells [.str a,.str b]=>bif x.2==1 then wg l fun r=>K (((a,a),x.1)::r) else bif x.2==2&& !(a==b) then wg l fun r=>K (((a,b),x.1)::r) else .ret none
   |_=>.ret none))=some u:=h
  simp only[ak] at h;obtain⟨o,z,h⟩:=h;split at h;rename_i a b;cases e1:x.2==1 with
  |true=>
   rw[e1] at h;obtain⟨L,A,j,e⟩:=Mc h;have w:jy (a,a)=1:=by unfold jy;simp
   refine⟨((a,a),x.1)::L,?_,fun y d=>?_,e⟩
   grind
   rcases dG.1 d with rfl|d
   exact⟨b,z,.inl w⟩;exact j y d
  |false=>
   rw[e1] at h;simp only[cF] at h;cases e2:(x.2==2&& !(a==b)) with
   |true=>
    rw[e2] at h;simp only[bq,oA] at e2;obtain⟨L,A,j,e⟩:=Mc h;have w:jy (a,b)=2:=by unfold jy;rw[e2.2];rfl
    refine⟨((a,b),x.1)::L,?_,fun y d=>?_,e⟩
    grind
    rcases dG.1 d with rfl|d
    exact⟨b,z,.inr ⟨w,rfl⟩⟩;exact j y d
   |false=>rw[e2] at h;cases h
  cases h
theorem UN{g:Nat->Option aJ}: ∀ {L:List js} {K:List js->Rd},(∀x∈L,g x.2=some (.cells (Aq x.1)))->fC g (wg (L.map fun x=>(x.2,jy x.1)) K)=fC g (K L)
 | [],K,_=>rfl
 |x::L,K,h=>by
  have j:=h x fE;have e:=fun K=>UN (K:=K) fun y d=>h y (iw _ d);obtain⟨⟨a,b⟩,n⟩:=x;show(g n).bind _=_
  grind [Aq,DA,jy]
def aeu{h:aD aJ}{x:js}(j:EU h.get x):fU h (gW x) (mV x):=by
 obtain⟨b,w,d⟩:=j;refine⟨3,?_⟩;have e:cG h 2 (.arr 1 x.2 0 (jy x.1) 2)=some (.list 1 ((fI x.1).map ax) .no):=by
  show(match h.get x.2 with
   |some (.cells cs)=>(cut cs 0 (jy x.1*1)).bind fun c=>(dt (cG h 1) c).bind fun y=>(aY (!aK 1 1) 1 (jy x.1) y).bind fun xs=>some (aa.list 1 xs .no)
   |_=>none)=_
  rw[w];obtain⟨⟨p,q⟩,n⟩:=x;unfold fI;simp only[jy] at d ⊢;cases e:p==q with
  |true=>rfl
  |false=>
   rw[e] at d;have u:b=q:=by
    rcases d with d|d
    cases d;exact d.2
   subst u;rfl
 show(dt (cG h 2) [.str [],ag 2,.arr 1 x.2 0 (jy x.1) 2]).bind (fun r=>some (aa.agg r))=_;simp only[dt,e,bk];rfl
def AK:aa->Option (List ae)
 | .agg [.str _,.int .i64 _,w]=>bif bG w then dW 1 gG w else none
 |_=>none
def V4:Sp
 | [u,v]=>(AK u).bind fun a=>(AK v).bind fun b=>bif pures [u,v]&&bh a.length small then some (bF (fX a b)) else none
 |_=>none
variable{l:List ae}
theorem XD(h:AK v=some l): ∃a i w,v= .agg [.str a,ag i,w]/\au 1 ax w l/\bG w=true:=by
 unfold AK at h
 grind [ig,kQ]
def anB(x:js):AK (mV x)=some (fI x.1):=by
 have d:bG (.list 1 ((fI x.1).map ax) .no)=true:=by simp only[bG,vq rq,bX]
 show(bif bG (.list 1 ((fI x.1).map ax) .no) then ij gG ((fI x.1).map ax) else none)=_;rw[d,yV kF];rfl
def azn(x:js):bG (mV x)=true:=by simp only[mV,bG,pures,vq rq,bX,mY]
def aij(e:No Q 135)(d:Q.spec 136=some DQ){w w':aa}{r:List ae}(u:au 1 ax w l)(h:au 1 ax w' r)(y:bG w=true)(x:bG w'=true)(z:l.length<small)(a b:ae)(i j:Int)(s:St):aq Q 135 [.agg [.str a,ag i,w],.agg [.str b,ag j,w']] s (bF (fX l r)) s:=by
 have q:=axY u h y x z;have B:=u.ge;have A:=h.ge;refine aq.ofNZ aoz (bP ?_);simp only[go_sem,seval,d,q,B,A,bF]
def afV:df:=[(136,DQ)]
def afW:dl afV:=.cons axZ .nil
def aiA:cL ah 135 V4:=by
 refine GD afW (W:=[]) .nil fun e u h=>?_;unfold V4 at h;split at h;simp only[ak] at h;obtain⟨a,F,b,B,h⟩:=h;obtain⟨d,h⟩:=bc h;simp only[bq] at d;have h:=sI h;subst h;obtain⟨H,i,w,rfl,A,z⟩:=XD F;obtain⟨G,j,I,rfl,y,x⟩:=XD B;exact⟨d.1,fun J=>⟨_,_,aij ⟨rfl,rfl⟩ rfl A y z x (Nat.le_of_ble_eq_true d.2) _ _ _ _ _,1,rfl⟩⟩;cases h
abbrev dV:js:=(([],[]),0)
def j9(a b:js):Int:=fX (fI a.1) (fI b.1)
noncomputable def Bb(l:List js):Bool:=by classical exact decide (l.length<=1000000/\(l.map fun x=>fI x.1).Nodup)
noncomputable def Md(m:Nat):Option (List (Nat×Nat))->Rd
 |some l=>bif l.all (fun x=> !(x.1==m)) then wg l fun L=>t7 (bif Bb L then some (aG ((jU j9 dV L).map gW)) else none) else .ret none
 |none=>.ret none
noncomputable def DL:List aa->Option pA
 | [.arr k' m 0 len _,.func (.func g') [] []]=>bif aK k' 3&&aK g' 135 then some (some (m,fun cs=>bif aK cs.length (len*3) then Md m (uO vz cs) else .ret none)) else none
 | [.Ge,.func (.func g') [] []]=>bif aK g' 135 then some none else none
 |_=>none
theorem aui(k:CK):(fI k).length<=2:=by
 grind [fI]
theorem axF:uF 134 DL:=by
 have L:=Tryz.sortF134;have ef: ∀A w,(callFunc 134 A).run ah w= .ok (.enter 134 A) w:=Go.Proofs.enters_of Tryz.func134 (by kernel_rfl) rfl;have eg: ∀A w,(callFunc 135 A).run ah w= .ok (.enter 135 A) w:=Go.Proofs.enters_of Tryz.func135 (by kernel_rfl) rfl;intro A G h w xs wr hx;refine⟨fun F=>?_,fun n gf cs a2 F hl d=>?_⟩
 ·unfold DL at F
  split at F
  grind
  ·cases hx with
   |cons p q=>
   cases q with
   |cons q r=>
   cases r;cases p;cases q with
   |func q1 q2=>
   cases q1;cases q2;refine .inr ⟨ef _ _,(AnyF.slices_SortFunc_none L none 0 _ w).mono ?_⟩;rintro e w' ⟨rfl,rfl⟩;exact⟨_,rfl,G,wr,.refl,.tup .nil⟩
  cases F
 ·unfold DL at F
  split at F
  ·rename_i k' m len I g'
   have hb:=(bc F).1;have Z:=(bc F).2;clear F;simp only[bq] at hb;have O:=jI hb.1;have N:=jI hb.2;subst O;subst N;injection Z with Z;injection Z with Z;injection Z with a4 a3
   subst a4;subst a3;have d:fC h.get (bif aK cs.length (len*3) then Md m (uO vz cs) else .ret none)=some (.agg a2):=d;cases B:aK cs.length (len*3) with
   |false=>rw[B] at d;cases d
   |true=>
   rw[B] at d;have B:=jI B;simp only[cT] at d;cases hd:uO vz cs with
   |none=>rw[hd] at d;cases d
   |some U=>
   rw[hd] at d;have a1:=M4 hd;have d:fC h.get (bif U.all (fun x=> !(x.1==m)) then wg U fun L=>t7 (bif Bb L then some (aG ((jU j9 dV L).map gW)) else none) else .ret none)=some (.agg a2):=d;cases hne:U.all (fun x=> !(x.1==m)) with
   |false=>rw[hne] at d;cases d
   |true=>
   rw[hne] at d;obtain⟨l,h1,a6,d⟩:=Mc d;have d:=Gk d;obtain⟨h2,d⟩:=bc d;have d:=(sI d).symm;subst d;have a5:U.map vz=l.map gW:=by rw[<-h1,m9];rfl
   rw[a5] at a1;subst a1;have a9: ∀x∈l,x.2≠m:=fun x hx e=>by
    have:(x.2,jy x.1)∈U:=by rw[<-h1];exact cw.2 ⟨x,hx,rfl⟩
    grind
   have a0: ∀v∈l.map gW,v.cells.length=3/\v= .agg v.cells:=fun v hv=>by
    obtain⟨a,_,rfl⟩:=cw.1 hv;exact⟨rfl,rfl⟩
   have J:l.length=len:=by
    rw[ot (fun v hv=>(a0 v hv).1),bU] at B;omega
   simp only[Bb,dE] at h2;cases hx with
   |cons p q=>
   cases q with
   |cons q r=>
   cases r;cases q with
   |func u1 u2=>
   cases u1;cases u2;have H:(l.map gW).length=l.length:=bU ..;have hy: ∀z,VR G (.arr 3 m 0 len I) z->VR G (.arr 3 m 0 (l.map gW).length I) z:=fun z hz=>by rw[H,J];exact hz
   have gen: ∀n (hn:n=l.length),SWO (ltOf fun x y:Fin n=>em j9 dV l x y)/\(∀x y:Fin n,(ltOf fun x y:Fin n=>em j9 dV l x y) x y=false->(ltOf fun x y:Fin n=>em j9 dV l x y) y x=false->x=y):=by
    intro n hn;subst hn;refine⟨KP adW fun i:Fin l.length=>fI (l.getD i dV).1,fun x y q1 q2=>?_⟩;have h:=aeh (x:=fI (l.getD x dV).1) (y:=fI (l.getD y dV).1) q1 q2;rw[Ct,Ct] at h;exact Fin.ext (JJ h2.2 (i:=x) (j:=y) (x:=l[x]) (y:=l[y]) (by simp) (by simp) h)
   have Y:=fun hO=>RY L rfl Tryz.isAgg31 Tryz.sizeOf31 ef eg aiA wr (rows:=l.map gW) (us:=l.map mV) hl a0 (by decide) (by rw[bU,bU]) (fun i v u O N=>by
    rw[jo,uy] at O N;obtain⟨a,g1,rfl⟩:=O;obtain⟨b,S,rfl⟩:=N;rw[g1] at S;injection S with S;subst S
    have a7:=dM g1;obtain⟨b',i1,i2⟩:=a6 a a7;exact aeu ⟨b',by grind [aD.get_set],i2⟩) (em j9 dV l) (fun i j u u' O N=>by
    rw[jo,uy] at O N;obtain⟨a,g1,rfl⟩:=O;obtain⟨b,S,rfl⟩:=N;have e:em j9 dV l i j=j9 a b:=by
     unfold em;rw[m8,m8,g1,S];rfl
    have a8:=gV;have hb:bh (fI a.1).length small=true:=cN (by have:=aui a.1;omega);rw[e];show((AK (mV a)).bind fun a'=>(AK (mV b)).bind fun b'=>bif pures [mV a,mV b]&&bh a'.length small then some (bF (fX a' b')) else none)=_;simp only[dX,anB,pures,azn,bX,hb];rfl) hO (gen _ H).2 (by rw[H];exact h2.1) (hy _ p)
   rw[R3] at Y;exact Y (gen _ H).1
  all_goals grind
end Go.Proofs.YtnnppcoplinajaaGreat
namespace Go.Proofs.YtnnppcoplinajaaGreat
open Go.Ag
open Go.Sort (SWO)
def NH{α β:Type}{f:α->List β}{n:Nat}: ∀ {l:List α},(∀x∈l,(f x).length<=n)->(l.flatMap f).length<=l.length*n
 | [],_=>jY _
 |x::l,h=>by
  have j:=h x fE;have e:=NH (l:=l) fun y d=>h y (iw _ d);rw[D5,de,cX,Nat.succ_mul];omega
theorem aa0{α:Type}[DecidableEq α]: ∀ {K L:List α},K.Nodup->(∀x∈K,x∈L)->K.length<=L.length
 | [],_,_,_=>jY _
 |x::K,L,nd,h=>by
  obtain⟨u,j⟩:=List.nodup_cons.1 nd;have z:=h x fE;have w:=aa0 (K:=K) (L:=L.erase x) j fun y d=>(List.mem_erase_of_ne (fun e=>u (by rw[<-e];exact d))).2 (h y (iw _ d))
  grind
theorem ZS(a b:ae):((du a b).1=a\/(du a b).1=b)/\((du a b).2=a\/(du a b).2=b):=by
 grind [du,C3,CZ]
variable{k:CK}{o:Obj}
theorem adq(h:k∈kL o):k.1∈o.gT/\k.2∈o.gT:=by
 unfold kL at h;obtain⟨p,d,rfl⟩:=cw.1 h;have j:p.1∈o.gT:=(G3 d).1;have e:p.2∈o.gT:=by
  rcases hQ.1 (G3 d).2 with h|h
  exact List.mem_of_mem_tail h
  grind
 grind [ZS]
variable{l:List Obj}
theorem H9{r:ae}(h:di l r=true): ∃q,ck r l=some q/\q.Al=1:=by
 grind [di,mH,an]
theorem arV(h:k∈fB l o):di l k.1=true/\di l k.2=true:=by
 grind [fB,se,adq]
theorem Z9(l:List Obj)(o:Obj):(fB l o).length<=o.gT.length:=by
 grind [fB,kL]
theorem adn(id:ae): ∀(u:List CK) (d:List CK×(CK->List ae)),(∀k,k∈(u.foldl (fy id) d).1->k∈d.1\/k∈u)/\ ∀k y,y∈(u.foldl (fy id) d).2 k->y∈d.2 k\/(y=id/\k∈u)
 | [],d=>⟨fun _ h=>.inl h,fun _ _ h=>.inl h⟩
 |j::u,d=>by
  obtain⟨A,z⟩:=adn id u (fy id d j);have F: ∀k,k∈(fy id d j).1->k∈d.1\/k=j:=fun k x=>by
   grind [fy,nD]
  have B: ∀k y,y∈(fy id d j).2 k->y∈d.2 k\/(y=id/\k=j):=fun k y w=>by
   unfold fy at w;cases e:(d.2 j).contains id with
   |true=>rw[e] at w;exact .inl w
   |false=>
    rw[e] at w
    grind [kq]
  grind
theorem QD(l:List Obj): ∀(os:List Obj) (d:List CK×(CK->List ae)),(∀k,k∈(os.foldl (fq l) d).1->k∈d.1\/ ∃o∈os,k∈fB l o)/\ ∀k y,y∈(os.foldl (fq l) d).2 k->y∈d.2 k\/ ∃o∈os,y=o.id/\k∈fB l o
 | [],d=>⟨fun _ h=>.inl h,fun _ _ h=>.inl h⟩
 |o::os,d=>by
  obtain⟨x,w⟩:=QD l os (fq l d o);obtain⟨A,z⟩:=adn o.id (fB l o) d;refine⟨fun k u=>?_,fun k y e=>?_⟩
  ·rcases x k u with h|⟨q,j,h⟩
   ·rcases A k h with h|h
    all_goals grind
   grind
  ·rcases w k y e with h|⟨q,j,h⟩
   ·rcases z k y h with h|h
    all_goals grind
   grind
theorem abZ(h:k∈(ff l).1): ∃o∈l,k∈fB l o:=by
 rcases(QD l l ([],fun _=>[])).1 k h with h|h
 cases h;exact h
def QY{y:ae}(h:y∈(ff l).2 k): ∃o∈l,y=o.id/\k∈fB l o:=by
 rcases(QD l l ([],fun _=>[])).2 k y h with h|h
 cases h;exact h
theorem aba(l:List Obj)(k:CK): ∀(os:List Obj) (d:List CK×(CK->List ae)),((os.foldl (fq l) d).2 k).length<=(d.2 k).length+(os.flatMap (fB l)).length
 | [],_=>Nat.le_add_right _ _
 |o::os,d=>by
  have e:=aba l k os (fq l d o)
  grind [Hi,fq]
theorem avl(l:List Obj)(k:CK):((ff l).2 k).length<=(l.flatMap (fB l)).length:=by
 grind [ff,aba]
theorem asW:k∈fZ l↔k∈(ff l).1:=(DK _).mem_iff
theorem PW(h:k∈fZ l):di l k.1=true/\di l k.2=true:=by
 grind [abZ,asW,arV]
theorem atA(e:cM l=true){r:ae}(h:di l r=true):bg (ep l r)=true:=by
 obtain⟨q,j,u⟩:=H9 h;unfold cM at e;simp only[bq] at e;have d:=JP l [] e.1 q (kJ j).1;rw[Gg j];unfold fR at d;obtain⟨_,d⟩:=(fun h=>⟨trivial,h⟩:_->True/\_) d;cases e1:od q with
 |true=>rw[e1] at d;cases d
 |false=>
 rw[e1] at d;cases e2:pD q.Al [] [] q.gT with
 |true=>rw[e2] at d;cases d
 |false=>
 rw[e2,u] at d;have d:(q.gT.length==0&&qX q.x q.y)=true:=d
 grind [qX,b9,aX,bg]
theorem aw0(d:cM l=true)(h:k∈fZ l):qV (kp l k)=true:=by
 grind [PW,qV,kp,atA]
def Ax(l:List Obj):List CK:=(gm ((fZ l).map (kp l))).flatMap fun x=>
 let a:=(fZ l).getD x.1.toNat ([],[])
 let b:=(fZ l).getD x.2.1.toNat ([],[])
 bif mQ a b x.2.2 then [] else((ff l).2 a).flatMap fun u=>((ff l).2 b).map fun y=>du u y
def tx(l:List Obj):List ae:=(fZ l).flatMap fun k=>[k.1,k.2]
def JH(l:List Obj):List CK:=(tx l).flatMap fun x=>((tx l).filter fun y=> !(x==y)&&(an (ep l x).1 (ep l y).1&&an (ep l x).2 (ep l y).2)).map fun y=>du x y
def th(l:List Obj):List CK:=(JH l++Ax l).foldl (fun K k=>eD k K) []
theorem Ur{k:CK}: ∀ {l K:List CK},k∈l.foldl (fun K k=>eD k K) K↔k∈K\/k∈l
 | [],K=>by simp
 |j::l,K=>by
  rw[xM,Ur,nD,dG]
  grind
def Us: ∀ {l K:List CK},K.Nodup->(l.foldl (fun K k=>eD k K) K).Nodup
 | [],_,h=>h
 |j::l,K,h=>by
  rw[xM];exact Us (xX h)
def UQ(l:List Obj):(th l).Nodup:=Us BL
def C0:k∈th l↔k∈JH l\/k∈Ax l:=by
 unfold th;rw[Ur,hQ];simp
theorem FL:k∈JH l↔ ∃x y,x∈tx l/\y∈tx l/\x≠y/\ep l x=ep l y/\k=du x y:=by
 grind [an,JH]
theorem anZ(T:CK->Nat):(∃x∈gm ((fZ l).map (kp l)),wI ((fZ l).map fun k=>(k,(ff l).2 k,T k)) x k)↔k∈Ax l:=by
 unfold Ax;rw[sS];refine exists_congr fun x=>and_congr_right fun d=>?_;have e:=LZ d;rw[bU] at e;have h: ∀i:Int,0<=i->i<(fZ l).length->((fZ l).map fun k=>(k,(ff l).2 k,T k)).getD i.toNat iY=((fZ l).getD i.toNat ([],[]),(ff l).2 ((fZ l).getD i.toNat ([],[])),T ((fZ l).getD i.toNat ([],[]))):=fun i u j=>by
  grind
 grind [wI]
theorem aja{x:ae}(h:x∈tx l): ∃q∈l,q.id=x:=by
 unfold tx at h;obtain⟨k,u,d⟩:=sS.1 h;obtain⟨y,w⟩:=PW u;obtain⟨j,A,_⟩:=H9 y;obtain⟨e,z,_⟩:=H9 w;simp only[dG,xQ,or_false] at d;rcases d with rfl|rfl
 exact⟨j,kJ A⟩;exact⟨e,kJ z⟩
theorem agB(h:k∈th l):k.1∈l.map Obj.id/\k.2∈l.map Obj.id:=by
 have j: ∀ {x y:ae},x∈l.map Obj.id->y∈l.map Obj.id->(du x y).1∈l.map Obj.id/\(du x y).2∈l.map Obj.id:=fun {x y} w d=>by
  grind [ZS]
 rcases C0.1 h with h|h
 obtain⟨x,y,w,d,_,_,rfl⟩:=FL.1 h
 grind [aja]
 unfold Ax at h;obtain⟨x,_,h⟩:=sS.1 h;cases e:mQ ((fZ l).getD x.1.toNat ([],[])) ((fZ l).getD x.2.1.toNat ([],[])) x.2.2 with
 |true=>simp only[e,cT] at h;cases h
 |false=>
  simp only[e,cF,sS,cw] at h;obtain⟨u,z,y,d,rfl⟩:=h;obtain⟨B,G,rfl,_⟩:=QY z;obtain⟨A,F,rfl,_⟩:=QY d
  grind [List.mem_map_of_mem]
theorem UO(l:List Obj):(th l).length<=l.length*l.length:=by
 have h:=aa0 (L:=(l.map Obj.id).flatMap fun x=>(l.map Obj.id).map fun y=>(x,y)) (UQ l) fun k d=>by
  grind [agB]
 have e:=NH (f:=fun x=>(l.map Obj.id).map fun y=>(x,y)) (n:=l.length) (l:=l.map Obj.id) fun x _=>by
  grind
 grind
theorem abp{a b:CK}(h:fI a=fI b):a=b:=by
 grind [fI]
def rp(K:List CK):List CK:=(jU j9 dV (K.map fun k=>(k,0))).map (·.1)
def ax9(L:List js):SWO (ltOf fun x y:Fin L.length=>em j9 dV L x y):=KP adW fun i:Fin L.length=>fI (L.getD i dV).1
variable{K:List CK}
def axG{L:List js}(h:(L.map (·.1)).Perm K):(jU j9 dV L).map (·.1)=rp K:=by
 have e:((jU j9 dV L).map (·.1)).Perm (rp K):=by
  refine(((vE j9 dV L).map _).trans h).trans ?_;refine(((vE j9 dV (K.map fun k=>(k,0))).map (·.1)).trans ?_).symm;rw[m9];exact .of_eq (List.map_id K)
 have d: ∀L:List js,((jU j9 dV L).map (·.1)).Pairwise fun a b=> ¬fX (fI b) (fI a)<0:=fun L=>by
  rw[G4];exact KG j9 dV L (ax9 L)
 refine e.eq_of_pairwise (fun a b _ _ u j=>?_) (d L) (d _);exact abp (aeh (by simp_all [ltOf]) (by simp_all [ltOf]))
theorem at9{L:List js}(h:(L.map (·.1)).Perm K)(e:K.Nodup)(j:K.length<=1000000):Bb L=true:=by
 simp only[Bb,dE];have d:=h.length_eq
 grind [abp]
theorem atC{α:Type}[DecidableEq α]{K L:List α}(e:K.Nodup)(d:L.Nodup)(h: ∀x,x∈K↔x∈L):K.Perm L:=by
 grind
end Go.Proofs.YtnnppcoplinajaaGreat
namespace Go.Proofs.YtnnppcoplinajaaGreat
open Go.Ag
def jr:df:=[(31,im),(224,Ai)]
def afi:dl jr:=.cons tT (.cons agj .nil)
noncomputable def jt:rJ:=[(220,KH),(134,DL)]
def afK:tg jt:=.cons axB (.cons axF .nil)
def BA(l:List Obj):aa:=gw 3 ((rp (th l)).map fun k=>mV (k,0))
theorem WM{g:aa->Option aa}: ∀ {a b c d:List aa},dt g a=some c->dt g b=some d->dt g (a++b)=some (c++d)
 | [],b,c,d,e,h2=>by
   injection e with e;subst e;exact h2
 |x::a,b,c,d,e,h2=>by
  simp only[dt,ak,aM] at e;obtain⟨u,w,r,h,rfl⟩:=e;have j:=WM h h2
  grind [dt]
theorem WO{h:aD aJ}: ∀ {L:List js},(∀x∈L,EU h.get x)-> ∃m,dt (cG h m) (aG (L.map gW))=some (aG (L.map mV))
 | [],_=>⟨0,rfl⟩
 |x::L,hi=>by
  obtain⟨k,u⟩:=aeu (hi x fE);obtain⟨e,z⟩:=NS u;obtain⟨d,w⟩:=WO (L:=L) fun y j=>hi y (iw _ j);refine⟨max e d,?_⟩
  grind [aG,WM,yy,EL,Nat.le_max_right]
variable{s:St}
theorem akT{v:aa}{L:List js}(y: ∀x∈L,EU s.heap.get x)(h:kD 3 s v (L.map gW)):fU s.heap v (gw 3 (L.map mV)):=by
 rcases h with⟨rfl,u⟩|⟨j,n,rfl,w,_⟩
 have u:=zT.1 u;subst u;exact⟨1,rfl⟩;obtain⟨m,A⟩:=WO y;refine⟨m+1,?_⟩;have w:s.heap.get n=some (.cells (aG (L.map gW))):=w;have F:cut (aG (L.map gW)) 0 ((L.map gW).length*3)=some (aG (L.map gW)):=by
  have:=ot (k:=3) (fun v d=>SB (R:=L) v d);simp only[cut,pn,ja];rw[sU (by omega),this];simp
 have e:gw 3 (L.map mV)= .list 3 (L.map mV) .no:=by
  cases L with
  |nil=>exact absurd rfl j
  |cons x xs=>rfl
 have B:(L.map gW).length=(L.map mV).length:=by rw[bU,bU]
 have z:=MJ (k:=3) (l:=L.map mV) fun v d=>by
  obtain⟨a,_,rfl⟩:=cw.1 d;exact⟨rfl,rfl⟩
 grind [cG,aK]
def agh{segs:List bK}(h:segs.length<=1000):(gm segs).length<=1000000:=by
 have d:=Gb (F:=fM) (iz 0 segs);rw[wJ] at d;have:segs.length*segs.length<=1000*1000:=rC h h;unfold gm;omega
theorem awv{a b:Nat×Nat}(h:(vz a).cells=(vz b).cells):a=b:=by
 grind [vz,lO]
theorem anA{g:Nat->Option aJ}{x:js}(h:g x.2=some (.cells (Aq x.1))):EU g x:=by
 refine⟨DA x.1,h,?_⟩
 grind [jy,DA]
variable{ov:aa}
def axv{Q:aF}[Std Q](u:Q.spec 134=none)(j:Q.specW 134=some DL){lo:Nat}{d:List js}(F:LC lo s ov d)(J:Bb d=true):
 ∃s',aq Q 134 [ov,.func (.func 135) [] []] s (.tup []) s'/\fU s'.heap ov (gw 3 ((jU j9 dV d).map mV)):=by
 have A:=vE j9 dV d;rcases F.row with⟨rfl,y⟩|⟨y,k,rfl,N,B⟩
 have y:=zT.1 y;subst y;refine⟨s,aq.specW0 u (Std.H _) j rfl,?_⟩;rw[List.Perm.eq_nil A];exact⟨1,rfl⟩;have hid:=fun x h=>(F.ids x h).1;have w: ∀x∈d,x.2≠k:=fun x h e=>(F.ids x h).2.2.2 (by rw[e];rfl);have I:(d.map gW).length=d.length:=bU ..;have z:fC (s.get []) (bif aK (aG (d.map gW)).length ((d.map gW).length*3) then Md k (uO vz (aG (d.map gW))) else .ret none)=some (.agg (aG ((jU j9 dV d).map gW))):=by
  have Z:(aG (d.map gW)).length=(d.map gW).length*3:=ot fun v G=>SB v G;have Y:d.map gW=(d.map fun x=>(x.2,jy x.1)).map vz:=by rw[m9];rfl
  have U:uO vz (aG (d.map gW))=some (d.map fun x=>(x.2,jy x.1)):=by
   rw[Y];exact HF (k:=3) (fun _=>rfl) (by decide) (fun a b=>awv) _
  rw[Z,ja,bS,cT,U];have S:(d.map fun x=>(x.2,jy x.1)).all (fun x=> !(x.1==k))=true:=by
   rw[fD];intro x h;obtain⟨a,O,rfl⟩:=cw.1 h;simpa using w a O
  show fC (s.get []) (bif(d.map fun x=>(x.2,jy x.1)).all (fun x=> !(x.1==k)) then wg (d.map fun x=>(x.2,jy x.1)) fun L=>t7 (bif Bb L then some (aG ((jU j9 dV L).map gW)) else none) else .ret none)=_;rw[S,cT,UN hid,J];rfl
 refine⟨_,aq.specW (n:=k) (cs':=aG ((jU j9 dV d).map gW)) u (Std.H _) j rfl N z,?_⟩;refine akT (fun x h=>anA ?_) (.inr ⟨fun e=>?_,k,?_,?_,B⟩);have h:=A.mem_iff.1 h;have:(s.put k (some (.cells (aG ((jU j9 dV d).map gW))))).get [] x.2=s.get [] x.2:=by
  rw[aU,bN.2 (w x h)];rfl
 exact this.trans (hid x h)
 simp_all
 rw[bU,bU,A.length_eq];rw[aU,bS];rfl
variable{l:List Obj}
theorem ahU(ch:Nat->Nat)(ho:au 6 Obj.val ov l)(hg: ∀o∈l,o.AL)(hl:l.length<=900)(hr: ∀o∈l,o.gT.length<=999)(hv:cM l=true)(j:(fZ l).length<=1000)(i5:s.gE<=s.aL):
 ∃v s',aq (QW jr jt ch) 59 [.agg [ov]] s v s'/\fU s'.heap v (BA l):=by
 have I:Std (QW jr jt ch):=inferInstance;have hK: ∀i,1000000<=(QW jr jt ch).kmax i:=fun _=>bj _;have j8:(QW jr jt ch).spec 31=some im:=rfl;have g8:(QW jr jt ch).spec 224=some Ai:=rfl;have k9:No (QW jr jt ch) 59:=⟨rfl,rfl⟩;have c5:No (QW jr jt ch) 126:=⟨rfl,rfl⟩;have c4:No (QW jr jt ch) 127:=⟨rfl,rfl⟩;have Y:No (QW jr jt ch) 128:=⟨rfl,rfl⟩;have U:No (QW jr jt ch) 129:=⟨rfl,rfl⟩;have B:No (QW jr jt ch) 130:=⟨rfl,rfl⟩;have c3:No (QW jr jt ch) 131:=⟨rfl,rfl⟩;have c2:No (QW jr jt ch) 132:=⟨rfl,rfl⟩;have c1:No (QW jr jt ch) 133:=⟨rfl,rfl⟩;have a6:(QW jr jt ch).spec 134=none:=rfl;have c0:(QW jr jt ch).specW 134=some DL:=rfl;have h0:(QW jr jt ch).spec 220=none:=rfl;have b6:(QW jr jt ch).specW 220=some KH:=rfl;have A:No (QW jr jt ch) 223:=⟨rfl,rfl⟩;have b7:No (QW jr jt ch) 219:=⟨rfl,rfl⟩;have b0:No (QW jr jt ch) 301:=⟨rfl,rfl⟩;have b1:No (QW jr jt ch) 261:=⟨rfl,rfl⟩;have b8:No (QW jr jt ch) 167:=⟨rfl,rfl⟩;generalize QW jr jt ch=Q at*;have a9:=ho.cs;have k8:(l.flatMap (fB l)).length<=l.length*999:=NH fun o h=>eL (Z9 l o) (hr o h);have m4:l.length*999<=900*999:=Nat.mul_le_mul_right _ hl;have l7:=abY l;refine aq.ofNRZ aq2 (bP ?_);simp only[go_sem,seval,a9];have i2:=atX j8 c5 ho hg (by omega) (qN hv) hv i5;refine co.ex i2 (by decide) ?_;rintro v s1 ⟨rfl,f4,g2⟩;have n1:s1.aL=s.aL+1:=g2.aL;simp only[go_sem,seval,a9,eA,uI,bf,aZ,aW,aY,evc];have i1:=arW hK c4 h0 b6 B A b7 b0 b1 b8 ho hg (by omega) hr (by omega) (n:=s.aL) f4 (by omega) g2.mw;refine co.ex i1 (by decide) ?_;rintro v d ⟨⟨r,c,T,rfl,f1,l6⟩,e6,m3,e0,_⟩;obtain⟨R,G⟩:=bZ ((fZ l).map (fun k=>(k,(ff l).2 k,T k)));have j0:(fZ l).length=R.length:=by rw[<-G,bU]
 have j1:((fZ l).map fun k=>g9 (k,(ff l).2 k,T k))=R.map g9:=by rw[<-G,m9];rfl
 rw[j0] at j ⊢;rw[j1] at f1;have m5: ∀x∈R,di l x.1.1=true/\di l x.1.2=true:=fun x hx=>by
  grind [PW]
 have f0: ∀x∈R,(∃q,ck x.1.1 l=some q)/\ ∃q,ck x.1.2 l=some q:=fun x hx=>by
  grind [H9]
 have j4:bM aa.str d s.aL (iy 0 l):=(e6 _ (by omega)).trans f4;have cn:aa.nilm.cells=[.nilm]:=rfl;obtain⟨z,hz⟩:=bZ (((d.new (.map [] 0)).new (.cells [.nilm])).put (d.aL+1) (some (.cells [.map d.aL])));have d2:(d.new (.map [] 0)).aL=d.aL+1:=rfl;have zn:z.aL=d.aL+2:=by rw[<-hz];rfl
 have zb:z.get [] (d.aL+1)=some (.cells [.map d.aL]):=by rw[<-hz,aU,bS];rfl
 have zm:z.get [] d.aL=some (.map [] 0):=by
  rw[<-hz,aU,bN.2 (by omega:d.aL≠d.aL+1),cF,cr (by rw[d2];omega)];exact cH
 have zo: ∀k,k<d.aL->z.get [] k=d.get [] k:=fun k hk=>by
  grind [aU,cr]
 have zw:z.gE<=z.aL:=by
  rw[<-hz];exact cU _ _ _ (bW (bW e0))
 have i6:((d.new (.map [] 0)).new (.cells [.nilm])).get [] (d.aL+1)=some (.cells [.nilm]):=cH;obtain⟨y,hy⟩:=bZ (z.new (.map [] 0));have yn:y.aL=d.aL+3:=by rw[<-hy];show z.aL+1=_;omega
 have yo: ∀k,k<z.aL->y.get [] k=z.get [] k:=fun k hk=>by rw[<-hy,cr hk]
 have ym:y.get [] z.aL=some (.map [] 0):=by rw[<-hy];exact cH
 have yw:y.gE<=y.aL:=by rw[<-hy];exact bW zw
 have yM:bM aa.str y s.aL (iy 0 l):=((yo _ (by omega)).trans (zo _ (by omega))).trans j4;have a7:y.get [] (d.aL+1)=some (.cells [.map d.aL]):=(yo _ (by omega)).trans zb;have yR:y.get [] r=some (.cells (aG (R.map g9))):=((yo _ (by omega)).trans (zo _ (by omega))).trans f1;have yS:Ed l y y z.aL d.aL (z.aL+1) (qG []) [] [] (fun _=>[]) (fun _=>0):=by
  refine⟨⟨ym,BL,fun _ h=>(by cases h),fun _ h=>(by cases h),fun _ _=>rfl,jX _,by omega⟩,(yo _ (by omega)).trans zm,fun _ _ _ _=>rfl,⟨fun q id=>?_,fun k=>?_,BL,fun _=>jY _⟩,bj _,yw⟩;simp[qG];simp[qG]
 simp only[go_sem,seval,ii,mJ,cS,i6,cV,P6,uI,cn,d2,hz,hy,bf,aZ,aW,aY,evc];refine agV Y U B A ho (n:=s.aL) (bx:=d.aL+1) (ma:=z.aL) (mb:=d.aL) (lo:=z.aL+1) (r:=r) (c:=c) (by omega) (by omega) (by omega) (by omega) (by omega) (by omega) (by omega) (by omega) (by omega) (by omega) (by omega) (s0:=y) yM a7 j yR f0 ?_ R [] _ _ y [] [] _ _ rfl yS ⟨?_,?_,?_,?_,?_,?_,?_⟩ ?_ ?_ ?_
 ·intro e3 l5 s3 i3 K3 V3 T3 S3 E3
  have a3: ∀k,k<z.aL->k≠d.aL->s3.get [] k=y.get [] k:=fun k S h2=>S3.fr k (by omega) (by omega) h2;have l1:=S3.nx;simp only[go_sem,seval,E3.h5,P6,ii,bf,aZ,aW,aY,evc];refine ag0 (N:=R.length) j (lo:=s3.aL) (s0:=s3) (E0:=e3) ?_ R.length 0 _ s3 .Ge rfl (.inl ⟨rfl,rfl⟩) (fun _ _=>rfl) S3.mw (bj _) ?_ ?_ ?_ ?_ ?_ ?_ ?_
  ·intro e4 Z lv f3 e5 d7 k2 h4 g3 g5 g6 g7
   obtain⟨w,hw⟩:=bZ (Z.new (.map [] 0));have wn:w.aL=Z.aL+1:=by rw[<-hw];rfl
   have wo: ∀k,k<Z.aL->w.get [] k=Z.get [] k:=fun k hk=>by rw[<-hw,cr hk]
   have wm:bM aN w Z.aL []:=by rw[<-hw];exact cH
   have ww:w.gE<=w.aL:=by rw[<-hw];exact bW d7
   have a2: ∀k,k<s3.aL->w.get [] k=s3.get [] k:=fun k S=>(wo k (by omega)).trans (e5 k S);have a0: ∀k,k<z.aL->k≠d.aL->w.get [] k=y.get [] k:=fun k S h2=>(a2 k (by omega)).trans (a3 k S h2);have wM:bM aa.str w s.aL (iy 0 l):=(a0 _ (by omega) (by omega)).trans yM;have wR:w.get [] r=some (.cells (aG (R.map g9))):=(a0 _ (by omega) (by omega)).trans yR;have h9:=aw3 c2 U ho (n:=s.aL) (r:=r) (c:=c) j f0 wM wR (by omega) (by omega) ww;have c8:=f3.ge;have k3:=g3.trans E3.h3;have k5:=g5.trans E3.h5;have k6:=g6.trans E3.h6;have k7:=g7.trans E3.h7;simp only[go_sem,seval,h4,k3,k5,E3.l3,E3.g3,mJ,hw,c8,a9,ii,bf,aZ,aW,aY,evc];refine co.ex h9 (by decide) ?_;rintro sv s5 ⟨c9,a5,m2,d6⟩;have i4:=c9.ge;have d0:(R.map fun x=>kp l x.1)=(fZ l).map (kp l):=by rw[<-G,m9];rfl
   have H:(R.map fun x=>kp l x.1).length=R.length:=bU ..;have a8: ∀x∈R.map (fun x=>kp l x.1),qV x=true:=fun x hx=>by
    grind [aw0]
   have i0:=asO c3 g8 c9 (lv:=lv) (by rw[H];exact f3.isL) (by rw[H];exact j) a8 (m:=Z.aL) ((a5 _ (by omega)).trans wm) (by omega) d6;simp only[go_sem,seval,i4,h4,c8,bf,aZ,aW,aY,evc];refine co.ex i0 (by decide) ?_;rintro v s6 ⟨rfl,O,e2,m1,d5⟩;obtain⟨M,J⟩:=bZ (gm (R.map fun x=>kp l x.1));have j2:M.length<=1000000:=by rw[<-J];exact agh (by rw[H];exact j)
   have j3: ∀x∈M,(0<=x.1/\x.1<R.length)/\(0<=x.2.1/\x.2.1<R.length):=fun x hx=>by
    rw[<-J] at hx
    have:=LZ hx;rwa [H] at this
   have i8: ∀x∈R,x.2.1.length<=1000000:=fun x hx=>by
    grind [avl]
   rw[J] at O;have d1:=iT.new ayN O;have hI:=iT.begin O (by omega);obtain⟨u,hu⟩:=bZ (s6.new (.iter (some Z.aL) (ny M).length [] (ny M).length));rw[hu] at d1 hI;have un:u.aL=s6.aL+1:=by rw[<-hu];rfl
   have uo: ∀k,k<s6.aL->u.get [] k=s6.get [] k:=fun k hk=>by rw[<-hu,cr hk]
   have uw:u.gE<=u.aL:=by rw[<-hu];exact bW d5
   have a1: ∀k,k<s3.aL->u.get [] k=s3.get [] k:=fun k S=>(uo k (by omega)).trans ((e2 k (by omega) (by omega)).trans ((a5 k (by omega)).trans (a2 k S)));have F: ∀k,k<z.aL->k≠d.aL->u.get [] k=y.get [] k:=fun k S h2=>(a1 k (by omega)).trans (a3 k S h2);simp only[go_sem,seval,HX,d1,bf,aZ,aW,aY,evc];refine agX hK Y B A (it:=s6.aL) (mf:=Z.aL) (bx:=d.aL+1) (mb:=d.aL) (r:=r) (c:=c) (lo:=s6.aL+1) (M:=M) j2 (R:=R) j j3 i8 (by omega) (by omega) (by omega) (by omega) (by omega) (by omega) (by omega) (by omega) (by omega) (by omega) (by omega) (by omega) (s0:=u) ((uo _ (by omega)).trans O) ((F _ (by omega) (by omega)).trans a7) ((F _ (by omega) (by omega)).trans yR) (KB0:=i3) (E0:=e4) ?_ M.length [] _ _ u i3 (by simp) hI (fun k=>by simp) S3.i.nd ((a1 _ (by omega)).trans S3.m) (fun _ _ _ _=>rfl) (bj _) (by omega) uw ?_ ?_ ?_ ?_
   ·intro e7 l4 s7 KB7 f6 c7 g1 e1 m0 d4 j7
    have FA:=j7.trans k6;have e9:s7.get [] (d.aL+1)=some (.cells [.map d.aL]):=((e1 _ (by omega) (by omega) (by omega)).trans (F _ (by omega) (by omega))).trans a7;have f5:KB7.Perm (th l):=atC c7 (UQ l) fun k=>by
     rw[f6,C0,FL,S3.i.b,<-J,d0];have he:qG R=tx l:=by
      rw[<-G];unfold qG tx;rw[List.flatMap_map]
     rw[he];refine or_congr Iff.rfl ?_;rw[<-G];exact anZ T
    have j5:KB7.length<1000000:=by
     rw[f5.length_eq];have S:=UO l;have h2:l.length*l.length<=900*900:=rC hl hl;omega
    have a4:=iT.new ayM g1;have g0:=iT.begin g1 (by omega);obtain⟨t,ht⟩:=bZ (s7.new (.iter (some d.aL) (jP KB7).length [] (jP KB7).length));rw[ht] at a4 g0;have tn:t.aL=s7.aL+1:=by rw[<-ht];rfl
    have tw:t.gE<=t.aL:=by rw[<-ht];exact bW d4
    simp only[go_sem,seval,FA,aP,e9,aQ,HX,a4,bf,aZ,aW,aY,evc];refine ag6 hK c1 (it:=s7.aL) (mb:=d.aL) (lo:=s7.aL+1) (KB:=KB7) j5 (by omega) (by omega) (by omega) ?_ KB7.length [] _ _ t .Ge [] (by simp) g0 rfl ⟨.inl ⟨rfl,rfl⟩,fun _ h=>(by cases h),fun _ h=>(by cases h)⟩ (by omega) tw ?_ ?_;intro e8 l2 s8 l0 k0 hp f2 k1 g4;have c6:=f2.row.ge;obtain⟨s9,h8,i7⟩:=axv a6 c0 f2 (at9 hp c7 (by omega));simp only[go_sem,seval,g4,c6,a6,bf,aZ,aW,aY,evc];refine co.of h8 (by decide) ?_;simp only[go_sem,seval,g4,c6,bf,aZ,aW,aY,evc];refine⟨_,rfl,?_⟩;have e:BA l=gw 3 ((jU j9 dV k0).map mV):=by
     unfold BA;rw[<-axG (hp.trans f5),m9];rfl
    rw[e];exact i7
    all_goals simp only[sN,seval]
   all_goals simp only[sN,seval,k5,k7]
  all_goals simp only[sN,seval]
  all_goals rfl
 all_goals simp only[aV,fQ,f7,uY,ai,bH,ct]
 all_goals rfl
def mB(l:List Obj):Bool:=cM l&&(decide (l.length<=900)&&(l.all (fun o=>decide (o.gT.length<=999))&&decide ((fZ l).length<=1000)))
structure Tr (l:List Obj):Prop where
 valid:cM l=true
 len:l.length<=900
 gT: ∀o∈l,o.gT.length<=999
 keys:(fZ l).length<=1000
def oW:mB l=true↔Tr l:=by
 unfold mB;simp only[bq,dE,fD];exact⟨fun⟨a,b,c,d⟩=>⟨a,b,c,d⟩,fun⟨a,b,c,d⟩=>⟨a,b,c,d⟩⟩
def BZ:Sp
 | [v]=>(jO v).bind fun l=>bif mB l then some (BA l) else none
 |_=>none
def ag5:cL ah 59 BZ:=by
 intro args u d G h w xs A F;unfold BZ at d;split at d;simp only[ak] at d;obtain⟨l,y,d⟩:=d;obtain⟨e,d⟩:=bc d;have d:=sI d;subst d;obtain⟨v,rfl,y,z,J⟩:=nX y;obtain⟨H,B,j,x⟩:=o9 y z;have j:dj [.agg [v]]=[.agg [B]]:=by simp only[dj,j]
 have e:=oW.1 e;refine iu afi afK (args:=[.agg [v]]) (by simp only[dK,H,bX]) (fun I=>?_) G h w xs A F;rw[j];exact ahU I x z e.len e.gT e.valid e.keys (by decide);cases d
variable{Q:aF}[Std Q]
def atl(p:Pt):bg p=(b9 (-2097152) (min p.1 p.2)&&b9 (max p.1 p.2) 2097152):=by
 rw[GN];simp only[bg,b9,aX,bq,oA,dE,decide_eq_false_iff_not];omega
def agn(r:List Pt):(!r.any fun p=> !bg p)=r.all bg:=by
 induction r with
 |nil=>rfl
 |cons p r d=>
  rw[List.any_cons,kx,Bool.not_or,d,Bool.not_not]
def aaS(d:No Q 430)(p:Pt)(s:St):aq Q 430 [aN p] s (.bool (bg p)) s:=by
 refine aq.ofNZ aqO (bP ?_);rw[atl];cases e1:b9 (-2097152) (min p.1 p.2) with
 |false=>simp only[go_sem,seval,aN,rP,rN,e1,Bool.false_and]
 |true=>simp only[go_sem,seval,aN,rP,rN,e1,eC]
def aj1(d:No Q 430)(e:No Q 429)(p:Pt)(s:St):aq Q 429 [aN p] s (.bool (!bg p)) s:=by
 refine aq.ofNZ aqN ?_;have h:=aaS d p s;refine bP ?_;simp only[aN] at h;simp only[go_sem,seval,aN];refine co.of h (by decide) ?_;simp only[go_sem,seval]
variable{K:Ex->Fr->St->Prop}{g:FuncId}{l:List Pt}{cap:List aa}{p:Pt->Bool}{sv:aa}
def anL(Y:au 2 aN sv l)(O:l.length<=1000000)(I:Q.spec g=none)(hg: ∀x∈l,aq Q g (aN x::cap) s (.bool (p x)) s){lc:Ag.Loc}{r:Int}(U: ∀e,r= -1->K (.exit 0) ⟨e,19,lc⟩ s)(Z: ∀e,ac e 4=ag r->K .ret ⟨e,19,lc⟩ s):
 ∀(h d:List Pt) (e:aw),l=d++h->r=fp p h d.length->ac e 0=sv->ac e 1= .func (.func g) [] cap->ac e 7=aI l.length->ac e 8=aI d.length->W Q 495 (.loop Py) ⟨e,19,lc⟩ s K:=by
 intro h
 induction h with
 |nil=>
  intro d e y A N J z w;have G:d.length=l.length:=by rw[y];simp
  refine bm ?_;simp only[go_sem,seval,Py,z,w,G,cq];exact U _ A
 |cons x h S=>
  intro d e y A N J z w;have F:d.length<l.length:=by rw[y];simp
  have u:l[d.length]? =some x:=by rw[y];simp
  have H:=fun lc k=>Y.at mR.2.2.1 u lc k;have B:=da (n:=d.length) (by omega);have j:=hg x (dM u);simp only[aN] at j;have e1:([]:List aa)++([aN x]++cap)=aN x::cap:=rfl;refine bm ?_;simp only[go_sem,seval,Py,N,J,z,w,F,H,aN,I];refine co.of j (by decide) ?_;cases hd:p x with
  |true=>
   simp only[go_sem,seval];exact Z _ (by simp only[sN,seval,w,A,fp,hd])
  |false=>
   simp only[go_sem,seval,w,B];refine S (d++[x]) _ (by rw[y];simp) (by rw[A];simp only[fp,hd,cF,sA]) ?_ ?_ ?_ ?_
   all_goals simp only[sN,seval,N,J,z,sA]
def anM(y:No Q 495)(h:au 2 aN sv l)(d:l.length<=1000000)(u:Q.spec g=none)(A: ∀x∈l,aq Q g (aN x::cap) s (.bool (p x)) s):aq Q 495 [sv,.func (.func g) [] cap] s (bF (fp p l 0)) s:=by
 have j:=h.lenS mR;have w:=h.ge;refine aq.ofNZ aqX (bP ?_);simp only[go_sem,seval,j,w];refine anL h d u A (r:=fp p l 0) ?_ ?_ l [] _ rfl rfl (by simp only[sG,seval, *]) (by simp only[sG,seval, *]) (by simp only[sG,seval, *]) (by simp only[sN,seval];rfl);intro e z;simp only[go_sem,seval,z];rfl;intro e B;simp only[go_sem,seval,B];rfl
def alY(d:No Q 495)(u:No Q 428)(w:au 2 aN sv l)(e:l.length<=1000000)(h:Q.spec g=none)(y: ∀x∈l,aq Q g (aN x::cap) s (.bool (p x)) s):aq Q 428 [sv,.func (.func g) [] cap] s (.bool (l.any p)) s:=by
 have j:=w.ge;refine aq.ofNZ aqM (bP ?_);simp only[go_sem,seval,j];refine co.of (anM d w e h y) (by decide) ?_;simp only[go_sem,seval,bF,ni,AG]
def acQ(j:No Q 495)(w:No Q 428)(u:No Q 430)(d:No Q 429)(B:No Q 326){r:List Pt}(A:au 2 aN sv r)(s:St):aq Q 326 [sv] s (.bool (ph r)) s:=by
 have h:=A.ge;have e:=A.lenS mR;have G:ph r=(b9 3 ((r.length:Nat):Int)&&(b9 ((r.length:Nat):Int) 2000&& !r.any fun p=> !bg p)):=by
  have z:b9 3 ((r.length:Nat):Int)=decide (3<=r.length):=decide_eq_decide.2 (by omega);have y:b9 ((r.length:Nat):Int) 2000=decide (r.length<=2000):=decide_eq_decide.2 (by omega);rw[agn,z,y];rfl
 refine aq.ofNZ aqn (bP ?_);rw[G];cases z:b9 3 ((r.length:Nat):Int) with
 |false=>simp only[go_sem,seval,h,e,z,ni]
 |true=>
  cases y:b9 ((r.length:Nat):Int) 2000 with
  |false=>simp only[go_sem,seval,h,e,z,y,ni]
  |true=>
   have H:r.length<=2000:=by simp only[b9,dE] at y;omega
   have F:=alY j w A (by omega) d.s (cap:=[]) (s:=s) (p:=fun p=> !bg p) fun x _=>aj1 u d x s;simp only[go_sem,seval,h,e,z,y,ni];refine co.of F (by decide) ?_;simp only[go_sem,seval]
variable{i:Nat}
def adk{r:List Pt}{p q:Pt}(e:r[i]? =some p)(d:r[(i+1) % r.length]? =some q):eE r i=(p,q):=by
 unfold eE;rw[e,d];rfl
variable{bx:Nat}{P:Nat->St->Prop}{D:St->Prop}{rv:aa}
def axc{r:List Pt}(J:au 2 aN rv r)(a7:r.length<=2000){n:Nat}(hb: ∀i s,P i s->s.get [] bx=some (.cells [rv]))(Y: ∀i s,P i s->s.gE<=s.aL)(S: ∀i s,i<r.length->P i s-> ∃v s',iI Q n [aI i,bO (eE r i)] s.top v s'/\(s'.ci=s.ci/\s.aL<=s'.aL/\((v= .bool true/\P (i+1) (s.GE s'))\/(v= .bool false/\D (s.GE s')))))(hx: ∀e lc s,P r.length s->K (.exit 0) ⟨e,27,lc⟩ s)(hd: ∀e lc s,D s->K .ret ⟨e,27,lc⟩ s):
 ∀(h d:List Pt) (e:aw) (lc:Ag.Loc) (s:St),r=d++h->P d.length s->ac e 0= .yld n->ac e 1= .ptr bx 0->ac e 5=rv->ac e 6=aI r.length->ac e 7=aI d.length->W Q 339 (.loop Pl) ⟨e,27,lc⟩ s K:=by
 intro h
 induction h with
 |nil=>
  intro d e lc s I z h0 w h5 N H;have B:d.length=r.length:=by rw[I];simp
  refine bm ?_;simp only[go_sem,seval,Pl,N,H,B,cq];exact hx _ _ _ (by rw[<-B];exact z)
 |cons p h ih=>
  intro d e lc s I z h0 w h5 N H;have A:d.length<r.length:=by rw[I];simp
  have G:r[d.length]? =some p:=by rw[I];simp
  have a0:=fun lc k=>J.at mR.2.2.1 G lc k;have x:=da (n:=d.length) (by omega);have j:0<r.length:=by omega
  have y:=acR (a:=d.length+1) (b:=r.length) j;obtain⟨q,hq⟩: ∃q,r[(d.length+1) % r.length]? =some q:=⟨_,gB (vV _ j)⟩;have F:=fun lc k=>J.at mR.2.2.1 hq lc k;have u:=adk G hq;have a2:=J.ge;have Z:=J.lenS mR;have a6:=hb _ _ z;have hm:=Y _ _ z;obtain⟨v,s1,O,a5,a4,a3⟩:=S d.length s A z;rw[u] at O;simp only[bO] at O;refine kB ?_;simp only[go_sem,seval,Pl,h5,N,H,A,a0,aN];refine gi hm ?_;simp only[go_sem,I6,seval,h0,w,H,x,a2,aP,a6,aQ,rg,Z,y,F,aN,bf,aZ,aW,aY,evc];refine GL.of O a5 a4 (by decide) (by simp[eh,l8]) ?_;rcases a3 with⟨rfl,U⟩|⟨rfl,a1⟩
  ·simp only[go_sem,I6,seval,H,x]
   refine ih (d++[p]) _ _ (s.GE s1) (by rw[I];simp) (by rw[de];exact U) ?_ ?_ ?_ ?_ ?_
   all_goals simp only[sN,seval,h0,w,h5,N,sA]
  simp only[go_sem,I6,seval];exact hd _ _ _ a1
def Br(A:No Q 339){r:List Pt}(u:au 2 aN rv r)(d:r.length<=2000){n:Nat}(F: ∀i s,P i s->s.get [] bx=some (.cells [rv]))(w: ∀i s,P i s->s.gE<=s.aL)(j: ∀i s,i<r.length->P i s-> ∃v s',iI Q n [aI i,bO (eE r i)] s.top v s'/\(s'.ci=s.ci/\s.aL<=s'.aL/\((v= .bool true/\P (i+1) (s.GE s'))\/(v= .bool false/\D (s.GE s')))))(B:P 0 s):
 ∃v s',aq Q 339 [.yld n,.ptr bx 0] s v s'/\(v= .tup []/\(P r.length s'\/D s')):=by
 have z:=F _ _ B;have x:=u.lenS mR;have y:=u.ge;refine aq.ofNRZ aqu (bP ?_);simp only[go_sem,seval,aP,z,aQ,rg,x,y];refine axc u d F w j ?_ ?_ r [] _ _ s rfl B ?_ ?_ ?_ ?_ ?_;intro e lc G h;simp only[go_sem,seval];exact⟨_,rfl,rfl,.inl h⟩;intro e lc G h;simp only[go_sem,seval];exact⟨_,rfl,rfl,.inr h⟩
 all_goals simp only[sN,seval,ct]
 all_goals rfl
def Bq(e:No Q 235){r:List Pt}(h:au 2 aN rv r)(s:St):aq Q 235 [rv] s (.func (.func 339) [] [.ptr s.aL 0]) (s.new (.cells [rv])):=by
 have d:=h.cs;refine aq.ofNZ apR (bP ?_);simp only[go_sem,seval,d,adY]
noncomputable abbrev mI(E:aw)(x:Option Ex):aJ:=.loop 229 E 54 [21,22] Fc Fe x
def aeM{a b:Nat}(h:b<=a)(j:a<=100000):IntKind.i64.wrap (((a:Nat):Int)-((b:Nat):Int))=((a-b:Nat):Int):=by
 have e:mS ((a:Nat):Int)=true:=by unfold mS;simp only[bq,dE];omega
 have d:mS ((b:Nat):Int)=true:=by unfold mS;simp only[bq,dE];omega
 rw[KF e d];omega
def XI(a b:Nat):an ((a:Nat):Int) ((b:Nat):Int)=(a==b):=by
 rw[GN];simp only[an,bE];omega
def Bh{r:List Pt}(d:r.all bg=true)(e:i<r.length):bg (eE r i).1=true/\bg (eE r i).2=true:=by
 have h:=fD.1 d;have j:(i+1) % r.length<r.length:=vV _ (by omega);unfold eE;rw[gB e,gB j];exact⟨h _ (zS _),h _ (zS _)⟩
structure gM (r:List Pt) (i:Nat) (s0 s:St):Prop where
 old: ∀j,j<s0.aL->s.get [] j=s0.get [] j
 mw:s.gE<=s.aL
 lt:s0.aL<s.aL
 ci:s.ci=s0.ci
variable{b2 b3 b4 b5:Nat}{E:aw}
def axh(h:Q.spec 225=some kX){r:List Pt}(a7:r.length<=2000)(hn:r.all bg=true)(hi:i<r.length){s0:St}(a0:s0.get [] b2=some (.cells [.bool false]))(a6:s0.get [] b3=some (.cells [aI r.length]))(a5:s0.get [] b4=some (.cells [aI i]))(a4:s0.get [] b5=some (.cells (bO (eE r i)).cells))(l2:b2<s0.aL)(l3:b3<s0.aL)(l4:b4<s0.aL)(l5:b5<s0.aL)(e2:ac E 2= .ptr b2 0)(e3:ac E 3= .ptr b3 0)(Y:ac E 4= .ptr b4 0)(e5:ac E 5= .ptr b5 0){k:Nat}(hk:k<r.length)(a2:k<=i)(hI:gM r i s0 s)(hl:s.get [] s0.aL=some (mI E none)):
 ∃v s',iI Q s0.aL [aI k,bO (eE r k)] s.top v s'/\(s'.ci=s.ci/\s.aL<=s'.aL/\gM r i s0 (s.GE s')/\((v= .bool true/\s'.get [] s0.aL=some (mI E none)/\k<i/\nI r i k=true)\/(v= .bool false/\((s'.get [] s0.aL=some (mI E (some (.exit 2)))/\k=i)\/(s'.get [] s0.aL=some (mI E (some .ret))/\k<i/\nI r i k=false))))):=by
 obtain⟨n1,n2⟩:=Bh hn hi;obtain⟨n3,n4⟩:=Bh hn hk;have G:=Qb n1 n2 n3 n4;have a8:=hI.lt;have a1:=hI.mw;refine iI.any (ca:=O5) (cb:=wN) (show s.top.get [] s0.aL=_ from hl) rfl rfl apI apK ?_;refine bP ?_;obtain⟨w,hw⟩:=bZ (s.top.put s0.aL none);have wn:w.aL=s.aL:=by rw[<-hw];rfl
 have wo: ∀j,j≠s0.aL->w.get [] j=s.get [] j:=fun j U=>by rw[<-hw,aU,bN.2 U];rfl
 obtain⟨z,O⟩:=bZ ((w.new (.cells [ag 0,ag 0,ag 0,ag 0])).put w.aL (some (.cells (bO (eE r k)).cells)));simp only[bO,lO] at O;have a3:(w.new (.cells [ag 0,ag 0,ag 0,ag 0])).get [] w.aL=some (.cells [ag 0,ag 0,ag 0,ag 0]):=cH;simp only[go_sem,seval,O5,bO,hw,cS,a3,cV,O,bf,aZ,aW,aY,evc];have zn:z.aL=s.aL+1:=by rw[<-O,<-wn];rfl
 have zc:z.ci=s.ci:=by rw[<-O,<-hw];rfl
 have zm:z.gE<=z.aL:=by
  rw[<-O];exact cU _ _ _ (by show w.gE<=w.aL+1;rw[<-hw];exact bW (cU s.top _ _ (bj _)))
 have I:z.get [] w.aL=some (.cells (bO (eE r k)).cells):=by rw[<-O,aU,bS];rfl
 have H: ∀j,j<s0.aL->z.get [] j=s0.get [] j:=fun j U=>by
  rw[<-O,aU,bN.2 (by omega:j≠w.aL),cF,cr (by omega),wo j (by omega)];exact hI.old j U
 have z2:=(H b2 l2).trans a0;have Z:=(H b3 l3).trans a6;have N:=(H b4 l4).trans a5;have J:=(H b5 l5).trans a4;have fin: ∀(F:St) (o:Option Ex),(∀j,j<s0.aL->F.get [] j=s0.get [] j)->F.aL=s.aL+1->F.ci=s.ci->F.gE<=F.aL->(F.put s0.aL (some (mI E o))).ci=s.ci/\s.aL<=(F.put s0.aL (some (mI E o))).aL/\gM r i s0 (s.GE (F.put s0.aL (some (mI E o))))/\(F.put s0.aL (some (mI E o))).get [] s0.aL=some (mI E o):=fun F o q1 q2 q3 q4=>by
  have qn:(F.put s0.aL (some (mI E o))).aL=s.aL+1:=q2;refine⟨q3,by omega,⟨fun j U=>?_,pL a1 (by omega),?_,?_⟩,by rw[aU,bS];rfl⟩;rw[lR,aU,bN.2 (by omega:j≠s0.aL)];exact q1 j U;show s0.aL<(F.put s0.aL (some (mI E o))).aL;omega;exact q3.trans hI.ci
 obtain⟨M,hM⟩:=bZ (jj (eE r i) (eE r k));rw[hM] at G;have u:nI r i k=bif(an ((i-k:Nat):Int) 1||an ((i-k:Nat):Int) ((r.length-1:Nat):Int)) then an M 1 else an M 0:=by
  have h1:an ((i-k:Nat):Int) 1=(i-k==1):=XI (i-k) 1;unfold nI;rw[hM,h1,XI]
 have B:=aeM a2 (by omega);have A:IntKind.i64.wrap (((r.length:Nat):Int)-1)=((r.length-1:Nat):Int):=aeM (a:=r.length) (b:=1) (by omega) (by omega);refine bP ?_;simp only[bO,lO] at G J I;by_cases hE:k=i;subst hE;have x:b9 ((k:Nat):Int) ((k:Nat):Int)=true:=by simp[b9]
 simp only[go_sem,seval,wN,Y,N,aP,aQ,ni,x,ji,jl];obtain⟨f1,f2,f3,f4⟩:=fin z (some (.exit 2)) H zn zc zm;exact⟨f1,f2,f3,.inr (.inl f4)⟩;have d:k<i:=by omega
 have x:b9 ((i:Nat):Int) ((k:Nat):Int)=false:=by simp only[b9,decide_eq_false_iff_not];omega
 obtain⟨y,S⟩:=bZ (z.put b2 (some (.cells [.bool false])));have yn:y.aL=s.aL+1:=by rw[<-S];exact zn
 have yc:y.ci=s.ci:=by rw[<-S];exact zc
 have ym:y.gE<=y.aL:=by rw[<-S];exact cU _ _ _ zm
 have yo: ∀j,j<s0.aL->y.get [] j=s0.get [] j:=fun j U=>by
  rw[<-S,aU];cases e:j==b2 with
  |true=>
   have:=eq_of_beq e;subst this;exact a0.symm
  |false=>exact H j U
 obtain⟨f1,f2,f3,f4⟩:=fin z none H zn zc zm;obtain⟨g1,g2,g3,g4⟩:=fin y (some .ret) yo yn yc ym;cases c1:an ((i-k:Nat):Int) 1 with
 |true=>
  rw[c1,Bool.true_or,cT] at u;cases c3:an M 1 with
  |true=>
   simp only[go_sem,seval,wN,e2,e3,Y,e5,z2,Z,N,J,I,aP,aQ,ni,x,ji,jl,h,G,bF,B,A,c1,c3];exact⟨f1,f2,f3,.inl ⟨f4,d,by rw[u,c3]⟩⟩
  |false=>
   simp only[go_sem,seval,wN,e2,e3,Y,e5,z2,Z,N,J,I,aP,aQ,ni,x,ji,jl,h,G,bF,B,A,c1,c3,cS,cV,S];exact⟨g1,g2,g3,.inr (.inr ⟨g4,d,by rw[u,c3]⟩)⟩
 |false=>
  cases c2:an ((i-k:Nat):Int) ((r.length-1:Nat):Int) with
  |true=>
   rw[c1,c2,jV,cT] at u;cases c3:an M 1 with
   |true=>
    simp only[go_sem,seval,wN,e2,e3,Y,e5,z2,Z,N,J,I,aP,aQ,ni,x,ji,jl,h,G,bF,B,A,c1,c2,c3];exact⟨f1,f2,f3,.inl ⟨f4,d,by rw[u,c3]⟩⟩
   |false=>
    simp only[go_sem,seval,wN,e2,e3,Y,e5,z2,Z,N,J,I,aP,aQ,ni,x,ji,jl,h,G,bF,B,A,c1,c2,c3,cS,cV,S];exact⟨g1,g2,g3,.inr (.inr ⟨g4,d,by rw[u,c3]⟩)⟩
  |false=>
   rw[c1,c2,jV,cF] at u;cases c3:an M 0 with
   |true=>
    simp only[go_sem,seval,wN,e2,e3,Y,e5,z2,Z,N,J,I,aP,aQ,ni,x,ji,jl,h,G,bF,B,A,c1,c2,c3];exact⟨f1,f2,f3,.inl ⟨f4,d,by rw[u,c3]⟩⟩
   |false=>
    simp only[go_sem,seval,wN,e2,e3,Y,e5,z2,Z,N,J,I,aP,aQ,ni,x,ji,jl,h,G,bF,B,A,c1,c2,c3,cS,cV,S];exact⟨g1,g2,g3,.inr (.inr ⟨g4,d,by rw[u,c3]⟩)⟩
def axi(u:No Q 339)(y:Q.spec 225=some kX){r:List Pt}(hr:au 2 aN rv r)(d:r.length<=2000)(hn:r.all bg=true)(hi:i<r.length){s0:St}(I:s0.get [] bx=some (.cells [rv]))(S:s0.get [] b2=some (.cells [.bool false]))(O:s0.get [] b3=some (.cells [aI r.length]))(N:s0.get [] b4=some (.cells [aI i]))(J:s0.get [] b5=some (.cells (bO (eE r i)).cells))(lx:bx<s0.aL)(l2:b2<s0.aL)(l3:b3<s0.aL)(l4:b4<s0.aL)(l5:b5<s0.aL)(e2:ac E 2= .ptr b2 0)(e3:ac E 3= .ptr b3 0)(e4:ac E 4= .ptr b4 0)(e5:ac E 5= .ptr b5 0)(G:s0.gE<=s0.aL):
 ∃v s',aq Q 339 [.yld s0.aL,.ptr bx 0] (s0.new (mI E none)) v s'/\(v= .tup []/\gM r i s0 s'/\((s'.get [] s0.aL=some (mI E (some (.exit 2)))/\ ∀k,k<i->nI r i k=true)\/(s'.get [] s0.aL=some (mI E (some .ret))/\ ∃k,k<i/\nI r i k=false))):=by
 obtain⟨v,s',w,rfl,h⟩:=Br u hr d (bx:=bx) (n:=s0.aL) (P:=fun k s=>gM r i s0 s/\s.get [] s0.aL=some (mI E none)/\k<=i/\ ∀j,j<k->nI r i j=true) (D:=fun s=>gM r i s0 s/\((s.get [] s0.aL=some (mI E (some (.exit 2)))/\ ∀k,k<i->nI r i k=true)\/(s.get [] s0.aL=some (mI E (some .ret))/\ ∃k,k<i/\nI r i k=false))) (fun k s h=>(h.1.old bx lx).trans I) (fun k s h=>h.1.mw) (fun k s hk ⟨hI,hl,H,x⟩=>by
  obtain⟨v,s',q1,q2,Z,F,Y⟩:=axh y d hn hi S O N J l2 l3 l4 l5 e2 e3 e4 e5 hk H hI hl;refine⟨v,s',q1,q2,Z,?_⟩;rcases Y with⟨rfl,z,B,U⟩|⟨rfl,⟨z,B⟩|⟨z,B,U⟩⟩
  refine .inl ⟨rfl,F,z,by omega,fun j A=>?_⟩;by_cases e:j=k;subst e;exact U;exact x j (by omega);subst B;exact .inr ⟨rfl,F,.inl ⟨z,x⟩⟩;exact .inr ⟨rfl,F,.inr ⟨z,k,B,U⟩⟩) (s:=s0.new (mI E none)) ⟨⟨fun j A=>cr A,bW G,jX _,rfl⟩,cH,jY _,fun j A=>absurd A (Nat.not_lt_zero _)⟩
 refine⟨_,s',w,rfl,?_⟩;rcases h with⟨_,_,h,_⟩|h
 omega;exact h
noncomputable abbrev qT(E:aw)(x:Option Ex):aJ:=.loop 229 E 54 [17,18] Fd Ff x
def rU:tF ah 339=true:=by kernel_rfl
def vu{r:List Pt}(h:au 2 aN rv r):jB rv=true:=by
 rcases h with⟨rfl,_⟩|⟨_,rfl⟩<;>rfl
def axg(e:No Q 339)(z:Q.spec 225=some kX){r:List Pt}(hr:au 2 aN rv r)(u:r.length<=2000)(hn:r.all bg=true)(hi:i<r.length){s0:St}(I:s0.get [] bx=some (.cells [rv]))(S:s0.get [] b2=some (.cells [.bool false]))(O:s0.get [] b3=some (.cells [aI r.length]))(N:s0.get [] b4=some (.cells [aI i]))(J:s0.get [] b5=some (.cells (bO (eE r i)).cells))(lx:bx<s0.aL)(l2:b2<s0.aL)(l3:b3<s0.aL)(l4:b4<s0.aL)(l5:b5<s0.aL)(e2:ac E 2= .ptr b2 0)(e3:ac E 3= .ptr b3 0)(e4:ac E 4= .ptr b4 0)(e5:ac E 5= .ptr b5 0)(A:ac E 20= .func (.func 339) [] [.ptr bx 0])(Z:E.all jB=true)(G:s0.gE<=s0.aL)(Y: ∀x U,gM r i s0 U->((x= .exit 2/\ ∀k,k<i->nI r i k=true)\/(x= .ret/\ ∃k,k<i/\nI r i k=false))->K x ⟨E,54,[]⟩ U):W Q 229 (.rfun (.tmp 20) [21,22] Fc Fe) ⟨E,54,[]⟩ s0 K:=by
 obtain⟨v,s',d,rfl,B,h⟩:=axi e z hr u hn hi I S O N J lx l2 l3 l4 l5 e2 e3 e4 e5 G;have y:gM r i s0 (s'.put s0.aL none):=⟨fun j hj=>by rw[aU,bN.2 (by omega:j≠s0.aL)];exact B.old j hj,cU _ _ _ B.mw,B.lt,B.ci⟩;rcases h with⟨H,F⟩|⟨H,w⟩
 exact W.rfun (h:=339) (first:=[]) (captured:=[.ptr bx 0]) (v:=.tup []) (s1:=s') (by simp only[dA,A]) (by rw[Std.P,rU,Yv,Z];rfl) d H (Y _ _ y (.inl ⟨rfl,F⟩));exact W.rfun (h:=339) (first:=[]) (captured:=[.ptr bx 0]) (v:=.tup []) (s1:=s') (by simp only[dA,A]) (by rw[Std.P,rU,Yv,Z];rfl) d H (Y _ _ y (.inr ⟨rfl,w⟩))
def axe(I:No Q 339)(J:No Q 235)(U:Q.spec 225=some kX){r:List Pt}(Y:au 2 aN rv r)(O:r.length<=2000)(hn:r.all bg=true)(hi:i<r.length){s0:St}(a7:s0.get [] bx=some (.cells [rv]))(a9:s0.get [] b2=some (.cells [.bool false]))(a8:s0.get [] b3=some (.cells [aI r.length]))(lx:bx<s0.aL)(l2:b2<s0.aL)(l3:b3<s0.aL)(e1:ac E 1= .ptr bx 0)(e2:ac E 2= .ptr b2 0)(e3:ac E 3= .ptr b3 0)(hE:E.all jB=true)(Z:gM r 0 s0 s)(hl:s.get [] s0.aL=some (qT E none)):
 ∃v s',iI Q s0.aL [aI i,bO (eE r i)] s.top v s'/\(s'.ci=s.ci/\s.aL<=s'.aL/\gM r 0 s0 (s.GE s')/\((v= .bool true/\s'.get [] s0.aL=some (qT E none)/\ ∀k,k<i->nI r i k=true)\/(v= .bool false/\s'.get [] s0.aL=some (qT E (some .ret))/\ ∃k,k<i/\nI r i k=false))):=by
 have b0:=Z.lt;have a3:=Z.mw;have a6:=Y.ge;refine iI.any (ca:=O6) (cb:=O7) (show s.top.get [] s0.aL=_ from hl) rfl rfl apJ apL ?_;refine bP ?_;obtain⟨w,N⟩:=bZ (s.top.put s0.aL none);have wn:w.aL=s.aL:=by rw[<-N];rfl
 have wc:w.ci=s.ci:=by rw[<-N];rfl
 have wo: ∀j,j≠s0.aL->w.get [] j=s.get [] j:=fun j d=>by rw[<-N,aU,bN.2 d];rfl
 have wm:w.gE<=w.aL:=by rw[<-N];exact cU s.top _ _ (bj _)
 obtain⟨z,G⟩:=bZ ((w.new (.cells [ag 0])).put w.aL (some (.cells [aI i])));have zn:z.aL=s.aL+1:=by rw[<-G,<-wn];rfl
 have zm:z.gE<=z.aL:=by rw[<-G];exact cU _ _ _ (bW wm)
 have zk:z.get [] w.aL=some (.cells [aI i]):=by rw[<-G,aU,bS];rfl
 have zo: ∀j,j<w.aL->z.get [] j=w.get [] j:=fun j d=>by rw[<-G,aU,bN.2 (by omega:j≠w.aL),cF,cr d]
 obtain⟨y,B⟩:=bZ ((z.new (.cells [ag 0,ag 0,ag 0,ag 0])).put z.aL (some (.cells (bO (eE r i)).cells)));have yn:y.aL=s.aL+2:=by
  rw[<-B];show z.aL+1=_;omega
 have ym:y.gE<=y.aL:=by rw[<-B];exact cU _ _ _ (bW zm)
 have yk:y.get [] z.aL=some (.cells (bO (eE r i)).cells):=by rw[<-B,aU,bS];rfl
 have yo: ∀j,j<z.aL->y.get [] j=z.get [] j:=fun j d=>by rw[<-B,aU,bN.2 (by omega:j≠z.aL),cF,cr d]
 have yc:y.ci=s.ci:=by rw[<-B,<-G];exact wc
 have h: ∀j,j<s0.aL->y.get [] j=s0.get [] j:=fun j d=>by rw[yo j (by omega),zo j (by omega),wo j (by omega)];exact Z.old j d
 have a0:=(h bx lx).trans a7;simp only[bO,lO] at B;have a5:(w.new (.cells [ag 0])).get [] w.aL=some (.cells [ag 0]):=cH;have a4:(z.new (.cells [ag 0,ag 0,ag 0,ag 0])).get [] z.aL=some (.cells [ag 0,ag 0,ag 0,ag 0]):=cH;simp only[go_sem,seval,O6,bO,N,cS,a5,a4,cV,G,B,bf,aZ,aW,aY,evc];refine bP ?_;have A:=Bq J Y y;obtain⟨x,H⟩:=bZ (y.new (.cells [rv]));have xn:x.aL=s.aL+3:=by
  rw[<-H];show y.aL+1=_;omega
 have xm:x.gE<=x.aL:=by rw[<-H];exact bW ym
 have xc:x.ci=s.ci:=by rw[<-H];exact yc
 have xk:x.get [] y.aL=some (.cells [rv]):=by rw[<-H];exact cH
 have xo: ∀j,j<y.aL->x.get [] j=y.get [] j:=fun j d=>by rw[<-H,cr d]
 have e: ∀j,j<s0.aL->x.get [] j=s0.get [] j:=fun j d=>(xo j (by omega)).trans (h j d);rw[H] at A;simp only[go_sem,seval,O7,e1,a0,aP,aQ,rg,a6];refine co.of A (by decide) ?_;simp only[go_sem,seval];have a1:=vu Y;refine axg I U Y O hn hi (bx:=y.aL) (b2:=b2) (b3:=b3) (b4:=w.aL) (b5:=z.aL) (s0:=x) xk ((e b2 l2).trans a9) ((e b3 l3).trans a8) ?_ ?_ (by omega) (by omega) (by omega) (by omega) (by omega) ?_ ?_ ?_ ?_ ?_ ?_ xm ?_;rw[xo _ (by omega),yo _ (by omega)];exact zk;rw[xo _ (by omega)];exact yk;simp only[sN,seval,e2];simp only[sN,seval,e3];simp only[sN,seval];simp only[sN,seval];simp only[sN,seval];exact aD.all_set (aD.all_set (aD.all_set (aD.all_set (aD.all_set (aD.all_set hE rfl) rfl) rfl) rfl) a1) rfl;intro ex u F hc;have n2:=F.lt;have g1: ∀(o:Option Ex),(u.put s0.aL (some (qT E o))).ci=s.ci/\s.aL<=(u.put s0.aL (some (qT E o))).aL/\gM r 0 s0 (s.GE (u.put s0.aL (some (qT E o))))/\(u.put s0.aL (some (qT E o))).get [] s0.aL=some (qT E o):=fun o=>by
  have qn:(u.put s0.aL (some (qT E o))).aL=u.aL:=rfl;have qc:(u.put s0.aL (some (qT E o))).ci=s.ci:=F.ci.trans xc;refine⟨qc,by omega,⟨fun j d=>?_,pL a3 (by omega),?_,qc.trans Z.ci⟩,by rw[aU,bS];rfl⟩;rw[lR,aU,bN.2 (by omega:j≠s0.aL)];exact(F.old j (by omega)).trans (e j d);show s0.aL<u.aL;omega
 rcases hc with⟨rfl,a2⟩|⟨rfl,S⟩
 obtain⟨f1,f2,f3,f4⟩:=g1 none;exact⟨f1,f2,f3,.inl ⟨rfl,f4,a2⟩⟩;obtain⟨f1,f2,f3,f4⟩:=g1 (some .ret);exact⟨f1,f2,f3,.inr ⟨rfl,f4,S⟩⟩
