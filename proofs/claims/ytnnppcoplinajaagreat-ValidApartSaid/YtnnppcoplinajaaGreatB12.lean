/- Lemmas for ValidApart. -/
import Derived.Test.YtnnppcoplinajaaGreatB10
import Derived.Test.YtnnppcoplinajaaGreatB6
import Derived.Test.YtnnppcoplinajaaGreatB11
import Derived.Test.YtnnppcoplinajaaGreatB9
import Derived.Test.YtnnppcoplinajaaGreatAg3
import Derived.Test.YtnnppcoplinajaaGreatB5
set_option linter.all false
open Bool renaming and_eq_true→bu,and_false→gN,and_self→cw,and_true→je,false_or→kg,not_eq_true'→awP,not_true→fp,true_and→eH
open Int renaming toNat_of_nonneg→K8
open List renaming all_cons→ju,all_eq_true→f8,append_assoc→ny,append_nil→kC,cons_append→lY,drop_eq_nil_of_le→G3,drop_zero→nz,drop→bP,ext_getElem→G4,filterMap_cons→xQ,finRange→ux,foldl_cons→uA,getD_eq_getElem?_getD→nA,getElem?_cons_succ→jO,getElem?_cons_zero→iw,getElem?_eq_getElem→gn,getElem?_eq_some_iff→nY,getElem?_map→jf,getElem?_take→G6,getElem_mem→xR,getElem_of_mem→G7,length_append→cJ,length_cons→bH,length_filter_le→kT,length_map→ce,length_nil→bn,length_range→DU,length_set→G8,length_tail→xS,map_append→ff,map_congr_left→DW,map_cons→fy,map_eq_nil_iff→xT,map_map→mI,mem_append→lj,mem_cons_of_mem→iE,mem_cons_self→iL,mem_cons→fc,mem_filter→DX,mem_flatMap→uC,mem_map→dy,mem_of_getElem?→eP,mem_range→uD,mem_singleton→BB,nodup_nil→BC,not_mem_nil→zT,of_mem_zip→ay7,pairwise_append→azm,pairwise_map→Ha,range→ix,replicate→iy,take_of_length_le→re,take→df
open Nat renaming beq→aQ,ble_eq_true_of_le→cP,ble→bw,blt→bm,eq_of_beq_eq_true→jP,le_refl→br,le_succ_of_le→cq,le_succ→jQ,le_trans→fA,lt_irrefl→cD,lt_succ_self→kU,mod_lt→uF,mul_le_mul→rf,not_lt_zero→Hb,reduceAdd→bQ,reduceBEq→ah,reduceDiv→eR,reduceEqDiff→eI,reduceLT→aB,reduceLeDiff→cK,reduceMod→ep,reduceMul→ee,reducePow→uO,reduceSub→ey,zero_add→bV,zero_le→ki
open Option renaming bind_eq_some_iff→ak,bind_some→au,map_eq_some_iff→uH,map_none→sF,map_some→kn
open Option.some renaming injEq→aJ
open Prod.mk renaming injEq→bI
open Go.Proofs.Tryz renaming prog→ae
open Go.Ag.W renaming drawX→iT,loopC→bG,loopE→lk,rfun→oS
open Go.Ag.WC renaming sound→co
namespace Go.Proofs.YtnnppcoplinajaaGreat
open Go.Ag
open Go.Sort (SWO)
variable{α:Type}
def KO{d:α->α->Int}(k:α->Int×Int)(h: ∀x y,d x y<0↔((k x).1<(k y).1\/((k x).1=(k y).1/\(k x).2<(k y).2))):SWO (ltOf d) where
 irrefl x:=by
  simp only[ltOf,decide_eq_false_iff_not,h];omega
 trans x y z h1 h2:=by
  simp only[ltOf,dE,h] at*;omega
 ntrans x y z h1 h2:=by
  simp only[ltOf,decide_eq_false_iff_not,h] at*;omega
def J6{a b c d:Int}:mz [jx a b,c-d]<0↔(a<b\/(a=b/\c<d)):=by
 rw[Pq];unfold jx;by_cases h1:a<b;simp[bc,an,h1];by_cases h2:b<a;have: ¬a=b:=by omega
 simp[bc,an,h1,h2,this];have:a=b:=by omega
 subst this;simp[bc,an];omega
def F8{a b c d:Int}:mz [a-b,c-d]<0↔(a<b\/(a=b/\c<d)):=by
 rw[Pq];cases h:an (a-b) 0 with
 |true=>
  have:a-b=0:=by simpa[an] using h
  simp only[cT];omega
 |false=>
  have:a-b≠0:=by simpa[an] using h
  simp only[cF];omega
def eT{α:Type}(e:α->α->Int)(d:α)(l:List α)(i j:Nat):Int:=e (l.getD i d) (l.getD j d)
def kA{α:Type}(e:α->α->Int)(d:α)(l:List α):List α:=(xy (eT e d l) l.length).map fun i=>l[i]
def xH(j:α->α->Int)(d:α)(l:List α):(kA j d l).Perm l:=by
 have h:=(Ps (eT j d l) l.length).map fun i=>l[i];have e:(ux l.length).map (fun i=>l[i])=l:=by
  refine G4 (by simp) fun i w u=>?_;simp
 rwa [e] at h
def Qi(e:α->α->Int)(d:α)(enc:α->aa)(l:List α):xI (eT e d l) (l.map enc)=(kA e d l).map enc:=by
 unfold xI kA;rw[mI];have w:(l.map enc).length=l.length:=ce ..;rw[show(xy (eT e d l) (l.map enc).length).map (fun i=>(l.map enc)[i])=(xy (eT e d l) l.length).map (enc ∘ fun i=>l[i]) from ?_];have gen: ∀n (u:n=l.length) (r:List aa) (j:r.length=n) (h: ∀i (y:i<r.length) (x:i<l.length),r[i]=enc l[i]),(xy (eT e d l) n).map (fun i=>r[i.1]'(by rw[j];exact i.2))=(xy (eT e d l) l.length).map (enc ∘ fun i=>l[i]):=by
  intro n u r j h;subst u;refine DW fun i _=>?_;exact h i _ _
 exact gen _ w (l.map enc) rfl fun i y x=>by simp
def KD(e:α->α->Int)(d:α)(l:List α)(u:SWO (ltOf fun x y:Fin l.length=>eT e d l x y)):(kA e d l).Pairwise fun a b=> ¬e b a<0:=by
 unfold kA;rw[Ha];have w:=List.pairwise_mergeSort (le:=fun i j:Fin l.length=> !(ltOf fun x y:Fin l.length=>eT e d l x y) j i) (fun a b c A z=>by
  simp only[awP] at*;exact u.ntrans _ _ _ z A) (fun a b=>by
  simp only[Bool.or_eq_true,awP];cases h:(ltOf fun x y:Fin l.length=>eT e d l x y) b a with
  |false=>exact .inl rfl
  |true=>
   right;cases h':(ltOf fun x y:Fin l.length=>eT e d l x y) a b with
   |false=>rfl
   |true=>
    have:=u.trans _ _ _ h h';rw[u.irrefl] at this;cases this) (ux l.length)
 refine w.imp fun {i j} h=>?_;simp only[awP,ltOf,decide_eq_false_iff_not,eT] at h;simpa[nA] using h
noncomputable def uY{α:Type}(enc:α->aa)(cs:List aa):Option (List α):=by
 classical exact if h: ∃l:List α,cs=aF (l.map enc) then some h.choose else none
def Mw{enc:α->aa}{cs:List aa}{l:List α}(h:uY enc cs=some l):cs=aF (l.map enc):=by
 unfold uY at h;split at h;rename_i d;injection h with h;subst h
 exact d.choose_spec;cases h
def HQ{enc:α->aa}{k:Nat}(d: ∀a,(enc a).cells.length=k)(z:0<k)(hi: ∀a b,(enc a).cells=(enc b).cells->a=b)(l:List α):uY enc (aF (l.map enc))=some l:=by
 have j: ∃r:List α,aF (l.map enc)=aF (r.map enc):=⟨l,rfl⟩;unfold uY;rw[dif_pos j];have e: ∀(l r:List α),aF (l.map enc)=aF (r.map enc)->r=l:=by
  intro l
  induction l with
  |nil=>
   intro r h;cases r with
   |nil=>rfl
   |cons y r=>
    have:=congrArg List.length h;simp only[List.map_nil,fy,aF,bn,cJ,d] at this;omega
  |cons x l w=>
   intro r h;cases r with
   |nil=>
    have:=congrArg List.length h;simp only[List.map_nil,fy,aF,bn,cJ,d] at this;omega
   |cons y r=>
    simp only[fy,aF] at h;have u:=List.append_inj h (by rw[d,d]);rw[hi _ _ u.1,w r u.2]
 exact congrArg some (e l _ j.choose_spec)
noncomputable def xG{α:Type}(enc:α->aa)(h:α->α->Int)(d:α)(e:List α->Bool)(cs:List aa):Option (List aa):=(uY enc cs).bind fun l=>bif e l then some (aF ((kA h d l).map enc)) else none
noncomputable def xJ{α:Type}(enc:α->aa)(h:α->α->Int)(d:α)(e:List α->Bool)(k g:Nat):List aa->Option pH
 | [.arr k' m 0 len _,.func (.func g') [] []]=>bif aQ k' k&&aQ g' g then some (some (m,fun cs=>t6 (bif aQ cs.length (len*k) then xG enc h d e cs else none))) else none
 | [.oZ,.func (.func g') [] []]=>bif aQ g' g then some none else none
 |_=>none
variable{f:Nat}
def aav{enc:α->aa}{I:α->α->Int}{d:α}{ok:List α->Bool}{k g:Nat}{ρ:Go.Shelf.Ren}(L:SlLaysF0.n6 ae ρ)(hf:ρ.f 6=f)(aE: ∀w,(isAgg (ρ.t 24)).run ae w= .ok true w)(zE: ∀w,(Go.sizeOf (ρ.t 24)).run ae w= .ok k w)(ef: ∀A w,(callFunc f A).run ae w= .ok (.enter f A) w)(eg: ∀A w,(callFunc g A).run ae w= .ok (.enter g A) w){sp:Sp}(a2:db ae g sp)(hk: ∀a,(enc a).cells.length=k)(ha: ∀a,enc a= .agg (enc a).cells)(a1:0<k)(hz: ∀a h,fY h (enc a) (enc a))(a5: ∀l,ok l=true->l.length<=1000000/\(∀(i j:Nat) (x y:α),l[i]? =some x->l[j]? =some y->sp [enc x,enc y]=some (.int .i64 (I x y)))/\(SWO (ltOf fun x y:Fin l.length=>eT I d l x y))/\(∀x y:Fin l.length,(ltOf fun x y:Fin l.length=>eT I d l x y) x y=false->(ltOf fun x y:Fin l.length=>eT I d l x y) y x=false->x=y)):
 uN f (xJ enc I d ok k g):=by
 subst hf;intro A G h w xs wr hx;refine⟨fun B=>?_,fun n gf cs a7 B hl H=>?_⟩
 ·unfold xJ at B
  split at B;obtain⟨_,B⟩:=bh B;cases B
  ·cases hx with
   |cons p q=>
   cases q with
   |cons q r=>
   cases r;cases p;cases q with
   |func q1 q2=>
   cases q1;cases q2;refine .inr ⟨ef _ _,(AnyF.slices_SortFunc_none L none 0 _ w).mono ?_⟩;rintro e w' ⟨rfl,rfl⟩;exact⟨_,rfl,G,wr,.refl,.tup .nil⟩
  cases B
 ·unfold xJ at B
  split at B
  ·rename_i k' m len O g'
   have hb:=(bh B).1;have Z:=(bh B).2;clear B;simp only[bu] at hb;have S:=jP hb.1;have N:=jP hb.2;subst S;subst N;injection Z with Z;injection Z with Z;injection Z with a4 a3
   subst a4;subst a3;have H:=Gl H;obtain⟨F,H⟩:=bh H;have F:=jP F;simp only[xG,ak] at H;obtain⟨l,h1,H⟩:=H;obtain⟨h2,H⟩:=bh H;have H:=(sI H).symm;subst H;have a6:=Mw h1;subst a6;have a0: ∀v∈l.map enc,v.cells.length=k'/\v= .agg v.cells:=fun v hv=>by
    obtain⟨a,_,rfl⟩:=dy.1 hv;exact⟨hk a,ha a⟩
   have U:l.length=len:=by
    rw[oG (fun v hv=>(a0 v hv).1),ce] at F;exact Nat.eq_of_mul_eq_mul_right a1 F
   obtain⟨q1,q2,q3,q4⟩:=a5 l h2;cases hx with
   |cons p q=>
   cases q with
   |cons q r=>
   cases r;cases q with
   |func u1 u2=>
   cases u1;cases u2;have J:(l.map enc).length=l.length:=ce ..;have hy: ∀z,VR G (.arr k' m 0 len O) z->VR G (.arr k' m 0 (l.map enc).length O) z:=fun z hz=>by rw[J,U];exact hz
   have gen: ∀n (hn:n=l.length),SWO (ltOf fun x y:Fin n=>eT I d l x y)/\(∀x y:Fin n,(ltOf fun x y:Fin n=>eT I d l x y) x y=false->(ltOf fun x y:Fin n=>eT I d l x y) y x=false->x=y):=by
    intro n hn;subst hn;exact⟨q3,q4⟩
   have Y:=fun hO=>Qe L rfl aE zE ef eg a2 wr (rows:=l.map enc) (us:=l.map enc) hl a0 a1 rfl (fun i v u S N=>by
    rw[S] at N;injection N with N;subst N
    rw[jf,uH] at S;obtain⟨a,_,rfl⟩:=S;exact hz a _) (eT I d l) (fun i j u u' S N=>by
    rw[jf,uH] at S N;obtain⟨a,g1,rfl⟩:=S;obtain⟨b,g2,rfl⟩:=N;have e:eT I d l i j=I a b:=by
     unfold eT;rw[nA,nA,g1,g2];rfl
    rw[q2 i j a b g1 g2,e]) hO (gen _ J).2 (by rw[J];exact q1) (hy _ p)
   rw[Qi] at Y;exact Y (gen _ J).1
  obtain⟨_,B⟩:=bh B;cases B;cases B
def x6:aa->Option dg
 | .agg [.int .i64 i,.int .i64 a,.int .i64 b,.int .i64 c,.int .i64 d,.int .i64 lx,.int .i64 hx,.int .i64 ly,.int .i64 hy]=>
   bif lx==min a c&&(hx==max a c&&(ly==min b d&&hy==max b d)) then some (i,((a,b),(c,d))) else none
 |_=>none
variable{v:aa}
def Si{x:dg}(h:x6 v=some x):v=cX x:=by
 unfold x6 at h;split at h;obtain⟨d,h⟩:=bh h;injection h with h;subst h
 simp only[bu,bE] at d;obtain⟨rfl,rfl,rfl,rfl⟩:=d;rfl;cases h
def LL(x:dg):x6 (cX x)=some x:=by
 simp only[x6,cX,jz,jX,vh,qJ,qG,bS,cw,cT]
def Af:aa->Option Mt
 | .agg [.int .i64 a,.int .i64 b,.int .i64 c]=>some (a,b,c)
 |_=>none
def Sk{x:Mt}(h:Af v=some x):v=im x:=by
 unfold Af at h;split at h;injection h with h;subst h;rfl
 cases h
def LM(x:Mt):Af (im x)=some x:=rfl
def nh(n:Int):Bool:=decide (0<=n)&&decide (n<=1000000)
theorem KC{a b:Int}(e:nh a=true)(d:nh b=true):IntKind.i64.wrap (a-b)=a-b:=by
 grind [nh,iC]
def yj(x y:dg):Int:=mz [jx (jX x.2) (jX y.2),x.1-y.1]
def th(x y:Mt):Int:=mz [x.1-y.1,x.2.1-y.2.1]
def Mj:Sp
 | [u,v]=>(x6 u).bind fun x=>(x6 v).bind fun y=>bif nh x.1&&nh y.1 then some (cd (yj x y)) else none
 |_=>none
def Mm:Sp
 | [u,v]=>(Af u).bind fun x=>(Af v).bind fun y=>bif nh x.1&&(nh y.1&&(nh x.2.1&&nh y.2.1)) then some (cd (th x y)) else none
 |_=>none
def Lr:dX:=[(232,o5),(108,vA)]
def RR:dR Lr:=.cons HH (.cons Y1 .nil)
def aef:db ae 305 Mj:=by
 refine pC RR fun e u h=>?_;unfold Mj at h;split at h;simp only[ak] at h;obtain⟨x,w,y,j,h⟩:=h;obtain⟨d,h⟩:=bh h;simp only[bu] at d;have h:=sI h;subst h;rw[Si w,Si j];exact⟨rfl,_,_,aeg (sp:=fun f=>gL f Lr) rfl rfl rfl (KC d.1 d.2) (br _),rfl,⟨1,rfl⟩⟩;cases h
def aej:db ae 310 Mm:=by
 refine pC RR fun e u h=>?_;unfold Mm at h;split at h;simp only[ak] at h;obtain⟨x,w,y,j,h⟩:=h;obtain⟨d,h⟩:=bh h;simp only[bu] at d;have h:=sI h;subst h;rw[Sk w,Sk j];exact⟨rfl,_,_,aek (sp:=fun f=>gL f Lr) rfl rfl (KC d.1 d.2.1) (KC d.2.2.1 d.2.2.2) _,rfl,⟨1,rfl⟩⟩;cases h
noncomputable def FV(l:List dg):Bool:=by classical exact decide (l.length<=1000000/\(∀x∈l,nh x.1=true)/\(l.map (·.1)).Nodup)
noncomputable def FW(l:List Mt):Bool:=by classical exact decide (l.length<=1000000/\(∀x∈l,nh x.1=true/\nh x.2.1=true)/\(l.map fun m=>(m.1,m.2.1)).Nodup)
variable{β:Type}
theorem JK{k:α->β}{l:List α}(h:(l.map k).Nodup){i j:Nat}{x y:α}(hi:l[i]? =some x)(d:l[j]? =some y)(e:k x=k y):i=j:=by
 have w:(l.map k)[i]? =some (k x):=by rw[jf,hi];rfl
 have u:(l.map k)[j]? =some (k x):=by rw[jf,d,e];rfl
 grind [List.getElem?_inj]
def Cp{l:List α}{d:α}(i:Fin l.length):l.getD i d=l[i]:=by
 rw[nA];simp
noncomputable def Qf:=xJ cX yj (0,((0,0),(0,0))) FV 9 305
noncomputable def Qh:=xJ im th (0,0,0) FW 3 310
def aqX:uN 304 Qf:=by
 refine aav Tryz.sortF304 rfl Tryz.isAgg368 Tryz.sizeOf368 (Go.Proofs.enters_of Tryz.func304 (by kernel_rfl) rfl) (Go.Proofs.enters_of Tryz.func305 (by kernel_rfl) rfl) aef (fun _=>rfl) (fun _=>rfl) (by decide) (fun a h=>⟨2,rfl⟩) fun l d=>?_;simp only[FV,dE] at d;refine⟨d.1,fun i j x y z w=>?_,?_,?_⟩;have u:=d.2.1 x (eP z);have e:=d.2.1 y (eP w);simp only[akZ,Mj,LL,u,e,cw];rfl;exact KO (fun i:Fin l.length=>(jX (l.getD i (0,((0,0),(0,0)))).2,(l.getD i (0,((0,0),(0,0)))).1)) fun x y=>J6;intro x y u e;simp only[ltOf,decide_eq_false_iff_not,eT,yj,J6,Cp] at u e;exact Fin.ext (JK d.2.2 (i:=x) (j:=y) (x:=l[x]) (y:=l[y]) (by simp) (by simp) (by omega))
def aq0:uN 309 Qh:=by
 refine aav Tryz.sortF309 rfl Tryz.isAgg290 Tryz.sizeOf290 (Go.Proofs.enters_of Tryz.func309 (by kernel_rfl) rfl) (Go.Proofs.enters_of Tryz.func310 (by kernel_rfl) rfl) aej (fun _=>rfl) (fun _=>rfl) (by decide) (fun a h=>⟨2,rfl⟩) fun l d=>?_;simp only[FW,dE] at d;refine⟨d.1,fun i j x y z w=>?_,?_,?_⟩;have u:=d.2.1 x (eP z);have e:=d.2.1 y (eP w);simp only[akZ,Mm,LM,u.1,u.2,e.1,e.2,cw];rfl;exact KO (fun i:Fin l.length=>((l.getD i (0,0,0)).1,(l.getD i (0,0,0)).2.1)) fun x y=>F8;intro x y u e;simp only[ltOf,decide_eq_false_iff_not,eT,th,F8,Cp] at u e;exact Fin.ext (JK d.2.2 (i:=x) (j:=y) (x:=l[x]) (y:=l[y]) (by simp) (by simp) (by
  simp only[bI];omega))
abbrev sV:=List (Nat×(List aa->Option pH))
def KT(f:Nat):sV->Option (List aa->Option pH)
 | []=>none
 |(k,v)::l=>bif aQ k f then some v else KT f l
def sW(t:sV):Prop:= ∀p∈t,uN p.1 p.2
def sW.nil:sW []:=fun _ h=>by cases h
def sW.cons{sp:List aa->Option pH}{t:sV}(h:uN f sp)(e:sW t):sW ((f,sp)::t):=by
 intro p d;rcases fc.1 d with rfl|d
 exact h;exact e p d
def abo{f:Nat}{sp:List aa->Option pH}: ∀ {t:sV},KT f t=some sp->(f,sp)∈t
 | [],h=>by cases h
 |(k,v)::l,h=>by
  simp only[KT] at h;cases hk:aQ k f with
  |true=>
   simp_all
  |false=>
   rw[hk] at h;exact iE _ (abo h)
noncomputable def QW(T:dX)(W:sV)(ch:Nat->Nat):aH:= {P:=ae,hint:=ai,spec:=fun f=>gL f T,ch:=ch,kmax:=fun _=>1000000,specW:=fun f=>KT f W }
instance(T:dX)(W:sV)(ch:Nat->Nat):Std (QW T W ch):=⟨rfl,rfl,fun _=>rfl⟩
variable{T:dX}
theorem U2(j:dR T){W:sV}(e:sW W):Ag.oM (QW T W fun _=>0) where
 mixed:=XV
 spec f sp hsp args v hv G hp w xs wr hx:=j _ (Qz hsp) args v hv G hp w xs wr hx
 specH f sp h args v G hp w xs wr hx hv:=by cases h
 specW f sp h:=e _ (abo h)
 names f fn d:=by
  have d:ae.funcs[f]? =some fn:=d
  grind [XZ]
def j9(Y:dR T){W:sV}(U:sW W){f:FuncId}{args:List aa}{u:aa}(J:eO args=true)(I: ∀d, ∃v s',aq (QW T W d) f (en args) s0 v s'/\fY s'.heap v u)(G:Gh)(h:aC aR)(w:World)(xs:List Value)(wr:WR G h w)(H:ck G args xs):
 mM ae f ⟨xs⟩ w fun y F=> ∃A,WR A h F/\cZ G h w A h F 0 0/\VR A u y:=by
 obtain⟨N,Z⟩:=fan (B:=1000000) (by omega) (fun d n=> ∃v s',(cy (QW T W d) n).call f (en args) [] s0=some (v,s')/\fY s'.heap v u)
  (fun d n m x ⟨v,s',j,e⟩=>⟨v,s',(nM (QW T W d) x).call _ _ _ _ _ j,e⟩)
  (fun d n ⟨v,s',j,e⟩=>⟨s'.ci,fun z S=>⟨v,s',(tL (QW T W fun _=>0) n).call f _ [] d s0 v s' j z S,e⟩⟩)
  (fun d _=>let⟨v,s',⟨n,j⟩,e⟩:=I d;⟨n,v,s',j,e⟩)
 exact aaz (Q:=QW T W fun _=>0) (n:=N) (U2 Y U) (fun _=>(by decide:0<1000000)) J (fun d O=>Z d O) G h w xs wr H
def GK(F:dR T){W:sV}(B:sW W){sp:Sp}(h: ∀args u,sp args=some u->pures args=true/\ ∀H, ∃v s',aq (QW T W H) f args s0 v s'/\fY s'.heap v u):db ae f sp:=by
 intro args x y G A w xs e j;obtain⟨d,z⟩:=h args x y;exact j9 F B (args:=args) (xM d) (by rw[lh d];exact z) G A w xs e j
def ky{α β:Type}(F:α->α->Option β):List α->List β
 | []=>[]
 |a::l=>l.filterMap (F a)++ky F l
theorem Zh{α β:Type}{F:α->α->Option β}(d: ∀a b,F a b=F b a)(a:α): ∀l:List α,(ky F (l++[a])).Perm (ky F l++l.filterMap (F a))
 | []=>by simp[ky]
 |b::l=>by
  have u:=Zh d a l;rw[lY,ky,ky,List.filterMap_append,xQ (a:=b),d a b];have e:[a].filterMap (F b)=(F b a).toList:=by
   cases h:F b a<;>simp[h]
  rw[e];have j: ∀o:Option β,(l.filterMap (F b)++o.toList++ky F (l++[a])).Perm (l.filterMap (F b)++ky F l++(o.toList++l.filterMap (F a))):=fun o=>by
   simp only[ny];refine List.Perm.append_left _ ((List.Perm.append_left _ u).trans ?_)
   grind [List.perm_append_comm]
  grind
theorem ao8{F:α->α->Option β}(j: ∀a b,F a b=F b a){l d:List α}(h:l.Perm d):(ky F l).Perm (ky F d):=by
 induction h with
 |nil=>exact .refl _
 |cons a h e=>exact(h.filterMap _).append e
 |swap a b l=>
  rw[ky,ky,ky,ky,xQ,xQ,j a b];cases F b a with
  |none=>
   grind [List.Perm.append_right,List.perm_append_comm]
  |some x=>
   simp only[];rw[lY,lY,<-ny,<-ny];exact(List.Perm.append_right _ List.perm_append_comm).cons _
 |trans _ _ w u=>exact w.trans u
def xK{α β:Type}(keep:α->α->Bool)(G:α->α->Option β):List α->List α->List β->List β
 | [],_,out=>out
 |a::l,act,out=>xK keep G l (act.filter (keep a)++[a]) (out++(act.filter (keep a)).filterMap (G a))
theorem HU{α β:Type}{p:α->Bool}{f:α->Option β}(h: ∀x,p x=false->f x=none): ∀l:List α,(l.filter p).filterMap f=l.filterMap f
 | []=>rfl
 |x::l=>by
  cases hp:p x with
  |true=>rw[List.filter_cons_of_pos hp,xQ,xQ,HU h l]
  |false=>rw[List.filter_cons_of_neg (by simp[hp]),xQ,h x hp,HU h l]
theorem aaI{α β:Type}{keep:α->α->Bool}{F:α->α->Option β}{low:α->Int}(u: ∀a b,F a b=F b a)(j: ∀a b c,keep a b=false->low a<=low c->F c b=none):
 ∀(l P act:List α) (out:List β),(P++l).Pairwise (fun a b=>low a<=low b)->(∀c,(∀x∈P,low x<=low c)->P.filterMap (F c)=act.filterMap (F c))->out.Perm (ky F P)->(xK keep F l act out).Perm (ky F (P++l))
 | [],P,act,out,_,_,ho=>by simpa[xK] using ho
 |a::l,P,act,out,hs,ha,ho=>by
  have e:P++a::l=(P++[a])++l:=by simp
  have h: ∀x∈P,low x<=low a:=fun x d=>(azm.1 hs).2.2 x d a iL;rw[xK,e];rw[e] at hs;refine aaI u j l (P++[a]) _ _ hs ?_ ?_
  grind [HU]
  refine List.Perm.trans ?_ (Zh u a P).symm;rw[HU fun x d=>j a x a d (Int.le_refl _),<-ha a h];exact ho.append_right _
def arn{keep:α->α->Bool}{F:α->α->Option β}{low:α->Int}(d: ∀a b,F a b=F b a)(j: ∀a b c,keep a b=false->low a<=low c->F c b=none){l r:List α}(e:l.Pairwise (fun a b=>low a<=low b))(h:l.Perm r):(xK keep F l [] []).Perm (ky F r):=
 (aaI d j l [] [] [] e (fun _ _=>rfl) (.refl _)).trans (ao8 d h)
def fM(a b:dg):Option Mt:=bif an (ld a.2 b.2) 0 then none else some (min a.1 b.1,max a.1 b.1,ld a.2 b.2)
def afe(a b:dg):fM a b=fM b a:=by
 unfold fM;rw[amy a.2 b.2,Int.min_comm,Int.max_comm]
theorem T0{a b:dg}(h: ¬boxes a.2 b.2):fM a b=none:=by
 grind [fM,an,amD]
def kK:Nat->List bT->List dg
 |_,[]=>[]
 |i,s::l=>(((i:Nat):Int),s)::kK (i+1) l
theorem wX: ∀(l:List bT) (i:Nat),(kK i l).length=l.length
 | [],_=>rfl
 |_::l,i=>by rw[kK,bH,wX l,bH]
theorem AU: ∀ {l:List bT} {i:Nat} {x:dg},x∈kK i l->(i:Int)<=x.1/\x.1<(i+l.length:Nat)
 | [],_,_,h=>by cases h
 |s::l,i,x,h=>by
  rcases fc.1 h with rfl|h
  grind
  have:=AU h;simp only[bH];omega
theorem Cw: ∀(l:List bT) (i:Nat),(kK i l).Pairwise fun a b=>a.1<b.1
 | [],_=>.nil
 |s::l,i=>.cons (fun x d=>by have:=AU d;omega) (Cw l (i+1))
def ie(l:List bT):List Mt:=ky fM (kK 0 l)
def vn(a b:Mt):Prop:=a.1<b.1\/(a.1=b.1/\a.2.1<b.2.1)
theorem Ci{a b:dg}{m:Mt}(h:fM a b=some m):m.1=min a.1 b.1/\m.2.1=max a.1 b.1:=by
 grind [fM]
theorem J9{α β:Type}{F:α->α->Option β}{m:β}: ∀ {l:List α},m∈ky F l-> ∃x∈l, ∃y∈l,F x y=some m
 | [],h=>by cases h
 |a::l,h=>by
  rcases lj.1 h with h|h
  grind
  obtain⟨x,j,y,e,d⟩:=J9 h
  grind
def Gc{α β:Type}{F:α->α->Option β}: ∀l:List α,(ky F l).length<=l.length*l.length
 | []=>by simp[ky]
 |a::l=>by
  have e:=List.length_filterMap_le (F a) l;have d:=Gc (F:=F) l;rw[ky,cJ,bH,Nat.add_mul,Nat.mul_add];omega
theorem Gd: ∀ {l:List dg},l.Pairwise (fun a b=>a.1<b.1)->(ky fM l).Pairwise vn
 | [],_=>.nil
 |a::l,.cons h1 h2=>by
  rw[ky,azm];refine⟨?_,Gd h2,fun x j y h=>?_⟩;rw[List.pairwise_filterMap];refine(List.Pairwise.and_mem.1 h2).imp ?_;rintro x y ⟨j,h,w⟩ b B c A;have G:=Ci B;have F:=Ci A
  grind [vn]
  obtain⟨z,H,d⟩:=List.mem_filterMap.1 j;obtain⟨u,J,v,I,e⟩:=J9 h;have G:=Ci d;have F:=Ci e
  grind [vn]
def d9:dg:=(0,((0,0),(0,0)))
def d3:Mt:=(0,0,0)
def arp(l:List dg):SWO (ltOf fun x y:Fin l.length=>eT yj d9 l x y):=KO (fun i:Fin l.length=>(jX (l.getD i d9).2,(l.getD i d9).1)) fun _ _=>J6
def arq(l:List Mt):SWO (ltOf fun x y:Fin l.length=>eT th d3 l x y):=KO (fun i:Fin l.length=>((l.getD i d3).1,(l.getD i d3).2.1)) fun _ _=>F8
def zG(l:List bT):List dg:=kA yj d9 (kK 0 l)
def tt(l:List bT):List Mt:=xK (fun a x=> !jn a x) fM (zG l) [] []
def Qo(l:List bT):(zG l).Perm (kK 0 l):=xH _ _ _
def Co(l:List bT):(tt l).Perm (ie l):=by
 refine arn (low:=fun a:dg=>jX a.2) afe ?_ ?_ (Qo l);intro a b c d h;refine T0 fun e=>?_;have d:vh b.2<jX a.2:=by simpa[jn,bc] using d
 have:=e.1.1;simp only[jX,vh] at*;omega;refine(KD yj d9 _ (arp _)).imp ?_
 simp_all [yj,J6]
variable{l:List bT}
theorem ahw(h:l.length<=1000):FV (kK 0 l)=true:=by
 simp only[FV,dE];refine⟨by rw[wX];omega,fun x d=>?_,?_⟩
 have:=AU d;simp only[nh,bu,dE];omega
 grind [Cw]
theorem af5(h:l.length<=1000):FW (tt l)=true:=by
 have d:=Co l;simp only[FW,dE];refine⟨?_,fun x u=>?_,?_⟩;rw[d.length_eq]
 have:=Gc (F:=fM) (kK 0 l);rw[wX] at this;have:l.length*l.length<=1000*1000:=rf h h;unfold ie;omega;obtain⟨a,y,b,w,j⟩:=J9 (d.mem_iff.1 u);have e:=Ci j;have A:=AU y;have z:=AU w;simp only[nh,bu,dE];omega;rw[(d.map _).nodup_iff,List.nodup_iff_pairwise_ne,Ha];refine(Gd (Cw l 0)).imp fun h=>?_
 grind [vn]
theorem af6(l:List bT):kA th d3 (tt l)=ie l:=by
 refine List.Perm.eq_of_pairwise (le:=fun a b=> ¬th b a<0) (fun a b d u j e=>?_) (KD th d3 _ (arq _)) ?_ ((xH _ _ _).trans (Co l));have d:=((xH th d3 (tt l)).trans (Co l)).mem_iff.1 d;simp only[th,F8] at j e
 grind [ie,vn,Gd,Cw,G7,List.pairwise_iff_getElem]
 refine(Gd (Cw l 0)).imp fun h=>?_;simp only[vn] at h;simp only[th,F8];omega
end Go.Proofs.YtnnppcoplinajaaGreat
namespace Go.Proofs.YtnnppcoplinajaaGreat
open Go.Ag
variable{Q:aH}[Std Q]
theorem Vz: ∀(l:List bT) (i:Nat) (s:bT),kK i (l++[s])=kK i l++[(((i+l.length:Nat):Int),s)]
 | [],i,s=>rfl
 |x::l,i,s=>by
  rw[lY,kK,Vz l,kK,bH,show i+1+l.length=i+(l.length+1) by omega];rfl
def Bg(d:List bT)(n:Nat):List dg:=kK 0 d++iy n Bw
theorem ap1(d:List bT)(s:bT)(n:Nat):(Bg d (n+1)).set d.length (((d.length:Nat):Int),s)=Bg (d++[s]) n:=by
 grind [Bg,List.set_append_right,wX,Vz]
def ap0(d:List bT)(n:Nat):(Bg d n).length=d.length+n:=by
 unfold Bg;rw[cJ,wX,List.length_replicate]
def anI:db ae 303 A4:=by
 refine pC (T:=[]) .nil fun d u h=>?_;unfold A4 at h;split at h;have h:=sI h;subst h;exact⟨rfl,_,_,anK (sp:=fun f=>gL f []) rfl _ _ _,rfl,⟨2,rfl⟩⟩;cases h
def Ak:Sp
 | [.agg [.int .i64 a,.int .i64 b],.agg [.int .i64 c,.int .i64 d]]=>some (.bool (cr a d&&cr c b))
 |_=>none
def adg:db ae 308 Ak:=by
 refine pC (T:=[]) .nil fun e u h=>?_;unfold Ak at h;split at h;rename_i a b c d;have h:=sI h;subst h;exact⟨rfl,_,_,adi (sp:=fun f=>gL f []) rfl (a,b) (c,d) _,rfl,⟨1,rfl⟩⟩;cases h
variable{m:Nat}{s s':St}
def eL.putT(h:eL m s s')(o:Option aR):eL m s (s'.rX (s'.top.put m o)):=
 ⟨fun k d=>by rw[mY,aX,bN.2 d];exact h.old k d,h.aL,h.ci,pW h.mw (br _)⟩
variable{K:Ex->Fr->St->Prop}{segs:List bT}{sv:aa}
theorem ahv(y:Q.spec 303=some A4)(Z:ay 4 bX sv segs)(O:segs.length<=1000){s0:St}(hx: ∀e lc s,ac e 4= .arr 9 m 0 segs.length segs.length->eL m s0 s->s.get [] m=some (.cells (aF ((kK 0 segs).map cX)))->K (.exit 0) ⟨e,102,lc⟩ s):
 ∀(h d:List bT) (e:ax) (lc:Ag.Loc) (s:St),segs=d++h->eL m s0 s->s.get [] m=some (.cells (aF ((Bg d h.length).map cX)))->
  ac e 4= .arr 9 m 0 segs.length segs.length->ac e 20=sv->ac e 21=uM segs.length->ac e 22=uM d.length->W Q 224 (.loop NK) ⟨e,102,lc⟩ s K:=by
 intro h
 induction h with
 |nil=>
  intro d e lc s z H N J u j x;have F:d.length=segs.length:=by rw[z];simp
  refine bG ?_;simp only[dJ,FbZ,FlZ,isStore,aaA,gI,cut,fL,df,bP,ah,aB,bQ,ee,ey,eI,cK,vf,uO,ep,reduceCtorEq,EN,jt,Kk,ofValue,pw,SA,HA,SK,j0,PO,Zv,zq,Ke,nV,Gn,Gp,sk,Bf,ZG,PP,yC,Aw,EB,rD,pQ,EC,nJ,rE,tk,Ax,gX,cH,ng,ub,aap,SJ,Zx,aaO,aao,SD,SH,SI,Zz,ZE,PN,aaP,aaV,aaW,abC,abD,abH,abI,T6,T7,T8,T9,Uf,Ug,Uh,Ui,Uj,Uk,zF,ua,GC,SF,SB,ZB,aaQ,v8,abG,Ue,Ua,j6,ZF,Zu,ZC,aaX,aaS,abE,AI,yY,SE,Zy,ZA,ZD,ZH,ZI,Zw,aaU,aa3,aaT,abJ,abF,Ub,Uc,Ud,Ul,Um,Un,Uo,Uq,Ur,Us,HT,t9,GD,Vf,FJ,CC,Va,V9,Rh,Rc,Q9,Rg,Q7,Q6,Rf,Rb,Q8,Ra,Re,TK,TJ,R5,R3,R4,R6,Vn,Vm,TN,TM,SY,SZ,SX,SW,aaE,aaD,ot,aW,aY,rR,iU,Std.P,Std.hint,NK,u,j,x,F,cD]
  grind [aj,Bg]
 |cons g h Y=>
  intro d e lc s z H N J u j x;have B:d.length<segs.length:=by rw[z];simp
  have I:segs[d.length]? =some g:=by rw[z];simp
  have G:=fun lc k=>Z.at zF.2.2.1 I lc k;have A:=dB (n:=d.length) (by omega);have U:A4 [ic g.1.1,ic g.2.1]=some (aU (jX g,vh g)):=rfl;have S:A4 [ic g.1.2,ic g.2.2]=some (aU (qJ g,qG g)):=rfl;have w:=Vy (s:=s.top) N (i:=d.length) (by rw[ap0,bH];omega) ((((d.length:Nat):Int)),g);rw[bH,ap1] at w;simp only[cX,jz] at w;refine bG ?_;simp only[dJ,FbZ,FlZ,isStore,aaA,gI,cut,fL,df,bP,ah,aB,bQ,ee,ey,eI,cK,vf,uO,ep,reduceCtorEq,EN,jt,Kk,ofValue,pw,SA,HA,SK,j0,PO,Zv,zq,Ke,nV,Gn,Gp,sk,Bf,ZG,PP,yC,Aw,EB,rD,pQ,EC,nJ,rE,tk,Ax,gX,cH,ng,ub,aap,SJ,Zx,aaO,aao,SD,SH,SI,Zz,ZE,PN,aaP,aaV,aaW,abC,abD,abH,abI,T6,T7,T8,T9,Uf,Ug,Uh,Ui,Uj,Uk,zF,ua,GC,SF,SB,ZB,aaQ,v8,abG,Ue,Ua,j6,ZF,Zu,ZC,aaX,aaS,abE,AI,yY,SE,Zy,ZA,ZD,ZH,ZI,Zw,aaU,aa3,aaT,abJ,abF,Ub,Uc,Ud,Ul,Um,Un,Uo,Uq,Ur,Us,HT,t9,GD,Vf,FJ,CC,Va,V9,Rh,Rc,Q9,Rg,Q7,Q6,Rf,Rb,Q8,Ra,Re,TK,TJ,R5,R3,R4,R6,Vn,Vm,TN,TM,SY,SZ,SX,SW,aaE,aaD,ot,aW,aY,rR,iU,Std.P,Std.hint,NK,J,u,j,x,B,G,A,bX,y,U,S,aU,dn,H.mw,w,bj,bg,aZ,bf,evc,iw,jO];refine⟨rfl,Y (d++[g]) _ _ _ (by rw[z];simp) (H.putT _) (by rw[mY,aX,bS];rfl) ?_ ?_ ?_ ?_⟩
  all_goals simp only[abc,adz,ah,J,u,j]
def amb:aa->Option Nat
 | .arr _ n _ _ _=>some n
 |_=>none
def kW(sz:Nat)(s:St)(v:aa)(xs:List aa):Prop:=(v= .oZ/\xs=[])\/(xs≠ []/\ ∃k,v= .arr sz k 0 xs.length xs.length/\s.get [] k=some (.cells (aF xs))/\k<s.aL)
variable{xs:List aa}{sz:Nat}{v:aa}
def kW.ge(h:kW sz s v xs):v.ge=true:=by
 rcases h with⟨rfl,_⟩|⟨_,k,rfl,_⟩<;>rfl
def kW.mono(h:kW sz s v xs)(d: ∀n,amb v=some n->s'.get [] n=s.get [] n)(u:s.aL<=s'.aL):kW sz s' v xs:=by
 rcases h with h|⟨j,k,rfl,e,w⟩
 exact .inl h;exact .inr ⟨j,k,rfl,by rw[d k rfl];exact e,by omega⟩
def kW.lt(h:kW sz s v xs): ∀n,amb v=some n->n<s.aL:=by
 intro n d;rcases h with⟨rfl,_⟩|⟨_,k,rfl,_,h⟩
 cases d;cases d;exact h
def LH{t:TypeId}{E:EI}(I:lV ae t=some E)(z:E.n=sz)(S:E.b<=88)(x:aa)(u: ∀y∈xs,y.cells.length=sz)(H:xs.length<1000000)(G:s.gt<=s.aL)(h:kW sz s v xs):
 ∃d,fF ae [] t v (.list sz [x] .uP) true s=some (.arr sz s.aL 0 (xs.length+1) (xs.length+1),d)/\kW sz d (.arr sz s.aL 0 (xs.length+1) (xs.length+1)) (xs++[x])/\d.aL=s.aL+1/\d.ci=s.ci/\d.gt<=d.aL/\(∀n,n<s.aL->amb v≠some n->d.get [] n=s.get [] n):=by
 subst z;have j:jc (xs.length+1) E.b=true:=vI (by omega) S;have N:(xs++[x]).length=xs.length+1:=by simp
 rcases h with⟨rfl,rfl⟩|⟨_,k,rfl,O,J⟩
 refine⟨s.new (.cells (aF [x])),?_,.inr ⟨by simp,s.aL,rfl,?_,kU _⟩,rfl,rfl,cq G,fun n z _=>?_⟩;have j:jc 1 E.b=true:=j;simp only[afo,fF,I,au,eE,jG,kL,bH,bn,bV,j];rw[fk,bS];rfl;rw[fk,bN.2 (by omega:n≠s.aL)];rfl;have F:(aF xs).length=xs.length*E.n:=MP u;have B:aF [x]=x.cells:=by show x.cells++aF []=_;simp[aF]
 refine⟨(s.put k none).new (.cells (aF (xs++[x]))),?_,.inr ⟨by simp,s.aL,by rw[N],?_,kU _⟩,rfl,rfl,?_,fun n z w=>?_⟩;simp only[afo,fF,I,au,eE,jG,O,bH,bn,bV,j,F,cw,nz,B,qF];rw[fk,lR,bS];rfl;exact cq (dh s k none G);have A:n≠k:=fun e=>w (by rw[e];rfl);rw[fk,lR,bN.2 (by omega:n≠s.aL),cF,aX,bN.2 A];rfl
def ri(s:St)(av:aa)(act:List dg):Prop:=(av= .oZ/\act=[])\/ ∃(k:Nat) (R:List dg),av= .arr 9 k 0 act.length R.length/\s.get [] k=some (.cells (aF (R.map cX)))/\R.take act.length=act/\act.length<=R.length/\R.length<=1000/\k<s.aL
variable{xs:List dg}
def ri.ge(h:ri s v xs):v.ge=true:=by
 rcases h with⟨rfl,_⟩|⟨k,R,rfl,_⟩<;>rfl
def ri.mono(h:ri s v xs)(d: ∀n,amb v=some n->s'.get [] n=s.get [] n)(x:s.aL<=s'.aL):ri s' v xs:=by
 rcases h with h|⟨k,R,rfl,w,u,j,e,y⟩
 exact .inl h;exact .inr ⟨k,R,rfl,by rw[d k rfl];exact w,u,j,e,by omega⟩
def ri.lt(h:ri s v xs): ∀n,amb v=some n->n<s.aL:=by
 intro n d;rcases h with⟨rfl,_⟩|⟨k,R,rfl,_,_,_,_,h⟩
 cases d;cases d;exact h
def ri.len(h:ri s v xs)(mk:aK)(s':St):jo ae mk 363 v s'=some (uM xs.length):=by
 rcases h with⟨rfl,rfl⟩|⟨k,R,rfl,_⟩
 exact ua.2.2.2.2.1 _ _;exact FA _ _ _ _ _ _ _
variable{i:Nat}{b:dg}
def ri.at(h:ri s v xs)(hi:xs[i]? =some b): ∃n o,(∀lc,ja ae lc 363 v (uM i)=some (.ptr n o))/\yT ae 368 o (s.get [] n)=some (cX b):=by
 have d:i<xs.length:=(nY.1 hi).1;rcases h with⟨rfl,rfl⟩|⟨k,R,rfl,w,u,x,_⟩
 cases hi;have j:R[i]? =some b:=by rw[<-u,G6,iP d] at hi;exact hi
 refine⟨k,0+i*9,fun lc=>?_,by rw[bV];exact Ii w j⟩;have e:bm i xs.length=true:=cP d;rw[ua.2.2.2.1];simp only[afo,oz,au,e,cw]
structure n9 (s:St) (m:Nat) (its act:List dg) (out:List Mt) (av ov:aa):Prop where
 it:s.get [] m=some (.cells (aF (its.map cX)))
 mlt:m<s.aL
 act:ri s av act
 out:kW 3 s ov (out.map im)
 d1:amb av≠some m
 d2:amb ov≠some m
 d3: ∀n,amb av=some n->amb ov≠some n
 mw:s.gt<=s.aL
variable{out:List Mt}{act its:List dg}{av ov:aa}
def n9.app(h:n9 s m its act out av ov)(u:out.length<1000000)(x:Mt): ∃j d,fF ae [] 286 ov (.list 3 [im x] .uP) true s=some (d,j)/\n9 j m its act (out++[x]) av d/\(∀n,n<s.aL->amb ov≠some n->j.get [] n=s.get [] n)/\j.aL=s.aL+1/\amb d=some s.aL/\d.ge=true:=by
 obtain⟨j,H,G,F,I,B,z⟩:=LH (t:=286) GC.1 rfl (by decide) (im x) (fun y A=>by obtain⟨a,_,rfl⟩:=dy.1 A;rfl) (by rw[ce];exact u) h.mw h.out;refine⟨j,_,H,⟨(z m h.mlt h.d2).trans h.it,by have:=h.mlt;omega,h.act.mono (fun n w=>z n (h.act.lt n w) (h.d3 n w)) (by omega),by rw[ff];exact G,h.d1,fun e=>?_,fun n w e=>?_,B⟩,z,F,rfl,rfl⟩;injection e with e
 have:=h.mlt;omega;injection e with e
 have:=h.act.lt n w;omega
def qP(s:bT):Bool:=bk s.1&&bk s.2
variable{a:dg}
def aff(h:(cr (qJ a.2) (qG b.2)&&cr (qJ b.2) (qG a.2))=false):fM a b=none:=by
 refine T0 fun d=>?_;obtain⟨j,e⟩:=d.2;have w:cr (qJ a.2) (qG b.2)=true:=dQ j;have u:cr (qJ b.2) (qG a.2)=true:=dQ e;rw[w,u] at h;cases h
def aho(S:Q.spec 308=some Ak)(a0:Q.spec 225=some lD){nb n52 n51:Nat}(na:qP a.2=true)(b7: ∀x∈act,qP x.2=true)(e0:act.length<=1000)(e1:amb av≠some nb)(r:List Mt)(hr:r.length<=1000000)(hx: ∀e lc s ov,ac e 4= .arr 9 m 0 its.length its.length->ac e 50= .arr 9 m 0 its.length its.length->ac e 51=uM n51->ac e 52=uM n52->ac e 8=av->ac e 10= .ptr nb 0->ac e 7=ov->n9 s m its act r av ov->s.get [] nb=some (.cells (jz a))->nb<s.aL->amb ov≠some nb->K (.exit 4) ⟨e,102,lc⟩ s):
 ∀(d h:List dg) (out:List Mt) (ov:aa) (e:ax) (lc:Ag.Loc) (s:St),act=h++d->r=out++d.filterMap (fM a)->n9 s m its act out av ov->s.get [] nb=some (.cells (jz a))->nb<s.aL->amb ov≠some nb->
  ac e 4= .arr 9 m 0 its.length its.length->ac e 50= .arr 9 m 0 its.length its.length->ac e 51=uM n51->ac e 52=uM n52->ac e 8=av->ac e 10= .ptr nb 0->ac e 7=ov->
  ac e 59=av->ac e 60=uM act.length->ac e 61=uM h.length->W Q 224 (.loop CD) ⟨e,102,lc⟩ s K:=by
 intro d
 induction d with
 |nil=>
  intro h out ov e lc s h1 B I Y G F h4 O N J h8 u h7 y j H;have c0:h.length=act.length:=by rw[h1];simp
  have b8:r=out:=by rw[B];simp
  refine bG ?_;simp only[go_sem,seval,CD,j,H,c0,cD];rw[b8] at hx;exact hx _ _ _ ov (by simp only[sN,seval,h4]) (by simp only[sN,seval,O]) (by simp only[sN,seval,N]) (by simp only[sN,seval,J]) (by simp only[sN,seval,h8]) (by simp only[sN,seval,u]) (by simp only[sN,seval,h7]) I Y G F
 |cons b d ih=>
  intro h out ov e lc s h1 B I Y G F h4 O N J h8 u h7 y j H;have b0:h.length<act.length:=by rw[h1];simp
  have d0:act[h.length]? =some b:=by rw[h1];simp
  obtain⟨n,o,b1,U⟩:=I.act.at d0;have a9:=dB (n:=h.length) (by omega);have b6:=I.act.ge;have a7:qP b.2=true:=b7 b (by rw[h1];simp);simp only[qP,bu] at na a7;have q1:Ak [.agg [ic (qJ a.2),ic (qG a.2)],.agg [ic (qJ b.2),ic (qG b.2)]]=some (.bool (cr (qJ a.2) (qG b.2)&&cr (qJ b.2) (qG a.2))):=rfl;have q2:=OQ na.1 na.2 a7.1 a7.2;simp only[bX,cd] at q2;simp only[cX,jz] at U Y;have next: ∀(z:List Mt) (w:aa) (A:ax) (a8:Ag.Loc) (s':St),r=z++d.filterMap (fM a)->n9 s' m its act z av w->s'.get [] nb=some (.cells (jz a))->nb<s'.aL->amb w≠some nb->
   ac A 4= .arr 9 m 0 its.length its.length->ac A 50= .arr 9 m 0 its.length its.length->ac A 51=uM n51->ac A 52=uM n52->ac A 8=av->ac A 10= .ptr nb 0->ac A 7=w->
   ac A 59=av->ac A 60=uM act.length->ac A 61=ic ((h.length+1:Nat))->W Q 224 (.loop CD) ⟨A,102,a8⟩ s' K:=fun z w A a8 s' c1 c2 c3 c4 c5 c6 c7 c8 c9 d7 d6 d5 d4 d2 d1=>
    ih (h++[b]) z w A a8 s' (by rw[h1];simp) c1 c2 c3 c4 c5 c6 c7 c8 c9 d7 d6 d5 d4 d2 (by rw[d1,cJ];rfl)
  refine bG ?_;cases hy:(cr (qJ a.2) (qG b.2)&&cr (qJ b.2) (qG a.2)) with
  |false=>
   rw[hy] at q1;have hf:fM a b=none:=aff hy;simp only[go_sem,seval,CD,u,y,j,H,b0,b1,U,Y,b6,a9,S,q1,aW,aY];refine next out ov _ _ _ (by rw[B,xQ,hf]) I Y G F ?_ ?_ ?_ ?_ ?_ ?_ ?_ ?_ ?_ ?_
   all_goals simp only[sN,seval,h4,O,N,J,h8,u,h7,y,j]
  |true=>
   rw[hy] at q1;cases hk:an (ld a.2 b.2) 0 with
   |true=>
    have hf:fM a b=none:=by unfold fM;rw[hk];rfl
    simp only[go_sem,seval,CD,u,y,j,H,b0,b1,U,Y,b6,a9,S,a0,q1,q2,hk,aW,aY];refine next out ov _ _ _ (by rw[B,xQ,hf]) I Y G F ?_ ?_ ?_ ?_ ?_ ?_ ?_ ?_ ?_ ?_
    all_goals simp only[sN,seval,h4,O,N,J,h8,u,h7,y,j]
   |false=>
    have hf:fM a b=some (min a.1 b.1,max a.1 b.1,ld a.2 b.2):=by unfold fM;rw[hk];rfl
    have Z:r=(out++[(min a.1 b.1,max a.1 b.1,ld a.2 b.2)])++d.filterMap (fM a):=by rw[B,xQ,hf];simp
    have ho:out.length<1000000:=by
     have:out.length+1<=r.length:=by rw[Z,cJ,cJ];simp
     omega
    obtain⟨s1,w,a1,a2,a3,a4,a5,a6⟩:=I.app ho (min a.1 b.1,max a.1 b.1,ld a.2 b.2);simp only[im] at a1;have ko:=I.out.ge;simp only[go_sem,seval,CD,h7,u,y,j,H,b0,b1,U,Y,b6,ko,a6,a9,S,a0,q1,q2,hk,aW,aY,ru,sY,a1,bj,bg,aZ,bf,evc];refine next _ w _ _ _ Z a2 ((a3 nb G F).trans Y) (by omega) (fun e=>by rw[a5] at e;injection e with e;omega) ?_ ?_ ?_ ?_ ?_ ?_ ?_ ?_ ?_ ?_
    all_goals simp only[sN,seval,h4,O,N,J,h8,u,h7,y,j]
def aqM(mk:aK)(e:ax)(s:St):jE ae mk 363 .oZ none none none e s=some .oZ:=by kernel_rfl
def n9.mono(h:n9 s m its act out av ov)(e: ∀n,n<s.aL->s'.get [] n=s.get [] n)(d:s.aL<=s'.aL)(j:s'.gt<=s'.aL):n9 s' m its act out av ov:=
 ⟨(e m h.mlt).trans h.it,by have:=h.mlt;omega,h.act.mono (fun n d=>e n (h.act.lt n d)) d,h.out.mono (fun n d=>e n (h.out.lt n d)) d,h.d1,h.d2,h.d3,j⟩
def n9.appA(h:n9 s m its act out av ov)(O:act.length<1000)(a:dg): ∃N y,fF ae [] 363 av (.list 9 [cX a] .uP) true s=some (y,N)/\n9 N m its (act++[a]) out y ov/\y.ge=true:=by
 have z:jc (act.length+1) 72=true:=vI (by omega) (by decide);have w:=h.mlt;have j:(act++[a]).length=act.length+1:=by simp
 rcases h.act with⟨rfl,rfl⟩|⟨k,R,rfl,U,S,h3,h4,Z⟩
 refine⟨s.new (.cells (aF [cX a])),.arr 9 s.aL 0 1 1,?_,⟨?_,Nat.lt_succ_of_lt w,.inr ⟨s.aL,[a],rfl,?_,rfl,br _,by simp,kU _⟩,h.out.mono (fun n d=>?_) (jQ _),fun e=>?_,h.d2,fun n d e=>?_,cq h.mw⟩,rfl⟩;have z:jc 1 72=true:=z;simp only[afo,fF,ua,au,eE,jG,kL,bH,bn,bV,z];rw[fk,bN.2 (by omega:m≠s.aL)];exact h.it;rw[fk,bS];rfl
 have:=h.out.lt n d;rw[fk,bN.2 (by omega:n≠s.aL)];rfl;injection e with e;omega
 injection d with d
 have:=h.out.lt n e;omega;have G:(aF (R.map cX)).length=R.length*9:=by rw[oG wY];simp
 have F:aF [cX a]=(cX a).cells:=by show(cX a).cells++aF []=_;simp[aF]
 have B:m≠k:=fun e=>h.d1 (by rw[e];rfl);by_cases hfull:act.length=R.length;have J:R=act:=by rw[<-S,hfull,List.take_length]
 subst J;refine⟨(s.put k none).new (.cells (aF (R.map cX++[cX a]))),.arr 9 s.aL 0 (R.length+1) (R.length+1),?_,⟨?_,Nat.lt_succ_of_lt w,.inr ⟨s.aL,R++[a],by rw[j],?_,by rw[List.take_length],br _,by rw[j];omega,kU _⟩,h.out.mono (fun n d=>?_) (jQ _),fun e=>?_,h.d2,fun n d e=>?_,cq (dh s k none h.mw)⟩,rfl⟩;simp only[afo,fF,ua,au,eE,jG,U,bH,bn,bV,z,G,cw,nz,F,qF];rw[fk,lR,bN.2 (by omega:m≠s.aL),cF,aX,bN.2 B];exact h.it;rw[fk,lR,bS,ff];rfl
 have:=h.out.lt n d;have u:n≠k:=fun e=>h.d3 k rfl (by rw[d,e]);rw[fk,lR,bN.2 (by omega:n≠s.aL),cF,aX,bN.2 u];rfl;injection e with e;omega
 injection d with d
 have:=h.out.lt n e;omega;have A:act.length<R.length:=by omega
 have I:(act.length*9==R.length*9)=false:=bN.2 (by omega);have H:bw (act.length+1) R.length=true:=cP (by omega);have Y:=zx (k:=9) wY (rows:=R.map cX) (i:=act.length) (by rw[ce];exact A) (x:=cX a) rfl;refine⟨s.put k (some (.cells (aF ((R.set act.length a).map cX)))),.arr 9 k 0 (act.length+1) R.length,?_,⟨?_,w,.inr ⟨k,R.set act.length a,by rw[j,G8],?_,?_,by rw[j,G8];omega,by rw[G8];exact h4,Z⟩,h.out.mono (fun n d=>?_) (br _),h.d1,h.d2,h.d3,dh s k _ h.mw⟩,rfl⟩;simp only[afo,fF,ua,au,eE,jG,U,bH,bn,bV,z,G,cw,I,cF,H,F,Y,List.map_set];rw[aX,bN.2 B];exact h.it;rw[aX,bS];rfl;rw[j,List.take_succ_eq_append_getElem (by rw[G8];exact A),List.take_set_of_le (br _),List.getElem_set_self,S];have u:n≠k:=fun e=>h.d3 k rfl (by rw[d,e]);rw[aX,bN.2 u];rfl
def aaH{α β:Type}{keep:α->α->Bool}{G:α->α->Option β}: ∀(l act:List α) (out:List β),out.length<=(xK keep G l act out).length
 | [],_,out=>br _
 |a::l,act,out=>by
  rw[xK];refine fA ?_ (aaH l _ _);rw[cJ];omega
def aeG(h:No Q 306)(e:No Q 418){g:aa}(u:g.ge=true)(s:St):aq Q 306 [.oZ,g] s .oZ s:=by
 have d:aq Q 418 [.oZ,g] s (cd (-1)) s:=by
  refine aq.ofNZ WW (co ?_);simp only[go_sem,df,bP,ah,aB,bQ,ee,ey,eI,cK,uO,ep,reduceCtorEq,eR,ua];refine bG ?_;have w:bc 0 ((0:Nat):Int)=false:=rfl;simp only[go_sem,df,bP,ah,aB,bQ,ee,ey,eI,cK,uO,ep,reduceCtorEq,eR,Jh,w,cd]
 refine aq.ofNZ Fh (co ?_);simp only[go_sem,df,bP,ah,aB,bQ,ee,ey,eI,cK,uO,ep,reduceCtorEq,eR,u];refine cG.of d (by decide) ?_;have j:an (-1) (-1)=true:=rfl;simp only[go_sem,df,bP,ah,aB,bQ,ee,ey,eI,cK,uO,ep,reduceCtorEq,eR,cd,j,aqM]
def aeE(h:No Q 306)(d:No Q 418)(u:No Q 307){nb:Nat}(I:n9 s m its act out av ov)(z:s.get [] nb=some (.cells (jz a)))(A:amb av≠some nb):
 ∃v s',aq Q 306 [av,.func (.func 307) [] [.ptr nb 0]] s v s'/\(n9 s' m its (act.filter fun x=> !jn a x) out v ov/\s'.get [] nb=some (.cells (jz a))/\s'.aL=s.aL/\amb v=amb av/\v.ge=true):=by
 rcases I.act with⟨rfl,rfl⟩|⟨k,R,rfl,Y,U,S,O,N⟩
 exact⟨_,_,aeG h d rfl s,I,z,rfl,rfl,rfl⟩;have w:nb≠k:=fun e=>A (by rw[e];rfl);obtain⟨v,s',F,rfl,j,Z,y,B,G⟩:=aeH (lcap:=R.length) h d u w (by omega) S Y z I.mw;rw[U] at F B;have J:=kT (fun x=> !jn a x) act;refine⟨_,s',F,⟨?_,by rw[j.aL];exact I.mlt,.inr ⟨k,Z,by rw[y],G,B,by rw[y];omega,by rw[y];exact O,by rw[j.aL];exact N⟩,I.out.mono (fun n H=>j.old n fun e=>I.d3 k rfl (by rw[H,e])) (by rw[j.aL];exact br _),I.d1,I.d2,I.d3,j.mw⟩,(j.old nb w).trans z,j.aL,rfl,rfl⟩;exact(j.old m fun e=>I.d1 (by rw[e];rfl)).trans I.it
def amq(O:No Q 306)(H:No Q 418)(N:No Q 307)(a7:Q.spec 308=some Ak)(a8:Q.spec 225=some lD)(Z: ∀x∈its,qP x.2=true)(hl:its.length<=1000){F:List Mt}(hF:F.length<=1000000)(j: ∀e lc s ov,ac e 7=ov->kW 3 s ov (F.map im)->s.gt<=s.aL->K (.exit 2) ⟨e,102,lc⟩ s):
 ∀(h d act:List dg) (out:List Mt) (av ov:aa) (e:ax) (lc:Ag.Loc) (s:St),its=d++h->F=xK (fun a x=> !jn a x) fM h act out->(∀x∈act,x∈its)->act.length<=d.length->n9 s m its act out av ov->
  ac e 4= .arr 9 m 0 its.length its.length->ac e 50= .arr 9 m 0 its.length its.length->ac e 51=uM its.length->ac e 52=uM d.length->ac e 8=av->ac e 7=ov->W Q 224 (.loop NL) ⟨e,102,lc⟩ s K:=by
 intro h
 induction h with
 |nil=>
  intro d act out av ov e lc s h1 G ha c3 I h4 B w u h8 h7;have c0:d.length=its.length:=by rw[h1];simp
  refine bG ?_;simp only[go_sem,df,bP,ah,aB,bQ,ee,ey,eI,cK,uO,ep,reduceCtorEq,eR,NL,w,u,c0,cD];have G:F=out:=G;refine j _ _ _ ov (by simp only[sN,ah,bQ,h7]) ?_ I.mw;rw[G];exact I.out
 |cons a h ih=>
  intro d act out av ov e lc s h1 G ha c3 I h4 B w u h8 h7;have b8:d.length<its.length:=by rw[h1];simp
  have A:its[d.length]? =some a:=by rw[h1];simp
  have a4:=Ii I.it A;have b0:=dB (n:=d.length) (by omega);have c1:=I.act.ge;have na:qP a.2=true:=Z a (eP A);have d4:=I.mlt;obtain⟨z,S⟩:=ct (s.new (.cells [ic 0,ic 0,ic 0,ic 0,ic 0,ic 0,ic 0,ic 0,ic 0]));have zn:z.aL=s.aL+1:=by rw[<-S];rfl
  have zg:z.get [] s.aL=some (.cells [ic 0,ic 0,ic 0,ic 0,ic 0,ic 0,ic 0,ic 0,ic 0]):=by rw[<-S,fk,bS];rfl
  have zo: ∀n,n<s.aL->z.get [] n=s.get [] n:=fun n Z=>by rw[<-S,fk,bN.2 (by omega:n≠s.aL)];rfl
  have zm:z.gt<=z.aL:=by rw[<-S];exact cq I.mw
  have b6: ∀lc,KL lc z s.aL 0 (cX a) (z.get [] s.aL)=some (lc,z.put s.aL (some (.cells (jz a)))):=fun lc=>by rw[zg];rfl
  have J:n9 (z.put s.aL (some (.cells (jz a)))) m its act out av ov:=I.mono (fun n Z=>by rw[aX,bN.2 (by omega:n≠s.aL)];exact zo n Z) (by show s.aL<=z.aL;omega) (dh z _ _ zm);have Jb:(z.put s.aL (some (.cells (jz a)))).get [] s.aL=some (.cells (jz a)):=by rw[aX,bS];rfl
  have Jn:(z.put s.aL (some (.cells (jz a)))).aL=s.aL+1:=zn;have a6:amb av≠some s.aL:=fun e=>by have:=I.act.lt _ e;omega
  have b7:amb ov≠some s.aL:=fun e=>by have:=I.out.lt _ e;omega
  generalize hz1:z.put s.aL (some (.cells (jz a)))=z1 at*;have y:=b6;simp only[cX,jz] at a4 y;refine bG ?_;simp only[go_sem,df,bP,ah,aB,bQ,ee,ey,eI,cK,uO,ep,reduceCtorEq,eR,NL,B,w,u,h8,b8,ua,a4,S,y,aW,dn,c1];refine cG.ex (aeE O H N J Jb a6) (by decide) ?_;rintro v s2 ⟨I2,c2,d2,Y,b1⟩;have a0:=I2.act.len;simp only[go_sem,df,bP,ah,aB,bQ,ee,ey,eI,cK,uO,ep,reduceCtorEq,eR,b1,a0];have d5:(act.filter fun x=> !jn a x).length<=act.length:=kT _ _;have d6:(out++(act.filter fun x=> !jn a x).filterMap (fM a)).length<=F.length:=by rw[G];exact aaH _ _ _
  refine aho a7 a8 (a:=a) (m:=m) (nb:=s.aL) (n52:=d.length) (n51:=its.length) (its:=its) (act:=act.filter fun x=> !jn a x) (av:=v) na (fun x j=>Z x (ha x (DX.1 j).1)) (by omega) (by rw[Y];exact a6) (out++(act.filter fun x=> !jn a x).filterMap (fM a)) (by omega) ?_ (act.filter fun x=> !jn a x) [] out ov _ _ s2 rfl rfl I2 c2 (by omega) b7 ?_ ?_ ?_ ?_ ?_ ?_ ?_ ?_ ?_ ?_
  ·intro e2 d1 s3 a9 g4 c6 c5 c4 g8 c7 g7 I3 a5 d0 c9
   obtain⟨s4,c8,a1,a2,a3⟩:=I3.appA (by omega) a;have U:=I3.act.ge;simp only[jz] at a5;simp only[cX,jz] at a1;simp only[go_sem,df,bP,ah,aB,bQ,ee,ey,eI,cK,uO,ep,reduceCtorEq,eR,g8,c7,c4,a5,b0,U,a3,aW,aY,a1,bj,bg,aZ,bf,evc];refine ih (d++[a]) ((act.filter fun x=> !jn a x)++[a]) _ c8 a9 _ _ _ (by rw[h1];simp) G ?_ ?_ a2 ?_ ?_ ?_ ?_ ?_ ?_;intro x j;rcases lj.1 j with j|j
   exact ha x (DX.1 j).1;rw[BB.1 j];exact eP A;rw[cJ,cJ];simp only[bH,bn];omega
   all_goals simp only[sN,ah,bQ,g4,c6,c5,g7,sA]
  all_goals simp only[sN,ah,bQ,h4,B,w,u,h7,bn]
  all_goals rfl
def Md{k:Nat}: ∀ {l:List aa},(∀v∈l,v.cells.length=k/\v= .agg v.cells)->bf true k l.length (aF l)=some l
 | [],_=>rfl
 |v::l,h=>by
  obtain⟨d,z⟩:=h v iL;have j:=Md (l:=l) fun x u=>h x (iE _ u);have y:cut (v.cells++aF l) 0 k=some v.cells:=by
   simp only[cut,nz,bD];rw[List.take_append_of_le_length (by omega),re (by omega),d];simp
  have w:(v.cells++aF l).drop k=aF l:=by rw[<-d,List.drop_left]
  show(bif true then(cut (v.cells++aF l) 0 k).bind fun e=>(bf true k l.length ((v.cells++aF l).drop k)).bind fun r=>some (.agg e::r) else _)=_;rw[y,w,j];show some (aa.agg v.cells::l)=_;rw[<-z]
def age{xs:List aa}(u: ∀v∈xs,v.cells.length=sz/\v= .agg v.cells)(h1:aQ sz 1=false){k:Nat}(y: ∀v∈aF xs,cL s.heap k v=some v)(h:kW sz s v xs):cL s.heap (k+1) v=some (fI sz xs):=by
 rcases h with⟨rfl,rfl⟩|⟨d,n,rfl,j,_⟩
 rfl;have j:s.heap.get n=some (.cells (aF xs)):=j;have z:cut (aF xs) 0 (xs.length*sz)=some (aF xs):=by
  have:=oG (k:=sz) fun v w=>(u v w).1;simp only[cut,nz,bD];rw[re (by omega),this];simp
 have e:fI sz xs= .list sz xs .no:=by
  cases xs with
  |nil=>exact absurd rfl d
  |cons x xs=>rfl
 show(match s.heap.get n with
  |some (.cells cs)=>(cut cs 0 (xs.length*sz)).bind fun c=>(dL (cL s.heap k) c).bind fun A=>(bf (!aQ sz 1) sz xs.length A).bind fun xs=>some (aa.list sz xs .no)
  |_=>none)=_
 rw[j,e];simp only[z,au,yF y,h1,Bool.not_false,Md u]
def BN:List aa->Option (List bT)
 | []=>some []
 |v::l=>(uR v).bind fun s=>(BN l).bind fun r=>some (s::r)
def Hv:aa->Option (List bT)
 | .oZ=>some []
 | .list 4 xs _=>BN xs
 |_=>none
def Sr: ∀ {xs:List aa} {l:List bT},BN xs=some l->xs=l.map bX
 | [],l,h=>by injection h with h;subst h;rfl
 |v::xs,l,h=>by
  simp only[BN,ak,aJ] at h;obtain⟨s,e,r,d,rfl⟩:=h;rw[Ai e,Sr d];rfl
def Ss: ∀l:List bT,BN (l.map bX)=some l
 | []=>rfl
 |s::l=>by simp only[fy,BN,Hu,au,Ss l]
variable{l:List bT}
def acU(h:Hv v=some l):ay 4 bX v l/\d8 v=true/\ay 4 bX (de v) l:=by
 unfold Hv at h;split at h;injection h with h;subst h
 exact⟨.inl ⟨rfl,rfl⟩,rfl,.inl ⟨rfl,rfl⟩⟩;rename_i xs r
 have:=Sr h;subst this;have d:ay 4 bX (.list 4 (l.map bX) r) l:=.inr ⟨r,rfl⟩;exact⟨d,pU aqu d⟩;cases h
def acV(h:ay 4 bX v l):Hv v=some l:=by
 rcases h with⟨rfl,rfl⟩|⟨r,rfl⟩
 rfl;exact Ss l
def FL(l:List Mt):aa:=fI 3 (l.map im)
def Ae:Sp
 | [u]=>(Hv u).bind fun l=>bif decide (l.length<=1000)&&l.all qP then some (.tup [FL (ie l),ic 0]) else none
 |_=>none
def acF(h:ay 4 bX v l)(e:l.length<=1000)(d: ∀x∈l,qP x=true):Ae [v]=some (.tup [FL (ie l),ic 0]):=by
 simp only[akZ,Ae,acV h,e,dT,eH,f8.2 d]
def lu:dX:=[(303,A4),(308,Ak),(225,lD)]
def aci:dR lu:=.cons anI (.cons adg (.cons OS .nil))
noncomputable def lw:sV:=[(304,Qf),(309,Qh)]
def aco:sW lw:=.cons aqX (.cons aq0 .nil)
def amL(h:Nat)(u:h<=1000)(s:St):ow ae 363 (uM h) (uM h) true s=some (.arr 9 s.aL 0 h h,s.new (.cells (aF ((iy h Bw).map cX)))):=by
 have j:bw h h=true:=cP (br _);have e:bw (h*72) 1099511627776=true:=cP (by omega);have d:bw h 1099511627776=true:=cP (by omega);simp only[akZ,ow,ua,oz,j,e,d,fp,gN,cw,cF,gD,abz]
def ahy(h:(cX a).cells=(cX b).cells):a=b:=by
 have d:x6 (cX a)=x6 (cX b):=by
  have:cX a=cX b:=by show aa.agg (cX a).cells=aa.agg (cX b).cells;rw[h]
  rw[this]
 rw[LL,LL] at d;exact sI d
def amN{a b:Mt}(h:(im a).cells=(im b).cells):a=b:=by
 have d:Af (im a)=Af (im b):=by
  have:im a=im b:=by show aa.agg (im a).cells=aa.agg (im b).cells;rw[h]
  rw[this]
 rw[LM,LM] at d;exact sI d
def acI(ch:Nat->Nat)(hs:ay 4 bX sv segs)(d:segs.length<=1000)(hn: ∀x∈segs,qP x=true): ∃v s',aq (QW lu lw ch) 224 [sv] s0 v s'/\fY s'.heap v (.tup [FL (ie segs),ic 0]):=by
 have I:Std (QW lu lw ch):=inferInstance;have a0:(QW lu lw ch).spec 303=some A4:=rfl;have w:(QW lu lw ch).spec 308=some Ak:=rfl;have a1:(QW lu lw ch).spec 225=some lD:=rfl;have z:(QW lu lw ch).spec 304=none:=rfl;have j:(QW lu lw ch).spec 309=none:=rfl;have O:(QW lu lw ch).specW 304=some Qf:=rfl;have u:(QW lu lw ch).specW 309=some Qh:=rfl;have N:No (QW lu lw ch) 306:=⟨rfl,rfl⟩;have G:No (QW lu lw ch) 418:=⟨rfl,rfl⟩;have J:No (QW lu lw ch) 307:=⟨rfl,rfl⟩;have b7:No (QW lu lw ch) 224:=⟨rfl,rfl⟩;generalize QW lu lw ch=Q at*;have a8:=hs.lenS zF;have b0:bc 20000 ((segs.length:Nat):Int)=false:=by simp only[bc,decide_eq_false_iff_not];omega
 have b1:=hs.ge;have a6:=amL segs.length d s0;have a9:=ahw d;have a2:(zG segs).length=segs.length:=by rw[(Qo segs).length_eq,wX]
 have Z:=wX segs 0;refine aq.ofNRZ aiJ (co ?_);simp only[go_sem,seval,a8,b0,b1,Py,a6,iU];refine ahv a0 hs d (m:=s0.aL) (s0:=s0.new (.cells (aF ((iy segs.length Bw).map cX)))) ?_ segs [] _ _ _ rfl (.refl (by show s0.gt<=s0.aL+1;decide)) (by rw[fk,bS];rfl) ?_ ?_ ?_ ?_
 ·intro e lc s1 h4 hb hm
  simp only[go_sem,seval,h4,iU,z];have hg:(bif aQ (aF ((kK 0 segs).map cX)).length (segs.length*9) then xG cX yj (0,((0,0),(0,0))) FV (aF ((kK 0 segs).map cX)) else none)=some (aF ((zG segs).map cX)):=by
   have h1:(aF ((kK 0 segs).map cX)).length=segs.length*9:=by rw[oG wY,ce,Z]
   rw[h1,bD,bS,cT,xG,HQ (k:=9) (fun _=>rfl) (by decide) (fun a b=>ahy)];simp only[akZ,a9];rfl
  refine cG.of (aq.specWp (n:=s0.aL) (cs':=aF ((zG segs).map cX)) z (Std.H _) O rfl hm hg) (by decide) ?_;have a5:=dh s1 s0.aL (some (.cells (aF ((zG segs).map cX)))) hb.mw;have c0:s1.aL=s0.aL+1:=hb.aL;simp only[go_sem,seval,h4,FA,iU];refine amq N G J w a1 (m:=s0.aL) (its:=zG segs) (F:=tt segs) ?_ (by omega) ?_ ?_ (zG segs) [] [] [] .oZ .oZ _ _ _ rfl rfl (fun _ h=>by cases h) (br _) ⟨by rw[aX,bS];rfl,by show s0.aL<s1.aL;omega,.inl ⟨rfl,rfl⟩,.inl ⟨rfl,rfl⟩,fun e=>(by cases e),fun e=>(by cases e),fun _ h=>(by cases h),a5⟩ ?_ ?_ ?_ ?_ ?_ ?_;intro x hx;have hx:=(Qo segs).mem_iff.1 hx;have: ∀(l:List bT) (i:Nat),x∈kK i l->x.2∈l:=by
   intro l
   induction l with
   |nil=>intro i h;cases h
   |cons y l ih=>
    intro i h;rcases fc.1 h with rfl|h
    exact iL;exact iE _ (ih _ h)
  exact hn _ (this _ _ hx);rw[(Co segs).length_eq]
  have:=Gc (F:=fM) (kK 0 segs);rw[Z] at this;have:segs.length*segs.length<=1000*1000:=rf d d;unfold ie;omega;intro w b8 s2 ov h7 hR c1;have a4:=af5 d;have Y:=hR.ge;have A: ∃S,aq Q 309 [ov,.func (.func 310) [] []] s2 (.tup []) S/\kW 3 S ov ((ie segs).map im):=by
   rcases hR with⟨rfl,h0⟩|⟨h0,k,rfl,hk,a7⟩
   refine⟨s2,aq.specW0 j (Std.H _) u rfl,.inl ⟨rfl,?_⟩⟩;have h0:=xT.1 h0
   have:=Co segs;rw[h0] at this;rw[<-List.Perm.nil_eq this];rfl;have B:(ie segs).length=(tt segs).length:=(Co segs).length_eq.symm;have hg:(bif aQ (aF ((tt segs).map im)).length (((tt segs).map im).length*3) then xG im th (0,0,0) FW (aF ((tt segs).map im)) else none)=some (aF ((ie segs).map im)):=by
    have h1:(aF ((tt segs).map im)).length=((tt segs).map im).length*3:=oG fun v U=>by
     obtain⟨a,_,rfl⟩:=dy.1 U;rfl
    rw[h1,bD,bS,cT,xG,HQ (k:=3) (fun _=>rfl) (by decide) (fun a b=>amN)];simp only[akZ,a4];exact congrArg (fun x=>some (aF (x.map im))) (af6 segs)
   refine⟨_,aq.specWp (n:=k) (cs':=aF ((ie segs).map im)) j (Std.H _) u rfl hk hg,.inr ⟨?_,k,?_,?_,a7⟩⟩;intro hc;have hc:=xT.1 hc;rw[hc] at B;exact h0 (by rw[List.eq_nil_of_length_eq_zero B.symm];rfl);rw[ce,ce,B];rw[aX,bS];rfl
  obtain⟨S,a3,b6⟩:=A;simp only[go_sem,seval,h7,Y,j];refine cG.of a3 (by decide) ?_;simp only[go_sem,seval,h7,Y];refine⟨_,rfl,3,?_⟩;have hf:=age (sz:=3) (k:=1) (fun v U=>by obtain⟨a,_,rfl⟩:=dy.1 U;exact⟨rfl,rfl⟩) rfl (fun v U=>?_) b6;show(dL (cL S.heap 2) [ov,ic 0]).bind (fun r=>some (aa.tup r))=_;simp only[dL,hf,au];rfl;have: ∀l:List Mt,v∈aF (l.map im)->cL S.heap 1 v=some v:=by
   intro l
   induction l with
   |nil=>intro h;cases h
   |cons a l ih=>
    intro h;rw[fy,aF,lj] at h;rcases h with h|h
    simp only[im,gD,fc,zT,or_false] at h;rcases h with rfl|rfl|rfl<;>rfl
    exact ih h
  exact this _ U
  all_goals simp only[sN,seval,h4,a2,bn]
  all_goals rfl
 all_goals simp only[sN,seval,bn]
 all_goals rfl
def acG:db ae 224 Ae:=by
 intro j x d G z w xs u y;unfold Ae at d;split at d;simp only[ak] at d;obtain⟨l,F,h⟩:=d;obtain⟨e,h⟩:=bh h;simp only[bu,dE] at e;have h:=sI h;subst h;obtain⟨_,B,A⟩:=acU F;refine j9 aci aco (by simp only[eO,B,cw]) (fun H=>?_) G z w xs u y;exact acI H A e.1 (f8.1 e.2);cases d
def kJ{α:Type}(p:α->Bool):List α->Nat->Int
 | [],_=> -1
 |x::l,i=>bif p x then(i:Int) else kJ p l (i+1)
def EG{α:Type}(p:α->Bool): ∀(l:List α) (i:Nat),cr 0 (kJ p l i)=l.any p
 | [],_=>rfl
 |x::l,i=>by
  simp only[kJ,List.any_cons];cases p x with
  |true=>simp[cr]
  |false=>exact EG p l (i+1)
variable{lc:Ag.Loc}{g:FuncId}{cap:List aa}{l:List ag}{p:ag->Bool}
def ahd(Y:ay 1 aG sv l)(O:l.length<=1000000)(I:Q.spec g=none)(hg: ∀x∈l,aq Q g (.str x::cap) s (.bool (p x)) s){r:Int}(U: ∀e,r= -1->K (.exit 0) ⟨e,19,lc⟩ s)(Z: ∀e,ac e 4=ic r->K .ret ⟨e,19,lc⟩ s):
 ∀(h d:List ag) (e:ax),l=d++h->r=kJ p h d.length->ac e 0=sv->ac e 1= .func (.func g) [] cap->ac e 7=uM l.length->ac e 8=uM d.length->W Q 261 (.loop IU) ⟨e,19,lc⟩ s K:=by
 intro h
 induction h with
 |nil=>
  intro d e y A N J z w;have G:d.length=l.length:=by rw[y];simp
  refine bG ?_;simp only[go_sem,seval,IU,z,w,G,cD];exact U _ A
 |cons x h S=>
  intro d e y A N J z w;have F:d.length<l.length:=by rw[y];simp
  have u:l[d.length]? =some x:=by rw[y];simp
  have H:=fun lc k=>Y.at cH.2.2.1 u lc k;have B:=dB (n:=d.length) (by omega);have j:=hg x (eP u);have e1:([]:List aa)++([aa.str x]++cap)= .str x::cap:=rfl;refine bG ?_;simp only[go_sem,seval,IU,N,J,z,w,F,H,aG,I];refine cG.of j (by decide) ?_;cases hd:p x with
  |true=>
   simp only[go_sem,seval];exact Z _ (by simp only[sN,seval,w,A,kJ,hd])
  |false=>
   simp only[go_sem,seval,w,B];refine S (d++[x]) _ (by rw[y];simp) (by rw[A];simp only[kJ,hd,cF,sA]) ?_ ?_ ?_ ?_
   all_goals simp only[sN,seval,N,J,z,sA]
def ahe(y:No Q 261)(h:ay 1 aG sv l)(d:l.length<=1000000)(u:Q.spec g=none)(A: ∀x∈l,aq Q g (.str x::cap) s (.bool (p x)) s):aq Q 261 [sv,.func (.func g) [] cap] s (cd (kJ p l 0)) s:=by
 have j:=h.lenS cH;have w:=h.ge;refine aq.ofNZ Fd (co ?_);simp only[go_sem,seval,j,w];refine ahd h d u A (r:=kJ p l 0) ?_ ?_ l [] _ rfl rfl (by simp only[sG,seval, *]) (by simp only[sG,seval, *]) (by simp only[sG,seval, *]) (by simp only[sN,seval];rfl);intro e z;simp only[go_sem,seval,z];rfl;intro e B;simp only[go_sem,seval,B];rfl
def M7(d:No Q 261)(u:No Q 167)(w:ay 1 aG sv l)(e:l.length<=1000000)(h:Q.spec g=none)(y: ∀x∈l,aq Q g (.str x::cap) s (.bool (p x)) s):aq Q 167 [sv,.func (.func g) [] cap] s (.bool (l.any p)) s:=by
 have j:=w.ge;refine aq.ofNZ EZ (co ?_);simp only[go_sem,seval,j];refine cG.of (ahe d w e h y) (by decide) ?_;simp only[go_sem,seval,cd,kE,EG]
def jA:BI ae 9 aa.str where
 eq a b:=by
  rw[ME];by_cases h:a=b;subst h;simp;simp[h]
 same a:=by simp[tI,xF]
 ge _:=rfl
def i9:Nat->List Obj->List (ag×aa)
 |_,[]=>[]
 |i,o::l=>(o.id,ic ((i:Nat):Int))::i9 (i+1) l
def Vk: ∀(l:List Obj) (i:Nat) (o:Obj),i9 i (l++[o])=i9 i l++[(o.id,ic ((i+l.length:Nat):Int))]
 | [],_,_=>rfl
 |x::l,i,o=>by
  rw[lY,i9,Vk l,i9,bH,show i+1+l.length=i+(l.length+1) by omega];rfl
def pT(k:ag):List Obj->Option Nat
 | []=>none
 |o::l=>bif k==o.id then some 0 else(pT k l).map (· +1)
def Nd(k:ag): ∀l:List Obj,dP k l=(pT k l).bind fun i=>l[i]?
 | []=>rfl
 |o::l=>by
  simp only[dP,pT];cases h:k==o.id with
  |true=>rfl
  |false=>
   simp only[cF,Nd k l];cases pT k l<;>rfl
def FD(k:ag): ∀(l:List Obj) (i:Nat),cI k (i9 i l)=(pT k l).map fun j=>ic ((i+j:Nat):Int)
 | [],_=>rfl
 |o::l,i=>by
  simp only[i9,cI,pT];by_cases h:k=o.id;subst h;simp;have:(k==o.id)=false:=by simpa using h
  rw[iN h,this,FD k l];simp only[cF];cases pT k l with
  |none=>rfl
  |some j=>simp only[kn];rw[show i+1+j=i+(j+1) by omega]
def Vh{k:ag}: ∀ {l:List Obj},k ∉ l.map Obj.id->pT k l=none
 | [],_=>rfl
 |o::l,h=>by
  have j:(k==o.id)=false:=by
   simp only[fy,fc,not_or] at h;simpa using h.1
  have d:=Vh (k:=k) (l:=l) fun e=>h (by rw[fy];exact iE _ e);simp only[pT,j,cF,d,sF]
def OD(k:ag):lP ae 127 (.str k)=some (9,3):=by kernel_rfl
variable{l:List Obj}
def anJ(ho:ay 6 Obj.val ov l)(hl:l.length<=1000000)(z:(l.map Obj.id).Nodup){s0:St}{x2:List aa}(hx: ∀e lc s,ac e 4= .rd 4 1 0->ac e 2= .rd 2 1 0->lc.gen 2=1->lc.get 2 1=some x2->lc.get 4 1=some [ov,.map m]->eL m s0 s->bR aa.str s m (i9 0 l)->K (.exit 0) ⟨e,29,lc⟩ s):
 ∀(h d:List Obj) (e:ax) (lc:Ag.Loc) (s:St),l=d++h->eL m s0 s->bR aa.str s m (i9 0 d)->
  ac e 4= .rd 4 1 0->ac e 2= .rd 2 1 0->lc.gen 2=1->lc.get 2 1=some x2->lc.gen 4=1->lc.get 4 1=some [ov,.map m]->ac e 15=ov->ac e 16=uM l.length->ac e 17=uM d.length->W Q 126 (.loop Nq) ⟨e,29,lc⟩ s K:=by
 intro h
 induction h with
 |nil=>
  intro d e lc s x Y N F h2 g2 G g4 B w j u;have S:d.length=l.length:=by rw[x];simp
  have I:d=l:=by rw[x];simp
  refine bG ?_;simp only[go_sem,seval,Nq,j,u,S,cD];exact hx _ _ _ (by simp only[sN,seval,F]) (by simp only[sN,seval,h2]) g2 G B Y (by rw[<-I];exact N)
 |cons o h ih=>
  intro d e lc s x Y N F h2 g2 G g4 B w j u;have O:d.length<l.length:=by rw[x];simp
  have Z:l[d.length]? =some o:=by rw[x];simp
  have U:=fun lc k=>ho.at gX.2.2.1 Z lc k;have H:=dB (n:=d.length) (by omega);have J:cI o.id (i9 0 d)=none:=by
   rw[FD,Vh,sF];intro hc;rw[x,ff] at z;exact(List.nodup_append.1 z).2.2 _ hc o.id (by simp) rfl
  have y:=vU jA OD N o.id (ic ((d.length:Nat):Int));have A:fe o.id (ic ((d.length:Nat):Int)) (i9 0 d)=i9 0 (d++[o]):=by
   rw[vj J,Vk,bV]
  rw[A] at y;refine bG ?_;simp only[go_sem,seval,Nq,F,w,j,u,O,U,H,g4,B,Obj.val,Obj.cells,y];refine ih (d++[o]) _ _ _ (by rw[x];simp) (Y.put _) bR.put ?_ ?_ ?_ ?_ ?_ ?_ ?_ ?_ ?_
  all_goals simp only[abc,dj,cY,ah,F,h2,g2,G,g4,B,w,j,sA]
def anE(w:Q.spec 31=some jK)(x:No Q 126)(h:ay 6 Obj.val ov l)(I: ∀o∈l,o.oM)(H:l.length<=1000000)(j:(l.map Obj.id).Nodup)(B:dD l=true)(G:s.gt<=s.aL):
 ∃v s',aq Q 126 [.agg [ov]] s v s'/\(v= .tup [.agg [ov,.map s.aL],.bool true]/\bR aa.str s' s.aL (i9 0 l)/\eL s.aL (s.new (.map [] 0)) s'):=by
 have F:=ajJ;have u:=h.lenS gX;have d:=h.cs;have y:=A0 h I (by omega);rw[B] at y;refine aq.ofNRZ ahE (co ?_);simp only[go_sem,seval,u,d,w,y,m7,wJ,bj,bg,aZ,bf,evc];refine anJ h H j (m:=s.aL) (s0:=s.new (.map [] 0)) (x2:=[.oZ,.nilm]) ?_ l [] _ _ _ rfl (.refl (cq G)) ?_ ?_ ?_ ?_ ?_ ?_ ?_ ?_ ?_ ?_;intro e lc Y O S U A z J N;simp only[go_sem,seval,O,S,U,A,z,d];exact⟨_,rfl,rfl,N,J⟩;show(s.new _).get [] s.aL=_;rw[fk,bS];rfl
 all_goals simp only[abc,dj,cY,gw,ah,bQ,bn]
 all_goals rfl
variable{q:Obj}{k:ag}
def Yi(h:dP k l=some q): ∃i,pT k l=some i/\l[i]? =some q:=by
 rw[Nd,ak] at h;exact h
def ag6: ∀ {l:List Obj},pT k l=some i->i<l.length:=by
 intro l
 induction l generalizing i with
 |nil=>intro h;cases h
 |cons o l d=>
  intro h;simp only[pT] at h;cases hk:k==o.id with
  |true=>rw[hk] at h;injection h with h;subst h;simp
  |false=>
   rw[hk] at h;simp only[cF,uH] at h;obtain⟨j,e,rfl⟩:=h
   have:=d e;simp only[bH];omega
def BK{α:Type}(p:α->Bool): ∀l:List α,(!(l.any fun x=> !p x))=l.all p
 | []=>rfl
 |x::l=>by
  simp only[List.any_cons,ju,Bool.not_or,Bool.not_not,BK p l]
variable{n:Nat}
def PF(w:No Q 129)(z:ay 6 Obj.val ov l)(B:bR aa.str s n (i9 0 l)){id:ag}(A:dP id l=some q):aq Q 129 [.agg [ov,.map n],.str id] s (aU (q.x,q.y)) s:=by
 obtain⟨i,G,F⟩:=Yi A;have j:=fun lc k=>z.at gX.2.2.1 F lc k;have d:=tK jA OD KX B id;rw[FD,G] at d;simp only[kn,Option.getD_some,bV] at d;have u:=z.cs;have e: ∃v s',aq Q 129 [.agg [ov,.map n],.str id] s v s'/\(v=aU (q.x,q.y)/\s'=s):=by
  refine aq.ofNRZ ahJ (co ?_);simp only[go_sem,seval,u,d,j,Obj.val,Obj.cells];exact⟨_,rfl,rfl⟩
 obtain⟨v,s',h,rfl,rfl⟩:=e;exact h
def am3(w:No Q 301)(x:ay 6 Obj.val ov l){k:Nat}(z:bR aa.str s n (i9 0 l))(y:s.get [] k=some (.cells [ov,.map n]))(id:ag):aq Q 301 [.str id,.ptr k 0] s (.bool (!ei l id)) s:=by
 have d:=yW jA OD KX z id;have u:=x.ge;refine aq.ofNZ ajN (co ?_);cases hq:dP id l with
 |none=>
  have e:pT id l=none:=by
   cases e:pT id l with
   |none=>rfl
   |some i=>
    have:=ag6 e;rw[Nd,e,au,gn this] at hq;cases hq
  have h:ei l id=false:=by simp only[ei,pV,hq];rfl
  rw[FD,e] at d;simp only[sF,oB] at d;simp only[go_sem,seval,y,aW,aY,d,h,fh,iw,jO]
 |some q=>
  obtain⟨i,B,A⟩:=Yi hq;have j:=fun lc k=>x.at gX.2.2.1 A lc k;have h:ei l id=an q.nR 1:=by simp only[ei,pV,hq]
  rw[FD,B] at d;simp only[kn,oB,bV] at d;simp only[go_sem,seval,y,aW,aY,d,h,j,u,fh,iw,jO,Obj.val,Obj.cells]
variable{o:Obj}
def anj(y:No Q 219)(d:No Q 301)(e:No Q 261)(h:No Q 167)(z:ay 6 Obj.val ov l)(H:bR aa.str s n (i9 0 l))(F:n<s.aL)(go:o.oM)(B:o.gE.length<=1000000):
 aq Q 219 [.agg [ov,.map n],o.val] s (.bool (o.gE.all (ei l))) (s.new (.cells [ov,.map n])):=by
 have u:=z.cs;have w:bR aa.str (s.new (.cells [ov,.map n])) n (i9 0 l):=by
  show(s.new _).get [] n=_;rw[fk,bN.2 (by omega:n≠s.aL)];exact H
 have G:(s.new (.cells [ov,.map n])).get [] s.aL=some (.cells [ov,.map n]):=by rw[fk,bS];rfl
 have j:=M7 e h go.gE B d.s (s:=s.new (.cells [ov,.map n])) (cap:=[.ptr s.aL 0]) (p:=fun x=> !ei l x) fun x _=>am3 d z w G x;have A:=go.all;refine aq.ofNZ aiE (co ?_);simp only[go_sem,seval,u,A,Obj.val,Obj.cells];refine cG.of j (by decide) ?_;simp only[go_sem,seval,BK]
variable{l:List ag}
def ag7(O:l.length<=1000000)(Z: ∀(i:Nat) (y:ag),l[i]? =some y-> ∃a,(∀lc,ja ae lc 25 sv (uM i)=some a)/\ ∀lc,mr ae [] 9 a lc s=some (.str y)){x:ag}{r:Int}(U: ∀e,r= -1->K (.exit 0) ⟨e,19,lc⟩ s)(Y: ∀e,ac e 4=ic r->K .ret ⟨e,19,lc⟩ s):
 ∀(h d:List ag) (e:ax),l=d++h->r=kJ (fun y=>x==y) h d.length->ac e 0=sv->ac e 1= .str x->ac e 7=uM l.length->ac e 8=uM d.length->W Q 223 (.loop IM) ⟨e,19,lc⟩ s K:=by
 intro h
 induction h with
 |nil=>
  intro d e B G H F A z;have J:d.length=l.length:=by rw[B];simp
  refine bG ?_;simp only[go_sem,seval,IM,A,z,J,cD];exact U _ G
 |cons y h S=>
  intro d e B G H F A z;have j:d.length<l.length:=by rw[B];simp
  have N:l[d.length]? =some y:=by rw[B];simp
  obtain⟨a,w,u⟩:=Z _ _ N;have I:=dB (n:=d.length) (by omega);refine bG ?_;cases hd:x==y with
  |true=>
   simp only[go_sem,seval,IM,H,F,A,z,j,w,u,hd];exact Y _ (by simp only[sN,seval,z,G,kJ,hd])
  |false=>
   simp only[go_sem,seval,IM,H,F,A,z,j,w,u,hd,I];refine S (d++[y]) _ (by rw[B];simp) (by rw[G];simp only[kJ,hd,cF,sA]) ?_ ?_ ?_ ?_
   all_goals simp only[sN,seval,H,F,A,sA]
def TI(u:No Q 223)(w:No Q 130)(d:l.length<=1000000)(h:sv.ge=true)(j: ∀z,jo ae z 25 sv s=some (uM l.length))(B: ∀(i:Nat) (y:ag),l[i]? =some y-> ∃a,(∀lc,ja ae lc 25 sv (uM i)=some a)/\ ∀lc,mr ae [] 9 a lc s=some (.str y))(x:ag):aq Q 130 [sv,.str x] s (.bool (l.contains x)) s:=by
 have H:aq Q 223 [sv,.str x] s (cd (kJ (fun y=>x==y) l 0)) s:=by
  refine aq.ofNZ aiI (co ?_);simp only[go_sem,seval,j,h];refine ag7 d B (x:=x) (r:=kJ (fun y=>x==y) l 0) ?_ ?_ l [] _ rfl rfl (by simp only[sG,seval, *]) (by simp only[sG,seval, *]) (by simp only[sG,seval, *]) (by simp only[sN,seval];rfl);intro e A;simp only[go_sem,seval,A];rfl;intro e F;simp only[go_sem,seval,F];rfl
 have G:l.any (fun y=>x==y)=l.contains x:=by
  rw[List.contains_eq_any_beq]
 refine aq.ofNZ ahL (co ?_);simp only[go_sem,seval,h];refine cG.of H (by decide) ?_;simp only[go_sem,seval,cd,kE,EG,G]
def Ms(d:No Q 223)(e:No Q 130)(j:ay 1 aG sv l)(h:l.length<=1000000)(x:ag)(s:St):aq Q 130 [sv,.str x] s (.bool (l.contains x)) s:=
 TI d e h j.ge (fun u=>j.lenS cH u s) (fun i y w=>⟨_,fun lc=>j.at cH.2.2.1 w lc .i64,fun lc=>by rw[mZ,iB];rfl⟩) x
def TG(d:No Q 223)(e:No Q 130){off len cap:Nat}{cs:List aa}(z:s.get [] m=some (.cells cs))(j:l.length=len)(A: ∀(i:Nat) (y:ag),l[i]? =some y->cs[off+i]? =some (.str y))(h:l.length<=1000000)(x:ag):aq Q 130 [.arr 1 m off len cap,.str x] s (.bool (l.contains x)) s:=by
 refine TI d e h rfl (fun w=>?_) (fun i y u=>⟨.ptr m (off+i*1),fun lc=>?_,fun lc=>?_⟩) x;rw[j];exact yQ w 1 m off len cap s;have:i<len:=by rw[<-j];exact(nY.1 u).1
 have B:bm i len=true:=cP this;rw[cH.2.2.2.1];simp only[afo,oz,au,B,cw];rw[aW,z,aY,iB,Nat.mul_one]
 have:=A i y u;rw[List.head?_drop,this]
def pP:Sp
 | [v,.str x]=>(eX 1 jl v).bind fun l=>bif decide (l.length<=1000000) then some (.bool (l.contains x)) else none
 |_=>none
def Mu(h:ay 1 aG v l)(d:l.length<=1000000)(x:ag):pP [v,.str x]=some (.bool (l.contains x)):=by
 simp only[akZ,pP,mX oc h,d,dT]
def TH:db ae 130 pP:=by
 intro j u d G A w xs x y;unfold pP at d;split at d;simp only[ak] at d;obtain⟨l,H,h⟩:=d;obtain⟨e,h⟩:=bh h;simp only[dE] at e;have h:=sI h;subst h;have z:=kr (fun _ _ h=>pM h) H;obtain⟨F,B⟩:=pU vQ z;refine j9 (T:=[]) (W:=[]) .nil .nil (by simp only[eO,F,d8,bL,cw]) (fun I=>?_) G A w xs x y;exact⟨_,_,Ms ⟨rfl,rfl⟩ ⟨rfl,rfl⟩ B e _ _,⟨1,rfl⟩⟩;cases d
abbrev CK:=ag×ag
def jw(k:CK):aa:=.agg [.str k.1,.str k.2]
def TY(a b c d:ag):kI ae 8 196 (.agg [.str a,.str b]) (.agg [.str c,.str d])=some (wK (a,b) (c,d)):=by
 have h:kI ae 8 196 (.agg [.str a,.str b]) (.agg [.str c,.str d])=(some (a==c)).bind fun r=>bif r then(some (b==d)).bind fun r=>bif r then some true else some false else some false:=by kernel_rfl
 rw[h];unfold wK;cases a==c<;>cases b==d<;>rfl
def OA:BI ae 196 jw where
 eq a b:=by
  have h:=TY a.1 a.2 b.1 b.2;have e:jw a= .agg [.str a.1,.str a.2]:=rfl;have d:jw b= .agg [.str b.1,.str b.2]:=rfl;rw[e,d,h];by_cases hab:a=b;rw[dQ hab,(Tb a b).2 hab];rw[dN hab];cases hc:wK a b with
  |true=>exact absurd ((Tb a b).1 hc) hab
  |false=>rfl
 same a:=by simp[jw,tI,wI,xF]
 ge _:=rfl
def Xc(k:CK):lP ae 279 (jw k)=some (196,25):=by kernel_rfl
def jk(id:ag)(d:List CK×(CK->List ag))(k:CK):List CK×(CK->List ag):=bif(d.2 k).contains id then d else(fq k d.1,lH d.2 k (d.2 k++[id]))
abbrev Aa:=sO jw aG
def P5(d:o.nR=2):(kP o).length=o.gE.length-1:=by
 have:an o.nR 3=false:=by rw[d];rfl
 simp only[kP,this,cF,kC,ce,List.length_zip,xS];omega
def aai(d:o.nR=3):(kP o).length=o.gE.length:=by
 have:an o.nR 3=true:=by rw[d];rfl
 simp only[kP,this,cT,ce,List.length_zip,cJ,xS,List.length_take];omega
def aqB(u:o.nR=2\/o.nR=3)(hi:i<o.gE.length)(j: ¬(i+1=o.gE.length/\o.nR=2)){a b:ag}(w:o.gE[i]? =some a)(d:o.gE[(i+1) % o.gE.length]? =some b):(kP o)[i]? =some (fu a b):=by
 have e:(o.gE.zip (o.gE.tail++(bif an o.nR 3 then o.gE.take 1 else [])))[i]? =some (a,b):=by
  rw[List.getElem?_zip_eq_some];refine⟨w,?_⟩;by_cases hlast:i+1=o.gE.length;have x:o.nR=3:=u.resolve_left fun h=>j ⟨hlast,h⟩;have:an o.nR 3=true:=by rw[x];rfl
  rw[hlast,Nat.mod_self] at d;rw[this,cT,List.getElem?_append_right (by rw[xS];omega),xS,show i-(o.gE.length-1)=0 by omega,G6,iP (by omega)];exact d;rw[Nat.mod_eq_of_lt (by omega)] at d;rw[List.getElem?_append_left (by rw[xS];omega),List.getElem?_tail];exact d
 simp only[kP,jf,e,kn]
def TP{α:Type}{l:List α}{a:α}(h:l[i]? =some a):l.drop i=a::l.drop (i+1):=by
 have d:i<l.length:=(nY.1 h).1;rw[List.drop_eq_getElem_cons d,(nY.1 h).2]
def ZN{a b:Nat}(h:0<b):eB ae .rem 3 (ic ((a:Nat):Int)) (ic ((b:Nat):Int))=some (ic ((a % b:Nat):Int)):=by
 have d:an ((b:Nat):Int) 0=false:=by simp only[an,bN];omega
 show(bif an ((b:Nat):Int) 0 then none else some (ic (((a:Nat):Int).tmod ((b:Nat):Int))))=_;rw[d,cF,Int.ofNat_tmod]
def amo(b8:No Q 130)(b7:No Q 223)(go:o.oM)(hk:o.nR=2\/o.nR=3)(hr:o.gE.length<=1000){lo x:Nat}{s0:St}{KE:List CK}{VE:CK->List ag}{n17:aa}{n18 n19:Nat}{x1:Option (List aa)}(hx: ∀e lc s T,Aa s m lo KE VE T->(∀n,n<lo->n≠m->s.get [] n=s0.get [] n)->s0.aL<=s.aL->s.gt<=s.aL->ac e 3= .map m->ac e 17=n17->ac e 18=uM n18->ac e 19=uM n19->ac e 1= .rd 1 1 0->lc.get 1 1=x1->lc.gen 1=1->K (.exit 2) ⟨e,110,lc⟩ s):
 ∀(r i:Nat) (K1:List CK) (V1:CK->List ag) (T1:CK->Nat) (e:ax) (lc:Ag.Loc) (s:St),r+i=o.gE.length->((kP o).drop i).foldl (jk o.id) (K1,V1)=(KE,VE)->Aa s m lo K1 V1 T1->(∀k,(V1 k).length+r<=1000000)->(∀n,n<lo->n≠m->s.get [] n=s0.get [] n)->s0.aL<=s.aL->s.gt<=s.aL->
  ac e 3= .map m->ac e 17=n17->ac e 18=uM n18->ac e 19=uM n19->ac e 1= .rd 1 1 0->lc.get 1 1=x1->lc.gen 1=1->ac e 5= .rd 5 x 0->lc.gen 5=x->lc.get 5 x=some o.cells->
  ac e 38=o.refsV->ac e 39=uM o.gE.length->ac e 40=uM i->W Q 127 (.loop yN) ⟨e,110,lc⟩ s K:=by
 have rc:=go.gE.ge;have tc:=go.gT.ge;have G:=go.gE.lenS cH;intro r
 induction r with
 |zero=>
  intro i K1 V1 T1 e lc s c4 hf hO hV O b0 d y Y U S h1 l1 g1 B x z w u j;have hi:i=o.gE.length:=by omega
  have hd:(kP o).drop i=[]:=G3 (by
   rcases hk with hk|hk
   rw[P5 hk];omega;rw[aai hk];omega)
  rw[hd] at hf;simp only[List.foldl_nil,bI] at hf;obtain⟨rfl,rfl⟩:=hf;refine bG ?_;simp only[go_sem,seval,yN,u,j,hi,cD];exact hx _ _ _ T1 hO O b0 d (by simp only[sN,seval,y]) (by simp only[sN,seval,Y]) (by simp only[sN,seval,U]) (by simp only[sN,seval,S]) (by simp only[sN,seval,h1]) l1 g1
 |succ r ih=>
  intro i K1 V1 T1 e lc s c4 hf hO hV O b0 d y Y U S h1 l1 g1 B x z w u j;have N:i<o.gE.length:=by omega
  have F:=dB (n:=i) (by omega);obtain⟨a,ha⟩: ∃a,o.gE[i]? =some a:=⟨_,gn N⟩;have H:=fun lc k=>go.gE.at cH.2.2.1 ha lc k;have c7:(((i+1:Nat):Int)==((o.gE.length:Nat):Int))=decide (i+1=o.gE.length):=by
   by_cases h:i+1=o.gE.length;rw[h];simp;rw[dN h];simpa using fun hc=>h (by omega)
  by_cases hb:i+1=o.gE.length/\o.nR=2
  ·
   have hd:(kP o).drop i=[]:=G3 (by rw[P5 hb.2];omega);rw[hd] at hf;simp only[List.foldl_nil,bI] at hf;obtain⟨rfl,rfl⟩:=hf;have e1:an ((i+1:Nat):Int) ((o.gE.length:Nat):Int)=true:=by rw[hb.1];simp[an]
   have e2:an o.nR 2=true:=by rw[hb.2];rfl
   refine bG ?_;simp only[go_sem,seval,yN,B,x,z,w,u,j,N,H,aG,F,rc,G,e1,e2,Obj.cells];exact hx _ _ _ T1 hO O b0 d (by simp only[sN,seval,y]) (by simp only[sN,seval,Y]) (by simp only[sN,seval,U]) (by simp only[sN,seval,S]) (by simp only[sN,seval,h1]) l1 g1
  ·have hn:0<o.gE.length:=by omega
   obtain⟨b,c1⟩: ∃b,o.gE[(i+1) % o.gE.length]? =some b:=⟨_,gn (uF _ hn)⟩;have J:=fun lc k=>go.gE.at cH.2.2.1 c1 lc k;have Z:=ZN (a:=i+1) hn;have c6:=aqB hk N hb ha c1;rw[TP c6,uA] at hf;obtain⟨v,c5,c0⟩:=hO.look OA Xc v8 (fu a b);have I:=c0.ge;have A:=Ms b7 b8 c0 (by have:=hV (fu a b);omega) o.id s.top;have a0:ou ae [] 279 (.map m) (.agg [.str (CS a b),.str (CQ a b)]) false s.top=some v:=c5;have b6:(an ((i+1:Nat):Int) ((o.gE.length:Nat):Int)=true/\an o.nR 2=false)\/an ((i+1:Nat):Int) ((o.gE.length:Nat):Int)=false:=by
    by_cases h:i+1=o.gE.length;left;refine⟨by rw[h];simp[an],?_⟩;simp only[an,bN];exact fun h2=>hb ⟨h,h2⟩;right;simp only[an,bN];omega
   cases hc:(V1 (fu a b)).contains o.id with
   |true=>
    rw[hc] at A;have b1:((kP o).drop (i+1)).foldl (jk o.id) (K1,V1)=(KE,VE):=by
     rw[<-hf];simp only[jk,hc,cT]
    refine lk ?_;rcases b6 with⟨e1,e2⟩|e1
    ·simp only[go_sem,seval,yN,y,B,x,z,w,u,j,N,H,J,aG,F,rc,G,e1,e2,Obj.cells]
     refine iT d ?_;simp only[go_sem,pk,pm,seval,y,B,x,z,w,u,j,H,J,aG,rc,G,Z,Obj.cells,Ee,Ef,bj,bg,aZ,bf,evc];refine iT d ?_;simp only[go_sem,pk,pm,seval,y,B,x,z,Obj.cells,a0,I];refine kY.calm d A (by decide) (by rfl) ?_;simp only[go_sem,pk,pm,seval,j,F,I];refine ih (i+1) K1 V1 T1 _ _ s (by omega) b1 hO (fun k=>by have:=hV k;omega) O b0 d ?_ ?_ ?_ ?_ ?_ ?_ ?_ ?_ ?_ ?_ ?_ ?_ ?_
     all_goals simp only[abc,dj,cY,ah,y,Y,U,S,h1,l1,g1,B,x,z,w,u,Obj.cells]
    ·simp only[go_sem,seval,yN,y,B,x,z,w,u,j,N,H,J,aG,F,rc,G,e1,Obj.cells]
     refine iT d ?_;simp only[go_sem,pk,pm,seval,y,B,x,z,w,u,j,H,J,aG,rc,G,Z,Obj.cells,Ee,Ef,bj,bg,aZ,bf,evc];refine iT d ?_;simp only[go_sem,pk,pm,seval,y,B,x,z,Obj.cells,a0,I];refine kY.calm d A (by decide) (by rfl) ?_;simp only[go_sem,pk,pm,seval,j,F,I];refine ih (i+1) K1 V1 T1 _ _ s (by omega) b1 hO (fun k=>by have:=hV k;omega) O b0 d ?_ ?_ ?_ ?_ ?_ ?_ ?_ ?_ ?_ ?_ ?_ ?_ ?_
     all_goals simp only[abc,dj,cY,ah,y,Y,U,S,h1,l1,g1,B,x,z,w,u,Obj.cells]
   |false=>
    rw[hc] at A;have b1:((kP o).drop (i+1)).foldl (jk o.id) (fq (fu a b) K1,lH V1 (fu a b) (V1 (fu a b)++[o.id]))=(KE,VE):=by
     rw[<-hf];simp only[jk,hc,cF]
    obtain⟨v0,p,s1,av,s2,s3,a1,a2,a3,a4,a5,a6,a7,a8,a9,c2⟩:=hO.app OA Xc v8 cH.1 rfl (fun n hn=>vI hn (by decide)) (fu a b) o.id (by have:=hV (fu a b);omega) d;have c3:rS ae [] 279 (.map m) (.agg [.str (CS a b),.str (CQ a b)]) s=some (.tup [v0,uM p],s1):=a1;simp only[aG] at a3;refine lk ?_;rcases b6 with⟨e1,e2⟩|e1
    ·simp only[go_sem,seval,yN,y,B,x,z,w,u,j,N,H,J,aG,F,rc,G,e1,e2,Obj.cells]
     refine iT d ?_;simp only[go_sem,pk,pm,seval,y,B,x,z,w,u,j,H,J,aG,rc,G,Z,Obj.cells,Ee,Ef,bj,bg,aZ,bf,evc];refine iT d ?_;simp only[go_sem,pk,pm,seval,y,B,x,z,Obj.cells,a0,I];refine kY.calm d A (by decide) (by rfl) ?_;simp only[go_sem,pk,pm,seval,y,B,x,z,Obj.cells,I];simp only[go_sem,pk,pm,seval,j,F,MZ,MY,c3,a2,a3,a4,a5,fh,bj,bg,aZ,bf,evc];refine ih (i+1) _ _ _ _ _ s3 (by omega) b1 a6 (fun k=>?_) (fun n h1 h2=>(a7 n h1 h2).trans (O n h1 h2)) (by omega) c2 ?_ ?_ ?_ ?_ ?_ ?_ ?_ ?_ ?_ ?_ ?_ ?_ ?_;by_cases hkk:k=fu a b;subst hkk;rw[qm,cJ]
     have:=hV (fu a b);simp only[bH,bn];omega;rw[lf _ _ hkk]
     have:=hV k;omega
     all_goals simp only[abc,dj,cY,ah,y,Y,U,S,h1,l1,g1,B,x,z,w,u,Obj.cells]
    ·simp only[go_sem,seval,yN,y,B,x,z,w,u,j,N,H,J,aG,F,rc,G,e1,Obj.cells]
     refine iT d ?_;simp only[go_sem,pk,pm,seval,y,B,x,z,w,u,j,H,J,aG,rc,G,Z,Obj.cells,Ee,Ef,bj,bg,aZ,bf,evc];refine iT d ?_;simp only[go_sem,pk,pm,seval,y,B,x,z,Obj.cells,a0,I];refine kY.calm d A (by decide) (by rfl) ?_;simp only[go_sem,pk,pm,seval,y,B,x,z,Obj.cells,I];simp only[go_sem,pk,pm,seval,j,F,MZ,MY,c3,a2,a3,a4,a5,fh,bj,bg,aZ,bf,evc];refine ih (i+1) _ _ _ _ _ s3 (by omega) b1 a6 (fun k=>?_) (fun n h1 h2=>(a7 n h1 h2).trans (O n h1 h2)) (by omega) c2 ?_ ?_ ?_ ?_ ?_ ?_ ?_ ?_ ?_ ?_ ?_ ?_ ?_;by_cases hkk:k=fu a b;subst hkk;rw[qm,cJ]
     have:=hV (fu a b);simp only[bH,bn];omega;rw[lf _ _ hkk]
     have:=hV k;omega
     all_goals simp only[abc,dj,cY,ah,y,Y,U,S,h1,l1,g1,B,x,z,w,u,Obj.cells]
end Go.Proofs.YtnnppcoplinajaaGreat
namespace Go.Proofs.YtnnppcoplinajaaGreat
open Go.Ag
open Go.Sort (SWO)
def aq1{α:Type}{enc encF:α->aa}{I:α->α->Int}{d:α}{ok:List α->Bool}{k f g:Nat}{ρ:Go.Shelf.Ren}(L:SlLaysF0.n6 ae ρ)(hf:ρ.f 6=f)(aE: ∀w,(isAgg (ρ.t 24)).run ae w= .ok true w)(zE: ∀w,(Go.sizeOf (ρ.t 24)).run ae w= .ok k w)(ef: ∀A w,(callFunc f A).run ae w= .ok (.enter f A) w)(eg: ∀A w,(callFunc g A).run ae w= .ok (.enter g A) w){sp:Sp}(a2:db ae g sp)(hk: ∀a,(enc a).cells.length=k)(ha: ∀a,enc a= .agg (enc a).cells)(a1:0<k)(hz: ∀a h,fY h (enc a) (encF a))(a5: ∀l,ok l=true->l.length<=1000000/\(∀(i j:Nat) (x y:α),l[i]? =some x->l[j]? =some y->sp [encF x,encF y]=some (ic (I x y)))/\(SWO (ltOf fun x y:Fin l.length=>eT I d l x y))/\(∀x y:Fin l.length,(ltOf fun x y:Fin l.length=>eT I d l x y) x y=false->(ltOf fun x y:Fin l.length=>eT I d l x y) y x=false->x=y)):
 uN f (xJ enc I d ok k g):=by
 subst hf;intro A G h w xs wr hx;refine⟨fun B=>?_,fun n gf cs a7 B hl H=>?_⟩
 ·unfold xJ at B
  split at B;obtain⟨_,B⟩:=bh B;cases B
  ·cases hx with
   |cons p q=>
   cases q with
   |cons q r=>
   cases r;cases p;cases q with
   |func q1 q2=>
   cases q1;cases q2;refine .inr ⟨ef _ _,(AnyF.slices_SortFunc_none L none 0 _ w).mono ?_⟩;rintro e w' ⟨rfl,rfl⟩;exact⟨_,rfl,G,wr,.refl,.tup .nil⟩
  cases B
 ·unfold xJ at B
  split at B
  ·rename_i k' m len N g'
   have hb:=(bh B).1;have hq:=(bh B).2;clear B;simp only[bu] at hb;have Y:=jP hb.1;have U:=jP hb.2;subst Y;subst U;injection hq with hq;injection hq with hq;injection hq with a4 a3
   subst a4;subst a3;have H:=Gl H;obtain⟨F,H⟩:=bh H;have F:=jP F;simp only[xG,ak] at H;obtain⟨l,h1,H⟩:=H;obtain⟨h2,H⟩:=bh H;have H:=(sI H).symm;subst H;have a6:=Mw h1;subst a6;have a0: ∀v∈l.map enc,v.cells.length=k'/\v= .agg v.cells:=fun v hv=>by
    obtain⟨a,_,rfl⟩:=dy.1 hv;exact⟨hk a,ha a⟩
   have O:l.length=len:=by
    rw[oG (fun v hv=>(a0 v hv).1),ce] at F;exact Nat.eq_of_mul_eq_mul_right a1 F
   obtain⟨q1,q2,q3,q4⟩:=a5 l h2;cases hx with
   |cons p q=>
   cases q with
   |cons q r=>
   cases r;cases q with
   |func u1 u2=>
   cases u1;cases u2;have J:(l.map enc).length=l.length:=ce ..;have hy: ∀z,VR G (.arr k' m 0 len N) z->VR G (.arr k' m 0 (l.map enc).length N) z:=fun z hz=>by rw[J,O];exact hz
   have gen: ∀n (hn:n=l.length),SWO (ltOf fun x y:Fin n=>eT I d l x y)/\(∀x y:Fin n,(ltOf fun x y:Fin n=>eT I d l x y) x y=false->(ltOf fun x y:Fin n=>eT I d l x y) y x=false->x=y):=by
    intro n hn;subst hn;exact⟨q3,q4⟩
   have Z:=fun hO=>Qe L rfl aE zE ef eg a2 wr (rows:=l.map enc) (us:=l.map encF) hl a0 a1 (by rw[ce,ce]) (fun i v u Y U=>by
    rw[jf,uH] at Y U;obtain⟨a,g1,rfl⟩:=Y;obtain⟨b,S,rfl⟩:=U;rw[g1] at S;injection S with S;subst S
    exact hz a _) (eT I d l) (fun i j u u' Y U=>by
    rw[jf,uH] at Y U;obtain⟨a,g1,rfl⟩:=Y;obtain⟨b,S,rfl⟩:=U;have e:eT I d l i j=I a b:=by
     unfold eT;rw[nA,nA,g1,S];rfl
    rw[q2 i j a b g1 S,e]) hO (gen _ J).2 (by rw[J];exact q1) (hy _ p)
   rw[Qi] at Z;exact Z (gen _ J).1
  obtain⟨_,B⟩:=bh B;cases B;cases B
abbrev iz:=CK×List ag×Nat
def iO(a:iz):aa:=.agg [.str a.1.1,.str a.1.2,.list 1 (a.2.1.map aG) (.own a.2.2)]
def w9(a:iz):aa:=.agg [.str a.1.1,.str a.1.2,.list 1 (a.2.1.map aG) .no]
end Go.Proofs.YtnnppcoplinajaaGreat
namespace Go.Proofs.YtnnppcoplinajaaGreat
open Go.Ag
variable{Q:aH}[Std Q]
open Go.Sort (SWO)
def uV(a b:CK):Int:=bif an (gu a.1 b.1) 0 then gu a.2 b.2 else gu a.1 b.1
variable{s:St}
def aeb(u:No Q 222)(d:Q.spec 228=some pO)(a b:CK)(e:s.gt<=s.aL):aq Q 222 [.list 1 [.str a.1,.str b.1,.str a.2,.str b.2] .uP] s (cd (uV a b)) s:=by
 have y:pO [.str a.1,.str b.1]=some (ic (gu a.1 b.1)):=rfl;have x:pO [.str a.2,.str b.2]=some (ic (gu a.2 b.2)):=rfl;have w:IntKind.i64.wrap (0+1)=1:=by decide
 have N:IntKind.i64.wrap (0+2)=2:=by decide
 have j:IntKind.i64.wrap (2+1)=3:=by decide
 have J:IntKind.i64.wrap (2+2)=4:=by decide
 have I:IntKind.i64.wrap (4+1)=5:=by decide
 have H:bc 1 ((4:Nat):Int)=true:=by decide
 have G:bc 3 ((4:Nat):Int)=true:=by decide
 have O:bc 5 ((4:Nat):Int)=false:=by decide
 have F:dS (ic 0)=some 0:=rfl;have B:dS (ic 1)=some 1:=rfl;have A:dS (ic 2)=some 2:=rfl;have z:dS (ic 3)=some 3:=rfl;refine aq.ofNZ aiH (co ?_);simp only[go_sem,df,bP,ah,aB,bQ,ee,ey,eI,cK,uO,ep,reduceCtorEq,eR];refine bG ?_;cases e1:an (gu a.1 b.1) 0 with
 |false=>
  have h:uV a b=gu a.1 b.1:=by unfold uV;rw[e1];rfl
  simp only[go_sem,df,bP,ah,aB,bQ,ee,ey,eI,cK,uO,ep,reduceCtorEq,eR,E5,w,H,F,B,e,nN,d,y,e1,h,cd]
 |true=>
  have h:uV a b=gu a.2 b.2:=by unfold uV;rw[e1];rfl
  simp only[go_sem,df,bP,ah,aB,bQ,ee,ey,eI,cK,uO,ep,reduceCtorEq,eR,E5,w,N,H,F,B,e,nN,d,y,e1];refine bG ?_;cases e2:an (gu a.2 b.2) 0 with
  |false=>simp only[go_sem,df,bP,ah,aB,bQ,ee,ey,eI,cK,uO,ep,reduceCtorEq,eR,E5,j,G,A,z,e,nN,d,x,e2,h,cd]
  |true=>
   have S:gu a.2 b.2=0:=by simpa[an] using e2
   simp only[go_sem,df,bP,ah,aB,bQ,ee,ey,eI,cK,uO,ep,reduceCtorEq,eR,E5,j,J,G,A,z,e,nN,d,x,e2];refine bG ?_;simp only[go_sem,df,bP,ah,aB,bQ,ee,ey,eI,cK,uO,ep,reduceCtorEq,eR,E5,I,O,h,S,cd]
def aea(h:No Q 221)(d:No Q 222)(e:Q.spec 228=some pO)(a b:iz)(w:s.gt<=s.aL):aq Q 221 [w9 a,w9 b] s (cd (uV a.1 b.1)) s:=by
 have u:dS (ic 0)=some 0:=rfl;have j:dS (ic 1)=some 1:=rfl;refine aq.ofNZ aiG (co ?_);simp only[go_sem,df,bP,ah,aB,bQ,ee,ey,eI,cK,uO,ep,reduceCtorEq,eR,w9,u,j,bj,bg,aZ,bf,evc];refine cG.of (aeb d e a.1 b.1 w) (by decide) ?_;simp only[go_sem,df,bP,ah,aB,bQ,ee,ey,eI,cK,uO,ep,reduceCtorEq,eR,cd]
def io(l:List Obj)(d:List CK×(CK->List ag))(o:Obj):List CK×(CK->List ag):=(jJ l o).foldl (jk o.id) d
theorem Hq(id:ag)(k:CK): ∀(e:List CK) (d:List CK×(CK->List ag)),((e.foldl (jk id) d).2 k).length<=(d.2 k).length+e.length
 | [],d=>by simp
 |j::e,d=>by
  rw[uA];refine fA (Hq id k e _) ?_;have:((jk id d j).2 k).length<=(d.2 k).length+1:=by
   unfold jk;cases (d.2 j).contains id with
   |true=>simp
   |false=>
    simp only[cF];by_cases h:k=j;subst h;rw[qm,cJ];simp;rw[lf _ _ h];omega
  rw[bH];omega
variable{o:Obj}
def aaj(d:o.nR=2\/o.nR=3):(kP o).length<=o.gE.length:=by
 rcases d with d|d
 rw[P5 d];omega;rw[aai d];exact br _
variable{l:List Obj}
def OH(h:w8 l o=false):jJ l o=[]:=by unfold jJ;rw[h];rfl
def OI(h:w8 l o=true):jJ l o=kP o:=by unfold jJ;rw[h];rfl
def alS(b8:No Q 130)(b1:No Q 223)(b6:No Q 219)(a9:No Q 301)(b0:No Q 261)(b7:No Q 167){ov:aa}(ho:ay 6 Obj.val ov l)(hg: ∀o∈l,o.oM)(hl:l.length<=1000)(hr: ∀o∈l,o.gE.length<=999){n m lo:Nat}(hn:n<lo)(d1:n≠m){s0:St}(hM:bR aa.str s0 n (i9 0 l)){K:Ex->Fr->St->Prop}{KE:List CK}{VE:CK->List ag}(hx: ∀e lc s T,Aa s m lo KE VE T->(∀k,k<lo->k≠m->s.get [] k=s0.get [] k)->s0.aL<=s.aL->s.gt<=s.aL->ac e 3= .map m->K (.exit 0) ⟨e,110,lc⟩ s):
 ∀(A d:List Obj) (u:List CK) (V1:CK->List ag) (T1:CK->Nat) (e:ax) (lc:Ag.Loc) (s:St),l=d++A->A.foldl (io l) (u,V1)=(KE,VE)->Aa s m lo u V1 T1->(∀k,(V1 k).length<=999*d.length)->(∀k,k<lo->k≠m->s.get [] k=s0.get [] k)->s0.aL<=s.aL->s.gt<=s.aL->
  ac e 3= .map m->ac e 17=ov->ac e 18=uM l.length->ac e 19=uM d.length->ac e 1= .rd 1 1 0->lc.get 1 1=some [ov,.map n]->lc.gen 1=1->W Q 127 (.loop ET) ⟨e,110,lc⟩ s K:=by
 intro A
 induction A with
 |nil=>
  intro d u V1 T1 e lc s H N hO hV Z a5 a1 h3 y w x r1 l1 g1;have d2:d.length=l.length:=by rw[H];simp
  simp only[List.foldl_nil,bI] at N;obtain⟨rfl,rfl⟩:=N;refine bG ?_;simp only[go_sem,seval,ET,w,x,d2,cD];exact hx _ _ _ T1 hO Z a5 a1 (by simp only[sN,seval,h3])
 |cons o A ih=>
  intro d u V1 T1 e lc s H N hO hV Z a5 a1 h3 y w x r1 l1 g1;have a6:d.length<l.length:=by rw[H];simp
  have c7:l[d.length]? =some o:=by rw[H];simp
  have a7:=fun lc k=>ho.at gX.2.2.1 c7 lc k;have G:=dB (n:=d.length) (by omega);have c2:=eP c7;have go:=hg o c2;have e8:=hr o c2;have rc:=go.gE.ge;have tc:=go.gT.ge;have c6:=ho.ge;have c4:=go.gE.lenS cH;rw[uA] at N;have a8: ∀k,(V1 k).length<=999*(d++[o]).length:=fun k=>by
   have:=hV k;rw[cJ,bH,bn];omega
  have e9:=hO.mlt;have f0:=hO.los;refine bG ?_;by_cases hk:o.nR=2\/o.nR=3
  ·have d4:bR aa.str s n (i9 0 l):=(Z n hn d1).trans hM
   have S:=anj b6 a9 b0 b7 ho d4 (by omega) go (by omega);obtain⟨z,hz⟩:=ct (s.new (.cells [ov,.map n]));rw[hz] at S;have zn:z.aL=s.aL+1:=by rw[<-hz];rfl
   have zo: ∀j,j<s.aL->z.get [] j=s.get [] j:=fun j hj=>by rw[<-hz,fk,bN.2 (by omega:j≠s.aL)];rfl
   have zm:z.gt<=z.aL:=by rw[<-hz];exact cq a1
   have zO:Aa z m lo u V1 T1:=hO.mono (zo m (by omega)) (fun k hk=>zo _ (hO.tok k hk).2.2) (by omega);have a2: ∀k,k<lo->k≠m->z.get [] k=s0.get [] k:=fun k H h2=>(zo k (by omega)).trans (Z k H h2);have a0:(an o.nR 2=true)\/(an o.nR 2=false/\an o.nR 3=true):=by
    rcases hk with h|h
    left;rw[h];rfl;right;rw[h];exact⟨rfl,rfl⟩
   have Y:w8 l o=o.gE.all (ei l):=by
    unfold w8;rcases a0 with h|⟨h,h'⟩
    rw[h];rfl;rw[h,h'];rfl
   have fin: ∀(O:ax) (F:Ag.Loc),o.gE.all (ei l)=true->ac O 3= .map m->ac O 17=ov->ac O 18=uM l.length->ac O 19=uM d.length->ac O 1= .rd 1 1 0->F.get 1 1=some [ov,.map n]->F.gen 1=1-> ∀g5,ac O 5= .rd 5 g5 0->F.gen 5=g5->F.get 5 g5=some o.cells->
    ac O 38=o.refsV->ac O 39=uM o.gE.length->ac O 40=ic ((0:Nat):Int)-> ∀K':Ex->Fr->St->Prop,(∀I B J T2,Aa J m lo (io l (u,V1) o).1 (io l (u,V1) o).2 T2->(∀k,k<lo->k≠m->J.get [] k=s0.get [] k)->s0.aL<=J.aL->J.gt<=J.aL->ac I 3= .map m->ac I 17=ov->ac I 18=uM l.length->ac I 19=uM d.length->ac I 1= .rd 1 1 0->B.get 1 1=some [ov,.map n]->B.gen 1=1->K' (.exit 2) ⟨I,110,B⟩ J)->W Q 127 (.loop yN) ⟨O,110,F⟩ z K':=by
    intro O F c8 c3 e7 e6 e5 c1 cl cg g5 c5 d7 d6 e4 e3 e0 K' hK;have c0:io l (u,V1) o=(kP o).foldl (jk o.id) (u,V1):=by
     unfold io;rw[OI (by rw[Y];exact c8)]
    exact amo b8 b1 go hk (by omega) (s0:=z) (KE:=(io l (u,V1) o).1) (VE:=(io l (u,V1) o).2) (n17:=ov) (n18:=l.length) (n19:=d.length) (x1:=some [ov,.map n]) (fun I B J T2 q1 q2 q3 q4 q5 q6 q7 q8 q9 d0 c9=>hK I B J T2 q1 (fun k H h2=>(q2 k H h2).trans (a2 k H h2)) (by omega) q4 q5 q6 q7 q8 q9 d0 c9) o.gE.length 0 u V1 T1 O F z (by omega) (by rw[nz,c0]) zO (fun k=>by have:=hV k;omega) (fun _ _ _=>rfl) (br _) zm c3 e7 e6 e5 c1 cl cg c5 d7 d6 e4 e3 e0
   rcases a0 with e1|⟨e1,I⟩
   ·simp only[go_sem,seval,ET,r1,l1,g1,y,w,x,a6,a7,G,e1,c6,rc,tc,Obj.val,Obj.cells]
    refine cG.of S (by decide) ?_;cases hb:o.gE.all (ei l) with
    |false=>
     have U:io l (u,V1) o=(u,V1):=by
      unfold io;rw[OH (by rw[Y];exact hb)];rfl
     rw[U] at N;simp only[go_sem,seval,x,G];refine ih (d++[o]) u V1 T1 _ _ z (by rw[H];simp) N zO a8 a2 (by omega) zm ?_ ?_ ?_ ?_ ?_ ?_ ?_
     all_goals simp only[abc,dj,cY,ah,h3,y,w,r1,l1,g1,sA]
    |true=>
     simp only[go_sem,seval,Obj.cells,c4,rc,tc];refine fin _ _ hb ?_ ?_ ?_ ?_ ?_ ?_ ?_ (lc.gen 5+1) ?_ ?_ ?_ ?_ ?_ ?_ _ ?_
     case refine_14=>
      intro d5 B J T2 p1 p2 p3 p4 p5 p6 p7 p8 p9 a4 a3;simp only[go_sem,seval,p8,G];refine ih (d++[o]) (io l (u,V1) o).1 (io l (u,V1) o).2 T2 _ _ J (by rw[H];simp) N p1 (fun k=>?_) p2 p3 p4 ?_ ?_ ?_ ?_ ?_ ?_ ?_;have q1:=Hq o.id k (kP o) (u,V1);have q2:=aaj hk;have q3:=hV k;have q4:(io l (u,V1) o).2 k=((kP o).foldl (jk o.id) (u,V1)).2 k:=by
       unfold io;rw[OI (by rw[Y];exact hb)]
      rw[q4,cJ,bH,bn];simp only at q1;omega
      all_goals simp only[abc,dj,cY,ah,p5,p6,p7,p9,a4,a3,sA]
     all_goals simp only[abc,dj,cY,ah,h3,y,w,x,r1,l1,g1,Obj.cells,bS]
     all_goals rfl
   ·simp only[go_sem,seval,ET,r1,l1,g1,y,w,x,a6,a7,G,e1,I,c6,rc,tc,Obj.val,Obj.cells]
    refine cG.of S (by decide) ?_;cases hb:o.gE.all (ei l) with
    |false=>
     have U:io l (u,V1) o=(u,V1):=by
      unfold io;rw[OH (by rw[Y];exact hb)];rfl
     rw[U] at N;simp only[go_sem,seval,x,G];refine ih (d++[o]) u V1 T1 _ _ z (by rw[H];simp) N zO a8 a2 (by omega) zm ?_ ?_ ?_ ?_ ?_ ?_ ?_
     all_goals simp only[abc,dj,cY,ah,h3,y,w,r1,l1,g1,sA]
    |true=>
     simp only[go_sem,seval,Obj.cells,c4,rc,tc];refine fin _ _ hb ?_ ?_ ?_ ?_ ?_ ?_ ?_ (lc.gen 5+1) ?_ ?_ ?_ ?_ ?_ ?_ _ ?_
     case refine_14=>
      intro d5 B J T2 p1 p2 p3 p4 p5 p6 p7 p8 p9 a4 a3;simp only[go_sem,seval,p8,G];refine ih (d++[o]) (io l (u,V1) o).1 (io l (u,V1) o).2 T2 _ _ J (by rw[H];simp) N p1 (fun k=>?_) p2 p3 p4 ?_ ?_ ?_ ?_ ?_ ?_ ?_;have q1:=Hq o.id k (kP o) (u,V1);have q2:=aaj hk;have q3:=hV k;have q4:(io l (u,V1) o).2 k=((kP o).foldl (jk o.id) (u,V1)).2 k:=by
       unfold io;rw[OI (by rw[Y];exact hb)]
      rw[q4,cJ,bH,bn];simp only at q1;omega
      all_goals simp only[abc,dj,cY,ah,p5,p6,p7,p9,a4,a3,sA]
     all_goals simp only[abc,dj,cY,ah,h3,y,w,x,r1,l1,g1,Obj.cells,bS]
     all_goals rfl
  ·have e1:an o.nR 2=false:=by simp only[an,bN];exact fun h=>hk (.inl h)
   have I:an o.nR 3=false:=by simp only[an,bN];exact fun h=>hk (.inr h)
   have U:io l (u,V1) o=(u,V1):=by
    unfold io;rw[OH (by unfold w8;rw[e1,I];rfl)];rfl
   rw[U] at N;simp only[go_sem,seval,ET,r1,l1,g1,y,w,x,a6,a7,G,e1,I,Obj.val,Obj.cells];refine ih (d++[o]) u V1 T1 _ _ s (by rw[H];simp) N hO a8 Z a5 a1 ?_ ?_ ?_ ?_ ?_ ?_ ?_
   all_goals simp only[abc,dj,cY,ah,h3,y,w,r1,l1,g1,sA]
end Go.Proofs.YtnnppcoplinajaaGreat
namespace Go.Proofs.YtnnppcoplinajaaGreat
open Go.Ag
open Go.Sort (SWO)
theorem HI(a b:ag):gu a b=dz a b:=by
 unfold gu;cases h:Op.bytesLess a b with
 |true=>
  have u:=(B6 a b).2 h;rcases TA a b with e|e|e
  rw[e];rfl;omega;omega
 |false=>
  have u: ¬dz a b<0:=fun d=>by rw[(B6 a b).1 d] at h;cases h
  have w:=B7 a b;cases h2:Op.bytesLess b a with
  |true=>
   have j:=(B6 b a).2 h2;rcases TA a b with e|e|e
   omega;omega;rw[e];rfl
  |false=>
   have j: ¬dz b a<0:=fun d=>by rw[(B6 b a).1 d] at h2;cases h2
   simp only[cF];omega
def HK(a b:CK):uV a b=jm a b:=by
 unfold uV jm;rw[HI,HI]
def Ec:aa->Option iz
 | .agg [.str a,.str b,.list 1 xs .no]=>(iV jl xs).bind fun l=>some ((a,b),l,0)
 |_=>none
def acQ(a:iz):Ec (w9 a)=some (a.1,a.2.1,0):=by
 show(iV jl (a.2.1.map aG)).bind (fun l=>some ((a.1.1,a.1.2),l,0))=_;rw[yX oc];rfl
def Sj{v:aa}{a:iz}(h:Ec v=some a):v=w9 a:=by
 unfold Ec at h;split at h;simp only[ak,aJ] at h;obtain⟨l,d,rfl⟩:=h;rw[FE (fun _ _ h=>pM h) d];rfl;cases h
def Ml:Sp
 | [u,v]=>(Ec u).bind fun a=>(Ec v).bind fun b=>some (cd (uV a.1 b.1))
 |_=>none
def alN(a:iz):bL (w9 a)=true:=by
 simp only[w9,bL,pures,vE vQ,cw,je]
def acx:dX:=[(228,pO)]
def acy:dR acx:=.cons Mi .nil
def aei:db ae 221 Ml:=by
 refine GK acy (W:=[]) .nil fun d u h=>?_;unfold Ml at h;split at h;simp only[ak] at h;obtain⟨a,j,b,e,h⟩:=h;have h:=sI h;subst h;rw[Sj j,Sj e];refine⟨by simp only[pures,alN,cw],fun w=>⟨_,_,aea ⟨rfl,rfl⟩ ⟨rfl,rfl⟩ rfl a b (br _),1,rfl⟩⟩;cases h
noncomputable def C5(l:List iz):Bool:=by classical exact decide (l.length<=1000000/\(l.map (·.1)).Nodup)
abbrev jy:iz:=(([],[]),[],0)
def oh(a b:iz):Int:=uV a.1 b.1
noncomputable def KF:=xJ iO oh jy C5 3 221
def KN{α β:Type}{d:α->α->Int}(h:SWO (ltOf d))(k:β->α):SWO (ltOf fun x y=>d (k x) (k y)) where
 irrefl x:=h.irrefl (k x)
 trans x y z:=h.trans (k x) (k y) (k z)
 ntrans x y z:=h.ntrans (k x) (k y) (k z)
def alO(a:iz)(h:aC aR):fY h (iO a) (w9 a):=by
 refine⟨3,?_⟩;have:dL (cL h 1) (a.2.1.map aG)=some (a.2.1.map aG):=yF fun v d=>by
  obtain⟨x,_,rfl⟩:=dy.1 d;rfl
 show(dL (cL h 2) [.str a.1.1,.str a.1.2,.list 1 (a.2.1.map aG) (.own a.2.2)]).bind (fun r=>some (aa.agg r))=_;have e:cL h 2 (.list 1 (a.2.1.map aG) (.own a.2.2))=some (.list 1 (a.2.1.map aG) .no):=by
  show(dL (cL h 1) (a.2.1.map aG)).bind (fun ys=>some (aa.list 1 ys .no))=_;rw[this];rfl
 simp only[dL,e,au];rfl
def aqZ:uN 220 KF:=by
 refine aq1 (encF:=w9) Tryz.sortF220 rfl Tryz.isAgg200 Tryz.sizeOf200 (Go.Proofs.enters_of Tryz.func220 (by kernel_rfl) rfl) (Go.Proofs.enters_of Tryz.func221 (by kernel_rfl) rfl) aei (fun _=>rfl) (fun _=>rfl) (by decide) alO fun l d=>?_;simp only[C5,dE] at d;refine⟨d.1,fun i j x y A z=>?_,?_,?_⟩;simp only[Ml,acQ,au];rfl;have e:(fun x y:Fin l.length=>eT oh jy l x y)=fun x y:Fin l.length=>jm (l.getD x jy).1 (l.getD y jy).1:=by
  funext x y;simp only[eT,oh,HK]
 rw[e];exact KN GN fun i:Fin l.length=>(l.getD i jy).1;intro x y w u;have e:(fun x y:Fin l.length=>eT oh jy l x y)=fun x y:Fin l.length=>jm (l.getD x jy).1 (l.getD y jy).1:=by
  funext x y;simp only[eT,oh,HK]
 rw[e] at w u;have h:=aa8 _ _ w u;rw[Cp,Cp] at h;exact Fin.ext (JK d.2 (i:=x) (j:=y) (x:=l[x]) (y:=l[y]) (by simp) (by simp) h)
def ap3{K:List CK}(G:K.Nodup)(I:K.length<=1000000)(g:CK->iz)(F: ∀k,(g k).1=k){rows:List iz}(z:rows.Perm (K.map g)):C5 rows=true/\kA oh jy rows=(Dw K).map g:=by
 have B:(K.map g).map (·.1)=K:=by
  rw[mI]
  conv=>rhs;rw[<-List.map_id K]
  exact DW fun k _=>F k
 have A:C5 rows=true:=by
  simp only[C5,dE];refine⟨by rw[z.length_eq,ce];exact I,?_⟩;rw[(z.map _).nodup_iff,B];exact G
 refine⟨A,?_⟩;have j:=(xH oh jy rows).trans z;have J:SWO (ltOf fun x y:Fin rows.length=>eT oh jy rows x y):=by
  have e:(fun x y:Fin rows.length=>eT oh jy rows x y)=fun x y:Fin rows.length=>jm (rows.getD x jy).1 (rows.getD y jy).1:=by
   funext x y;simp only[eT,oh,HK]
  rw[e];exact KN GN fun i:Fin rows.length=>(rows.getD i jy).1
 have H:=KD oh jy rows J;have d:(kA oh jy rows).map (·.1)=Dw K:=by
  refine aqW (((j.map _).trans (by rw[B])).trans (GH K).symm) ?_ (aat K);rw[Ha];refine H.imp fun {a b} h=>?_;simp only[oh,HK] at h;simp only[ltOf,awP,decide_eq_false_iff_not];exact h
 have u: ∀x∈kA oh jy rows,x=g x.1:=fun x w=>by
  obtain⟨k,_,rfl⟩:=dy.1 (j.mem_iff.1 w);rw[F]
 rw[<-d,mI]
 conv=>lhs;rw[<-List.map_id (kA oh jy rows)]
 exact DW fun x w=>u x w
end Go.Proofs.YtnnppcoplinajaaGreat
namespace Go.Proofs.YtnnppcoplinajaaGreat
open Go.Ag
variable{Q:aH}[Std Q]
variable{R:List iz}
def OJ: ∀v∈R.map iO,v.cells.length=3:=fun v d=>by
 obtain⟨x,_,rfl⟩:=dy.1 d;rfl
variable{n:Nat}{s:St}{o:aR}
theorem cz(h:n<s.aL):(s.new o).get [] n=s.get [] n:=by
 rw[fk,bN.2 (by omega:n≠s.aL)];rfl
def cW:(s.new o).get [] s.aL=some o:=by rw[fk,bS];rfl
variable{m:Nat}{α:Type}{t:TypeId}
def alF{enc:α->aa}{kt e:TypeId}(d:ae.underlying t=some (.map kt e)){L:List (α×aa)}(h:bR enc s m L):jo ae [] t (.map m) s=some (uM L.length):=by
 have h:s.get [] m=_:=h;simp only[jo,d,au,h,MB]
def abb:ae.underlying 279=some (.map 196 25):=by kernel_rfl
variable{E:EI}{sz:Nat}
def acM(I:lV ae t=some E)(w:E.n=sz)(H:E.b<=88){k:Nat}{xs:List aa}(x:aa)(e: ∀y∈xs,y.cells.length=sz)(z:xs.length<1000000)(F:s.gt<=s.aL)(G:s.get [] k=some (.cells (aF xs)))(A:Bool):
 ∃d,fF ae [] t (.arr sz k 0 xs.length xs.length) (.list sz [x] .uP) A s=some (.arr sz s.aL 0 (xs.length+1) (xs.length+1),d)/\d.get [] s.aL=some (.cells (aF (xs++[x])))/\d.aL=s.aL+1/\d.ci=s.ci/\d.gt<=d.aL/\(∀n,n<s.aL->n≠k->d.get [] n=s.get [] n):=by
 subst w;have B:jc (xs.length+1) E.b=true:=vI (by omega) H;have u:(aF xs).length=xs.length*E.n:=MP e;have j:aF [x]=x.cells:=by show x.cells++aF []=_;simp[aF]
 refine⟨(s.put k none).new (.cells (aF (xs++[x]))),?_,?_,rfl,rfl,?_,fun n w h=>?_⟩;simp only[afo,fF,I,au,eE,jG,G,bH,bn,bV,B,u,cw,nz,j,qF];rw[fk,lR,bS];rfl;exact cq (dh s k none F);rw[fk,lR,bN.2 (by omega:n≠s.aL),cF,aX,bN.2 h];rfl
variable{C:Ex->Fr->St->Prop}{it:Nat}
def alQ(Z: ∀i,1000000<=Q.kmax i){K:List CK}{V:CK->List ag}{T:CK->Nat}(a0:K.length<1000000){s0:St}(hx: ∀e lc s (r:Nat) (rows:List iz),rows.Perm (K.map fun k=>(k,V k,T k))->ac e 11= .arr 3 r 0 rows.length rows.length->s.get [] r=some (.cells (aF (rows.map iO)))->r<s.aL->s0.aL<=r->(∀n,n<s0.aL->s.get [] n=s0.get [] n)->s.gt<=s.aL->C (.exit 4) ⟨e,110,lc⟩ s):
 ∀(c:Nat) (seen:List Nat) (e:ax) (lc:Ag.Loc) (s:St) (r:Nat),c+seen.length=K.length->jv jw s it m (gZ K fun k=>.list 1 ((V k).map aG) (.own (T k))) seen->ac e 95= .ptr it 0->ac e 11= .arr 3 r 0 seen.length seen.length->s.get [] r=some (.cells (aF ((seen.map fun b=>((fun k=>(k,V k,T k):CK->iz) (K.getD b ([],[])))).map iO)))->
  s0.aL<=r->s0.aL<=it->m<s0.aL->r<s.aL->it<s.aL->r≠it->(∀n,n<s0.aL->s.get [] n=s0.get [] n)->s.gt<=s.aL->W Q 127 (.loop Nr) ⟨e,110,lc⟩ s C:=by
 intro c
 induction c with
 |zero=>
  intro seen e lc s r hc I d h F Y U S O l5 A u j;rcases I.aL Q.ch Q.kmax (fun i=>by rw[uj];have:=Z i;omega) with⟨hp,hnx⟩|⟨b,p,s1,hb,hnm,hlt,_⟩
  rw[uj] at hp;refine bG ?_;simp only[go_sem,seval,Nr,d,yG,hnx,fh,bj,bg,aZ,bf,evc];refine hx _ _ _ r (seen.map fun b=>((fun k=>(k,V k,T k):CK->iz) (K.getD b ([],[])))) ?_ (by simp only[sN,seval,h,ce]) F O Y u j;have h1:=hp.map fun b=>((fun k=>(k,V k,T k):CK->iz) (K.getD b ([],[])));refine h1.trans ?_;have:(ix K.length).map (fun b=>((fun k=>(k,V k,T k):CK->iz) (K.getD b ([],[]))))=K.map fun k=>(k,V k,T k):=by
   refine G4 (by simp) fun i h1 h2=>?_;have z:i<K.length:=by simpa using h2
   simp[nA,z]
  rw[this];rw[uj] at hlt;omega
 |succ c ih=>
  intro seen e lc s r hc I d h F Y U S O l5 A u j;rcases I.aL Q.ch Q.kmax (fun i=>by rw[uj];have:=Z i;omega) with⟨hp,hnx⟩|⟨b,p,s1,hb,hnm,hlt,hnx,ho,z,hn1,hm1⟩
  have:=hp.length_eq;rw[uj,DU] at this;omega;have y:b<K.length:=by
   have:=(nY.1 hb).1;rwa [uj] at this
  have G:p=(K[b],.list 1 ((V K[b]).map aG) (.own (T K[b]))):=by
   have:(gZ K fun k=>aa.list 1 ((V k).map aG) (.own (T k)))[b]? =some (K[b],.list 1 ((V K[b]).map aG) (.own (T K[b]))):=by
    unfold gZ;rw[jf,gn y];rfl
   rw[this] at hb;exact(sI hb).symm
  have H:m≠it:=by omega
  have I1:=I.go H hb hnm ho z;have w:=jv.entry z I1.hm hb;have x:s1.gt<=s1.aL:=by rw[hm1,hn1];exact dh s it none j
  have B:s1.get [] r=_:=(ho r A).trans F;obtain⟨s2,N,a2,a3,a4,a5,J⟩:=acM (t:=193) GB.1 rfl (by decide) (iO (K[b],V K[b],T K[b])) OJ (by rw[ce,ce];rw[uj] at hlt;omega) x B false;rw[ce,ce] at N;subst G;simp only[jw] at hnx w;simp only[iO] at N;refine bG ?_;simp only[go_sem,seval,Nr,d,h,yG,EH,hnx,w,fh,iU,bj,bg,aZ,bf,evc];simp only[go_sem,seval,EH,w,h,fh,iU,N,bj,bg,aZ,bf,evc];refine ih (seen++[b]) _ _ s2 s1.aL (by rw[cJ];simp only[bH,bn];omega) ⟨?_,?_,I1.nd,I1.lt⟩ ?_ ?_ ?_ (by omega) U S (by omega) (by omega) (by omega) (fun n hn=>?_) a5;rw[J it (by omega) (fun e=>A e.symm)];exact I1.hi;exact(J m (by omega) (by omega)).trans I1.hm;simp only[sN,seval,d];simp only[sN,seval,sA];rw[a2,ff,ff];simp[nA,y,iO];rw[J n (by omega) (by omega),ho n (by omega)];exact u n hn
def ip(l:List Obj):List CK×(CK->List ag):=l.foldl (io l) ([],fun _=>[])
theorem acA(id:ag)(k:CK)(d:List CK×(CK->List ag))(h1:d.1.Nodup)(e: ∀j,j ∉ d.1->d.2 j=[]):(jk id d k).1.Nodup/\(∀j,j ∉ (jk id d k).1->(jk id d k).2 j=[])/\(jk id d k).1.length<=d.1.length+1:=by
 unfold jk;cases (d.2 k).contains id with
 |true=>exact⟨h1,e,jQ _⟩
 |false=>
  grind [x5,acB,qO,lf]
theorem aag(id:ag): ∀(e:List CK) (d:List CK×(CK->List ag)),d.1.Nodup->(∀j,j ∉ d.1->d.2 j=[])->(e.foldl (jk id) d).1.Nodup/\(∀j,j ∉ (e.foldl (jk id) d).1->(e.foldl (jk id) d).2 j=[])/\(e.foldl (jk id) d).1.length<=d.1.length+e.length
 | [],d,h1,h2=>⟨h1,h2,br _⟩
 |k::e,d,h1,h2=>by
  obtain⟨a,b,c⟩:=acA id k d h1 h2;obtain⟨w,u,h⟩:=aag id e _ a b
  grind
theorem Pe(l:List Obj): ∀(os:List Obj) (d:List CK×(CK->List ag)),d.1.Nodup->(∀j,j ∉ d.1->d.2 j=[])->(os.foldl (io l) d).1.Nodup/\(∀j,j ∉ (os.foldl (io l) d).1->(os.foldl (io l) d).2 j=[])/\(os.foldl (io l) d).1.length<=d.1.length+(os.flatMap (jJ l)).length
 | [],d,h1,h2=>⟨h1,h2,br _⟩
 |o::os,d,h1,h2=>by
  obtain⟨a,b,c⟩:=aag o.id (jJ l o) d h1 h2;obtain⟨u,h,e⟩:=Pe l os (io l d o) a b
  grind [io]
def ao3(l:List Obj):(ip l).1.Nodup:=(Pe l l ([],fun _=>[]) BC fun _ _=>rfl).1
theorem Y8(l:List Obj):(ip l).1.length<=(l.flatMap (jJ l)).length:=by
 have:(ip l).1.length<=([]:List CK).length+(l.flatMap (jJ l)).length:=(Pe l l ([],fun _=>[]) BC fun _ _=>rfl).2.2
 grind
def iI(l:List Obj):List CK:=Dw (ip l).1
def abM(s:St)(v:aa)(l:List Obj):Prop:= ∃(r c:Nat) (T:CK->Nat),v= .arr 3 r 0 (iI l).length c/\s.get [] r=some (.cells (aF ((iI l).map fun k=>iO (k,(ip l).2 k,T k))))/\r<s.aL
def alP{a b:iz}(h:(iO a).cells=(iO b).cells):a=b:=by
 obtain⟨⟨y,x⟩,e,w⟩:=a;obtain⟨⟨u,b2⟩,b3,b4⟩:=b;simp only[iO,gD,List.cons.injEq,aa.str.injEq,aa.list.injEq,oW.own.injEq,aT,tA] at h;obtain⟨rfl,rfl,j,rfl⟩:=h;have:e=b3:=by
  have d:=yX oc e;rw[j,yX oc b3] at d;exact(sI d).symm
 rw[this]
variable{l:List Obj}{ov:aa}
theorem alM(hK: ∀i,1000000<=Q.kmax i)(b0:No Q 127)(u:Q.spec 220=none)(A:Q.specW 220=some KF)(G:No Q 130)(z:No Q 223)(B:No Q 219)(x:No Q 301)(y:No Q 261)(F:No Q 167)(Z:ay 6 Obj.val ov l)(hg: ∀o∈l,o.oM)(hl:l.length<=1000)(hr: ∀o∈l,o.gE.length<=999)(a6:(ip l).1.length<1000000)(hM:bR aa.str s n (i9 0 l))(hn:n<s.aL)(a1:s.gt<=s.aL):
 ∃v s',aq Q 127 [.agg [ov,.map n]] s v s'/\(abM s' v l/\(∀k,k<s.aL->s'.get [] k=s.get [] k)/\s.aL<=s'.aL/\s'.gt<=s'.aL/\v.ge=true):=by
 have a8:=Z.cs;have a4:=Z.lenS gX;refine aq.ofNRZ ahF (co ?_);simp only[go_sem,seval,a8,a4,wJ,m7];have a9:Aa (s.new (.map [] 0)) s.aL (s.aL+1) [] (fun _=>[]) (fun _=>0):=⟨cW,BC,fun _ h=>(by cases h),fun _ h=>(by cases h),fun _ _=>rfl,kU _,br _⟩;refine alS G z B x y F Z hg hl hr (n:=n) (m:=s.aL) (lo:=s.aL+1) (by omega) (by omega) (s0:=s.new (.map [] 0)) (by show St.get _ [] n=_;rw[cz hn];exact hM) (KE:=(ip l).1) (VE:=(ip l).2) ?_ l [] [] (fun _=>[]) (fun _=>0) _ _ _ rfl rfl a9 (fun _=>ki _) (fun _ _ _=>rfl) (br _) (cq a1) ?_ ?_ ?_ ?_ ?_ ?_ ?_
 ·intro e lc d T hO c0 a0 N h3
  have j:=alF abb hO.hm;rw[uj] at j;have a2:ow ae 193 (ic 0) (uM (ip l).1.length) true d=some (.arr 3 d.aL 0 0 0,d.new (.cells [])):=by
   have h1:bw 0 (ip l).1.length=true:=cP (ki _);have h2:bw ((ip l).1.length*56) 1099511627776=true:=cP (by omega);have h3:bw (ip l).1.length 1099511627776=true:=cP (by omega);have n0:dS (ic 0)=some 0:=rfl;simp only[akZ,ow,GB,n0,oz,h1,h2,h3,fp,gN,cw,cF,aZ]
  have b1:s.aL+1<=d.aL:=a0;have O:bR jw (d.new (.cells [])) s.aL (gZ (ip l).1 fun k=>.list 1 (((ip l).2 k).map aG) (.own (T k))):=by
   show St.get _ [] s.aL=_;rw[cz (by omega)];exact hO.hm
  have I:=jv.new abb O;have hI:=jv.begin O (by show s.aL<d.aL+1;omega);rw[uj] at I;simp only[go_sem,seval,h3,j,Py,a2,H3,I,iU];refine alQ hK (it:=d.aL+1) (m:=s.aL) (K:=(ip l).1) (V:=(ip l).2) (T:=T) a6 (s0:=d) ?_ (ip l).1.length [] _ _ _ d.aL (by simp) (by rw[uj] at hI;exact hI) ?_ ?_ ?_ (br _) (jQ _) (by omega) ?_ ?_ (by omega) (fun k hk=>?_) ?_
  ·intro e2 b7 s2 r rows hp S U a3 b8 b6 J
   obtain⟨Y,w⟩:=ap3 (ao3 l) (by omega) (fun k=>(k,(ip l).2 k,T k)) (fun _=>rfl) hp;have a5:rows.length=(iI l).length:=by rw[hp.length_eq,ce];exact(GH _).length_eq.symm
   have a7:(bif aQ (aF (rows.map iO)).length (rows.length*3) then xG iO oh jy C5 (aF (rows.map iO)) else none)=some (aF ((iI l).map fun k=>iO (k,(ip l).2 k,T k))):=by
    have h1:(aF (rows.map iO)).length=rows.length*3:=by rw[oG OJ,ce]
    rw[h1,bD,bS,cT,xG,HQ (k:=3) (fun _=>rfl) (by decide) (fun a b=>alP)];simp only[akZ,Y,w,mI];rfl
   simp only[go_sem,seval,S,iU,u];refine cG.of (aq.specWp (n:=r) (cs':=aF ((iI l).map fun k=>iO (k,(ip l).2 k,T k))) u (Std.H _) A rfl U a7) (by decide) ?_;simp only[go_sem,seval,S,iU];refine⟨_,rfl,⟨r,rows.length,T,by rw[a5],by rw[aX,bS];rfl,a3⟩,fun k hk=>?_,?_,dh s2 r _ J,rfl⟩
   all_goals grind [aX,cz]
  simp only[sN,seval]<;>rfl;simp only[sN,seval]<;>rfl;rw[cz (by show d.aL<d.aL+1;omega),cW];rfl;show d.aL<d.aL+1+1;omega;show d.aL+1<d.aL+1+1;omega;rw[cz (by show k<d.aL+1;omega),cz hk];exact cq (cq N)
 all_goals simp_all [aj,dj,cY]
variable{lo:Nat}
def LG(G:lV ae t=some E)(w:E.n=sz)(B:E.b<=88){enc:α->aa}{l:List α}(F:cR sz lo s ov (l.map enc))(a:α)(x:l.length<=900000)(u:lo<=s.aL)(A:s.gt<=s.aL):
 ∃d h,fF ae [] t ov (.list sz [enc a] .uP) false s.top=some (d,h)/\cR sz lo (s.rX h) d ((l++[a]).map enc)/\h.ci=s.ci/\s.aL<=h.aL/\(s.rX h).gt<=(s.rX h).aL/\(∀n,n<lo->(s.rX h).get [] n=s.get [] n)/\d.ge=true/\d.cells=[d]:=by
 obtain⟨d,h,O,z,N,J,S,H,I⟩:=Eb (t:=t) G w B (s:=s.top) (y:=.list sz [enc a] .uP) (ys:=[enc a]) (show cR sz lo s.top ov _ from F) (by subst w;simp only[afo,eE]) (by rw[ce];show l.length+1<=1000000;omega) u (br _);have j:s.aL<=h.aL:=J;have e:(l++[a]).map enc=l.map enc++[enc a]:=by rw[ff];rfl
 exact⟨d,h,O,by rw[e];exact z,N,j,pW A j,H,z.ge,I⟩
variable{i:Nat}
def JB{r:Nat}(h:s.get [] r=some (.cells (aF (R.map iO)))){x:iz}(hi:R[i]? =some x):yT ae 200 (i*3) (s.get [] r)=some (iO x):=by
 rw[h,aY,apt,ZW OJ (by rw[jf,hi];rfl)];rfl
def OL(mk:aK)(n m o l c:Nat)(s:St):jo ae mk 193 (.arr n m o l c) s=some (uM l):=by kernel_rfl
def Gi{k:ag}{q:Obj}(h:dP k l=some q):fJ l k=(q.x,q.y):=by unfold fJ;rw[h]
variable{K:Ex->Fr->St->Prop}{c:Nat}
def aqv(z:No Q 129)(ho:ay 6 Obj.val ov l){r:Nat}(c0:R.length<=1000)(hk: ∀x∈R,(∃q,dP x.1.1 l=some q)/\ ∃q,dP x.1.2 l=some q){s0:St}(hM:bR aa.str s0 n (i9 0 l))(hr:s0.get [] r=some (.cells (aF (R.map iO))))(hn:n<lo)(b1:r<lo)(hx: ∀e lc s sv,cR 4 lo s sv ((R.map fun x=>pA l x.1).map bX)->(∀k,k<lo->s.get [] k=s0.get [] k)->s.gt<=s.aL->lo<=s.aL->ac e 5=sv->K (.exit 0) ⟨e,30,lc⟩ s):
 ∀(j d:List iz) (e:ax) (lc:Ag.Loc) (s:St) (sv:aa),R=d++j->cR 4 lo s sv ((d.map fun x=>pA l x.1).map bX)->(∀k,k<lo->s.get [] k=s0.get [] k)->s.gt<=s.aL->lo<=s.aL->ac e 5=sv->ac e 8= .arr 3 r 0 R.length c->ac e 9=uM R.length->ac e 10=uM d.length->ac e 2= .rd 2 1 0->lc.get 2 1=some [ov,.map n]->lc.gen 2=1->W Q 132 (.loop Nu) ⟨e,30,lc⟩ s K:=by
 intro j
 induction j with
 |nil=>
  intro d e lc s sv G Y u h B h5 h8 h9 w h2 H g2;have b8:d.length=R.length:=by rw[G];simp
  have b6:d=R:=by rw[G];simp
  refine bG ?_;simp only[go_sem,seval,Nu,h9,w,b8,cD];rw[b6] at Y;exact hx _ _ _ sv Y u h B (by simp only[sN,seval,h5])
 |cons x j ih=>
  intro d e lc s sv G Y u h B h5 h8 h9 w h2 H g2;have b7:d.length<R.length:=by rw[G];simp
  have U:R[d.length]? =some x:=by rw[G];simp
  have b0:s.get [] r=_:=(u r b1).trans hr;have S:=JB b0 U;have a9:=dB (n:=d.length) (by omega);have Z:bR aa.str s.top n (i9 0 l):=(u n hn).trans hM;obtain⟨⟨q1,N⟩,⟨q2,J⟩⟩:=hk x (eP U);have p1:=PF z ho Z N;have p2:=PF z ho Z J;have F:=ho.ge;have A:=Y.ge;have O:=kZ h;have n0:dS (ic 0)=some 0:=rfl;have n1:dS (ic 1)=some 1:=rfl;obtain⟨a0,s1,a1,a2,a3,a4,a5,a6,a7,a8⟩:=LG (t:=205) zF.1 rfl (by decide) Y (pA l x.1) (by
   rw[ce];omega) B h
  have I:bX (pA l x.1)= .agg [ic q1.x,ic q1.y,ic q2.x,ic q2.y]:=by
   simp only[bX,pA,Gi N,Gi J]
  rw[I] at a1;simp only[iO] at S;refine lk ?_;simp only[go_sem,seval,Nu,h8,h9,w,b7,S,aW,GB,L8];refine iT h ?_;simp only[go_sem,Im,seval,h5,h2,H,g2,A,F,n0,n1];refine kY.calm h p1 (by decide) (by rfl) ?_;simp only[go_sem,Im,seval,h5,h2,H,g2,A,F,n0,n1];refine kY.calm h p2 (by decide) (by rfl) ?_;simp only[go_sem,Im,seval,aU,w,a9,h5,h2,H,g2,A,F,n0,n1,a1,a3,a4,a7,O,bj,bg,aZ,bf,evc];refine ih (d++[x]) _ _ (s.rX s1) a0 (by rw[G];simp) (by rw[ff];exact a2) (fun k hk=>(a6 k hk).trans (u k hk)) a5 (by show lo<=s1.aL;omega) ?_ ?_ ?_ ?_ ?_ ?_ ?_
  all_goals simp only[abc,dj,cY,ah,h2,H,g2,h8,h9,sA]
def aqw(F:No Q 132)(d:No Q 129)(G:ay 6 Obj.val ov l){r:Nat}(z:R.length<=1000)(N: ∀x∈R,(∃q,dP x.1.1 l=some q)/\ ∃q,dP x.1.2 l=some q)(O:bR aa.str s n (i9 0 l))(I:s.get [] r=some (.cells (aF (R.map iO))))(J:n<s.aL)(u:r<s.aL)(w:s.gt<=s.aL):
 ∃v s',aq Q 132 [.agg [ov,.map n],.arr 3 r 0 R.length c] s v s'/\(ay 4 bX v (R.map fun x=>pA l x.1)/\(∀k,k<s.aL->s'.get [] k=s.get [] k)/\s.aL<=s'.aL/\s'.gt<=s'.aL):=by
 have B:=G.cs;refine aq.ofNRZ ahQ ?_;refine WE.sound ?_;simp only[go_sem,seval,B,wJ,iU,OL];refine aqv d G (c:=c) (lo:=s.aL) z N O I J u ?_ R [] _ _ s .oZ rfl (.inl ⟨rfl,rfl⟩) (fun _ _=>rfl) w (br _) ?_ ?_ ?_ ?_ ?_ ?_ ?_;intro e lc U sv H A h y S;have j:=H.ge;simp only[go_sem,seval,S,j];exact⟨_,rfl,H.isL,A,y,h⟩
 all_goals simp only[abc,alb,ah,bQ]
 all_goals rfl
def OY(x y z:Int):Int:=match tM false (.int .i64 x) [.int .i64 y,.int .i64 z] with|some (.int _ w)=>w|_=>0
def O1(x y z:Int):Int:=match tM true (.int .i64 x) [.int .i64 y,.int .i64 z] with|some (.int _ w)=>w|_=>0
def SO(P:Program)(mk:aK)(d:List TypeId)(e:Bool)(x y z:Int)(s:St):jH P mk .min d e [ic x,ic y,ic z] s=some (ic (OY x y z),s):=rfl
def SP(P:Program)(mk:aK)(d:List TypeId)(e:Bool)(x y z:Int)(s:St):jH P mk .max d e [ic x,ic y,ic z] s=some (ic (O1 x y z),s):=rfl
def rM(n:Nat):List Int:=(ix n).map fun i=>((i:Nat):Int)
def Vj(n:Nat):(rM n).length=n:=by simp[rM]
def Nf(h:i<n):(rM n)[i]? =some ((i:Nat):Int):=by simp[rM,h]
variable{segs:List bT}{lv:aa}
def amO{sv:aa}(hs:ay 4 bX sv segs)(hl:ay 1 cd lv (rM segs.length))(b6:segs.length<=1000){s0:St}(hx: ∀e lc s ov,cR 4 lo s ov (segs.map bX)->(∀k,k<lo->s.get [] k=s0.get [] k)->s.gt<=s.aL->lo<=s.aL->ac e 6=ov->ac e 1=lv->ac e 2= .map m->K (.exit 0) ⟨e,208,lc⟩ s):
 ∀(h d:List bT) (e:ax) (lc:Ag.Loc) (s:St) (ov:aa) (a b:Int),segs=d++h->cR 4 lo s ov (d.map bX)->(∀k,k<lo->s.get [] k=s0.get [] k)->s.gt<=s.aL->lo<=s.aL->ac e 6=ov->ac e 7=ic a->ac e 8=ic b->ac e 0=sv->ac e 1=lv->ac e 2= .map m->ac e 26=lv->ac e 27=uM segs.length->ac e 28=uM d.length->W Q 131 (.loop Il) ⟨e,208,lc⟩ s K:=by
 intro h
 induction h with
 |nil=>
  intro d e lc s ov a b J S I F H h6 Y U Z r1 h2 w u j;have b0:d.length=segs.length:=by rw[J];simp
  have a9:d=segs:=by rw[J];simp
  refine bG ?_;simp only[go_sem,seval,Il,u,j,b0,cD];rw[a9] at S;exact hx _ _ _ ov S I F H (by simp only[sN,seval,h6]) (by simp only[sN,seval,r1]) (by simp only[sN,seval,h2])
 |cons g h ih=>
  intro d e lc s ov a b J S I F H h6 Y U Z r1 h2 w u j;have G:d.length<segs.length:=by rw[J];simp
  have b1:segs[d.length]? =some g:=by rw[J];simp
  have O:=fun lc k=>hs.at zF.2.2.1 b1 lc k;have N:=fun lc k=>hl.at ng.2.2.1 (Nf G) lc k;have z:=dB (n:=d.length) (by omega);have x:=S.ge;obtain⟨B,s1,a1,a2,a3,a4,a5,a6,a7⟩:=Eb (t:=205) zF.1 rfl (by decide) (s:=s) (y:=.list 4 [bX g] .uP) (ys:=[bX g]) S (by simp only[afo,eE]) (by simp only[ce,bH,bn];omega) H F;have A:=a2.ge;simp only[bX] at a1;have a8:cR 4 lo s1 B ((d++[g]).map bX):=by rw[ff];exact a2
  have a0: ∀k,k<lo->s1.get [] k=s0.get [] k:=fun k hk=>(a6 k hk).trans (I k hk);refine bG ?_;cases h0z:an ((d.length:Nat):Int) 0 with
  |true=>
   simp only[go_sem,seval,Il,h6,Y,U,Z,w,u,j,G,O,N,z,bX,cd,x,bj,bg,aZ,bf,evc];simp only[go_sem,seval,Y,U,j,z,x,A,a1,h0z,a5,sY,ru,SO,SP,bj,bg,aZ,bf,evc];refine ih (d++[g]) _ _ s1 B (OY (min g.1.1 g.2.1) g.1.1 g.2.1) (O1 (max g.1.1 g.2.1) g.1.1 g.2.1) (by rw[J];simp) a8 a0 a5 (by omega) ?_ ?_ ?_ ?_ ?_ ?_ ?_ ?_ ?_
   all_goals first
    |(simp only[sN,seval,Z,r1,h2,w,u,sA];done)
    |(simp only[sN,seval];rfl)
  |false=>
   simp only[go_sem,seval,Il,h6,Y,U,Z,w,u,j,G,O,N,z,bX,cd,x,bj,bg,aZ,bf,evc];simp only[go_sem,seval,Y,U,j,z,x,A,a1,h0z,a5,sY,ru,SO,SP,bj,bg,aZ,bf,evc];refine ih (d++[g]) _ _ s1 B (OY a g.1.1 g.2.1) (O1 b g.1.1 g.2.1) (by rw[J];simp) a8 a0 a5 (by omega) ?_ ?_ ?_ ?_ ?_ ?_ ?_ ?_ ?_
   all_goals first
    |(simp only[sN,seval,Z,r1,h2,w,u,sA];done)
    |(simp only[sN,seval];rfl)
def aeX(a b c d:Int):kI ae 8 207 (.agg [ic a,ic b]) (.agg [ic c,ic d])=some (bif an a c then an b d else false):=by
 have h:kI ae 8 207 (.agg [ic a,ic b]) (.agg [ic c,ic d])=(some (an a c)).bind fun r=>bif r then(some (an b d)).bind fun r=>bif r then some true else some false else some false:=by kernel_rfl
 rw[h];cases an a c<;>cases an b d<;>rfl
def alj:BI ae 207 aU where
 eq a b:=by
  obtain⟨j,e⟩:=a;obtain⟨d,b2⟩:=b;have h:=aeX j e d b2;have w:aU (j,e)= .agg [ic j,ic e]:=rfl;have u:aU (d,b2)= .agg [ic d,ic b2]:=rfl;rw[w,u,h];by_cases h1:j=d<;>by_cases h2:e=b2<;>simp[an,h1,h2]
 same a:=by simp[aU,tI,wI,xF,an]
 ge _:=rfl
def als(k:Int×Int):lP ae 203 (aU k)=some (207,3):=by kernel_rfl
def nL(l:List Mt):List ((Int×Int)×aa):=l.map fun x=>((x.1,x.2.1),ic x.2.2)
def UF{k:Int×Int}: ∀ {l:List Mt},(∀y∈l,(y.1,y.2.1)≠k)->cI k (nL l)=none
 | [],_=>rfl
 |y::l,h=>by
  show(if k=(y.1,y.2.1) then _ else cI k (nL l))=_;rw[iN fun e=>h y iL e.symm];exact UF fun z d=>h z (iE _ d)
def LF{l:List bT}{x:Mt}(h:x∈ie l):(0<=x.1/\x.1<l.length)/\(0<=x.2.1/\x.2.1<l.length):=by
 obtain⟨a,u,b,j,d⟩:=J9 h;have e:=Ci d;have y:=AU u;have w:=AU j;omega
def O0(l:List Mt):ay 3 im (FL l) l:=by
 cases l with
 |nil=>exact .inl ⟨rfl,rfl⟩
 |cons x l=>exact .inr ⟨.no,rfl⟩
def anl(hl:ay 1 cd lv (rM segs.length))(u:segs.length<=1000){s0:St}(hx: ∀e lc s,eL m s0 s->bR aU s m (nL (ie segs))->K (.exit 2) ⟨e,208,lc⟩ s):
 ∀(h d:List Mt) (e:ax) (lc:Ag.Loc) (s:St),ie segs=d++h->eL m s0 s->bR aU s m (nL d)->ac e 1=lv->ac e 2= .map m->ac e 82=FL (ie segs)->ac e 83=uM (ie segs).length->ac e 84=uM d.length->W Q 131 (.loop Nt) ⟨e,208,lc⟩ s K:=by
 have a6:(ie segs).length<=1000000:=by
  have:=Gc (F:=fM) (kK 0 segs);rw[wX] at this;have:segs.length*segs.length<=1000*1000:=rf u u;unfold ie;omega
 intro h
 induction h with
 |nil=>
  intro d e lc s B N O U S z j w;have a3:d.length=(ie segs).length:=by rw[B];simp
  have a0:d=ie segs:=by rw[B];simp
  refine bG ?_;simp only[go_sem,seval,Nt,j,w,a3,cD];rw[a0] at O;exact hx _ _ _ N O
 |cons x h ih=>
  intro d e lc s B N O U S z j w;have a2:d.length<(ie segs).length:=by rw[B];simp
  have J:(ie segs)[d.length]? =some x:=by rw[B];simp
  have a4:=fun lc k=>(O0 (ie segs)).at GC.2.2.1 J lc k;have Z:=dB (n:=d.length) (by omega);obtain⟨⟨b1,b2⟩,b3,b4⟩:=LF (eP J);have Y:=hl.ge;have ea:x.1=((x.1.toNat:Nat):Int):=(K8 b1).symm;have eb:x.2.1=((x.2.1.toNat:Nat):Int):=(K8 b3).symm;have I: ∀lc,ja ae lc 26 lv (ic x.1)=some (.ro [ic x.1]):=fun lc=>by
   rw[ea];exact hl.at ng.2.2.1 (Nf (by omega)) lc .i64
  have H: ∀lc,ja ae lc 26 lv (ic x.2.1)=some (.ro [ic x.2.1]):=fun lc=>by
   rw[eb];exact hl.at ng.2.2.1 (Nf (by omega)) lc .i64
  have a1:cI (x.1,x.2.1) (nL d)=none:=UF fun y hy e=>by
   have hs:(ie segs).Pairwise vn:=Gd (Cw segs 0);rw[B] at hs
   have:=(azm.1 hs).2.2 y hy x iL;simp only[bI] at e;simp only[vn] at this;omega
  have a5:bR aU s.top m (nL d):=O;have A:=vU alj als a5 (x.1,x.2.1) (ic x.2.2);have G:fe (x.1,x.2.1) (ic x.2.2) (nL d)=nL (d++[x]):=by
   rw[vj a1];unfold nL;rw[ff];rfl
  rw[G] at A;simp only[aU] at A;refine bG ?_;simp only[go_sem,seval,Nt,U,S,z,j,w,a2,a4,Z,im,I,H,Y,N.mw,A,bj,bg,aZ,bf,evc];refine ih (d++[x]) _ _ _ (by rw[B];simp) (N.putT _) ?_ ?_ ?_ ?_ ?_ ?_;show St.get _ [] m=_;rw[mY,aX,bS];rfl
  all_goals simp only[sN,seval,U,S,z,j,sA]
def amw(Z:No Q 131)(z:Q.spec 224=some Ae){sv:aa}(hs:ay 4 bX sv segs)(A:ay 1 cd lv (rM segs.length))(d:segs.length<=1000)(hn: ∀x∈segs,qP x=true)(hM:bR aU s m [])(I:m<s.aL)(H:s.gt<=s.aL):
 ∃v s',aq Q 131 [sv,lv,.map m] s v s'/\(v= .tup []/\bR aU s' m (nL (ie segs))/\(∀k,k<s.aL->k≠m->s'.get [] k=s.get [] k)/\s.aL<=s'.aL/\s'.gt<=s'.aL):=by
 have a0:=hs.ge;have F:=A.ge;have w:=A.lenS ng;rw[Vj] at w;have j:=(O0 (ie segs)).lenS GC;have J:=(O0 (ie segs)).ge;refine aq.ofNRZ ahP ?_;refine WE.sound ?_;simp only[go_sem,seval,w,F];refine amO hs A d (m:=m) (lo:=s.aL) (s0:=s) ?_ segs [] _ _ s .oZ 0 0 rfl (.inl ⟨rfl,rfl⟩) (fun _ _=>rfl) H (br _) ?_ ?_ ?_ ?_ ?_ ?_ ?_ ?_ ?_
 ·intro e lc s1 ov U y h N h6 r1 r2
  have B:=U.ge;have u:=U.isL.lenS zF;have O:cr ((segs.length:Nat):Int) 20000=true:=by simp only[cr,dE];omega
  have q1:=acF U.isL d hn;simp only[go_sem,seval,h6,r1,r2,B,u,O,z,q1,j,J,fh,bj,bg,aZ,bf,evc];refine anl A d (m:=m) (s0:=s1) ?_ (ie segs) [] _ _ s1 rfl (.refl h) ((y m I).trans hM) ?_ ?_ ?_ ?_ ?_;intro e2 a1 s2 S Y;simp only[go_sem,seval];exact⟨_,rfl,rfl,Y,fun k hk G=>(S.old k G).trans (y k hk),by rw[S.aL];exact N,S.mw⟩
  all_goals simp only[sN,seval,r1,r2,bn]
  all_goals rfl
 all_goals simp only[sN,seval,bn]
 all_goals rfl
def alr(k:CK):lP ae 195 (jw k)=some (196,4):=by kernel_rfl
def ku(KB:List CK):List (CK×aa):=gZ KB fun _=>.bool true
variable{KB:List CK}
def ac0(d:KB.Nodup)(k:CK):fe k (.bool true) (ku KB)=ku (fq k KB):=by
 unfold ku;rw[Cv _ d];exact KQ fun j _=>by
  by_cases h:j=k;subst h;rw[qm];rw[lf _ _ h]
noncomputable def noted(mb:Nat)(KB:List CK)(s:St):St:=s.put mb (some (.map (dw jw 0 (ku KB)) (ku KB).length))
def P8(mk:aK)(m off len lcap:Nat)(lo hi:Option Operand)(e:ax)(s:St):jE ae mk 25 (.arr 1 m off len lcap) lo hi none e s=(fR e hi len).bind fun h=>(fR e lo 0).bind fun l=>bif bw l h&&bw h len then some (.arr 1 m (off+l*1) (h-l) (lcap-l)) else none:=by
 have h:jE ae mk 25 (.arr 1 m off len lcap) lo hi none e s=(fR e hi len).bind fun h=>(fR e lo 0).bind fun l=>bif aQ 1 1&&bw l h&&bw h len&&true then some (.arr 1 m (off+l*1) (h-l) (lcap-l)) else none:=by kernel_rfl
 rw[h];simp only[je,Nat.beq_refl,eH]
def ad2(d:Bool)(s:St)(m c:Nat)(a b:aa)(h:s.get [] m=some (.cells [a,b])):jH ae [] .clear [25] d [.arr 1 m 1 1 c] s=some (.tup [],s.put m (some (.cells [a,.str []]))):=by
 have u:ae.underlying 25=some (.slice 9):=by kernel_rfl
 simp only[afo,jH,u,au,uT,cH,h];rfl
variable{bx mb:Nat}
def Yc(j:No Q 128)(w:s.get [] bx=some (.cells [.map mb]))(x:bR jw s mb (ku KB))(u:KB.Nodup)(a b:ag):aq Q 128 [.str a,.str b,.ptr bx 0] s (.tup []) (noted mb (fq (fu a b) KB) s):=by
 have d:=vU OA alr x (fu a b) (.bool true);rw[ac0 u] at d;simp only[jw,fu] at d;have e: ∃v s',aq Q 128 [.str a,.str b,.ptr bx 0] s v s'/\(v= .tup []/\s'=noted mb (fq (fu a b) KB) s):=by
  refine aq.ofNRZ ahH ?_;refine WE.sound ?_;simp only[go_sem,df,bP,ah,aB,bQ,ee,ey,eI,cK,uO,ep,reduceCtorEq,eR,w,aW,aY,Ee,Ef,wJ,d,J8,bj,bg,aZ,bf,evc];exact⟨_,rfl,rfl,rfl⟩
 obtain⟨v,s',h,rfl,rfl⟩:=e;exact h
def aeq(B:No Q 133){a b:ag}(z:s.get [] n=some (.cells [.str a,.str b]))(u:s.gt<=s.aL):
 ∃v s',aq Q 133 [.arr 1 n 0 2 2] s v s'/\((a=b/\v= .arr 1 n 0 1 2/\s'=s.put n (some (.cells [.str a,.str []])))\/(a≠b/\v= .arr 1 n 0 2 2/\s'=s)):=by
 have F:IntKind.i64.wrap (1-1)=0:=by decide
 have N:IntKind.i64.wrap (1+1)=2:=by decide
 have w3:IntKind.i64.wrap (2-1)=1:=by decide
 have Z:IntKind.i64.wrap (2+1)=3:=by decide
 have Y:bc ((2:Nat):Int) 2=false:=by decide
 have I:bc 1 ((2:Nat):Int)=true:=by decide
 have U:bc 2 ((2:Nat):Int)=false:=by decide
 have S:bc 1 ((1:Nat):Int)=false:=by decide
 have H:dS (ic 0)=some 0:=rfl;have G:dS (ic 1)=some 1:=rfl;have y: ∀j,ac j 27=ic 1->fR j (some (.tmp 27)) 0=some 1:=fun j h=>by show(ev j (.tmp 27)).bind dS=_;rw[aA,h];rfl
 have x: ∀j,ac j 55=ic 1->fR j (some (.tmp 55)) 0=some 1:=fun j h=>by show(ev j (.tmp 55)).bind dS=_;rw[aA,h];rfl
 have w: ∀j k,ac j 58=ic 1->fR j (some (.tmp 58)) k=some 1:=fun j k h=>by show(ev j (.tmp 58)).bind dS=_;rw[aA,h];rfl
 have J: ∀j d,fR j none d=some d:=fun _ _=>rfl;have A:=fun O c=>ad2 O s n c (.str a) (.str b) z;refine aq.ofNRZ ahS (co ?_);simp only[go_sem,df,bP,ah,aB,bQ,ee,ey,eI,cK,uO,ep,reduceCtorEq,eR,yQ,iU,Y];refine bG ?_;cases hab:b==a with
 |true=>
  have e:a=b:=(eq_of_beq hab).symm;subst e;simp only[go_sem,df,bP,ah,aB,bQ,ee,ey,eI,cK,uO,ep,reduceCtorEq,eR,Nw,yQ,cH,iU,I,H,G,F,u,z,aW,aY,hab,xL,P8,y,J];refine bG ?_;simp only[go_sem,df,bP,ah,aB,bQ,ee,ey,eI,cK,uO,ep,reduceCtorEq,eR,ahT,yQ,iU,S,P8,x,w,J,A];exact⟨_,rfl,.inl rfl⟩
 |false=>
  have e:a≠b:=fun e=>by rw[e] at hab;simp at hab
  simp only[go_sem,df,bP,ah,aB,bQ,ee,ey,eI,cK,uO,ep,reduceCtorEq,eR,Nw,yQ,cH,iU,I,H,G,F,N,u,z,aW,aY,hab,xL];refine bG ?_;simp only[go_sem,df,bP,ah,aB,bQ,ee,ey,eI,cK,uO,ep,reduceCtorEq,eR,Nw,yQ,iU,U];exact⟨_,rfl,.inr ⟨e,rfl⟩⟩
theorem W7(a b:ag):fu a b=if dz a b<=0 then(a,b) else(b,a):=by
 have d:=B6 a b
 grind [fu,CS,CQ,Ag.leBytes,uU]
theorem alk(a b:ag):fu a b=fu b a:=by
 grind [W7,B7,uU]
def y9(id:ag)(KB:List CK)(os:List ag):List CK:=os.foldl (fun KB o=>fq (fu o id) KB) KB
theorem XP{id:ag}{k:CK}: ∀ {os:List ag} {KB:List CK},k∈y9 id KB os↔k∈KB\/ ∃o∈os,k=fu o id
 | [],KB=>by simp[y9]
 |o::os,KB=>by
  show k∈y9 id (fq (fu o id) KB) os↔_;rw[XP,qO]
  grind
def Yd{id:ag}: ∀ {os:List ag} {KB:List CK},KB.Nodup->(y9 id KB os).Nodup
 | [],_,h=>h
 |o::os,KB,h=>Yd (os:=os) (x5 h)
structure z8 (l:List Obj) (D:List ag) (KB:List CK) (K:List Pt) (V:Pt->List ag):Prop where
 v: ∀q id,id∈V q↔id∈D/\fJ l id=q
 b: ∀k,k∈KB↔ ∃x y,x∈D/\y∈D/\x≠y/\fJ l x=fJ l y/\k=fu x y
 nd:KB.Nodup
 len: ∀q,(V q).length<=D.length
variable{K:List Pt}{D:List ag}{V:Pt->List ag}
theorem z8.old(h:z8 l D KB K V){id:ag}(hi:id∈V (fJ l id)):z8 l (D++[id]) KB K V:=by
 have e:=((h.v _ _).1 hi).1;have d: ∀x,x∈D++[id]↔x∈D:=fun x=>by
  grind
 refine⟨fun q x=>by rw[d];exact h.v q x,fun k=>?_,h.nd,fun q=>by rw[cJ];have:=h.len q;omega⟩;rw[h.b];simp only[d]
theorem z8.new(h:z8 l D KB K V){id:ag}(hi:id ∉ V (fJ l id)):z8 l (D++[id]) (y9 id KB (V (fJ l id))) (fq (fJ l id) K) (lH V (fJ l id) (V (fJ l id)++[id])):=by
 have j:id ∉ D:=fun e=>hi ((h.v _ _).2 ⟨e,rfl⟩);have d: ∀x,x∈D++[id]↔x∈D\/x=id:=fun x=>by grind
 refine⟨fun q x=>?_,fun k=>?_,Yd h.nd,fun q=>?_⟩;rw[d];by_cases hq:q=fJ l id;subst hq;rw[qm,lj,BB,h.v]
 grind
 rw[lf _ _ hq,h.v]
 grind
 rw[XP,h.b];simp only[d,h.v]
 grind [alk]
 rw[cJ];by_cases hq:q=fJ l id;subst hq;rw[qm,cJ]
 have:=h.len (fJ l id)
 grind
 rw[lf _ _ hq]
 have:=h.len q;omega
def Ye{s0:St}(h:eL mb s0 s):eL mb s0 (noted mb KB s):=h.put _
def Yf:bR jw (noted mb KB s) mb (ku KB):=bR.put
variable{lc:Ag.Loc}{KE:List CK}{v:aa}{E0:ax}
theorem adj(F:No Q 128){os:List ag}(hv:ay 1 aG v os)(a3:os.length<=1000000){id:ag}(N:bx≠mb){s0:St}(hb:s0.get [] bx=some (.cells [.map mb]))(hx: ∀e s,eL mb s0 s->bR jw s mb (ku KE)->(∀t,t≠15->t≠66->t≠67->t<68->ac e t=ac E0 t)->C (.exit 4) ⟨e,180,lc⟩ s):
 ∀(h d:List ag) (KB:List CK) (e:ax) (s:St),os=d++h->KB.Nodup->y9 id KB h=KE->eL mb s0 s->bR jw s mb (ku KB)->(∀t,t≠15->t≠66->t≠67->t<68->ac e t=ac E0 t)->ac E0 7= .func (.func 128) [] [.ptr bx 0]->ac E0 12= .str id->ac E0 64=v->ac E0 65=uM os.length->ac e 66=uM d.length->W Q 59 (.loop Ol) ⟨e,180,lc⟩ s C:=by
 intro h
 induction h with
 |nil=>
  intro d KB e s u I Y H hM y e7 B A w j;have S:d.length=os.length:=by rw[u];simp
  have z:=(y 65 (by decide) (by decide) (by decide) (by decide)).trans w;refine bG ?_;simp only[go_sem,seval,Ol,z,j,S,cD];refine hx _ _ H (by rw[<-Y];exact hM) fun t u h2 h3 h4=>?_
  grind [JO]
 |cons o h ih=>
  intro d KB e s u I Y H hM y e7 B A w j;have O:d.length<os.length:=by rw[u];simp
  have a0:os[d.length]? =some o:=by rw[u];simp
  have U:=fun lc k=>hv.at cH.2.2.1 a0 lc k;have J:=dB (n:=d.length) (by omega);have z:=(y 65 (by decide) (by decide) (by decide) (by decide)).trans w;have a1:=(y 64 (by decide) (by decide) (by decide) (by decide)).trans A;have h7:=(y 7 (by decide) (by decide) (by decide) (by decide)).trans e7;have a2:=(y 12 (by decide) (by decide) (by decide) (by decide)).trans B;have Z:s.get [] bx=_:=(H.old bx N).trans hb;have G:=Yc F Z hM I o id;refine bG ?_;simp only[go_sem,seval,Ol,h7,a2,a1,z,j,O,U,aG];refine cG.of G (by decide) ?_;simp only[go_sem,seval,j,J];refine ih (d++[o]) (fq (fu o id) KB) _ _ (by rw[u];simp) (x5 I) Y (Ye H) Yf (fun t u h2 h3 h4=>?_) e7 B A w (by simp only[sN,seval,sA]);have x: ∀k,68<=k->(t==k)=false:=fun k hk=>by simp;omega
  have c1:(t==15)=false:=by simpa using u
  have c2:(t==66)=false:=by simpa using h2
  have c3:(t==67)=false:=by simpa using h3
  simp only[abK,x 68 (by decide),x 69 (by decide),x 70 (by decide),x 71 (by decide),x 72 (by decide),x 73 (by decide),x 74 (by decide),c1,c2,c3];exact y t u h2 h3 h4
def aeY(a b c d:Int):kI ae 8 49 (.agg [ic a,ic b]) (.agg [ic c,ic d])=some (bif an a c then an b d else false):=by
 have h:kI ae 8 49 (.agg [ic a,ic b]) (.agg [ic c,ic d])=(some (an a c)).bind fun r=>bif r then(some (an b d)).bind fun r=>bif r then some true else some false else some false:=by kernel_rfl
 rw[h];cases an a c<;>cases an b d<;>rfl
def W9:BI ae 49 aU where
 eq a b:=by
  obtain⟨j,e⟩:=a;obtain⟨d,b2⟩:=b;have h:=aeY j e d b2;have w:aU (j,e)= .agg [ic j,ic e]:=rfl;have u:aU (d,b2)= .agg [ic d,ic b2]:=rfl;rw[w,u,h];by_cases h1:j=d<;>by_cases h2:e=b2<;>simp[an,h1,h2]
 same a:=by simp[aU,tI,wI,xF,an]
 ge _:=rfl
def Xb(k:Pt):lP ae 198 (aU k)=some (49,25):=by kernel_rfl
structure D5 (l:List Obj) (s0 s:St) (ma mb lo:Nat) (D:List ag) (KB:List CK) (K:List Pt) (V:Pt->List ag) (T:Pt->Nat):Prop where
 o:sO aU aG s ma lo K V T
 m:bR jw s mb (ku KB)
 fr: ∀k,k<lo->k≠ma->k≠mb->s.get [] k=s0.get [] k
 i:z8 l D KB K V
 nx:s0.aL<=s.aL
 mw:s.gt<=s.aL
structure Hk (e:ax) (lc:Ag.Loc) (ov lv:aa) (n bx ma:Nat):Prop where
 h3:ac e 3= .rd 3 1 0
 h5:ac e 5=lv
 h6:ac e 6= .ptr bx 0
 h7:ac e 7= .func (.func 128) [] [.ptr bx 0]
 h8:ac e 8= .map ma
 l3:lc.get 3 1=some [ov,.map n]
 g3:lc.gen 3=1
def ada(b6:No Q 128)(b1:No Q 129)(b0:No Q 130)(a0:No Q 223)(ho:ay 6 Obj.val ov l){ma:Nat}(c1:n≠ma)(c2:n≠mb)(c3:n<lo)(c4:bx≠ma)(c5:bx≠mb)(c6:bx<lo)(c7:mb≠ma)(c8:mb<lo){s0:St}(hM:bR aa.str s0 n (i9 0 l))(d5:s0.get [] bx=some (.cells [.map mb])){a b:ag}(d7: ∀id,id∈ [a,b]-> ∃q,dP id l=some q){x42 x43 x44:aa}(hD:D.length<=10000)(hx: ∀e lc s KB K V T,D5 l s0 s ma mb lo (D++[a,b]) KB K V T->Hk e lc ov lv n bx ma->ac e 42=x42->ac e 43=x43->ac e 44=x44->C (.exit 2) ⟨e,180,lc⟩ s):
 ∀(j d:List ag) (e:ax) (lc:Ag.Loc) (s:St) (KB:List CK) (K:List Pt) (V:Pt->List ag) (T:Pt->Nat),[a,b]=d++j->D5 l s0 s ma mb lo (D++d) KB K V T->Hk e lc ov lv n bx ma->ac e 42=x42->ac e 43=x43->ac e 44=x44->ac e 49= .agg [.str a,.str b]->ac e 50=uM d.length->W Q 59 (.loop Om) ⟨e,180,lc⟩ s C:=by
 intro j
 induction j with
 |nil=>
  intro d e lc s KB K V T U S E I H G F A;have c9:d=[a,b]:=by rw[U];simp
  subst c9;have hl:bc ((2:Nat):Int) 2=false:=rfl;refine bG ?_;simp only[go_sem,df,bP,ah,aB,bQ,ee,ey,eI,cK,uO,ep,reduceCtorEq,eR,Om,A,hl];refine hx _ _ s KB K V T S ⟨?_,?_,?_,?_,?_,E.l3,E.g3⟩ ?_ ?_ ?_
  all_goals simp only[sN,ah,bQ,E.h3,E.h5,E.h6,E.h7,E.h8,I,H,G]
 |cons id j ih=>
  intro d e lc s KB K V T U S E I H G F A;obtain⟨h3,h5,h6,h7,Z,l3,g3⟩:=E;have d0:d.length<2:=by
   have:=congrArg List.length U;simp only[adz] at this;omega
  have d6:([a,b]:List ag)[d.length]? =some id:=by rw[U];simp
  have O:bc ((d.length:Nat):Int) 2=true:=by simp only[bc,dE];omega
  have d2:AM ae 196 (.agg [.str a,.str b]) (uM d.length)=some (.str id):=by
   rw[ahz,oz];have hb:bm d.length 2=true:=cP d0;simp only[akZ,hb,iB,Nat.mul_one,List.head?_drop];have:([aa.str a,aa.str b]:List aa)=([a,b]:List ag).map aa.str:=rfl;rw[this,jf,d6];rfl
  have b7:=dB (n:=d.length) (by omega);obtain⟨q,hq⟩:=d7 id (by rw[U];simp);have b8:=Gi hq;have e0:bR aa.str s n (i9 0 l):=(S.fr n c3 c1 c2).trans hM;have J:=PF b1 ho e0 hq;have d4:=ho.ge;obtain⟨v,z,B⟩:=S.o.look W9 Xb v8 (fJ l id);have N:=B.ge;have c0:=S.i.len (fJ l id);have f4:(D++d).length<=10002:=by rw[cJ];omega
  have u:=Ms a0 b0 B (by omega) id s;have d1:=B.lenS cH;rw[b8] at z;simp only[aU] at z J;have e2:D++d++[id]=D++(d++[id]):=by simp
  refine lk ?_;simp only[go_sem,df,bP,ah,aB,bQ,ee,ey,eI,cK,uO,ep,reduceCtorEq,eR,Om,h3,Z,F,A,O,d2,l3,g3,d4];refine cG.of J (by decide) ?_;cases hc:(V (fJ l id)).contains id with
  |true=>
   rw[hc] at u;have y:id∈V (fJ l id):=by simpa using hc
   simp only[go_sem,df,bP,ah,aB,bQ,ee,ey,eI,cK,uO,ep,reduceCtorEq,eR,Z,z,N];refine cG.of u (by decide) ?_;simp only[go_sem,df,bP,ah,aB,bQ,ee,ey,eI,cK,uO,ep,reduceCtorEq,eR,A,b7];refine ih (d++[id]) _ _ s KB K V T (by rw[U];simp) ⟨S.o,S.m,S.fr,by rw[<-e2];exact S.i.old y,S.nx,S.mw⟩ ⟨?_,?_,?_,?_,?_,?_,?_⟩ ?_ ?_ ?_ ?_ ?_
   all_goals simp only[abc,dj,cY,ah,h3,h5,h6,h7,Z,l3,g3,I,H,G,F,sA]
  |false=>
   rw[hc] at u;have y:id ∉ V (fJ l id):=by
    intro h;have:(V (fJ l id)).contains id=true:=by simpa using h
    rw[hc] at this;cases this
   simp only[go_sem,df,bP,ah,aB,bQ,ee,ey,eI,cK,uO,ep,reduceCtorEq,eR,Z,z,N];refine cG.of u (by decide) ?_;simp only[go_sem,df,bP,ah,aB,bQ,ee,ey,eI,cK,uO,ep,reduceCtorEq,eR,Z,z,N,d1];refine adj b6 B (by omega) (id:=id) (bx:=bx) (mb:=mb) c5 (s0:=s) ((S.fr bx c6 c4 c5).trans d5) (KE:=y9 id KB (V (fJ l id))) ?_ (V (fJ l id)) [] KB _ s rfl S.i.nd rfl (.refl S.mw) S.m (fun _ _ _ _ _=>rfl) ?_ ?_ ?_ ?_ ?_
   ·intro x s2 Y e1 w
    have e8:ac x 3= .rd 3 1 0:=(w 3 (by decide) (by decide) (by decide) (by decide)).trans (by simp only[sN,ah,bQ,h3]);have g5:ac x 5=lv:=(w 5 (by decide) (by decide) (by decide) (by decide)).trans (by simp only[sN,ah,bQ,h5]);have g6:ac x 6= .ptr bx 0:=(w 6 (by decide) (by decide) (by decide) (by decide)).trans (by simp only[sN,ah,bQ,h6]);have g7:ac x 7= .func (.func 128) [] [.ptr bx 0]:=(w 7 (by decide) (by decide) (by decide) (by decide)).trans (by simp only[sN,ah,bQ,h7]);have g8:ac x 8= .map ma:=(w 8 (by decide) (by decide) (by decide) (by decide)).trans (by simp only[sN,ah,bQ,Z]);have f0:ac x 12= .str id:=(w 12 (by decide) (by decide) (by decide) (by decide)).trans (by simp only[sN,ah,bQ]);have e9:ac x 13= .rd 13 (lc.gen 13+1) 0:=(w 13 (by decide) (by decide) (by decide) (by decide)).trans (by simp only[sN,ah,bQ]);have e7:ac x 42=x42:=(w 42 (by decide) (by decide) (by decide) (by decide)).trans (by simp only[sN,ah,bQ,I]);have e6:ac x 43=x43:=(w 43 (by decide) (by decide) (by decide) (by decide)).trans (by simp only[sN,ah,bQ,H]);have e5:ac x 44=x44:=(w 44 (by decide) (by decide) (by decide) (by decide)).trans (by simp only[sN,ah,bQ,G]);have e4:ac x 49= .agg [.str a,.str b]:=(w 49 (by decide) (by decide) (by decide) (by decide)).trans (by simp only[sN,ah,bQ,F]);have e3:ac x 50=uM d.length:=(w 50 (by decide) (by decide) (by decide) (by decide)).trans (by simp only[sN,ah,bQ,A]);have S2:sO aU aG s2 ma lo K V T:=S.o.mono (Y.old ma c7.symm) (fun k hk=>Y.old _ (by have:=(S.o.tok k hk).2.1;omega)) (by rw[Y.aL];exact br _);obtain⟨v0,p,s3,av,s4,s5,a1,a2,a3,a4,a5,a6,a7,a8,a9,f1⟩:=S2.app W9 Xb v8 cH.1 rfl (fun n hn=>vI hn (by decide)) (fJ l id) id (by omega) Y.mw;rw[b8] at a1;simp only[aU] at a1;simp only[aG] at a3;have f3:=Y.aL;have f2:=S.nx;simp only[go_sem,df,bP,ah,aB,bQ,ee,ey,eI,cK,uO,ep,reduceCtorEq,eR,g8,f0,e9,e3,b7,MZ,MY,a1,a2,a3,a4,a5,fh,bj,bg,aZ,bf,evc];refine ih (d++[id]) _ _ s5 (y9 id KB (V (fJ l id))) _ _ _ (by rw[U];simp) ⟨a6,?_,fun k k1 k2 k3=>?_,by rw[<-e2];exact S.i.new y,by omega,f1⟩ ⟨?_,?_,?_,?_,?_,?_,?_⟩ ?_ ?_ ?_ ?_ ?_;exact(a7 mb c8 c7).trans e1;rw[a7 k k1 k2,Y.old k k3];exact S.fr k k1 k2 k3
    all_goals simp only[abc,dj,cY,ah,e8,g5,g6,g7,g8,l3,g3,e7,e6,e5,e4,sA]
   all_goals simp only[sN,ah,bQ,h7,bn]
   all_goals rfl
def qE(R:List iz):List ag:=R.flatMap fun x=>[x.1.1,x.1.2]
def aeP(R:List iz)(x:iz):qE (R++[x])=qE R++[x.1.1,x.1.2]:=by simp[qE]
def aeO(R:List iz):(qE R).length=2*R.length:=by
 induction R with
 |nil=>rfl
 |cons x R d=>
  show([x.1.1,x.1.2]++qE R).length=_;rw[cJ,d];simp only[bH,bn];omega
def adf(F:No Q 128)(B:No Q 129)(A:No Q 130)(z:No Q 223)(ho:ay 6 Obj.val ov l){ma r:Nat}(c1:n≠ma)(c2:n≠mb)(c3:n<lo)(c4:bx≠ma)(c5:bx≠mb)(c6:bx<lo)(c7:mb≠ma)(c8:mb<lo)(c9:r≠ma)(a4:r≠mb)(a3:r<lo){s0:St}(hM:bR aa.str s0 n (i9 0 l))(a2:s0.get [] bx=some (.cells [.map mb]))(a7:R.length<=1000)(hR:s0.get [] r=some (.cells (aF (R.map iO))))(hk: ∀x∈R,(∃q,dP x.1.1 l=some q)/\ ∃q,dP x.1.2 l=some q)(hx: ∀e lc s KB K V T,D5 l s0 s ma mb lo (qE R) KB K V T->Hk e lc ov (.arr 3 r 0 R.length c) n bx ma->C (.exit 0) ⟨e,180,lc⟩ s):
 ∀(h d:List iz) (e:ax) (lc:Ag.Loc) (s:St) (KB:List CK) (K:List Pt) (V:Pt->List ag) (T:Pt->Nat),R=d++h->D5 l s0 s ma mb lo (qE d) KB K V T->Hk e lc ov (.arr 3 r 0 R.length c) n bx ma->ac e 42= .arr 3 r 0 R.length c->ac e 43=uM R.length->ac e 44=uM d.length->W Q 59 (.loop On) ⟨e,180,lc⟩ s C:=by
 intro h
 induction h with
 |nil=>
  intro d e lc s KB K V T y S E w u j;have a1:d.length=R.length:=by rw[y];simp
  have Z:d=R:=by rw[y];simp
  rw[Z] at S;refine bG ?_;simp only[go_sem,seval,On,u,j,a1,cD];refine hx _ _ s KB K V T S ⟨?_,?_,?_,?_,?_,E.l3,E.g3⟩
  all_goals simp only[sN,seval,E.h3,E.h5,E.h6,E.h7,E.h8]
 |cons x h ih=>
  intro d e lc s KB K V T y S E w u j;have a0:d.length<R.length:=by rw[y];simp
  have I:R[d.length]? =some x:=by rw[y];simp
  have Y:s.get [] r=_:=(S.fr r a3 c9 a4).trans hR;have G:=JB Y I;have U:=dB (n:=d.length) (by omega);have H:=hk x (eP I);obtain⟨h3,h5,h6,h7,h8,l3,g3⟩:=E;simp only[iO] at G;refine bG ?_;simp only[go_sem,seval,On,w,u,j,a0,G,aW,GB];refine ada F B A z ho (lv:=.arr 3 r 0 R.length c) c1 c2 c3 c4 c5 c6 c7 c8 hM a2 (a:=x.1.1) (b:=x.1.2) (fun id hid=>?_) (x42:=.arr 3 r 0 R.length c) (x43:=uM R.length) (x44:=uM d.length) (D:=qE d) (by rw[aeO];omega) ?_ [x.1.1,x.1.2] [] _ _ s KB K V T rfl (by rw[kC];exact S) ⟨?_,?_,?_,?_,?_,?_,?_⟩ ?_ ?_ ?_ ?_ ?_;simp only[fc,zT,or_false] at hid;rcases hid with rfl|rfl
  exact H.1;exact H.2
  ·intro e2 a6 s2 a5 K2 V2 T2 S2 E2 O N J
   obtain⟨i3,i5,i6,i7,i8,j3,k3⟩:=E2;simp only[go_sem,seval,J,U];refine ih (d++[x]) _ _ s2 a5 K2 V2 T2 (by rw[y];simp) (by rw[aeP];exact S2) ⟨?_,?_,?_,?_,?_,j3,k3⟩ ?_ ?_ ?_
   all_goals simp only[sN,seval,i3,i5,i6,i7,i8,O,N,sA]
  all_goals simp only[abc,dj,cY,ah,h3,h5,h6,h7,h8,l3,g3,w,u,j,bn]
  all_goals rfl
def adk{N:Nat}(hN:N<=1000){s0:St}(hx: ∀e s ov,cR 1 lo s ov ((rM N).map cd)->(∀k,k<lo->s.get [] k=s0.get [] k)->s.gt<=s.aL->lo<=s.aL->ac e 16=ov->ac e 3=ac E0 3->ac e 5=ac E0 5->ac e 6=ac E0 6->ac e 7=ac E0 7->C (.exit 6) ⟨e,180,lc⟩ s):
 ∀(c i:Nat) (e:ax) (s:St) (ov:aa),c+i=N->cR 1 lo s ov ((rM i).map cd)->(∀k,k<lo->s.get [] k=s0.get [] k)->s.gt<=s.aL->lo<=s.aL->ac e 16=ov->ac e 3=ac E0 3->ac e 5=ac E0 5->ac e 6=ac E0 6->ac e 7=ac E0 7->ac e 86=uM N->ac e 87=uM i->W Q 59 (.loop Oo) ⟨e,180,lc⟩ s C:=by
 intro c
 induction c with
 |zero=>
  intro i e s ov hc A u h j x S O J I d w;have:i=N:=by omega
  subst this;refine bG ?_;simp only[go_sem,seval,Oo,d,w,cD];refine hx _ s ov A u h j ?_ ?_ ?_ ?_ ?_
  all_goals simp only[sN,seval,x,S,O,J,I]
 |succ c ih=>
  intro i e s ov hc A u h j x S O J I d w;have H:i<N:=by omega
  have G:=dB (n:=i) (by omega);have B:=A.ge;obtain⟨F,s1,Z,U,a3,a4,a5,a6,a7⟩:=Eb (t:=26) ng.1 rfl (by decide) (s:=s) (y:=.list 1 [cd i] .uP) (ys:=[cd i]) A (by simp only[afo,eE]) (by simp only[ce,bH,bn,Vj];omega) j h;have z:=U.ge;have e1:(rM i).map cd++[cd i]=(rM (i+1)).map cd:=by simp[rM,List.range_succ]
  rw[e1] at U;simp only[cd] at Z;refine bG ?_;simp only[go_sem,seval,Oo,x,d,w,H,G,B,z,Z,bj,bg,aZ,bf,evc];refine ih (i+1) _ s1 F (by omega) U (fun k Y=>(a6 k Y).trans (u k Y)) a5 (by omega) ?_ ?_ ?_ ?_ ?_ ?_ ?_
  all_goals simp only[sN,seval,S,O,J,I,d]
def xi(u:ag)(KB:List CK)(ys:List ag):List CK:=ys.foldl (fun KB y=>fq (fu u y) KB) KB
def rY(ys:List ag)(KB:List CK)(us:List ag):List CK:=us.foldl (fun KB u=>xi u KB ys) KB
theorem XQ{u:ag}{k:CK}: ∀ {ys:List ag} {KB:List CK},k∈xi u KB ys↔k∈KB\/ ∃y∈ys,k=fu u y
 | [],KB=>by simp[xi]
 |o::os,KB=>by
  show k∈xi u (fq (fu u o) KB) os↔_;rw[XQ,qO]
  grind
def Pc{u:ag}: ∀ {os:List ag} {KB:List CK},KB.Nodup->(xi u KB os).Nodup
 | [],_,h=>h
 |o::os,KB,h=>Pc (os:=os) (x5 h)
theorem XR{ys:List ag}{k:CK}: ∀ {us:List ag} {KB:List CK},k∈rY ys KB us↔k∈KB\/ ∃u∈us, ∃y∈ys,k=fu u y
 | [],KB=>by simp[rY]
 |u::us,KB=>by
  show k∈rY ys (xi u KB ys) us↔_;rw[XR,XQ]
  grind
def JN{ys:List ag}: ∀ {us:List ag} {KB:List CK},KB.Nodup->(rY ys KB us).Nodup
 | [],_,h=>h
 |u::us,KB,h=>JN (us:=us) (Pc h)
variable{ys:List ag}
theorem ade(G:No Q 128)(hv:ay 1 aG v ys)(a3:ys.length<=1000000){u:ag}(S:bx≠mb){s0:St}(hb:s0.get [] bx=some (.cells [.map mb]))(hx: ∀e s,eL mb s0 s->bR jw s mb (ku KE)->(∀t,t≠27->t<155->ac e t=ac E0 t)->C (.exit 12) ⟨e,180,lc⟩ s):
 ∀(h d:List ag) (KB:List CK) (e:ax) (s:St),ys=d++h->KB.Nodup->xi u KB h=KE->eL mb s0 s->bR jw s mb (ku KB)->(∀t,t≠27->t<155->ac e t=ac E0 t)->ac E0 7= .func (.func 128) [] [.ptr bx 0]->ac E0 25= .str u->ac E0 153=v->ac E0 154=uM ys.length->ac e 155=uM d.length->W Q 59 (.loop Oq) ⟨e,180,lc⟩ s C:=by
 intro h
 induction h with
 |nil=>
  intro d KB e s A N hf J hM B e7 F y w j;have Y:d.length=ys.length:=by rw[A];simp
  have x:=(B 154 (by decide) (by decide)).trans w;refine bG ?_;simp only[go_sem,seval,Oq,x,j,Y,cD];refine hx _ _ J (by rw[<-hf];exact hM) fun t A h2=>?_
  grind [JO]
 |cons o h ih=>
  intro d KB e s A N hf J hM B e7 F y w j;have U:d.length<ys.length:=by rw[A];simp
  have a1:ys[d.length]? =some o:=by rw[A];simp
  have Z:=fun lc k=>hv.at cH.2.2.1 a1 lc k;have O:=dB (n:=d.length) (by omega);have x:=(B 154 (by decide) (by decide)).trans w;have I:=(B 153 (by decide) (by decide)).trans y;have h7:=(B 7 (by decide) (by decide)).trans e7;have a2:=(B 25 (by decide) (by decide)).trans F;have a0:s.get [] bx=_:=(J.old bx S).trans hb;have H:=Yc G a0 hM N u o;refine bG ?_;simp only[go_sem,seval,Oq,h7,a2,I,x,j,U,Z,aG];refine cG.of H (by decide) ?_;simp only[go_sem,seval,j,O];refine ih (d++[o]) (fq (fu u o) KB) _ _ (by rw[A];simp) (x5 N) hf (Ye J) Yf (fun t A h2=>?_) e7 F y w (by simp only[sN,seval,sA]);have z: ∀k,155<=k->(t==k)=false:=fun k hk=>by simp;omega
  have c1:(t==27)=false:=by simpa using A
  simp only[abK,z 155 (by decide),z 156 (by decide),z 157 (by decide),z 158 (by decide),z 159 (by decide),z 160 (by decide),z 161 (by decide),z 162 (by decide),z 163 (by decide),c1];exact B t A h2
theorem LY(G:No Q 128){us:List ag}{va vb:aa}(U:ay 1 aG va us)(y:ay 1 aG vb ys)(b0:us.length<=1000000)(Y:ys.length<=1000000){kb:Nat}{p1 p2:ag}(H:bx≠mb)(a3:kb≠mb){s0:St}(hb:s0.get [] bx=some (.cells [.map mb]))(hk:s0.get [] kb=some (.cells [.str p1,.str p2,vb]))(hx: ∀e s,eL mb s0 s->bR jw s mb (ku KE)->(∀t,t<25->ac e t=ac E0 t)->ac e 103=ac E0 103->C (.exit 10) ⟨e,180,lc⟩ s):
 ∀(h d:List ag) (KB:List CK) (e:ax) (s:St),us=d++h->KB.Nodup->rY ys KB h=KE->eL mb s0 s->bR jw s mb (ku KB)->(∀t,t<25->ac e t=ac E0 t)->ac e 103=ac E0 103->ac E0 7= .func (.func 128) [] [.ptr bx 0]->ac E0 22= .ptr kb 0->ac e 146=va->ac e 147=uM us.length->ac e 148=uM d.length->W Q 59 (.loop Ot) ⟨e,180,lc⟩ s C:=by
 intro h
 induction h with
 |nil=>
  intro d KB e s F O hf B hM he z e7 A x w j;have a1:d.length=us.length:=by rw[F];simp
  refine bG ?_;simp only[go_sem,seval,Ot,w,j,a1,cD];refine hx _ _ B (by rw[<-hf];exact hM) (fun t F=>?_) ?_
  all_goals grind [JO]
 |cons o h ih=>
  intro d KB e s F O hf B hM he z e7 A x w j;have Z:d.length<us.length:=by rw[F];simp
  have a6:us[d.length]? =some o:=by rw[F];simp
  have a4:=fun lc k=>U.at cH.2.2.1 a6 lc k;have S:=dB (n:=d.length) (by omega);have h7:=(he 7 (by decide)).trans e7;have a9:=(he 22 (by decide)).trans A;have a5:s.get [] bx=_:=(B.old bx H).trans hb;have a2:s.get [] kb=_:=(B.old kb a3).trans hk;have a0:=y.lenS cH;have N:=y.ge;refine bG ?_;simp only[go_sem,seval,Ot,a9,x,w,j,Z,a4,aG,aW,a2,aY,a0,N];refine ade G y Y (u:=o) (bx:=bx) H (s0:=s) a5 (KE:=xi o KB ys) ?_ ys [] KB _ s rfl O rfl (.refl B.mw) hM (fun _ _ _=>rfl) ?_ ?_ ?_ ?_ ?_
  ·intro e2 s2 a8 a7 I
   have J:ac e2 148=uM d.length:=(I 148 (by decide) (by decide)).trans (by simp only[sN,seval,j]);simp only[go_sem,seval,J,S];refine ih (d++[o]) (xi o KB ys) _ s2 (by rw[F];simp) (Pc O) hf (B.trans a8) a7 (fun t ht=>?_) ?_ e7 A ?_ ?_ ?_;have hh: ∀k,25<=k->(t==k)=false:=fun k hk=>by simp;omega
   simp only[abK,hh 164 (by decide),hh 148 (by decide)];rw[I t (by omega) (by omega)]
   grind [aj]
   simp_all [sN]
   simp_all [sN]
   all_goals simp_all [sN]
  all_goals simp only[sN,seval,h7,bn]
  all_goals rfl
def ac5(a b:CK):eB ae .eql 196 (.agg [.str a.1,.str a.2]) (.agg [.str b.1,.str b.2])=some (.bool (wK a b)):=by
 have h:eB ae .eql 196 (.agg [.str a.1,.str a.2]) (.agg [.str b.1,.str b.2])=(kI ae 8 196 (.agg [.str a.1,.str a.2]) (.agg [.str b.1,.str b.2])).bind fun r=>some (.bool r):=by kernel_rfl
 rw[h,TY];rfl
def aan(mk:aK)(m:Nat)(cs:List aa)(e:ax)(s:St)(h:s.get mk m=some (.cells cs))(u:2<=cs.length):jE ae mk 196 (.ptr m 0) none none none e s=some (.arr 1 m 0 2 2):=by
 have j:jE ae mk 196 (.ptr m 0) none none none e s=(s.get mk m).bind fun o=>match o with
  | .cells cs=>bif bw 0 2&&bw 2 2&&true&&bm 0 (2*1)&&bw (0+2*1) cs.length then some (.arr 1 m (0+0*1) (2-0) (2-0)) else none
  |_=>none:=by kernel_rfl
 rw[j,h];have d:bw (0+2*1) cs.length=true:=cP (by omega);simp only[au,d];rfl
def HM(a b:CK):Bool:=[b.1,b.2].contains a.1|| [b.1,b.2].contains a.2
def qf(a b:CK)(nR:Int):Bool:=wK a b||(an nR 1&&HM a b)
def wW(R:List iz)(x:Mt)(k:CK):Prop:=qf (R.getD x.1.toNat jy).1 (R.getD x.2.1.toNat jy).1 x.2.2=false/\ ∃u∈(R.getD x.1.toNat jy).2.1, ∃y∈(R.getD x.2.1.toNat jy).2.1,k=fu u y
def arY:ae.underlying 203=some (.map 207 3):=by kernel_rfl
variable{M:List Mt}
theorem afR{b:Nat}{p:(Int×Int)×aa}(h:(nL M)[b]? =some p): ∃x,M[b]? =some x/\p=((x.1,x.2.1),ic x.2.2):=by
 grind [nL]
theorem adh(hK: ∀i,1000000<=Q.kmax i)(Z:No Q 128)(a3:No Q 130)(a2:No Q 223){mf r:Nat}(f3:M.length<=1000000)(f2:R.length<=1000)(f0: ∀x∈M,(0<=x.1/\x.1<R.length)/\(0<=x.2.1/\x.2.1<R.length))(e1: ∀x∈R,x.2.1.length<=1000000)(c1:it<lo)(c2:mf<lo)(c3:bx<lo)(c4:mb<lo)(c5:r<lo)(d1:mf≠it)(d2:bx≠it)(d3:mb≠it)(d4:r≠it)(d5:mf≠mb)(d6:bx≠mb)(d7:r≠mb){s0:St}(hM:bR aU s0 mf (nL M))(e9:s0.get [] bx=some (.cells [.map mb]))(hR:s0.get [] r=some (.cells (aF (R.map iO)))){KB0:List CK}(hx: ∀e lc s KB,(∀k,k∈KB↔k∈KB0\/ ∃x∈M,wW R x k)->KB.Nodup->bR jw s mb (ku KB)->(∀k,k<lo->k≠it->k≠mb->s.get [] k=s0.get [] k)->s0.aL<=s.aL->s.gt<=s.aL->ac e 6=ac E0 6->C (.exit 8) ⟨e,180,lc⟩ s):
 ∀(cc:Nat) (seen:List Nat) (e:ax) (lc:Ag.Loc) (s:St) (KB:List CK),cc+seen.length=M.length->jv aU s it mf (nL M) seen->(∀k,k∈KB↔k∈KB0\/ ∃b∈seen, ∃x,M[b]? =some x/\wW R x k)->KB.Nodup->bR jw s mb (ku KB)->(∀k,k<lo->k≠it->k≠mb->s.get [] k=s0.get [] k)->s0.aL<=s.aL->lo<=s.aL->s.gt<=s.aL->
  ac e 6=ac E0 6->ac e 5= .arr 3 r 0 R.length c->ac e 7= .func (.func 128) [] [.ptr bx 0]->ac e 103= .ptr it 0->W Q 59 (.loop Js) ⟨e,180,lc⟩ s C:=by
 have f1:(nL M).length=M.length:=ce ..;intro cc
 induction cc with
 |zero=>
  intro seen e lc s KB hc I e3 Y hB a1 b8 e8 b6 h6 h5 h7 j;rcases I.aL Q.ch Q.kmax (fun i=>by have:=hK i;omega) with⟨hp,hn⟩|⟨b,p,s1,hb,hnm,hlt,_⟩
  refine bG ?_;simp only[go_sem,seval,Js,j,yG,hn,fh,bj,bg,aZ,bf,evc];refine hx _ _ s KB (fun k=>?_) Y hB a1 b8 b6 (by simp only[sN,seval,h6]);rw[e3];refine or_congr Iff.rfl ⟨?_,?_⟩
  grind
  rintro⟨x,N,h2⟩;obtain⟨b,hb,rfl⟩:=G7 N;exact⟨b,hp.mem_iff.2 (uD.2 (by omega)),M[b],gn hb,h2⟩;omega
 |succ cc ih=>
  intro seen e lc s KB hc I e3 Y hB a1 b8 e8 b6 h6 h5 h7 j;rcases I.aL Q.ch Q.kmax (fun i=>by have:=hK i;omega) with⟨hp,hn⟩|⟨b,p,s1,hb,hnm,hlt,hn,ho,hi,hn1,hm1⟩
  have:=hp.length_eq;rw[DU] at this;omega
  ·obtain⟨x,e7,rfl⟩:=afR hb
   have I1:=I.go d1 hb hnm ho hi;have d0:=jv.entry hi I1.hm hb;have S:s1.gt<=s1.aL:=by rw[hm1,hn1];exact dh s it none b6
   obtain⟨⟨b1,b2⟩,b3,b4⟩:=f0 x (eP e7);have c9:x.1.toNat<R.length:=by omega
   have c8:x.2.1.toNat<R.length:=by omega
   obtain⟨u,b0⟩: ∃u,R[x.1.toNat]? =some u:=⟨_,gn c9⟩;obtain⟨d,a9⟩: ∃d,R[x.2.1.toNat]? =some d:=⟨_,gn c8⟩;have ga:R.getD x.1.toNat jy=u:=by rw[nA,b0];rfl
   have gb:R.getD x.2.1.toNat jy=d:=by rw[nA,a9];rfl
   have n1:dS (ic x.1)=some x.1.toNat:=by
    conv=>lhs;rw[<-K8 b1]
    exact oz _ _
   have n2:dS (ic x.2.1)=some x.2.1.toNat:=by
    conv=>lhs;rw[<-K8 b3]
    exact oz _ _
   have e0:s1.get [] r=_:=((ho r d4).trans (a1 r c5 d4 d7)).trans hR;have la:=JB e0 b0;have lb:=JB e0 a9;have m0:dS (ic 0)=some 0:=rfl;have m1:dS (ic 1)=some 1:=rfl;simp only[iO] at la lb;simp only[aU] at hn d0;have c7:=kZ S;have c6:=alA S (.cells [.str [],.str [],.oZ]);have a4:(s1.new (.cells [.str [],.str [],.oZ])).gt<=(s1.new (.cells [.str [],.str [],.oZ])).aL:=cq S;have c0:=kZ a4;obtain⟨z,hz⟩:=ct ((s1.new (.cells [.str [],.str [],.oZ])).rX ((s1.new (.cells [.str [],.str [],.oZ])).top.put s1.aL (some (.cells [.str d.1.1,.str d.1.2,.list 1 (d.2.1.map aG) (.own d.2.2)]))));have zn:z.aL=s1.aL+1:=by rw[<-hz];rfl
   have F:z.gt<=z.aL:=by rw[<-hz];exact pW a4 (br _)
   have zg: ∀k,k≠s1.aL->z.get [] k=(s1.new (.cells [.str [],.str [],.oZ])).get [] k:=fun k hk=>by rw[<-hz,mY,aX,bN.2 hk];rfl
   have zo: ∀k,k<s1.aL->z.get [] k=s1.get [] k:=fun k hk=>(zg k (by omega)).trans (cz hk);have O:z.get [] s1.aL=some (.cells [.str d.1.1,.str d.1.2,.list 1 (d.2.1.map aG) (.own d.2.2)]):=by rw[<-hz,mY,aX,bS];rfl
   have H: ∀e,jE ae [] 196 (.ptr s1.aL 0) none none none e z.top=some (.arr 1 s1.aL 0 2 2):=fun e=>aan _ _ _ _ _ (show z.top.get [] s1.aL=_ from O) (by simp);have fin: ∀(e':ax) (a8:Ag.Loc) (s':St) (KB':List CK),(∀k,k∈KB'↔k∈KB\/wW R x k)->KB'.Nodup->bR jw s' mb (ku KB')->(∀k,k<s1.aL->k≠mb->s'.get [] k=s1.get [] k)->s'.aL=s1.aL+1->s'.gt<=s'.aL->ac e' 6=ac E0 6->ac e' 5= .arr 3 r 0 R.length c->ac e' 7= .func (.func 128) [] [.ptr bx 0]->ac e' 103= .ptr it 0->W Q 59 (.loop Js) ⟨e',180,a8⟩ s' C:=by
    intro e' a8 s' KB' k1 k2 k3 k4 k5 k6 k7 k8 k9 e6;refine ih (seen++[b]) e' a8 s' KB' (by grind) ⟨(k4 it (by omega) d3.symm).trans I1.hi,(k4 mf (by omega) d5).trans I1.hm,I1.nd,I1.lt⟩ (fun k=>?_) k2 k3 (fun k q1 q2 q3=>?_) (by omega) (by omega) k6 k7 k8 k9 e6
    grind
    grind
   have zB:bR jw z mb (ku KB):=((zo mb (by omega)).trans (ho mb d3)).trans hB;have a5:z.get [] bx=some (.cells [.map mb]):=(((zo bx (by omega)).trans (ho bx d2)).trans (a1 bx c3 d2 d6)).trans e9;have U: ∀(i:Nat) (y:ag),([d.1.1,d.1.2]:List ag)[i]? =some y->([aa.str d.1.1,aa.str d.1.2,.list 1 (d.2.1.map aG) (.own d.2.2)]:List aa)[0+i]? =some (.str y):=fun i y hy=>by
    match i,hy with
    |0,hy=>grind
    |1,hy=>grind
   have b7:z.top.get [] s1.aL=_:=O;have e5:=TG a2 a3 (cap:=2) (off:=0) (len:=2) b7 rfl U (by simp) u.1.1;have e4:=TG a2 a3 (cap:=2) (off:=0) (len:=2) b7 rfl U (by simp) u.1.2;have J:=ac5 u.1 d.1;have a7:ay 1 aG (.list 1 (u.2.1.map aG) (.own u.2.2)) u.2.1:=.inr ⟨_,rfl⟩;have a6:ay 1 aG (.list 1 (d.2.1.map aG) (.own d.2.2)) d.2.1:=.inr ⟨_,rfl⟩;have o1:=e1 u (eP b0);have o2:=e1 d (eP a9);have skip:qf u.1 d.1 x.2.2=true-> ∀k,k∈KB↔k∈KB\/wW R x k:=fun h k=>by
    unfold wW;rw[ga,gb,h];simp
   have G:qf u.1 d.1 x.2.2=false-> ∀k,k∈rY d.2.1 KB u.2.1↔k∈KB\/wW R x k:=fun h k=>by
    unfold wW;rw[ga,gb,h,XR];simp
   refine lk ?_;simp only[go_sem,seval,Js,j,yG,hn,EH,d0,fh,bj,bg,aZ,bf,evc];refine iT S ?_;simp only[go_sem,tG,tH,seval,h5,m0,m1,n1,n2,c9,c8,la,lb,aW,GB,dn,cW,dp,c7,c6,c0,hz];refine iT F ?_;simp only[go_sem,tG,tH,seval,m0,m1,O,aW,aY,H,iU];refine kY.calm F e5 (by decide) (by simp[fo,pD]) ?_;cases hc1:([d.1.1,d.1.2]:List ag).contains u.1.1 with
   |true=>
    cases heq:wK u.1 d.1 with
    |true=>
     simp only[go_sem,tG,tH,seval,J,heq,O,aW,aY,H,cH,ce];refine fin _ _ z KB (skip (by unfold qf;rw[heq];rfl)) Y zB (fun k N _=>zo k N) zn F ?_ ?_ ?_ ?_
     all_goals simp only[sN,seval,h6,h5,h7,j]
    |false=>
     cases hkd:an x.2.2 1 with
     |true=>
      simp only[go_sem,tG,tH,seval,J,heq,hkd,O,aW,aY,H,cH,ce];refine fin _ _ z KB (skip (by unfold qf HM;rw[heq,hkd,hc1];rfl)) Y zB (fun k N _=>zo k N) zn F ?_ ?_ ?_ ?_
      all_goals simp only[sN,seval,h6,h5,h7,j]
     |false=>
      simp only[go_sem,tG,tH,seval,J,heq,hkd,O,aW,aY,H,cH,ce];refine LY Z a7 a6 o1 o2 (bx:=bx) (mb:=mb) (kb:=s1.aL) d6 (by omega) (s0:=z) a5 O (KE:=rY d.2.1 KB u.2.1) ?_ u.2.1 [] KB _ z rfl Y rfl (.refl F) zB (fun _ _=>rfl) rfl ?_ ?_ ?_ ?_ ?_;intro e2 s2 B a0 w A;simp only[go_sem,seval];refine fin _ _ s2 (rY d.2.1 KB u.2.1) (G (by unfold qf;rw[heq,hkd];rfl)) (JN Y) a0 (fun k N h2=>(B.old k h2).trans (zo k N)) (by rw[B.aL,zn]) B.mw ?_ ?_ ?_ ?_;rw[w 6 (by decide)];simp only[sN,seval,h6];rw[w 5 (by decide)];simp only[sN,seval,h5];rw[w 7 (by decide)];simp only[sN,seval,h7];rw[A];simp only[sN,seval,j]
      all_goals simp only[sN,seval,h7,bn,ce]
      all_goals rfl
   |false=>
    simp only[go_sem,tG,tH,seval,m0,m1,O,aW,aY,H,iU];refine kY.calm F e4 (by decide) (by simp[fo,pD]) ?_;cases heq:wK u.1 d.1 with
    |true=>
     simp only[go_sem,tG,tH,seval,J,heq,O,aW,aY,H,cH,ce];refine fin _ _ z KB (skip (by unfold qf;rw[heq];rfl)) Y zB (fun k N _=>zo k N) zn F ?_ ?_ ?_ ?_
     all_goals simp only[sN,seval,h6,h5,h7,j]
    |false=>
     cases hkd:an x.2.2 1 with
     |true=>
      cases hc2:([d.1.1,d.1.2]:List ag).contains u.1.2 with
      |true=>
       simp only[go_sem,tG,tH,seval,J,heq,hkd,O,aW,aY,H,cH,ce];refine fin _ _ z KB (skip (by unfold qf HM;rw[heq,hkd,hc1,hc2];rfl)) Y zB (fun k N _=>zo k N) zn F ?_ ?_ ?_ ?_
       all_goals simp only[sN,seval,h6,h5,h7,j]
      |false=>
       simp only[go_sem,tG,tH,seval,J,heq,hkd,O,aW,aY,H,cH,ce];refine LY Z a7 a6 o1 o2 (bx:=bx) (mb:=mb) (kb:=s1.aL) d6 (by omega) (s0:=z) a5 O (KE:=rY d.2.1 KB u.2.1) ?_ u.2.1 [] KB _ z rfl Y rfl (.refl F) zB (fun _ _=>rfl) rfl ?_ ?_ ?_ ?_ ?_;intro e2 s2 B a0 w A;simp only[go_sem,seval];refine fin _ _ s2 (rY d.2.1 KB u.2.1) (G (by unfold qf HM;rw[heq,hkd,hc1,hc2];rfl)) (JN Y) a0 (fun k N h2=>(B.old k h2).trans (zo k N)) (by rw[B.aL,zn]) B.mw ?_ ?_ ?_ ?_;rw[w 6 (by decide)];simp only[sN,seval,h6];rw[w 5 (by decide)];simp only[sN,seval,h5];rw[w 7 (by decide)];simp only[sN,seval,h7];rw[A];simp only[sN,seval,j]
       all_goals simp only[sN,seval,h7,bn,ce]
       all_goals rfl
     |false=>
      simp only[go_sem,tG,tH,seval,J,heq,hkd,O,aW,aY,H,cH,ce];refine LY Z a7 a6 o1 o2 (bx:=bx) (mb:=mb) (kb:=s1.aL) d6 (by omega) (s0:=z) a5 O (KE:=rY d.2.1 KB u.2.1) ?_ u.2.1 [] KB _ z rfl Y rfl (.refl F) zB (fun _ _=>rfl) rfl ?_ ?_ ?_ ?_ ?_;intro e2 s2 B a0 w A;simp only[go_sem,seval];refine fin _ _ s2 (rY d.2.1 KB u.2.1) (G (by unfold qf;rw[heq,hkd];rfl)) (JN Y) a0 (fun k N h2=>(B.old k h2).trans (zo k N)) (by rw[B.aL,zn]) B.mw ?_ ?_ ?_ ?_;rw[w 6 (by decide)];simp only[sN,seval,h6];rw[w 5 (by decide)];simp only[sN,seval,h5];rw[w 7 (by decide)];simp only[sN,seval,h7];rw[A];simp only[sN,seval,j]
      all_goals simp only[sN,seval,h7,bn,ce]
      all_goals rfl
def Dn(k:CK):ag:=bif k.1==k.2 then [] else k.2
def jW(k:CK):Nat:=bif k.1==k.2 then 1 else 2
abbrev jS:=CK×Nat
def iK(x:jS):aa:=.agg [.str [],ic 2,.arr 1 x.2 0 (jW x.1) 2]
def Ap(k:CK):List aa:=[.str k.1,.str (Dn k)]
def arX:ae.underlying 195=some (.map 196 4):=by kernel_rfl
structure Ln (lo:Nat) (s:St) (ov:aa) (acc:List jS):Prop where
 row:kW 3 s ov (acc.map iK)
 ids: ∀x∈acc,s.get [] x.2=some (.cells (Ap x.1))/\lo<=x.2/\x.2<s.aL/\amb ov≠some x.2
 rlo: ∀r,amb ov=some r->lo<=r
def QI{R:List jS}: ∀v∈R.map iK,v.cells.length=3:=fun v d=>by
 obtain⟨x,_,rfl⟩:=dy.1 d;rfl
def ado(hK: ∀i,1000000<=Q.kmax i)(O:No Q 133)(b6:KB.length<1000000)(c1:it<lo)(c2:mb<lo)(d1:mb≠it)(H: ∀e lc s ov (d:List jS),(d.map (·.1)).Perm KB->Ln lo s ov d->s.gt<=s.aL->ac e 28=ov->C (.exit 14) ⟨e,180,lc⟩ s):
 ∀(cc:Nat) (seen:List Nat) (e:ax) (lc:Ag.Loc) (s:St) (ov:aa) (d:List jS),cc+seen.length=KB.length->jv jw s it mb (ku KB) seen->d.map (·.1)=seen.map (fun b=>KB.getD b ([],[]))->Ln lo s ov d->lo<=s.aL->s.gt<=s.aL->ac e 28=ov->ac e 166= .ptr it 0->W Q 59 (.loop Ou) ⟨e,180,lc⟩ s C:=by
 have b0:(ku KB).length=KB.length:=uj _ _;intro cc
 induction cc with
 |zero=>
  intro seen e lc s ov d hc I A w a9 J B h;rcases I.aL Q.ch Q.kmax (fun i=>by have:=hK i;omega) with⟨hp,hn⟩|⟨b,p,s1,u,hnm,hlt,_⟩
  refine bG ?_;simp only[go_sem,seval,Ou,h,yG,hn,fh,bj,bg,aZ,bf,evc];refine H _ _ s ov d ?_ w J (by simp only[sN,seval,B]);rw[A];rw[b0] at hp;refine(hp.map _).trans ?_;have:(ix KB.length).map (fun b=>KB.getD b ([],[]))=KB:=by
   refine G4 (by simp) fun i h1 h2=>?_;simp[nA,h2]
  rw[this];omega
 |succ cc ih=>
  intro seen e lc s ov d hc I A w a9 J B h;rcases I.aL Q.ch Q.kmax (fun i=>by have:=hK i;omega) with⟨hp,hn⟩|⟨b,p,s1,u,hnm,hlt,hn,ho,hi,hn1,hm1⟩
  have:=hp.length_eq;rw[DU] at this;omega
  ·have a0:b<KB.length:=by
    have:=(nY.1 u).1;omega
   obtain⟨k,hk⟩:=ct (KB[b]);have a8:p=(k,.bool true):=by
    have:(ku KB)[b]? =some (KB[b],.bool true):=by
     unfold ku gZ;rw[jf,gn a0];rfl
    rw[this] at u;rw[<-hk];exact(sI u).symm
   subst a8;have I1:=I.go d1 u hnm ho hi;have Z:=jv.entry hi I1.hm u;have Y:s1.gt<=s1.aL:=by rw[hm1,hn1];exact dh s it none J
   have S:=w.row.ge;obtain⟨z,U⟩:=ct ((s1.new (.cells [.str [],.str []])).put s1.aL (some (.cells [.str k.1,.str k.2])));have zn:z.aL=s1.aL+1:=by rw[<-U];rfl
   have G:z.gt<=z.aL:=by rw[<-U];exact dh _ _ _ (cq Y)
   have zk:z.get [] s1.aL=some (.cells [.str k.1,.str k.2]):=by rw[<-U,aX,bS];rfl
   have zo: ∀j,j<s1.aL->z.get [] j=s1.get [] j:=fun j hj=>by rw[<-U,aX,bN.2 (by omega:j≠s1.aL),cF,cz hj]
   have a7: ∀e,jE ae [] 196 (.ptr s1.aL 0) none none none e z=some (.arr 1 s1.aL 0 2 2):=fun e=>aan _ _ _ _ _ zk (by simp);have N: ∃v y,aq Q 133 [.arr 1 s1.aL 0 2 2] z v y/\(v= .arr 1 s1.aL 0 (jW k) 2/\y.get [] s1.aL=some (.cells (Ap k))/\(∀j,j≠s1.aL->y.get [] j=z.get [] j)/\y.aL=z.aL/\y.gt<=y.aL):=by
    obtain⟨v,y,F,⟨e1,rfl,rfl⟩|⟨e1,rfl,rfl⟩⟩:=aeq O zk G;have u:(k.1==k.2)=true:=by simpa using e1
    refine⟨_,_,F,by unfold jW;rw[u];rfl,?_,fun j hj=>by rw[aX,bN.2 hj];rfl,rfl,dh z _ _ G⟩;rw[aX,bS];unfold Ap Dn;rw[u];rfl;have u:(k.1==k.2)=false:=by simpa using e1
    refine⟨_,_,F,by unfold jW;rw[u];rfl,?_,fun _ _=>rfl,rfl,G⟩;rw[zk];unfold Ap Dn;rw[u];rfl
   simp only[jw] at hn Z;refine bG ?_;simp only[go_sem,seval,Ou,B,h,S,yG,hn,EH,Z,fh,aW,dn,cW,dp,U,a7,bj,bg,aZ,bf,evc];refine cG.ex N (by decide) ?_;rintro v y ⟨rfl,y1,y2,y3,y4⟩;have b1:kW 3 y ov (d.map iK):=w.row.mono (fun r F=>by
    have h1:=w.row.lt r F;have h2:=w.rlo r F;rw[y2 r (by omega),zo r (by omega),ho r (by omega)]) (by omega)
   obtain⟨s3,a1,a2,a3,a4,a5,a6⟩:=LH (t:=35) j6.1 rfl (by decide) (iK (k,s1.aL)) QI (by
    have h1:=congrArg List.length A;simp only[ce] at h1 ⊢;omega) y4 b1
   simp only[iK] at a1;simp only[go_sem,seval,B,S,iU,S8,fh,a1,bj,bg,aZ,bf,evc];refine ih (seen++[b]) _ _ s3 _ (d++[(k,s1.aL)]) (by rw[cJ];simp only[bH,bn];omega) ⟨?_,?_,I1.nd,I1.lt⟩ ?_ ⟨by rw[ff];exact a2,fun x H=>?_,fun r F=>?_⟩ (by omega) a5 ?_ ?_;rw[a6 it (by omega) (fun e=>by have:=w.rlo it e;omega),y2 it (by omega),zo it (by omega)];exact I1.hi;have:s3.get [] mb=s1.get [] mb:=by rw[a6 mb (by omega) (fun e=>by have:=w.rlo mb e;omega),y2 mb (by omega),zo mb (by omega)]
   exact this.trans I1.hm;rw[ff,ff,A];simp[nA,a0,hk];rcases lj.1 H with H|H
   obtain⟨i1,i2,i3,i4⟩:=w.ids x H;refine⟨?_,i2,by omega,fun e=>by injection e with e;omega⟩;rw[a6 x.2 (by omega) i4,y2 x.2 (by omega),zo x.2 (by omega),ho x.2 (by omega)];exact i1;rw[BB.1 H];refine⟨?_,by show lo<=s1.aL;omega,by show s1.aL<s3.aL;omega,fun e=>by injection e with e;omega⟩;rw[a6 s1.aL (by omega) (fun e=>by have:=w.row.lt _ e;omega)];exact y1;injection F with F
   omega
   all_goals simp only[sN,seval,h,ce]
open Go.Sort (SWO)
theorem Mn: ∀ {a b c:List ag},fH a b<0->fH b c<0->fH a c<0
 | [],[],_,h1,_=>by simp[fH] at h1
 |_::_,[],_,h1,_=>by simp[fH] at h1
 | [],_::_,[],_,h2=>by simp[fH] at h2
 | [],_::_,_::_,_,_=>by simp[fH]
 |_::_,_::_,[],_,h2=>by simp[fH] at h2
 |a::x,b::y,c::z,h1,h2=>by
  simp only[fH,HI] at*;by_cases p:dz a b=0
  have:=uU p;subst this;have e:an (dz a a) 0=true:=by rw[p];rfl
  rw[e] at h1;cases q:an (dz a c) 0 with
  |true=>rw[q] at h2;exact Mn h1 h2
  |false=>rw[q] at h2;exact h2
  have e:an (dz a b) 0=false:=by simp[an,p]
  rw[e] at h1;by_cases q:dz b c=0
  grind [uU]
  have d:an (dz b c) 0=false:=by simp[an,q]
  rw[d] at h2;have h:=Eo h1 h2
  grind [an]
def aem(a:List ag):fH a a=0:=by have:=B8 a a;omega
theorem aaJ:SWO (ltOf fH) where
 irrefl x:=by simp[ltOf,aem]
 trans x y z h1 h2:=by
  grind [ltOf,Mn]
 ntrans x y z h1 h2:=by
  grind [ltOf,Mo,B8,Mn]
theorem aa9{x y:List ag}(h1:ltOf fH x y=false)(d:ltOf fH y x=false):x=y:=by
 grind [ltOf,B8,Mo]
def nk(x:jS):aa:=.agg [.str [],ic 2,.list 1 ((jr x.1).map aG) .no]
def vJ(x:Nat×Nat):aa:=.agg [.str [],ic 2,.arr 1 x.1 0 x.2 2]
def wE:List (Nat×Nat)->(List jS->Rd)->Rd
 | [],k=>k []
 |x::l,k=>.ask x.1 fun o=>match o with
  | .cells [.str a,.str b]=>bif x.2==1 then wE l fun r=>k (((a,a),x.1)::r) else bif x.2==2&& !(a==b) then wE l fun r=>k (((a,b),x.1)::r) else .ret none
  |_=>.ret none
def EL(g:Nat->Option aR)(x:jS):Prop:= ∃b,g x.2=some (.cells [.str x.1.1,.str b])/\(jW x.1=1\/(jW x.1=2/\b=x.1.2))
theorem LR{g:Nat->Option aR}{u:aa}: ∀ {l:List (Nat×Nat)} {K:List jS->Rd},gm g (wE l K)=some u-> ∃L,L.map (fun x=>(x.2,jW x.1))=l/\(∀x∈L,EL g x)/\gm g (K L)=some u
 | [],K,h=>⟨[],rfl,fun _ h=>(by cases h),h⟩
 |x::l,K,h=>by
  have h:(g x.1).bind (fun o=>gm g (match o with
   | .cells [.str a,.str b]=>bif x.2==1 then wE l fun r=>K (((a,a),x.1)::r) else bif x.2==2&& !(a==b) then wE l fun r=>K (((a,b),x.1)::r) else .ret none
   |_=>.ret none))=some u:=h
  simp only[ak] at h;obtain⟨o,z,h⟩:=h;split at h;rename_i a b;cases e1:x.2==1 with
  |true=>
   rw[e1] at h;obtain⟨L,A,j,e⟩:=LR h;have w:jW (a,a)=1:=by unfold jW;simp
   refine⟨((a,a),x.1)::L,?_,fun y d=>?_,e⟩
   grind
   rcases fc.1 d with rfl|d
   exact⟨b,z,.inl w⟩;exact j y d
  |false=>
   rw[e1] at h;simp only[cF] at h;cases e2:(x.2==2&& !(a==b)) with
   |true=>
    rw[e2] at h;simp only[bu,awP] at e2;obtain⟨L,A,j,e⟩:=LR h;have w:jW (a,b)=2:=by unfold jW;rw[e2.2];rfl
    refine⟨((a,b),x.1)::L,?_,fun y d=>?_,e⟩
    grind
    rcases fc.1 d with rfl|d
    exact⟨b,z,.inr ⟨w,rfl⟩⟩;exact j y d
   |false=>rw[e2] at h;cases h
  cases h
theorem Sw{g:Nat->Option aR}: ∀ {L:List jS} {K:List jS->Rd},(∀x∈L,g x.2=some (.cells (Ap x.1)))->gm g (wE (L.map fun x=>(x.2,jW x.1)) K)=gm g (K L)
 | [],K,_=>rfl
 |x::L,K,h=>by
  have j:=h x iL;have e:=fun K=>Sw (K:=K) fun y d=>h y (iE _ d);obtain⟨⟨a,b⟩,n⟩:=x;show(g n).bind _=_
  grind [Ap,Dn,jW]
def abm{h:aC aR}{x:jS}(hi:EL h.get x):fY h (iK x) (nk x):=by
 obtain⟨b,u,d⟩:=hi;refine⟨3,?_⟩;have e:cL h 2 (.arr 1 x.2 0 (jW x.1) 2)=some (.list 1 ((jr x.1).map aG) .no):=by
  show(match h.get x.2 with
   |some (.cells cs)=>(cut cs 0 (jW x.1*1)).bind fun c=>(dL (cL h 1) c).bind fun w=>(bf (!aQ 1 1) 1 (jW x.1) w).bind fun xs=>some (aa.list 1 xs .no)
   |_=>none)=_
  rw[u];obtain⟨⟨p,q⟩,n⟩:=x;unfold jr;simp only[jW] at d ⊢;cases e:p==q with
  |true=>rfl
  |false=>
   rw[e] at d;have j:b=q:=by
    rcases d with d|d
    cases d;exact d.2
   subst j;rfl
 show(dL (cL h 2) [.str [],ic 2,.arr 1 x.2 0 (jW x.1) 2]).bind (fun r=>some (aa.agg r))=_;simp only[dL,e,au];rfl
def AJ:aa->Option (List ag)
 | .agg [.str _,.int .i64 _,w]=>bif bL w then eX 1 jl w else none
 |_=>none
def TE:Sp
 | [u,v]=>(AJ u).bind fun a=>(AJ v).bind fun b=>bif pures [u,v]&&bm a.length small then some (cd (fH a b)) else none
 |_=>none
variable{l:List ag}
theorem Vg(h:AJ v=some l): ∃a i w,v= .agg [.str a,ic i,w]/\ay 1 aG w l/\bL w=true:=by
 unfold AJ at h
 grind [kr,pM]
def ag0(x:jS):AJ (nk x)=some (jr x.1):=by
 have d:bL (.list 1 ((jr x.1).map aG) .no)=true:=by simp only[bL,vE vQ,cw]
 show(bif bL (.list 1 ((jr x.1).map aG) .no) then iV jl ((jr x.1).map aG) else none)=_;rw[d,yX oc];rfl
def asD(x:jS):bL (nk x)=true:=by simp only[nk,bL,pures,vE vQ,cw,je]
def ad5(e:No Q 135)(d:Q.spec 136=some DB){w w':aa}{r:List ag}(u:ay 1 aG w l)(h:ay 1 aG w' r)(y:bL w=true)(x:bL w'=true)(z:l.length<small)(a b:ag)(i j:Int)(s:St):aq Q 135 [.agg [.str a,ic i,w],.agg [.str b,ic j,w']] s (cd (fH l r)) s:=by
 have q:=arf u h y x z;have B:=u.ge;have A:=h.ge;refine aq.ofNZ ahV (co ?_);simp only[go_sem,seval,d,q,B,A,cd]
def acs:dX:=[(136,DB)]
def acu:dR acs:=.cons arh .nil
def aeo:db ae 135 TE:=by
 refine GK acu (W:=[]) .nil fun e u h=>?_;unfold TE at h;split at h;simp only[ak] at h;obtain⟨a,F,b,B,h⟩:=h;obtain⟨d,h⟩:=bh h;simp only[bu] at d;have h:=sI h;subst h;obtain⟨H,i,w,rfl,A,z⟩:=Vg F;obtain⟨G,j,I,rfl,y,x⟩:=Vg B;exact⟨d.1,fun J=>⟨_,_,ad5 ⟨rfl,rfl⟩ rfl A y z x (Nat.le_of_ble_eq_true d.2) _ _ _ _ _,1,rfl⟩⟩;cases h
abbrev dV:jS:=(([],[]),0)
def kF(a b:jS):Int:=fH (jr a.1) (jr b.1)
noncomputable def A5(l:List jS):Bool:=by classical exact decide (l.length<=1000000/\(l.map fun x=>jr x.1).Nodup)
noncomputable def LS(m:Nat):Option (List (Nat×Nat))->Rd
 |some l=>bif l.all (fun x=> !(x.1==m)) then wE l fun L=>t6 (bif A5 L then some (aF ((kA kF dV L).map iK)) else none) else .ret none
 |none=>.ret none
noncomputable def Dx:List aa->Option pH
 | [.arr k' m 0 len _,.func (.func g') [] []]=>bif aQ k' 3&&aQ g' 135 then some (some (m,fun cs=>bif aQ cs.length (len*3) then LS m (uY vJ cs) else .ret none)) else none
 | [.oZ,.func (.func g') [] []]=>bif aQ g' 135 then some none else none
 |_=>none
theorem anW(k:CK):(jr k).length<=2:=by
 grind [jr]
theorem aq3:uN 134 Dx:=by
 have L:=Tryz.sortF134;have ef: ∀A w,(callFunc 134 A).run ae w= .ok (.enter 134 A) w:=Go.Proofs.enters_of Tryz.func134 (by kernel_rfl) rfl;have eg: ∀A w,(callFunc 135 A).run ae w= .ok (.enter 135 A) w:=Go.Proofs.enters_of Tryz.func135 (by kernel_rfl) rfl;intro A G h w xs wr hx;refine⟨fun F=>?_,fun n gf cs a2 F hl d=>?_⟩
 ·unfold Dx at F
  split at F
  grind
  ·cases hx with
   |cons p q=>
   cases q with
   |cons q r=>
   cases r;cases p;cases q with
   |func q1 q2=>
   cases q1;cases q2;refine .inr ⟨ef _ _,(AnyF.slices_SortFunc_none L none 0 _ w).mono ?_⟩;rintro e w' ⟨rfl,rfl⟩;exact⟨_,rfl,G,wr,.refl,.tup .nil⟩
  cases F
 ·unfold Dx at F
  split at F
  ·rename_i k' m len I g'
   have hb:=(bh F).1;have Z:=(bh F).2;clear F;simp only[bu] at hb;have O:=jP hb.1;have N:=jP hb.2;subst O;subst N;injection Z with Z;injection Z with Z;injection Z with a4 a3
   subst a4;subst a3;have d:gm h.get (bif aQ cs.length (len*3) then LS m (uY vJ cs) else .ret none)=some (.agg a2):=d;cases B:aQ cs.length (len*3) with
   |false=>rw[B] at d;cases d
   |true=>
   rw[B] at d;have B:=jP B;simp only[cT] at d;cases hd:uY vJ cs with
   |none=>rw[hd] at d;cases d
   |some U=>
   rw[hd] at d;have a1:=Mw hd;have d:gm h.get (bif U.all (fun x=> !(x.1==m)) then wE U fun L=>t6 (bif A5 L then some (aF ((kA kF dV L).map iK)) else none) else .ret none)=some (.agg a2):=d;cases hne:U.all (fun x=> !(x.1==m)) with
   |false=>rw[hne] at d;cases d
   |true=>
   rw[hne] at d;obtain⟨l,h1,a6,d⟩:=LR d;have d:=Gl d;obtain⟨h2,d⟩:=bh d;have d:=(sI d).symm;subst d;have a5:U.map vJ=l.map iK:=by rw[<-h1,mI];rfl
   rw[a5] at a1;subst a1;have a9: ∀x∈l,x.2≠m:=fun x hx e=>by
    have:(x.2,jW x.1)∈U:=by rw[<-h1];exact dy.2 ⟨x,hx,rfl⟩
    grind
   have a0: ∀v∈l.map iK,v.cells.length=3/\v= .agg v.cells:=fun v hv=>by
    obtain⟨a,_,rfl⟩:=dy.1 hv;exact⟨rfl,rfl⟩
   have J:l.length=len:=by
    rw[oG (fun v hv=>(a0 v hv).1),ce] at B;omega
   simp only[A5,dE] at h2;cases hx with
   |cons p q=>
   cases q with
   |cons q r=>
   cases r;cases q with
   |func u1 u2=>
   cases u1;cases u2;have H:(l.map iK).length=l.length:=ce ..;have hy: ∀z,VR G (.arr 3 m 0 len I) z->VR G (.arr 3 m 0 (l.map iK).length I) z:=fun z hz=>by rw[H,J];exact hz
   have gen: ∀n (hn:n=l.length),SWO (ltOf fun x y:Fin n=>eT kF dV l x y)/\(∀x y:Fin n,(ltOf fun x y:Fin n=>eT kF dV l x y) x y=false->(ltOf fun x y:Fin n=>eT kF dV l x y) y x=false->x=y):=by
    intro n hn;subst hn;refine⟨KN aaJ fun i:Fin l.length=>jr (l.getD i dV).1,fun x y q1 q2=>?_⟩;have h:=aa9 (x:=jr (l.getD x dV).1) (y:=jr (l.getD y dV).1) q1 q2;rw[Cp,Cp] at h;exact Fin.ext (JK h2.2 (i:=x) (j:=y) (x:=l[x]) (y:=l[y]) (by simp) (by simp) h)
   have Y:=fun hO=>Qe L rfl Tryz.isAgg31 Tryz.sizeOf31 ef eg aeo wr (rows:=l.map iK) (us:=l.map nk) hl a0 (by decide) (by rw[ce,ce]) (fun i v u O N=>by
    rw[jf,uH] at O N;obtain⟨a,g1,rfl⟩:=O;obtain⟨b,S,rfl⟩:=N;rw[g1] at S;injection S with S;subst S
    have a7:=eP g1;obtain⟨b',i1,i2⟩:=a6 a a7;exact abm ⟨b',by grind [aC.get_set],i2⟩) (eT kF dV l) (fun i j u u' O N=>by
    rw[jf,uH] at O N;obtain⟨a,g1,rfl⟩:=O;obtain⟨b,S,rfl⟩:=N;have e:eT kF dV l i j=kF a b:=by
     unfold eT;rw[nA,nA,g1,S];rfl
    have a8:=ajJ;have hb:bm (jr a.1).length small=true:=cP (by have:=anW a.1;omega);rw[e];show((AJ (nk a)).bind fun a'=>(AJ (nk b)).bind fun b'=>bif pures [nk a,nk b]&&bm a'.length small then some (cd (fH a' b')) else none)=_;simp only[akZ,ag0,pures,asD,cw,hb];rfl) hO (gen _ H).2 (by rw[H];exact h2.1) (hy _ p)
   rw[Qi] at Y;exact Y (gen _ H).1
  all_goals grind
end Go.Proofs.YtnnppcoplinajaaGreat
namespace Go.Proofs.YtnnppcoplinajaaGreat
open Go.Ag
open Go.Sort (SWO)
def MO{α β:Type}{f:α->List β}{n:Nat}: ∀ {l:List α},(∀x∈l,(f x).length<=n)->(l.flatMap f).length<=l.length*n
 | [],_=>ki _
 |x::l,h=>by
  have j:=h x iL;have e:=MO (l:=l) fun y d=>h y (iE _ d);rw[List.flatMap_cons,cJ,bH,Nat.succ_mul];omega
theorem Yb{α:Type}[DecidableEq α]: ∀ {K L:List α},K.Nodup->(∀x∈K,x∈L)->K.length<=L.length
 | [],_,_,_=>ki _
 |x::K,L,nd,h=>by
  obtain⟨u,j⟩:=List.nodup_cons.1 nd;have z:=h x iL;have w:=Yb (K:=K) (L:=L.erase x) j fun y d=>(List.mem_erase_of_ne (fun e=>u (by rw[<-e];exact d))).2 (h y (iE _ d))
  grind
theorem W8(a b:ag):((fu a b).1=a\/(fu a b).1=b)/\((fu a b).2=a\/(fu a b).2=b):=by
 grind [fu,CS,CQ]
variable{k:CK}{o:Obj}
theorem aak(h:k∈kP o):k.1∈o.gE/\k.2∈o.gE:=by
 unfold kP at h;obtain⟨p,d,rfl⟩:=dy.1 h;have j:p.1∈o.gE:=(ay7 d).1;have e:p.2∈o.gE:=by
  rcases lj.1 (ay7 d).2 with h|h
  exact List.mem_of_mem_tail h
  grind
 grind [W8]
variable{l:List Obj}
theorem Ie{r:ag}(h:ei l r=true): ∃q,dP r l=some q/\q.nR=1:=by
 grind [ei,pV,an]
theorem alK(h:k∈jJ l o):ei l k.1=true/\ei l k.2=true:=by
 grind [jJ,w8,aak]
theorem Xm(l:List Obj)(o:Obj):(jJ l o).length<=o.gE.length:=by
 grind [jJ,kP]
theorem aah(id:ag): ∀(u:List CK) (d:List CK×(CK->List ag)),(∀k,k∈(u.foldl (jk id) d).1->k∈d.1\/k∈u)/\ ∀k y,y∈(u.foldl (jk id) d).2 k->y∈d.2 k\/(y=id/\k∈u)
 | [],d=>⟨fun _ h=>.inl h,fun _ _ h=>.inl h⟩
 |j::u,d=>by
  obtain⟨A,z⟩:=aah id u (jk id d j);have F: ∀k,k∈(jk id d j).1->k∈d.1\/k=j:=fun k x=>by
   grind [jk,qO]
  have B: ∀k y,y∈(jk id d j).2 k->y∈d.2 k\/(y=id/\k=j):=fun k y w=>by
   unfold jk at w;cases e:(d.2 j).contains id with
   |true=>rw[e] at w;exact .inl w
   |false=>
    rw[e] at w
    grind [lH]
  grind
theorem Pf(l:List Obj): ∀(os:List Obj) (d:List CK×(CK->List ag)),(∀k,k∈(os.foldl (io l) d).1->k∈d.1\/ ∃o∈os,k∈jJ l o)/\ ∀k y,y∈(os.foldl (io l) d).2 k->y∈d.2 k\/ ∃o∈os,y=o.id/\k∈jJ l o
 | [],d=>⟨fun _ h=>.inl h,fun _ _ h=>.inl h⟩
 |o::os,d=>by
  obtain⟨x,w⟩:=Pf l os (io l d o);obtain⟨A,z⟩:=aah o.id (jJ l o) d;refine⟨fun k u=>?_,fun k y e=>?_⟩
  ·rcases x k u with h|⟨q,j,h⟩
   ·rcases A k h with h|h
    all_goals grind
   grind
  ·rcases w k y e with h|⟨q,j,h⟩
   ·rcases z k y h with h|h
    all_goals grind
   grind
theorem ao2(h:k∈(ip l).1): ∃o∈l,k∈jJ l o:=by
 rcases(Pf l l ([],fun _=>[])).1 k h with h|h
 cases h;exact h
def Y9{y:ag}(h:y∈(ip l).2 k): ∃o∈l,y=o.id/\k∈jJ l o:=by
 rcases(Pf l l ([],fun _=>[])).2 k y h with h|h
 cases h;exact h
theorem Yj(l:List Obj)(k:CK): ∀(os:List Obj) (d:List CK×(CK->List ag)),((os.foldl (io l) d).2 k).length<=(d.2 k).length+(os.flatMap (jJ l)).length
 | [],_=>Nat.le_add_right _ _
 |o::os,d=>by
  have e:=Yj l k os (io l d o)
  grind [Hq,io]
theorem ao4(l:List Obj)(k:CK):((ip l).2 k).length<=(l.flatMap (jJ l)).length:=by
 grind [ip,Yj]
theorem amF:k∈iI l↔k∈(ip l).1:=(GH _).mem_iff
theorem OC(h:k∈iI l):ei l k.1=true/\ei l k.2=true:=by
 grind [ao2,amF,alK]
theorem X9(e:dD l=true){r:ag}(h:ei l r=true):bk (fJ l r)=true:=by
 obtain⟨q,j,u⟩:=Ie h;unfold dD at e;simp only[bu] at e;have d:=JP l [] e.1 q (tS j).1;rw[Gi j];unfold gH at d;obtain⟨_,d⟩:=(fun h=>⟨trivial,h⟩:_->True/\_) d;cases e1:oo q with
 |true=>rw[e1] at d;cases d
 |false=>
 rw[e1] at d;cases e2:pK q.nR [] [] q.gE with
 |true=>rw[e2] at d;cases d
 |false=>
 rw[e2,u] at d;have d:(q.gE.length==0&&qS q.x q.y)=true:=d
 grind [qS,cr,bc,bk]
theorem aqt(d:dD l=true)(h:k∈iI l):qP (pA l k)=true:=by
 grind [OC,qP,pA,X9]
def Eu(l:List Obj):List CK:=(ie ((iI l).map (pA l))).flatMap fun x=>
 let a:=(iI l).getD x.1.toNat ([],[])
 let b:=(iI l).getD x.2.1.toNat ([],[])
 bif qf a b x.2.2 then [] else((ip l).2 a).flatMap fun u=>((ip l).2 b).map fun y=>fu u y
def yB(l:List Obj):List ag:=(iI l).flatMap fun k=>[k.1,k.2]
def JI(l:List Obj):List CK:=(yB l).flatMap fun x=>((yB l).filter fun y=> !(x==y)&&(an (fJ l x).1 (fJ l y).1&&an (fJ l x).2 (fJ l y).2)).map fun y=>fu x y
def rp(l:List Obj):List CK:=(JI l++Eu l).foldl (fun K k=>fq k K) []
theorem R9{k:CK}: ∀ {l K:List CK},k∈l.foldl (fun K k=>fq k K) K↔k∈K\/k∈l
 | [],K=>by simp
 |j::l,K=>by
  rw[uA,R9,qO,fc]
  grind
def Sa: ∀ {l K:List CK},K.Nodup->(l.foldl (fun K k=>fq k K) K).Nodup
 | [],_,h=>h
 |j::l,K,h=>by
  rw[uA];exact Sa (x5 h)
def Sy(l:List Obj):(rp l).Nodup:=Sa BC
def XN:k∈rp l↔k∈JI l\/k∈Eu l:=by
 unfold rp;rw[R9,lj];simp
theorem XO:k∈JI l↔ ∃x y,x∈yB l/\y∈yB l/\x≠y/\fJ l x=fJ l y/\k=fu x y:=by
 grind [an,JI]
theorem ahn(T:CK->Nat):(∃x∈ie ((iI l).map (pA l)),wW ((iI l).map fun k=>(k,(ip l).2 k,T k)) x k)↔k∈Eu l:=by
 unfold Eu;rw[uC];refine exists_congr fun x=>and_congr_right fun d=>?_;have e:=LF d;rw[ce] at e;have h: ∀i:Int,0<=i->i<(iI l).length->((iI l).map fun k=>(k,(ip l).2 k,T k)).getD i.toNat jy=((iI l).getD i.toNat ([],[]),(ip l).2 ((iI l).getD i.toNat ([],[])),T ((iI l).getD i.toNat ([],[]))):=fun i u j=>by
  grind
 grind [wW]
theorem TR{x:ag}(h:x∈yB l): ∃q∈l,q.id=x:=by
 unfold yB at h;obtain⟨k,u,d⟩:=uC.1 h;obtain⟨y,w⟩:=OC u;obtain⟨j,A,_⟩:=Ie y;obtain⟨e,z,_⟩:=Ie w;simp only[fc,zT,or_false] at d;rcases d with rfl|rfl
 exact⟨j,tS A⟩;exact⟨e,tS z⟩
theorem acZ(h:k∈rp l):k.1∈l.map Obj.id/\k.2∈l.map Obj.id:=by
 have j: ∀ {x y:ag},x∈l.map Obj.id->y∈l.map Obj.id->(fu x y).1∈l.map Obj.id/\(fu x y).2∈l.map Obj.id:=fun {x y} w d=>by
  grind [W8]
 rcases XN.1 h with h|h
 obtain⟨x,y,w,d,_,_,rfl⟩:=XO.1 h
 grind [TR]
 unfold Eu at h;obtain⟨x,_,h⟩:=uC.1 h;cases e:qf ((iI l).getD x.1.toNat ([],[])) ((iI l).getD x.2.1.toNat ([],[])) x.2.2 with
 |true=>simp only[e,cT] at h;cases h
 |false=>
  simp only[e,cF,uC,dy] at h;obtain⟨u,z,y,d,rfl⟩:=h;obtain⟨B,G,rfl,_⟩:=Y9 z;obtain⟨A,F,rfl,_⟩:=Y9 d
  grind [List.mem_map_of_mem]
theorem Sx(l:List Obj):(rp l).length<=l.length*l.length:=by
 have h:=Yb (L:=(l.map Obj.id).flatMap fun x=>(l.map Obj.id).map fun y=>(x,y)) (Sy l) fun k d=>by
  grind [acZ]
 have e:=MO (f:=fun x=>(l.map Obj.id).map fun y=>(x,y)) (n:=l.length) (l:=l.map Obj.id) fun x _=>by
  grind
 grind
theorem Yz{a b:CK}(h:jr a=jr b):a=b:=by
 grind [jr]
def so(K:List CK):List CK:=(kA kF dV (K.map fun k=>(k,0))).map (·.1)
def ars(L:List jS):SWO (ltOf fun x y:Fin L.length=>eT kF dV L x y):=KN aaJ fun i:Fin L.length=>jr (L.getD i dV).1
variable{K:List CK}
def aq4{L:List jS}(h:(L.map (·.1)).Perm K):(kA kF dV L).map (·.1)=so K:=by
 have e:((kA kF dV L).map (·.1)).Perm (so K):=by
  refine(((xH kF dV L).map _).trans h).trans ?_;refine(((xH kF dV (K.map fun k=>(k,0))).map (·.1)).trans ?_).symm;rw[mI];exact .of_eq (List.map_id K)
 have d: ∀L:List jS,((kA kF dV L).map (·.1)).Pairwise fun a b=> ¬fH (jr b) (jr a)<0:=fun L=>by
  rw[Ha];exact KD kF dV L (ars L)
 refine e.eq_of_pairwise (fun a b _ _ u j=>?_) (d L) (d _);exact Yz (aa9 (by simp_all [ltOf]) (by simp_all [ltOf]))
theorem anL{L:List jS}(h:(L.map (·.1)).Perm K)(e:K.Nodup)(j:K.length<=1000000):A5 L=true:=by
 simp only[A5,dE];have d:=h.length_eq
 grind [Yz]
theorem ank{α:Type}[DecidableEq α]{K L:List α}(h1:K.Nodup)(d:L.Nodup)(h: ∀x,x∈K↔x∈L):K.Perm L:=by
 grind
end Go.Proofs.YtnnppcoplinajaaGreat
namespace Go.Proofs.YtnnppcoplinajaaGreat
open Go.Ag
def fO:dX:=[(31,jK),(224,Ae)]
def abV:dR fO:=.cons xd (.cons acG .nil)
noncomputable def fP:sV:=[(220,KF),(134,Dx)]
def ack:sW fP:=.cons aqZ (.cons aq3 .nil)
def Br(l:List Obj):aa:=fI 3 ((so (rp l)).map fun k=>nk (k,0))
theorem UJ{g:aa->Option aa}: ∀ {a b c d:List aa},dL g a=some c->dL g b=some d->dL g (a++b)=some (c++d)
 | [],b,c,d,e,h2=>by
   injection e with e;subst e;exact h2
 |x::a,b,c,d,e,h2=>by
  simp only[dL,ak,aJ] at e;obtain⟨u,w,r,h,rfl⟩:=e;have j:=UJ h h2
  grind [dL]
theorem UM{h:aC aR}: ∀ {L:List jS},(∀x∈L,EL h.get x)-> ∃m,dL (cL h m) (aF (L.map iK))=some (aF (L.map nk))
 | [],_=>⟨0,rfl⟩
 |x::L,hi=>by
  obtain⟨k,u⟩:=abm (hi x iL);obtain⟨e,z⟩:=MX u;obtain⟨d,w⟩:=UM (L:=L) fun y j=>hi y (iE _ j);refine⟨max e d,?_⟩
  grind [aF,UJ,yE,AD,Nat.le_max_right]
variable{s:St}{v:aa}
theorem agi{L:List jS}(hi: ∀x∈L,EL s.heap.get x)(h:kW 3 s v (L.map iK)):fY s.heap v (fI 3 (L.map nk)):=by
 rcases h with⟨rfl,u⟩|⟨j,n,rfl,w,_⟩
 have u:=xT.1 u;subst u;exact⟨1,rfl⟩;obtain⟨m,z⟩:=UM hi;refine⟨m+1,?_⟩;have w:s.heap.get n=some (.cells (aF (L.map iK))):=w;have B:cut (aF (L.map iK)) 0 ((L.map iK).length*3)=some (aF (L.map iK)):=by
  have:=oG (k:=3) (fun v d=>QI (R:=L) v d);simp only[cut,nz,bD];rw[re (by omega),this];simp
 have e:fI 3 (L.map nk)= .list 3 (L.map nk) .no:=by
  cases L with
  |nil=>exact absurd rfl j
  |cons x xs=>rfl
 have A:(L.map iK).length=(L.map nk).length:=by rw[ce,ce]
 have y:=Md (k:=3) (l:=L.map nk) fun v d=>by
  obtain⟨a,_,rfl⟩:=dy.1 d;exact⟨rfl,rfl⟩
 grind [cL,aQ]
def acE{segs:List bT}(h:segs.length<=1000):(ie segs).length<=1000000:=by
 have d:=Gc (F:=fM) (kK 0 segs);rw[wX] at d;have:segs.length*segs.length<=1000*1000:=rf h h;unfold ie;omega
theorem apZ{a b:Nat×Nat}(h:(vJ a).cells=(vJ b).cells):a=b:=by
 grind [vJ,gD]
theorem agX{g:Nat->Option aR}{x:jS}(h:g x.2=some (.cells (Ap x.1))):EL g x:=by
 refine⟨Dn x.1,h,?_⟩
 grind [jW,Dn]
variable{ov:aa}
def aqT{Q:aH}[Std Q](u:Q.spec 134=none)(j:Q.specW 134=some Dx){lo:Nat}{d:List jS}(F:Ln lo s ov d)(J:A5 d=true):
 ∃s',aq Q 134 [ov,.func (.func 135) [] []] s (.tup []) s'/\fY s'.heap ov (fI 3 ((kA kF dV d).map nk)):=by
 have A:=xH kF dV d;rcases F.row with⟨rfl,y⟩|⟨y,k,rfl,N,B⟩
 have y:=xT.1 y;subst y;refine⟨s,aq.specW0 u (Std.H _) j rfl,?_⟩;rw[List.Perm.eq_nil A];exact⟨1,rfl⟩;have hid:=fun x h=>(F.ids x h).1;have w: ∀x∈d,x.2≠k:=fun x h e=>(F.ids x h).2.2.2 (by rw[e];rfl);have I:(d.map iK).length=d.length:=ce ..;have z:gm (s.get []) (bif aQ (aF (d.map iK)).length ((d.map iK).length*3) then LS k (uY vJ (aF (d.map iK))) else .ret none)=some (.agg (aF ((kA kF dV d).map iK))):=by
  have Z:(aF (d.map iK)).length=(d.map iK).length*3:=oG fun v G=>QI v G;have Y:d.map iK=(d.map fun x=>(x.2,jW x.1)).map vJ:=by rw[mI];rfl
  have U:uY vJ (aF (d.map iK))=some (d.map fun x=>(x.2,jW x.1)):=by
   rw[Y];exact HQ (k:=3) (fun _=>rfl) (by decide) (fun a b=>apZ) _
  rw[Z,bD,bS,cT,U];have S:(d.map fun x=>(x.2,jW x.1)).all (fun x=> !(x.1==k))=true:=by
   rw[f8];intro x h;obtain⟨a,O,rfl⟩:=dy.1 h;simpa using w a O
  show gm (s.get []) (bif(d.map fun x=>(x.2,jW x.1)).all (fun x=> !(x.1==k)) then wE (d.map fun x=>(x.2,jW x.1)) fun L=>t6 (bif A5 L then some (aF ((kA kF dV L).map iK)) else none) else .ret none)=_;rw[S,cT,Sw hid,J];rfl
 refine⟨_,aq.specW (n:=k) (cs':=aF ((kA kF dV d).map iK)) u (Std.H _) j rfl N z,?_⟩;refine agi (fun x h=>agX ?_) (.inr ⟨fun e=>?_,k,?_,?_,B⟩);have h:=A.mem_iff.1 h;have:(s.put k (some (.cells (aF ((kA kF dV d).map iK))))).get [] x.2=s.get [] x.2:=by
  rw[aX,bN.2 (w x h)];rfl
 exact this.trans (hid x h)
 simp_all
 rw[ce,ce,A.length_eq];rw[aX,bS];rfl
variable{l:List Obj}
theorem adT(ch:Nat->Nat)(ho:ay 6 Obj.val ov l)(hg: ∀o∈l,o.oM)(hl:l.length<=900)(hr: ∀o∈l,o.gE.length<=999)(hv:dD l=true)(j:(iI l).length<=1000)(i4:s.gt<=s.aL):
 ∃v s',aq (QW fO fP ch) 59 [.agg [ov]] s v s'/\fY s'.heap v (Br l):=by
 have I:Std (QW fO fP ch):=inferInstance;have hK: ∀i,1000000<=(QW fO fP ch).kmax i:=fun _=>br _;have j8:(QW fO fP ch).spec 31=some jK:=rfl;have g4:(QW fO fP ch).spec 224=some Ae:=rfl;have k9:No (QW fO fP ch) 59:=⟨rfl,rfl⟩;have c5:No (QW fO fP ch) 126:=⟨rfl,rfl⟩;have c4:No (QW fO fP ch) 127:=⟨rfl,rfl⟩;have Y:No (QW fO fP ch) 128:=⟨rfl,rfl⟩;have U:No (QW fO fP ch) 129:=⟨rfl,rfl⟩;have B:No (QW fO fP ch) 130:=⟨rfl,rfl⟩;have c3:No (QW fO fP ch) 131:=⟨rfl,rfl⟩;have c2:No (QW fO fP ch) 132:=⟨rfl,rfl⟩;have c1:No (QW fO fP ch) 133:=⟨rfl,rfl⟩;have a6:(QW fO fP ch).spec 134=none:=rfl;have c0:(QW fO fP ch).specW 134=some Dx:=rfl;have g8:(QW fO fP ch).spec 220=none:=rfl;have b6:(QW fO fP ch).specW 220=some KF:=rfl;have A:No (QW fO fP ch) 223:=⟨rfl,rfl⟩;have b7:No (QW fO fP ch) 219:=⟨rfl,rfl⟩;have b0:No (QW fO fP ch) 301:=⟨rfl,rfl⟩;have b1:No (QW fO fP ch) 261:=⟨rfl,rfl⟩;have b8:No (QW fO fP ch) 167:=⟨rfl,rfl⟩;generalize QW fO fP ch=Q at*;have a9:=ho.cs;have k8:(l.flatMap (jJ l)).length<=l.length*999:=MO fun o h=>fA (Xm l o) (hr o h);have m5:l.length*999<=900*999:=Nat.mul_le_mul_right _ hl;have l7:=Y8 l;refine aq.ofNRZ ak2 (co ?_);simp only[go_sem,seval,a9];have i1:=anE j8 c5 ho hg (by omega) (yK hv) hv i4;refine cG.ex i1 (by decide) ?_;rintro v s1 ⟨rfl,f4,g1⟩;have n1:s1.aL=s.aL+1:=g1.aL;simp only[go_sem,seval,a9,fh,wJ,bj,bg,aZ,bf,evc];have i0:=alM hK c4 g8 b6 B A b7 b0 b1 b8 ho hg (by omega) hr (by omega) (n:=s.aL) f4 (by omega) g1.mw;refine cG.ex i0 (by decide) ?_;rintro v d ⟨⟨r,c,T,rfl,f1,l6⟩,e6,m3,e0,_⟩;obtain⟨R,G⟩:=ct ((iI l).map (fun k=>(k,(ip l).2 k,T k)));have i8:(iI l).length=R.length:=by rw[<-G,ce]
 have j1:((iI l).map fun k=>iO (k,(ip l).2 k,T k))=R.map iO:=by rw[<-G,mI];rfl
 rw[i8] at j ⊢;rw[j1] at f1;have m6: ∀x∈R,ei l x.1.1=true/\ei l x.1.2=true:=fun x hx=>by
  grind [OC]
 have f0: ∀x∈R,(∃q,dP x.1.1 l=some q)/\ ∃q,dP x.1.2 l=some q:=fun x hx=>by
  grind [Ie]
 have j4:bR aa.str d s.aL (i9 0 l):=(e6 _ (by omega)).trans f4;have cn:aa.nilm.cells=[.nilm]:=rfl;obtain⟨z,hz⟩:=ct (((d.new (.map [] 0)).new (.cells [.nilm])).put (d.aL+1) (some (.cells [.map d.aL])));have d2:(d.new (.map [] 0)).aL=d.aL+1:=rfl;have zn:z.aL=d.aL+2:=by rw[<-hz];rfl
 have zb:z.get [] (d.aL+1)=some (.cells [.map d.aL]):=by rw[<-hz,aX,bS];rfl
 have zm:z.get [] d.aL=some (.map [] 0):=by
  rw[<-hz,aX,bN.2 (by omega:d.aL≠d.aL+1),cF,cz (by rw[d2];omega)];exact cW
 have zo: ∀k,k<d.aL->z.get [] k=d.get [] k:=fun k hk=>by
  grind [aX,cz]
 have zw:z.gt<=z.aL:=by
  rw[<-hz];exact dh _ _ _ (cq (cq e0))
 have i5:((d.new (.map [] 0)).new (.cells [.nilm])).get [] (d.aL+1)=some (.cells [.nilm]):=cW;obtain⟨y,hy⟩:=ct (z.new (.map [] 0));have yn:y.aL=d.aL+3:=by rw[<-hy];show z.aL+1=_;omega
 have yo: ∀k,k<z.aL->y.get [] k=z.get [] k:=fun k hk=>by rw[<-hy,cz hk]
 have ym:y.get [] z.aL=some (.map [] 0):=by rw[<-hy];exact cW
 have yw:y.gt<=y.aL:=by rw[<-hy];exact cq zw
 have yM:bR aa.str y s.aL (i9 0 l):=((yo _ (by omega)).trans (zo _ (by omega))).trans j4;have a7:y.get [] (d.aL+1)=some (.cells [.map d.aL]):=(yo _ (by omega)).trans zb;have yR:y.get [] r=some (.cells (aF (R.map iO))):=((yo _ (by omega)).trans (zo _ (by omega))).trans f1;have yS:D5 l y y z.aL d.aL (z.aL+1) (qE []) [] [] (fun _=>[]) (fun _=>0):=by
  refine⟨⟨ym,BC,fun _ h=>(by cases h),fun _ h=>(by cases h),fun _ _=>rfl,kU _,by omega⟩,(yo _ (by omega)).trans zm,fun _ _ _ _=>rfl,⟨fun q id=>?_,fun k=>?_,BC,fun _=>ki _⟩,br _,yw⟩;simp[qE];simp[qE]
 simp only[go_sem,seval,iU,m7,dn,i5,dp,OL,wJ,cn,d2,hz,hy,bj,bg,aZ,bf,evc];refine adf Y U B A ho (n:=s.aL) (bx:=d.aL+1) (ma:=z.aL) (mb:=d.aL) (lo:=z.aL+1) (r:=r) (c:=c) (by omega) (by omega) (by omega) (by omega) (by omega) (by omega) (by omega) (by omega) (by omega) (by omega) (by omega) (s0:=y) yM a7 j yR f0 ?_ R [] _ _ y [] [] _ _ rfl yS ⟨?_,?_,?_,?_,?_,?_,?_⟩ ?_ ?_ ?_
 ·intro e3 l5 s3 i2 K3 V3 T3 S3 E3
  have a3: ∀k,k<z.aL->k≠d.aL->s3.get [] k=y.get [] k:=fun k S h2=>S3.fr k (by omega) (by omega) h2;have l1:=S3.nx;simp only[go_sem,seval,E3.h5,OL,iU,bj,bg,aZ,bf,evc];refine adk (N:=R.length) j (lo:=s3.aL) (s0:=s3) (E0:=e3) ?_ R.length 0 _ s3 .oZ rfl (.inl ⟨rfl,rfl⟩) (fun _ _=>rfl) S3.mw (br _) ?_ ?_ ?_ ?_ ?_ ?_ ?_
  ·intro e4 Z lv f3 e5 d7 k2 h0 g3 g5 g6 g7
   obtain⟨w,hw⟩:=ct (Z.new (.map [] 0));have wn:w.aL=Z.aL+1:=by rw[<-hw];rfl
   have wo: ∀k,k<Z.aL->w.get [] k=Z.get [] k:=fun k hk=>by rw[<-hw,cz hk]
   have wm:bR aU w Z.aL []:=by rw[<-hw];exact cW
   have ww:w.gt<=w.aL:=by rw[<-hw];exact cq d7
   have a2: ∀k,k<s3.aL->w.get [] k=s3.get [] k:=fun k S=>(wo k (by omega)).trans (e5 k S);have a0: ∀k,k<z.aL->k≠d.aL->w.get [] k=y.get [] k:=fun k S h2=>(a2 k (by omega)).trans (a3 k S h2);have wM:bR aa.str w s.aL (i9 0 l):=(a0 _ (by omega) (by omega)).trans yM;have wR:w.get [] r=some (.cells (aF (R.map iO))):=(a0 _ (by omega) (by omega)).trans yR;have h8:=aqw c2 U ho (n:=s.aL) (r:=r) (c:=c) j f0 wM wR (by omega) (by omega) ww;have c8:=f3.ge;have k3:=g3.trans E3.h3;have k5:=g5.trans E3.h5;have k6:=g6.trans E3.h6;have k7:=g7.trans E3.h7;simp only[go_sem,seval,h0,k3,k5,E3.l3,E3.g3,m7,hw,c8,a9,iU,bj,bg,aZ,bf,evc];refine cG.ex h8 (by decide) ?_;rintro sv s5 ⟨c9,a5,m2,d6⟩;have i3:=c9.ge;have d0:(R.map fun x=>pA l x.1)=(iI l).map (pA l):=by rw[<-G,mI];rfl
   have H:(R.map fun x=>pA l x.1).length=R.length:=ce ..;have a8: ∀x∈R.map (fun x=>pA l x.1),qP x=true:=fun x hx=>by
    grind [aqt]
   have h9:=amw c3 g4 c9 (lv:=lv) (by rw[H];exact f3.isL) (by rw[H];exact j) a8 (m:=Z.aL) ((a5 _ (by omega)).trans wm) (by omega) d6;simp only[go_sem,seval,i3,h0,c8,bj,bg,aZ,bf,evc];refine cG.ex h9 (by decide) ?_;rintro v s6 ⟨rfl,O,e2,m1,d5⟩;obtain⟨M,J⟩:=ct (ie (R.map fun x=>pA l x.1));have j2:M.length<=1000000:=by rw[<-J];exact acE (by rw[H];exact j)
   have j3: ∀x∈M,(0<=x.1/\x.1<R.length)/\(0<=x.2.1/\x.2.1<R.length):=fun x hx=>by
    rw[<-J] at hx
    have:=LF hx;rwa [H] at this
   have i7: ∀x∈R,x.2.1.length<=1000000:=fun x hx=>by
    grind [ao4]
   rw[J] at O;have d1:=jv.new arY O;have hI:=jv.begin O (by omega);obtain⟨u,hu⟩:=ct (s6.new (.iter (some Z.aL) (nL M).length [] (nL M).length));rw[hu] at d1 hI;have un:u.aL=s6.aL+1:=by rw[<-hu];rfl
   have uo: ∀k,k<s6.aL->u.get [] k=s6.get [] k:=fun k hk=>by rw[<-hu,cz hk]
   have uw:u.gt<=u.aL:=by rw[<-hu];exact cq d5
   have a1: ∀k,k<s3.aL->u.get [] k=s3.get [] k:=fun k S=>(uo k (by omega)).trans ((e2 k (by omega) (by omega)).trans ((a5 k (by omega)).trans (a2 k S)));have F: ∀k,k<z.aL->k≠d.aL->u.get [] k=y.get [] k:=fun k S h2=>(a1 k (by omega)).trans (a3 k S h2);simp only[go_sem,seval,H3,d1,bj,bg,aZ,bf,evc];refine adh hK Y B A (it:=s6.aL) (mf:=Z.aL) (bx:=d.aL+1) (mb:=d.aL) (r:=r) (c:=c) (lo:=s6.aL+1) (M:=M) j2 (R:=R) j j3 i7 (by omega) (by omega) (by omega) (by omega) (by omega) (by omega) (by omega) (by omega) (by omega) (by omega) (by omega) (by omega) (s0:=u) ((uo _ (by omega)).trans O) ((F _ (by omega) (by omega)).trans a7) ((F _ (by omega) (by omega)).trans yR) (KB0:=i2) (E0:=e4) ?_ M.length [] _ _ u i2 (by simp) hI (fun k=>by simp) S3.i.nd ((a1 _ (by omega)).trans S3.m) (fun _ _ _ _=>rfl) (br _) (by omega) uw ?_ ?_ ?_ ?_
   ·intro e7 l4 s7 KB7 f6 c7 g0 e1 m0 d4 j7
    have Oy:=j7.trans k6;have e9:s7.get [] (d.aL+1)=some (.cells [.map d.aL]):=((e1 _ (by omega) (by omega) (by omega)).trans (F _ (by omega) (by omega))).trans a7;have f5:KB7.Perm (rp l):=ank c7 (Sy l) fun k=>by
     rw[f6,XN,XO,S3.i.b,<-J,d0];have he:qE R=yB l:=by
      rw[<-G];unfold qE yB;rw[List.flatMap_map]
     rw[he];refine or_congr Iff.rfl ?_;rw[<-G];exact ahn T
    have j5:KB7.length<1000000:=by
     rw[f5.length_eq];have S:=Sx l;have h2:l.length*l.length<=900*900:=rf hl hl;omega
    have a4:=jv.new arX g0;have f7:=jv.begin g0 (by omega);obtain⟨t,ht⟩:=ct (s7.new (.iter (some d.aL) (ku KB7).length [] (ku KB7).length));rw[ht] at a4 f7;have tn:t.aL=s7.aL+1:=by rw[<-ht];rfl
    have tw:t.gt<=t.aL:=by rw[<-ht];exact cq d4
    simp only[go_sem,seval,Oy,aW,e9,aY,H3,a4,bj,bg,aZ,bf,evc];refine ado hK c1 (it:=s7.aL) (mb:=d.aL) (lo:=s7.aL+1) (KB:=KB7) j5 (by omega) (by omega) (by omega) ?_ KB7.length [] _ _ t .oZ [] (by simp) f7 rfl ⟨.inl ⟨rfl,rfl⟩,fun _ h=>(by cases h),fun _ h=>(by cases h)⟩ (by omega) tw ?_ ?_;intro e8 l2 s8 l0 k0 hp f2 k1 g2;have c6:=f2.row.ge;obtain⟨s9,h4,i6⟩:=aqT a6 c0 f2 (anL hp c7 (by omega));simp only[go_sem,seval,g2,c6,a6,bj,bg,aZ,bf,evc];refine cG.of h4 (by decide) ?_;simp only[go_sem,seval,g2,c6,bj,bg,aZ,bf,evc];refine⟨_,rfl,?_⟩;have e:Br l=fI 3 ((kA kF dV k0).map nk):=by
     unfold Br;rw[<-aq4 (hp.trans f5),mI];rfl
    rw[e];exact i6
    all_goals simp only[sN,seval]
   all_goals simp only[sN,seval,k5,k7]
  all_goals simp only[sN,seval]
  all_goals rfl
 all_goals simp only[abc,dj,cY,gw,ah,bQ,bn]
 all_goals rfl
def mU(l:List Obj):Bool:=dD l&&(decide (l.length<=900)&&(l.all (fun o=>decide (o.gE.length<=999))&&decide ((iI l).length<=1000)))
structure Rk (l:List Obj):Prop where
 valid:dD l=true
 len:l.length<=900
 gE: ∀o∈l,o.gE.length<=999
 keys:(iI l).length<=1000
def pf:mU l=true↔Rk l:=by
 unfold mU;simp only[bu,dE,f8];exact⟨fun⟨a,b,c,d⟩=>⟨a,b,c,d⟩,fun⟨a,b,c,d⟩=>⟨a,b,c,d⟩⟩
def BV:Sp
 | [v]=>(lz v).bind fun l=>bif mU l then some (Br l) else none
 |_=>none
def adn:db ae 59 BV:=by
 intro args u d G h w xs A F;unfold BV at d;split at d;simp only[ak] at d;obtain⟨l,y,d⟩:=d;obtain⟨e,d⟩:=bh d;have d:=sI d;subst d;obtain⟨v,rfl,y,z,J⟩:=rk y;obtain⟨H,B,j,x⟩:=qQ y z;have j:en [.agg [v]]=[.agg [B]]:=by simp only[en,j]
 have e:=pf.1 e;refine j9 abV ack (args:=[.agg [v]]) (by simp only[eO,H,cw]) (fun I=>?_) G h w xs A F;rw[j];exact adT I x z e.len e.gE e.valid e.keys (by decide);cases d
variable{Q:aH}[Std Q]
def am6(p:Pt):bk p=(cr (-2097152) (min p.1 p.2)&&cr (max p.1 p.2) 2097152):=by
 rw[Bool.eq_iff_iff];simp only[bk,cr,bc,bu,awP,dE,decide_eq_false_iff_not];omega
def acJ(r:List Pt):(!r.any fun p=> !bk p)=r.all bk:=by
 induction r with
 |nil=>rfl
 |cons p r d=>
  rw[List.any_cons,ju,Bool.not_or,d,Bool.not_not]
def X3(d:No Q 430)(p:Pt)(s:St):aq Q 430 [aU p] s (.bool (bk p)) s:=by
 refine aq.ofNZ akK (co ?_);rw[am6];cases e1:cr (-2097152) (min p.1 p.2) with
 |false=>simp only[go_sem,seval,aU,ru,sY,e1,Bool.false_and]
 |true=>simp only[go_sem,seval,aU,ru,sY,e1,eH]
def afp(d:No Q 430)(e:No Q 429)(p:Pt)(s:St):aq Q 429 [aU p] s (.bool (!bk p)) s:=by
 refine aq.ofNZ akI ?_;have h:=X3 d p s;refine co ?_;simp only[aU] at h;simp only[go_sem,seval,aU];refine cG.of h (by decide) ?_;simp only[go_sem,seval]
variable{lc:Ag.Loc}{K:Ex->Fr->St->Prop}{g:FuncId}{l:List Pt}{cap:List aa}{p:Pt->Bool}{sv:aa}
def aha(Y:ay 2 aU sv l)(O:l.length<=1000000)(I:Q.spec g=none)(hg: ∀x∈l,aq Q g (aU x::cap) s (.bool (p x)) s){r:Int}(U: ∀e,r= -1->K (.exit 0) ⟨e,19,lc⟩ s)(Z: ∀e,ac e 4=ic r->K .ret ⟨e,19,lc⟩ s):
 ∀(h d:List Pt) (e:ax),l=d++h->r=kJ p h d.length->ac e 0=sv->ac e 1= .func (.func g) [] cap->ac e 7=uM l.length->ac e 8=uM d.length->W Q 495 (.loop Oe) ⟨e,19,lc⟩ s K:=by
 intro h
 induction h with
 |nil=>
  intro d e y A N J z w;have G:d.length=l.length:=by rw[y];simp
  refine bG ?_;simp only[go_sem,seval,Oe,z,w,G,cD];exact U _ A
 |cons x h S=>
  intro d e y A N J z w;have F:d.length<l.length:=by rw[y];simp
  have u:l[d.length]? =some x:=by rw[y];simp
  have H:=fun lc k=>Y.at pB.2.2.1 u lc k;have B:=dB (n:=d.length) (by omega);have j:=hg x (eP u);simp only[aU] at j;have e1:([]:List aa)++([aU x]++cap)=aU x::cap:=rfl;refine bG ?_;simp only[go_sem,seval,Oe,N,J,z,w,F,H,aU,I];refine cG.of j (by decide) ?_;cases hd:p x with
  |true=>
   simp only[go_sem,seval];exact Z _ (by simp only[sN,seval,w,A,kJ,hd])
  |false=>
   simp only[go_sem,seval,w,B];refine S (d++[x]) _ (by rw[y];simp) (by rw[A];simp only[kJ,hd,cF,sA]) ?_ ?_ ?_ ?_
   all_goals simp only[sN,seval,N,J,z,sA]
def ahb(y:No Q 495)(h:ay 2 aU sv l)(d:l.length<=1000000)(u:Q.spec g=none)(A: ∀x∈l,aq Q g (aU x::cap) s (.bool (p x)) s):aq Q 495 [sv,.func (.func g) [] cap] s (cd (kJ p l 0)) s:=by
 have j:=h.lenS pB;have w:=h.ge;refine aq.ofNZ akW (co ?_);simp only[go_sem,seval,j,w];refine aha h d u A (r:=kJ p l 0) ?_ ?_ l [] _ rfl rfl (by simp only[sG,seval, *]) (by simp only[sG,seval, *]) (by simp only[sG,seval, *]) (by simp only[sN,seval];rfl);intro e z;simp only[go_sem,seval,z];rfl;intro e B;simp only[go_sem,seval,B];rfl
def agK(d:No Q 495)(u:No Q 428)(w:ay 2 aU sv l)(e:l.length<=1000000)(h:Q.spec g=none)(y: ∀x∈l,aq Q g (aU x::cap) s (.bool (p x)) s):aq Q 428 [sv,.func (.func g) [] cap] s (.bool (l.any p)) s:=by
 have j:=w.ge;refine aq.ofNZ akG (co ?_);simp only[go_sem,seval,j];refine cG.of (ahb d w e h y) (by decide) ?_;simp only[go_sem,seval,cd,kE,EG]
def ZM(j:No Q 495)(w:No Q 428)(u:No Q 430)(d:No Q 429)(B:No Q 326){r:List Pt}(A:ay 2 aU sv r)(s:St):aq Q 326 [sv] s (.bool (pz r)) s:=by
 have h:=A.ge;have e:=A.lenS pB;have G:pz r=(cr 3 ((r.length:Nat):Int)&&(cr ((r.length:Nat):Int) 2000&& !r.any fun p=> !bk p)):=by
  have z:cr 3 ((r.length:Nat):Int)=decide (3<=r.length):=decide_eq_decide.2 (by omega);have y:cr ((r.length:Nat):Int) 2000=decide (r.length<=2000):=decide_eq_decide.2 (by omega);rw[acJ,z,y];rfl
 refine aq.ofNZ aj6 (co ?_);rw[G];cases z:cr 3 ((r.length:Nat):Int) with
 |false=>simp only[go_sem,seval,h,e,z,kE]
 |true=>
  cases y:cr ((r.length:Nat):Int) 2000 with
  |false=>simp only[go_sem,seval,h,e,z,y,kE]
  |true=>
   have H:r.length<=2000:=by simp only[cr,dE] at y;omega
   have F:=agK j w A (by omega) d.s (cap:=[]) (s:=s) (p:=fun p=> !bk p) fun x _=>afp u d x s;simp only[go_sem,seval,h,e,z,y,kE];refine cG.of F (by decide) ?_;simp only[go_sem,seval]
variable{i:Nat}
def aaf{r:List Pt}{p q:Pt}(h1:r[i]? =some p)(d:r[(i+1) % r.length]? =some q):fw r i=(p,q):=by
 unfold fw;rw[h1,d];rfl
variable{bx:Nat}{P:Nat->St->Prop}{D:St->Prop}{rv:aa}
def aqA{r:List Pt}(J:ay 2 aU rv r)(a7:r.length<=2000){n:Nat}(hb: ∀i s,P i s->s.get [] bx=some (.cells [rv]))(Y: ∀i s,P i s->s.gt<=s.aL)(S: ∀i s,i<r.length->P i s-> ∃v s',ji Q n [uM i,bX (fw r i)] s.top v s'/\(s'.ci=s.ci/\s.aL<=s'.aL/\((v= .bool true/\P (i+1) (s.rX s'))\/(v= .bool false/\D (s.rX s')))))(hx: ∀e lc s,P r.length s->K (.exit 0) ⟨e,27,lc⟩ s)(hd: ∀e lc s,D s->K .ret ⟨e,27,lc⟩ s):
 ∀(h d:List Pt) (e:ax) (lc:Ag.Loc) (s:St),r=d++h->P d.length s->ac e 0= .yld n->ac e 1= .ptr bx 0->ac e 5=rv->ac e 6=uM r.length->ac e 7=uM d.length->W Q 339 (.loop N6) ⟨e,27,lc⟩ s K:=by
 intro h
 induction h with
 |nil=>
  intro d e lc s I z h0 w h5 N H;have B:d.length=r.length:=by rw[I];simp
  refine bG ?_;simp only[go_sem,seval,N6,N,H,B,cD];exact hx _ _ _ (by rw[<-B];exact z)
 |cons p h ih=>
  intro d e lc s I z h0 w h5 N H;have A:d.length<r.length:=by rw[I];simp
  have G:r[d.length]? =some p:=by rw[I];simp
  have a0:=fun lc k=>J.at pB.2.2.1 G lc k;have x:=dB (n:=d.length) (by omega);have j:0<r.length:=by omega
  have y:=ZN (a:=d.length+1) (b:=r.length) j;obtain⟨q,hq⟩: ∃q,r[(d.length+1) % r.length]? =some q:=⟨_,gn (uF _ j)⟩;have F:=fun lc k=>J.at pB.2.2.1 hq lc k;have u:=aaf G hq;have a2:=J.ge;have Z:=J.lenS pB;have a6:=hb _ _ z;have hm:=Y _ _ z;obtain⟨v,s1,O,a5,a4,a3⟩:=S d.length s A z;rw[u] at O;simp only[bX] at O;refine lk ?_;simp only[go_sem,seval,N6,h5,N,H,A,a0,aU];refine iT hm ?_;simp only[go_sem,Jd,seval,h0,w,H,x,a2,aW,a6,aY,sj,Z,y,F,aU,bj,bg,aZ,bf,evc];refine KW.of O a5 a4 (by decide) (by simp[fo,pD]) ?_;rcases a3 with⟨rfl,U⟩|⟨rfl,a1⟩
  ·simp only[go_sem,Jd,seval,H,x]
   refine ih (d++[p]) _ _ (s.rX s1) (by rw[I];simp) (by rw[cJ];exact U) ?_ ?_ ?_ ?_ ?_
   all_goals simp only[sN,seval,h0,w,h5,N,sA]
  simp only[go_sem,Jd,seval];exact hd _ _ _ a1
def Bk(A:No Q 339){r:List Pt}(u:ay 2 aU rv r)(d:r.length<=2000){n:Nat}(F: ∀i s,P i s->s.get [] bx=some (.cells [rv]))(w: ∀i s,P i s->s.gt<=s.aL)(j: ∀i s,i<r.length->P i s-> ∃v s',ji Q n [uM i,bX (fw r i)] s.top v s'/\(s'.ci=s.ci/\s.aL<=s'.aL/\((v= .bool true/\P (i+1) (s.rX s'))\/(v= .bool false/\D (s.rX s')))))(B:P 0 s):
 ∃v s',aq Q 339 [.yld n,.ptr bx 0] s v s'/\(v= .tup []/\(P r.length s'\/D s')):=by
 have z:=F _ _ B;have x:=u.lenS pB;have y:=u.ge;refine aq.ofNRZ akd (co ?_);simp only[go_sem,seval,aW,z,aY,sj,x,y];refine aqA u d F w j ?_ ?_ r [] _ _ s rfl B ?_ ?_ ?_ ?_ ?_;intro e lc G h;simp only[go_sem,seval];exact⟨_,rfl,rfl,.inl h⟩;intro e lc G h;simp only[go_sem,seval];exact⟨_,rfl,rfl,.inr h⟩
 all_goals simp only[sN,seval,bn]
 all_goals rfl
def Bj(e:No Q 235){r:List Pt}(h:ay 2 aU rv r)(s:St):aq Q 235 [rv] s (.func (.func 339) [] [.ptr s.aL 0]) (s.new (.cells [rv])):=by
 have d:=h.cs;refine aq.ofNZ ajf (co ?_);simp only[go_sem,seval,d,aru]
noncomputable abbrev m4(E:ax)(x:Option Ex):aR:=.loop 229 E 54 [21,22] E6 E8 x
def abw{a b:Nat}(h:b<=a)(j:a<=100000):IntKind.i64.wrap (((a:Nat):Int)-((b:Nat):Int))=((a-b:Nat):Int):=by
 have e:nh ((a:Nat):Int)=true:=by unfold nh;simp only[bu,dE];omega
 have d:nh ((b:Nat):Int)=true:=by unfold nh;simp only[bu,dE];omega
 rw[KC e d];omega
def Vl(a b:Nat):an ((a:Nat):Int) ((b:Nat):Int)=(a==b):=by
 rw[Bool.eq_iff_iff];simp only[an,bE];omega
def Bc{r:List Pt}(d:r.all bk=true)(hi:i<r.length):bk (fw r i).1=true/\bk (fw r i).2=true:=by
 have h:=f8.1 d;have e:(i+1) % r.length<r.length:=uF _ (by omega);unfold fw;rw[gn hi,gn e];exact⟨h _ (xR _),h _ (xR _)⟩
structure iG (r:List Pt) (i:Nat) (s0 s:St):Prop where
 old: ∀j,j<s0.aL->s.get [] j=s0.get [] j
 mw:s.gt<=s.aL
 lt:s0.aL<s.aL
 ci:s.ci=s0.ci
variable{b2 b3 b4 b5 k:Nat}{E:ax}
def aqF(h:Q.spec 225=some lD){r:List Pt}(a7:r.length<=2000)(hn:r.all bk=true)(hi:i<r.length){s0:St}(a0:s0.get [] b2=some (.cells [.bool false]))(a6:s0.get [] b3=some (.cells [uM r.length]))(a5:s0.get [] b4=some (.cells [uM i]))(a4:s0.get [] b5=some (.cells (bX (fw r i)).cells))(l2:b2<s0.aL)(l3:b3<s0.aL)(l4:b4<s0.aL)(l5:b5<s0.aL)(e2:ac E 2= .ptr b2 0)(e3:ac E 3= .ptr b3 0)(Y:ac E 4= .ptr b4 0)(e5:ac E 5= .ptr b5 0)(hk:k<r.length)(a2:k<=i)(hI:iG r i s0 s)(hl:s.get [] s0.aL=some (m4 E none)):
 ∃v s',ji Q s0.aL [uM k,bX (fw r k)] s.top v s'/\(s'.ci=s.ci/\s.aL<=s'.aL/\iG r i s0 (s.rX s')/\((v= .bool true/\s'.get [] s0.aL=some (m4 E none)/\k<i/\nQ r i k=true)\/(v= .bool false/\((s'.get [] s0.aL=some (m4 E (some (.exit 2)))/\k=i)\/(s'.get [] s0.aL=some (m4 E (some .ret))/\k<i/\nQ r i k=false))))):=by
 obtain⟨n1,n2⟩:=Bc hn hi;obtain⟨n3,n4⟩:=Bc hn hk;have G:=OQ n1 n2 n3 n4;have a8:=hI.lt;have a1:=hI.mw;refine ji.any (ca:=NS) (cb:=w6) (show s.top.get [] s0.aL=_ from hl) rfl rfl ai4 ai6 ?_;refine co ?_;obtain⟨w,hw⟩:=ct (s.top.put s0.aL none);have wn:w.aL=s.aL:=by rw[<-hw];rfl
 have wo: ∀j,j≠s0.aL->w.get [] j=s.get [] j:=fun j U=>by rw[<-hw,aX,bN.2 U];rfl
 obtain⟨z,O⟩:=ct ((w.new (.cells [ic 0,ic 0,ic 0,ic 0])).put w.aL (some (.cells (bX (fw r k)).cells)));simp only[bX,gD] at O;have a3:(w.new (.cells [ic 0,ic 0,ic 0,ic 0])).get [] w.aL=some (.cells [ic 0,ic 0,ic 0,ic 0]):=cW;simp only[go_sem,seval,NS,bX,hw,dn,a3,dp,O,bj,bg,aZ,bf,evc];have zn:z.aL=s.aL+1:=by rw[<-O,<-wn];rfl
 have zc:z.ci=s.ci:=by rw[<-O,<-hw];rfl
 have zm:z.gt<=z.aL:=by
  rw[<-O];exact dh _ _ _ (by show w.gt<=w.aL+1;rw[<-hw];exact cq (dh s.top _ _ (br _)))
 have I:z.get [] w.aL=some (.cells (bX (fw r k)).cells):=by rw[<-O,aX,bS];rfl
 have H: ∀j,j<s0.aL->z.get [] j=s0.get [] j:=fun j U=>by
  rw[<-O,aX,bN.2 (by omega:j≠w.aL),cF,cz (by omega),wo j (by omega)];exact hI.old j U
 have z2:=(H b2 l2).trans a0;have Z:=(H b3 l3).trans a6;have N:=(H b4 l4).trans a5;have J:=(H b5 l5).trans a4;have fin: ∀(F:St) (o:Option Ex),(∀j,j<s0.aL->F.get [] j=s0.get [] j)->F.aL=s.aL+1->F.ci=s.ci->F.gt<=F.aL->(F.put s0.aL (some (m4 E o))).ci=s.ci/\s.aL<=(F.put s0.aL (some (m4 E o))).aL/\iG r i s0 (s.rX (F.put s0.aL (some (m4 E o))))/\(F.put s0.aL (some (m4 E o))).get [] s0.aL=some (m4 E o):=fun F o q1 q2 q3 q4=>by
  have qn:(F.put s0.aL (some (m4 E o))).aL=s.aL+1:=q2;refine⟨q3,by omega,⟨fun j U=>?_,pW a1 (by omega),?_,?_⟩,by rw[aX,bS];rfl⟩;rw[mY,aX,bN.2 (by omega:j≠s0.aL)];exact q1 j U;show s0.aL<(F.put s0.aL (some (m4 E o))).aL;omega;exact q3.trans hI.ci
 obtain⟨M,hM⟩:=ct (ld (fw r i) (fw r k));rw[hM] at G;have u:nQ r i k=bif(an ((i-k:Nat):Int) 1||an ((i-k:Nat):Int) ((r.length-1:Nat):Int)) then an M 1 else an M 0:=by
  have h1:an ((i-k:Nat):Int) 1=(i-k==1):=Vl (i-k) 1;unfold nQ;rw[hM,h1,Vl]
 have B:=abw a2 (by omega);have A:IntKind.i64.wrap (((r.length:Nat):Int)-1)=((r.length-1:Nat):Int):=abw (a:=r.length) (b:=1) (by omega) (by omega);refine co ?_;simp only[bX,gD] at G J I;by_cases hE:k=i;subst hE;have x:cr ((k:Nat):Int) ((k:Nat):Int)=true:=by simp[cr]
 simp only[go_sem,seval,w6,Y,N,aW,aY,kE,x,jI,jL];obtain⟨f1,f2,f3,f4⟩:=fin z (some (.exit 2)) H zn zc zm;exact⟨f1,f2,f3,.inr (.inl f4)⟩;have d:k<i:=by omega
 have x:cr ((i:Nat):Int) ((k:Nat):Int)=false:=by simp only[cr,decide_eq_false_iff_not];omega
 obtain⟨y,S⟩:=ct (z.put b2 (some (.cells [.bool false])));have yn:y.aL=s.aL+1:=by rw[<-S];exact zn
 have yc:y.ci=s.ci:=by rw[<-S];exact zc
 have ym:y.gt<=y.aL:=by rw[<-S];exact dh _ _ _ zm
 have yo: ∀j,j<s0.aL->y.get [] j=s0.get [] j:=fun j U=>by
  rw[<-S,aX];cases e:j==b2 with
  |true=>
   have:=eq_of_beq e;subst this;exact a0.symm
  |false=>exact H j U
 obtain⟨f1,f2,f3,f4⟩:=fin z none H zn zc zm;obtain⟨g1,g2,g3,g4⟩:=fin y (some .ret) yo yn yc ym;cases c1:an ((i-k:Nat):Int) 1 with
 |true=>
  rw[c1,Bool.true_or,cT] at u;cases c3:an M 1 with
  |true=>
   simp only[go_sem,seval,w6,e2,e3,Y,e5,z2,Z,N,J,I,aW,aY,kE,x,jI,jL,h,G,cd,B,A,c1,c3];exact⟨f1,f2,f3,.inl ⟨f4,d,by rw[u,c3]⟩⟩
  |false=>
   simp only[go_sem,seval,w6,e2,e3,Y,e5,z2,Z,N,J,I,aW,aY,kE,x,jI,jL,h,G,cd,B,A,c1,c3,dn,dp,S];exact⟨g1,g2,g3,.inr (.inr ⟨g4,d,by rw[u,c3]⟩)⟩
 |false=>
  cases c2:an ((i-k:Nat):Int) ((r.length-1:Nat):Int) with
  |true=>
   rw[c1,c2,kg,cT] at u;cases c3:an M 1 with
   |true=>
    simp only[go_sem,seval,w6,e2,e3,Y,e5,z2,Z,N,J,I,aW,aY,kE,x,jI,jL,h,G,cd,B,A,c1,c2,c3];exact⟨f1,f2,f3,.inl ⟨f4,d,by rw[u,c3]⟩⟩
   |false=>
    simp only[go_sem,seval,w6,e2,e3,Y,e5,z2,Z,N,J,I,aW,aY,kE,x,jI,jL,h,G,cd,B,A,c1,c2,c3,dn,dp,S];exact⟨g1,g2,g3,.inr (.inr ⟨g4,d,by rw[u,c3]⟩)⟩
  |false=>
   rw[c1,c2,kg,cF] at u;cases c3:an M 0 with
   |true=>
    simp only[go_sem,seval,w6,e2,e3,Y,e5,z2,Z,N,J,I,aW,aY,kE,x,jI,jL,h,G,cd,B,A,c1,c2,c3];exact⟨f1,f2,f3,.inl ⟨f4,d,by rw[u,c3]⟩⟩
   |false=>
    simp only[go_sem,seval,w6,e2,e3,Y,e5,z2,Z,N,J,I,aW,aY,kE,x,jI,jL,h,G,cd,B,A,c1,c2,c3,dn,dp,S];exact⟨g1,g2,g3,.inr (.inr ⟨g4,d,by rw[u,c3]⟩)⟩
def aqG(u:No Q 339)(y:Q.spec 225=some lD){r:List Pt}(hr:ay 2 aU rv r)(d:r.length<=2000)(hn:r.all bk=true)(hi:i<r.length){s0:St}(I:s0.get [] bx=some (.cells [rv]))(S:s0.get [] b2=some (.cells [.bool false]))(O:s0.get [] b3=some (.cells [uM r.length]))(N:s0.get [] b4=some (.cells [uM i]))(J:s0.get [] b5=some (.cells (bX (fw r i)).cells))(lx:bx<s0.aL)(l2:b2<s0.aL)(l3:b3<s0.aL)(l4:b4<s0.aL)(l5:b5<s0.aL)(e2:ac E 2= .ptr b2 0)(e3:ac E 3= .ptr b3 0)(e4:ac E 4= .ptr b4 0)(e5:ac E 5= .ptr b5 0)(G:s0.gt<=s0.aL):
 ∃v s',aq Q 339 [.yld s0.aL,.ptr bx 0] (s0.new (m4 E none)) v s'/\(v= .tup []/\iG r i s0 s'/\((s'.get [] s0.aL=some (m4 E (some (.exit 2)))/\ ∀k,k<i->nQ r i k=true)\/(s'.get [] s0.aL=some (m4 E (some .ret))/\ ∃k,k<i/\nQ r i k=false))):=by
 obtain⟨v,s',w,rfl,h⟩:=Bk u hr d (bx:=bx) (n:=s0.aL) (P:=fun k s=>iG r i s0 s/\s.get [] s0.aL=some (m4 E none)/\k<=i/\ ∀j,j<k->nQ r i j=true) (D:=fun s=>iG r i s0 s/\((s.get [] s0.aL=some (m4 E (some (.exit 2)))/\ ∀k,k<i->nQ r i k=true)\/(s.get [] s0.aL=some (m4 E (some .ret))/\ ∃k,k<i/\nQ r i k=false))) (fun k s h=>(h.1.old bx lx).trans I) (fun k s h=>h.1.mw) (fun k s hk ⟨hI,hl,H,x⟩=>by
  obtain⟨v,s',q1,q2,Z,F,Y⟩:=aqF y d hn hi S O N J l2 l3 l4 l5 e2 e3 e4 e5 hk H hI hl;refine⟨v,s',q1,q2,Z,?_⟩;rcases Y with⟨rfl,z,B,U⟩|⟨rfl,⟨z,B⟩|⟨z,B,U⟩⟩
  refine .inl ⟨rfl,F,z,by omega,fun j A=>?_⟩;by_cases e:j=k;subst e;exact U;exact x j (by omega);subst B;exact .inr ⟨rfl,F,.inl ⟨z,x⟩⟩;exact .inr ⟨rfl,F,.inr ⟨z,k,B,U⟩⟩) (s:=s0.new (m4 E none)) ⟨⟨fun j A=>cz A,cq G,kU _,rfl⟩,cW,ki _,fun j A=>absurd A (Hb _)⟩
 refine⟨_,s',w,rfl,?_⟩;rcases h with⟨_,_,h,_⟩|h
 omega;exact h
noncomputable abbrev qM(E:ax)(x:Option Ex):aR:=.loop 229 E 54 [17,18] E7 E9 x
def rJ:tz ae 339=true:=by kernel_rfl
def vH{r:List Pt}(h:ay 2 aU rv r):jY rv=true:=by
 rcases h with⟨rfl,_⟩|⟨_,rfl⟩<;>rfl
def aqE(e:No Q 339)(z:Q.spec 225=some lD){r:List Pt}(hr:ay 2 aU rv r)(u:r.length<=2000)(hn:r.all bk=true)(hi:i<r.length){s0:St}(I:s0.get [] bx=some (.cells [rv]))(S:s0.get [] b2=some (.cells [.bool false]))(O:s0.get [] b3=some (.cells [uM r.length]))(N:s0.get [] b4=some (.cells [uM i]))(J:s0.get [] b5=some (.cells (bX (fw r i)).cells))(lx:bx<s0.aL)(l2:b2<s0.aL)(l3:b3<s0.aL)(l4:b4<s0.aL)(l5:b5<s0.aL)(e2:ac E 2= .ptr b2 0)(e3:ac E 3= .ptr b3 0)(e4:ac E 4= .ptr b4 0)(e5:ac E 5= .ptr b5 0)(A:ac E 20= .func (.func 339) [] [.ptr bx 0])(Z:E.all jY=true)(G:s0.gt<=s0.aL)(Y: ∀x U,iG r i s0 U->((x= .exit 2/\ ∀k,k<i->nQ r i k=true)\/(x= .ret/\ ∃k,k<i/\nQ r i k=false))->K x ⟨E,54,[]⟩ U):W Q 229 (.rfun (.tmp 20) [21,22] E6 E8) ⟨E,54,[]⟩ s0 K:=by
 obtain⟨v,s',d,rfl,B,h⟩:=aqG e z hr u hn hi I S O N J lx l2 l3 l4 l5 e2 e3 e4 e5 G;have y:iG r i s0 (s'.put s0.aL none):=⟨fun j hj=>by rw[aX,bN.2 (by omega:j≠s0.aL)];exact B.old j hj,dh _ _ _ B.mw,B.lt,B.ci⟩;rcases h with⟨H,F⟩|⟨H,w⟩
 exact oS (h:=339) (first:=[]) (captured:=[.ptr bx 0]) (v:=.tup []) (s1:=s') (by simp only[aA,A]) (by rw[Std.P,rJ,Wb,Z];rfl) d H (Y _ _ y (.inl ⟨rfl,F⟩));exact oS (h:=339) (first:=[]) (captured:=[.ptr bx 0]) (v:=.tup []) (s1:=s') (by simp only[aA,A]) (by rw[Std.P,rJ,Wb,Z];rfl) d H (Y _ _ y (.inr ⟨rfl,w⟩))
def aqC(I:No Q 339)(J:No Q 235)(U:Q.spec 225=some lD){r:List Pt}(Y:ay 2 aU rv r)(O:r.length<=2000)(hn:r.all bk=true)(hi:i<r.length){s0:St}(a7:s0.get [] bx=some (.cells [rv]))(a9:s0.get [] b2=some (.cells [.bool false]))(a8:s0.get [] b3=some (.cells [uM r.length]))(lx:bx<s0.aL)(l2:b2<s0.aL)(l3:b3<s0.aL)(e1:ac E 1= .ptr bx 0)(e2:ac E 2= .ptr b2 0)(e3:ac E 3= .ptr b3 0)(hE:E.all jY=true)(Z:iG r 0 s0 s)(hl:s.get [] s0.aL=some (qM E none)):
 ∃v s',ji Q s0.aL [uM i,bX (fw r i)] s.top v s'/\(s'.ci=s.ci/\s.aL<=s'.aL/\iG r 0 s0 (s.rX s')/\((v= .bool true/\s'.get [] s0.aL=some (qM E none)/\ ∀k,k<i->nQ r i k=true)\/(v= .bool false/\s'.get [] s0.aL=some (qM E (some .ret))/\ ∃k,k<i/\nQ r i k=false))):=by
 have b0:=Z.lt;have a3:=Z.mw;have a6:=Y.ge;refine ji.any (ca:=NT) (cb:=NV) (show s.top.get [] s0.aL=_ from hl) rfl rfl ai5 ai7 ?_;refine co ?_;obtain⟨w,N⟩:=ct (s.top.put s0.aL none);have wn:w.aL=s.aL:=by rw[<-N];rfl
 have wc:w.ci=s.ci:=by rw[<-N];rfl
 have wo: ∀j,j≠s0.aL->w.get [] j=s.get [] j:=fun j d=>by rw[<-N,aX,bN.2 d];rfl
 have wm:w.gt<=w.aL:=by rw[<-N];exact dh s.top _ _ (br _)
 obtain⟨z,G⟩:=ct ((w.new (.cells [ic 0])).put w.aL (some (.cells [uM i])));have zn:z.aL=s.aL+1:=by rw[<-G,<-wn];rfl
 have zm:z.gt<=z.aL:=by rw[<-G];exact dh _ _ _ (cq wm)
 have zk:z.get [] w.aL=some (.cells [uM i]):=by rw[<-G,aX,bS];rfl
 have zo: ∀j,j<w.aL->z.get [] j=w.get [] j:=fun j d=>by rw[<-G,aX,bN.2 (by omega:j≠w.aL),cF,cz d]
 obtain⟨y,B⟩:=ct ((z.new (.cells [ic 0,ic 0,ic 0,ic 0])).put z.aL (some (.cells (bX (fw r i)).cells)));have yn:y.aL=s.aL+2:=by
  rw[<-B];show z.aL+1=_;omega
 have ym:y.gt<=y.aL:=by rw[<-B];exact dh _ _ _ (cq zm)
 have yk:y.get [] z.aL=some (.cells (bX (fw r i)).cells):=by rw[<-B,aX,bS];rfl
 have yo: ∀j,j<z.aL->y.get [] j=z.get [] j:=fun j d=>by rw[<-B,aX,bN.2 (by omega:j≠z.aL),cF,cz d]
 have yc:y.ci=s.ci:=by rw[<-B,<-G];exact wc
 have h: ∀j,j<s0.aL->y.get [] j=s0.get [] j:=fun j d=>by rw[yo j (by omega),zo j (by omega),wo j (by omega)];exact Z.old j d
 have a0:=(h bx lx).trans a7;simp only[bX,gD] at B;have a5:(w.new (.cells [ic 0])).get [] w.aL=some (.cells [ic 0]):=cW;have a4:(z.new (.cells [ic 0,ic 0,ic 0,ic 0])).get [] z.aL=some (.cells [ic 0,ic 0,ic 0,ic 0]):=cW;simp only[go_sem,seval,NT,bX,N,dn,a5,a4,dp,G,B,bj,bg,aZ,bf,evc];refine co ?_;have A:=Bj J Y y;obtain⟨x,H⟩:=ct (y.new (.cells [rv]));have xn:x.aL=s.aL+3:=by
  rw[<-H];show y.aL+1=_;omega
 have xm:x.gt<=x.aL:=by rw[<-H];exact cq ym
 have xc:x.ci=s.ci:=by rw[<-H];exact yc
 have xk:x.get [] y.aL=some (.cells [rv]):=by rw[<-H];exact cW
 have xo: ∀j,j<y.aL->x.get [] j=y.get [] j:=fun j d=>by rw[<-H,cz d]
 have e: ∀j,j<s0.aL->x.get [] j=s0.get [] j:=fun j d=>(xo j (by omega)).trans (h j d);rw[H] at A;simp only[go_sem,seval,NV,e1,a0,aW,aY,sj,a6];refine cG.of A (by decide) ?_;simp only[go_sem,seval];have a1:=vH Y;refine aqE I U Y O hn hi (bx:=y.aL) (b2:=b2) (b3:=b3) (b4:=w.aL) (b5:=z.aL) (s0:=x) xk ((e b2 l2).trans a9) ((e b3 l3).trans a8) ?_ ?_ (by omega) (by omega) (by omega) (by omega) (by omega) ?_ ?_ ?_ ?_ ?_ ?_ xm ?_;rw[xo _ (by omega),yo _ (by omega)];exact zk;rw[xo _ (by omega)];exact yk;simp only[sN,seval,e2];simp only[sN,seval,e3];simp only[sN,seval];simp only[sN,seval];simp only[sN,seval];exact aC.all_set (aC.all_set (aC.all_set (aC.all_set (aC.all_set (aC.all_set hE rfl) rfl) rfl) rfl) a1) rfl;intro ex u F hc;have n2:=F.lt;have g1: ∀(o:Option Ex),(u.put s0.aL (some (qM E o))).ci=s.ci/\s.aL<=(u.put s0.aL (some (qM E o))).aL/\iG r 0 s0 (s.rX (u.put s0.aL (some (qM E o))))/\(u.put s0.aL (some (qM E o))).get [] s0.aL=some (qM E o):=fun o=>by
  have qn:(u.put s0.aL (some (qM E o))).aL=u.aL:=rfl;have qc:(u.put s0.aL (some (qM E o))).ci=s.ci:=F.ci.trans xc;refine⟨qc,by omega,⟨fun j d=>?_,pW a3 (by omega),?_,qc.trans Z.ci⟩,by rw[aX,bS];rfl⟩;rw[mY,aX,bN.2 (by omega:j≠s0.aL)];exact(F.old j (by omega)).trans (e j d);show s0.aL<u.aL;omega
 rcases hc with⟨rfl,a2⟩|⟨rfl,S⟩
 obtain⟨f1,f2,f3,f4⟩:=g1 none;exact⟨f1,f2,f3,.inl ⟨rfl,f4,a2⟩⟩;obtain⟨f1,f2,f3,f4⟩:=g1 (some .ret);exact⟨f1,f2,f3,.inr ⟨rfl,f4,S⟩⟩
def Wc:(dY E7&&dY E9)=true:=by kernel_rfl
def aal{r:List Pt}(h:pz r=true):(kz r=true↔ ∀i,i<r.length-> ∀k,k<i->nQ r i k=true):=by
 unfold kz;rw[h,eH,f8];simp only[uD,f8]
def aqH{r:List Pt}(hi:i<r.length)(j:k<i)(h:nQ r i k=false):kz r=false:=by
 cases e:kz r with
 |false=>rfl
 |true=>
  have d:pz r=true:=by unfold kz at e;simp only[bu] at e;exact e.1
  have:=(aal d).1 e i hi k j;rw[h] at this;cases this
def Dk{r:List Pt}(h:pz r=true):(3<=r.length/\r.length<=2000)/\r.all bk=true:=by
 unfold pz at h;simp only[bu,dE] at h;exact⟨⟨h.1,h.2.1⟩,h.2.2⟩
def aqD(u:No Q 339)(F:No Q 235)(J:Q.spec 225=some lD){r:List Pt}(hr:ay 2 aU rv r)(y:pz r=true){by':Nat}{s0:St}(Y:s0.get [] bx=some (.cells [rv]))(U:s0.get [] by'=some (.cells [rv]))(a0:s0.get [] b2=some (.cells [.bool false]))(Z:s0.get [] b3=some (.cells [uM r.length]))(lx:bx<s0.aL)(ly:by'<s0.aL)(l2:b2<s0.aL)(l3:b3<s0.aL)(e1:ac E 1= .ptr bx 0)(e2:ac E 2= .ptr b2 0)(e3:ac E 3= .ptr b3 0)(N:ac E 16= .func (.func 339) [] [.ptr by' 0])(hE:E.all jY=true)(O:s0.gt<=s0.aL)(H: ∀x s2,iG r 0 s0 s2->((x= .normal/\kz r=true)\/(x= .ret/\kz r=false))->K x ⟨E,54,lc⟩ s2):W Q 229 (.rfun (.tmp 16) [17,18] E7 E9) ⟨E,54,lc⟩ s0 K:=by
 obtain⟨⟨a1,z⟩,hn⟩:=Dk y;obtain⟨v,s',w,rfl,h⟩:=Bk u hr z (bx:=by') (n:=s0.aL) (P:=fun i s=>iG r 0 s0 s/\s.get [] s0.aL=some (qM E none)/\ ∀j,j<i-> ∀k,k<j->nQ r j k=true) (D:=fun s=>iG r 0 s0 s/\s.get [] s0.aL=some (qM E (some .ret))/\kz r=false) (fun k s h=>(h.1.old by' ly).trans U) (fun k s h=>h.1.mw) (fun i s hi ⟨d,hl,A⟩=>by
  obtain⟨v,s',q1,q2,q3,q4,q5⟩:=aqC u F J hr z hn hi Y a0 Z lx l2 l3 e1 e2 e3 hE d hl;refine⟨v,s',q1,q2,q3,?_⟩;rcases q5 with⟨rfl,h1,h2⟩|⟨rfl,h1,k,h2,h3⟩
  refine .inl ⟨rfl,q4,h1,fun j B k H=>?_⟩;by_cases e:j=i;subst e;exact h2 k H;exact A j (by omega) k H;exact .inr ⟨rfl,q4,h1,aqH hi h2 h3⟩) (s:=s0.new (qM E none)) ⟨⟨fun j B=>cz B,cq O,kU _,rfl⟩,cW,fun j B=>absurd B (Hb _)⟩
 have G:iG r 0 s0 s'->iG r 0 s0 (s'.put s0.aL none):=fun d=>⟨fun j B=>by rw[aX,bN.2 (by omega:j≠s0.aL)];exact d.old j B,dh _ _ _ d.mw,d.lt,d.ci⟩;rcases h with⟨d,S,A⟩|⟨d,S,I⟩
 exact oS (h:=339) (first:=[]) (captured:=[.ptr by' 0]) (v:=.tup []) (s1:=s') (by simp only[aA,N]) (by rw[Std.P,rJ,Wc,hE];rfl) w S (H _ _ (G d) (.inl ⟨rfl,(aal y).2 A⟩));exact oS (h:=339) (first:=[]) (captured:=[.ptr by' 0]) (v:=.tup []) (s1:=s') (by simp only[aA,N]) (by rw[Std.P,rJ,Wc,hE];rfl) w S (H _ _ (G d) (.inr ⟨rfl,I⟩))
def aqI(J:No Q 495)(S:No Q 428)(N:No Q 430)(O:No Q 429)(Y:No Q 326)(U:No Q 339)(h:No Q 235)(a1:Q.spec 225=some lD)(a7:No Q 229){r:List Pt}(I:ay 2 aU rv r)(a4:s.gt<=s.aL):
 ∃v s',aq Q 229 [rv] s v s'/\(v= .bool (kz r)/\(∀j,j<s.aL->s'.get [] j=s.get [] j)/\s.aL<=s'.aL/\s'.gt<=s'.aL/\s'.ci=s.ci):=by
 have a0:=I.cs;have a3:=vH I;have a5:=I.lenS pB;obtain⟨x,A⟩:=ct ((s.new (.cells [rv])).new (.cells [.bool false]));have B:(s.new (.cells [rv])).aL=s.aL+1:=rfl;have xn:x.aL=s.aL+2:=by rw[<-A];rfl
 have xm:x.gt<=x.aL:=by rw[<-A];exact cq (cq a4)
 have x0:x.get [] s.aL=some (.cells [rv]):=by rw[<-A,cz (by rw[B];omega)];exact cW
 have x1:x.get [] (s.aL+1)=some (.cells [.bool false]):=by rw[<-A];exact cW
 have xo: ∀j,j<s.aL->x.get [] j=s.get [] j:=fun j e=>by rw[<-A,cz (by rw[B];omega),cz e]
 have xc:x.ci=s.ci:=by rw[<-A];rfl
 have a2:=ZM J S N O Y I x;refine aq.ofNRZ ai8 (co ?_);simp only[go_sem,seval,a0,B,A,aW,x0,aY,sj];refine cG.of a2 (by decide) ?_;cases hreg:pz r with
 |false=>
  have hs:kz r=false:=by unfold kz;rw[hreg];rfl
  obtain⟨y,d⟩:=ct (x.put (s.aL+1) (some (.cells [.bool false])));have yk:y.get [] (s.aL+1)=some (.cells [.bool false]):=by rw[<-d,aX,bS];rfl
  simp only[go_sem,seval,dn,x1,dp,d,aW,yk,aY];refine⟨_,rfl,by rw[hs],fun j e=>?_,?_,?_,?_⟩;rw[<-d,aX,bN.2 (by omega:j≠s.aL+1)];exact xo j e;rw[<-d];show s.aL<=x.aL;omega;rw[<-d];exact dh _ _ _ xm;rw[<-d];exact xc
 |true=>
  obtain⟨w,G⟩:=ct ((x.new (.cells [ic 0])).put x.aL (some (.cells [uM r.length])));have a6:(x.new (.cells [ic 0])).get [] x.aL=some (.cells [ic 0]):=cW;have wn:w.aL=s.aL+3:=by
   rw[<-G];show x.aL+1=_;omega
  have wm:w.gt<=w.aL:=by rw[<-G];exact dh _ _ _ (cq xm)
  have wk:w.get [] x.aL=some (.cells [uM r.length]):=by rw[<-G,aX,bS];rfl
  have wo: ∀j,j<x.aL->w.get [] j=x.get [] j:=fun j e=>by rw[<-G,aX,bN.2 (by omega:j≠x.aL),cF,cz e]
  have wc:w.ci=s.ci:=by rw[<-G];exact xc
  have w0:=(wo s.aL (by omega)).trans x0;have z:=Bj h I w;obtain⟨u,H⟩:=ct (w.new (.cells [rv]));have un:u.aL=s.aL+4:=by
   rw[<-H];show w.aL+1=_;omega
  have um:u.gt<=u.aL:=by rw[<-H];exact cq wm
  have uk:u.get [] w.aL=some (.cells [rv]):=by rw[<-H];exact cW
  have Z: ∀j,j<w.aL->u.get [] j=w.get [] j:=fun j e=>by rw[<-H,cz e]
  have uc:u.ci=s.ci:=by rw[<-H];exact wc
  rw[H] at z;simp only[go_sem,seval,aW,x0,aY,sj,a0,a5,dn,a6,dp,G,w0];refine cG.of z (by decide) ?_;simp only[go_sem,seval];refine aqD U h a1 I hreg (bx:=s.aL) (by':=w.aL) (b2:=s.aL+1) (b3:=x.aL) (s0:=u) ?_ uk ?_ ?_ (by omega) (by omega) (by omega) (by omega) ?_ ?_ ?_ ?_ ?_ um ?_;rw[Z _ (by omega)];exact w0;rw[Z _ (by omega),wo _ (by omega)];exact x1;rw[Z _ (by omega)];exact wk;simp only[sN,seval];simp only[sN,seval];simp only[sN,seval];simp only[sN,seval]
  ·repeat' (first|exact rfl|refine aC.all_set ?_ (by first|exact a3|rfl))
  intro ex s2 F hc;have n2:=F.lt;have b2:s2.get [] (s.aL+1)=some (.cells [.bool false]):=by rw[F.old _ (by omega),Z _ (by omega),wo _ (by omega)];exact x1
  have old: ∀j,j<s.aL->s2.get [] j=s.get [] j:=fun j e=>by rw[F.old _ (by omega),Z _ (by omega),wo _ (by omega)];exact xo j e
  rcases hc with⟨rfl,hs⟩|⟨rfl,hs⟩
  obtain⟨y,d⟩:=ct (s2.put (s.aL+1) (some (.cells [.bool true])));have yk:y.get [] (s.aL+1)=some (.cells [.bool true]):=by rw[<-d,aX,bS];rfl
  simp only[go_sem,seval,dn,b2,dp,d,aW,yk,aY];refine⟨_,rfl,by rw[hs],fun j e=>?_,?_,?_,?_⟩;rw[<-d,aX,bN.2 (by omega:j≠s.aL+1)];exact old j e;rw[<-d];show s.aL<=s2.aL;omega;rw[<-d];exact dh _ _ _ F.mw;rw[<-d];exact F.ci.trans uc;simp only[go_sem,seval,aW,b2,aY];exact⟨_,rfl,by rw[hs],old,by omega,F.mw,F.ci.trans uc⟩
def rm(v:aa):Option (List Pt):=eX 2 jT v
def wC{r:List Pt}(h:rm v=some r):ay 2 aU v r/\d8 v=true/\ay 2 aU (de v) r:=by
 have d:ay 2 aU v r:=kr (fun _ _ h=>mj h) h;exact⟨d,pU Gb d⟩
theorem qx{r:List Pt}(h:ay 2 aU v r):rm v=some r:=by
 rcases h with⟨rfl,rfl⟩|⟨k,rfl⟩
 rfl;show(bif aQ 2 2 then iV jT (r.map aU) else none)=_;exact yX wB r
def qe:Sp
 | [v]=>(rm v).bind fun r=>some (.bool (kz r))
 |_=>none
def Ky{r:List Pt}(h:ay 2 aU v r):qe [v]=some (.bool (kz r)):=by
 simp only[qe,qx h,au]
def RI:dX:=[(225,lD)]
def ab8:dR RI:=.cons OS .nil
def Kz:db ae 229 qe:=by
 intro e u h G z w xs j x;unfold qe at h;split at h;simp only[ak] at h;obtain⟨r,B,h⟩:=h;have h:=sI h;subst h;obtain⟨_,A,y⟩:=wC B;refine j9 ab8 (W:=[]) .nil (by simp only[eO,A,cw]) (fun F=>?_) G z w xs j x;obtain⟨v,s',d,rfl,_⟩:=aqI (Q:=QW RI [] F) ⟨rfl,rfl⟩ ⟨rfl,rfl⟩ ⟨rfl,rfl⟩ ⟨rfl,rfl⟩ ⟨rfl,rfl⟩ ⟨rfl,rfl⟩ ⟨rfl,rfl⟩ rfl ⟨rfl,rfl⟩ y (s:=s0) (by decide);exact⟨_,_,d,1,rfl⟩;cases h
