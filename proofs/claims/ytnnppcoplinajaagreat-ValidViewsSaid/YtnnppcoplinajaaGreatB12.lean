/- Lemmas for ValidViews. -/
import Derived.Test.YtnnppcoplinajaaGreatB10
import Derived.Test.YtnnppcoplinajaaGreatB6
import Derived.Test.YtnnppcoplinajaaGreatB11
import Derived.Test.YtnnppcoplinajaaGreatB8
import Derived.Test.YtnnppcoplinajaaGreatB9
import Derived.Test.YtnnppcoplinajaaGreatAg3
import Derived.Test.YtnnppcoplinajaaGreatB5
set_option linter.all false
open Bool renaming and_eq_true→bu,and_false→gN,and_self→cw,and_true→je,not_eq_true'→nu,not_true→fp,true_and→eH
open Int renaming toNat_of_nonneg→K8
open List renaming all_cons→ju,all_eq_true→f8,append_assoc→ny,append_nil→kC,cons_append→lY,drop_eq_nil_of_le→G3,drop_zero→nz,drop→bP,ext_getElem→G4,filterMap_cons→xQ,finRange→ux,flatMap_cons→uy,foldl_cons→uA,getD_eq_getElem?_getD→nA,getElem?_cons_succ→jO,getElem?_cons_zero→iw,getElem?_eq_getElem→gn,getElem?_eq_some_iff→nY,getElem?_map→jf,getElem?_take→G6,getElem_of_mem→G7,length_append→cJ,length_cons→bH,length_filter_le→kT,length_map→ce,length_nil→bn,length_range→DU,length_set→G8,length_tail→xS,map_append→ff,map_congr_left→DW,map_cons→fy,map_eq_nil_iff→xT,map_map→mI,mem_append→lj,mem_cons_of_mem→iE,mem_cons_self→iL,mem_cons→fc,mem_filter→DX,mem_flatMap→uC,mem_map_of_mem→G9,mem_map→dy,mem_of_getElem?→eP,mem_singleton→BB,nodup_nil→BC,not_mem_nil→zT,pairwise_map→Ha,range→ix,replicate→iy,take_of_length_le→re,take→df
open Nat renaming beq→aQ,ble_eq_true_of_le→cP,ble→bw,blt→bm,eq_of_beq_eq_true→jP,le_refl→br,le_succ_of_le→cq,le_succ→jQ,le_trans→fA,lt_irrefl→cD,lt_succ_self→kU,mul_le_mul→rf,reduceAdd→bQ,reduceBEq→ah,reduceDiv→eR,reduceEqDiff→eI,reduceLT→aB,reduceLeDiff→cK,reduceMod→ep,reduceMul→ee,reducePow→ew,reduceSub→ey,zero_add→bV,zero_le→ki
open Go.Op renaming bytesLess→fN
open Option renaming bind_eq_some_iff→ak,bind_some→au,map_eq_some_iff→uH,map_none→sF,map_some→kn
open Option.some renaming injEq→aJ
open Prod.mk renaming injEq→bI
open Go.Proofs.Tryz renaming prog→ae
open Go.Ag.W renaming drawX→iT,loopC→bG,loopE→lk
open Go.Ag.WC renaming sound→co
namespace Go.Proofs.YtnnppcoplinajaaGreat
open Go.Ag
open Go.Sort (SWO)
variable{α:Type}
def KO{d:α->α->Int}(k:α->Int×Int)(h: ∀x y,d x y<0↔((k x).1<(k y).1\/((k x).1=(k y).1/\(k x).2<(k y).2))):SWO (ltOf d) where
 irrefl x:=by
  simp only[ltOf,decide_eq_false_iff_not,h];omega
 trans x y z h1 h2:=by
  simp only[ltOf,dE,h] at*;omega
 ntrans x y z h1 h2:=by
  simp only[ltOf,decide_eq_false_iff_not,h] at*;omega
def J6{a b c d:Int}:mz [jx a b,c-d]<0↔(a<b\/(a=b/\c<d)):=by
 rw[Pq];unfold jx;by_cases h1:a<b;simp[bc,an,h1];by_cases h2:b<a;have: ¬a=b:=by omega
 simp[bc,an,h1,h2,this];have:a=b:=by omega
 subst this;simp[bc,an];omega
def F8{a b c d:Int}:mz [a-b,c-d]<0↔(a<b\/(a=b/\c<d)):=by
 rw[Pq];cases h:an (a-b) 0 with
 |true=>
  have:a-b=0:=by simpa[an] using h
  simp only[cT];omega
 |false=>
  have:a-b≠0:=by simpa[an] using h
  simp only[cF];omega
def eT{α:Type}(e:α->α->Int)(d:α)(l:List α)(i j:Nat):Int:=e (l.getD i d) (l.getD j d)
def kA{α:Type}(e:α->α->Int)(d:α)(l:List α):List α:=(xy (eT e d l) l.length).map fun i=>l[i]
def xH(j:α->α->Int)(d:α)(l:List α):(kA j d l).Perm l:=by
 have h:=(Ps (eT j d l) l.length).map fun i=>l[i];have e:(ux l.length).map (fun i=>l[i])=l:=by
  refine G4 (by simp) fun i w u=>?_;simp
 rwa [e] at h
def Qi(e:α->α->Int)(d:α)(enc:α->aa)(l:List α):xI (eT e d l) (l.map enc)=(kA e d l).map enc:=by
 unfold xI kA;rw[mI];have w:(l.map enc).length=l.length:=ce ..;rw[show(xy (eT e d l) (l.map enc).length).map (fun i=>(l.map enc)[i])=(xy (eT e d l) l.length).map (enc ∘ fun i=>l[i]) from ?_];have gen: ∀n (u:n=l.length) (r:List aa) (j:r.length=n) (h: ∀i (y:i<r.length) (x:i<l.length),r[i]=enc l[i]),(xy (eT e d l) n).map (fun i=>r[i.1]'(by rw[j];exact i.2))=(xy (eT e d l) l.length).map (enc ∘ fun i=>l[i]):=by
  intro n u r j h;subst u;refine DW fun i _=>?_;exact h i _ _
 exact gen _ w (l.map enc) rfl fun i y x=>by simp
def KD(e:α->α->Int)(d:α)(l:List α)(u:SWO (ltOf fun x y:Fin l.length=>eT e d l x y)):(kA e d l).Pairwise fun a b=> ¬e b a<0:=by
 unfold kA;rw[Ha];have w:=List.pairwise_mergeSort (le:=fun i j:Fin l.length=> !(ltOf fun x y:Fin l.length=>eT e d l x y) j i) (fun a b c A z=>by
  simp only[nu] at*;exact u.ntrans _ _ _ z A) (fun a b=>by
  simp only[Bool.or_eq_true,nu];cases h:(ltOf fun x y:Fin l.length=>eT e d l x y) b a with
  |false=>exact .inl rfl
  |true=>
   right;cases h':(ltOf fun x y:Fin l.length=>eT e d l x y) a b with
   |false=>rfl
   |true=>
    have:=u.trans _ _ _ h h';rw[u.irrefl] at this;cases this) (ux l.length)
 refine w.imp fun {i j} h=>?_;simp only[nu,ltOf,decide_eq_false_iff_not,eT] at h;simpa[nA] using h
noncomputable def uY{α:Type}(enc:α->aa)(cs:List aa):Option (List α):=by
 classical exact if h: ∃l:List α,cs=aF (l.map enc) then some h.choose else none
def Mw{enc:α->aa}{cs:List aa}{l:List α}(h:uY enc cs=some l):cs=aF (l.map enc):=by
 unfold uY at h;split at h;rename_i d;injection h with h;subst h
 exact d.choose_spec;cases h
def HQ{enc:α->aa}{k:Nat}(d: ∀a,(enc a).cells.length=k)(z:0<k)(A: ∀a b,(enc a).cells=(enc b).cells->a=b)(l:List α):uY enc (aF (l.map enc))=some l:=by
 have j: ∃r:List α,aF (l.map enc)=aF (r.map enc):=⟨l,rfl⟩;unfold uY;rw[dif_pos j];have e: ∀(l r:List α),aF (l.map enc)=aF (r.map enc)->r=l:=by
  intro l
  induction l with
  |nil=>
   intro r h;cases r with
   |nil=>rfl
   |cons y r=>
    have:=congrArg List.length h;simp only[List.map_nil,fy,aF,bn,cJ,d] at this;omega
  |cons x l w=>
   intro r h;cases r with
   |nil=>
    have:=congrArg List.length h;simp only[List.map_nil,fy,aF,bn,cJ,d] at this;omega
   |cons y r=>
    simp only[fy,aF] at h;have u:=List.append_inj h (by rw[d,d]);rw[A _ _ u.1,w r u.2]
 exact congrArg some (e l _ j.choose_spec)
noncomputable def xG{α:Type}(enc:α->aa)(h:α->α->Int)(d:α)(e:List α->Bool)(cs:List aa):Option (List aa):=(uY enc cs).bind fun l=>bif e l then some (aF ((kA h d l).map enc)) else none
noncomputable def xJ{α:Type}(enc:α->aa)(j:α->α->Int)(d:α)(h:List α->Bool)(k g:Nat):List aa->Option pH
 | [.arr k' m 0 len _,.func (.func g') [] []]=>bif aQ k' k&&aQ g' g then some (some (m,fun e=>t6 (bif aQ e.length (len*k) then xG enc j d h e else none))) else none
 | [.AL,.func (.func g') [] []]=>bif aQ g' g then some none else none
 |_=>none
variable{f:Nat}
def aav{enc:α->aa}{H:α->α->Int}{d:α}{ok:List α->Bool}{k g:Nat}{ρ:Go.Shelf.Ren}(L:SlLaysF0.n6 ae ρ)(hf:ρ.f 6=f)(aE: ∀w,(isAgg (ρ.t 24)).run ae w= .ok true w)(zE: ∀w,(Go.sizeOf (ρ.t 24)).run ae w= .ok k w)(ef: ∀args w,(callFunc f args).run ae w= .ok (.enter f args) w)(eg: ∀args w,(callFunc g args).run ae w= .ok (.enter g args) w){sp:Sp}(a1:db ae g sp)(hk: ∀a,(enc a).cells.length=k)(ha: ∀a,enc a= .agg (enc a).cells)(a0:0<k)(hz: ∀a h,fY h (enc a) (enc a))(a4: ∀l,ok l=true->l.length<=1000000/\(∀(i j:Nat) (x y:α),l[i]? =some x->l[j]? =some y->sp [enc x,enc y]=some (.int .i64 (H x y)))/\(SWO (ltOf fun x y:Fin l.length=>eT H d l x y))/\(∀x y:Fin l.length,(ltOf fun x y:Fin l.length=>eT H d l x y) x y=false->(ltOf fun x y:Fin l.length=>eT H d l x y) y x=false->x=y)):
 uN f (xJ enc H d ok k g):=by
 subst hf;intro args G h w xs wr hx;refine⟨fun A=>?_,fun n gf cs a6 A hl F=>?_⟩
 ·unfold xJ at A
  split at A;obtain⟨_,A⟩:=bh A;cases A
  ·cases hx with
   |cons p q=>
   cases q with
   |cons q r=>
   cases r;cases p;cases q with
   |func q1 q2=>
   cases q1;cases q2;refine .inr ⟨ef _ _,(AnyF.slices_SortFunc_none L none 0 _ w).mono ?_⟩;rintro e w' ⟨rfl,rfl⟩;exact⟨_,rfl,G,wr,.refl,.tup .nil⟩
  cases A
 ·unfold xJ at A
  split at A
  ·rename_i k' m len N g'
   have hb:=(bh A).1;have Y:=(bh A).2;clear A;simp only[bu] at hb;have O:=jP hb.1;have J:=jP hb.2;subst O;subst J;injection Y with Y;injection Y with Y;injection Y with a3 a2
   subst a3;subst a2;have F:=Gl F;obtain⟨B,F⟩:=bh F;have B:=jP B;simp only[xG,ak] at F;obtain⟨l,h1,F⟩:=F;obtain⟨h2,F⟩:=bh F;have F:=(sI F).symm;subst F;have a5:=Mw h1;subst a5;have Z: ∀v∈l.map enc,v.cells.length=k'/\v= .agg v.cells:=fun v hv=>by
    obtain⟨a,_,rfl⟩:=dy.1 hv;exact⟨hk a,ha a⟩
   have S:l.length=len:=by
    rw[oG (fun v hv=>(Z v hv).1),ce] at B;exact Nat.eq_of_mul_eq_mul_right a0 B
   obtain⟨q1,q2,q3,q4⟩:=a4 l h2;cases hx with
   |cons p q=>
   cases q with
   |cons q r=>
   cases r;cases q with
   |func u1 u2=>
   cases u1;cases u2;have I:(l.map enc).length=l.length:=ce ..;have hy: ∀z,VR G (.arr k' m 0 len N) z->VR G (.arr k' m 0 (l.map enc).length N) z:=fun z hz=>by rw[I,S];exact hz
   have gen: ∀n (hn:n=l.length),SWO (ltOf fun x y:Fin n=>eT H d l x y)/\(∀x y:Fin n,(ltOf fun x y:Fin n=>eT H d l x y) x y=false->(ltOf fun x y:Fin n=>eT H d l x y) y x=false->x=y):=by
    intro n hn;subst hn;exact⟨q3,q4⟩
   have U:=fun hO=>Qe L rfl aE zE ef eg a1 wr (rows:=l.map enc) (us:=l.map enc) hl Z a0 rfl (fun i v u O J=>by
    rw[O] at J;injection J with J;subst J
    rw[jf,uH] at O;obtain⟨a,_,rfl⟩:=O;exact hz a _) (eT H d l) (fun i j u u' O J=>by
    rw[jf,uH] at O J;obtain⟨a,g1,rfl⟩:=O;obtain⟨b,g2,rfl⟩:=J;have e:eT H d l i j=H a b:=by
     unfold eT;rw[nA,nA,g1,g2];rfl
    rw[q2 i j a b g1 g2,e]) hO (gen _ I).2 (by rw[I];exact q1) (hy _ p)
   rw[Qi] at U;exact U (gen _ I).1
  obtain⟨_,A⟩:=bh A;cases A;cases A
def x6:aa->Option dg
 | .agg [.int .i64 i,.int .i64 a,.int .i64 b,.int .i64 c,.int .i64 d,.int .i64 lx,.int .i64 hx,.int .i64 ly,.int .i64 hy]=>
   bif lx==min a c&&(hx==max a c&&(ly==min b d&&hy==max b d)) then some (i,((a,b),(c,d))) else none
 |_=>none
variable{v:aa}
def Si{x:dg}(h:x6 v=some x):v=cX x:=by
 unfold x6 at h;split at h;obtain⟨d,h⟩:=bh h;injection h with h;subst h
 simp only[bu,bE] at d;obtain⟨rfl,rfl,rfl,rfl⟩:=d;rfl;cases h
def LL(x:dg):x6 (cX x)=some x:=by
 simp only[x6,cX,jz,jX,vh,qJ,qG,bS,cw,cT]
def Af:aa->Option Mt
 | .agg [.int .i64 a,.int .i64 b,.int .i64 c]=>some (a,b,c)
 |_=>none
def Sk{x:Mt}(h:Af v=some x):v=im x:=by
 unfold Af at h;split at h;injection h with h;subst h;rfl
 cases h
def LM(x:Mt):Af (im x)=some x:=rfl
def nh(n:Int):Bool:=decide (0<=n)&&decide (n<=1000000)
def KC{a b:Int}(e:nh a=true)(d:nh b=true):IntKind.i64.wrap (a-b)=a-b:=by
 simp only[nh,bu,dE] at e d;exact iC (by omega) (by omega)
def yj(x y:dg):Int:=mz [jx (jX x.2) (jX y.2),x.1-y.1]
def th(x y:Mt):Int:=mz [x.1-y.1,x.2.1-y.2.1]
def Mj:Sp
 | [u,v]=>(x6 u).bind fun x=>(x6 v).bind fun y=>bif nh x.1&&nh y.1 then some (cd (yj x y)) else none
 |_=>none
def Mm:Sp
 | [u,v]=>(Af u).bind fun x=>(Af v).bind fun y=>bif nh x.1&&(nh y.1&&(nh x.2.1&&nh y.2.1)) then some (cd (th x y)) else none
 |_=>none
def Lr:dX:=[(232,o5),(108,vA)]
def RR:dR Lr:=.cons HH (.cons Y1 .nil)
def aef:db ae 305 Mj:=by
 refine pC RR fun args u h=>?_;unfold Mj at h;split at h;simp only[ak] at h;obtain⟨x,j,y,e,h⟩:=h;obtain⟨d,h⟩:=bh h;simp only[bu] at d;have h:=sI h;subst h;rw[Si j,Si e];exact⟨rfl,_,_,aeg (sp:=fun f=>gL f Lr) rfl rfl rfl (KC d.1 d.2) (br _),rfl,⟨1,rfl⟩⟩;cases h
def aej:db ae 310 Mm:=by
 refine pC RR fun args u h=>?_;unfold Mm at h;split at h;simp only[ak] at h;obtain⟨x,j,y,e,h⟩:=h;obtain⟨d,h⟩:=bh h;simp only[bu] at d;have h:=sI h;subst h;rw[Sk j,Sk e];exact⟨rfl,_,_,aek (sp:=fun f=>gL f Lr) rfl rfl (KC d.1 d.2.1) (KC d.2.2.1 d.2.2.2) _,rfl,⟨1,rfl⟩⟩;cases h
noncomputable def FV(l:List dg):Bool:=by classical exact decide (l.length<=1000000/\(∀x∈l,nh x.1=true)/\(l.map (·.1)).Nodup)
noncomputable def FW(l:List Mt):Bool:=by classical exact decide (l.length<=1000000/\(∀x∈l,nh x.1=true/\nh x.2.1=true)/\(l.map fun m=>(m.1,m.2.1)).Nodup)
variable{β:Type}
def JK{k:α->β}{l:List α}(h:(l.map k).Nodup){i j:Nat}{x y:α}(w:l[i]? =some x)(u:l[j]? =some y)(e:k x=k y):i=j:=by
 have d:(l.map k)[i]? =some (k x):=by rw[jf,w];rfl
 have z:(l.map k)[j]? =some (k x):=by rw[jf,u,e];rfl
 exact(List.getElem?_inj ((nY.1 d).1) h).1 (d.trans z.symm)
def Cp{l:List α}{d:α}(i:Fin l.length):l.getD i d=l[i]:=by
 rw[nA];simp
noncomputable def Qf:=xJ cX yj (0,((0,0),(0,0))) FV 9 305
noncomputable def Qh:=xJ im th (0,0,0) FW 3 310
def aqX:uN 304 Qf:=by
 refine aav Tryz.sortF304 rfl Tryz.isAgg368 Tryz.sizeOf368 (Go.Proofs.enters_of Tryz.func304 (by kernel_rfl) rfl) (Go.Proofs.enters_of Tryz.func305 (by kernel_rfl) rfl) aef (fun _=>rfl) (fun _=>rfl) (by decide) (fun a h=>⟨2,rfl⟩) fun l d=>?_;simp only[FV,dE] at d;refine⟨d.1,fun i j x y z w=>?_,?_,?_⟩;have u:=d.2.1 x (eP z);have e:=d.2.1 y (eP w);simp only[adz,Mj,LL,u,e,cw];rfl;exact KO (fun i:Fin l.length=>(jX (l.getD i (0,((0,0),(0,0)))).2,(l.getD i (0,((0,0),(0,0)))).1)) fun x y=>J6;intro x y u e;simp only[ltOf,decide_eq_false_iff_not,eT,yj,J6,Cp] at u e;exact Fin.ext (JK d.2.2 (i:=x) (j:=y) (x:=l[x]) (y:=l[y]) (by simp) (by simp) (by omega))
def aq0:uN 309 Qh:=by
 refine aav Tryz.sortF309 rfl Tryz.isAgg290 Tryz.sizeOf290 (Go.Proofs.enters_of Tryz.func309 (by kernel_rfl) rfl) (Go.Proofs.enters_of Tryz.func310 (by kernel_rfl) rfl) aej (fun _=>rfl) (fun _=>rfl) (by decide) (fun a h=>⟨2,rfl⟩) fun l d=>?_;simp only[FW,dE] at d;refine⟨d.1,fun i j x y z w=>?_,?_,?_⟩;have u:=d.2.1 x (eP z);have e:=d.2.1 y (eP w);simp only[adz,Mm,LM,u.1,u.2,e.1,e.2,cw];rfl;exact KO (fun i:Fin l.length=>((l.getD i (0,0,0)).1,(l.getD i (0,0,0)).2.1)) fun x y=>F8;intro x y u e;simp only[ltOf,decide_eq_false_iff_not,eT,th,F8,Cp] at u e;exact Fin.ext (JK d.2.2 (i:=x) (j:=y) (x:=l[x]) (y:=l[y]) (by simp) (by simp) (by
  simp only[bI];omega))
abbrev sV:=List (Nat×(List aa->Option pH))
def KT(f:Nat):sV->Option (List aa->Option pH)
 | []=>none
 |(k,v)::l=>bif aQ k f then some v else KT f l
def sW(t:sV):Prop:= ∀p∈t,uN p.1 p.2
def sW.nil:sW []:=fun _ h=>by cases h
def sW.cons{sp:List aa->Option pH}{t:sV}(h:uN f sp)(e:sW t):sW ((f,sp)::t):=by
 intro p d;rcases fc.1 d with rfl|d
 exact h;exact e p d
def abo{f:Nat}{sp:List aa->Option pH}: ∀ {t:sV},KT f t=some sp->(f,sp)∈t
 | [],h=>by cases h
 |(k,v)::l,h=>by
  simp only[KT] at h;cases hk:aQ k f with
  |true=>
   rw[hk] at h;injection h with h;subst h
   have:=jP hk;subst this;exact iL
  |false=>
   rw[hk] at h;exact iE _ (abo h)
noncomputable def QW(T:dX)(W:sV)(ch:Nat->Nat):aH:= {P:=ae,hint:=ai,spec:=fun f=>gL f T,ch:=ch,kmax:=fun _=>1000000,specW:=fun f=>KT f W }
variable{T:dX}
def U2(j:dR T){W:sV}(e:sW W):Ag.Al (QW T W fun _=>0) where
 mixed:=XV
 spec f sp hsp args v hv G hp w xs wr hx:=j _ (Qz hsp) args v hv G hp w xs wr hx
 specH f sp h args v G hp w xs wr hx hv:=by cases h
 specW f sp h:=e _ (abo h)
 names f fn d:=by
  have d:ae.funcs[f]? =some fn:=d
  have:=f8.1 XZ fn (by
   rw[<-Array.getElem?_toList] at d;exact eP d)
  simpa using this
def j9(Y:dR T){W:sV}(U:sW W){f:FuncId}{args:List aa}{u:aa}(J:eO args=true)(I: ∀d, ∃v s',aq (QW T W d) f (en args) s0 v s'/\fY s'.heap v u)(G:Gh)(h:aC aR)(w:World)(xs:List Value)(wr:WR G h w)(H:ck G args xs):
 mM ae f ⟨xs⟩ w fun y F=> ∃A,WR A h F/\cZ G h w A h F 0 0/\VR A u y:=by
 obtain⟨N,Z⟩:=fan (B:=1000000) (by omega) (fun d n=> ∃v s',(cy (QW T W d) n).call f (en args) [] s0=some (v,s')/\fY s'.heap v u)
  (fun d n m x ⟨v,s',j,e⟩=>⟨v,s',(nM (QW T W d) x).call _ _ _ _ _ j,e⟩)
  (fun d n ⟨v,s',j,e⟩=>⟨s'.ci,fun z S=>⟨v,s',(tL (QW T W fun _=>0) n).call f _ [] d s0 v s' j z S,e⟩⟩)
  (fun d _=>let⟨v,s',⟨n,j⟩,e⟩:=I d;⟨n,v,s',j,e⟩)
 exact aaz (Q:=QW T W fun _=>0) (n:=N) (U2 Y U) (fun _=>(by decide:0<1000000)) J (fun d O=>Z d O) G h w xs wr H
def GK(B:dR T){W:sV}(A:sW W){sp:Sp}(h: ∀args u,sp args=some u->pures args=true/\ ∀F, ∃v s',aq (QW T W F) f args s0 v s'/\fY s'.heap v u):db ae f sp:=by
 intro args x y G hh w xs e j;obtain⟨d,z⟩:=h args x y;exact j9 B A (args:=args) (xM d) (by rw[lh d];exact z) G hh w xs e j
def ky{α β:Type}(F:α->α->Option β):List α->List β
 | []=>[]
 |a::l=>l.filterMap (F a)++ky F l
def Zh{α β:Type}{F:α->α->Option β}(j: ∀a b,F a b=F b a)(a:α): ∀l:List α,(ky F (l++[a])).Perm (ky F l++l.filterMap (F a))
 | []=>by simp[ky]
 |b::l=>by
  have u:=Zh j a l;rw[lY,ky,ky,List.filterMap_append,xQ (a:=b),j a b];have e:[a].filterMap (F b)=(F b a).toList:=by
   cases h:F b a<;>simp[h]
  rw[e];have d: ∀o:Option β,(l.filterMap (F b)++o.toList++ky F (l++[a])).Perm (l.filterMap (F b)++ky F l++(o.toList++l.filterMap (F a))):=fun o=>by
   simp only[ny];refine List.Perm.append_left _ ((List.Perm.append_left _ u).trans ?_);rw[<-ny,<-ny];exact List.Perm.append_right _ List.perm_append_comm
  have:=d (F b a);cases h:F b a<;>rw[h] at this<;>exact this
def ao8{F:α->α->Option β}(j: ∀a b,F a b=F b a){l d:List α}(h:l.Perm d):(ky F l).Perm (ky F d):=by
 induction h with
 |nil=>exact .refl _
 |cons a h e=>exact(h.filterMap _).append e
 |swap a b l=>
  rw[ky,ky,ky,ky,xQ,xQ,j a b];cases F b a with
  |none=>
   simp only[];rw[<-ny,<-ny];exact List.Perm.append_right _ List.perm_append_comm
  |some x=>
   simp only[];rw[lY,lY,<-ny,<-ny];exact(List.Perm.append_right _ List.perm_append_comm).cons _
 |trans _ _ w u=>exact w.trans u
def xK{α β:Type}(keep:α->α->Bool)(G:α->α->Option β):List α->List α->List β->List β
 | [],_,out=>out
 |a::l,act,out=>xK keep G l (act.filter (keep a)++[a]) (out++(act.filter (keep a)).filterMap (G a))
def HU{α β:Type}{p:α->Bool}{f:α->Option β}(h: ∀x,p x=false->f x=none): ∀l:List α,(l.filter p).filterMap f=l.filterMap f
 | []=>rfl
 |x::l=>by
  cases hp:p x with
  |true=>rw[List.filter_cons_of_pos hp,xQ,xQ,HU h l]
  |false=>rw[List.filter_cons_of_neg (by simp[hp]),xQ,h x hp,HU h l]
def aaI{α β:Type}{keep:α->α->Bool}{F:α->α->Option β}{low:α->Int}(y: ∀a b,F a b=F b a)(j: ∀a b c,keep a b=false->low a<=low c->F c b=none):
 ∀(l P act:List α) (out:List β),(P++l).Pairwise (fun a b=>low a<=low b)->(∀c,(∀x∈P,low x<=low c)->P.filterMap (F c)=act.filterMap (F c))->out.Perm (ky F P)->(xK keep F l act out).Perm (ky F (P++l))
 | [],P,act,out,_,_,ho=>by simpa[xK] using ho
 |a::l,P,act,out,hs,ha,ho=>by
  have e:P++a::l=(P++[a])++l:=by simp
  have h: ∀x∈P,low x<=low a:=fun x d=>(List.pairwise_append.1 hs).2.2 x d a iL;rw[xK,e];rw[e] at hs;refine aaI y j l (P++[a]) _ _ hs ?_ ?_;intro c w;have u:low a<=low c:=w a (by simp);rw[List.filterMap_append,List.filterMap_append,ha c fun x d=>w x (by simp[d]),HU fun x d=>j a x c d u];refine List.Perm.trans ?_ (Zh y a P).symm;rw[HU fun x d=>j a x a d (Int.le_refl _),<-ha a h];exact ho.append_right _
def arn{keep:α->α->Bool}{F:α->α->Option β}{low:α->Int}(d: ∀a b,F a b=F b a)(j: ∀a b c,keep a b=false->low a<=low c->F c b=none){l r:List α}(e:l.Pairwise (fun a b=>low a<=low b))(h:l.Perm r):(xK keep F l [] []).Perm (ky F r):=
 (aaI d j l [] [] [] e (fun _ _=>rfl) (.refl _)).trans (ao8 d h)
def fM(a b:dg):Option Mt:=bif an (ld a.2 b.2) 0 then none else some (min a.1 b.1,max a.1 b.1,ld a.2 b.2)
def afe(a b:dg):fM a b=fM b a:=by
 unfold fM;rw[amy a.2 b.2,Int.min_comm,Int.max_comm]
def T0{a b:dg}(h: ¬boxes a.2 b.2):fM a b=none:=by
 unfold fM;cases h1:an (ld a.2 b.2) 0 with
 |true=>rfl
 |false=>exact(h (amD (by simpa[an] using h1))).elim
def kK:Nat->List bT->List dg
 |_,[]=>[]
 |i,s::l=>(((i:Nat):Int),s)::kK (i+1) l
theorem wX: ∀(l:List bT) (i:Nat),(kK i l).length=l.length
 | [],_=>rfl
 |_::l,i=>by rw[kK,bH,wX l,bH]
def AU: ∀ {l:List bT} {i:Nat} {x:dg},x∈kK i l->(i:Int)<=x.1/\x.1<(i+l.length:Nat)
 | [],_,_,h=>by cases h
 |s::l,i,x,h=>by
  rcases fc.1 h with rfl|h
  refine⟨Int.le_refl _,?_⟩;simp only[bH];omega
  have:=AU h;simp only[bH];omega
def Cw: ∀(l:List bT) (i:Nat),(kK i l).Pairwise fun a b=>a.1<b.1
 | [],_=>.nil
 |s::l,i=>.cons (fun x d=>by have:=AU d;omega) (Cw l (i+1))
def ie(l:List bT):List Mt:=ky fM (kK 0 l)
def vn(a b:Mt):Prop:=a.1<b.1\/(a.1=b.1/\a.2.1<b.2.1)
def Ci{a b:dg}{m:Mt}(h:fM a b=some m):m.1=min a.1 b.1/\m.2.1=max a.1 b.1:=by
 unfold fM at h;cases h1:an (ld a.2 b.2) 0 with
 |true=>rw[h1] at h;cases h
 |false=>
  rw[h1] at h;have h:=sI h;subst h;exact⟨rfl,rfl⟩
def J9{α β:Type}{F:α->α->Option β}{m:β}: ∀ {l:List α},m∈ky F l-> ∃x∈l, ∃y∈l,F x y=some m
 | [],h=>by cases h
 |a::l,h=>by
  rcases lj.1 h with h|h
  obtain⟨y,e,d⟩:=List.mem_filterMap.1 h;exact⟨a,iL,y,iE _ e,d⟩;obtain⟨x,e,y,d,j⟩:=J9 h;exact⟨x,iE _ e,y,iE _ d,j⟩
def Gc{α β:Type}{F:α->α->Option β}: ∀l:List α,(ky F l).length<=l.length*l.length
 | []=>by simp[ky]
 |a::l=>by
  have e:=List.length_filterMap_le (F a) l;have d:=Gc (F:=F) l;rw[ky,cJ,bH,Nat.add_mul,Nat.mul_add];omega
def Gd: ∀ {l:List dg},l.Pairwise (fun a b=>a.1<b.1)->(ky fM l).Pairwise vn
 | [],_=>.nil
 |a::l,.cons h1 h2=>by
  rw[ky,List.pairwise_append];refine⟨?_,Gd h2,fun x h y e=>?_⟩;rw[List.pairwise_filterMap];refine(List.Pairwise.and_mem.1 h2).imp ?_;rintro x y ⟨h,e,F⟩ b J c I;have O:=Ci J;have N:=Ci I;have A:=h1 x h;have w:=h1 y e;simp only[vn];omega;obtain⟨z,B,d⟩:=List.mem_filterMap.1 h;obtain⟨u,H,v,G,j⟩:=J9 e;have O:=Ci d;have N:=Ci j;have A:=h1 z B;have w:=h1 u H;have S:=h1 v G;simp only[vn];omega
def d9:dg:=(0,((0,0),(0,0)))
def d3:Mt:=(0,0,0)
def arp(l:List dg):SWO (ltOf fun x y:Fin l.length=>eT yj d9 l x y):=KO (fun i:Fin l.length=>(jX (l.getD i d9).2,(l.getD i d9).1)) fun _ _=>J6
def arq(l:List Mt):SWO (ltOf fun x y:Fin l.length=>eT th d3 l x y):=KO (fun i:Fin l.length=>((l.getD i d3).1,(l.getD i d3).2.1)) fun _ _=>F8
def zG(l:List bT):List dg:=kA yj d9 (kK 0 l)
def tt(l:List bT):List Mt:=xK (fun a x=> !jn a x) fM (zG l) [] []
def Qo(l:List bT):(zG l).Perm (kK 0 l):=xH _ _ _
def Co(l:List bT):(tt l).Perm (ie l):=by
 refine arn (low:=fun a:dg=>jX a.2) afe ?_ ?_ (Qo l);intro a b c d j;refine T0 fun e=>?_;have d:vh b.2<jX a.2:=by simpa[jn,bc] using d
 have:=e.1.1;simp only[jX,vh] at*;omega;refine(KD yj d9 _ (arp _)).imp ?_;intro a b h;simp only[yj,J6] at h;omega
variable{l:List bT}
def ahw(h:l.length<=1000):FV (kK 0 l)=true:=by
 simp only[FV,dE];refine⟨by rw[wX];omega,fun x d=>?_,?_⟩
 have:=AU d;simp only[nh,bu,dE];omega;rw[List.nodup_iff_pairwise_ne,Ha];exact(Cw l 0).imp fun h=>by omega
def af5(h:l.length<=1000):FW (tt l)=true:=by
 have d:=Co l;simp only[FW,dE];refine⟨?_,fun x u=>?_,?_⟩;rw[d.length_eq]
 have:=Gc (F:=fM) (kK 0 l);rw[wX] at this;have:l.length*l.length<=1000*1000:=rf h h;unfold ie;omega;obtain⟨a,y,b,w,j⟩:=J9 (d.mem_iff.1 u);have e:=Ci j;have A:=AU y;have z:=AU w;simp only[nh,bu,dE];omega;rw[(d.map _).nodup_iff,List.nodup_iff_pairwise_ne,Ha];refine(Gd (Cw l 0)).imp fun h=>?_;simp only[vn] at h;simp only[ne_eq,bI];omega
def af6(l:List bT):kA th d3 (tt l)=ie l:=by
 refine List.Perm.eq_of_pairwise (le:=fun a b=> ¬th b a<0) (fun a b d x z y=>?_) (KD th d3 _ (arq _)) ?_ ((xH _ _ _).trans (Co l));have d:=((xH th d3 (tt l)).trans (Co l)).mem_iff.1 d;simp only[th,F8] at z y;have e:(ie l).Pairwise vn:=Gd (Cw l 0);obtain⟨i,w,rfl⟩:=G7 d;obtain⟨j,u,rfl⟩:=G7 x;rcases Nat.lt_trichotomy i j with h|h|h
 have:=List.pairwise_iff_getElem.1 e i j w u h;simp only[vn] at this;omega;subst h;rfl
 have:=List.pairwise_iff_getElem.1 e j i u w h;simp only[vn] at this;omega;refine(Gd (Cw l 0)).imp fun h=>?_;simp only[vn] at h;simp only[th,F8];omega
end Go.Proofs.YtnnppcoplinajaaGreat
namespace Go.Proofs.YtnnppcoplinajaaGreat
open Go.Ag
theorem Vz: ∀(l:List bT) (i:Nat) (s:bT),kK i (l++[s])=kK i l++[(((i+l.length:Nat):Int),s)]
 | [],i,s=>rfl
 |x::l,i,s=>by
  rw[lY,kK,Vz l,kK,bH,show i+1+l.length=i+(l.length+1) by omega];rfl
def Bg(d:List bT)(n:Nat):List dg:=kK 0 d++iy n Bw
theorem ap1(d:List bT)(s:bT)(n:Nat):(Bg d (n+1)).set d.length (((d.length:Nat):Int),s)=Bg (d++[s]) n:=by
 grind [Bg,List.set_append_right,wX,Vz]
def ap0(d:List bT)(n:Nat):(Bg d n).length=d.length+n:=by
 unfold Bg;rw[cJ,wX,List.length_replicate]
def anI:db ae 303 A4:=by
 refine pC (T:=[]) .nil fun args u h=>?_;unfold A4 at h;split at h;have h:=sI h;subst h;exact⟨rfl,_,_,anK (sp:=fun f=>gL f []) rfl _ _ _,rfl,⟨2,rfl⟩⟩;cases h
def Ak:Sp
 | [.agg [.int .i64 a,.int .i64 b],.agg [.int .i64 c,.int .i64 d]]=>some (.bool (cr a d&&cr c b))
 |_=>none
def adg:db ae 308 Ak:=by
 refine pC (T:=[]) .nil fun args u h=>?_;unfold Ak at h;split at h;rename_i a b c d;have h:=sI h;subst h;exact⟨rfl,_,_,adi (sp:=fun f=>gL f []) rfl (a,b) (c,d) _,rfl,⟨1,rfl⟩⟩;cases h
variable{m:Nat}{s s':St}
def eL.putT(h:eL m s s')(o:Option aR):eL m s (s'.Gt (s'.top.put m o)):=
 ⟨fun k d=>by rw[mY,aX,bN.2 d];exact h.old k d,h.aL,h.ci,pW h.mw (br _)⟩
variable{K:Ex->Fr->St->Prop}{segs:List bT}{sv:aa}
section
variable{Q:aH}(hP:Q.P=ae)(hh:Q.hint=ai)
include hP hh
theorem ahv(y:Q.spec 303=some A4)(Z:ay 4 bX sv segs)(O:segs.length<=1000){s0:St}(hx: ∀e lc s,ac e 4= .arr 9 m 0 segs.length segs.length->eL m s0 s->s.get [] m=some (.cells (aF ((kK 0 segs).map cX)))->K (.exit 0) ⟨e,102,lc⟩ s):
 ∀(h d:List bT) (e:ax) (lc:Ag.Loc) (s:St),segs=d++h->eL m s0 s->s.get [] m=some (.cells (aF ((Bg d h.length).map cX)))->
  ac e 4= .arr 9 m 0 segs.length segs.length->ac e 20=sv->ac e 21= .int .i64 (segs.length:Nat)->ac e 22= .int .i64 (d.length:Nat)->W Q 224 (.loop NK) ⟨e,102,lc⟩ s K:=by
 intro h
 induction h with
 |nil=>
  intro d e lc s z H N J u j x;have F:d.length=segs.length:=by rw[z];simp
  refine bG ?_;simp only[dJ,FbZ,FlZ,isStore,ii,gI,cut,fL,df,bP,ah,aB,bQ,ee,ey,eI,cK,vf,ew,ep,reduceCtorEq,EN,jt,Kk,ofValue,pw,SA,HA,SK,j0,PO,Zv,zq,Ke,nV,Gn,Gp,sk,Bf,ZG,PP,yC,Aw,EB,rD,pQ,EC,nJ,rE,tk,Ax,gX,cH,ng,ub,aap,SJ,Zx,aaO,aao,SD,SH,SI,Zz,ZE,PN,aaP,aaV,aaW,abC,abD,abH,abI,T6,T7,T8,T9,Uf,Ug,Uh,Ui,Uj,Uk,zF,ua,GC,SF,SB,ZB,aaQ,v8,abG,Ue,Ua,j6,ZF,Zu,ZC,aaX,aaS,abE,AI,yY,SE,Zy,ZA,ZD,ZH,ZI,Zw,aaU,aa3,aaT,abJ,abF,Ub,Uc,Ud,Ul,Um,Un,Uo,Uq,Ur,Us,HT,t9,GD,Vf,FJ,CC,Va,V9,Rh,Rc,Q9,Rg,Q7,Q6,Rf,Rb,Q8,Ra,Re,TK,TJ,R5,R3,R4,R6,Vn,Vm,TN,TM,SY,SZ,SX,SW,aaE,aaD,ot,aW,aY,rR,iU,hP,hh,NK,u,j,x,F,cD]
  grind [aj,Bg]
 |cons g h Y=>
  intro d e lc s z H N J u j x;have B:d.length<segs.length:=by rw[z];simp
  have I:segs[d.length]? =some g:=by rw[z];simp
  have G:=fun lc k=>Z.at zF.2.2.1 I lc k;have A:=dB (n:=d.length) (by omega);have U:A4 [.int .i64 g.1.1,.int .i64 g.2.1]=some (aU (jX g,vh g)):=rfl;have S:A4 [.int .i64 g.1.2,.int .i64 g.2.2]=some (aU (qJ g,qG g)):=rfl;have w:=Vy (s:=s.top) N (i:=d.length) (by rw[ap0,bH];omega) ((((d.length:Nat):Int)),g);rw[bH,ap1] at w;simp only[cX,jz] at w;refine bG ?_;simp only[dJ,FbZ,FlZ,isStore,ii,gI,cut,fL,df,bP,ah,aB,bQ,ee,ey,eI,cK,vf,ew,ep,reduceCtorEq,EN,jt,Kk,ofValue,pw,SA,HA,SK,j0,PO,Zv,zq,Ke,nV,Gn,Gp,sk,Bf,ZG,PP,yC,Aw,EB,rD,pQ,EC,nJ,rE,tk,Ax,gX,cH,ng,ub,aap,SJ,Zx,aaO,aao,SD,SH,SI,Zz,ZE,PN,aaP,aaV,aaW,abC,abD,abH,abI,T6,T7,T8,T9,Uf,Ug,Uh,Ui,Uj,Uk,zF,ua,GC,SF,SB,ZB,aaQ,v8,abG,Ue,Ua,j6,ZF,Zu,ZC,aaX,aaS,abE,AI,yY,SE,Zy,ZA,ZD,ZH,ZI,Zw,aaU,aa3,aaT,abJ,abF,Ub,Uc,Ud,Ul,Um,Un,Uo,Uq,Ur,Us,HT,t9,GD,Vf,FJ,CC,Va,V9,Rh,Rc,Q9,Rg,Q7,Q6,Rf,Rb,Q8,Ra,Re,TK,TJ,R5,R3,R4,R6,Vn,Vm,TN,TM,SY,SZ,SX,SW,aaE,aaD,ot,aW,aY,rR,iU,hP,hh,NK,J,u,j,x,B,G,A,bX,y,U,S,aU,dn,H.mw,w,bj,bg,aZ,bf,evc,iw,jO];refine⟨rfl,Y (d++[g]) _ _ _ (by rw[z];simp) (H.putT _) (by rw[mY,aX,bS];rfl) ?_ ?_ ?_ ?_⟩
  all_goals simp only[abc,akZ,ah,J,u,j]
end
def j1:aa->Option Nat
 | .arr _ n _ _ _=>some n
 |_=>none
def kW(sz:Nat)(s:St)(v:aa)(xs:List aa):Prop:=(v= .AL/\xs=[])\/(xs≠ []/\ ∃k,v= .arr sz k 0 xs.length xs.length/\s.get [] k=some (.cells (aF xs))/\k<s.aL)
variable{xs:List aa}{sz:Nat}{v:aa}
def kW.ge(h:kW sz s v xs):v.ge=true:=by
 rcases h with⟨rfl,_⟩|⟨_,k,rfl,_⟩<;>rfl
def kW.mono(h:kW sz s v xs)(d: ∀n,j1 v=some n->s'.get [] n=s.get [] n)(u:s.aL<=s'.aL):kW sz s' v xs:=by
 rcases h with h|⟨j,k,rfl,e,w⟩
 exact .inl h;exact .inr ⟨j,k,rfl,by rw[d k rfl];exact e,by omega⟩
def kW.lt(h:kW sz s v xs): ∀n,j1 v=some n->n<s.aL:=by
 intro n d;rcases h with⟨rfl,_⟩|⟨_,k,rfl,_,h⟩
 cases d;cases d;exact h
def LH{t:TypeId}{E:EI}(I:lV ae t=some E)(z:E.n=sz)(S:E.b<=88)(x:aa)(u: ∀y∈xs,y.cells.length=sz)(H:xs.length<1000000)(G:s.gt<=s.aL)(h:kW sz s v xs):
 ∃d,fF ae [] t v (.list sz [x] .GE) true s=some (.arr sz s.aL 0 (xs.length+1) (xs.length+1),d)/\kW sz d (.arr sz s.aL 0 (xs.length+1) (xs.length+1)) (xs++[x])/\d.aL=s.aL+1/\d.ci=s.ci/\d.gt<=d.aL/\(∀n,n<s.aL->j1 v≠some n->d.get [] n=s.get [] n):=by
 subst z;have j:jc (xs.length+1) E.b=true:=vI (by omega) S;have N:(xs++[x]).length=xs.length+1:=by simp
 rcases h with⟨rfl,rfl⟩|⟨_,k,rfl,O,J⟩
 refine⟨s.new (.cells (aF [x])),?_,.inr ⟨by simp,s.aL,rfl,?_,kU _⟩,rfl,rfl,cq G,fun n z _=>?_⟩;have j:jc 1 E.b=true:=j;simp only[afo,fF,I,au,eE,jG,kL,bH,bn,bV,j];rw[fk,bS];rfl;rw[fk,bN.2 (by omega:n≠s.aL)];rfl;have F:(aF xs).length=xs.length*E.n:=MP u;have B:aF [x]=x.cells:=by show x.cells++aF []=_;simp[aF]
 refine⟨(s.put k none).new (.cells (aF (xs++[x]))),?_,.inr ⟨by simp,s.aL,by rw[N],?_,kU _⟩,rfl,rfl,?_,fun n z w=>?_⟩;simp only[afo,fF,I,au,eE,jG,O,bH,bn,bV,j,F,cw,nz,B,qF];rw[fk,lR,bS];rfl;exact cq (dh s k none G);have A:n≠k:=fun e=>w (by rw[e];rfl);rw[fk,lR,bN.2 (by omega:n≠s.aL),cF,aX,bN.2 A];rfl
def ri(s:St)(av:aa)(act:List dg):Prop:=(av= .AL/\act=[])\/ ∃(k:Nat) (R:List dg),av= .arr 9 k 0 act.length R.length/\s.get [] k=some (.cells (aF (R.map cX)))/\R.take act.length=act/\act.length<=R.length/\R.length<=1000/\k<s.aL
variable{xs:List dg}
def ri.ge(h:ri s v xs):v.ge=true:=by
 rcases h with⟨rfl,_⟩|⟨k,R,rfl,_⟩<;>rfl
def ri.mono(h:ri s v xs)(d: ∀n,j1 v=some n->s'.get [] n=s.get [] n)(x:s.aL<=s'.aL):ri s' v xs:=by
 rcases h with h|⟨k,R,rfl,w,u,j,e,y⟩
 exact .inl h;exact .inr ⟨k,R,rfl,by rw[d k rfl];exact w,u,j,e,by omega⟩
def ri.lt(h:ri s v xs): ∀n,j1 v=some n->n<s.aL:=by
 intro n d;rcases h with⟨rfl,_⟩|⟨k,R,rfl,_,_,_,_,h⟩
 cases d;cases d;exact h
def ri.len(h:ri s v xs)(mk:aK)(s':St):jo ae mk 363 v s'=some (.int .i64 (xs.length:Nat)):=by
 rcases h with⟨rfl,rfl⟩|⟨k,R,rfl,_⟩
 exact ua.2.2.2.2.1 _ _;exact FA _ _ _ _ _ _ _
variable{i:Nat}{b:dg}
def ri.at(h:ri s v xs)(e:xs[i]? =some b): ∃n o,(∀lc,ja ae lc 363 v (.int .i64 (i:Nat))=some (.ptr n o))/\yT ae 368 o (s.get [] n)=some (cX b):=by
 have d:i<xs.length:=(nY.1 e).1;rcases h with⟨rfl,rfl⟩|⟨k,R,rfl,x,w,y,_⟩
 cases e;have u:R[i]? =some b:=by rw[<-w,G6,iP d] at e;exact e
 refine⟨k,0+i*9,fun lc=>?_,by rw[bV];exact Ii x u⟩;have j:bm i xs.length=true:=cP d;rw[ua.2.2.2.1];simp only[afo,oz,au,j,cw]
structure n9 (s:St) (m:Nat) (its act:List dg) (out:List Mt) (av ov:aa):Prop where
 it:s.get [] m=some (.cells (aF (its.map cX)))
 mlt:m<s.aL
 act:ri s av act
 out:kW 3 s ov (out.map im)
 d1:j1 av≠some m
 d2:j1 ov≠some m
 d3: ∀n,j1 av=some n->j1 ov≠some n
 mw:s.gt<=s.aL
variable{out:List Mt}{act its:List dg}{av ov:aa}
def n9.app(h:n9 s m its act out av ov)(u:out.length<1000000)(x:Mt): ∃j d,fF ae [] 286 ov (.list 3 [im x] .GE) true s=some (d,j)/\n9 j m its act (out++[x]) av d/\(∀n,n<s.aL->j1 ov≠some n->j.get [] n=s.get [] n)/\j.aL=s.aL+1/\j1 d=some s.aL/\d.ge=true:=by
 obtain⟨j,H,G,F,I,B,z⟩:=LH (t:=286) GC.1 rfl (by decide) (im x) (fun y A=>by obtain⟨a,_,rfl⟩:=dy.1 A;rfl) (by rw[ce];exact u) h.mw h.out;refine⟨j,_,H,⟨(z m h.mlt h.d2).trans h.it,by have:=h.mlt;omega,h.act.mono (fun n w=>z n (h.act.lt n w) (h.d3 n w)) (by omega),by rw[ff];exact G,h.d1,fun e=>?_,fun n w e=>?_,B⟩,z,F,rfl,rfl⟩;injection e with e
 have:=h.mlt;omega;injection e with e
 have:=h.act.lt n w;omega
def qP(s:bT):Bool:=bk s.1&&bk s.2
variable{a:dg}
def aff(h:(cr (qJ a.2) (qG b.2)&&cr (qJ b.2) (qG a.2))=false):fM a b=none:=by
 refine T0 fun d=>?_;obtain⟨j,e⟩:=d.2;have w:cr (qJ a.2) (qG b.2)=true:=dQ j;have u:cr (qJ b.2) (qG a.2)=true:=dQ e;rw[w,u] at h;cases h
section
variable{Q:aH}(hP:Q.P=ae)(hh:Q.hint=ai)
include hP hh
theorem aho(S:Q.spec 308=some Ak)(a0:Q.spec 225=some lD){nb n52 n51:Nat}(na:qP a.2=true)(b3: ∀x∈act,qP x.2=true)(d4:act.length<=1000)(d5:j1 av≠some nb)(r:List Mt)(hr:r.length<=1000000)(hx: ∀e lc s ov,ac e 4= .arr 9 m 0 its.length its.length->ac e 50= .arr 9 m 0 its.length its.length->ac e 51= .int .i64 (n51:Nat)->ac e 52= .int .i64 (n52:Nat)->ac e 8=av->ac e 10= .ptr nb 0->ac e 7=ov->n9 s m its act r av ov->s.get [] nb=some (.cells (jz a))->nb<s.aL->j1 ov≠some nb->K (.exit 4) ⟨e,102,lc⟩ s):
 ∀(d h:List dg) (out:List Mt) (ov:aa) (e:ax) (lc:Ag.Loc) (s:St),act=h++d->r=out++d.filterMap (fM a)->n9 s m its act out av ov->s.get [] nb=some (.cells (jz a))->nb<s.aL->j1 ov≠some nb->
  ac e 4= .arr 9 m 0 its.length its.length->ac e 50= .arr 9 m 0 its.length its.length->ac e 51= .int .i64 (n51:Nat)->ac e 52= .int .i64 (n52:Nat)->ac e 8=av->ac e 10= .ptr nb 0->ac e 7=ov->
  ac e 59=av->ac e 60= .int .i64 (act.length:Nat)->ac e 61= .int .i64 (h.length:Nat)->W Q 224 (.loop CD) ⟨e,102,lc⟩ s K:=by
 intro d
 induction d with
 |nil=>
  intro h out ov e lc s h1 B I Y G F h4 O N J h8 u h7 y j H;have b5:h.length=act.length:=by rw[h1];simp
  have b4:r=out:=by rw[B];simp
  refine bG ?_;simp only[go_sem,hP,hh,seval,CD,j,H,b5,cD];rw[b4] at hx;exact hx _ _ _ ov (by simp only[sN,seval,h4]) (by simp only[sN,seval,O]) (by simp only[sN,seval,N]) (by simp only[sN,seval,J]) (by simp only[sN,seval,h8]) (by simp only[sN,seval,u]) (by simp only[sN,seval,h7]) I Y G F
 |cons b d ih=>
  intro h out ov e lc s h1 B I Y G F h4 O N J h8 u h7 y j H;have b0:h.length<act.length:=by rw[h1];simp
  have b6:act[h.length]? =some b:=by rw[h1];simp
  obtain⟨n,o,b1,U⟩:=I.act.at b6;have a9:=dB (n:=h.length) (by omega);have b2:=I.act.ge;have a7:qP b.2=true:=b3 b (by rw[h1];simp);simp only[qP,bu] at na a7;have q1:Ak [.agg [.int .i64 (qJ a.2),.int .i64 (qG a.2)],.agg [.int .i64 (qJ b.2),.int .i64 (qG b.2)]]=some (.bool (cr (qJ a.2) (qG b.2)&&cr (qJ b.2) (qG a.2))):=rfl;have q2:=OQ na.1 na.2 a7.1 a7.2;simp only[bX,cd] at q2;simp only[cX,jz] at U Y;have next: ∀(z:List Mt) (w:aa) (A:ax) (a8:Ag.Loc) (s':St),r=z++d.filterMap (fM a)->n9 s' m its act z av w->s'.get [] nb=some (.cells (jz a))->nb<s'.aL->j1 w≠some nb->
   ac A 4= .arr 9 m 0 its.length its.length->ac A 50= .arr 9 m 0 its.length its.length->ac A 51= .int .i64 (n51:Nat)->ac A 52= .int .i64 (n52:Nat)->ac A 8=av->ac A 10= .ptr nb 0->ac A 7=w->
   ac A 59=av->ac A 60= .int .i64 (act.length:Nat)->ac A 61= .int .i64 ((h.length+1:Nat))->W Q 224 (.loop CD) ⟨A,102,a8⟩ s' K:=fun z w A a8 s' c1 c2 c3 c4 c5 c6 c7 c8 c9 d2 d1 d0 c0 b8 b7=>
    ih (h++[b]) z w A a8 s' (by rw[h1];simp) c1 c2 c3 c4 c5 c6 c7 c8 c9 d2 d1 d0 c0 b8 (by rw[b7,cJ];rfl)
  refine bG ?_;cases hy:(cr (qJ a.2) (qG b.2)&&cr (qJ b.2) (qG a.2)) with
  |false=>
   rw[hy] at q1;have hf:fM a b=none:=aff hy;simp only[go_sem,hP,hh,seval,CD,u,y,j,H,b0,b1,U,Y,b2,a9,S,q1,aW,aY];refine next out ov _ _ _ (by rw[B,xQ,hf]) I Y G F ?_ ?_ ?_ ?_ ?_ ?_ ?_ ?_ ?_ ?_
   all_goals simp only[sN,seval,h4,O,N,J,h8,u,h7,y,j]
  |true=>
   rw[hy] at q1;cases hk:an (ld a.2 b.2) 0 with
   |true=>
    have hf:fM a b=none:=by unfold fM;rw[hk];rfl
    simp only[go_sem,hP,hh,seval,CD,u,y,j,H,b0,b1,U,Y,b2,a9,S,a0,q1,q2,hk,aW,aY];refine next out ov _ _ _ (by rw[B,xQ,hf]) I Y G F ?_ ?_ ?_ ?_ ?_ ?_ ?_ ?_ ?_ ?_
    all_goals simp only[sN,seval,h4,O,N,J,h8,u,h7,y,j]
   |false=>
    have hf:fM a b=some (min a.1 b.1,max a.1 b.1,ld a.2 b.2):=by unfold fM;rw[hk];rfl
    have Z:r=(out++[(min a.1 b.1,max a.1 b.1,ld a.2 b.2)])++d.filterMap (fM a):=by rw[B,xQ,hf];simp
    have ho:out.length<1000000:=by
     have:out.length+1<=r.length:=by rw[Z,cJ,cJ];simp
     omega
    obtain⟨s1,w,a1,a2,a3,a4,a5,a6⟩:=I.app ho (min a.1 b.1,max a.1 b.1,ld a.2 b.2);simp only[im] at a1;have ko:=I.out.ge;simp only[go_sem,hP,hh,seval,CD,h7,u,y,j,H,b0,b1,U,Y,b2,ko,a6,a9,S,a0,q1,q2,hk,aW,aY,ru,sY,a1,bj,bg,aZ,bf,evc];refine next _ w _ _ _ Z a2 ((a3 nb G F).trans Y) (by omega) (fun e=>by rw[a5] at e;injection e with e;omega) ?_ ?_ ?_ ?_ ?_ ?_ ?_ ?_ ?_ ?_
    all_goals simp only[sN,seval,h4,O,N,J,h8,u,h7,y,j]
end
variable{fn:Func}{rs:List ResultVar}{args:List aa}{n:Nat}{sc:SC}{Q:aH}{R:aa->St->Prop}
def aq.ofWR{f:FuncId}(F:Q.P.funcs[f]? =some fn)(G:fn.body.map eD=some sc)(B:fn.ntmps=n)(z:fn.results.toList=rs)(u:Q.spec f=none)(h:W Q f sc (ii n args) s fun x d e=>(x= .normal\/x= .ret)/\ ∃v,(jt Q [] d e rs).map nT=some v/\R v e)(hH:Q.specH f=none:=by rfl)(H:Q.specW f=none:=by rfl): ∃v s',aq Q f args s v s'/\R v s':=by
 obtain⟨x,d,e,j,w,v,y,A⟩:=h;exact⟨v,e,aq.of2 F G B z u ⟨x,d,e,j,rfl,w,by simpa only[uH] using y⟩ hH H,A⟩
def aq.ofWZ(hP:Q.P=ae)(hH: ∀f,Q.specH f=none){N:Nat}(F:bK N fn sc n rs)(d:Q.spec N=none)(u:Q.specW N=none)(h:W Q N sc (ii n args) s fun x e j=>(x= .normal\/x= .ret)/\ ∃v,(jt Q [] e j rs).map nT=some v/\R v j): ∃v s',aq Q N args s v s'/\R v s':=aq.ofWR (by rw[hP];exact F.1) F.2 F.3 F.4 d h (hH N) u
def aqM(mk:aK)(e:ax)(s:St):jE ae mk 363 .AL none none none e s=some .AL:=by kernel_rfl
def n9.mono(h:n9 s m its act out av ov)(e: ∀n,n<s.aL->s'.get [] n=s.get [] n)(d:s.aL<=s'.aL)(j:s'.gt<=s'.aL):n9 s' m its act out av ov:=
 ⟨(e m h.mlt).trans h.it,by have:=h.mlt;omega,h.act.mono (fun n d=>e n (h.act.lt n d)) d,h.out.mono (fun n d=>e n (h.out.lt n d)) d,h.d1,h.d2,h.d3,j⟩
def n9.appA(h:n9 s m its act out av ov)(O:act.length<1000)(a:dg): ∃N y,fF ae [] 363 av (.list 9 [cX a] .GE) true s=some (y,N)/\n9 N m its (act++[a]) out y ov/\y.ge=true:=by
 have z:jc (act.length+1) 72=true:=vI (by omega) (by decide);have w:=h.mlt;have j:(act++[a]).length=act.length+1:=by simp
 rcases h.act with⟨rfl,rfl⟩|⟨k,R,rfl,U,S,h3,h4,Z⟩
 refine⟨s.new (.cells (aF [cX a])),.arr 9 s.aL 0 1 1,?_,⟨?_,Nat.lt_succ_of_lt w,.inr ⟨s.aL,[a],rfl,?_,rfl,br _,by simp,kU _⟩,h.out.mono (fun n d=>?_) (jQ _),fun e=>?_,h.d2,fun n d e=>?_,cq h.mw⟩,rfl⟩;have z:jc 1 72=true:=z;simp only[afo,fF,ua,au,eE,jG,kL,bH,bn,bV,z];rw[fk,bN.2 (by omega:m≠s.aL)];exact h.it;rw[fk,bS];rfl
 have:=h.out.lt n d;rw[fk,bN.2 (by omega:n≠s.aL)];rfl;injection e with e;omega
 injection d with d
 have:=h.out.lt n e;omega;have G:(aF (R.map cX)).length=R.length*9:=by rw[oG wY];simp
 have F:aF [cX a]=(cX a).cells:=by show(cX a).cells++aF []=_;simp[aF]
 have B:m≠k:=fun e=>h.d1 (by rw[e];rfl);by_cases hfull:act.length=R.length;have J:R=act:=by rw[<-S,hfull,List.take_length]
 subst J;refine⟨(s.put k none).new (.cells (aF (R.map cX++[cX a]))),.arr 9 s.aL 0 (R.length+1) (R.length+1),?_,⟨?_,Nat.lt_succ_of_lt w,.inr ⟨s.aL,R++[a],by rw[j],?_,by rw[List.take_length],br _,by rw[j];omega,kU _⟩,h.out.mono (fun n d=>?_) (jQ _),fun e=>?_,h.d2,fun n d e=>?_,cq (dh s k none h.mw)⟩,rfl⟩;simp only[afo,fF,ua,au,eE,jG,U,bH,bn,bV,z,G,cw,nz,F,qF];rw[fk,lR,bN.2 (by omega:m≠s.aL),cF,aX,bN.2 B];exact h.it;rw[fk,lR,bS,ff];rfl
 have:=h.out.lt n d;have u:n≠k:=fun e=>h.d3 k rfl (by rw[d,e]);rw[fk,lR,bN.2 (by omega:n≠s.aL),cF,aX,bN.2 u];rfl;injection e with e;omega
 injection d with d
 have:=h.out.lt n e;omega;have A:act.length<R.length:=by omega
 have I:(act.length*9==R.length*9)=false:=bN.2 (by omega);have H:bw (act.length+1) R.length=true:=cP (by omega);have Y:=zx (k:=9) wY (rows:=R.map cX) (i:=act.length) (by rw[ce];exact A) (x:=cX a) rfl;refine⟨s.put k (some (.cells (aF ((R.set act.length a).map cX)))),.arr 9 k 0 (act.length+1) R.length,?_,⟨?_,w,.inr ⟨k,R.set act.length a,by rw[j,G8],?_,?_,by rw[j,G8];omega,by rw[G8];exact h4,Z⟩,h.out.mono (fun n d=>?_) (br _),h.d1,h.d2,h.d3,dh s k _ h.mw⟩,rfl⟩;simp only[afo,fF,ua,au,eE,jG,U,bH,bn,bV,z,G,cw,I,cF,H,F,Y,List.map_set];rw[aX,bN.2 B];exact h.it;rw[aX,bS];rfl;rw[j,List.take_succ_eq_append_getElem (by rw[G8];exact A),List.take_set_of_le (br _),List.getElem_set_self,S];have u:n≠k:=fun e=>h.d3 k rfl (by rw[d,e]);rw[aX,bN.2 u];rfl
def aaH{α β:Type}{keep:α->α->Bool}{G:α->α->Option β}: ∀(l act:List α) (out:List β),out.length<=(xK keep G l act out).length
 | [],_,out=>br _
 |a::l,act,out=>by
  rw[xK];refine fA ?_ (aaH l _ _);rw[cJ];omega
section
variable{Q:aH}(hP:Q.P=ae)(hh:Q.hint=ai)(hH: ∀f,Q.specH f=none)
include hP hh hH
theorem aeG(j:Q.spec 306=none)(h:Q.specW 306=none)(d:Q.spec 418=none)(e:Q.specW 418=none){g:aa}(x:g.ge=true)(s:St):aq Q 306 [.AL,g] s .AL s:=by
 have u:aq Q 418 [.AL,g] s (cd (-1)) s:=by
  refine aq.ofZ hP hH WW d e rfl ?_;refine co ?_;simp only[go_sem,hP,hh,df,bP,ah,aB,bQ,ee,ey,eI,cK,ew,ep,reduceCtorEq,eR,ua];refine bG ?_;have y:bc 0 ((0:Nat):Int)=false:=rfl;simp only[go_sem,hP,hh,df,bP,ah,aB,bQ,ee,ey,eI,cK,ew,ep,reduceCtorEq,eR,Jh,y,cd]
 refine aq.ofZ hP hH Fh j h rfl ?_;refine co ?_;simp only[go_sem,hP,hh,df,bP,ah,aB,bQ,ee,ey,eI,cK,ew,ep,reduceCtorEq,eR,d,x];refine cG.of u (by decide) ?_;have w:an (-1) (-1)=true:=rfl;simp only[go_sem,hP,hh,df,bP,ah,aB,bQ,ee,ey,eI,cK,ew,ep,reduceCtorEq,eR,cd,w,aqM]
theorem aeE(w:Q.spec 306=none)(h:Q.specW 306=none)(u:Q.spec 418=none)(d:Q.specW 418=none)(A:Q.spec 307=none)(y:Q.specW 307=none){nb:Nat}(I:n9 s m its act out av ov)(F:s.get [] nb=some (.cells (jz a)))(G:j1 av≠some nb):
 ∃v s',aq Q 306 [av,.func (.func 307) [] [.ptr nb 0]] s v s'/\(n9 s' m its (act.filter fun x=> !jn a x) out v ov/\s'.get [] nb=some (.cells (jz a))/\s'.aL=s.aL/\j1 v=j1 av/\v.ge=true):=by
 rcases I.act with⟨rfl,rfl⟩|⟨k,R,rfl,h1,h2,Z,Y,U⟩
 exact⟨_,_,aeG hP hh hH w h u d rfl s,I,F,rfl,rfl,rfl⟩;have z:nb≠k:=fun e=>G (by rw[e];rfl);obtain⟨v,s',J,rfl,j,R',B,H,N⟩:=aeH hP hh hH (lcap:=R.length) w h u d A y z (by omega) Z h1 F I.mw;rw[h2] at J H;have S:=kT (fun x=> !jn a x) act;refine⟨_,s',J,⟨?_,by rw[j.aL];exact I.mlt,.inr ⟨k,R',by rw[B],N,H,by rw[B];omega,by rw[B];exact Y,by rw[j.aL];exact U⟩,I.out.mono (fun n O=>j.old n fun e=>I.d3 k rfl (by rw[O,e])) (by rw[j.aL];exact br _),I.d1,I.d2,I.d3,j.mw⟩,(j.old nb z).trans F,j.aL,rfl,rfl⟩;exact(j.old m fun e=>I.d1 (by rw[e];rfl)).trans I.it
theorem amq(A:Q.spec 306=none)(S:Q.specW 306=none)(a7:Q.spec 418=none)(N:Q.specW 418=none)(a9:Q.spec 307=none)(O:Q.specW 307=none)(a8:Q.spec 308=some Ak)(b0:Q.spec 225=some lD)(hn: ∀x∈its,qP x.2=true)(hl:its.length<=1000){F:List Mt}(hF:F.length<=1000000)(j: ∀e lc s ov,ac e 7=ov->kW 3 s ov (F.map im)->s.gt<=s.aL->K (.exit 2) ⟨e,102,lc⟩ s):
 ∀(h d act:List dg) (out:List Mt) (av ov:aa) (e:ax) (lc:Ag.Loc) (s:St),its=d++h->F=xK (fun a x=> !jn a x) fM h act out->(∀x∈act,x∈its)->act.length<=d.length->n9 s m its act out av ov->
  ac e 4= .arr 9 m 0 its.length its.length->ac e 50= .arr 9 m 0 its.length its.length->ac e 51= .int .i64 (its.length:Nat)->ac e 52= .int .i64 (d.length:Nat)->ac e 8=av->ac e 7=ov->W Q 224 (.loop NL) ⟨e,102,lc⟩ s K:=by
 intro h
 induction h with
 |nil=>
  intro d act out av ov e lc s h1 H ha c1 I h4 G w u h8 h7;have b7:d.length=its.length:=by rw[h1];simp
  refine bG ?_;simp only[go_sem,hP,hh,df,bP,ah,aB,bQ,ee,ey,eI,cK,ew,ep,reduceCtorEq,eR,NL,w,u,b7,cD];have H:F=out:=H;refine j _ _ _ ov (by simp only[sN,ah,bQ,h7]) ?_ I.mw;rw[H];exact I.out
 |cons a h ih=>
  intro d act out av ov e lc s h1 H ha c1 I h4 G w u h8 h7;have b6:d.length<its.length:=by rw[h1];simp
  have B:its[d.length]? =some a:=by rw[h1];simp
  have a4:=Ii I.it B;have b2:=dB (n:=d.length) (by omega);have b8:=I.act.ge;have na:qP a.2=true:=hn a (eP B);have d1:=I.mlt;obtain⟨z,U⟩:=ct (s.new (.cells [.int .i64 0,.int .i64 0,.int .i64 0,.int .i64 0,.int .i64 0,.int .i64 0,.int .i64 0,.int .i64 0,.int .i64 0]));have zn:z.aL=s.aL+1:=by rw[<-U];rfl
  have zg:z.get [] s.aL=some (.cells [.int .i64 0,.int .i64 0,.int .i64 0,.int .i64 0,.int .i64 0,.int .i64 0,.int .i64 0,.int .i64 0,.int .i64 0]):=by rw[<-U,fk,bS];rfl
  have zo: ∀n,n<s.aL->z.get [] n=s.get [] n:=fun n hn=>by rw[<-U,fk,bN.2 (by omega:n≠s.aL)];rfl
  have zm:z.gt<=z.aL:=by rw[<-U];exact cq I.mw
  have b4: ∀lc,KL lc z s.aL 0 (cX a) (z.get [] s.aL)=some (lc,z.put s.aL (some (.cells (jz a)))):=fun lc=>by rw[zg];rfl
  have J:n9 (z.put s.aL (some (.cells (jz a)))) m its act out av ov:=I.mono (fun n hn=>by rw[aX,bN.2 (by omega:n≠s.aL)];exact zo n hn) (by show s.aL<=z.aL;omega) (dh z _ _ zm);have Jb:(z.put s.aL (some (.cells (jz a)))).get [] s.aL=some (.cells (jz a)):=by rw[aX,bS];rfl
  have Jn:(z.put s.aL (some (.cells (jz a)))).aL=s.aL+1:=zn;have a6:j1 av≠some s.aL:=fun e=>by have:=I.act.lt _ e;omega
  have b5:j1 ov≠some s.aL:=fun e=>by have:=I.out.lt _ e;omega
  generalize hz1:z.put s.aL (some (.cells (jz a)))=z1 at*;have y:=b4;simp only[cX,jz] at a4 y;refine bG ?_;simp only[go_sem,hP,hh,df,bP,ah,aB,bQ,ee,ey,eI,cK,ew,ep,reduceCtorEq,eR,NL,G,w,u,h8,b6,ua,a4,U,y,aW,dn,b8,A];refine cG.ex (aeE hP hh hH A S a7 N a9 O J Jb a6) (by decide) ?_;rintro v s2 ⟨I2,c0,d0,Z,b3⟩;have a0:=I2.act.len;simp only[go_sem,hP,hh,df,bP,ah,aB,bQ,ee,ey,eI,cK,ew,ep,reduceCtorEq,eR,b3,a0];have d2:(act.filter fun x=> !jn a x).length<=act.length:=kT _ _;have d4:(out++(act.filter fun x=> !jn a x).filterMap (fM a)).length<=F.length:=by rw[H];exact aaH _ _ _
  refine aho hP hh a8 b0 (a:=a) (m:=m) (nb:=s.aL) (n52:=d.length) (n51:=its.length) (its:=its) (act:=act.filter fun x=> !jn a x) (av:=v) na (fun x j=>hn x (ha x (DX.1 j).1)) (by omega) (by rw[Z];exact a6) (out++(act.filter fun x=> !jn a x).filterMap (fM a)) (by omega) ?_ (act.filter fun x=> !jn a x) [] out ov _ _ s2 rfl rfl I2 c0 (by omega) b5 ?_ ?_ ?_ ?_ ?_ ?_ ?_ ?_ ?_ ?_
  ·intro e2 c9 s3 b1 g4 c4 c3 c2 g8 c5 g7 I3 a5 c8 c7
   obtain⟨s4,c6,a1,a2,a3⟩:=I3.appA (by omega) a;have Y:=I3.act.ge;simp only[jz] at a5;simp only[cX,jz] at a1;simp only[go_sem,hP,hh,df,bP,ah,aB,bQ,ee,ey,eI,cK,ew,ep,reduceCtorEq,eR,g8,c5,c2,a5,b2,Y,a3,aW,aY,a1,bj,bg,aZ,bf,evc];refine ih (d++[a]) ((act.filter fun x=> !jn a x)++[a]) _ c6 b1 _ _ _ (by rw[h1];simp) H ?_ ?_ a2 ?_ ?_ ?_ ?_ ?_ ?_;intro x j;rcases lj.1 j with j|j
   exact ha x (DX.1 j).1;rw[BB.1 j];exact eP B;rw[cJ,cJ];simp only[bH,bn];omega
   all_goals simp only[sN,ah,bQ,g4,c4,c3,g7,sA]
  all_goals simp only[sN,ah,bQ,h4,G,w,u,h7,bn]
  all_goals rfl
end
def Md{k:Nat}: ∀ {l:List aa},(∀v∈l,v.cells.length=k/\v= .agg v.cells)->bf true k l.length (aF l)=some l
 | [],_=>rfl
 |v::l,h=>by
  obtain⟨d,z⟩:=h v iL;have j:=Md (l:=l) fun x u=>h x (iE _ u);have y:cut (v.cells++aF l) 0 k=some v.cells:=by
   simp only[cut,nz,bD];rw[List.take_append_of_le_length (by omega),re (by omega),d];simp
  have w:(v.cells++aF l).drop k=aF l:=by rw[<-d,List.drop_left]
  show(bif true then(cut (v.cells++aF l) 0 k).bind fun e=>(bf true k l.length ((v.cells++aF l).drop k)).bind fun r=>some (.agg e::r) else _)=_;rw[y,w,j];show some (aa.agg v.cells::l)=_;rw[<-z]
def age{xs:List aa}(u: ∀v∈xs,v.cells.length=sz/\v= .agg v.cells)(A:aQ sz 1=false){k:Nat}(y: ∀v∈aF xs,cL s.heap k v=some v)(h:kW sz s v xs):cL s.heap (k+1) v=some (fI sz xs):=by
 rcases h with⟨rfl,rfl⟩|⟨d,n,rfl,j,_⟩
 rfl;have j:s.heap.get n=some (.cells (aF xs)):=j;have z:cut (aF xs) 0 (xs.length*sz)=some (aF xs):=by
  have:=oG (k:=sz) fun v w=>(u v w).1;simp only[cut,nz,bD];rw[re (by omega),this];simp
 have e:fI sz xs= .list sz xs .no:=by
  cases xs with
  |nil=>exact absurd rfl d
  |cons x xs=>rfl
 show(match s.heap.get n with
  |some (.cells cs)=>(cut cs 0 (xs.length*sz)).bind fun c=>(dL (cL s.heap k) c).bind fun B=>(bf (!aQ sz 1) sz xs.length B).bind fun xs=>some (aa.list sz xs .no)
  |_=>none)=_
 rw[j,e];simp only[z,au,yF y,A,Bool.not_false,Md u]
def BN:List aa->Option (List bT)
 | []=>some []
 |v::l=>(uR v).bind fun s=>(BN l).bind fun r=>some (s::r)
def Hv:aa->Option (List bT)
 | .AL=>some []
 | .list 4 xs _=>BN xs
 |_=>none
def Sr: ∀ {xs:List aa} {l:List bT},BN xs=some l->xs=l.map bX
 | [],l,h=>by injection h with h;subst h;rfl
 |v::xs,l,h=>by
  simp only[BN,ak,aJ] at h;obtain⟨s,e,r,d,rfl⟩:=h;rw[Ai e,Sr d];rfl
def Ss: ∀l:List bT,BN (l.map bX)=some l
 | []=>rfl
 |s::l=>by simp only[fy,BN,Hu,au,Ss l]
variable{l:List bT}
def acU(h:Hv v=some l):ay 4 bX v l/\d8 v=true/\ay 4 bX (de v) l:=by
 unfold Hv at h;split at h;injection h with h;subst h
 exact⟨.inl ⟨rfl,rfl⟩,rfl,.inl ⟨rfl,rfl⟩⟩;rename_i xs r
 have:=Sr h;subst this;have d:ay 4 bX (.list 4 (l.map bX) r) l:=.inr ⟨r,rfl⟩;exact⟨d,pU aqu d⟩;cases h
def acV(h:ay 4 bX v l):Hv v=some l:=by
 rcases h with⟨rfl,rfl⟩|⟨r,rfl⟩
 rfl;exact Ss l
def FL(l:List Mt):aa:=fI 3 (l.map im)
def Ae:Sp
 | [u]=>(Hv u).bind fun l=>bif decide (l.length<=1000)&&l.all qP then some (.tup [FL (ie l),.int .i64 0]) else none
 |_=>none
def acF(h:ay 4 bX v l)(e:l.length<=1000)(d: ∀x∈l,qP x=true):Ae [v]=some (.tup [FL (ie l),.int .i64 0]):=by
 simp only[adz,Ae,acV h,e,dT,eH,f8.2 d]
def lu:dX:=[(303,A4),(308,Ak),(225,lD)]
def aci:dR lu:=.cons anI (.cons adg (.cons OS .nil))
noncomputable def lw:sV:=[(304,Qf),(309,Qh)]
def aco:sW lw:=.cons aqX (.cons aq0 .nil)
def amL(h:Nat)(hh:h<=1000)(s:St):ow ae 363 (.int .i64 (h:Nat)) (.int .i64 (h:Nat)) true s=some (.arr 9 s.aL 0 h h,s.new (.cells (aF ((iy h Bw).map cX)))):=by
 have j:bw h h=true:=cP (br _);have e:bw (h*72) 1099511627776=true:=cP (by omega);have d:bw h 1099511627776=true:=cP (by omega);simp only[adz,ow,ua,oz,j,e,d,fp,gN,cw,cF,gD,abz]
def ahy(h:(cX a).cells=(cX b).cells):a=b:=by
 have d:x6 (cX a)=x6 (cX b):=by
  have:cX a=cX b:=by show aa.agg (cX a).cells=aa.agg (cX b).cells;rw[h]
  rw[this]
 rw[LL,LL] at d;exact sI d
def amN{a b:Mt}(h:(im a).cells=(im b).cells):a=b:=by
 have d:Af (im a)=Af (im b):=by
  have:im a=im b:=by show aa.agg (im a).cells=aa.agg (im b).cells;rw[h]
  rw[this]
 rw[LM,LM] at d;exact sI d
def acI(ch:Nat->Nat)(O:ay 4 bX sv segs)(d:segs.length<=1000)(hn: ∀x∈segs,qP x=true): ∃v s',aq (QW lu lw ch) 224 [sv] s0 v s'/\fY s'.heap v (.tup [FL (ie segs),.int .i64 0]):=by
 have hP:(QW lu lw ch).P=ae:=rfl;have hh:(QW lu lw ch).hint=ai:=rfl;have hH: ∀f,(QW lu lw ch).specH f=none:=fun _=>rfl;have e1:(QW lu lw ch).spec 303=some A4:=rfl;have e2:(QW lu lw ch).spec 308=some Ak:=rfl;have e3:(QW lu lw ch).spec 225=some lD:=rfl;have e4:(QW lu lw ch).spec 304=none:=rfl;have e5:(QW lu lw ch).spec 309=none:=rfl;have e6:(QW lu lw ch).specW 304=some Qf:=rfl;have e7:(QW lu lw ch).specW 309=some Qh:=rfl;have e8:(QW lu lw ch).spec 306=none:=rfl;have e9:(QW lu lw ch).specW 306=none:=rfl;have b1:(QW lu lw ch).spec 418=none:=rfl;have b0:(QW lu lw ch).specW 418=none:=rfl;have a9:(QW lu lw ch).spec 307=none:=rfl;have a8:(QW lu lw ch).specW 307=none:=rfl;have a7:(QW lu lw ch).spec 224=none:=rfl;have a6:(QW lu lw ch).specW 224=none:=rfl;generalize QW lu lw ch=Q at*;have a1:=O.lenS zF;have a3:bc 20000 ((segs.length:Nat):Int)=false:=by simp only[bc,decide_eq_false_iff_not];omega
 have a4:=O.ge;have Z:=amL segs.length d s0;have a2:=ahw d;have N:(zG segs).length=segs.length:=by rw[(Qo segs).length_eq,wX]
 have B:=wX segs 0;refine aq.ofWZ hP hH aiJ a7 a6 ?_;refine co ?_;simp only[go_sem,hP,hh,seval,a1,a3,a4,Py,Z,iU];refine ahv hP hh e1 O d (m:=s0.aL) (s0:=s0.new (.cells (aF ((iy segs.length Bw).map cX)))) ?_ segs [] _ _ _ rfl (.refl (by show s0.gt<=s0.aL+1;decide)) (by rw[fk,bS];rfl) ?_ ?_ ?_ ?_
 ·intro e lc H h4 hb hm
  simp only[go_sem,hP,hh,seval,h4,iU,e4];have hg:(bif aQ (aF ((kK 0 segs).map cX)).length (segs.length*9) then xG cX yj (0,((0,0),(0,0))) FV (aF ((kK 0 segs).map cX)) else none)=some (aF ((zG segs).map cX)):=by
   have h1:(aF ((kK 0 segs).map cX)).length=segs.length*9:=by rw[oG wY,ce,B]
   rw[h1,bD,bS,cT,xG,HQ (k:=9) (fun _=>rfl) (by decide) (fun a b=>ahy)];simp only[adz,a2];rfl
  refine cG.of (aq.specWp (n:=s0.aL) (cs':=aF ((zG segs).map cX)) e4 (hH _) e6 rfl hm hg) (by decide) ?_;have Y:=dh H s0.aL (some (.cells (aF ((zG segs).map cX)))) hb.mw;have b3:H.aL=s0.aL+1:=hb.aL;simp only[go_sem,hP,hh,seval,h4,FA,iU];refine amq hP hh hH e8 e9 b1 b0 a9 a8 e2 e3 (m:=s0.aL) (its:=zG segs) (F:=tt segs) ?_ (by omega) ?_ ?_ (zG segs) [] [] [] .AL .AL _ _ _ rfl rfl (fun _ h=>by cases h) (br _) ⟨by rw[aX,bS];rfl,by show s0.aL<H.aL;omega,.inl ⟨rfl,rfl⟩,.inl ⟨rfl,rfl⟩,fun e=>(by cases e),fun e=>(by cases e),fun _ h=>(by cases h),Y⟩ ?_ ?_ ?_ ?_ ?_ ?_;intro x J;have J:=(Qo segs).mem_iff.1 J;have: ∀(l:List bT) (i:Nat),x∈kK i l->x.2∈l:=by
   intro l
   induction l with
   |nil=>intro i h;cases h
   |cons y l I=>
    intro i h;rcases fc.1 h with rfl|h
    exact iL;exact iE _ (I _ h)
  exact hn _ (this _ _ J);rw[(Co segs).length_eq]
  have:=Gc (F:=fM) (kK 0 segs);rw[B] at this;have:segs.length*segs.length<=1000*1000:=rf d d;unfold ie;omega;intro e2 b2 s2 ov h7 hR b4;have U:=af5 d;have A:=hR.ge;have j: ∃w,aq Q 309 [ov,.func (.func 310) [] []] s2 (.tup []) w/\kW 3 w ov ((ie segs).map im):=by
   rcases hR with⟨rfl,G⟩|⟨G,k,rfl,hk,a0⟩
   refine⟨s2,aq.specW0 e5 (hH _) e7 rfl,.inl ⟨rfl,?_⟩⟩;have G:=xT.1 G
   have:=Co segs;rw[G] at this;rw[<-List.Perm.nil_eq this];rfl;have u:(ie segs).length=(tt segs).length:=(Co segs).length_eq.symm;have hg:(bif aQ (aF ((tt segs).map im)).length (((tt segs).map im).length*3) then xG im th (0,0,0) FW (aF ((tt segs).map im)) else none)=some (aF ((ie segs).map im)):=by
    have h1:(aF ((tt segs).map im)).length=((tt segs).map im).length*3:=oG fun v z=>by
     obtain⟨a,_,rfl⟩:=dy.1 z;rfl
    rw[h1,bD,bS,cT,xG,HQ (k:=3) (fun _=>rfl) (by decide) (fun a b=>amN)];simp only[adz,U];exact congrArg (fun x=>some (aF (x.map im))) (af6 segs)
   refine⟨_,aq.specWp (n:=k) (cs':=aF ((ie segs).map im)) e5 (hH _) e7 rfl hk hg,.inr ⟨?_,k,?_,?_,a0⟩⟩;intro hc;have hc:=xT.1 hc;rw[hc] at u;exact G (by rw[List.eq_nil_of_length_eq_zero u.symm];rfl);rw[ce,ce,u];rw[aX,bS];rfl
  obtain⟨w,S,a5⟩:=j;simp only[go_sem,hP,hh,seval,h7,A,e5];refine cG.of S (by decide) ?_;simp only[go_sem,hP,hh,seval,h7,A];refine⟨_,rfl,3,?_⟩;have hf:=age (sz:=3) (k:=1) (fun v z=>by obtain⟨a,_,rfl⟩:=dy.1 z;exact⟨rfl,rfl⟩) rfl (fun v z=>?_) a5;show(dL (cL w.heap 2) [ov,.int .i64 0]).bind (fun r=>some (aa.tup r))=_;simp only[dL,hf,au];rfl;have: ∀l:List Mt,v∈aF (l.map im)->cL w.heap 1 v=some v:=by
   intro l
   induction l with
   |nil=>intro h;cases h
   |cons a l I=>
    intro h;rw[fy,aF,lj] at h;rcases h with h|h
    simp only[im,gD,fc,zT,or_false] at h;rcases h with rfl|rfl|rfl<;>rfl
    exact I h
  exact this _ z
  all_goals simp only[sN,seval,h4,N,bn]
  all_goals rfl
 all_goals simp only[sN,seval,bn]
 all_goals rfl
def acG:db ae 224 Ae:=by
 intro args x d G y w xs j u;unfold Ae at d;split at d;simp only[ak] at d;obtain⟨l,B,h⟩:=d;obtain⟨e,h⟩:=bh h;simp only[bu,dE] at e;have h:=sI h;subst h;obtain⟨_,A,z⟩:=acU B;refine j9 aci aco (by simp only[eO,A,cw]) (fun F=>?_) G y w xs j u;exact acI F z e.1 (f8.1 e.2);cases d
def kJ{α:Type}(p:α->Bool):List α->Nat->Int
 | [],_=> -1
 |x::l,i=>bif p x then(i:Int) else kJ p l (i+1)
def EG{α:Type}(p:α->Bool): ∀(l:List α) (i:Nat),cr 0 (kJ p l i)=l.any p
 | [],_=>rfl
 |x::l,i=>by
  simp only[kJ,List.any_cons];cases p x with
  |true=>simp[cr]
  |false=>exact EG p l (i+1)
variable{lc:Ag.Loc}{g:FuncId}{cap:List aa}{l:List ag}{p:ag->Bool}
section
variable{Q:aH}(hP:Q.P=ae)(hh:Q.hint=ai)(hH: ∀f,Q.specH f=none)
include hP hh
theorem ahd(Y:ay 1 aG sv l)(O:l.length<=1000000)(I:Q.spec g=none)(hg: ∀x∈l,aq Q g (.str x::cap) s (.bool (p x)) s){r:Int}(U: ∀e,r= -1->K (.exit 0) ⟨e,19,lc⟩ s)(Z: ∀e,ac e 4= .int .i64 r->K .ret ⟨e,19,lc⟩ s):
 ∀(h d:List ag) (e:ax),l=d++h->r=kJ p h d.length->ac e 0=sv->ac e 1= .func (.func g) [] cap->ac e 7= .int .i64 (l.length:Nat)->ac e 8= .int .i64 (d.length:Nat)->W Q 261 (.loop IU) ⟨e,19,lc⟩ s K:=by
 intro h
 induction h with
 |nil=>
  intro d e y A N J z w;have G:d.length=l.length:=by rw[y];simp
  refine bG ?_;simp only[go_sem,hP,hh,seval,IU,z,w,G,cD];exact U _ A
 |cons x h S=>
  intro d e y A N J z w;have F:d.length<l.length:=by rw[y];simp
  have u:l[d.length]? =some x:=by rw[y];simp
  have H:=fun lc k=>Y.at cH.2.2.1 u lc k;have B:=dB (n:=d.length) (by omega);have j:=hg x (eP u);have e1:([]:List aa)++([aa.str x]++cap)= .str x::cap:=rfl;refine bG ?_;simp only[go_sem,hP,hh,seval,IU,N,J,z,w,F,H,aG,I];refine cG.of j (by decide) ?_;cases hd:p x with
  |true=>
   simp only[go_sem,hP,hh,seval];exact Z _ (by simp only[sN,seval,w,A,kJ,hd])
  |false=>
   simp only[go_sem,hP,hh,seval,w,B];refine S (d++[x]) _ (by rw[y];simp) (by rw[A];simp only[kJ,hd,cF,sA]) ?_ ?_ ?_ ?_
   all_goals simp only[sN,seval,N,J,z,sA]
include hH
theorem ahe(j:Q.spec 261=none)(d:Q.specW 261=none)(u:ay 1 aG sv l)(h:l.length<=1000000)(y:Q.spec g=none)(B: ∀x∈l,aq Q g (.str x::cap) s (.bool (p x)) s):aq Q 261 [sv,.func (.func g) [] cap] s (cd (kJ p l 0)) s:=by
 have w:=u.lenS cH;have z:=u.ge;refine aq.ofZ hP hH Fd j d rfl ?_;refine co ?_;simp only[go_sem,hP,hh,seval,w,z];refine ahd hP hh u h y B (r:=kJ p l 0) ?_ ?_ l [] _ rfl rfl (by simp only[sG,seval, *]) (by simp only[sG,seval, *]) (by simp only[sG,seval, *]) (by simp only[sN,seval];rfl);intro e A;simp only[go_sem,hP,hh,seval,A];rfl;intro e F;simp only[go_sem,hP,hh,seval,F];rfl
theorem M7(d:Q.spec 261=none)(e:Q.specW 261=none)(u:Q.spec 167=none)(h:Q.specW 167=none)(z:ay 1 aG sv l)(j:l.length<=1000000)(w:Q.spec g=none)(A: ∀x∈l,aq Q g (.str x::cap) s (.bool (p x)) s):aq Q 167 [sv,.func (.func g) [] cap] s (.bool (l.any p)) s:=by
 have y:=z.ge;refine aq.ofZ hP hH EZ u h rfl ?_;refine co ?_;simp only[go_sem,hP,hh,seval,y,d];refine cG.of (ahe hP hh hH d e z j w A) (by decide) ?_;simp only[go_sem,hP,hh,seval,cd,kE,EG]
end
def jA:BI ae 9 aa.str where
 eq a b:=by
  rw[ME];by_cases h:a=b;subst h;simp;simp[h]
 same a:=by simp[tI,xF]
 ge _:=rfl
def i9:Nat->List Obj->List (ag×aa)
 |_,[]=>[]
 |i,o::l=>(o.id,.int .i64 ((i:Nat):Int))::i9 (i+1) l
def Vk: ∀(l:List Obj) (i:Nat) (o:Obj),i9 i (l++[o])=i9 i l++[(o.id,.int .i64 ((i+l.length:Nat):Int))]
 | [],_,_=>rfl
 |x::l,i,o=>by
  rw[lY,i9,Vk l,i9,bH,show i+1+l.length=i+(l.length+1) by omega];rfl
def pT(k:ag):List Obj->Option Nat
 | []=>none
 |o::l=>bif k==o.id then some 0 else(pT k l).map (· +1)
def Nd(k:ag): ∀l:List Obj,dP k l=(pT k l).bind fun i=>l[i]?
 | []=>rfl
 |o::l=>by
  simp only[dP,pT];cases h:k==o.id with
  |true=>rfl
  |false=>
   simp only[cF,Nd k l];cases pT k l<;>rfl
def FD(k:ag): ∀(l:List Obj) (i:Nat),cI k (i9 i l)=(pT k l).map fun j=>aa.int .i64 ((i+j:Nat):Int)
 | [],_=>rfl
 |o::l,i=>by
  simp only[i9,cI,pT];by_cases h:k=o.id;subst h;simp;have:(k==o.id)=false:=by simpa using h
  rw[iN h,this,FD k l];simp only[cF];cases pT k l with
  |none=>rfl
  |some j=>simp only[kn];rw[show i+1+j=i+(j+1) by omega]
def Vh{k:ag}: ∀ {l:List Obj},k ∉ l.map Obj.id->pT k l=none
 | [],_=>rfl
 |o::l,h=>by
  have j:(k==o.id)=false:=by
   simp only[fy,fc,not_or] at h;simpa using h.1
  have d:=Vh (k:=k) (l:=l) fun e=>h (by rw[fy];exact iE _ e);simp only[pT,j,cF,d,sF]
def OD(k:ag):lP ae 127 (.str k)=some (9,3):=by kernel_rfl
variable{l:List Obj}
section
variable{Q:aH}(hP:Q.P=ae)(hh:Q.hint=ai)(hH: ∀f,Q.specH f=none)
include hP hh
theorem anJ(ho:ay 6 Obj.val ov l)(hl:l.length<=1000000)(z:(l.map Obj.id).Nodup){s0:St}{x2:List aa}(hx: ∀e lc s,ac e 4= .Ge 4 1 0->ac e 2= .Ge 2 1 0->lc.gen 2=1->lc.get 2 1=some x2->lc.get 4 1=some [ov,.map m]->eL m s0 s->bR aa.str s m (i9 0 l)->K (.exit 0) ⟨e,29,lc⟩ s):
 ∀(h d:List Obj) (e:ax) (lc:Ag.Loc) (s:St),l=d++h->eL m s0 s->bR aa.str s m (i9 0 d)->
  ac e 4= .Ge 4 1 0->ac e 2= .Ge 2 1 0->lc.gen 2=1->lc.get 2 1=some x2->lc.gen 4=1->lc.get 4 1=some [ov,.map m]->ac e 15=ov->ac e 16= .int .i64 (l.length:Nat)->ac e 17= .int .i64 (d.length:Nat)->W Q 126 (.loop Nq) ⟨e,29,lc⟩ s K:=by
 intro h
 induction h with
 |nil=>
  intro d e lc s x Y N F h2 g2 G g4 B w j u;have S:d.length=l.length:=by rw[x];simp
  have I:d=l:=by rw[x];simp
  refine bG ?_;simp only[go_sem,hP,hh,seval,Nq,j,u,S,cD];exact hx _ _ _ (by simp only[sN,seval,F]) (by simp only[sN,seval,h2]) g2 G B Y (by rw[<-I];exact N)
 |cons o h ih=>
  intro d e lc s x Y N F h2 g2 G g4 B w j u;have O:d.length<l.length:=by rw[x];simp
  have Z:l[d.length]? =some o:=by rw[x];simp
  have U:=fun lc k=>ho.at gX.2.2.1 Z lc k;have H:=dB (n:=d.length) (by omega);have J:cI o.id (i9 0 d)=none:=by
   rw[FD,Vh,sF];intro hc;rw[x,ff] at z;exact(List.nodup_append.1 z).2.2 _ hc o.id (by simp) rfl
  have y:=vU jA OD N o.id (.int .i64 ((d.length:Nat):Int));have A:fe o.id (.int .i64 ((d.length:Nat):Int)) (i9 0 d)=i9 0 (d++[o]):=by
   rw[vj J,Vk,bV]
  rw[A] at y;refine bG ?_;simp only[go_sem,hP,hh,seval,Nq,F,w,j,u,O,U,H,g4,B,Obj.val,Obj.cells,y];refine ih (d++[o]) _ _ _ (by rw[x];simp) (Y.put _) bR.put ?_ ?_ ?_ ?_ ?_ ?_ ?_ ?_ ?_
  all_goals simp only[abc,dj,cY,ah,F,h2,g2,G,g4,B,w,j,sA]
include hH
theorem anE(z:Q.spec 31=some jK)(u:Q.spec 126=none)(d:Q.specW 126=none)(h:ay 6 Obj.val ov l)(N: ∀o∈l,o.Al)(J:l.length<=1000000)(x:(l.map Obj.id).Nodup)(G:dD l=true)(I:s.gt<=s.aL):
 ∃v s',aq Q 126 [.agg [ov]] s v s'/\(v= .tup [.agg [ov,.map s.aL],.bool true]/\bR aa.str s' s.aL (i9 0 l)/\eL s.aL (s.new (.map [] 0)) s'):=by
 have H:=ajJ;have y:=h.lenS gX;have j:=h.ge;have w:=h.scal;have A:=A0 h N (by omega);rw[G] at A;refine aq.ofWZ hP hH ahE u d ?_;refine co ?_;simp only[go_sem,hP,hh,seval,y,j,w,z,A,m7,wJ,bj,bg,aZ,bf,evc];refine anJ hP hh h J x (m:=s.aL) (s0:=s.new (.map [] 0)) (x2:=[.AL,.nilm]) ?_ l [] _ _ _ rfl (.refl (cq I)) ?_ ?_ ?_ ?_ ?_ ?_ ?_ ?_ ?_ ?_;intro e lc s1 U Y Z F B O S;simp only[go_sem,hP,hh,seval,U,Y,Z,F,B,j];exact⟨_,rfl,rfl,S,O⟩;show(s.new _).get [] s.aL=_;rw[fk,bS];rfl
 all_goals simp only[abc,dj,cY,gw,ah,bQ,bn]
 all_goals rfl
end
variable{q:Obj}{k:ag}
def Yi(h:dP k l=some q): ∃i,pT k l=some i/\l[i]? =some q:=by
 rw[Nd,ak] at h;exact h
def ag6: ∀ {l:List Obj},pT k l=some i->i<l.length:=by
 intro l
 induction l generalizing i with
 |nil=>intro h;cases h
 |cons o l d=>
  intro h;simp only[pT] at h;cases hk:k==o.id with
  |true=>rw[hk] at h;injection h with h;subst h;simp
  |false=>
   rw[hk] at h;simp only[cF,uH] at h;obtain⟨j,e,rfl⟩:=h
   have:=d e;simp only[bH];omega
def BK{α:Type}(p:α->Bool): ∀l:List α,(!(l.any fun x=> !p x))=l.all p
 | []=>rfl
 |x::l=>by
  simp only[List.any_cons,ju,Bool.not_or,Bool.not_not,BK p l]
variable{o:Obj}
section
variable{Q:aH}(hP:Q.P=ae)(hh:Q.hint=ai)(hH: ∀f,Q.specH f=none)
include hP hh hH
theorem PF(j:Q.spec 129=none)(e:Q.specW 129=none)(z:ay 6 Obj.val ov l)(G:bR aa.str s n (i9 0 l)){id:ag}(F:dP id l=some q):aq Q 129 [.agg [ov,.map n],.str id] s (aU (q.x,q.y)) s:=by
 obtain⟨i,I,H⟩:=Yi F;have A:=fun lc k=>z.at gX.2.2.1 H lc k;have d:=tK jA OD KX G id;rw[FD,I] at d;simp only[kn,Option.getD_some,bV] at d;have B:=z.ge;have w:=z.scal;have u: ∃v s',aq Q 129 [.agg [ov,.map n],.str id] s v s'/\(v=aU (q.x,q.y)/\s'=s):=by
  refine aq.ofWZ hP hH ahJ j e ?_;refine co ?_;simp only[go_sem,hP,hh,seval,B,w,d,A,Obj.val,Obj.cells];exact⟨_,rfl,rfl⟩
 obtain⟨v,s',h,rfl,rfl⟩:=u;exact h
theorem am3(h:Q.spec 301=none)(e:Q.specW 301=none)(y:ay 6 Obj.val ov l){k:Nat}(A:bR aa.str s n (i9 0 l))(z:s.get [] k=some (.cells [ov,.map n]))(id:ag):aq Q 301 [.str id,.ptr k 0] s (.bool (!ei l id)) s:=by
 have d:=yW jA OD KX A id;have x:=y.ge;refine aq.ofZ hP hH ajN h e rfl ?_;refine co ?_;cases hq:dP id l with
 |none=>
  have j:pT id l=none:=by
   cases j:pT id l with
   |none=>rfl
   |some i=>
    have:=ag6 j;rw[Nd,j,au,gn this] at hq;cases hq
  have u:ei l id=false:=by simp only[ei,pV,hq];rfl
  rw[FD,j] at d;simp only[sF,oB] at d;simp only[go_sem,hP,hh,seval,z,aW,aY,d,u,fh,iw,jO]
 |some q=>
  obtain⟨i,F,B⟩:=Yi hq;have w:=fun lc k=>y.at gX.2.2.1 B lc k;have u:ei l id=an q.uP 1:=by simp only[ei,pV,hq]
  rw[FD,F] at d;simp only[kn,oB,bV] at d;simp only[go_sem,hP,hh,seval,z,aW,aY,d,u,w,x,fh,iw,jO,Obj.val,Obj.cells]
theorem anj(A:Q.spec 219=none)(u:Q.specW 219=none)(d:Q.spec 301=none)(h:Q.specW 301=none)(z:Q.spec 261=none)(j:Q.specW 261=none)(e:Q.spec 167=none)(w:Q.specW 167=none)(F:ay 6 Obj.val ov l)(Y:bR aa.str s n (i9 0 l))(S:n<s.aL)(go:o.Al)(O:o.gE.length<=1000000):
 aq Q 219 [.agg [ov,.map n],o.val] s (.bool (o.gE.all (ei l))) (s.new (.cells [ov,.map n])):=by
 have G:=F.ge;have B:=F.scal;have H:bR aa.str (s.new (.cells [ov,.map n])) n (i9 0 l):=by
  show(s.new _).get [] n=_;rw[fk,bN.2 (by omega:n≠s.aL)];exact Y
 have U:(s.new (.cells [ov,.map n])).get [] s.aL=some (.cells [ov,.map n]):=by rw[fk,bS];rfl
 have y:=M7 hP hh hH z j e w go.gE O d (s:=s.new (.cells [ov,.map n])) (cap:=[.ptr s.aL 0]) (p:=fun x=> !ei l x) fun x _=>am3 hP hh hH d h F H U x;have N:=go.gE.ge;have J:=go.gT.ge;have rs:=go.gE.scal;have I:=go.gT.scal;refine aq.ofZ hP hH aiE A u rfl ?_;refine co ?_;simp only[go_sem,hP,hh,seval,G,B,N,J,rs,I,Obj.val,Obj.cells,e];refine cG.of y (by decide) ?_;simp only[go_sem,hP,hh,seval,BK]
end
variable{l:List ag}
section
variable{Q:aH}(hP:Q.P=ae)(hh:Q.hint=ai)(hH: ∀f,Q.specH f=none)
include hP hh
theorem ag7(O:l.length<=1000000)(Z: ∀(i:Nat) (y:ag),l[i]? =some y-> ∃a,(∀lc,ja ae lc 25 sv (.int .i64 (i:Nat))=some a)/\ ∀lc,mr ae [] 9 a lc s=some (.str y)){x:ag}{r:Int}(U: ∀e,r= -1->K (.exit 0) ⟨e,19,lc⟩ s)(Y: ∀e,ac e 4= .int .i64 r->K .ret ⟨e,19,lc⟩ s):
 ∀(h d:List ag) (e:ax),l=d++h->r=kJ (fun y=>x==y) h d.length->ac e 0=sv->ac e 1= .str x->ac e 7= .int .i64 (l.length:Nat)->ac e 8= .int .i64 (d.length:Nat)->W Q 223 (.loop IM) ⟨e,19,lc⟩ s K:=by
 intro h
 induction h with
 |nil=>
  intro d e B G H F A z;have J:d.length=l.length:=by rw[B];simp
  refine bG ?_;simp only[go_sem,hP,hh,seval,IM,A,z,J,cD];exact U _ G
 |cons y h S=>
  intro d e B G H F A z;have j:d.length<l.length:=by rw[B];simp
  have N:l[d.length]? =some y:=by rw[B];simp
  obtain⟨a,w,u⟩:=Z _ _ N;have I:=dB (n:=d.length) (by omega);refine bG ?_;cases hd:x==y with
  |true=>
   simp only[go_sem,hP,hh,seval,IM,H,F,A,z,j,w,u,hd];exact Y _ (by simp only[sN,seval,z,G,kJ,hd])
  |false=>
   simp only[go_sem,hP,hh,seval,IM,H,F,A,z,j,w,u,hd,I];refine S (d++[y]) _ (by rw[B];simp) (by rw[G];simp only[kJ,hd,cF,sA]) ?_ ?_ ?_ ?_
   all_goals simp only[sN,seval,H,F,A,sA]
include hH
theorem TI(d:Q.spec 223=none)(h:Q.specW 223=none)(z:Q.spec 130=none)(j:Q.specW 130=none)(u:l.length<=1000000)(w:sv.ge=true)(A: ∀B,jo ae B 25 sv s=some (.int .i64 (l.length:Nat)))(G: ∀(i:Nat) (y:ag),l[i]? =some y-> ∃a,(∀lc,ja ae lc 25 sv (.int .i64 (i:Nat))=some a)/\ ∀lc,mr ae [] 9 a lc s=some (.str y))(x:ag):aq Q 130 [sv,.str x] s (.bool (l.contains x)) s:=by
 have J:aq Q 223 [sv,.str x] s (cd (kJ (fun y=>x==y) l 0)) s:=by
  refine aq.ofZ hP hH aiI d h rfl ?_;refine co ?_;simp only[go_sem,hP,hh,seval,A,w];refine ag7 hP hh u G (x:=x) (r:=kJ (fun y=>x==y) l 0) ?_ ?_ l [] _ rfl rfl (by simp only[sG,seval, *]) (by simp only[sG,seval, *]) (by simp only[sG,seval, *]) (by simp only[sN,seval];rfl);intro e F;simp only[go_sem,hP,hh,seval,F];rfl;intro e H;simp only[go_sem,hP,hh,seval,H];rfl
 have I:l.any (fun y=>x==y)=l.contains x:=by
  rw[List.contains_eq_any_beq]
 refine aq.ofZ hP hH ahL z j rfl ?_;refine co ?_;simp only[go_sem,hP,hh,seval,w,d];refine cG.of J (by decide) ?_;simp only[go_sem,hP,hh,seval,cd,kE,EG,I]
theorem Ms(j:Q.spec 223=none)(d:Q.specW 223=none)(u:Q.spec 130=none)(e:Q.specW 130=none)(w:ay 1 aG sv l)(h:l.length<=1000000)(x:ag)(s:St):aq Q 130 [sv,.str x] s (.bool (l.contains x)) s:=
 TI hP hh hH j d u e h w.ge (fun z=>w.lenS cH z s) (fun i y A=>⟨_,fun lc=>w.at cH.2.2.1 A lc .i64,fun lc=>by rw[mZ,iB];rfl⟩) x
theorem TG(j:Q.spec 223=none)(d:Q.specW 223=none)(u:Q.spec 130=none)(e:Q.specW 130=none){off len cap:Nat}{cs:List aa}(B:s.get [] m=some (.cells cs))(w:l.length=len)(F: ∀(i:Nat) (y:ag),l[i]? =some y->cs[off+i]? =some (.str y))(h:l.length<=1000000)(x:ag):aq Q 130 [.arr 1 m off len cap,.str x] s (.bool (l.contains x)) s:=by
 refine TI hP hh hH j d u e h rfl (fun A=>?_) (fun i y z=>⟨.ptr m (off+i*1),fun lc=>?_,fun lc=>?_⟩) x;rw[w];exact yQ A 1 m off len cap s;have:i<len:=by rw[<-w];exact(nY.1 z).1
 have G:bm i len=true:=cP this;rw[cH.2.2.2.1];simp only[afo,oz,au,G,cw];rw[aW,B,aY,iB,Nat.mul_one]
 have:=F i y z;rw[List.head?_drop,this]
end
def pP:Sp
 | [v,.str x]=>(eX 1 jl v).bind fun l=>bif decide (l.length<=1000000) then some (.bool (l.contains x)) else none
 |_=>none
def Mu(h:ay 1 aG v l)(d:l.length<=1000000)(x:ag):pP [v,.str x]=some (.bool (l.contains x)):=by
 simp only[adz,pP,mX oc h,d,dT]
def TH:db ae 130 pP:=by
 intro args u d G z w xs j x;unfold pP at d;split at d;simp only[ak] at d;obtain⟨l,F,h⟩:=d;obtain⟨e,h⟩:=bh h;simp only[dE] at e;have h:=sI h;subst h;have y:=kr (fun _ _ h=>pM h) F;obtain⟨B,A⟩:=pU vQ y;refine j9 (T:=[]) (W:=[]) .nil .nil (by simp only[eO,B,d8,bL,cw]) (fun H=>?_) G z w xs j x;exact⟨_,_,Ms rfl rfl (fun _=>rfl) rfl rfl rfl rfl A e _ _,⟨1,rfl⟩⟩;cases d
abbrev CK:=ag×ag
def jw(k:CK):aa:=.agg [.str k.1,.str k.2]
def TY(a b c d:ag):kI ae 8 196 (.agg [.str a,.str b]) (.agg [.str c,.str d])=some (wK (a,b) (c,d)):=by
 have h:kI ae 8 196 (.agg [.str a,.str b]) (.agg [.str c,.str d])=(some (a==c)).bind fun r=>bif r then(some (b==d)).bind fun r=>bif r then some true else some false else some false:=by kernel_rfl
 rw[h];unfold wK;cases a==c<;>cases b==d<;>rfl
def OA:BI ae 196 jw where
 eq a b:=by
  have h:=TY a.1 a.2 b.1 b.2;have e:jw a= .agg [.str a.1,.str a.2]:=rfl;have d:jw b= .agg [.str b.1,.str b.2]:=rfl;rw[e,d,h];by_cases hab:a=b;rw[dQ hab,(Tb a b).2 hab];rw[dN hab];cases hc:wK a b with
  |true=>exact absurd ((Tb a b).1 hc) hab
  |false=>rfl
 same a:=by simp[jw,tI,wI,xF]
 ge _:=rfl
def Xc(k:CK):lP ae 279 (jw k)=some (196,25):=by kernel_rfl
def jk(id:ag)(d:List CK×(CK->List ag))(k:CK):List CK×(CK->List ag):=bif(d.2 k).contains id then d else(fq k d.1,lH d.2 k (d.2 k++[id]))
abbrev Aa:=sO jw aG
def P5(d:o.uP=2):(kP o).length=o.gE.length-1:=by
 have:an o.uP 3=false:=by rw[d];rfl
 simp only[kP,this,cF,kC,ce,List.length_zip,xS];omega
def aai(d:o.uP=3):(kP o).length=o.gE.length:=by
 have:an o.uP 3=true:=by rw[d];rfl
 simp only[kP,this,cT,ce,List.length_zip,cJ,xS,List.length_take];omega
def aqB(u:o.uP=2\/o.uP=3)(y:i<o.gE.length)(j: ¬(i+1=o.gE.length/\o.uP=2)){a b:ag}(w:o.gE[i]? =some a)(d:o.gE[(i+1) % o.gE.length]? =some b):(kP o)[i]? =some (fu a b):=by
 have e:(o.gE.zip (o.gE.tail++(bif an o.uP 3 then o.gE.take 1 else [])))[i]? =some (a,b):=by
  rw[List.getElem?_zip_eq_some];refine⟨w,?_⟩;by_cases hlast:i+1=o.gE.length;have x:o.uP=3:=u.resolve_left fun h=>j ⟨hlast,h⟩;have:an o.uP 3=true:=by rw[x];rfl
  rw[hlast,Nat.mod_self] at d;rw[this,cT,List.getElem?_append_right (by rw[xS];omega),xS,show i-(o.gE.length-1)=0 by omega,G6,iP (by omega)];exact d;rw[Nat.mod_eq_of_lt (by omega)] at d;rw[List.getElem?_append_left (by rw[xS];omega),List.getElem?_tail];exact d
 simp only[kP,jf,e,kn]
def TP{α:Type}{l:List α}{a:α}(h:l[i]? =some a):l.drop i=a::l.drop (i+1):=by
 have d:i<l.length:=(nY.1 h).1;rw[List.drop_eq_getElem_cons d,(nY.1 h).2]
def ZN{a b:Nat}(h:0<b):eB ae .rem 3 (.int .i64 ((a:Nat):Int)) (.int .i64 ((b:Nat):Int))=some (.int .i64 ((a % b:Nat):Int)):=by
 have d:an ((b:Nat):Int) 0=false:=by simp only[an,bN];omega
 show(bif an ((b:Nat):Int) 0 then none else some (aa.int .i64 (((a:Nat):Int).tmod ((b:Nat):Int))))=_;rw[d,cF,Int.ofNat_tmod]
section
variable{Q:aH}(hP:Q.P=ae)(hh:Q.hint=ai)(hH: ∀f,Q.specH f=none)
include hP hh hH
theorem amo(N:Q.spec 130=none)(b5:Q.specW 130=none)(b8:Q.spec 223=none)(b4:Q.specW 223=none)(go:o.Al)(hk:o.uP=2\/o.uP=3)(hr:o.gE.length<=1000){lo x:Nat}{s0:St}{KE:List CK}{VE:CK->List ag}{n17:aa}{n18 n19:Nat}{x1:Option (List aa)}(hx: ∀e lc s T,Aa s m lo KE VE T->(∀n,n<lo->n≠m->s.get [] n=s0.get [] n)->s0.aL<=s.aL->s.gt<=s.aL->ac e 3= .map m->ac e 17=n17->ac e 18= .int .i64 (n18:Nat)->ac e 19= .int .i64 (n19:Nat)->ac e 1= .Ge 1 1 0->lc.get 1 1=x1->lc.gen 1=1->K (.exit 2) ⟨e,110,lc⟩ s):
 ∀(r i:Nat) (K1:List CK) (V1:CK->List ag) (T1:CK->Nat) (e:ax) (lc:Ag.Loc) (s:St),r+i=o.gE.length->((kP o).drop i).foldl (jk o.id) (K1,V1)=(KE,VE)->Aa s m lo K1 V1 T1->(∀k,(V1 k).length+r<=1000000)->(∀n,n<lo->n≠m->s.get [] n=s0.get [] n)->s0.aL<=s.aL->s.gt<=s.aL->
  ac e 3= .map m->ac e 17=n17->ac e 18= .int .i64 (n18:Nat)->ac e 19= .int .i64 (n19:Nat)->ac e 1= .Ge 1 1 0->lc.get 1 1=x1->lc.gen 1=1->ac e 5= .Ge 5 x 0->lc.gen 5=x->lc.get 5 x=some o.cells->
  ac e 38=o.refsV->ac e 39= .int .i64 (o.gE.length:Nat)->ac e 40= .int .i64 (i:Nat)->W Q 127 (.loop yN) ⟨e,110,lc⟩ s K:=by
 have rc:=go.gE.ge;have tc:=go.gT.ge;have G:=go.gE.lenS cH;intro r
 induction r with
 |zero=>
  intro i K1 V1 T1 e lc s c2 hf hO hV S b1 d y Z Y U h1 l1 g1 B x z w u j;have hi:i=o.gE.length:=by omega
  have hd:(kP o).drop i=[]:=G3 (by
   rcases hk with hk|hk
   rw[P5 hk];omega;rw[aai hk];omega)
  rw[hd] at hf;simp only[List.foldl_nil,bI] at hf;obtain⟨rfl,rfl⟩:=hf;refine bG ?_;simp only[go_sem,hP,hh,seval,yN,u,j,hi,cD];exact hx _ _ _ T1 hO S b1 d (by simp only[sN,seval,y]) (by simp only[sN,seval,Z]) (by simp only[sN,seval,Y]) (by simp only[sN,seval,U]) (by simp only[sN,seval,h1]) l1 g1
 |succ r ih=>
  intro i K1 V1 T1 e lc s c2 hf hO hV S b1 d y Z Y U h1 l1 g1 B x z w u j;have O:i<o.gE.length:=by omega
  have F:=dB (n:=i) (by omega);obtain⟨a,ha⟩: ∃a,o.gE[i]? =some a:=⟨_,gn O⟩;have H:=fun lc k=>go.gE.at cH.2.2.1 ha lc k;have c5:(((i+1:Nat):Int)==((o.gE.length:Nat):Int))=decide (i+1=o.gE.length):=by
   by_cases h:i+1=o.gE.length;rw[h];simp;rw[dN h];simpa using fun hc=>h (by omega)
  by_cases hb:i+1=o.gE.length/\o.uP=2
  ·
   have hd:(kP o).drop i=[]:=G3 (by rw[P5 hb.2];omega);rw[hd] at hf;simp only[List.foldl_nil,bI] at hf;obtain⟨rfl,rfl⟩:=hf;have e1:an ((i+1:Nat):Int) ((o.gE.length:Nat):Int)=true:=by rw[hb.1];simp[an]
   have e2:an o.uP 2=true:=by rw[hb.2];rfl
   refine bG ?_;simp only[go_sem,hP,hh,seval,yN,B,x,z,w,u,j,O,H,aG,F,rc,G,e1,e2,Obj.cells];exact hx _ _ _ T1 hO S b1 d (by simp only[sN,seval,y]) (by simp only[sN,seval,Z]) (by simp only[sN,seval,Y]) (by simp only[sN,seval,U]) (by simp only[sN,seval,h1]) l1 g1
  ·have hn:0<o.gE.length:=by omega
   obtain⟨b,b7⟩: ∃b,o.gE[(i+1) % o.gE.length]? =some b:=⟨_,gn (Nat.mod_lt _ hn)⟩;have J:=fun lc k=>go.gE.at cH.2.2.1 b7 lc k;have a0:=ZN (a:=i+1) hn;have c4:=aqB hk O hb ha b7;rw[TP c4,uA] at hf;obtain⟨v,c3,b6⟩:=hO.look OA Xc v8 (fu a b);have I:=b6.ge;have A:=Ms hP hh hH b8 b4 N b5 b6 (by have:=hV (fu a b);omega) o.id s.top;have b0:ou ae [] 279 (.map m) (.agg [.str (CS a b),.str (CQ a b)]) false s.top=some v:=c3;have b3:(an ((i+1:Nat):Int) ((o.gE.length:Nat):Int)=true/\an o.uP 2=false)\/an ((i+1:Nat):Int) ((o.gE.length:Nat):Int)=false:=by
    by_cases h:i+1=o.gE.length;left;refine⟨by rw[h];simp[an],?_⟩;simp only[an,bN];exact fun h2=>hb ⟨h,h2⟩;right;simp only[an,bN];omega
   cases hc:(V1 (fu a b)).contains o.id with
   |true=>
    rw[hc] at A;have b2:((kP o).drop (i+1)).foldl (jk o.id) (K1,V1)=(KE,VE):=by
     rw[<-hf];simp only[jk,hc,cT]
    refine lk ?_;rcases b3 with⟨e1,e2⟩|e1
    ·simp only[go_sem,hP,hh,seval,yN,y,B,x,z,w,u,j,O,H,J,aG,F,rc,G,e1,e2,Obj.cells]
     refine iT d ?_;simp only[go_sem,hP,hh,pk,pm,seval,y,B,x,z,w,u,j,H,J,aG,rc,G,a0,Obj.cells,Ee,Ef,bj,bg,aZ,bf,evc];refine iT d ?_;simp only[go_sem,hP,hh,pk,pm,seval,y,B,x,z,Obj.cells,b0,I,N];refine kY.calm d A (by decide) (by rfl) ?_;simp only[go_sem,hP,hh,pk,pm,seval,j,F,I];refine ih (i+1) K1 V1 T1 _ _ s (by omega) b2 hO (fun k=>by have:=hV k;omega) S b1 d ?_ ?_ ?_ ?_ ?_ ?_ ?_ ?_ ?_ ?_ ?_ ?_ ?_
     all_goals simp only[abc,dj,cY,ah,y,Z,Y,U,h1,l1,g1,B,x,z,w,u,Obj.cells]
    ·simp only[go_sem,hP,hh,seval,yN,y,B,x,z,w,u,j,O,H,J,aG,F,rc,G,e1,Obj.cells]
     refine iT d ?_;simp only[go_sem,hP,hh,pk,pm,seval,y,B,x,z,w,u,j,H,J,aG,rc,G,a0,Obj.cells,Ee,Ef,bj,bg,aZ,bf,evc];refine iT d ?_;simp only[go_sem,hP,hh,pk,pm,seval,y,B,x,z,Obj.cells,b0,I,N];refine kY.calm d A (by decide) (by rfl) ?_;simp only[go_sem,hP,hh,pk,pm,seval,j,F,I];refine ih (i+1) K1 V1 T1 _ _ s (by omega) b2 hO (fun k=>by have:=hV k;omega) S b1 d ?_ ?_ ?_ ?_ ?_ ?_ ?_ ?_ ?_ ?_ ?_ ?_ ?_
     all_goals simp only[abc,dj,cY,ah,y,Z,Y,U,h1,l1,g1,B,x,z,w,u,Obj.cells]
   |false=>
    rw[hc] at A;have b2:((kP o).drop (i+1)).foldl (jk o.id) (fq (fu a b) K1,lH V1 (fu a b) (V1 (fu a b)++[o.id]))=(KE,VE):=by
     rw[<-hf];simp only[jk,hc,cF]
    obtain⟨v0,p,s1,av,s2,s3,a1,a2,a3,a4,a5,a6,a7,a8,a9,c0⟩:=hO.app OA Xc v8 cH.1 rfl (fun n hn=>vI hn (by decide)) (fu a b) o.id (by have:=hV (fu a b);omega) d;have c1:rS ae [] 279 (.map m) (.agg [.str (CS a b),.str (CQ a b)]) s=some (.tup [v0,.int .i64 (p:Nat)],s1):=a1;simp only[aG] at a3;refine lk ?_;rcases b3 with⟨e1,e2⟩|e1
    ·simp only[go_sem,hP,hh,seval,yN,y,B,x,z,w,u,j,O,H,J,aG,F,rc,G,e1,e2,Obj.cells]
     refine iT d ?_;simp only[go_sem,hP,hh,pk,pm,seval,y,B,x,z,w,u,j,H,J,aG,rc,G,a0,Obj.cells,Ee,Ef,bj,bg,aZ,bf,evc];refine iT d ?_;simp only[go_sem,hP,hh,pk,pm,seval,y,B,x,z,Obj.cells,b0,I,N];refine kY.calm d A (by decide) (by rfl) ?_;simp only[go_sem,hP,hh,pk,pm,seval,y,B,x,z,Obj.cells,I];simp only[go_sem,hP,hh,pk,pm,seval,j,F,MZ,MY,c1,a2,a3,a4,a5,fh,bj,bg,aZ,bf,evc];refine ih (i+1) _ _ _ _ _ s3 (by omega) b2 a6 (fun k=>?_) (fun n h1 h2=>(a7 n h1 h2).trans (S n h1 h2)) (by omega) c0 ?_ ?_ ?_ ?_ ?_ ?_ ?_ ?_ ?_ ?_ ?_ ?_ ?_;by_cases hkk:k=fu a b;subst hkk;rw[qm,cJ]
     have:=hV (fu a b);simp only[bH,bn];omega;rw[lf _ _ hkk]
     have:=hV k;omega
     all_goals simp only[abc,dj,cY,ah,y,Z,Y,U,h1,l1,g1,B,x,z,w,u,Obj.cells]
    ·simp only[go_sem,hP,hh,seval,yN,y,B,x,z,w,u,j,O,H,J,aG,F,rc,G,e1,Obj.cells]
     refine iT d ?_;simp only[go_sem,hP,hh,pk,pm,seval,y,B,x,z,w,u,j,H,J,aG,rc,G,a0,Obj.cells,Ee,Ef,bj,bg,aZ,bf,evc];refine iT d ?_;simp only[go_sem,hP,hh,pk,pm,seval,y,B,x,z,Obj.cells,b0,I,N];refine kY.calm d A (by decide) (by rfl) ?_;simp only[go_sem,hP,hh,pk,pm,seval,y,B,x,z,Obj.cells,I];simp only[go_sem,hP,hh,pk,pm,seval,j,F,MZ,MY,c1,a2,a3,a4,a5,fh,bj,bg,aZ,bf,evc];refine ih (i+1) _ _ _ _ _ s3 (by omega) b2 a6 (fun k=>?_) (fun n h1 h2=>(a7 n h1 h2).trans (S n h1 h2)) (by omega) c0 ?_ ?_ ?_ ?_ ?_ ?_ ?_ ?_ ?_ ?_ ?_ ?_ ?_;by_cases hkk:k=fu a b;subst hkk;rw[qm,cJ]
     have:=hV (fu a b);simp only[bH,bn];omega;rw[lf _ _ hkk]
     have:=hV k;omega
     all_goals simp only[abc,dj,cY,ah,y,Z,Y,U,h1,l1,g1,B,x,z,w,u,Obj.cells]
end
end Go.Proofs.YtnnppcoplinajaaGreat
namespace Go.Proofs.YtnnppcoplinajaaGreat
open Go.Ag
open Go.Sort (SWO)
def aq1{α:Type}{enc encF:α->aa}{H:α->α->Int}{d:α}{ok:List α->Bool}{k f g:Nat}{ρ:Go.Shelf.Ren}(L:SlLaysF0.n6 ae ρ)(hf:ρ.f 6=f)(aE: ∀w,(isAgg (ρ.t 24)).run ae w= .ok true w)(zE: ∀w,(Go.sizeOf (ρ.t 24)).run ae w= .ok k w)(ef: ∀args w,(callFunc f args).run ae w= .ok (.enter f args) w)(eg: ∀args w,(callFunc g args).run ae w= .ok (.enter g args) w){sp:Sp}(a2:db ae g sp)(hk: ∀a,(enc a).cells.length=k)(ha: ∀a,enc a= .agg (enc a).cells)(a1:0<k)(hz: ∀a h,fY h (enc a) (encF a))(a5: ∀l,ok l=true->l.length<=1000000/\(∀(i j:Nat) (x y:α),l[i]? =some x->l[j]? =some y->sp [encF x,encF y]=some (.int .i64 (H x y)))/\(SWO (ltOf fun x y:Fin l.length=>eT H d l x y))/\(∀x y:Fin l.length,(ltOf fun x y:Fin l.length=>eT H d l x y) x y=false->(ltOf fun x y:Fin l.length=>eT H d l x y) y x=false->x=y)):
 uN f (xJ enc H d ok k g):=by
 subst hf;intro args G h w xs wr hx;refine⟨fun A=>?_,fun n gf cs a7 A hl F=>?_⟩
 ·unfold xJ at A
  split at A;obtain⟨_,A⟩:=bh A;cases A
  ·cases hx with
   |cons p q=>
   cases q with
   |cons q r=>
   cases r;cases p;cases q with
   |func q1 q2=>
   cases q1;cases q2;refine .inr ⟨ef _ _,(AnyF.slices_SortFunc_none L none 0 _ w).mono ?_⟩;rintro e w' ⟨rfl,rfl⟩;exact⟨_,rfl,G,wr,.refl,.tup .nil⟩
  cases A
 ·unfold xJ at A
  split at A
  ·rename_i k' m len J g'
   have hb:=(bh A).1;have Z:=(bh A).2;clear A;simp only[bu] at hb;have U:=jP hb.1;have S:=jP hb.2;subst U;subst S;injection Z with Z;injection Z with Z;injection Z with a4 a3
   subst a4;subst a3;have F:=Gl F;obtain⟨B,F⟩:=bh F;have B:=jP B;simp only[xG,ak] at F;obtain⟨l,h1,F⟩:=F;obtain⟨h2,F⟩:=bh F;have F:=(sI F).symm;subst F;have a6:=Mw h1;subst a6;have a0: ∀v∈l.map enc,v.cells.length=k'/\v= .agg v.cells:=fun v hv=>by
    obtain⟨a,_,rfl⟩:=dy.1 hv;exact⟨hk a,ha a⟩
   have N:l.length=len:=by
    rw[oG (fun v hv=>(a0 v hv).1),ce] at B;exact Nat.eq_of_mul_eq_mul_right a1 B
   obtain⟨q1,q2,q3,q4⟩:=a5 l h2;cases hx with
   |cons p q=>
   cases q with
   |cons q r=>
   cases r;cases q with
   |func u1 u2=>
   cases u1;cases u2;have I:(l.map enc).length=l.length:=ce ..;have hy: ∀z,VR G (.arr k' m 0 len J) z->VR G (.arr k' m 0 (l.map enc).length J) z:=fun z hz=>by rw[I,N];exact hz
   have gen: ∀n (hn:n=l.length),SWO (ltOf fun x y:Fin n=>eT H d l x y)/\(∀x y:Fin n,(ltOf fun x y:Fin n=>eT H d l x y) x y=false->(ltOf fun x y:Fin n=>eT H d l x y) y x=false->x=y):=by
    intro n hn;subst hn;exact⟨q3,q4⟩
   have Y:=fun hO=>Qe L rfl aE zE ef eg a2 wr (rows:=l.map enc) (us:=l.map encF) hl a0 a1 (by rw[ce,ce]) (fun i v u U S=>by
    rw[jf,uH] at U S;obtain⟨a,g1,rfl⟩:=U;obtain⟨b,O,rfl⟩:=S;rw[g1] at O;injection O with O;subst O
    exact hz a _) (eT H d l) (fun i j u u' U S=>by
    rw[jf,uH] at U S;obtain⟨a,g1,rfl⟩:=U;obtain⟨b,O,rfl⟩:=S;have e:eT H d l i j=H a b:=by
     unfold eT;rw[nA,nA,g1,O];rfl
    rw[q2 i j a b g1 O,e]) hO (gen _ I).2 (by rw[I];exact q1) (hy _ p)
   rw[Qi] at Y;exact Y (gen _ I).1
  obtain⟨_,A⟩:=bh A;cases A;cases A
abbrev iz:=CK×List ag×Nat
def iO(a:iz):aa:=.agg [.str a.1.1,.str a.1.2,.list 1 (a.2.1.map aG) (.own a.2.2)]
def w9(a:iz):aa:=.agg [.str a.1.1,.str a.1.2,.list 1 (a.2.1.map aG) .no]
def uV(a b:CK):Int:=bif an (gu a.1 b.1) 0 then gu a.2 b.2 else gu a.1 b.1
variable{s:St}
section
variable{Q:aH}(hP:Q.P=ae)(hh:Q.hint=ai)(hH: ∀f,Q.specH f=none)
include hP hh hH
theorem aeb(h:Q.spec 222=none)(e:Q.specW 222=none)(d:Q.spec 228=some pO)(a b:CK)(j:s.gt<=s.aL):aq Q 222 [.list 1 [.str a.1,.str b.1,.str a.2,.str b.2] .GE] s (cd (uV a b)) s:=by
 have z:pO [.str a.1,.str b.1]=some (.int .i64 (gu a.1 b.1)):=rfl;have y:pO [.str a.2,.str b.2]=some (.int .i64 (gu a.2 b.2)):=rfl;have x:IntKind.i64.wrap (0+1)=1:=by decide
 have O:IntKind.i64.wrap (0+2)=2:=by decide
 have w:IntKind.i64.wrap (2+1)=3:=by decide
 have N:IntKind.i64.wrap (2+2)=4:=by decide
 have J:IntKind.i64.wrap (4+1)=5:=by decide
 have I:bc 1 ((4:Nat):Int)=true:=by decide
 have H:bc 3 ((4:Nat):Int)=true:=by decide
 have S:bc 5 ((4:Nat):Int)=false:=by decide
 have G:dS (.int .i64 0)=some 0:=rfl;have F:dS (.int .i64 1)=some 1:=rfl;have B:dS (.int .i64 2)=some 2:=rfl;have A:dS (.int .i64 3)=some 3:=rfl;refine aq.ofZ hP hH aiH h e rfl ?_;refine co ?_;simp only[go_sem,hP,hh,df,bP,ah,aB,bQ,ee,ey,eI,cK,ew,ep,reduceCtorEq,eR];refine bG ?_;cases e1:an (gu a.1 b.1) 0 with
 |false=>
  have u:uV a b=gu a.1 b.1:=by unfold uV;rw[e1];rfl
  simp only[go_sem,hP,hh,df,bP,ah,aB,bQ,ee,ey,eI,cK,ew,ep,reduceCtorEq,eR,E5,x,I,G,F,j,nN,d,z,e1,u,cd]
 |true=>
  have u:uV a b=gu a.2 b.2:=by unfold uV;rw[e1];rfl
  simp only[go_sem,hP,hh,df,bP,ah,aB,bQ,ee,ey,eI,cK,ew,ep,reduceCtorEq,eR,E5,x,O,I,G,F,j,nN,d,z,e1];refine bG ?_;cases e2:an (gu a.2 b.2) 0 with
  |false=>simp only[go_sem,hP,hh,df,bP,ah,aB,bQ,ee,ey,eI,cK,ew,ep,reduceCtorEq,eR,E5,w,H,B,A,j,nN,d,y,e2,u,cd]
  |true=>
   have U:gu a.2 b.2=0:=by simpa[an] using e2
   simp only[go_sem,hP,hh,df,bP,ah,aB,bQ,ee,ey,eI,cK,ew,ep,reduceCtorEq,eR,E5,w,N,H,B,A,j,nN,d,y,e2];refine bG ?_;simp only[go_sem,hP,hh,df,bP,ah,aB,bQ,ee,ey,eI,cK,ew,ep,reduceCtorEq,eR,E5,J,S,u,U,cd]
theorem aea(u:Q.spec 221=none)(h:Q.specW 221=none)(d:Q.spec 222=none)(e:Q.specW 222=none)(j:Q.spec 228=some pO)(a b:iz)(y:s.gt<=s.aL):aq Q 221 [w9 a,w9 b] s (cd (uV a.1 b.1)) s:=by
 have x:dS (.int .i64 0)=some 0:=rfl;have w:dS (.int .i64 1)=some 1:=rfl;refine aq.ofZ hP hH aiG u h rfl ?_;refine co ?_;simp only[go_sem,hP,hh,df,bP,ah,aB,bQ,ee,ey,eI,cK,ew,ep,reduceCtorEq,eR,w9,x,w,d,bj,bg,aZ,bf,evc];refine cG.of (aeb hP hh hH d e j a.1 b.1 y) (by decide) ?_;simp only[go_sem,hP,hh,df,bP,ah,aB,bQ,ee,ey,eI,cK,ew,ep,reduceCtorEq,eR,cd]
end
end Go.Proofs.YtnnppcoplinajaaGreat
namespace Go.Proofs.YtnnppcoplinajaaGreat
open Go.Ag
def io(l:List Obj)(d:List CK×(CK->List ag))(o:Obj):List CK×(CK->List ag):=(jJ l o).foldl (jk o.id) d
def Hq(id:ag)(k:CK): ∀(e:List CK) (d:List CK×(CK->List ag)),((e.foldl (jk id) d).2 k).length<=(d.2 k).length+e.length
 | [],d=>by simp
 |j::e,d=>by
  rw[uA];refine fA (Hq id k e _) ?_;have:((jk id d j).2 k).length<=(d.2 k).length+1:=by
   unfold jk;cases (d.2 j).contains id with
   |true=>simp
   |false=>
    simp only[cF];by_cases h:k=j;subst h;rw[qm,cJ];simp;rw[lf _ _ h];omega
  rw[bH];omega
variable{o:Obj}
def aaj(d:o.uP=2\/o.uP=3):(kP o).length<=o.gE.length:=by
 rcases d with d|d
 rw[P5 d];omega;rw[aai d];exact br _
variable{l:List Obj}
def OH(h:w8 l o=false):jJ l o=[]:=by unfold jJ;rw[h];rfl
def OI(h:w8 l o=true):jJ l o=kP o:=by unfold jJ;rw[h];rfl
section
variable{Q:aH}(hP:Q.P=ae)(hh:Q.hint=ai)(hH: ∀f,Q.specH f=none)
include hP hh hH
theorem alS(d0:Q.spec 130=none)(b5:Q.specW 130=none)(c8:Q.spec 223=none)(b2:Q.specW 223=none)(a1:Q.spec 219=none)(b3:Q.specW 219=none)(c6:Q.spec 301=none)(b0:Q.specW 301=none)(c7:Q.spec 261=none)(b1:Q.specW 261=none)(c9:Q.spec 167=none)(b4:Q.specW 167=none){ov:aa}(ho:ay 6 Obj.val ov l)(hg: ∀o∈l,o.Al)(hl:l.length<=1000)(hr: ∀o∈l,o.gE.length<=999){n m lo:Nat}(hn:n<lo)(d4:n≠m){s0:St}(hM:bR aa.str s0 n (i9 0 l)){K:Ex->Fr->St->Prop}{KE:List CK}{VE:CK->List ag}(hx: ∀e lc s T,Aa s m lo KE VE T->(∀k,k<lo->k≠m->s.get [] k=s0.get [] k)->s0.aL<=s.aL->s.gt<=s.aL->ac e 3= .map m->K (.exit 0) ⟨e,110,lc⟩ s):
 ∀(A d:List Obj) (u:List CK) (V1:CK->List ag) (T1:CK->Nat) (e:ax) (lc:Ag.Loc) (s:St),l=d++A->A.foldl (io l) (u,V1)=(KE,VE)->Aa s m lo u V1 T1->(∀k,(V1 k).length<=999*d.length)->(∀k,k<lo->k≠m->s.get [] k=s0.get [] k)->s0.aL<=s.aL->s.gt<=s.aL->
  ac e 3= .map m->ac e 17=ov->ac e 18= .int .i64 (l.length:Nat)->ac e 19= .int .i64 (d.length:Nat)->ac e 1= .Ge 1 1 0->lc.get 1 1=some [ov,.map n]->lc.gen 1=1->W Q 127 (.loop ET) ⟨e,110,lc⟩ s K:=by
 intro A
 induction A with
 |nil=>
  intro d u V1 T1 e lc s H N hO hV Z a6 a2 h3 y w x r1 l1 g1;have d5:d.length=l.length:=by rw[H];simp
  simp only[List.foldl_nil,bI] at N;obtain⟨rfl,rfl⟩:=N;refine bG ?_;simp only[go_sem,hP,hh,seval,ET,w,x,d5,cD];exact hx _ _ _ T1 hO Z a6 a2 (by simp only[sN,seval,h3])
 |cons o A ih=>
  intro d u V1 T1 e lc s H N hO hV Z a6 a2 h3 y w x r1 l1 g1;have a7:d.length<l.length:=by rw[H];simp
  have c2:l[d.length]? =some o:=by rw[H];simp
  have a8:=fun lc k=>ho.at gX.2.2.1 c2 lc k;have G:=dB (n:=d.length) (by omega);have b7:=eP c2;have go:=hg o b7;have f0:=hr o b7;have rc:=go.gE.ge;have tc:=go.gT.ge;have c0:=ho.ge;have b8:=go.gE.lenS cH;rw[uA] at N;have a9: ∀k,(V1 k).length<=999*(d++[o]).length:=fun k=>by
   have:=hV k;rw[cJ,bH,bn];omega
  have f1:=hO.mlt;have f2:=hO.los;refine bG ?_;by_cases hk:o.uP=2\/o.uP=3
  ·have d6:bR aa.str s n (i9 0 l):=(Z n hn d4).trans hM
   have S:=anj hP hh hH a1 b3 c6 b0 c7 b1 c9 b4 ho d6 (by omega) go (by omega);obtain⟨z,hz⟩:=ct (s.new (.cells [ov,.map n]));rw[hz] at S;have zn:z.aL=s.aL+1:=by rw[<-hz];rfl
   have zo: ∀j,j<s.aL->z.get [] j=s.get [] j:=fun j hj=>by rw[<-hz,fk,bN.2 (by omega:j≠s.aL)];rfl
   have zm:z.gt<=z.aL:=by rw[<-hz];exact cq a2
   have zO:Aa z m lo u V1 T1:=hO.mono (zo m (by omega)) (fun k hk=>zo _ (hO.tok k hk).2.2) (by omega);have a3: ∀k,k<lo->k≠m->z.get [] k=s0.get [] k:=fun k H h2=>(zo k (by omega)).trans (Z k H h2);have a0:(an o.uP 2=true)\/(an o.uP 2=false/\an o.uP 3=true):=by
    rcases hk with h|h
    left;rw[h];rfl;right;rw[h];exact⟨rfl,rfl⟩
   have Y:w8 l o=o.gE.all (ei l):=by
    unfold w8;rcases a0 with h|⟨h,h'⟩
    rw[h];rfl;rw[h,h'];rfl
   have fin: ∀(O:ax) (F:Ag.Loc),o.gE.all (ei l)=true->ac O 3= .map m->ac O 17=ov->ac O 18= .int .i64 (l.length:Nat)->ac O 19= .int .i64 (d.length:Nat)->ac O 1= .Ge 1 1 0->F.get 1 1=some [ov,.map n]->F.gen 1=1-> ∀g5,ac O 5= .Ge 5 g5 0->F.gen 5=g5->F.get 5 g5=some o.cells->
    ac O 38=o.refsV->ac O 39= .int .i64 (o.gE.length:Nat)->ac O 40= .int .i64 ((0:Nat):Int)-> ∀K':Ex->Fr->St->Prop,(∀I B J T2,Aa J m lo (io l (u,V1) o).1 (io l (u,V1) o).2 T2->(∀k,k<lo->k≠m->J.get [] k=s0.get [] k)->s0.aL<=J.aL->J.gt<=J.aL->ac I 3= .map m->ac I 17=ov->ac I 18= .int .i64 (l.length:Nat)->ac I 19= .int .i64 (d.length:Nat)->ac I 1= .Ge 1 1 0->B.get 1 1=some [ov,.map n]->B.gen 1=1->K' (.exit 2) ⟨I,110,B⟩ J)->W Q 127 (.loop yN) ⟨O,110,F⟩ z K':=by
    intro O F c4 c3 e9 e8 e7 c1 cl cg g5 c5 e3 e0 e6 e5 e4 K' hK;have b6:io l (u,V1) o=(kP o).foldl (jk o.id) (u,V1):=by
     unfold io;rw[OI (by rw[Y];exact c4)]
    exact amo hP hh hH d0 b5 c8 b2 go hk (by omega) (s0:=z) (KE:=(io l (u,V1) o).1) (VE:=(io l (u,V1) o).2) (n17:=ov) (n18:=l.length) (n19:=d.length) (x1:=some [ov,.map n]) (fun I B J T2 q1 q2 q3 q4 q5 q6 q7 q8 q9 d2 d1=>hK I B J T2 q1 (fun k H h2=>(q2 k H h2).trans (a3 k H h2)) (by omega) q4 q5 q6 q7 q8 q9 d2 d1) o.gE.length 0 u V1 T1 O F z (by omega) (by rw[nz,b6]) zO (fun k=>by have:=hV k;omega) (fun _ _ _=>rfl) (br _) zm c3 e9 e8 e7 c1 cl cg c5 e3 e0 e6 e5 e4
   rcases a0 with e1|⟨e1,I⟩
   ·simp only[go_sem,hP,hh,seval,ET,r1,l1,g1,y,w,x,a7,a8,G,e1,a1,c0,rc,tc,Obj.val,Obj.cells]
    refine cG.of S (by decide) ?_;cases hb:o.gE.all (ei l) with
    |false=>
     have U:io l (u,V1) o=(u,V1):=by
      unfold io;rw[OH (by rw[Y];exact hb)];rfl
     rw[U] at N;simp only[go_sem,hP,hh,seval,x,G];refine ih (d++[o]) u V1 T1 _ _ z (by rw[H];simp) N zO a9 a3 (by omega) zm ?_ ?_ ?_ ?_ ?_ ?_ ?_
     all_goals simp only[abc,dj,cY,ah,h3,y,w,r1,l1,g1,sA]
    |true=>
     simp only[go_sem,hP,hh,seval,Obj.cells,b8,rc,tc];refine fin _ _ hb ?_ ?_ ?_ ?_ ?_ ?_ ?_ (lc.gen 5+1) ?_ ?_ ?_ ?_ ?_ ?_ _ ?_
     case refine_14=>
      intro d7 B J T2 p1 p2 p3 p4 p5 p6 p7 p8 p9 a5 a4;simp only[go_sem,hP,hh,seval,p8,G];refine ih (d++[o]) (io l (u,V1) o).1 (io l (u,V1) o).2 T2 _ _ J (by rw[H];simp) N p1 (fun k=>?_) p2 p3 p4 ?_ ?_ ?_ ?_ ?_ ?_ ?_;have q1:=Hq o.id k (kP o) (u,V1);have q2:=aaj hk;have q3:=hV k;have q4:(io l (u,V1) o).2 k=((kP o).foldl (jk o.id) (u,V1)).2 k:=by
       unfold io;rw[OI (by rw[Y];exact hb)]
      rw[q4,cJ,bH,bn];simp only at q1;omega
      all_goals simp only[abc,dj,cY,ah,p5,p6,p7,p9,a5,a4,sA]
     all_goals simp only[abc,dj,cY,ah,h3,y,w,x,r1,l1,g1,Obj.cells,bS]
     all_goals rfl
   ·simp only[go_sem,hP,hh,seval,ET,r1,l1,g1,y,w,x,a7,a8,G,e1,I,a1,c0,rc,tc,Obj.val,Obj.cells]
    refine cG.of S (by decide) ?_;cases hb:o.gE.all (ei l) with
    |false=>
     have U:io l (u,V1) o=(u,V1):=by
      unfold io;rw[OH (by rw[Y];exact hb)];rfl
     rw[U] at N;simp only[go_sem,hP,hh,seval,x,G];refine ih (d++[o]) u V1 T1 _ _ z (by rw[H];simp) N zO a9 a3 (by omega) zm ?_ ?_ ?_ ?_ ?_ ?_ ?_
     all_goals simp only[abc,dj,cY,ah,h3,y,w,r1,l1,g1,sA]
    |true=>
     simp only[go_sem,hP,hh,seval,Obj.cells,b8,rc,tc];refine fin _ _ hb ?_ ?_ ?_ ?_ ?_ ?_ ?_ (lc.gen 5+1) ?_ ?_ ?_ ?_ ?_ ?_ _ ?_
     case refine_14=>
      intro d7 B J T2 p1 p2 p3 p4 p5 p6 p7 p8 p9 a5 a4;simp only[go_sem,hP,hh,seval,p8,G];refine ih (d++[o]) (io l (u,V1) o).1 (io l (u,V1) o).2 T2 _ _ J (by rw[H];simp) N p1 (fun k=>?_) p2 p3 p4 ?_ ?_ ?_ ?_ ?_ ?_ ?_;have q1:=Hq o.id k (kP o) (u,V1);have q2:=aaj hk;have q3:=hV k;have q4:(io l (u,V1) o).2 k=((kP o).foldl (jk o.id) (u,V1)).2 k:=by
       unfold io;rw[OI (by rw[Y];exact hb)]
      rw[q4,cJ,bH,bn];simp only at q1;omega
      all_goals simp only[abc,dj,cY,ah,p5,p6,p7,p9,a5,a4,sA]
     all_goals simp only[abc,dj,cY,ah,h3,y,w,x,r1,l1,g1,Obj.cells,bS]
     all_goals rfl
  ·have e1:an o.uP 2=false:=by simp only[an,bN];exact fun h=>hk (.inl h)
   have I:an o.uP 3=false:=by simp only[an,bN];exact fun h=>hk (.inr h)
   have U:io l (u,V1) o=(u,V1):=by
    unfold io;rw[OH (by unfold w8;rw[e1,I];rfl)];rfl
   rw[U] at N;simp only[go_sem,hP,hh,seval,ET,r1,l1,g1,y,w,x,a7,a8,G,e1,I,Obj.val,Obj.cells];refine ih (d++[o]) u V1 T1 _ _ s (by rw[H];simp) N hO a9 Z a6 a2 ?_ ?_ ?_ ?_ ?_ ?_ ?_
   all_goals simp only[abc,dj,cY,ah,h3,y,w,r1,l1,g1,sA]
end
end Go.Proofs.YtnnppcoplinajaaGreat
namespace Go.Proofs.YtnnppcoplinajaaGreat
open Go.Ag
open Go.Sort (SWO)
def HI(a b:ag):gu a b=dz a b:=by
 unfold gu;cases h:fN a b with
 |true=>
  have u:=(B6 a b).2 h;rcases TA a b with e|e|e
  rw[e];rfl;omega;omega
 |false=>
  have u: ¬dz a b<0:=fun d=>by rw[(B6 a b).1 d] at h;cases h
  have w:=B7 a b;cases h2:fN b a with
  |true=>
   have j:=(B6 b a).2 h2;rcases TA a b with e|e|e
   omega;omega;rw[e];rfl
  |false=>
   have j: ¬dz b a<0:=fun d=>by rw[(B6 b a).1 d] at h2;cases h2
   simp only[cF];omega
def HK(a b:CK):uV a b=jm a b:=by
 unfold uV jm;rw[HI,HI]
def Ec:aa->Option iz
 | .agg [.str a,.str b,.list 1 xs .no]=>(iV jl xs).bind fun l=>some ((a,b),l,0)
 |_=>none
def acQ(a:iz):Ec (w9 a)=some (a.1,a.2.1,0):=by
 show(iV jl (a.2.1.map aG)).bind (fun l=>some ((a.1.1,a.1.2),l,0))=_;rw[yX oc];rfl
def Sj{v:aa}{a:iz}(h:Ec v=some a):v=w9 a:=by
 unfold Ec at h;split at h;simp only[ak,aJ] at h;obtain⟨l,d,rfl⟩:=h;rw[FE (fun _ _ h=>pM h) d];rfl;cases h
def Ml:Sp
 | [u,v]=>(Ec u).bind fun a=>(Ec v).bind fun b=>some (cd (uV a.1 b.1))
 |_=>none
def alN(a:iz):bL (w9 a)=true:=by
 simp only[w9,bL,pures,vE vQ,cw,je]
def acx:dX:=[(228,pO)]
def acy:dR acx:=.cons Mi .nil
def aei:db ae 221 Ml:=by
 refine GK acy (W:=[]) .nil fun args u h=>?_;unfold Ml at h;split at h;simp only[ak] at h;obtain⟨a,e,b,d,h⟩:=h;have h:=sI h;subst h;rw[Sj e,Sj d];refine⟨by simp only[pures,alN,cw],fun j=>⟨_,_,aea rfl rfl (fun _=>rfl) rfl rfl rfl rfl rfl a b (br _),1,rfl⟩⟩;cases h
noncomputable def C5(l:List iz):Bool:=by classical exact decide (l.length<=1000000/\(l.map (·.1)).Nodup)
abbrev jy:iz:=(([],[]),[],0)
def oh(a b:iz):Int:=uV a.1 b.1
noncomputable def KF:=xJ iO oh jy C5 3 221
def KN{α β:Type}{d:α->α->Int}(h:SWO (ltOf d))(k:β->α):SWO (ltOf fun x y=>d (k x) (k y)) where
 irrefl x:=h.irrefl (k x)
 trans x y z:=h.trans (k x) (k y) (k z)
 ntrans x y z:=h.ntrans (k x) (k y) (k z)
def alO(a:iz)(h:aC aR):fY h (iO a) (w9 a):=by
 refine⟨3,?_⟩;have:dL (cL h 1) (a.2.1.map aG)=some (a.2.1.map aG):=yF fun v d=>by
  obtain⟨x,_,rfl⟩:=dy.1 d;rfl
 show(dL (cL h 2) [.str a.1.1,.str a.1.2,.list 1 (a.2.1.map aG) (.own a.2.2)]).bind (fun r=>some (aa.agg r))=_;have e:cL h 2 (.list 1 (a.2.1.map aG) (.own a.2.2))=some (.list 1 (a.2.1.map aG) .no):=by
  show(dL (cL h 1) (a.2.1.map aG)).bind (fun ys=>some (aa.list 1 ys .no))=_;rw[this];rfl
 simp only[dL,e,au];rfl
def aqZ:uN 220 KF:=by
 refine aq1 (encF:=w9) Tryz.sortF220 rfl Tryz.isAgg200 Tryz.sizeOf200 (Go.Proofs.enters_of Tryz.func220 (by kernel_rfl) rfl) (Go.Proofs.enters_of Tryz.func221 (by kernel_rfl) rfl) aei (fun _=>rfl) (fun _=>rfl) (by decide) alO fun l d=>?_;simp only[C5,dE] at d;refine⟨d.1,fun i j x y A z=>?_,?_,?_⟩;simp only[Ml,acQ,au];rfl;have e:(fun x y:Fin l.length=>eT oh jy l x y)=fun x y:Fin l.length=>jm (l.getD x jy).1 (l.getD y jy).1:=by
  funext x y;simp only[eT,oh,HK]
 rw[e];exact KN GN fun i:Fin l.length=>(l.getD i jy).1;intro x y w u;have e:(fun x y:Fin l.length=>eT oh jy l x y)=fun x y:Fin l.length=>jm (l.getD x jy).1 (l.getD y jy).1:=by
  funext x y;simp only[eT,oh,HK]
 rw[e] at w u;have h:=aa8 _ _ w u;rw[Cp,Cp] at h;exact Fin.ext (JK d.2 (i:=x) (j:=y) (x:=l[x]) (y:=l[y]) (by simp) (by simp) h)
def ap3{K:List CK}(G:K.Nodup)(I:K.length<=1000000)(g:CK->iz)(F: ∀k,(g k).1=k){rows:List iz}(z:rows.Perm (K.map g)):C5 rows=true/\kA oh jy rows=(Dw K).map g:=by
 have B:(K.map g).map (·.1)=K:=by
  rw[mI]
  conv=>rhs;rw[<-List.map_id K]
  exact DW fun k _=>F k
 have A:C5 rows=true:=by
  simp only[C5,dE];refine⟨by rw[z.length_eq,ce];exact I,?_⟩;rw[(z.map _).nodup_iff,B];exact G
 refine⟨A,?_⟩;have j:=(xH oh jy rows).trans z;have J:SWO (ltOf fun x y:Fin rows.length=>eT oh jy rows x y):=by
  have e:(fun x y:Fin rows.length=>eT oh jy rows x y)=fun x y:Fin rows.length=>jm (rows.getD x jy).1 (rows.getD y jy).1:=by
   funext x y;simp only[eT,oh,HK]
  rw[e];exact KN GN fun i:Fin rows.length=>(rows.getD i jy).1
 have H:=KD oh jy rows J;have d:(kA oh jy rows).map (·.1)=Dw K:=by
  refine aqW (((j.map _).trans (by rw[B])).trans (GH K).symm) ?_ (aat K);rw[Ha];refine H.imp fun {a b} h=>?_;simp only[oh,HK] at h;simp only[ltOf,nu,decide_eq_false_iff_not];exact h
 have u: ∀x∈kA oh jy rows,x=g x.1:=fun x w=>by
  obtain⟨k,_,rfl⟩:=dy.1 (j.mem_iff.1 w);rw[F]
 rw[<-d,mI]
 conv=>lhs;rw[<-List.map_id (kA oh jy rows)]
 exact DW fun x w=>u x w
end Go.Proofs.YtnnppcoplinajaaGreat
namespace Go.Proofs.YtnnppcoplinajaaGreat
open Go.Ag
variable{R:List iz}
def OJ: ∀v∈R.map iO,v.cells.length=3:=fun v d=>by
 obtain⟨x,_,rfl⟩:=dy.1 d;rfl
variable{n:Nat}{s:St}{o:aR}
theorem cz(h:n<s.aL):(s.new o).get [] n=s.get [] n:=by
 rw[fk,bN.2 (by omega:n≠s.aL)];rfl
def cW:(s.new o).get [] s.aL=some o:=by rw[fk,bS];rfl
variable{m:Nat}{α:Type}{t:TypeId}
def alF{enc:α->aa}{kt e:TypeId}(d:ae.underlying t=some (.map kt e)){L:List (α×aa)}(h:bR enc s m L):jo ae [] t (.map m) s=some (.int .i64 (L.length:Nat)):=by
 have h:s.get [] m=_:=h;simp only[jo,d,au,h,MB]
def abb:ae.underlying 279=some (.map 196 25):=by kernel_rfl
variable{E:EI}{sz:Nat}
def acM(I:lV ae t=some E)(w:E.n=sz)(H:E.b<=88){k:Nat}{xs:List aa}(x:aa)(e: ∀y∈xs,y.cells.length=sz)(z:xs.length<1000000)(F:s.gt<=s.aL)(G:s.get [] k=some (.cells (aF xs)))(A:Bool):
 ∃d,fF ae [] t (.arr sz k 0 xs.length xs.length) (.list sz [x] .GE) A s=some (.arr sz s.aL 0 (xs.length+1) (xs.length+1),d)/\d.get [] s.aL=some (.cells (aF (xs++[x])))/\d.aL=s.aL+1/\d.ci=s.ci/\d.gt<=d.aL/\(∀n,n<s.aL->n≠k->d.get [] n=s.get [] n):=by
 subst w;have B:jc (xs.length+1) E.b=true:=vI (by omega) H;have u:(aF xs).length=xs.length*E.n:=MP e;have j:aF [x]=x.cells:=by show x.cells++aF []=_;simp[aF]
 refine⟨(s.put k none).new (.cells (aF (xs++[x]))),?_,?_,rfl,rfl,?_,fun n w h=>?_⟩;simp only[afo,fF,I,au,eE,jG,G,bH,bn,bV,B,u,cw,nz,j,qF];rw[fk,lR,bS];rfl;exact cq (dh s k none F);rw[fk,lR,bN.2 (by omega:n≠s.aL),cF,aX,bN.2 h];rfl
variable{C:Ex->Fr->St->Prop}{it:Nat}
section
variable{Q:aH}(hP:Q.P=ae)(hh:Q.hint=ai)
include hP hh
theorem alQ(Z: ∀i,1000000<=Q.kmax i){K:List CK}{V:CK->List ag}{T:CK->Nat}(a0:K.length<1000000){s0:St}(hx: ∀e lc s (r:Nat) (rows:List iz),rows.Perm (K.map fun k=>(k,V k,T k))->ac e 11= .arr 3 r 0 rows.length rows.length->s.get [] r=some (.cells (aF (rows.map iO)))->r<s.aL->s0.aL<=r->(∀n,n<s0.aL->s.get [] n=s0.get [] n)->s.gt<=s.aL->C (.exit 4) ⟨e,110,lc⟩ s):
 ∀(c:Nat) (seen:List Nat) (e:ax) (lc:Ag.Loc) (s:St) (r:Nat),c+seen.length=K.length->jv jw s it m (gZ K fun k=>.list 1 ((V k).map aG) (.own (T k))) seen->ac e 95= .ptr it 0->ac e 11= .arr 3 r 0 seen.length seen.length->s.get [] r=some (.cells (aF ((seen.map fun b=>((fun k=>(k,V k,T k):CK->iz) (K.getD b ([],[])))).map iO)))->
  s0.aL<=r->s0.aL<=it->m<s0.aL->r<s.aL->it<s.aL->r≠it->(∀n,n<s0.aL->s.get [] n=s0.get [] n)->s.gt<=s.aL->W Q 127 (.loop Nr) ⟨e,110,lc⟩ s C:=by
 intro c
 induction c with
 |zero=>
  intro seen e lc s r hc I d h F Y U S O l5 A u j;rcases I.aL Q.ch Q.kmax (fun i=>by rw[uj];have:=Z i;omega) with⟨hp,hnx⟩|⟨b,p,s1,hb,hnm,hlt,_⟩
  rw[uj] at hp;refine bG ?_;simp only[go_sem,hP,hh,seval,Nr,d,yG,hnx,fh,bj,bg,aZ,bf,evc];refine hx _ _ _ r (seen.map fun b=>((fun k=>(k,V k,T k):CK->iz) (K.getD b ([],[])))) ?_ (by simp only[sN,seval,h,ce]) F O Y u j;have h1:=hp.map fun b=>((fun k=>(k,V k,T k):CK->iz) (K.getD b ([],[])));refine h1.trans ?_;have:(ix K.length).map (fun b=>((fun k=>(k,V k,T k):CK->iz) (K.getD b ([],[]))))=K.map fun k=>(k,V k,T k):=by
   refine G4 (by simp) fun i h1 h2=>?_;have z:i<K.length:=by simpa using h2
   simp[nA,z]
  rw[this];rw[uj] at hlt;omega
 |succ c ih=>
  intro seen e lc s r hc I d h F Y U S O l5 A u j;rcases I.aL Q.ch Q.kmax (fun i=>by rw[uj];have:=Z i;omega) with⟨hp,hnx⟩|⟨b,p,s1,hb,hnm,hlt,hnx,ho,z,hn1,hm1⟩
  have:=hp.length_eq;rw[uj,DU] at this;omega;have y:b<K.length:=by
   have:=(nY.1 hb).1;rwa [uj] at this
  have G:p=(K[b],.list 1 ((V K[b]).map aG) (.own (T K[b]))):=by
   have:(gZ K fun k=>aa.list 1 ((V k).map aG) (.own (T k)))[b]? =some (K[b],.list 1 ((V K[b]).map aG) (.own (T K[b]))):=by
    unfold gZ;rw[jf,gn y];rfl
   rw[this] at hb;exact(sI hb).symm
  have H:m≠it:=by omega
  have I1:=I.go H hb hnm ho z;have w:=jv.entry z I1.hm hb;have x:s1.gt<=s1.aL:=by rw[hm1,hn1];exact dh s it none j
  have B:s1.get [] r=_:=(ho r A).trans F;obtain⟨s2,N,a2,a3,a4,a5,J⟩:=acM (t:=193) GB.1 rfl (by decide) (iO (K[b],V K[b],T K[b])) OJ (by rw[ce,ce];rw[uj] at hlt;omega) x B false;rw[ce,ce] at N;subst G;simp only[jw] at hnx w;simp only[iO] at N;refine bG ?_;simp only[go_sem,hP,hh,seval,Nr,d,h,yG,EH,hnx,w,fh,iU,bj,bg,aZ,bf,evc];simp only[go_sem,hP,hh,seval,EH,w,h,fh,iU,N,bj,bg,aZ,bf,evc];refine ih (seen++[b]) _ _ s2 s1.aL (by rw[cJ];simp only[bH,bn];omega) ⟨?_,?_,I1.nd,I1.lt⟩ ?_ ?_ ?_ (by omega) U S (by omega) (by omega) (by omega) (fun n hn=>?_) a5;rw[J it (by omega) (fun e=>A e.symm)];exact I1.hi;exact(J m (by omega) (by omega)).trans I1.hm;simp only[sN,seval,d];simp only[sN,seval,sA];rw[a2,ff,ff];simp[nA,y,iO];rw[J n (by omega) (by omega),ho n (by omega)];exact u n hn
end
def ip(l:List Obj):List CK×(CK->List ag):=l.foldl (io l) ([],fun _=>[])
def acA(id:ag)(k:CK)(d:List CK×(CK->List ag))(x:d.1.Nodup)(w: ∀j,j ∉ d.1->d.2 j=[]):(jk id d k).1.Nodup/\(∀j,j ∉ (jk id d k).1->(jk id d k).2 j=[])/\(jk id d k).1.length<=d.1.length+1:=by
 unfold jk;cases (d.2 k).contains id with
 |true=>exact⟨x,w,jQ _⟩
 |false=>
  refine⟨x5 x,fun j u=>?_,(acB k d.1).2⟩;have h:j≠k/\j ∉ d.1:=⟨fun e=>u (qO.2 (.inl e)),fun e=>u (qO.2 (.inr e))⟩;show lH d.2 k (d.2 k++[id]) j=[];rw[lf _ _ h.1];exact w j h.2
def aag(id:ag): ∀(e:List CK) (d:List CK×(CK->List ag)),d.1.Nodup->(∀j,j ∉ d.1->d.2 j=[])->(e.foldl (jk id) d).1.Nodup/\(∀j,j ∉ (e.foldl (jk id) d).1->(e.foldl (jk id) d).2 j=[])/\(e.foldl (jk id) d).1.length<=d.1.length+e.length
 | [],d,h1,h2=>⟨h1,h2,br _⟩
 |k::e,d,h1,h2=>by
  obtain⟨a,b,c⟩:=acA id k d h1 h2;obtain⟨u,h,w⟩:=aag id e _ a b;refine⟨u,h,?_⟩;rw[uA,bH];omega
def Pe(l:List Obj): ∀(os:List Obj) (d:List CK×(CK->List ag)),d.1.Nodup->(∀j,j ∉ d.1->d.2 j=[])->(os.foldl (io l) d).1.Nodup/\(∀j,j ∉ (os.foldl (io l) d).1->(os.foldl (io l) d).2 j=[])/\(os.foldl (io l) d).1.length<=d.1.length+(os.flatMap (jJ l)).length
 | [],d,h1,h2=>⟨h1,h2,br _⟩
 |o::os,d,h1,h2=>by
  obtain⟨a,b,c⟩:=aag o.id (jJ l o) d h1 h2;obtain⟨h,e,u⟩:=Pe l os (io l d o) a b;refine⟨h,e,?_⟩;rw[uA,uy,cJ];have:(io l d o).1.length<=d.1.length+(jJ l o).length:=c;omega
def ao3(l:List Obj):(ip l).1.Nodup:=(Pe l l ([],fun _=>[]) BC fun _ _=>rfl).1
def Y8(l:List Obj):(ip l).1.length<=(l.flatMap (jJ l)).length:=by
 have:(ip l).1.length<=([]:List CK).length+(l.flatMap (jJ l)).length:=(Pe l l ([],fun _=>[]) BC fun _ _=>rfl).2.2;rwa [bn,bV] at this
def iI(l:List Obj):List CK:=Dw (ip l).1
def abM(s:St)(v:aa)(l:List Obj):Prop:= ∃(r c:Nat) (T:CK->Nat),v= .arr 3 r 0 (iI l).length c/\s.get [] r=some (.cells (aF ((iI l).map fun k=>iO (k,(ip l).2 k,T k))))/\r<s.aL
def alP{a b:iz}(h:(iO a).cells=(iO b).cells):a=b:=by
 obtain⟨⟨B,A⟩,j,z⟩:=a;obtain⟨⟨y,x⟩,e,w⟩:=b;simp only[iO,gD,List.cons.injEq,aa.str.injEq,aa.list.injEq,oW.own.injEq,aT,tA] at h;obtain⟨rfl,rfl,u,rfl⟩:=h;have:j=e:=by
  have d:=yX oc j;rw[u,yX oc e] at d;exact(sI d).symm
 rw[this]
variable{l:List Obj}{ov:aa}
section
variable{Q:aH}(hP:Q.P=ae)(hh:Q.hint=ai)(hH: ∀f,Q.specH f=none)
include hP hh hH
theorem alM(hK: ∀i,1000000<=Q.kmax i)(a3:Q.spec 127=none)(H:Q.specW 127=none)(u:Q.spec 220=none)(A:Q.specW 220=some KF)(a2:Q.spec 130=none)(G:Q.specW 130=none)(Z:Q.spec 223=none)(z:Q.specW 223=none)(a0:Q.spec 219=none)(B:Q.specW 219=none)(U:Q.spec 301=none)(x:Q.specW 301=none)(Y:Q.spec 261=none)(y:Q.specW 261=none)(a1:Q.spec 167=none)(F:Q.specW 167=none)(ho:ay 6 Obj.val ov l)(hg: ∀o∈l,o.Al)(hl:l.length<=1000)(hr: ∀o∈l,o.gE.length<=999)(b4:(ip l).1.length<1000000)(hM:bR aa.str s n (i9 0 l))(hn:n<s.aL)(a9:s.gt<=s.aL):
 ∃v s',aq Q 127 [.agg [ov,.map n]] s v s'/\(abM s' v l/\(∀k,k<s.aL->s'.get [] k=s.get [] k)/\s.aL<=s'.aL/\s'.gt<=s'.aL/\v.ge=true):=by
 have b7:=ho.ge;have a5:=ho.scal;have b2:=ho.lenS gX;refine aq.ofWZ hP hH ahF a3 H ?_;refine co ?_;simp only[go_sem,hP,hh,seval,b7,a5,b2,wJ,m7];have b8:Aa (s.new (.map [] 0)) s.aL (s.aL+1) [] (fun _=>[]) (fun _=>0):=⟨cW,BC,fun _ h=>(by cases h),fun _ h=>(by cases h),fun _ _=>rfl,kU _,br _⟩;refine alS hP hh hH a2 G Z z a0 B U x Y y a1 F ho hg hl hr (n:=n) (m:=s.aL) (lo:=s.aL+1) (by omega) (by omega) (s0:=s.new (.map [] 0)) (by show St.get _ [] n=_;rw[cz hn];exact hM) (KE:=(ip l).1) (VE:=(ip l).2) ?_ l [] [] (fun _=>[]) (fun _=>0) _ _ _ rfl rfl b8 (fun _=>ki _) (fun _ _ _=>rfl) (br _) (cq a9) ?_ ?_ ?_ ?_ ?_ ?_ ?_;intro e lc d T hO b6 a8 N h3;have j:=alF abb hO.hm;rw[uj] at j;have b0:ow ae 193 (.int .i64 0) (.int .i64 ((ip l).1.length:Nat)) true d=some (.arr 3 d.aL 0 0 0,d.new (.cells [])):=by
  have h1:bw 0 (ip l).1.length=true:=cP (ki _);have h2:bw ((ip l).1.length*56) 1099511627776=true:=cP (by omega);have h3:bw (ip l).1.length 1099511627776=true:=cP (by omega);have n0:dS (.int .i64 0)=some 0:=rfl;simp only[adz,ow,GB,n0,oz,h1,h2,h3,fp,gN,cw,cF,aZ]
 have c0:s.aL+1<=d.aL:=a8;have S:bR jw (d.new (.cells [])) s.aL (gZ (ip l).1 fun k=>.list 1 (((ip l).2 k).map aG) (.own (T k))):=by
  show St.get _ [] s.aL=_;rw[cz (by omega)];exact hO.hm
 have I:=jv.new abb S;have hI:=jv.begin S (by show s.aL<d.aL+1;omega);rw[uj] at I;simp only[go_sem,hP,hh,seval,h3,j,Py,b0,H3,I,iU];refine alQ hP hh hK (it:=d.aL+1) (m:=s.aL) (K:=(ip l).1) (V:=(ip l).2) (T:=T) b4 (s0:=d) ?_ (ip l).1.length [] _ _ _ d.aL (by simp) (by rw[uj] at hI;exact hI) ?_ ?_ ?_ (br _) (jQ _) (by omega) ?_ ?_ (by omega) (fun k hk=>?_) ?_;intro e2 c1 s2 r rows hp a4 a6 b1 c2 O J;obtain⟨a7,w⟩:=ap3 (ao3 l) (by omega) (fun k=>(k,(ip l).2 k,T k)) (fun _=>rfl) hp;have b3:rows.length=(iI l).length:=by rw[hp.length_eq,ce];exact(GH _).length_eq.symm
 have b5:(bif aQ (aF (rows.map iO)).length (rows.length*3) then xG iO oh jy C5 (aF (rows.map iO)) else none)=some (aF ((iI l).map fun k=>iO (k,(ip l).2 k,T k))):=by
  have h1:(aF (rows.map iO)).length=rows.length*3:=by rw[oG OJ,ce]
  rw[h1,bD,bS,cT,xG,HQ (k:=3) (fun _=>rfl) (by decide) (fun a b=>alP)];simp only[adz,a7,w,mI];rfl
 simp only[go_sem,hP,hh,seval,a4,iU,u];refine cG.of (aq.specWp (n:=r) (cs':=aF ((iI l).map fun k=>iO (k,(ip l).2 k,T k))) u (hH _) A rfl a6 b5) (by decide) ?_;simp only[go_sem,hP,hh,seval,a4,iU];refine⟨_,rfl,⟨r,rows.length,T,by rw[b3],by rw[aX,bS];rfl,b1⟩,fun k hk=>?_,?_,dh s2 r _ J,rfl⟩;rw[aX,bN.2 (by omega:k≠r),cF,O k (by omega),b6 k (by omega) (by omega),cz hk];show s.aL<=s2.aL;omega;simp only[sN,seval]<;>rfl;simp only[sN,seval]<;>rfl;rw[cz (by show d.aL<d.aL+1;omega),cW];rfl;show d.aL<d.aL+1+1;omega;show d.aL+1<d.aL+1+1;omega;rw[cz (by show k<d.aL+1;omega),cz hk];exact cq (cq N)
 all_goals simp only[abc,alb,ah,bQ]
 all_goals rfl
end
variable{lo:Nat}
def LG(G:lV ae t=some E)(w:E.n=sz)(B:E.b<=88){enc:α->aa}{l:List α}(F:cR sz lo s ov (l.map enc))(a:α)(x:l.length<=900000)(u:lo<=s.aL)(A:s.gt<=s.aL):
 ∃d h,fF ae [] t ov (.list sz [enc a] .GE) false s.top=some (d,h)/\cR sz lo (s.Gt h) d ((l++[a]).map enc)/\h.ci=s.ci/\s.aL<=h.aL/\(s.Gt h).gt<=(s.Gt h).aL/\(∀n,n<lo->(s.Gt h).get [] n=s.get [] n)/\d.ge=true/\d.cells=[d]:=by
 obtain⟨d,h,O,z,N,J,S,H,I⟩:=Eb (t:=t) G w B (s:=s.top) (y:=.list sz [enc a] .GE) (ys:=[enc a]) (show cR sz lo s.top ov _ from F) (by subst w;simp only[afo,eE]) (by rw[ce];show l.length+1<=1000000;omega) u (br _);have j:s.aL<=h.aL:=J;have e:(l++[a]).map enc=l.map enc++[enc a]:=by rw[ff];rfl
 exact⟨d,h,O,by rw[e];exact z,N,j,pW A j,H,z.ge,I⟩
variable{i:Nat}
def JB{r:Nat}(h:s.get [] r=some (.cells (aF (R.map iO)))){x:iz}(d:R[i]? =some x):yT ae 200 (i*3) (s.get [] r)=some (iO x):=by
 rw[h,aY,apt,ZW OJ (by rw[jf,d];rfl)];rfl
def OL(mk:aK)(n m o l c:Nat)(s:St):jo ae mk 193 (.arr n m o l c) s=some (.int .i64 (l:Nat)):=by kernel_rfl
def Gi{k:ag}{q:Obj}(h:dP k l=some q):fJ l k=(q.x,q.y):=by unfold fJ;rw[h]
variable{K:Ex->Fr->St->Prop}{c:Nat}
section
variable{Q:aH}(hP:Q.P=ae)(hh:Q.hint=ai)(hH: ∀f,Q.specH f=none)
include hP hh hH
theorem aqv(u:Q.spec 129=none)(A:Q.specW 129=none)(ho:ay 6 Obj.val ov l){r:Nat}(b6:R.length<=1000)(hk: ∀x∈R,(∃q,dP x.1.1 l=some q)/\ ∃q,dP x.1.2 l=some q){s0:St}(hM:bR aa.str s0 n (i9 0 l))(hr:s0.get [] r=some (.cells (aF (R.map iO))))(hn:n<lo)(b2:r<lo)(hx: ∀e lc s sv,cR 4 lo s sv ((R.map fun x=>pA l x.1).map bX)->(∀k,k<lo->s.get [] k=s0.get [] k)->s.gt<=s.aL->lo<=s.aL->ac e 5=sv->K (.exit 0) ⟨e,30,lc⟩ s):
 ∀(j d:List iz) (e:ax) (lc:Ag.Loc) (s:St) (sv:aa),R=d++j->cR 4 lo s sv ((d.map fun x=>pA l x.1).map bX)->(∀k,k<lo->s.get [] k=s0.get [] k)->s.gt<=s.aL->lo<=s.aL->ac e 5=sv->ac e 8= .arr 3 r 0 R.length c->ac e 9= .int .i64 (R.length:Nat)->ac e 10= .int .i64 (d.length:Nat)->ac e 2= .Ge 2 1 0->lc.get 2 1=some [ov,.map n]->lc.gen 2=1->W Q 132 (.loop Nu) ⟨e,30,lc⟩ s K:=by
 intro j
 induction j with
 |nil=>
  intro d e lc s sv H Z w h F h5 h8 h9 z h2 I g2;have b5:d.length=R.length:=by rw[H];simp
  have b3:d=R:=by rw[H];simp
  refine bG ?_;simp only[go_sem,hP,hh,seval,Nu,h9,z,b5,cD];rw[b3] at Z;exact hx _ _ _ sv Z w h F (by simp only[sN,seval,h5])
 |cons x j ih=>
  intro d e lc s sv H Z w h F h5 h8 h9 z h2 I g2;have b4:d.length<R.length:=by rw[H];simp
  have Y:R[d.length]? =some x:=by rw[H];simp
  have b1:s.get [] r=_:=(w r b2).trans hr;have U:=JB b1 Y;have b0:=dB (n:=d.length) (by omega);have a0:bR aa.str s.top n (i9 0 l):=(w n hn).trans hM;obtain⟨⟨q1,O⟩,⟨q2,N⟩⟩:=hk x (eP Y);have p1:=PF hP hh hH u A ho a0 O;have p2:=PF hP hh hH u A ho a0 N;have G:=ho.ge;have B:=Z.ge;have S:=kZ h;have n0:dS (.int .i64 0)=some 0:=rfl;have n1:dS (.int .i64 1)=some 1:=rfl;obtain⟨a9,s1,a1,a2,a3,a4,a5,a6,a7,a8⟩:=LG (t:=205) zF.1 rfl (by decide) Z (pA l x.1) (by
   rw[ce];omega) F h
  have J:bX (pA l x.1)= .agg [.int .i64 q1.x,.int .i64 q1.y,.int .i64 q2.x,.int .i64 q2.y]:=by
   simp only[bX,pA,Gi O,Gi N]
  rw[J] at a1;simp only[iO] at U;refine lk ?_;simp only[go_sem,hP,hh,seval,Nu,h8,h9,z,b4,U,aW,GB,L8];refine iT h ?_;simp only[go_sem,hP,hh,Im,seval,h5,h2,I,g2,u,B,G,n0,n1];refine kY.calm h p1 (by decide) (by rfl) ?_;simp only[go_sem,hP,hh,Im,seval,h5,h2,I,g2,u,B,G,n0,n1];refine kY.calm h p2 (by decide) (by rfl) ?_;simp only[go_sem,hP,hh,Im,seval,aU,z,b0,h5,h2,I,g2,B,G,n0,n1,a1,a3,a4,a7,S,bj,bg,aZ,bf,evc];refine ih (d++[x]) _ _ (s.Gt s1) a9 (by rw[H];simp) (by rw[ff];exact a2) (fun k hk=>(a6 k hk).trans (w k hk)) a5 (by show lo<=s1.aL;omega) ?_ ?_ ?_ ?_ ?_ ?_ ?_
  all_goals simp only[abc,dj,cY,ah,h2,I,g2,h8,h9,sA]
theorem aqw(u:Q.spec 132=none)(d:Q.specW 132=none)(w:Q.spec 129=none)(h:Q.specW 129=none)(B:ay 6 Obj.val ov l){r:Nat}(H:R.length<=1000)(U: ∀x∈R,(∃q,dP x.1.1 l=some q)/\ ∃q,dP x.1.2 l=some q)(Y:bR aa.str s n (i9 0 l))(O:s.get [] r=some (.cells (aF (R.map iO))))(S:n<s.aL)(A:r<s.aL)(F:s.gt<=s.aL):
 ∃v s',aq Q 132 [.agg [ov,.map n],.arr 3 r 0 R.length c] s v s'/\(ay 4 bX v (R.map fun x=>pA l x.1)/\(∀k,k<s.aL->s'.get [] k=s.get [] k)/\s.aL<=s'.aL/\s'.gt<=s'.aL):=by
 have J:=B.ge;have z:=B.scal;refine aq.ofWZ hP hH ahQ u d ?_;refine WE.sound ?_;simp only[go_sem,hP,hh,seval,J,z,wJ,iU,OL];refine aqv hP hh hH w h B (c:=c) (lo:=s.aL) H U Y O S A ?_ R [] _ _ s .AL rfl (.inl ⟨rfl,rfl⟩) (fun _ _=>rfl) F (br _) ?_ ?_ ?_ ?_ ?_ ?_ ?_;intro e lc s1 sv N I j G Z;have y:=N.ge;simp only[go_sem,hP,hh,seval,Z,y];exact⟨_,rfl,N.isL,I,G,j⟩
 all_goals simp only[abc,alb,ah,bQ]
 all_goals rfl
end
def OY(x y z:Int):Int:=match tM false (.int .i64 x) [.int .i64 y,.int .i64 z] with|some (.int _ w)=>w|_=>0
def O1(x y z:Int):Int:=match tM true (.int .i64 x) [.int .i64 y,.int .i64 z] with|some (.int _ w)=>w|_=>0
def SO(P:Program)(mk:aK)(d:List TypeId)(e:Bool)(x y z:Int)(s:St):jH P mk .min d e [.int .i64 x,.int .i64 y,.int .i64 z] s=some (.int .i64 (OY x y z),s):=rfl
def SP(P:Program)(mk:aK)(d:List TypeId)(e:Bool)(x y z:Int)(s:St):jH P mk .max d e [.int .i64 x,.int .i64 y,.int .i64 z] s=some (.int .i64 (O1 x y z),s):=rfl
def rM(n:Nat):List Int:=(ix n).map fun i=>((i:Nat):Int)
def Vj(n:Nat):(rM n).length=n:=by simp[rM]
def Nf(h:i<n):(rM n)[i]? =some ((i:Nat):Int):=by simp[rM,h]
variable{segs:List bT}{lv:aa}
section
variable{Q:aH}(hP:Q.P=ae)(hh:Q.hint=ai)
include hP hh
theorem amO{sv:aa}(hs:ay 4 bX sv segs)(hl:ay 1 cd lv (rM segs.length))(b2:segs.length<=1000){s0:St}(hx: ∀e lc s ov,cR 4 lo s ov (segs.map bX)->(∀k,k<lo->s.get [] k=s0.get [] k)->s.gt<=s.aL->lo<=s.aL->ac e 6=ov->ac e 1=lv->ac e 2= .map m->K (.exit 0) ⟨e,208,lc⟩ s):
 ∀(h d:List bT) (e:ax) (lc:Ag.Loc) (s:St) (ov:aa) (a b:Int),segs=d++h->cR 4 lo s ov (d.map bX)->(∀k,k<lo->s.get [] k=s0.get [] k)->s.gt<=s.aL->lo<=s.aL->ac e 6=ov->ac e 7= .int .i64 a->ac e 8= .int .i64 b->ac e 0=sv->ac e 1=lv->ac e 2= .map m->ac e 26=lv->ac e 27= .int .i64 (segs.length:Nat)->ac e 28= .int .i64 (d.length:Nat)->W Q 131 (.loop Il) ⟨e,208,lc⟩ s K:=by
 intro h
 induction h with
 |nil=>
  intro d e lc s ov a b J S I F H h6 Y U Z r1 h2 w u j;have b0:d.length=segs.length:=by rw[J];simp
  have a9:d=segs:=by rw[J];simp
  refine bG ?_;simp only[go_sem,hP,hh,seval,Il,u,j,b0,cD];rw[a9] at S;exact hx _ _ _ ov S I F H (by simp only[sN,seval,h6]) (by simp only[sN,seval,r1]) (by simp only[sN,seval,h2])
 |cons g h ih=>
  intro d e lc s ov a b J S I F H h6 Y U Z r1 h2 w u j;have G:d.length<segs.length:=by rw[J];simp
  have b1:segs[d.length]? =some g:=by rw[J];simp
  have O:=fun lc k=>hs.at zF.2.2.1 b1 lc k;have N:=fun lc k=>hl.at ng.2.2.1 (Nf G) lc k;have z:=dB (n:=d.length) (by omega);have x:=S.ge;obtain⟨B,s1,a1,a2,a3,a4,a5,a6,a7⟩:=Eb (t:=205) zF.1 rfl (by decide) (s:=s) (y:=.list 4 [bX g] .GE) (ys:=[bX g]) S (by simp only[afo,eE]) (by simp only[ce,bH,bn];omega) H F;have A:=a2.ge;simp only[bX] at a1;have a8:cR 4 lo s1 B ((d++[g]).map bX):=by rw[ff];exact a2
  have a0: ∀k,k<lo->s1.get [] k=s0.get [] k:=fun k hk=>(a6 k hk).trans (I k hk);refine bG ?_;cases h0z:an ((d.length:Nat):Int) 0 with
  |true=>
   simp only[go_sem,hP,hh,seval,Il,h6,Y,U,Z,w,u,j,G,O,N,z,bX,cd,x,bj,bg,aZ,bf,evc];simp only[go_sem,hP,hh,seval,Y,U,j,z,x,A,a1,h0z,a5,sY,ru,SO,SP,bj,bg,aZ,bf,evc];refine ih (d++[g]) _ _ s1 B (OY (min g.1.1 g.2.1) g.1.1 g.2.1) (O1 (max g.1.1 g.2.1) g.1.1 g.2.1) (by rw[J];simp) a8 a0 a5 (by omega) ?_ ?_ ?_ ?_ ?_ ?_ ?_ ?_ ?_
   all_goals first
    |(simp only[sN,seval,Z,r1,h2,w,u,sA];done)
    |(simp only[sN,seval];rfl)
  |false=>
   simp only[go_sem,hP,hh,seval,Il,h6,Y,U,Z,w,u,j,G,O,N,z,bX,cd,x,bj,bg,aZ,bf,evc];simp only[go_sem,hP,hh,seval,Y,U,j,z,x,A,a1,h0z,a5,sY,ru,SO,SP,bj,bg,aZ,bf,evc];refine ih (d++[g]) _ _ s1 B (OY a g.1.1 g.2.1) (O1 b g.1.1 g.2.1) (by rw[J];simp) a8 a0 a5 (by omega) ?_ ?_ ?_ ?_ ?_ ?_ ?_ ?_ ?_
   all_goals first
    |(simp only[sN,seval,Z,r1,h2,w,u,sA];done)
    |(simp only[sN,seval];rfl)
end
def aeX(a b c d:Int):kI ae 8 207 (.agg [.int .i64 a,.int .i64 b]) (.agg [.int .i64 c,.int .i64 d])=some (bif an a c then an b d else false):=by
 have h:kI ae 8 207 (.agg [.int .i64 a,.int .i64 b]) (.agg [.int .i64 c,.int .i64 d])=(some (an a c)).bind fun r=>bif r then(some (an b d)).bind fun r=>bif r then some true else some false else some false:=by kernel_rfl
 rw[h];cases an a c<;>cases an b d<;>rfl
def alj:BI ae 207 aU where
 eq a b:=by
  obtain⟨j,e⟩:=a;obtain⟨d,b2⟩:=b;have h:=aeX j e d b2;have w:aU (j,e)= .agg [.int .i64 j,.int .i64 e]:=rfl;have u:aU (d,b2)= .agg [.int .i64 d,.int .i64 b2]:=rfl;rw[w,u,h];by_cases h1:j=d<;>by_cases h2:e=b2<;>simp[an,h1,h2]
 same a:=by simp[aU,tI,wI,xF,an]
 ge _:=rfl
def als(k:Int×Int):lP ae 203 (aU k)=some (207,3):=by kernel_rfl
def nL(l:List Mt):List ((Int×Int)×aa):=l.map fun x=>((x.1,x.2.1),.int .i64 x.2.2)
def UF{k:Int×Int}: ∀ {l:List Mt},(∀y∈l,(y.1,y.2.1)≠k)->cI k (nL l)=none
 | [],_=>rfl
 |y::l,h=>by
  show(if k=(y.1,y.2.1) then _ else cI k (nL l))=_;rw[iN fun e=>h y iL e.symm];exact UF fun z d=>h z (iE _ d)
def LF{l:List bT}{x:Mt}(h:x∈ie l):(0<=x.1/\x.1<l.length)/\(0<=x.2.1/\x.2.1<l.length):=by
 obtain⟨a,u,b,j,d⟩:=J9 h;have e:=Ci d;have y:=AU u;have w:=AU j;omega
def O0(l:List Mt):ay 3 im (FL l) l:=by
 cases l with
 |nil=>exact .inl ⟨rfl,rfl⟩
 |cons x l=>exact .inr ⟨.no,rfl⟩
section
variable{Q:aH}(hP:Q.P=ae)(hh:Q.hint=ai)
include hP hh
theorem anl(hl:ay 1 cd lv (rM segs.length))(u:segs.length<=1000){s0:St}(hx: ∀e lc s,eL m s0 s->bR aU s m (nL (ie segs))->K (.exit 2) ⟨e,208,lc⟩ s):
 ∀(h d:List Mt) (e:ax) (lc:Ag.Loc) (s:St),ie segs=d++h->eL m s0 s->bR aU s m (nL d)->ac e 1=lv->ac e 2= .map m->ac e 82=FL (ie segs)->ac e 83= .int .i64 ((ie segs).length:Nat)->ac e 84= .int .i64 (d.length:Nat)->W Q 131 (.loop Nt) ⟨e,208,lc⟩ s K:=by
 have a6:(ie segs).length<=1000000:=by
  have:=Gc (F:=fM) (kK 0 segs);rw[wX] at this;have:segs.length*segs.length<=1000*1000:=rf u u;unfold ie;omega
 intro h
 induction h with
 |nil=>
  intro d e lc s B N O U S z j w;have a3:d.length=(ie segs).length:=by rw[B];simp
  have a0:d=ie segs:=by rw[B];simp
  refine bG ?_;simp only[go_sem,hP,hh,seval,Nt,j,w,a3,cD];rw[a0] at O;exact hx _ _ _ N O
 |cons x h ih=>
  intro d e lc s B N O U S z j w;have a2:d.length<(ie segs).length:=by rw[B];simp
  have J:(ie segs)[d.length]? =some x:=by rw[B];simp
  have a4:=fun lc k=>(O0 (ie segs)).at GC.2.2.1 J lc k;have Z:=dB (n:=d.length) (by omega);obtain⟨⟨b1,b2⟩,b3,b4⟩:=LF (eP J);have Y:=hl.ge;have ea:x.1=((x.1.toNat:Nat):Int):=(K8 b1).symm;have eb:x.2.1=((x.2.1.toNat:Nat):Int):=(K8 b3).symm;have I: ∀lc,ja ae lc 26 lv (.int .i64 x.1)=some (.ro [.int .i64 x.1]):=fun lc=>by
   rw[ea];exact hl.at ng.2.2.1 (Nf (by omega)) lc .i64
  have H: ∀lc,ja ae lc 26 lv (.int .i64 x.2.1)=some (.ro [.int .i64 x.2.1]):=fun lc=>by
   rw[eb];exact hl.at ng.2.2.1 (Nf (by omega)) lc .i64
  have a1:cI (x.1,x.2.1) (nL d)=none:=UF fun y hy e=>by
   have hs:(ie segs).Pairwise vn:=Gd (Cw segs 0);rw[B] at hs
   have:=(List.pairwise_append.1 hs).2.2 y hy x iL;simp only[bI] at e;simp only[vn] at this;omega
  have a5:bR aU s.top m (nL d):=O;have A:=vU alj als a5 (x.1,x.2.1) (.int .i64 x.2.2);have G:fe (x.1,x.2.1) (.int .i64 x.2.2) (nL d)=nL (d++[x]):=by
   rw[vj a1];unfold nL;rw[ff];rfl
  rw[G] at A;simp only[aU] at A;refine bG ?_;simp only[go_sem,hP,hh,seval,Nt,U,S,z,j,w,a2,a4,Z,im,I,H,Y,N.mw,A,bj,bg,aZ,bf,evc];refine ih (d++[x]) _ _ _ (by rw[B];simp) (N.putT _) ?_ ?_ ?_ ?_ ?_ ?_;show St.get _ [] m=_;rw[mY,aX,bS];rfl
  all_goals simp only[sN,seval,U,S,z,j,sA]
variable(hH: ∀f,Q.specH f=none)
include hH
theorem amw(B:Q.spec 131=none)(h:Q.specW 131=none)(A:Q.spec 224=some Ae){sv:aa}(hs:ay 4 bX sv segs)(F:ay 1 cd lv (rM segs.length))(d:segs.length<=1000)(hn: ∀x∈segs,qP x=true)(hM:bR aU s m [])(N:m<s.aL)(J:s.gt<=s.aL):
 ∃v s',aq Q 131 [sv,lv,.map m] s v s'/\(v= .tup []/\bR aU s' m (nL (ie segs))/\(∀k,k<s.aL->k≠m->s'.get [] k=s.get [] k)/\s.aL<=s'.aL/\s'.gt<=s'.aL):=by
 have a1:=hs.ge;have H:=F.ge;have y:=F.lenS ng;rw[Vj] at y;have u:=(O0 (ie segs)).lenS GC;have O:=(O0 (ie segs)).ge;refine aq.ofWZ hP hH ahP B h ?_;refine WE.sound ?_;simp only[go_sem,hP,hh,seval,y,H];refine amO hP hh hs F d (m:=m) (lo:=s.aL) (s0:=s) ?_ segs [] _ _ s .AL 0 0 rfl (.inl ⟨rfl,rfl⟩) (fun _ _=>rfl) J (br _) ?_ ?_ ?_ ?_ ?_ ?_ ?_ ?_ ?_
 ·intro e lc s1 ov Z z j S h6 r1 r2
  have G:=Z.ge;have w:=Z.isL.lenS zF;have U:cr ((segs.length:Nat):Int) 20000=true:=by simp only[cr,dE];omega
  have q1:=acF Z.isL d hn;simp only[go_sem,hP,hh,seval,h6,r1,r2,G,w,U,A,q1,u,O,fh,bj,bg,aZ,bf,evc];refine anl hP hh F d (m:=m) (s0:=s1) ?_ (ie segs) [] _ _ s1 rfl (.refl j) ((z m N).trans hM) ?_ ?_ ?_ ?_ ?_;intro e2 a2 s2 Y a0;simp only[go_sem,hP,hh,seval];exact⟨_,rfl,rfl,a0,fun k hk I=>(Y.old k I).trans (z k hk),by rw[Y.aL];exact S,Y.mw⟩
  all_goals simp only[sN,seval,r1,r2,bn]
  all_goals rfl
 all_goals simp only[sN,seval,bn]
 all_goals rfl
end
def alr(k:CK):lP ae 195 (jw k)=some (196,4):=by kernel_rfl
def ku(KB:List CK):List (CK×aa):=gZ KB fun _=>.bool true
variable{KB:List CK}
def ac0(d:KB.Nodup)(k:CK):fe k (.bool true) (ku KB)=ku (fq k KB):=by
 unfold ku;rw[Cv _ d];exact KQ fun j _=>by
  by_cases h:j=k;subst h;rw[qm];rw[lf _ _ h]
noncomputable def noted(mb:Nat)(KB:List CK)(s:St):St:=s.put mb (some (.map (dw jw 0 (ku KB)) (ku KB).length))
def P8(mk:aK)(m off len lcap:Nat)(lo d:Option Operand)(e:ax)(s:St):jE ae mk 25 (.arr 1 m off len lcap) lo d none e s=(fR e d len).bind fun h=>(fR e lo 0).bind fun l=>bif bw l h&&bw h len then some (.arr 1 m (off+l*1) (h-l) (lcap-l)) else none:=by
 have h:jE ae mk 25 (.arr 1 m off len lcap) lo d none e s=(fR e d len).bind fun h=>(fR e lo 0).bind fun l=>bif aQ 1 1&&bw l h&&bw h len&&true then some (.arr 1 m (off+l*1) (h-l) (lcap-l)) else none:=by kernel_rfl
 rw[h];simp only[je,Nat.beq_refl,eH]
def ad2(d:Bool)(s:St)(m c:Nat)(a b:aa)(h:s.get [] m=some (.cells [a,b])):jH ae [] .clear [25] d [.arr 1 m 1 1 c] s=some (.tup [],s.put m (some (.cells [a,.str []]))):=by
 have u:ae.underlying 25=some (.slice 9):=by kernel_rfl
 simp only[afo,jH,u,au,uT,cH,h];rfl
variable{bx mb:Nat}
section
variable{Q:aH}(hP:Q.P=ae)(hh:Q.hint=ai)(hH: ∀f,Q.specH f=none)
include hP hh hH
theorem Yc(j:Q.spec 128=none)(e:Q.specW 128=none)(x:s.get [] bx=some (.cells [.map mb]))(y:bR jw s mb (ku KB))(w:KB.Nodup)(a b:ag):aq Q 128 [.str a,.str b,.ptr bx 0] s (.tup []) (noted mb (fq (fu a b) KB) s):=by
 have d:=vU OA alr y (fu a b) (.bool true);rw[ac0 w] at d;simp only[jw,fu] at d;have u: ∃v s',aq Q 128 [.str a,.str b,.ptr bx 0] s v s'/\(v= .tup []/\s'=noted mb (fq (fu a b) KB) s):=by
  refine aq.ofWZ hP hH ahH j e ?_;refine WE.sound ?_;simp only[go_sem,hP,hh,df,bP,ah,aB,bQ,ee,ey,eI,cK,ew,ep,reduceCtorEq,eR,x,aW,aY,Ee,Ef,wJ,d,J8,bj,bg,aZ,bf,evc];exact⟨_,rfl,rfl,rfl⟩
 obtain⟨v,s',h,rfl,rfl⟩:=u;exact h
theorem aeq(x:Q.spec 133=none)(u:Q.specW 133=none){a b:ag}(B:s.get [] n=some (.cells [.str a,.str b]))(w:s.gt<=s.aL):
 ∃v s',aq Q 133 [.arr 1 n 0 2 2] s v s'/\((a=b/\v= .arr 1 n 0 1 2/\s'=s.put n (some (.cells [.str a,.str []])))\/(a≠b/\v= .arr 1 n 0 2 2/\s'=s)):=by
 have G:IntKind.i64.wrap (1-1)=0:=by decide
 have O:IntKind.i64.wrap (1+1)=2:=by decide
 have w3:IntKind.i64.wrap (2-1)=1:=by decide
 have w4:IntKind.i64.wrap (2+1)=3:=by decide
 have Z:bc ((2:Nat):Int) 2=false:=by decide
 have J:bc 1 ((2:Nat):Int)=true:=by decide
 have Y:bc 2 ((2:Nat):Int)=false:=by decide
 have U:bc 1 ((1:Nat):Int)=false:=by decide
 have I:dS (.int .i64 0)=some 0:=rfl;have H:dS (.int .i64 1)=some 1:=rfl;have A: ∀j,ac j 27= .int .i64 1->fR j (some (.tmp 27)) 0=some 1:=fun j h=>by show(ev j (.tmp 27)).bind dS=_;rw[aA,h];rfl
 have z: ∀j,ac j 55= .int .i64 1->fR j (some (.tmp 55)) 0=some 1:=fun j h=>by show(ev j (.tmp 55)).bind dS=_;rw[aA,h];rfl
 have y: ∀j k,ac j 58= .int .i64 1->fR j (some (.tmp 58)) k=some 1:=fun j k h=>by show(ev j (.tmp 58)).bind dS=_;rw[aA,h];rfl
 have N: ∀j d,fR j none d=some d:=fun _ _=>rfl;have F:=fun S c=>ad2 S s n c (.str a) (.str b) B;refine aq.ofWZ hP hH ahS x u ?_;refine co ?_;simp only[go_sem,hP,hh,df,bP,ah,aB,bQ,ee,ey,eI,cK,ew,ep,reduceCtorEq,eR,yQ,iU,Z];refine bG ?_;cases hab:b==a with
 |true=>
  have e:a=b:=(eq_of_beq hab).symm;subst e;simp only[go_sem,hP,hh,df,bP,ah,aB,bQ,ee,ey,eI,cK,ew,ep,reduceCtorEq,eR,Nw,yQ,cH,iU,J,I,H,G,w,B,aW,aY,hab,xL,P8,A,N];refine bG ?_;simp only[go_sem,hP,hh,df,bP,ah,aB,bQ,ee,ey,eI,cK,ew,ep,reduceCtorEq,eR,ahT,yQ,iU,U,P8,z,y,N,F];exact⟨_,rfl,.inl rfl⟩
 |false=>
  have e:a≠b:=fun e=>by rw[e] at hab;simp at hab
  simp only[go_sem,hP,hh,df,bP,ah,aB,bQ,ee,ey,eI,cK,ew,ep,reduceCtorEq,eR,Nw,yQ,cH,iU,J,I,H,G,O,w,B,aW,aY,hab,xL];refine bG ?_;simp only[go_sem,hP,hh,df,bP,ah,aB,bQ,ee,ey,eI,cK,ew,ep,reduceCtorEq,eR,Nw,yQ,iU,Y];exact⟨_,rfl,.inr ⟨e,rfl⟩⟩
end
def W7(a b:ag):fu a b=if dz a b<=0 then(a,b) else(b,a):=by
 have u:=B6 a b;unfold fu CS CQ;by_cases hl:dz a b<0;have d:fN a b=true:=u.1 hl;have e:Ag.leBytes a b=true:=by show(fN a b||a==b)=true;rw[d];rfl
 rw[d,e,iP (by omega)];rfl;have d:fN a b=false:=by
  cases h:fN a b with
  |true=>exact absurd (u.2 h) hl
  |false=>rfl
 by_cases hz:dz a b=0
 have:=uU hz;subst this;have e:Ag.leBytes a a=true:=by show(fN a a||a==a)=true;simp
 rw[d,e,iP (by omega)];rfl;have j:(a==b)=false:=by
  cases h:a==b with
  |true=>rw[eq_of_beq h] at hz;exact absurd (En b) hz
  |false=>rfl
 have e:Ag.leBytes a b=false:=by show(fN a b||a==b)=false;rw[d,j];rfl
 rw[d,e,iN (by omega)];rfl
def alk(a b:ag):fu a b=fu b a:=by
 rw[W7,W7,B7 a b];by_cases h:dz a b=0
 have:=uU h;subst this;rw[h];rfl;by_cases h2:dz a b<=0;rw[iP h2,iN (by omega)];rw[iN h2,iP (by omega)]
def y9(id:ag)(KB:List CK)(os:List ag):List CK:=os.foldl (fun KB o=>fq (fu o id) KB) KB
def XP{id:ag}{k:CK}: ∀ {os:List ag} {KB:List CK},k∈y9 id KB os↔k∈KB\/ ∃o∈os,k=fu o id
 | [],KB=>by simp[y9]
 |o::os,KB=>by
  show k∈y9 id (fq (fu o id) KB) os↔_;rw[XP,qO];simp only[fc];constructor;rintro((h|h)|⟨x,hx,h⟩);exact .inr ⟨o,.inl rfl,h⟩;exact .inl h;exact .inr ⟨x,.inr hx,h⟩;rintro(h|⟨x,rfl|hx,h⟩);exact .inl (.inr h);exact .inl (.inl h);exact .inr ⟨x,hx,h⟩
def Yd{id:ag}: ∀ {os:List ag} {KB:List CK},KB.Nodup->(y9 id KB os).Nodup
 | [],_,h=>h
 |o::os,KB,h=>Yd (os:=os) (x5 h)
structure z8 (l:List Obj) (D:List ag) (KB:List CK) (K:List Pt) (V:Pt->List ag):Prop where
 v: ∀q id,id∈V q↔id∈D/\fJ l id=q
 b: ∀k,k∈KB↔ ∃x y,x∈D/\y∈D/\x≠y/\fJ l x=fJ l y/\k=fu x y
 nd:KB.Nodup
 len: ∀q,(V q).length<=D.length
variable{K:List Pt}{D:List ag}{V:Pt->List ag}
def z8.old(h:z8 l D KB K V){id:ag}(u:id∈V (fJ l id)):z8 l (D++[id]) KB K V:=by
 have w:=((h.v _ _).1 u).1;have d: ∀x,x∈D++[id]↔x∈D:=fun x=>by
  rw[lj,BB];exact⟨fun j=>j.elim (fun h=>h) fun e=>e▸w,.inl⟩
 refine⟨fun q x=>by rw[d];exact h.v q x,fun k=>?_,h.nd,fun q=>by rw[cJ];have:=h.len q;omega⟩;rw[h.b];simp only[d]
theorem z8.new(h:z8 l D KB K V){id:ag}(A:id ∉ V (fJ l id)):z8 l (D++[id]) (y9 id KB (V (fJ l id))) (fq (fJ l id) K) (lH V (fJ l id) (V (fJ l id)++[id])):=by
 have F:id ∉ D:=fun B=>A ((h.v _ _).2 ⟨B,rfl⟩);have z: ∀x,x∈D++[id]↔x∈D\/x=id:=fun x=>by rw[lj,BB]
 refine⟨fun q x=>?_,fun k=>?_,Yd h.nd,fun q=>?_⟩;rw[z];by_cases hq:q=fJ l id;subst hq;rw[qm,lj,BB,h.v];constructor;rintro(⟨h1,d⟩|rfl);exact⟨.inl h1,d⟩;exact⟨.inr rfl,rfl⟩;rintro⟨h1|h1,d⟩;exact .inl ⟨h1,d⟩;exact .inr h1;rw[lf _ _ hq,h.v];constructor;rintro⟨h1,d⟩;exact⟨.inl h1,d⟩;rintro⟨h1|rfl,d⟩;exact⟨h1,d⟩;exact absurd d.symm hq;rw[XP,h.b];simp only[z,h.v];constructor;rintro(⟨x,y,h1,d,j,w,u⟩|⟨o,⟨h1,d⟩,j⟩);exact⟨x,y,.inl h1,.inl d,j,w,u⟩;exact⟨o,id,.inl h1,.inr rfl,fun e=>F (e▸h1),d,j⟩;rintro⟨x,y,h1|rfl,d|rfl,j,w,u⟩;exact .inl ⟨x,y,h1,d,j,w,u⟩;exact .inr ⟨x,⟨h1,w⟩,u⟩;exact .inr ⟨y,⟨d,w.symm⟩,by rw[u,alk]⟩;exact absurd rfl j;rw[cJ];by_cases hq:q=fJ l id;subst hq;rw[qm,cJ]
 have:=h.len (fJ l id);simp only[bH,bn];omega;rw[lf _ _ hq]
 have:=h.len q;omega
def Ye{s0:St}(h:eL mb s0 s):eL mb s0 (noted mb KB s):=h.put _
def Yf:bR jw (noted mb KB s) mb (ku KB):=bR.put
variable{lc:Ag.Loc}{KE:List CK}{v:aa}{E0:ax}
section
variable{Q:aH}(hP:Q.P=ae)(hh:Q.hint=ai)(hH: ∀f,Q.specH f=none)
include hP hh hH
theorem adj(y:Q.spec 128=none)(F:Q.specW 128=none){os:List ag}(hv:ay 1 aG v os)(a4:os.length<=1000000){id:ag}(S:bx≠mb){s0:St}(hb:s0.get [] bx=some (.cells [.map mb]))(hx: ∀e s,eL mb s0 s->bR jw s mb (ku KE)->(∀t,t≠15->t≠66->t≠67->t<68->ac e t=ac E0 t)->C (.exit 4) ⟨e,180,lc⟩ s):
 ∀(h d:List ag) (KB:List CK) (e:ax) (s:St),os=d++h->KB.Nodup->y9 id KB h=KE->eL mb s0 s->bR jw s mb (ku KB)->(∀t,t≠15->t≠66->t≠67->t<68->ac e t=ac E0 t)->ac E0 7= .func (.func 128) [] [.ptr bx 0]->ac E0 12= .str id->ac E0 64=v->ac E0 65= .int .i64 (os.length:Nat)->ac e 66= .int .i64 (d.length:Nat)->W Q 59 (.loop Ol) ⟨e,180,lc⟩ s C:=by
 intro h
 induction h with
 |nil=>
  intro d KB e s j N hf I hM x e7 B A w u;have Y:d.length=os.length:=by rw[j];simp
  have z:=(x 65 (by decide) (by decide) (by decide) (by decide)).trans w;refine bG ?_;simp only[go_sem,hP,hh,seval,Ol,z,u,Y,cD];refine hx _ _ I (by rw[<-hf];exact hM) fun t j J H h4=>?_;rw[JO _ _ _ _ (by simpa using H)];exact x t j J H h4
 |cons o h ih=>
  intro d KB e s j N hf I hM x e7 B A w u;have U:d.length<os.length:=by rw[j];simp
  have a1:os[d.length]? =some o:=by rw[j];simp
  have Z:=fun lc k=>hv.at cH.2.2.1 a1 lc k;have O:=dB (n:=d.length) (by omega);have z:=(x 65 (by decide) (by decide) (by decide) (by decide)).trans w;have a2:=(x 64 (by decide) (by decide) (by decide) (by decide)).trans A;have h7:=(x 7 (by decide) (by decide) (by decide) (by decide)).trans e7;have a3:=(x 12 (by decide) (by decide) (by decide) (by decide)).trans B;have a0:s.get [] bx=_:=(I.old bx S).trans hb;have G:=Yc hP hh hH y F a0 hM N o id;refine bG ?_;simp only[go_sem,hP,hh,seval,Ol,h7,a3,a2,z,u,U,Z,aG,y];refine cG.of G (by decide) ?_;simp only[go_sem,hP,hh,seval,u,O];refine ih (d++[o]) (fq (fu o id) KB) _ _ (by rw[j];simp) (x5 N) hf (Ye I) Yf (fun t j J H h4=>?_) e7 B A w (by simp only[sN,seval,sA]);have hh: ∀k,68<=k->(t==k)=false:=fun k hk=>by simp;omega
  have c1:(t==15)=false:=by simpa using j
  have c2:(t==66)=false:=by simpa using J
  have c3:(t==67)=false:=by simpa using H
  simp only[abK,hh 68 (by decide),hh 69 (by decide),hh 70 (by decide),hh 71 (by decide),hh 72 (by decide),hh 73 (by decide),hh 74 (by decide),c1,c2,c3];exact x t j J H h4
end
def aeY(a b c d:Int):kI ae 8 49 (.agg [.int .i64 a,.int .i64 b]) (.agg [.int .i64 c,.int .i64 d])=some (bif an a c then an b d else false):=by
 have h:kI ae 8 49 (.agg [.int .i64 a,.int .i64 b]) (.agg [.int .i64 c,.int .i64 d])=(some (an a c)).bind fun r=>bif r then(some (an b d)).bind fun r=>bif r then some true else some false else some false:=by kernel_rfl
 rw[h];cases an a c<;>cases an b d<;>rfl
def W9:BI ae 49 aU where
 eq a b:=by
  obtain⟨j,e⟩:=a;obtain⟨d,b2⟩:=b;have h:=aeY j e d b2;have w:aU (j,e)= .agg [.int .i64 j,.int .i64 e]:=rfl;have u:aU (d,b2)= .agg [.int .i64 d,.int .i64 b2]:=rfl;rw[w,u,h];by_cases h1:j=d<;>by_cases h2:e=b2<;>simp[an,h1,h2]
 same a:=by simp[aU,tI,wI,xF,an]
 ge _:=rfl
def Xb(k:Pt):lP ae 198 (aU k)=some (49,25):=by kernel_rfl
structure D5 (l:List Obj) (s0 s:St) (ma mb lo:Nat) (D:List ag) (KB:List CK) (K:List Pt) (V:Pt->List ag) (T:Pt->Nat):Prop where
 o:sO aU aG s ma lo K V T
 m:bR jw s mb (ku KB)
 fr: ∀k,k<lo->k≠ma->k≠mb->s.get [] k=s0.get [] k
 i:z8 l D KB K V
 nx:s0.aL<=s.aL
 mw:s.gt<=s.aL
structure Hk (e:ax) (lc:Ag.Loc) (ov lv:aa) (n bx ma:Nat):Prop where
 h3:ac e 3= .Ge 3 1 0
 h5:ac e 5=lv
 h6:ac e 6= .ptr bx 0
 h7:ac e 7= .func (.func 128) [] [.ptr bx 0]
 h8:ac e 8= .map ma
 l3:lc.get 3 1=some [ov,.map n]
 g3:lc.gen 3=1
section
variable{Q:aH}(hP:Q.P=ae)(hh:Q.hint=ai)(hH: ∀f,Q.specH f=none)
include hP hh hH
theorem ada(b6:Q.spec 128=none)(b2:Q.specW 128=none)(O:Q.spec 129=none)(b1:Q.specW 129=none)(B:Q.spec 130=none)(b0:Q.specW 130=none)(b5:Q.spec 223=none)(a0:Q.specW 223=none)(ho:ay 6 Obj.val ov l){ma:Nat}(c1:n≠ma)(c2:n≠mb)(c3:n<lo)(c4:bx≠ma)(c5:bx≠mb)(c6:bx<lo)(c7:mb≠ma)(c8:mb<lo){s0:St}(hM:bR aa.str s0 n (i9 0 l))(d2:s0.get [] bx=some (.cells [.map mb])){a b:ag}(d5: ∀id,id∈ [a,b]-> ∃q,dP id l=some q){x42 x43 x44:aa}(hD:D.length<=10000)(hx: ∀e lc s KB K V T,D5 l s0 s ma mb lo (D++[a,b]) KB K V T->Hk e lc ov lv n bx ma->ac e 42=x42->ac e 43=x43->ac e 44=x44->C (.exit 2) ⟨e,180,lc⟩ s):
 ∀(j d:List ag) (e:ax) (lc:Ag.Loc) (s:St) (KB:List CK) (K:List Pt) (V:Pt->List ag) (T:Pt->Nat),[a,b]=d++j->D5 l s0 s ma mb lo (D++d) KB K V T->Hk e lc ov lv n bx ma->ac e 42=x42->ac e 43=x43->ac e 44=x44->ac e 49= .agg [.str a,.str b]->ac e 50= .int .i64 (d.length:Nat)->W Q 59 (.loop Om) ⟨e,180,lc⟩ s C:=by
 intro j
 induction j with
 |nil=>
  intro d e lc s KB K V T Z S E J I H G A;have b8:d=[a,b]:=by rw[Z];simp
  subst b8;have hl:bc ((2:Nat):Int) 2=false:=rfl;refine bG ?_;simp only[go_sem,hP,hh,df,bP,ah,aB,bQ,ee,ey,eI,cK,ew,ep,reduceCtorEq,eR,Om,A,hl];refine hx _ _ s KB K V T S ⟨?_,?_,?_,?_,?_,E.l3,E.g3⟩ ?_ ?_ ?_
  all_goals simp only[sN,ah,bQ,E.h3,E.h5,E.h6,E.h7,E.h8,J,I,H]
 |cons id j ih=>
  intro d e lc s KB K V T Z S E J I H G A;obtain⟨h3,h5,h6,h7,h8,l3,g3⟩:=E;have c0:d.length<2:=by
   have:=congrArg List.length Z;simp only[akZ] at this;omega
  have d4:([a,b]:List ag)[d.length]? =some id:=by rw[Z];simp
  have Y:bc ((d.length:Nat):Int) 2=true:=by simp only[bc,dE];omega
  have d0:AM ae 196 (.agg [.str a,.str b]) (.int .i64 (d.length:Nat))=some (.str id):=by
   rw[ahz,oz];have hb:bm d.length 2=true:=cP c0;simp only[adz,hb,iB,Nat.mul_one,List.head?_drop];have:([aa.str a,aa.str b]:List aa)=([a,b]:List ag).map aa.str:=rfl;rw[this,jf,d4];rfl
  have b3:=dB (n:=d.length) (by omega);obtain⟨q,hq⟩:=d5 id (by rw[Z];simp);have b4:=Gi hq;have d6:bR aa.str s n (i9 0 l):=(S.fr n c3 c1 c2).trans hM;have N:=PF hP hh hH O b1 ho d6 hq;have d1:=ho.ge;obtain⟨v,z,F⟩:=S.o.look W9 Xb v8 (fJ l id);have U:=F.ge;have b7:=S.i.len (fJ l id);have f2:(D++d).length<=10002:=by rw[cJ];omega
  have u:=Ms hP hh hH b5 a0 B b0 F (by omega) id s;have c9:=F.lenS cH;rw[b4] at z;simp only[aU] at z N;have e2:D++d++[id]=D++(d++[id]):=by simp
  refine lk ?_;simp only[go_sem,hP,hh,df,bP,ah,aB,bQ,ee,ey,eI,cK,ew,ep,reduceCtorEq,eR,Om,h3,h8,G,A,Y,d0,l3,g3,O,d1];refine cG.of N (by decide) ?_;cases hc:(V (fJ l id)).contains id with
  |true=>
   rw[hc] at u;have y:id∈V (fJ l id):=by simpa using hc
   simp only[go_sem,hP,hh,df,bP,ah,aB,bQ,ee,ey,eI,cK,ew,ep,reduceCtorEq,eR,h8,z,B,U];refine cG.of u (by decide) ?_;simp only[go_sem,hP,hh,df,bP,ah,aB,bQ,ee,ey,eI,cK,ew,ep,reduceCtorEq,eR,A,b3];refine ih (d++[id]) _ _ s KB K V T (by rw[Z];simp) ⟨S.o,S.m,S.fr,by rw[<-e2];exact S.i.old y,S.nx,S.mw⟩ ⟨?_,?_,?_,?_,?_,?_,?_⟩ ?_ ?_ ?_ ?_ ?_
   all_goals simp only[abc,dj,cY,ah,h3,h5,h6,h7,h8,l3,g3,J,I,H,G,sA]
  |false=>
   rw[hc] at u;have y:id ∉ V (fJ l id):=by
    intro h;have:(V (fJ l id)).contains id=true:=by simpa using h
    rw[hc] at this;cases this
   simp only[go_sem,hP,hh,df,bP,ah,aB,bQ,ee,ey,eI,cK,ew,ep,reduceCtorEq,eR,h8,z,B,U];refine cG.of u (by decide) ?_;simp only[go_sem,hP,hh,df,bP,ah,aB,bQ,ee,ey,eI,cK,ew,ep,reduceCtorEq,eR,h8,z,U,c9];refine adj hP hh hH b6 b2 F (by omega) (id:=id) (bx:=bx) (mb:=mb) c5 (s0:=s) ((S.fr bx c6 c4 c5).trans d2) (KE:=y9 id KB (V (fJ l id))) ?_ (V (fJ l id)) [] KB _ s rfl S.i.nd rfl (.refl S.mw) S.m (fun _ _ _ _ _=>rfl) ?_ ?_ ?_ ?_ ?_
   ·intro x s2 hB d7 w
    have e6:ac x 3= .Ge 3 1 0:=(w 3 (by decide) (by decide) (by decide) (by decide)).trans (by simp only[sN,ah,bQ,h3]);have g5:ac x 5=lv:=(w 5 (by decide) (by decide) (by decide) (by decide)).trans (by simp only[sN,ah,bQ,h5]);have g6:ac x 6= .ptr bx 0:=(w 6 (by decide) (by decide) (by decide) (by decide)).trans (by simp only[sN,ah,bQ,h6]);have g7:ac x 7= .func (.func 128) [] [.ptr bx 0]:=(w 7 (by decide) (by decide) (by decide) (by decide)).trans (by simp only[sN,ah,bQ,h7]);have g8:ac x 8= .map ma:=(w 8 (by decide) (by decide) (by decide) (by decide)).trans (by simp only[sN,ah,bQ,h8]);have e8:ac x 12= .str id:=(w 12 (by decide) (by decide) (by decide) (by decide)).trans (by simp only[sN,ah,bQ]);have e7:ac x 13= .Ge 13 (lc.gen 13+1) 0:=(w 13 (by decide) (by decide) (by decide) (by decide)).trans (by simp only[sN,ah,bQ]);have e5:ac x 42=x42:=(w 42 (by decide) (by decide) (by decide) (by decide)).trans (by simp only[sN,ah,bQ,J]);have e4:ac x 43=x43:=(w 43 (by decide) (by decide) (by decide) (by decide)).trans (by simp only[sN,ah,bQ,I]);have e3:ac x 44=x44:=(w 44 (by decide) (by decide) (by decide) (by decide)).trans (by simp only[sN,ah,bQ,H]);have e1:ac x 49= .agg [.str a,.str b]:=(w 49 (by decide) (by decide) (by decide) (by decide)).trans (by simp only[sN,ah,bQ,G]);have e0:ac x 50= .int .i64 (d.length:Nat):=(w 50 (by decide) (by decide) (by decide) (by decide)).trans (by simp only[sN,ah,bQ,A]);have S2:sO aU aG s2 ma lo K V T:=S.o.mono (hB.old ma c7.symm) (fun k hk=>hB.old _ (by have:=(S.o.tok k hk).2.1;omega)) (by rw[hB.aL];exact br _);obtain⟨v0,p,s3,av,s4,s5,a1,a2,a3,a4,a5,a6,a7,a8,a9,e9⟩:=S2.app W9 Xb v8 cH.1 rfl (fun n hn=>vI hn (by decide)) (fJ l id) id (by omega) hB.mw;rw[b4] at a1;simp only[aU] at a1;simp only[aG] at a3;have f1:=hB.aL;have f0:=S.nx;simp only[go_sem,hP,hh,df,bP,ah,aB,bQ,ee,ey,eI,cK,ew,ep,reduceCtorEq,eR,g8,e8,e7,e0,b3,MZ,MY,a1,a2,a3,a4,a5,fh,bj,bg,aZ,bf,evc];refine ih (d++[id]) _ _ s5 (y9 id KB (V (fJ l id))) _ _ _ (by rw[Z];simp) ⟨a6,?_,fun k k1 k2 k3=>?_,by rw[<-e2];exact S.i.new y,by omega,e9⟩ ⟨?_,?_,?_,?_,?_,?_,?_⟩ ?_ ?_ ?_ ?_ ?_;exact(a7 mb c8 c7).trans d7;rw[a7 k k1 k2,hB.old k k3];exact S.fr k k1 k2 k3
    all_goals simp only[abc,dj,cY,ah,e6,g5,g6,g7,g8,l3,g3,e5,e4,e3,e1,sA]
   all_goals simp only[sN,ah,bQ,h7,bn]
   all_goals rfl
end
def qE(R:List iz):List ag:=R.flatMap fun x=>[x.1.1,x.1.2]
def aeP(R:List iz)(x:iz):qE (R++[x])=qE R++[x.1.1,x.1.2]:=by simp[qE]
def aeO(R:List iz):(qE R).length=2*R.length:=by
 induction R with
 |nil=>rfl
 |cons x R d=>
  show([x.1.1,x.1.2]++qE R).length=_;rw[cJ,d];simp only[bH,bn];omega
section
variable{Q:aH}(hP:Q.P=ae)(hh:Q.hint=ai)(hH: ∀f,Q.specH f=none)
include hP hh hH
theorem adf(U:Q.spec 128=none)(F:Q.specW 128=none)(O:Q.spec 129=none)(B:Q.specW 129=none)(N:Q.spec 130=none)(A:Q.specW 130=none)(J:Q.spec 223=none)(z:Q.specW 223=none)(ho:ay 6 Obj.val ov l){ma r:Nat}(c1:n≠ma)(c2:n≠mb)(c3:n<lo)(c4:bx≠ma)(c5:bx≠mb)(c6:bx<lo)(c7:mb≠ma)(c8:mb<lo)(c9:r≠ma)(a8:r≠mb)(a7:r<lo){s0:St}(hM:bR aa.str s0 n (i9 0 l))(a6:s0.get [] bx=some (.cells [.map mb]))(b1:R.length<=1000)(hR:s0.get [] r=some (.cells (aF (R.map iO))))(hk: ∀x∈R,(∃q,dP x.1.1 l=some q)/\ ∃q,dP x.1.2 l=some q)(hx: ∀e lc s KB K V T,D5 l s0 s ma mb lo (qE R) KB K V T->Hk e lc ov (.arr 3 r 0 R.length c) n bx ma->C (.exit 0) ⟨e,180,lc⟩ s):
 ∀(h d:List iz) (e:ax) (lc:Ag.Loc) (s:St) (KB:List CK) (K:List Pt) (V:Pt->List ag) (T:Pt->Nat),R=d++h->D5 l s0 s ma mb lo (qE d) KB K V T->Hk e lc ov (.arr 3 r 0 R.length c) n bx ma->ac e 42= .arr 3 r 0 R.length c->ac e 43= .int .i64 (R.length:Nat)->ac e 44= .int .i64 (d.length:Nat)->W Q 59 (.loop On) ⟨e,180,lc⟩ s C:=by
 intro h
 induction h with
 |nil=>
  intro d e lc s KB K V T y S E w u j;have a5:d.length=R.length:=by rw[y];simp
  have a3:d=R:=by rw[y];simp
  rw[a3] at S;refine bG ?_;simp only[go_sem,hP,hh,seval,On,u,j,a5,cD];refine hx _ _ s KB K V T S ⟨?_,?_,?_,?_,?_,E.l3,E.g3⟩
  all_goals simp only[sN,seval,E.h3,E.h5,E.h6,E.h7,E.h8]
 |cons x h ih=>
  intro d e lc s KB K V T y S E w u j;have a4:d.length<R.length:=by rw[y];simp
  have I:R[d.length]? =some x:=by rw[y];simp
  have a2:s.get [] r=_:=(S.fr r a7 c9 a8).trans hR;have G:=JB a2 I;have a1:=dB (n:=d.length) (by omega);have H:=hk x (eP I);obtain⟨h3,h5,h6,h7,h8,l3,g3⟩:=E;simp only[iO] at G;refine bG ?_;simp only[go_sem,hP,hh,seval,On,w,u,j,a4,G,aW,GB];refine ada hP hh hH U F O B N A J z ho (lv:=.arr 3 r 0 R.length c) c1 c2 c3 c4 c5 c6 c7 c8 hM a6 (a:=x.1.1) (b:=x.1.2) (fun id hid=>?_) (x42:=.arr 3 r 0 R.length c) (x43:=.int .i64 (R.length:Nat)) (x44:=.int .i64 (d.length:Nat)) (D:=qE d) (by rw[aeO];omega) ?_ [x.1.1,x.1.2] [] _ _ s KB K V T rfl (by rw[kC];exact S) ⟨?_,?_,?_,?_,?_,?_,?_⟩ ?_ ?_ ?_ ?_ ?_;simp only[fc,zT,or_false] at hid;rcases hid with rfl|rfl
  exact H.1;exact H.2
  ·intro e2 b0 s2 a9 K2 V2 T2 S2 E2 a0 Z Y
   obtain⟨i3,i5,i6,i7,i8,j3,k3⟩:=E2;simp only[go_sem,hP,hh,seval,Y,a1];refine ih (d++[x]) _ _ s2 a9 K2 V2 T2 (by rw[y];simp) (by rw[aeP];exact S2) ⟨?_,?_,?_,?_,?_,j3,k3⟩ ?_ ?_ ?_
   all_goals simp only[sN,seval,i3,i5,i6,i7,i8,a0,Z,sA]
  all_goals simp only[abc,dj,cY,ah,h3,h5,h6,h7,h8,l3,g3,w,u,j,bn]
  all_goals rfl
omit hH in
theorem adk{N:Nat}(hN:N<=1000){s0:St}(hx: ∀e s ov,cR 1 lo s ov ((rM N).map cd)->(∀k,k<lo->s.get [] k=s0.get [] k)->s.gt<=s.aL->lo<=s.aL->ac e 16=ov->ac e 3=ac E0 3->ac e 5=ac E0 5->ac e 6=ac E0 6->ac e 7=ac E0 7->C (.exit 6) ⟨e,180,lc⟩ s):
 ∀(c i:Nat) (e:ax) (s:St) (ov:aa),c+i=N->cR 1 lo s ov ((rM i).map cd)->(∀k,k<lo->s.get [] k=s0.get [] k)->s.gt<=s.aL->lo<=s.aL->ac e 16=ov->ac e 3=ac E0 3->ac e 5=ac E0 5->ac e 6=ac E0 6->ac e 7=ac E0 7->ac e 86= .int .i64 (N:Nat)->ac e 87= .int .i64 (i:Nat)->W Q 59 (.loop Oo) ⟨e,180,lc⟩ s C:=by
 intro c
 induction c with
 |zero=>
  intro i e s ov hc A u h j x S O J I d w;have:i=N:=by omega
  subst this;refine bG ?_;simp only[go_sem,hP,hh,seval,Oo,d,w,cD];refine hx _ s ov A u h j ?_ ?_ ?_ ?_ ?_
  all_goals simp only[sN,seval,x,S,O,J,I]
 |succ c ih=>
  intro i e s ov hc A u h j x S O J I d w;have H:i<N:=by omega
  have G:=dB (n:=i) (by omega);have B:=A.ge;obtain⟨F,s1,Z,U,a3,a4,a5,a6,a7⟩:=Eb (t:=26) ng.1 rfl (by decide) (s:=s) (y:=.list 1 [cd i] .GE) (ys:=[cd i]) A (by simp only[afo,eE]) (by simp only[ce,bH,bn,Vj];omega) j h;have z:=U.ge;have e1:(rM i).map cd++[cd i]=(rM (i+1)).map cd:=by simp[rM,List.range_succ]
  rw[e1] at U;simp only[cd] at Z;refine bG ?_;simp only[go_sem,hP,hh,seval,Oo,x,d,w,H,G,B,z,Z,bj,bg,aZ,bf,evc];refine ih (i+1) _ s1 F (by omega) U (fun k Y=>(a6 k Y).trans (u k Y)) a5 (by omega) ?_ ?_ ?_ ?_ ?_ ?_ ?_
  all_goals simp only[sN,seval,S,O,J,I,d]
end
def xi(u:ag)(KB:List CK)(ys:List ag):List CK:=ys.foldl (fun KB y=>fq (fu u y) KB) KB
def rY(ys:List ag)(KB:List CK)(us:List ag):List CK:=us.foldl (fun KB u=>xi u KB ys) KB
def XQ{u:ag}{k:CK}: ∀ {ys:List ag} {KB:List CK},k∈xi u KB ys↔k∈KB\/ ∃y∈ys,k=fu u y
 | [],KB=>by simp[xi]
 |o::os,KB=>by
  show k∈xi u (fq (fu u o) KB) os↔_;rw[XQ,qO];simp only[fc];constructor;rintro((h|h)|⟨x,hx,h⟩);exact .inr ⟨o,.inl rfl,h⟩;exact .inl h;exact .inr ⟨x,.inr hx,h⟩;rintro(h|⟨x,rfl|hx,h⟩);exact .inl (.inr h);exact .inl (.inl h);exact .inr ⟨x,hx,h⟩
def Pc{u:ag}: ∀ {os:List ag} {KB:List CK},KB.Nodup->(xi u KB os).Nodup
 | [],_,h=>h
 |o::os,KB,h=>Pc (os:=os) (x5 h)
def XR{ys:List ag}{k:CK}: ∀ {us:List ag} {KB:List CK},k∈rY ys KB us↔k∈KB\/ ∃u∈us, ∃y∈ys,k=fu u y
 | [],KB=>by simp[rY]
 |u::us,KB=>by
  show k∈rY ys (xi u KB ys) us↔_;rw[XR,XQ];simp only[fc];constructor;rintro((h|⟨y,d,h⟩)|⟨x,hx,h⟩);exact .inl h;exact .inr ⟨u,.inl rfl,y,d,h⟩;exact .inr ⟨x,.inr hx,h⟩;rintro(h|⟨x,rfl|hx,h⟩);exact .inl (.inl h);exact .inl (.inr h);exact .inr ⟨x,hx,h⟩
def JN{ys:List ag}: ∀ {us:List ag} {KB:List CK},KB.Nodup->(rY ys KB us).Nodup
 | [],_,h=>h
 |u::us,KB,h=>JN (us:=us) (Pc h)
variable{ys:List ag}
section
variable{Q:aH}(hP:Q.P=ae)(hh:Q.hint=ai)(hH: ∀f,Q.specH f=none)
include hP hh hH
theorem ade(B:Q.spec 128=none)(G:Q.specW 128=none)(hv:ay 1 aG v ys)(a3:ys.length<=1000000){u:ag}(S:bx≠mb){s0:St}(hb:s0.get [] bx=some (.cells [.map mb]))(hx: ∀e s,eL mb s0 s->bR jw s mb (ku KE)->(∀t,t≠27->t<155->ac e t=ac E0 t)->C (.exit 12) ⟨e,180,lc⟩ s):
 ∀(h d:List ag) (KB:List CK) (e:ax) (s:St),ys=d++h->KB.Nodup->xi u KB h=KE->eL mb s0 s->bR jw s mb (ku KB)->(∀t,t≠27->t<155->ac e t=ac E0 t)->ac E0 7= .func (.func 128) [] [.ptr bx 0]->ac E0 25= .str u->ac E0 153=v->ac E0 154= .int .i64 (ys.length:Nat)->ac e 155= .int .i64 (d.length:Nat)->W Q 59 (.loop Oq) ⟨e,180,lc⟩ s C:=by
 intro h
 induction h with
 |nil=>
  intro d KB e s z N hf J hM A e7 F y w j;have Y:d.length=ys.length:=by rw[z];simp
  have x:=(A 154 (by decide) (by decide)).trans w;refine bG ?_;simp only[go_sem,hP,hh,seval,Oq,x,j,Y,cD];refine hx _ _ J (by rw[<-hf];exact hM) fun t z h2=>?_;rw[JO _ _ _ _ (by simp;omega)];exact A t z h2
 |cons o h ih=>
  intro d KB e s z N hf J hM A e7 F y w j;have U:d.length<ys.length:=by rw[z];simp
  have a1:ys[d.length]? =some o:=by rw[z];simp
  have Z:=fun lc k=>hv.at cH.2.2.1 a1 lc k;have O:=dB (n:=d.length) (by omega);have x:=(A 154 (by decide) (by decide)).trans w;have I:=(A 153 (by decide) (by decide)).trans y;have h7:=(A 7 (by decide) (by decide)).trans e7;have a2:=(A 25 (by decide) (by decide)).trans F;have a0:s.get [] bx=_:=(J.old bx S).trans hb;have H:=Yc hP hh hH B G a0 hM N u o;refine bG ?_;simp only[go_sem,hP,hh,seval,Oq,h7,a2,I,x,j,U,Z,aG,B];refine cG.of H (by decide) ?_;simp only[go_sem,hP,hh,seval,j,O];refine ih (d++[o]) (fq (fu u o) KB) _ _ (by rw[z];simp) (x5 N) hf (Ye J) Yf (fun t z h2=>?_) e7 F y w (by simp only[sN,seval,sA]);have hh: ∀k,155<=k->(t==k)=false:=fun k hk=>by simp;omega
  have c1:(t==27)=false:=by simpa using z
  simp only[abK,hh 155 (by decide),hh 156 (by decide),hh 157 (by decide),hh 158 (by decide),hh 159 (by decide),hh 160 (by decide),hh 161 (by decide),hh 162 (by decide),hh 163 (by decide),c1];exact A t z h2
theorem LY(N:Q.spec 128=none)(H:Q.specW 128=none){us:List ag}{va vb:aa}(Z:ay 1 aG va us)(A:ay 1 aG vb ys)(b2:us.length<=1000000)(a0:ys.length<=1000000){kb:Nat}{p1 p2:ag}(I:bx≠mb)(a5:kb≠mb){s0:St}(hb:s0.get [] bx=some (.cells [.map mb]))(hk:s0.get [] kb=some (.cells [.str p1,.str p2,vb]))(hx: ∀e s,eL mb s0 s->bR jw s mb (ku KE)->(∀t,t<25->ac e t=ac E0 t)->ac e 103=ac E0 103->C (.exit 10) ⟨e,180,lc⟩ s):
 ∀(h d:List ag) (KB:List CK) (e:ax) (s:St),us=d++h->KB.Nodup->rY ys KB h=KE->eL mb s0 s->bR jw s mb (ku KB)->(∀t,t<25->ac e t=ac E0 t)->ac e 103=ac E0 103->ac E0 7= .func (.func 128) [] [.ptr bx 0]->ac E0 22= .ptr kb 0->ac e 146=va->ac e 147= .int .i64 (us.length:Nat)->ac e 148= .int .i64 (d.length:Nat)->W Q 59 (.loop Ot) ⟨e,180,lc⟩ s C:=by
 intro h
 induction h with
 |nil=>
  intro d KB e s B U hf G hM J j e7 F z x w;have a3:d.length=us.length:=by rw[B];simp
  refine bG ?_;simp only[go_sem,hP,hh,seval,Ot,x,w,a3,cD];refine hx _ _ G (by rw[<-hf];exact hM) (fun t B=>?_) ?_;rw[JO _ _ _ _ (by simp;omega)];exact J t B;simp only[sN,seval,j]
 |cons o h ih=>
  intro d KB e s B U hf G hM J j e7 F z x w;have a1:d.length<us.length:=by rw[B];simp
  have a8:us[d.length]? =some o:=by rw[B];simp
  have a6:=fun lc k=>Z.at cH.2.2.1 a8 lc k;have Y:=dB (n:=d.length) (by omega);have h7:=(J 7 (by decide)).trans e7;have b1:=(J 22 (by decide)).trans F;have a7:s.get [] bx=_:=(G.old bx I).trans hb;have a4:s.get [] kb=_:=(G.old kb a5).trans hk;have a2:=A.lenS cH;have S:=A.ge;refine bG ?_;simp only[go_sem,hP,hh,seval,Ot,b1,z,x,w,a1,a6,aG,aW,a4,aY,a2,S];refine ade hP hh hH N H A a0 (u:=o) (bx:=bx) I (s0:=s) a7 (KE:=xi o KB ys) ?_ ys [] KB _ s rfl U rfl (.refl G.mw) hM (fun _ _ _=>rfl) ?_ ?_ ?_ ?_ ?_;intro e2 s2 b0 a9 y;have O:ac e2 148= .int .i64 (d.length:Nat):=(y 148 (by decide) (by decide)).trans (by simp only[sN,seval,w]);simp only[go_sem,hP,hh,seval,O,Y];refine ih (d++[o]) (xi o KB ys) _ s2 (by rw[B];simp) (Pc U) hf (G.trans b0) a9 (fun t ht=>?_) ?_ e7 F ?_ ?_ ?_;have hh: ∀k,25<=k->(t==k)=false:=fun k hk=>by simp;omega
  simp only[abK,hh 164 (by decide),hh 148 (by decide)];rw[y t (by omega) (by omega)];simp only[abK,hh 155 (by decide),hh 154 (by decide),hh 153 (by decide),hh 152 (by decide),hh 25 (by decide),hh 151 (by decide),hh 150 (by decide),hh 149 (by decide)];exact J t ht;simp only[sN,seval];rw[y 103 (by decide) (by decide)];simp only[sN,seval,j];simp only[sN,seval];rw[y 146 (by decide) (by decide)];simp only[sN,seval,z];simp only[sN,seval];rw[y 147 (by decide) (by decide)];simp only[sN,seval,x];simp only[sN,seval,sA]
  all_goals simp only[sN,seval,h7,bn]
  all_goals rfl
end
def ac5(a b:CK):eB ae .eql 196 (.agg [.str a.1,.str a.2]) (.agg [.str b.1,.str b.2])=some (.bool (wK a b)):=by
 have h:eB ae .eql 196 (.agg [.str a.1,.str a.2]) (.agg [.str b.1,.str b.2])=(kI ae 8 196 (.agg [.str a.1,.str a.2]) (.agg [.str b.1,.str b.2])).bind fun r=>some (.bool r):=by kernel_rfl
 rw[h,TY];rfl
def aan(mk:aK)(m:Nat)(cs:List aa)(e:ax)(s:St)(h:s.get mk m=some (.cells cs))(u:2<=cs.length):jE ae mk 196 (.ptr m 0) none none none e s=some (.arr 1 m 0 2 2):=by
 have j:jE ae mk 196 (.ptr m 0) none none none e s=(s.get mk m).bind fun o=>match o with
  | .cells cs=>bif bw 0 2&&bw 2 2&&true&&bm 0 (2*1)&&bw (0+2*1) cs.length then some (.arr 1 m (0+0*1) (2-0) (2-0)) else none
  |_=>none:=by kernel_rfl
 rw[j,h];have d:bw (0+2*1) cs.length=true:=cP (by omega);simp only[au,d];rfl
def HM(a b:CK):Bool:=[b.1,b.2].contains a.1|| [b.1,b.2].contains a.2
def qf(a b:CK)(d:Int):Bool:=wK a b||(an d 1&&HM a b)
def wW(R:List iz)(x:Mt)(k:CK):Prop:=qf (R.getD x.1.toNat jy).1 (R.getD x.2.1.toNat jy).1 x.2.2=false/\ ∃u∈(R.getD x.1.toNat jy).2.1, ∃y∈(R.getD x.2.1.toNat jy).2.1,k=fu u y
def arY:ae.underlying 203=some (.map 207 3):=by kernel_rfl
variable{M:List Mt}
theorem afR{b:Nat}{p:(Int×Int)×aa}(h:(nL M)[b]? =some p): ∃x,M[b]? =some x/\p=((x.1,x.2.1),.int .i64 x.2.2):=by
 grind [nL]
section
variable{Q:aH}(hP:Q.P=ae)(hh:Q.hint=ai)(hH: ∀f,Q.specH f=none)
include hP hh hH
theorem adh(hK: ∀i,1000000<=Q.kmax i)(a2:Q.spec 128=none)(a0:Q.specW 128=none)(U:Q.spec 130=none)(a5:Q.specW 130=none)(a7:Q.spec 223=none)(a4:Q.specW 223=none){mf r:Nat}(f5:M.length<=1000000)(f4:R.length<=1000)(f2: ∀x∈M,(0<=x.1/\x.1<R.length)/\(0<=x.2.1/\x.2.1<R.length))(e4: ∀x∈R,x.2.1.length<=1000000)(c1:it<lo)(c2:mf<lo)(c3:bx<lo)(c4:mb<lo)(c5:r<lo)(d1:mf≠it)(d2:bx≠it)(d3:mb≠it)(d4:r≠it)(d5:mf≠mb)(d6:bx≠mb)(d7:r≠mb){s0:St}(hM:bR aU s0 mf (nL M))(f1:s0.get [] bx=some (.cells [.map mb]))(hR:s0.get [] r=some (.cells (aF (R.map iO)))){KB0:List CK}(hx: ∀e lc s KB,(∀k,k∈KB↔k∈KB0\/ ∃x∈M,wW R x k)->KB.Nodup->bR jw s mb (ku KB)->(∀k,k<lo->k≠it->k≠mb->s.get [] k=s0.get [] k)->s0.aL<=s.aL->s.gt<=s.aL->ac e 6=ac E0 6->C (.exit 8) ⟨e,180,lc⟩ s):
 ∀(cc:Nat) (seen:List Nat) (e:ax) (lc:Ag.Loc) (s:St) (KB:List CK),cc+seen.length=M.length->jv aU s it mf (nL M) seen->(∀k,k∈KB↔k∈KB0\/ ∃b∈seen, ∃x,M[b]? =some x/\wW R x k)->KB.Nodup->bR jw s mb (ku KB)->(∀k,k<lo->k≠it->k≠mb->s.get [] k=s0.get [] k)->s0.aL<=s.aL->lo<=s.aL->s.gt<=s.aL->
  ac e 6=ac E0 6->ac e 5= .arr 3 r 0 R.length c->ac e 7= .func (.func 128) [] [.ptr bx 0]->ac e 103= .ptr it 0->W Q 59 (.loop Js) ⟨e,180,lc⟩ s C:=by
 have f3:(nL M).length=M.length:=ce ..;intro cc
 induction cc with
 |zero=>
  intro seen e lc s KB hc I e5 Z hB a3 c6 f0 b8 h6 h5 h7 j;rcases I.aL Q.ch Q.kmax (fun i=>by have:=hK i;omega) with⟨hp,hn⟩|⟨b,p,s1,hb,hnm,hlt,_⟩
  refine bG ?_;simp only[go_sem,hP,hh,seval,Js,j,yG,hn,fh,bj,bg,aZ,bf,evc];refine hx _ _ s KB (fun k=>?_) Z hB a3 c6 b8 (by simp only[sN,seval,h6]);rw[e5];refine or_congr Iff.rfl ⟨?_,?_⟩
  grind
  rintro⟨x,N,h2⟩;obtain⟨b,hb,rfl⟩:=G7 N;exact⟨b,hp.mem_iff.2 (List.mem_range.2 (by omega)),M[b],gn hb,h2⟩;omega
 |succ cc ih=>
  intro seen e lc s KB hc I e5 Z hB a3 c6 f0 b8 h6 h5 h7 j;rcases I.aL Q.ch Q.kmax (fun i=>by have:=hK i;omega) with⟨hp,hn⟩|⟨b,p,s1,hb,hnm,hlt,hn,ho,hi,hn1,hm1⟩
  have:=hp.length_eq;rw[DU] at this;omega
  ·obtain⟨x,e9,rfl⟩:=afR hb
   have I1:=I.go d1 hb hnm ho hi;have e1:=jv.entry hi I1.hm hb;have S:s1.gt<=s1.aL:=by rw[hm1,hn1];exact dh s it none b8
   obtain⟨⟨b1,b2⟩,b3,b4⟩:=f2 x (eP e9);have e0:x.1.toNat<R.length:=by omega
   have d0:x.2.1.toNat<R.length:=by omega
   obtain⟨u,b7⟩: ∃u,R[x.1.toNat]? =some u:=⟨_,gn e0⟩;obtain⟨d,b6⟩: ∃d,R[x.2.1.toNat]? =some d:=⟨_,gn d0⟩;have ga:R.getD x.1.toNat jy=u:=by rw[nA,b7];rfl
   have gb:R.getD x.2.1.toNat jy=d:=by rw[nA,b6];rfl
   have n1:dS (.int .i64 x.1)=some x.1.toNat:=by
    conv=>lhs;rw[<-K8 b1]
    exact oz _ _
   have n2:dS (.int .i64 x.2.1)=some x.2.1.toNat:=by
    conv=>lhs;rw[<-K8 b3]
    exact oz _ _
   have e3:s1.get [] r=_:=((ho r d4).trans (a3 r c5 d4 d7)).trans hR;have la:=JB e3 b7;have lb:=JB e3 b6;have m0:dS (.int .i64 0)=some 0:=rfl;have m1:dS (.int .i64 1)=some 1:=rfl;simp only[iO] at la lb;simp only[aU] at hn e1;have c9:=kZ S;have c8:=alA S (.cells [.str [],.str [],.AL]);have a6:(s1.new (.cells [.str [],.str [],.AL])).gt<=(s1.new (.cells [.str [],.str [],.AL])).aL:=cq S;have c7:=kZ a6;obtain⟨z,hz⟩:=ct ((s1.new (.cells [.str [],.str [],.AL])).Gt ((s1.new (.cells [.str [],.str [],.AL])).top.put s1.aL (some (.cells [.str d.1.1,.str d.1.2,.list 1 (d.2.1.map aG) (.own d.2.2)]))));have zn:z.aL=s1.aL+1:=by rw[<-hz];rfl
   have F:z.gt<=z.aL:=by rw[<-hz];exact pW a6 (br _)
   have zg: ∀k,k≠s1.aL->z.get [] k=(s1.new (.cells [.str [],.str [],.AL])).get [] k:=fun k hk=>by rw[<-hz,mY,aX,bN.2 hk];rfl
   have zo: ∀k,k<s1.aL->z.get [] k=s1.get [] k:=fun k hk=>(zg k (by omega)).trans (cz hk);have O:z.get [] s1.aL=some (.cells [.str d.1.1,.str d.1.2,.list 1 (d.2.1.map aG) (.own d.2.2)]):=by rw[<-hz,mY,aX,bS];rfl
   have H: ∀e,jE ae [] 196 (.ptr s1.aL 0) none none none e z.top=some (.arr 1 s1.aL 0 2 2):=fun e=>aan _ _ _ _ _ (show z.top.get [] s1.aL=_ from O) (by simp);have fin: ∀(e':ax) (b5:Ag.Loc) (s':St) (KB':List CK),(∀k,k∈KB'↔k∈KB\/wW R x k)->KB'.Nodup->bR jw s' mb (ku KB')->(∀k,k<s1.aL->k≠mb->s'.get [] k=s1.get [] k)->s'.aL=s1.aL+1->s'.gt<=s'.aL->ac e' 6=ac E0 6->ac e' 5= .arr 3 r 0 R.length c->ac e' 7= .func (.func 128) [] [.ptr bx 0]->ac e' 103= .ptr it 0->W Q 59 (.loop Js) ⟨e',180,b5⟩ s' C:=by
    intro e' b5 s' KB' k1 k2 k3 k4 k5 k6 k7 k8 k9 e8;refine ih (seen++[b]) e' b5 s' KB' (by grind) ⟨(k4 it (by omega) d3.symm).trans I1.hi,(k4 mf (by omega) d5).trans I1.hm,I1.nd,I1.lt⟩ (fun k=>?_) k2 k3 (fun k q1 q2 q3=>?_) (by omega) (by omega) k6 k7 k8 k9 e8
    grind
    grind
   have zB:bR jw z mb (ku KB):=((zo mb (by omega)).trans (ho mb d3)).trans hB;have a8:z.get [] bx=some (.cells [.map mb]):=(((zo bx (by omega)).trans (ho bx d2)).trans (a3 bx c3 d2 d6)).trans f1;have Y: ∀(i:Nat) (y:ag),([d.1.1,d.1.2]:List ag)[i]? =some y->([aa.str d.1.1,aa.str d.1.2,.list 1 (d.2.1.map aG) (.own d.2.2)]:List aa)[0+i]? =some (.str y):=fun i y hy=>by
    match i,hy with
    |0,hy=>grind
    |1,hy=>grind
   have c0:z.top.get [] s1.aL=_:=O;have e7:=TG hP hh hH a7 a4 U a5 (cap:=2) (off:=0) (len:=2) c0 rfl Y (by simp) u.1.1;have e6:=TG hP hh hH a7 a4 U a5 (cap:=2) (off:=0) (len:=2) c0 rfl Y (by simp) u.1.2;have J:=ac5 u.1 d.1;have b0:ay 1 aG (.list 1 (u.2.1.map aG) (.own u.2.2)) u.2.1:=.inr ⟨_,rfl⟩;have a9:ay 1 aG (.list 1 (d.2.1.map aG) (.own d.2.2)) d.2.1:=.inr ⟨_,rfl⟩;have o1:=e4 u (eP b7);have o2:=e4 d (eP b6);have skip:qf u.1 d.1 x.2.2=true-> ∀k,k∈KB↔k∈KB\/wW R x k:=fun h k=>by
    unfold wW;rw[ga,gb,h];simp
   have G:qf u.1 d.1 x.2.2=false-> ∀k,k∈rY d.2.1 KB u.2.1↔k∈KB\/wW R x k:=fun h k=>by
    unfold wW;rw[ga,gb,h,XR];simp
   refine lk ?_;simp only[go_sem,hP,hh,seval,Js,j,yG,hn,EH,e1,fh,bj,bg,aZ,bf,evc];refine iT S ?_;simp only[go_sem,hP,hh,tG,tH,seval,h5,m0,m1,n1,n2,e0,d0,la,lb,aW,GB,dn,cW,dp,c9,c8,c7,hz];refine iT F ?_;simp only[go_sem,hP,hh,tG,tH,seval,m0,m1,O,aW,aY,H,iU,U];refine kY.calm F e7 (by decide) (by simp[fo,pD]) ?_;cases hc1:([d.1.1,d.1.2]:List ag).contains u.1.1 with
   |true=>
    cases heq:wK u.1 d.1 with
    |true=>
     simp only[go_sem,hP,hh,tG,tH,seval,J,heq,O,aW,aY,H,cH,ce];refine fin _ _ z KB (skip (by unfold qf;rw[heq];rfl)) Z zB (fun k N _=>zo k N) zn F ?_ ?_ ?_ ?_
     all_goals simp only[sN,seval,h6,h5,h7,j]
    |false=>
     cases hkd:an x.2.2 1 with
     |true=>
      simp only[go_sem,hP,hh,tG,tH,seval,J,heq,hkd,O,aW,aY,H,cH,ce];refine fin _ _ z KB (skip (by unfold qf HM;rw[heq,hkd,hc1];rfl)) Z zB (fun k N _=>zo k N) zn F ?_ ?_ ?_ ?_
      all_goals simp only[sN,seval,h6,h5,h7,j]
     |false=>
      simp only[go_sem,hP,hh,tG,tH,seval,J,heq,hkd,O,aW,aY,H,cH,ce];refine LY hP hh hH a2 a0 b0 a9 o1 o2 (bx:=bx) (mb:=mb) (kb:=s1.aL) d6 (by omega) (s0:=z) a8 O (KE:=rY d.2.1 KB u.2.1) ?_ u.2.1 [] KB _ z rfl Z rfl (.refl F) zB (fun _ _=>rfl) rfl ?_ ?_ ?_ ?_ ?_;intro e2 s2 B a1 w A;simp only[go_sem,hP,hh,seval];refine fin _ _ s2 (rY d.2.1 KB u.2.1) (G (by unfold qf;rw[heq,hkd];rfl)) (JN Z) a1 (fun k N h2=>(B.old k h2).trans (zo k N)) (by rw[B.aL,zn]) B.mw ?_ ?_ ?_ ?_;rw[w 6 (by decide)];simp only[sN,seval,h6];rw[w 5 (by decide)];simp only[sN,seval,h5];rw[w 7 (by decide)];simp only[sN,seval,h7];rw[A];simp only[sN,seval,j]
      all_goals simp only[sN,seval,h7,bn,ce]
      all_goals rfl
   |false=>
    simp only[go_sem,hP,hh,tG,tH,seval,m0,m1,O,aW,aY,H,iU,U];refine kY.calm F e6 (by decide) (by simp[fo,pD]) ?_;cases heq:wK u.1 d.1 with
    |true=>
     simp only[go_sem,hP,hh,tG,tH,seval,J,heq,O,aW,aY,H,cH,ce];refine fin _ _ z KB (skip (by unfold qf;rw[heq];rfl)) Z zB (fun k N _=>zo k N) zn F ?_ ?_ ?_ ?_
     all_goals simp only[sN,seval,h6,h5,h7,j]
    |false=>
     cases hkd:an x.2.2 1 with
     |true=>
      cases hc2:([d.1.1,d.1.2]:List ag).contains u.1.2 with
      |true=>
       simp only[go_sem,hP,hh,tG,tH,seval,J,heq,hkd,O,aW,aY,H,cH,ce];refine fin _ _ z KB (skip (by unfold qf HM;rw[heq,hkd,hc1,hc2];rfl)) Z zB (fun k N _=>zo k N) zn F ?_ ?_ ?_ ?_
       all_goals simp only[sN,seval,h6,h5,h7,j]
      |false=>
       simp only[go_sem,hP,hh,tG,tH,seval,J,heq,hkd,O,aW,aY,H,cH,ce];refine LY hP hh hH a2 a0 b0 a9 o1 o2 (bx:=bx) (mb:=mb) (kb:=s1.aL) d6 (by omega) (s0:=z) a8 O (KE:=rY d.2.1 KB u.2.1) ?_ u.2.1 [] KB _ z rfl Z rfl (.refl F) zB (fun _ _=>rfl) rfl ?_ ?_ ?_ ?_ ?_;intro e2 s2 B a1 w A;simp only[go_sem,hP,hh,seval];refine fin _ _ s2 (rY d.2.1 KB u.2.1) (G (by unfold qf HM;rw[heq,hkd,hc1,hc2];rfl)) (JN Z) a1 (fun k N h2=>(B.old k h2).trans (zo k N)) (by rw[B.aL,zn]) B.mw ?_ ?_ ?_ ?_;rw[w 6 (by decide)];simp only[sN,seval,h6];rw[w 5 (by decide)];simp only[sN,seval,h5];rw[w 7 (by decide)];simp only[sN,seval,h7];rw[A];simp only[sN,seval,j]
       all_goals simp only[sN,seval,h7,bn,ce]
       all_goals rfl
     |false=>
      simp only[go_sem,hP,hh,tG,tH,seval,J,heq,hkd,O,aW,aY,H,cH,ce];refine LY hP hh hH a2 a0 b0 a9 o1 o2 (bx:=bx) (mb:=mb) (kb:=s1.aL) d6 (by omega) (s0:=z) a8 O (KE:=rY d.2.1 KB u.2.1) ?_ u.2.1 [] KB _ z rfl Z rfl (.refl F) zB (fun _ _=>rfl) rfl ?_ ?_ ?_ ?_ ?_;intro e2 s2 B a1 w A;simp only[go_sem,hP,hh,seval];refine fin _ _ s2 (rY d.2.1 KB u.2.1) (G (by unfold qf;rw[heq,hkd];rfl)) (JN Z) a1 (fun k N h2=>(B.old k h2).trans (zo k N)) (by rw[B.aL,zn]) B.mw ?_ ?_ ?_ ?_;rw[w 6 (by decide)];simp only[sN,seval,h6];rw[w 5 (by decide)];simp only[sN,seval,h5];rw[w 7 (by decide)];simp only[sN,seval,h7];rw[A];simp only[sN,seval,j]
      all_goals simp only[sN,seval,h7,bn,ce]
      all_goals rfl
end
def Dn(k:CK):ag:=bif k.1==k.2 then [] else k.2
def jW(k:CK):Nat:=bif k.1==k.2 then 1 else 2
abbrev jS:=CK×Nat
def iK(x:jS):aa:=.agg [.str [],.int .i64 2,.arr 1 x.2 0 (jW x.1) 2]
def Ap(k:CK):List aa:=[.str k.1,.str (Dn k)]
def arX:ae.underlying 195=some (.map 196 4):=by kernel_rfl
structure Ln (lo:Nat) (s:St) (ov:aa) (acc:List jS):Prop where
 row:kW 3 s ov (acc.map iK)
 ids: ∀x∈acc,s.get [] x.2=some (.cells (Ap x.1))/\lo<=x.2/\x.2<s.aL/\j1 ov≠some x.2
 rlo: ∀r,j1 ov=some r->lo<=r
def QI{R:List jS}: ∀v∈R.map iK,v.cells.length=3:=fun v d=>by
 obtain⟨x,_,rfl⟩:=dy.1 d;rfl
section
variable{Q:aH}(hP:Q.P=ae)(hh:Q.hint=ai)(hH: ∀f,Q.specH f=none)
include hP hh hH
theorem ado(hK: ∀i,1000000<=Q.kmax i)(G:Q.spec 133=none)(S:Q.specW 133=none)(b3:KB.length<1000000)(c1:it<lo)(c2:mb<lo)(d1:mb≠it)(J: ∀e lc s ov (d:List jS),(d.map (·.1)).Perm KB->Ln lo s ov d->s.gt<=s.aL->ac e 28=ov->C (.exit 14) ⟨e,180,lc⟩ s):
 ∀(cc:Nat) (seen:List Nat) (e:ax) (lc:Ag.Loc) (s:St) (ov:aa) (d:List jS),cc+seen.length=KB.length->jv jw s it mb (ku KB) seen->d.map (·.1)=seen.map (fun b=>KB.getD b ([],[]))->Ln lo s ov d->lo<=s.aL->s.gt<=s.aL->ac e 28=ov->ac e 166= .ptr it 0->W Q 59 (.loop Ou) ⟨e,180,lc⟩ s C:=by
 have b1:(ku KB).length=KB.length:=uj _ _;intro cc
 induction cc with
 |zero=>
  intro seen e lc s ov d hc I A w b0 N B h;rcases I.aL Q.ch Q.kmax (fun i=>by have:=hK i;omega) with⟨hp,hn⟩|⟨b,p,s1,u,hnm,hlt,_⟩
  refine bG ?_;simp only[go_sem,hP,hh,seval,Ou,h,yG,hn,fh,bj,bg,aZ,bf,evc];refine J _ _ s ov d ?_ w N (by simp only[sN,seval,B]);rw[A];rw[b1] at hp;refine(hp.map _).trans ?_;have:(ix KB.length).map (fun b=>KB.getD b ([],[]))=KB:=by
   refine G4 (by simp) fun i h1 h2=>?_;simp[nA,h2]
  rw[this];omega
 |succ cc ih=>
  intro seen e lc s ov d hc I A w b0 N B h;rcases I.aL Q.ch Q.kmax (fun i=>by have:=hK i;omega) with⟨hp,hn⟩|⟨b,p,s1,u,hnm,hlt,hn,ho,hi,hn1,hm1⟩
  have:=hp.length_eq;rw[DU] at this;omega
  ·have a7:b<KB.length:=by
    have:=(nY.1 u).1;omega
   obtain⟨k,hk⟩:=ct (KB[b]);have a9:p=(k,.bool true):=by
    have:(ku KB)[b]? =some (KB[b],.bool true):=by
     unfold ku gZ;rw[jf,gn a7];rfl
    rw[this] at u;rw[<-hk];exact(sI u).symm
   subst a9;have I1:=I.go d1 u hnm ho hi;have a0:=jv.entry hi I1.hm u;have Z:s1.gt<=s1.aL:=by rw[hm1,hn1];exact dh s it none N
   have U:=w.row.ge;obtain⟨z,Y⟩:=ct ((s1.new (.cells [.str [],.str []])).put s1.aL (some (.cells [.str k.1,.str k.2])));have zn:z.aL=s1.aL+1:=by rw[<-Y];rfl
   have H:z.gt<=z.aL:=by rw[<-Y];exact dh _ _ _ (cq Z)
   have zk:z.get [] s1.aL=some (.cells [.str k.1,.str k.2]):=by rw[<-Y,aX,bS];rfl
   have zo: ∀j,j<s1.aL->z.get [] j=s1.get [] j:=fun j hj=>by rw[<-Y,aX,bN.2 (by omega:j≠s1.aL),cF,cz hj]
   have a8: ∀e,jE ae [] 196 (.ptr s1.aL 0) none none none e z=some (.arr 1 s1.aL 0 2 2):=fun e=>aan _ _ _ _ _ zk (by simp);have O: ∃v y,aq Q 133 [.arr 1 s1.aL 0 2 2] z v y/\(v= .arr 1 s1.aL 0 (jW k) 2/\y.get [] s1.aL=some (.cells (Ap k))/\(∀j,j≠s1.aL->y.get [] j=z.get [] j)/\y.aL=z.aL/\y.gt<=y.aL):=by
    obtain⟨v,y,F,⟨e1,rfl,rfl⟩|⟨e1,rfl,rfl⟩⟩:=aeq hP hh hH G S zk H;have u:(k.1==k.2)=true:=by simpa using e1
    refine⟨_,_,F,by unfold jW;rw[u];rfl,?_,fun j hj=>by rw[aX,bN.2 hj];rfl,rfl,dh z _ _ H⟩;rw[aX,bS];unfold Ap Dn;rw[u];rfl;have u:(k.1==k.2)=false:=by simpa using e1
    refine⟨_,_,F,by unfold jW;rw[u];rfl,?_,fun _ _=>rfl,rfl,H⟩;rw[zk];unfold Ap Dn;rw[u];rfl
   simp only[jw] at hn a0;refine bG ?_;simp only[go_sem,hP,hh,seval,Ou,B,h,U,yG,hn,EH,a0,fh,aW,dn,cW,dp,Y,a8,G,bj,bg,aZ,bf,evc];refine cG.ex O (by decide) ?_;rintro v y ⟨rfl,y1,y2,y3,y4⟩;have b2:kW 3 y ov (d.map iK):=w.row.mono (fun r F=>by
    have h1:=w.row.lt r F;have h2:=w.rlo r F;rw[y2 r (by omega),zo r (by omega),ho r (by omega)]) (by omega)
   obtain⟨s3,a1,a2,a3,a4,a5,a6⟩:=LH (t:=35) j6.1 rfl (by decide) (iK (k,s1.aL)) QI (by
    have h1:=congrArg List.length A;simp only[ce] at h1 ⊢;omega) y4 b2
   simp only[iK] at a1;simp only[go_sem,hP,hh,seval,B,U,iU,S8,fh,a1,bj,bg,aZ,bf,evc];refine ih (seen++[b]) _ _ s3 _ (d++[(k,s1.aL)]) (by rw[cJ];simp only[bH,bn];omega) ⟨?_,?_,I1.nd,I1.lt⟩ ?_ ⟨by rw[ff];exact a2,fun x J=>?_,fun r F=>?_⟩ (by omega) a5 ?_ ?_;rw[a6 it (by omega) (fun e=>by have:=w.rlo it e;omega),y2 it (by omega),zo it (by omega)];exact I1.hi;have:s3.get [] mb=s1.get [] mb:=by rw[a6 mb (by omega) (fun e=>by have:=w.rlo mb e;omega),y2 mb (by omega),zo mb (by omega)]
   exact this.trans I1.hm;rw[ff,ff,A];simp[nA,a7,hk];rcases lj.1 J with J|J
   obtain⟨i1,i2,i3,i4⟩:=w.ids x J;refine⟨?_,i2,by omega,fun e=>by injection e with e;omega⟩;rw[a6 x.2 (by omega) i4,y2 x.2 (by omega),zo x.2 (by omega),ho x.2 (by omega)];exact i1;rw[BB.1 J];refine⟨?_,by show lo<=s1.aL;omega,by show s1.aL<s3.aL;omega,fun e=>by injection e with e;omega⟩;rw[a6 s1.aL (by omega) (fun e=>by have:=w.row.lt _ e;omega)];exact y1;injection F with F
   omega
   all_goals simp only[sN,seval,h,ce]
end
end Go.Proofs.YtnnppcoplinajaaGreat
namespace Go.Proofs.YtnnppcoplinajaaGreat
open Go.Ag
open Go.Sort (SWO)
theorem Mn: ∀ {a b c:List ag},fH a b<0->fH b c<0->fH a c<0
 | [],[],_,h1,_=>by simp[fH] at h1
 |_::_,[],_,h1,_=>by simp[fH] at h1
 | [],_::_,[],_,h2=>by simp[fH] at h2
 | [],_::_,_::_,_,_=>by simp[fH]
 |_::_,_::_,[],_,h2=>by simp[fH] at h2
 |a::x,b::y,c::z,h1,h2=>by
  simp only[fH,HI] at*;by_cases p:dz a b=0
  have:=uU p;subst this;have e:an (dz a a) 0=true:=by rw[p];rfl
  rw[e] at h1;cases q:an (dz a c) 0 with
  |true=>rw[q] at h2;exact Mn h1 h2
  |false=>rw[q] at h2;exact h2
  have e:an (dz a b) 0=false:=by simp[an,p]
  rw[e] at h1;by_cases q:dz b c=0
  grind [uU]
  have d:an (dz b c) 0=false:=by simp[an,q]
  rw[d] at h2;have h:=Eo h1 h2
  grind [an]
def aem(a:List ag):fH a a=0:=by have:=B8 a a;omega
theorem aaJ:SWO (ltOf fH) where
 irrefl x:=by simp[ltOf,aem]
 trans x y z h1 h2:=by
  grind [ltOf,Mn]
 ntrans x y z h1 h2:=by
  grind [ltOf,Mo,B8,Mn]
theorem aa9{x y:List ag}(e:ltOf fH x y=false)(d:ltOf fH y x=false):x=y:=by
 grind [ltOf,B8,Mo]
def nk(x:jS):aa:=.agg [.str [],.int .i64 2,.list 1 ((jr x.1).map aG) .no]
def vJ(x:Nat×Nat):aa:=.agg [.str [],.int .i64 2,.arr 1 x.1 0 x.2 2]
def wE:List (Nat×Nat)->(List jS->Rd)->Rd
 | [],k=>k []
 |x::l,k=>.ask x.1 fun o=>match o with
  | .cells [.str a,.str b]=>bif x.2==1 then wE l fun r=>k (((a,a),x.1)::r) else bif x.2==2&& !(a==b) then wE l fun r=>k (((a,b),x.1)::r) else .ret none
  |_=>.ret none
def EL(g:Nat->Option aR)(x:jS):Prop:= ∃b,g x.2=some (.cells [.str x.1.1,.str b])/\(jW x.1=1\/(jW x.1=2/\b=x.1.2))
theorem LR{g:Nat->Option aR}{u:aa}: ∀ {l:List (Nat×Nat)} {K:List jS->Rd},gm g (wE l K)=some u-> ∃L,L.map (fun x=>(x.2,jW x.1))=l/\(∀x∈L,EL g x)/\gm g (K L)=some u
 | [],K,h=>⟨[],rfl,fun _ h=>(by cases h),h⟩
 |x::l,K,h=>by
  have h:(g x.1).bind (fun o=>gm g (match o with
   | .cells [.str a,.str b]=>bif x.2==1 then wE l fun r=>K (((a,a),x.1)::r) else bif x.2==2&& !(a==b) then wE l fun r=>K (((a,b),x.1)::r) else .ret none
   |_=>.ret none))=some u:=h
  simp only[ak] at h;obtain⟨o,z,h⟩:=h;split at h;rename_i a b;cases e1:x.2==1 with
  |true=>
   rw[e1] at h;obtain⟨L,A,j,e⟩:=LR h;have w:jW (a,a)=1:=by unfold jW;simp
   refine⟨((a,a),x.1)::L,?_,fun y d=>?_,e⟩
   grind
   rcases fc.1 d with rfl|d
   exact⟨b,z,.inl w⟩;exact j y d
  |false=>
   rw[e1] at h;simp only[cF] at h;cases e2:(x.2==2&& !(a==b)) with
   |true=>
    rw[e2] at h;simp only[bu,nu] at e2;obtain⟨L,A,j,e⟩:=LR h;have w:jW (a,b)=2:=by unfold jW;rw[e2.2];rfl
    refine⟨((a,b),x.1)::L,?_,fun y d=>?_,e⟩
    grind
    rcases fc.1 d with rfl|d
    exact⟨b,z,.inr ⟨w,rfl⟩⟩;exact j y d
   |false=>rw[e2] at h;cases h
  cases h
theorem Sw{g:Nat->Option aR}: ∀ {L:List jS} {K:List jS->Rd},(∀x∈L,g x.2=some (.cells (Ap x.1)))->gm g (wE (L.map fun x=>(x.2,jW x.1)) K)=gm g (K L)
 | [],K,_=>rfl
 |x::L,K,h=>by
  have j:=h x iL;have e:=fun K=>Sw (K:=K) fun y d=>h y (iE _ d);obtain⟨⟨a,b⟩,n⟩:=x;show(g n).bind _=_
  grind [Ap,Dn,jW]
def abm{h:aC aR}{x:jS}(j:EL h.get x):fY h (iK x) (nk x):=by
 obtain⟨b,w,d⟩:=j;refine⟨3,?_⟩;have e:cL h 2 (.arr 1 x.2 0 (jW x.1) 2)=some (.list 1 ((jr x.1).map aG) .no):=by
  show(match h.get x.2 with
   |some (.cells cs)=>(cut cs 0 (jW x.1*1)).bind fun c=>(dL (cL h 1) c).bind fun y=>(bf (!aQ 1 1) 1 (jW x.1) y).bind fun xs=>some (aa.list 1 xs .no)
   |_=>none)=_
  rw[w];obtain⟨⟨p,q⟩,n⟩:=x;unfold jr;simp only[jW] at d ⊢;cases e:p==q with
  |true=>rfl
  |false=>
   rw[e] at d;have u:b=q:=by
    rcases d with d|d
    cases d;exact d.2
   subst u;rfl
 show(dL (cL h 2) [.str [],.int .i64 2,.arr 1 x.2 0 (jW x.1) 2]).bind (fun r=>some (aa.agg r))=_;simp only[dL,e,au];rfl
def AJ:aa->Option (List ag)
 | .agg [.str _,.int .i64 _,w]=>bif bL w then eX 1 jl w else none
 |_=>none
def TE:Sp
 | [u,v]=>(AJ u).bind fun a=>(AJ v).bind fun b=>bif pures [u,v]&&bm a.length small then some (cd (fH a b)) else none
 |_=>none
variable{l:List ag}
theorem Vg{v:aa}(h:AJ v=some l): ∃a i w,v= .agg [.str a,.int .i64 i,w]/\ay 1 aG w l/\bL w=true:=by
 unfold AJ at h
 grind [kr,pM]
def ag0(x:jS):AJ (nk x)=some (jr x.1):=by
 have d:bL (.list 1 ((jr x.1).map aG) .no)=true:=by simp only[bL,vE vQ,cw]
 show(bif bL (.list 1 ((jr x.1).map aG) .no) then iV jl ((jr x.1).map aG) else none)=_;rw[d,yX oc];rfl
def asD(x:jS):bL (nk x)=true:=by simp only[nk,bL,pures,vE vQ,cw,je]
section
variable{Q:aH}(hP:Q.P=ae)(hh:Q.hint=ai)(hH: ∀f,Q.specH f=none)
include hP hh hH
theorem ad5(h:Q.spec 135=none)(d:Q.specW 135=none)(e:Q.spec 136=some DB){w w':aa}{r:List ag}(x:ay 1 aG w l)(u:ay 1 aG w' r)(z:bL w=true)(y:bL w'=true)(A:l.length<small)(a b:ag)(i j:Int)(s:St):aq Q 135 [.agg [.str a,.int .i64 i,w],.agg [.str b,.int .i64 j,w']] s (cd (fH l r)) s:=by
 have q:=arf x u z y A;have F:=x.ge;have B:=u.ge;refine aq.ofZ hP hH ahV h d rfl ?_;refine co ?_;simp only[go_sem,hP,hh,seval,e,q,F,B,cd]
end
def acs:dX:=[(136,DB)]
def acu:dR acs:=.cons arh .nil
def aeo:db ae 135 TE:=by
 refine GK acu (W:=[]) .nil fun args u h=>?_;unfold TE at h;split at h;simp only[ak] at h;obtain⟨a,B,b,A,h⟩:=h;obtain⟨d,h⟩:=bh h;simp only[bu] at d;have h:=sI h;subst h;obtain⟨G,i,w,rfl,z,y⟩:=Vg B;obtain⟨F,j,H,rfl,x,e⟩:=Vg A;exact⟨d.1,fun I=>⟨_,_,ad5 rfl rfl (fun _=>rfl) rfl rfl rfl z x y e (Nat.le_of_ble_eq_true d.2) _ _ _ _ _,1,rfl⟩⟩;cases h
abbrev dV:jS:=(([],[]),0)
def kF(a b:jS):Int:=fH (jr a.1) (jr b.1)
noncomputable def A5(l:List jS):Bool:=by classical exact decide (l.length<=1000000/\(l.map fun x=>jr x.1).Nodup)
noncomputable def LS(m:Nat):Option (List (Nat×Nat))->Rd
 |some l=>bif l.all (fun x=> !(x.1==m)) then wE l fun L=>t6 (bif A5 L then some (aF ((kA kF dV L).map iK)) else none) else .ret none
 |none=>.ret none
noncomputable def Dx:List aa->Option pH
 | [.arr k' m 0 len _,.func (.func g') [] []]=>bif aQ k' 3&&aQ g' 135 then some (some (m,fun d=>bif aQ d.length (len*3) then LS m (uY vJ d) else .ret none)) else none
 | [.AL,.func (.func g') [] []]=>bif aQ g' 135 then some none else none
 |_=>none
theorem anW(k:CK):(jr k).length<=2:=by
 grind [jr]
theorem aq3:uN 134 Dx:=by
 have L:=Tryz.sortF134;have ef: ∀args w,(callFunc 134 args).run ae w= .ok (.enter 134 args) w:=Go.Proofs.enters_of Tryz.func134 (by kernel_rfl) rfl;have eg: ∀args w,(callFunc 135 args).run ae w= .ok (.enter 135 args) w:=Go.Proofs.enters_of Tryz.func135 (by kernel_rfl) rfl;intro args G h w xs wr hx;refine⟨fun B=>?_,fun n gf cs a1 B hl d=>?_⟩
 ·unfold Dx at B
  split at B
  grind
  ·cases hx with
   |cons p q=>
   cases q with
   |cons q r=>
   cases r;cases p;cases q with
   |func q1 q2=>
   cases q1;cases q2;refine .inr ⟨ef _ _,(AnyF.slices_SortFunc_none L none 0 _ w).mono ?_⟩;rintro e w' ⟨rfl,rfl⟩;exact⟨_,rfl,G,wr,.refl,.tup .nil⟩
  cases B
 ·unfold Dx at B
  split at B
  ·rename_i k' m len H g'
   have hb:=(bh B).1;have Y:=(bh B).2;clear B;simp only[bu] at hb;have N:=jP hb.1;have J:=jP hb.2;subst N;subst J;injection Y with Y;injection Y with Y;injection Y with a3 a2
   subst a3;subst a2;have d:gm h.get (bif aQ cs.length (len*3) then LS m (uY vJ cs) else .ret none)=some (.agg a1):=d;cases A:aQ cs.length (len*3) with
   |false=>rw[A] at d;cases d
   |true=>
   rw[A] at d;have A:=jP A;simp only[cT] at d;cases hd:uY vJ cs with
   |none=>rw[hd] at d;cases d
   |some S=>
   rw[hd] at d;have a0:=Mw hd;have d:gm h.get (bif S.all (fun x=> !(x.1==m)) then wE S fun L=>t6 (bif A5 L then some (aF ((kA kF dV L).map iK)) else none) else .ret none)=some (.agg a1):=d;cases hne:S.all (fun x=> !(x.1==m)) with
   |false=>rw[hne] at d;cases d
   |true=>
   rw[hne] at d;obtain⟨l,h1,a5,d⟩:=LR d;have d:=Gl d;obtain⟨h2,d⟩:=bh d;have d:=(sI d).symm;subst d;have a4:S.map vJ=l.map iK:=by rw[<-h1,mI];rfl
   rw[a4] at a0;subst a0;have a8: ∀x∈l,x.2≠m:=fun x hx e=>by
    have:(x.2,jW x.1)∈S:=by rw[<-h1];exact dy.2 ⟨x,hx,rfl⟩
    grind
   have Z: ∀v∈l.map iK,v.cells.length=3/\v= .agg v.cells:=fun v hv=>by
    obtain⟨a,_,rfl⟩:=dy.1 hv;exact⟨rfl,rfl⟩
   have I:l.length=len:=by
    rw[oG (fun v hv=>(Z v hv).1),ce] at A;omega
   simp only[A5,dE] at h2;cases hx with
   |cons p q=>
   cases q with
   |cons q r=>
   cases r;cases q with
   |func u1 u2=>
   cases u1;cases u2;have F:(l.map iK).length=l.length:=ce ..;have hy: ∀z,VR G (.arr 3 m 0 len H) z->VR G (.arr 3 m 0 (l.map iK).length H) z:=fun z hz=>by rw[F,I];exact hz
   have gen: ∀n (hn:n=l.length),SWO (ltOf fun x y:Fin n=>eT kF dV l x y)/\(∀x y:Fin n,(ltOf fun x y:Fin n=>eT kF dV l x y) x y=false->(ltOf fun x y:Fin n=>eT kF dV l x y) y x=false->x=y):=by
    intro n hn;subst hn;refine⟨KN aaJ fun i:Fin l.length=>jr (l.getD i dV).1,fun x y q1 q2=>?_⟩;have h:=aa9 (x:=jr (l.getD x dV).1) (y:=jr (l.getD y dV).1) q1 q2;rw[Cp,Cp] at h;exact Fin.ext (JK h2.2 (i:=x) (j:=y) (x:=l[x]) (y:=l[y]) (by simp) (by simp) h)
   have U:=fun hO=>Qe L rfl Tryz.isAgg31 Tryz.sizeOf31 ef eg aeo wr (rows:=l.map iK) (us:=l.map nk) hl Z (by decide) (by rw[ce,ce]) (fun i v u N J=>by
    rw[jf,uH] at N J;obtain⟨a,g1,rfl⟩:=N;obtain⟨b,O,rfl⟩:=J;rw[g1] at O;injection O with O;subst O
    have a6:=eP g1;obtain⟨b',i1,i2⟩:=a5 a a6;exact abm ⟨b',by grind [aC.get_set],i2⟩) (eT kF dV l) (fun i j u u' N J=>by
    rw[jf,uH] at N J;obtain⟨a,g1,rfl⟩:=N;obtain⟨b,O,rfl⟩:=J;have e:eT kF dV l i j=kF a b:=by
     unfold eT;rw[nA,nA,g1,O];rfl
    have a7:=ajJ;have hb:bm (jr a.1).length small=true:=cP (by have:=anW a.1;omega);rw[e];show((AJ (nk a)).bind fun a'=>(AJ (nk b)).bind fun b'=>bif pures [nk a,nk b]&&bm a'.length small then some (cd (fH a' b')) else none)=_;simp only[adz,ag0,pures,asD,cw,hb];rfl) hO (gen _ F).2 (by rw[F];exact h2.1) (hy _ p)
   rw[Qi] at U;exact U (gen _ F).1
  all_goals grind
def MO{α β:Type}{f:α->List β}{n:Nat}: ∀ {l:List α},(∀x∈l,(f x).length<=n)->(l.flatMap f).length<=l.length*n
 | [],_=>ki _
 |x::l,h=>by
  have j:=h x iL;have e:=MO (l:=l) fun y d=>h y (iE _ d);rw[uy,cJ,bH,Nat.succ_mul];omega
def Yb{α:Type}[DecidableEq α]: ∀ {K L:List α},K.Nodup->(∀x∈K,x∈L)->K.length<=L.length
 | [],_,_,_=>ki _
 |x::K,L,nd,h=>by
  obtain⟨z,w⟩:=List.nodup_cons.1 nd;have j:=h x iL;have u:=Yb (K:=K) (L:=L.erase x) w fun y d=>(List.mem_erase_of_ne (fun e=>z (by rw[<-e];exact d))).2 (h y (iE _ d));rw[List.length_erase_of_mem j] at u
  have:=List.length_pos_of_mem j;rw[bH];omega
def W8(a b:ag):((fu a b).1=a\/(fu a b).1=b)/\((fu a b).2=a\/(fu a b).2=b):=by
 unfold fu CS CQ;cases Ag.leBytes a b<;>cases fN a b<;>simp
variable{k:CK}{o:Obj}
def aak(h:k∈kP o):k.1∈o.gE/\k.2∈o.gE:=by
 unfold kP at h;obtain⟨p,d,rfl⟩:=dy.1 h;have x:p.1∈o.gE:=(List.of_mem_zip d).1;have w:p.2∈o.gE:=by
  rcases lj.1 (List.of_mem_zip d).2 with h|h
  exact List.mem_of_mem_tail h;cases hk:an o.uP 3 with
  |true=>rw[hk] at h;exact List.mem_of_mem_take h
  |false=>rw[hk] at h;cases h
 obtain⟨u,j⟩:=W8 p.1 p.2;exact⟨by rcases u with e|e<;>rw[e]<;>assumption,by rcases j with e|e<;>rw[e]<;>assumption⟩
variable{l:List Obj}
theorem Ie{r:ag}(h:ei l r=true): ∃q,dP r l=some q/\q.uP=1:=by
 unfold ei pV at h;cases e:dP r l with
 |none=>rw[e] at h;cases h
 |some q=>rw[e] at h;exact⟨q,rfl,by simpa[an] using h⟩
def alK(h:k∈jJ l o):ei l k.1=true/\ei l k.2=true:=by
 unfold jJ at h;cases e:w8 l o with
 |false=>rw[e] at h;cases h
 |true=>
  rw[e] at h;unfold w8 at e;simp only[bu,f8] at e;exact⟨e.2 _ (aak h).1,e.2 _ (aak h).2⟩
def Xm(l:List Obj)(o:Obj):(jJ l o).length<=o.gE.length:=by
 unfold jJ;cases w8 l o with
 |false=>exact ki _
 |true=>
  show(kP o).length<=_;unfold kP;rw[ce,List.length_zip];omega
def aah(id:ag): ∀(x:List CK) (d:List CK×(CK->List ag)),(∀k,k∈(x.foldl (jk id) d).1->k∈d.1\/k∈x)/\ ∀k y,y∈(x.foldl (jk id) d).2 k->y∈d.2 k\/(y=id/\k∈x)
 | [],d=>⟨fun _ h=>.inl h,fun _ _ h=>.inl h⟩
 |j::x,d=>by
  obtain⟨A,z⟩:=aah id x (jk id d j);have G: ∀k,k∈(jk id d j).1->k∈d.1\/k=j:=fun k w=>by
   unfold jk at w;cases e:(d.2 j).contains id with
   |true=>rw[e] at w;exact .inl w
   |false=>rw[e] at w;exact(qO.1 w).symm
  have F: ∀k y,y∈(jk id d j).2 k->y∈d.2 k\/(y=id/\k=j):=fun k y u=>by
   unfold jk at u;cases e:(d.2 j).contains id with
   |true=>rw[e] at u;exact .inl u
   |false=>
    rw[e] at u;have u:y∈lH d.2 j (d.2 j++[id]) k:=u;by_cases w:k=j;subst w;rw[qm] at u;rcases lj.1 u with h|h
    exact .inl h;exact .inr ⟨BB.1 h,rfl⟩;rw[lf _ _ w] at u;exact .inl u
  refine⟨fun k w=>?_,fun k y u=>?_⟩;rcases A k w with h|h
  rcases G k h with h|rfl
  exact .inl h;exact .inr iL;exact .inr (iE _ h);rcases z k y u with h|⟨h,B⟩
  rcases F k y h with h|⟨h,e⟩
  exact .inl h;exact .inr ⟨h,by rw[e];exact iL⟩;exact .inr ⟨h,iE _ B⟩
def Pf(l:List Obj): ∀(os:List Obj) (d:List CK×(CK->List ag)),(∀k,k∈(os.foldl (io l) d).1->k∈d.1\/ ∃o∈os,k∈jJ l o)/\ ∀k y,y∈(os.foldl (io l) d).2 k->y∈d.2 k\/ ∃o∈os,y=o.id/\k∈jJ l o
 | [],d=>⟨fun _ h=>.inl h,fun _ _ h=>.inl h⟩
 |o::os,d=>by
  obtain⟨x,w⟩:=Pf l os (io l d o);obtain⟨A,z⟩:=aah o.id (jJ l o) d;refine⟨fun k u=>?_,fun k y j=>?_⟩;rcases x k u with h|⟨q,e,h⟩
  rcases A k h with h|h
  exact .inl h;exact .inr ⟨o,iL,h⟩;exact .inr ⟨q,iE _ e,h⟩;rcases w k y j with h|⟨q,e,h⟩
  rcases z k y h with h|h
  exact .inl h;exact .inr ⟨o,iL,h⟩;exact .inr ⟨q,iE _ e,h⟩
def ao2(h:k∈(ip l).1): ∃o∈l,k∈jJ l o:=by
 rcases(Pf l l ([],fun _=>[])).1 k h with h|h
 cases h;exact h
def Y9{y:ag}(h:y∈(ip l).2 k): ∃o∈l,y=o.id/\k∈jJ l o:=by
 rcases(Pf l l ([],fun _=>[])).2 k y h with h|h
 cases h;exact h
def Yj(l:List Obj)(k:CK): ∀(os:List Obj) (d:List CK×(CK->List ag)),((os.foldl (io l) d).2 k).length<=(d.2 k).length+(os.flatMap (jJ l)).length
 | [],_=>Nat.le_add_right _ _
 |o::os,d=>by
  have j:=Yj l k os (io l d o);have e:=Hq o.id k (jJ l o) d;have h:((io l d o).2 k).length<=(d.2 k).length+(jJ l o).length:=e;rw[uA,uy,cJ];omega
theorem ao4(l:List Obj)(k:CK):((ip l).2 k).length<=(l.flatMap (jJ l)).length:=by
 have:((ip l).2 k).length<=([]:List ag).length+(l.flatMap (jJ l)).length:=Yj l k l ([],fun _=>[]);rwa [bn,bV] at this
def amF:k∈iI l↔k∈(ip l).1:=(GH _).mem_iff
theorem OC(h:k∈iI l):ei l k.1=true/\ei l k.2=true:=by
 obtain⟨o,_,h⟩:=ao2 (amF.1 h);exact alK h
def X9(e:dD l=true){r:ag}(h:ei l r=true):bk (fJ l r)=true:=by
 obtain⟨q,j,u⟩:=Ie h;unfold dD at e;simp only[bu] at e;have d:=JP l [] e.1 q (tS j).1;rw[Gi j];unfold gH at d;obtain⟨_,d⟩:=(fun h=>⟨trivial,h⟩:_->True/\_) d;cases e1:oo q with
 |true=>rw[e1] at d;cases d
 |false=>
 rw[e1] at d;cases e2:pK q.uP [] [] q.gE with
 |true=>rw[e2] at d;cases d
 |false=>
 rw[e2,u] at d;have d:(q.gE.length==0&&qS q.x q.y)=true:=d;simp only[qS,cr,bc,bu,dE] at d;simp only[bk,bc,bu,nu,decide_eq_false_iff_not];omega
theorem aqt(d:dD l=true)(h:k∈iI l):qP (pA l k)=true:=by
 obtain⟨j,e⟩:=OC h;simp only[qP,pA,X9 d j,X9 d e,cw]
def Eu(l:List Obj):List CK:=(ie ((iI l).map (pA l))).flatMap fun x=>
 let a:=(iI l).getD x.1.toNat ([],[])
 let b:=(iI l).getD x.2.1.toNat ([],[])
 bif qf a b x.2.2 then [] else((ip l).2 a).flatMap fun u=>((ip l).2 b).map fun y=>fu u y
def yB(l:List Obj):List ag:=(iI l).flatMap fun k=>[k.1,k.2]
def JI(l:List Obj):List CK:=(yB l).flatMap fun x=>((yB l).filter fun y=> !(x==y)&&(an (fJ l x).1 (fJ l y).1&&an (fJ l x).2 (fJ l y).2)).map fun y=>fu x y
def rp(l:List Obj):List CK:=(JI l++Eu l).foldl (fun K k=>fq k K) []
def R9{k:CK}: ∀ {l K:List CK},k∈l.foldl (fun K k=>fq k K) K↔k∈K\/k∈l
 | [],K=>by simp
 |j::l,K=>by
  rw[uA,R9,qO,fc];constructor;rintro((h|h)|h);exact .inr (.inl h);exact .inl h;exact .inr (.inr h);rintro(h|h|h);exact .inl (.inr h);exact .inl (.inl h);exact .inr h
def Sa: ∀ {l K:List CK},K.Nodup->(l.foldl (fun K k=>fq k K) K).Nodup
 | [],_,h=>h
 |j::l,K,h=>by
  rw[uA];exact Sa (x5 h)
def Sy(l:List Obj):(rp l).Nodup:=Sa BC
def XN:k∈rp l↔k∈JI l\/k∈Eu l:=by
 unfold rp;rw[R9,lj];simp
def XO:k∈JI l↔ ∃x y,x∈yB l/\y∈yB l/\x≠y/\fJ l x=fJ l y/\k=fu x y:=by
 have u: ∀a b:Pt,(an a.1 b.1&&an a.2 b.2)=true↔a=b:=fun a b=>by
  obtain⟨B,A⟩:=a;obtain⟨z,w⟩:=b;simp[an]
 unfold JI;simp only[uC,dy,DX,bu,nu,bN];constructor;rintro⟨x,e,y,⟨d,j,h⟩,rfl⟩;exact⟨x,y,e,d,j,(u _ _).1 (by simp[h]),rfl⟩;rintro⟨x,y,e,d,j,h,rfl⟩
 have:=(u _ _).2 h;simp only[bu] at this;exact⟨x,e,y,⟨d,j,this⟩,rfl⟩
def ahn(T:CK->Nat):(∃x∈ie ((iI l).map (pA l)),wW ((iI l).map fun k=>(k,(ip l).2 k,T k)) x k)↔k∈Eu l:=by
 unfold Eu;rw[uC];refine exists_congr fun x=>and_congr_right fun z=>?_;have d:=LF z;rw[ce] at d;have w: ∀i:Int,0<=i->i<(iI l).length->((iI l).map fun k=>(k,(ip l).2 k,T k)).getD i.toNat jy=((iI l).getD i.toNat ([],[]),(ip l).2 ((iI l).getD i.toNat ([],[])),T ((iI l).getD i.toNat ([],[]))):=fun i B A=>by
  have:i.toNat<(iI l).length:=by omega
  simp[nA,jf,gn this]
 unfold wW;rw[w x.1 d.1.1 d.1.2,w x.2.1 d.2.1 d.2.2];generalize (iI l).getD x.1.toNat ([],[])=a;generalize (iI l).getD x.2.1.toNat ([],[])=b;show _↔k∈(bif qf a b x.2.2 then [] else((ip l).2 a).flatMap fun u=>((ip l).2 b).map fun y=>fu u y);cases qf a b x.2.2 with
 |true=>simp
 |false=>
  simp only[tA,cF,uC,dy];exact⟨fun⟨u,j,y,h,e⟩=>⟨u,j,y,h,e.symm⟩,fun⟨u,j,y,h,e⟩=>⟨u,j,y,h,e.symm⟩⟩
def TR{x:ag}(h:x∈yB l): ∃q∈l,q.id=x:=by
 unfold yB at h;obtain⟨k,u,d⟩:=uC.1 h;obtain⟨y,w⟩:=OC u;obtain⟨j,A,_⟩:=Ie y;obtain⟨e,z,_⟩:=Ie w;simp only[fc,zT,or_false] at d;rcases d with rfl|rfl
 exact⟨j,tS A⟩;exact⟨e,tS z⟩
def acZ(h:k∈rp l):k.1∈l.map Obj.id/\k.2∈l.map Obj.id:=by
 have d: ∀ {x y:ag},x∈l.map Obj.id->y∈l.map Obj.id->(fu x y).1∈l.map Obj.id/\(fu x y).2∈l.map Obj.id:=fun {x y} A j=>by
  obtain⟨G,F⟩:=W8 x y;exact⟨by rcases G with e|e<;>rw[e]<;>assumption,by rcases F with e|e<;>rw[e]<;>assumption⟩
 rcases XN.1 h with h|h
 obtain⟨x,y,A,j,_,_,rfl⟩:=XO.1 h;obtain⟨I,z,rfl⟩:=TR A;obtain⟨H,w,rfl⟩:=TR j;exact d (G9 z) (G9 w);unfold Eu at h;obtain⟨x,_,h⟩:=uC.1 h;cases e:qf ((iI l).getD x.1.toNat ([],[])) ((iI l).getD x.2.1.toNat ([],[])) x.2.2 with
 |true=>simp only[e,cT] at h;cases h
 |false=>
  simp only[e,cF,uC,dy] at h;obtain⟨u,B,y,j,rfl⟩:=h;obtain⟨N,z,rfl,_⟩:=Y9 B;obtain⟨J,w,rfl,_⟩:=Y9 j;exact d (G9 z) (G9 w)
def Sx(l:List Obj):(rp l).length<=l.length*l.length:=by
 have h:=Yb (L:=(l.map Obj.id).flatMap fun x=>(l.map Obj.id).map fun y=>(x,y)) (Sy l) fun k j=>by
  obtain⟨u,d⟩:=acZ j;exact uC.2 ⟨k.1,u,dy.2 ⟨k.2,d,rfl⟩⟩
 have d:=MO (f:=fun x=>(l.map Obj.id).map fun y=>(x,y)) (n:=l.length) (l:=l.map Obj.id) fun x _=>by
  rw[ce,ce];exact br _
 have e:(l.map Obj.id).length=l.length:=ce ..;rw[e] at d;exact fA h d
def Yz{a b:CK}(h:jr a=jr b):a=b:=by
 obtain⟨u,j⟩:=a;obtain⟨e,d⟩:=b;unfold jr at h;cases e1:u==j with
 |true=>
  have:=eq_of_beq e1;subst this;cases e2:e==d with
  |true=>
   have:=eq_of_beq e2;subst this;simp at h;simp[h]
  |false=>simp[e2] at h
 |false=>
  cases e2:e==d with
  |true=>simp[e1,e2] at h
  |false=>simp[e1,e2] at h;simp[h]
def so(K:List CK):List CK:=(kA kF dV (K.map fun k=>(k,0))).map (·.1)
def ars(L:List jS):SWO (ltOf fun x y:Fin L.length=>eT kF dV L x y):=KN aaJ fun i:Fin L.length=>jr (L.getD i dV).1
variable{K:List CK}
def aq4{L:List jS}(h:(L.map (·.1)).Perm K):(kA kF dV L).map (·.1)=so K:=by
 have e:((kA kF dV L).map (·.1)).Perm (so K):=by
  refine(((xH kF dV L).map _).trans h).trans ?_;refine(((xH kF dV (K.map fun k=>(k,0))).map (·.1)).trans ?_).symm;rw[mI];exact .of_eq (List.map_id K)
 have d: ∀L:List jS,((kA kF dV L).map (·.1)).Pairwise fun a b=> ¬fH (jr b) (jr a)<0:=fun L=>by
  rw[Ha];exact KD kF dV L (ars L)
 refine e.eq_of_pairwise (fun a b _ _ u j=>?_) (d L) (d _);exact Yz (aa9 (by simp only[ltOf,decide_eq_false_iff_not];exact j) (by simp only[ltOf,decide_eq_false_iff_not];exact u))
def anL{L:List jS}(h:(L.map (·.1)).Perm K)(u:K.Nodup)(w:K.length<=1000000):A5 L=true:=by
 simp only[A5,dE];have d:=h.length_eq;rw[ce] at d;refine⟨by omega,?_⟩;have e:(L.map fun x=>jr x.1)=(L.map (·.1)).map jr:=by rw[mI];rfl
 rw[e,(h.map _).nodup_iff];exact u.map _ fun a b j e=>j (Yz e)
def ank{α:Type}[DecidableEq α]{K L:List α}(e:K.Nodup)(d:L.Nodup)(h: ∀x,x∈K↔x∈L):K.Perm L:=by
 rw[List.perm_iff_count];intro x;rw[e.count,d.count];simp only[h]
end Go.Proofs.YtnnppcoplinajaaGreat
namespace Go.Proofs.YtnnppcoplinajaaGreat
open Go.Ag
def fO:dX:=[(31,jK),(224,Ae)]
def abV:dR fO:=.cons xd (.cons acG .nil)
noncomputable def fP:sV:=[(220,KF),(134,Dx)]
def ack:sW fP:=.cons aqZ (.cons aq3 .nil)
def Br(l:List Obj):aa:=fI 3 ((so (rp l)).map fun k=>nk (k,0))
theorem UJ{g:aa->Option aa}: ∀ {a b c d:List aa},dL g a=some c->dL g b=some d->dL g (a++b)=some (c++d)
 | [],b,c,d,e,h2=>by
   injection e with e;subst e;exact h2
 |x::a,b,c,d,e,h2=>by
  simp only[dL,ak,aJ] at e;obtain⟨u,w,r,h,rfl⟩:=e;have j:=UJ h h2
  grind [dL]
theorem UM{h:aC aR}: ∀ {L:List jS},(∀x∈L,EL h.get x)-> ∃m,dL (cL h m) (aF (L.map iK))=some (aF (L.map nk))
 | [],_=>⟨0,rfl⟩
 |x::L,hi=>by
  obtain⟨k,u⟩:=abm (hi x iL);obtain⟨e,z⟩:=MX u;obtain⟨d,w⟩:=UM (L:=L) fun y j=>hi y (iE _ j);refine⟨max e d,?_⟩
  grind [aF,UJ,yE,AD,Nat.le_max_right]
variable{s:St}
theorem agi{v:aa}{L:List jS}(y: ∀x∈L,EL s.heap.get x)(h:kW 3 s v (L.map iK)):fY s.heap v (fI 3 (L.map nk)):=by
 rcases h with⟨rfl,u⟩|⟨j,n,rfl,w,_⟩
 have u:=xT.1 u;subst u;exact⟨1,rfl⟩;obtain⟨m,A⟩:=UM y;refine⟨m+1,?_⟩;have w:s.heap.get n=some (.cells (aF (L.map iK))):=w;have F:cut (aF (L.map iK)) 0 ((L.map iK).length*3)=some (aF (L.map iK)):=by
  have:=oG (k:=3) (fun v d=>QI (R:=L) v d);simp only[cut,nz,bD];rw[re (by omega),this];simp
 have e:fI 3 (L.map nk)= .list 3 (L.map nk) .no:=by
  cases L with
  |nil=>exact absurd rfl j
  |cons x xs=>rfl
 have B:(L.map iK).length=(L.map nk).length:=by rw[ce,ce]
 have z:=Md (k:=3) (l:=L.map nk) fun v d=>by
  obtain⟨a,_,rfl⟩:=dy.1 d;exact⟨rfl,rfl⟩
 grind [cL,aQ]
def acE{segs:List bT}(h:segs.length<=1000):(ie segs).length<=1000000:=by
 have d:=Gc (F:=fM) (kK 0 segs);rw[wX] at d;have:segs.length*segs.length<=1000*1000:=rf h h;unfold ie;omega
theorem apZ{a b:Nat×Nat}(h:(vJ a).cells=(vJ b).cells):a=b:=by
 grind [vJ,gD]
theorem agX{g:Nat->Option aR}{x:jS}(h:g x.2=some (.cells (Ap x.1))):EL g x:=by
 refine⟨Dn x.1,h,?_⟩
 grind [jW,Dn]
variable{ov:aa}
def aqT{Q:aH}(hH: ∀f,Q.specH f=none)(u:Q.spec 134=none)(j:Q.specW 134=some Dx){lo:Nat}{d:List jS}(F:Ln lo s ov d)(I:A5 d=true):
 ∃s',aq Q 134 [ov,.func (.func 135) [] []] s (.tup []) s'/\fY s'.heap ov (fI 3 ((kA kF dV d).map nk)):=by
 have A:=xH kF dV d;rcases F.row with⟨rfl,y⟩|⟨y,k,rfl,J,B⟩
 have y:=xT.1 y;subst y;refine⟨s,aq.specW0 u (hH _) j rfl,?_⟩;rw[List.Perm.eq_nil A];exact⟨1,rfl⟩;have hid:=fun x h=>(F.ids x h).1;have w: ∀x∈d,x.2≠k:=fun x h e=>(F.ids x h).2.2.2 (by rw[e];rfl);have H:(d.map iK).length=d.length:=ce ..;have z:gm (s.get []) (bif aQ (aF (d.map iK)).length ((d.map iK).length*3) then LS k (uY vJ (aF (d.map iK))) else .ret none)=some (.agg (aF ((kA kF dV d).map iK))):=by
  have Y:(aF (d.map iK)).length=(d.map iK).length*3:=oG fun v G=>QI v G;have U:d.map iK=(d.map fun x=>(x.2,jW x.1)).map vJ:=by rw[mI];rfl
  have S:uY vJ (aF (d.map iK))=some (d.map fun x=>(x.2,jW x.1)):=by
   rw[U];exact HQ (k:=3) (fun _=>rfl) (by decide) (fun a b=>apZ) _
  rw[Y,bD,bS,cT,S];have O:(d.map fun x=>(x.2,jW x.1)).all (fun x=> !(x.1==k))=true:=by
   rw[f8];intro x h;obtain⟨a,N,rfl⟩:=dy.1 h;simpa using w a N
  show gm (s.get []) (bif(d.map fun x=>(x.2,jW x.1)).all (fun x=> !(x.1==k)) then wE (d.map fun x=>(x.2,jW x.1)) fun L=>t6 (bif A5 L then some (aF ((kA kF dV L).map iK)) else none) else .ret none)=_;rw[O,cT,Sw hid,I];rfl
 refine⟨_,aq.specW (n:=k) (cs':=aF ((kA kF dV d).map iK)) u (hH _) j rfl J z,?_⟩;refine agi (fun x h=>agX ?_) (.inr ⟨fun e=>?_,k,?_,?_,B⟩);have h:=A.mem_iff.1 h;have:(s.put k (some (.cells (aF ((kA kF dV d).map iK))))).get [] x.2=s.get [] x.2:=by
  rw[aX,bN.2 (w x h)];rfl
 exact this.trans (hid x h)
 simp_all
 rw[ce,ce,A.length_eq];rw[aX,bS];rfl
variable{l:List Obj}
theorem adT(ch:Nat->Nat)(ho:ay 6 Obj.val ov l)(hg: ∀o∈l,o.Al)(hl:l.length<=900)(hr: ∀o∈l,o.gE.length<=999)(hv:dD l=true)(j:(iI l).length<=1000)(j8:s.gt<=s.aL):
 ∃v s',aq (QW fO fP ch) 59 [.agg [ov]] s v s'/\fY s'.heap v (Br l):=by
 have hP:(QW fO fP ch).P=ae:=rfl;have hh:(QW fO fP ch).hint=ai:=rfl;have hH: ∀f,(QW fO fP ch).specH f=none:=fun _=>rfl;have hK: ∀i,1000000<=(QW fO fP ch).kmax i:=fun _=>br _;have l7:(QW fO fP ch).spec 31=some jK:=rfl;have i0:(QW fO fP ch).spec 224=some Ae:=rfl;have l6:(QW fO fP ch).spec 59=none:=rfl;have j5:(QW fO fP ch).specW 59=none:=rfl;have b2:(QW fO fP ch).spec 126=none:=rfl;have c7:(QW fO fP ch).specW 126=none:=rfl;have b1:(QW fO fP ch).spec 127=none:=rfl;have c6:(QW fO fP ch).specW 127=none:=rfl;have b0:(QW fO fP ch).spec 128=none:=rfl;have Z:(QW fO fP ch).specW 128=none:=rfl;have a9:(QW fO fP ch).spec 129=none:=rfl;have Y:(QW fO fP ch).specW 129=none:=rfl;have I:(QW fO fP ch).spec 130=none:=rfl;have B:(QW fO fP ch).specW 130=none:=rfl;have a8:(QW fO fP ch).spec 131=none:=rfl;have c5:(QW fO fP ch).specW 131=none:=rfl;have a7:(QW fO fP ch).spec 132=none:=rfl;have c4:(QW fO fP ch).specW 132=none:=rfl;have i5:(QW fO fP ch).spec 133=none:=rfl;have c3:(QW fO fP ch).specW 133=none:=rfl;have a6:(QW fO fP ch).spec 134=none:=rfl;have c2:(QW fO fP ch).specW 134=some Dx:=rfl;have i1:(QW fO fP ch).spec 220=none:=rfl;have b8:(QW fO fP ch).specW 220=some KF:=rfl;have H:(QW fO fP ch).spec 223=none:=rfl;have A:(QW fO fP ch).specW 223=none:=rfl;have i2:(QW fO fP ch).spec 219=none:=rfl;have c0:(QW fO fP ch).specW 219=none:=rfl;have h4:(QW fO fP ch).spec 301=none:=rfl;have b6:(QW fO fP ch).specW 301=none:=rfl;have h9:(QW fO fP ch).spec 261=none:=rfl;have b7:(QW fO fP ch).specW 261=none:=rfl;have i3:(QW fO fP ch).spec 167=none:=rfl;have c1:(QW fO fP ch).specW 167=none:=rfl;generalize QW fO fP ch=Q at*;have b5:=ho.ge;have d4:=ho.scal;have m3:(l.flatMap (jJ l)).length<=l.length*999:=MO fun o h=>fA (Xm l o) (hr o h);have p0:l.length*999<=900*999:=Nat.mul_le_mul_right _ hl;have n5:=Y8 l;refine aq.ofWZ hP hH ak2 l6 j5 ?_;refine co ?_;simp only[go_sem,hP,hh,seval,b5,d4,b2];have j3:=anE hP hh hH l7 b2 c7 ho hg (by omega) (yK hv) hv j8;refine cG.ex j3 (by decide) ?_;rintro v s1 ⟨rfl,g0,h0⟩;have n1:s1.aL=s.aL+1:=h0.aL;simp only[go_sem,hP,hh,seval,b5,d4,fh,wJ,b1,bj,bg,aZ,bf,evc];have j2:=alM hP hh hH hK b1 c6 i1 b8 I B H A i2 c0 h4 b6 h9 b7 i3 c1 ho hg (by omega) hr (by omega) (n:=s.aL) g0 (by omega) h0.mw;refine cG.ex j2 (by decide) ?_;rintro v d ⟨⟨r,c,T,rfl,f4,n4⟩,f1,o3,e5,_⟩;obtain⟨R,G⟩:=ct ((iI l).map (fun k=>(k,(ip l).2 k,T k)));have k8:(iI l).length=R.length:=by rw[<-G,ce]
 have k9:((iI l).map fun k=>iO (k,(ip l).2 k,T k))=R.map iO:=by rw[<-G,mI];rfl
 rw[k8] at j ⊢;rw[k9] at f4;have p1: ∀x∈R,ei l x.1.1=true/\ei l x.1.2=true:=fun x hx=>by
  grind [OC]
 have f3: ∀x∈R,(∃q,dP x.1.1 l=some q)/\ ∃q,dP x.1.2 l=some q:=fun x hx=>by
  grind [Ie]
 have l2:bR aa.str d s.aL (i9 0 l):=(f1 _ (by omega)).trans g0;have cn:aa.nilm.cells=[.nilm]:=rfl;obtain⟨z,hz⟩:=ct (((d.new (.map [] 0)).new (.cells [.nilm])).put (d.aL+1) (some (.cells [.map d.aL])));have d6:(d.new (.map [] 0)).aL=d.aL+1:=rfl;have zn:z.aL=d.aL+2:=by rw[<-hz];rfl
 have zb:z.get [] (d.aL+1)=some (.cells [.map d.aL]):=by rw[<-hz,aX,bS];rfl
 have zm:z.get [] d.aL=some (.map [] 0):=by
  rw[<-hz,aX,bN.2 (by omega:d.aL≠d.aL+1),cF,cz (by rw[d6];omega)];exact cW
 have zo: ∀k,k<d.aL->z.get [] k=d.get [] k:=fun k hk=>by
  grind [aX,cz]
 have zw:z.gt<=z.aL:=by
  rw[<-hz];exact dh _ _ _ (cq (cq e5))
 have k0:((d.new (.map [] 0)).new (.cells [.nilm])).get [] (d.aL+1)=some (.cells [.nilm]):=cW;obtain⟨y,hy⟩:=ct (z.new (.map [] 0));have yn:y.aL=d.aL+3:=by rw[<-hy];show z.aL+1=_;omega
 have yo: ∀k,k<z.aL->y.get [] k=z.get [] k:=fun k hk=>by rw[<-hy,cz hk]
 have ym:y.get [] z.aL=some (.map [] 0):=by rw[<-hy];exact cW
 have yw:y.gt<=y.aL:=by rw[<-hy];exact cq zw
 have yM:bR aa.str y s.aL (i9 0 l):=((yo _ (by omega)).trans (zo _ (by omega))).trans l2;have b3:y.get [] (d.aL+1)=some (.cells [.map d.aL]):=(yo _ (by omega)).trans zb;have yR:y.get [] r=some (.cells (aF (R.map iO))):=((yo _ (by omega)).trans (zo _ (by omega))).trans f4;have yS:D5 l y y z.aL d.aL (z.aL+1) (qE []) [] [] (fun _=>[]) (fun _=>0):=by
  refine⟨⟨ym,BC,fun _ h=>(by cases h),fun _ h=>(by cases h),fun _ _=>rfl,kU _,by omega⟩,(yo _ (by omega)).trans zm,fun _ _ _ _=>rfl,⟨fun q id=>?_,fun k=>?_,BC,fun _=>ki _⟩,br _,yw⟩;simp[qE];simp[qE]
 simp only[go_sem,hP,hh,seval,iU,m7,dn,k0,dp,OL,wJ,cn,d6,hz,hy,bj,bg,aZ,bf,evc];refine adf hP hh hH b0 Z a9 Y I B H A ho (n:=s.aL) (bx:=d.aL+1) (ma:=z.aL) (mb:=d.aL) (lo:=z.aL+1) (r:=r) (c:=c) (by omega) (by omega) (by omega) (by omega) (by omega) (by omega) (by omega) (by omega) (by omega) (by omega) (by omega) (s0:=y) yM b3 j yR f3 ?_ R [] _ _ y [] [] _ _ rfl yS ⟨?_,?_,?_,?_,?_,?_,?_⟩ ?_ ?_ ?_
 ·intro e3 n3 s3 j4 K3 V3 T3 S3 E3
  have a3: ∀k,k<z.aL->k≠d.aL->s3.get [] k=y.get [] k:=fun k U h2=>S3.fr k (by omega) (by omega) h2;have m6:=S3.nx;simp only[go_sem,hP,hh,seval,E3.h5,OL,iU,bj,bg,aZ,bf,evc];refine adk hP hh (N:=R.length) j (lo:=s3.aL) (s0:=s3) (E0:=e3) ?_ R.length 0 _ s3 .AL rfl (.inl ⟨rfl,rfl⟩) (fun _ _=>rfl) S3.mw (br _) ?_ ?_ ?_ ?_ ?_ ?_ ?_
  ·intro e4 s4 lv f6 f0 e2 m2 i4 g3 g5 g6 g7
   obtain⟨w,hw⟩:=ct (s4.new (.map [] 0));have wn:w.aL=s4.aL+1:=by rw[<-hw];rfl
   have wo: ∀k,k<s4.aL->w.get [] k=s4.get [] k:=fun k hk=>by rw[<-hw,cz hk]
   have wm:bR aU w s4.aL []:=by rw[<-hw];exact cW
   have ww:w.gt<=w.aL:=by rw[<-hw];exact cq e2
   have a2: ∀k,k<s3.aL->w.get [] k=s3.get [] k:=fun k U=>(wo k (by omega)).trans (f0 k U);have a0: ∀k,k<z.aL->k≠d.aL->w.get [] k=y.get [] k:=fun k U h2=>(a2 k (by omega)).trans (a3 k U h2);have wM:bR aa.str w s.aL (i9 0 l):=(a0 _ (by omega) (by omega)).trans yM;have wR:w.get [] r=some (.cells (aF (R.map iO))):=(a0 _ (by omega) (by omega)).trans yR;have i7:=aqw hP hh hH a7 c4 a9 Y ho (n:=s.aL) (r:=r) (c:=c) j f3 wM wR (by omega) (by omega) ww;have d0:=f6.ge;have k3:=g3.trans E3.h3;have k5:=g5.trans E3.h5;have k6:=g6.trans E3.h6;have k7:=g7.trans E3.h7;simp only[go_sem,hP,hh,seval,i4,k3,k5,E3.l3,E3.g3,m7,hw,d0,b5,iU,a7,bj,bg,aZ,bf,evc];refine cG.ex i7 (by decide) ?_;rintro sv s5 ⟨d1,a5,o2,e1⟩;have j7:=d1.ge;have d2:(R.map fun x=>pA l x.1)=(iI l).map (pA l):=by rw[<-G,mI];rfl
   have J:(R.map fun x=>pA l x.1).length=R.length:=ce ..;have b4: ∀x∈R.map (fun x=>pA l x.1),qP x=true:=fun x hx=>by
    grind [aqt]
   have i8:=amw hP hh hH a8 c5 i0 d1 (lv:=lv) (by rw[J];exact f6.isL) (by rw[J];exact j) b4 (m:=s4.aL) ((a5 _ (by omega)).trans wm) (by omega) e1;simp only[go_sem,hP,hh,seval,j7,i4,d0,a8,bj,bg,aZ,bf,evc];refine cG.ex i8 (by decide) ?_;rintro v s6 ⟨rfl,S,e9,o1,e0⟩;obtain⟨M,O⟩:=ct (ie (R.map fun x=>pA l x.1));have l0:M.length<=1000000:=by rw[<-O];exact acE (by rw[J];exact j)
   have l1: ∀x∈M,(0<=x.1/\x.1<R.length)/\(0<=x.2.1/\x.2.1<R.length):=fun x hx=>by
    rw[<-O] at hx
    have:=LF hx;rwa [J] at this
   have k2: ∀x∈R,x.2.1.length<=1000000:=fun x hx=>by
    grind [ao4]
   rw[O] at S;have d5:=jv.new arY S;have hI:=jv.begin S (by omega);obtain⟨u,hu⟩:=ct (s6.new (.iter (some s4.aL) (nL M).length [] (nL M).length));rw[hu] at d5 hI;have un:u.aL=s6.aL+1:=by rw[<-hu];rfl
   have uo: ∀k,k<s6.aL->u.get [] k=s6.get [] k:=fun k hk=>by rw[<-hu,cz hk]
   have uw:u.gt<=u.aL:=by rw[<-hu];exact cq e0
   have a1: ∀k,k<s3.aL->u.get [] k=s3.get [] k:=fun k U=>(uo k (by omega)).trans ((e9 k (by omega) (by omega)).trans ((a5 k (by omega)).trans (a2 k U)));have F: ∀k,k<z.aL->k≠d.aL->u.get [] k=y.get [] k:=fun k U h2=>(a1 k (by omega)).trans (a3 k U h2);simp only[go_sem,hP,hh,seval,H3,d5,bj,bg,aZ,bf,evc];refine adh hP hh hH hK b0 Z I B H A (it:=s6.aL) (mf:=s4.aL) (bx:=d.aL+1) (mb:=d.aL) (r:=r) (c:=c) (lo:=s6.aL+1) (M:=M) l0 (R:=R) j l1 k2 (by omega) (by omega) (by omega) (by omega) (by omega) (by omega) (by omega) (by omega) (by omega) (by omega) (by omega) (by omega) (s0:=u) ((uo _ (by omega)).trans S) ((F _ (by omega) (by omega)).trans b3) ((F _ (by omega) (by omega)).trans yR) (KB0:=j4) (E0:=e4) ?_ M.length [] _ _ u j4 (by simp) hI (fun k=>by simp) S3.i.nd ((a1 _ (by omega)).trans S3.m) (fun _ _ _ _=>rfl) (br _) (by omega) uw ?_ ?_ ?_ ?_
   ·intro e7 n2 s7 KB7 g2 c9 g8 e6 n6 d7 l5
    have Oy:=l5.trans k6;have f2:s7.get [] (d.aL+1)=some (.cells [.map d.aL]):=((e6 _ (by omega) (by omega) (by omega)).trans (F _ (by omega) (by omega))).trans b3;have g1:KB7.Perm (rp l):=ank c9 (Sy l) fun k=>by
     rw[g2,XN,XO,S3.i.b,<-O,d2];have he:qE R=yB l:=by
      rw[<-G];unfold qE yB;rw[List.flatMap_map]
     rw[he];refine or_congr Iff.rfl ?_;rw[<-G];exact ahn T
    have l4:KB7.length<1000000:=by
     rw[g1.length_eq];have U:=Sx l;have h2:l.length*l.length<=900*900:=rf hl hl;omega
    have a4:=jv.new arX g8;have g4:=jv.begin g8 (by omega);obtain⟨t,ht⟩:=ct (s7.new (.iter (some d.aL) (ku KB7).length [] (ku KB7).length));rw[ht] at a4 g4;have tn:t.aL=s7.aL+1:=by rw[<-ht];rfl
    have tw:t.gt<=t.aL:=by rw[<-ht];exact cq d7
    simp only[go_sem,hP,hh,seval,Oy,aW,f2,aY,H3,a4,bj,bg,aZ,bf,evc];refine ado hP hh hH hK i5 c3 (it:=s7.aL) (mb:=d.aL) (lo:=s7.aL+1) (KB:=KB7) l4 (by omega) (by omega) (by omega) ?_ KB7.length [] _ _ t .AL [] (by simp) g4 rfl ⟨.inl ⟨rfl,rfl⟩,fun _ h=>(by cases h),fun _ h=>(by cases h)⟩ (by omega) tw ?_ ?_;intro e8 n0 s8 m5 m0 hp f5 m1 h8;have c8:=f5.row.ge;obtain⟨s9,i6,k1⟩:=aqT hH a6 c2 f5 (anL hp c9 (by omega));simp only[go_sem,hP,hh,seval,h8,c8,a6,bj,bg,aZ,bf,evc];refine cG.of i6 (by decide) ?_;simp only[go_sem,hP,hh,seval,h8,c8,bj,bg,aZ,bf,evc];refine⟨_,rfl,?_⟩;have e:Br l=fI 3 ((kA kF dV m0).map nk):=by
     unfold Br;rw[<-aq4 (hp.trans g1),mI];rfl
    rw[e];exact k1
    all_goals simp only[sN,seval]
   all_goals simp only[sN,seval,k5,k7]
  all_goals simp only[sN,seval]
  all_goals rfl
 all_goals simp only[abc,dj,cY,gw,ah,bQ,bn]
 all_goals rfl
def mU(l:List Obj):Bool:=dD l&&(decide (l.length<=900)&&(l.all (fun o=>decide (o.gE.length<=999))&&decide ((iI l).length<=1000)))
structure Rk (l:List Obj):Prop where
 valid:dD l=true
 len:l.length<=900
 gE: ∀o∈l,o.gE.length<=999
 keys:(iI l).length<=1000
def pf:mU l=true↔Rk l:=by
 unfold mU;simp only[bu,dE,f8];exact⟨fun⟨a,b,c,d⟩=>⟨a,b,c,d⟩,fun⟨a,b,c,d⟩=>⟨a,b,c,d⟩⟩
def BV:Sp
 | [v]=>(lz v).bind fun l=>bif mU l then some (Br l) else none
 |_=>none
def adn:db ae 59 BV:=by
 intro args u d G h w xs A F;unfold BV at d;split at d;simp only[ak] at d;obtain⟨l,y,d⟩:=d;obtain⟨e,d⟩:=bh d;have d:=sI d;subst d;obtain⟨v,rfl,y,z,J⟩:=rk y;obtain⟨H,B,j,x⟩:=qQ y z;have j:en [.agg [v]]=[.agg [B]]:=by simp only[en,j]
 have e:=pf.1 e;refine j9 abV ack (args:=[.agg [v]]) (by simp only[eO,H,cw]) (fun I=>?_) G h w xs A F;rw[j];exact adT I x z e.len e.gE e.valid e.keys (by decide);cases d
def am6(p:Pt):bk p=(cr (-2097152) (min p.1 p.2)&&cr (max p.1 p.2) 2097152):=by
 rw[Bool.eq_iff_iff];simp only[bk,cr,bc,bu,nu,dE,decide_eq_false_iff_not];omega
def acJ(r:List Pt):(!r.any fun p=> !bk p)=r.all bk:=by
 induction r with
 |nil=>rfl
 |cons p r d=>
  rw[List.any_cons,ju,Bool.not_or,d,Bool.not_not]
section
variable{Q:aH}(hP:Q.P=ae)(hh:Q.hint=ai)(hH: ∀f,Q.specH f=none)
include hP hh hH
theorem X3(e:Q.spec 430=none)(d:Q.specW 430=none)(p:Pt)(s:St):aq Q 430 [aU p] s (.bool (bk p)) s:=by
 refine aq.ofZ hP hH akK e d rfl ?_;refine co ?_;rw[am6];cases e1:cr (-2097152) (min p.1 p.2) with
 |false=>simp only[go_sem,hP,hh,seval,aU,ru,sY,e1,Bool.false_and]
 |true=>simp only[go_sem,hP,hh,seval,aU,ru,sY,e1,eH]
theorem afp(d:Q.spec 430=none)(e:Q.specW 430=none)(j:Q.spec 429=none)(h:Q.specW 429=none)(p:Pt)(s:St):aq Q 429 [aU p] s (.bool (!bk p)) s:=by
 refine aq.ofZ hP hH akI j h rfl ?_;have u:=X3 hP hh hH d e p s;refine co ?_;simp only[aU] at u;simp only[go_sem,hP,hh,seval,aU,d];refine cG.of u (by decide) ?_;simp only[go_sem,hP,hh,seval]
end
variable{K:Ex->Fr->St->Prop}{g:FuncId}{l:List Pt}{cap:List aa}{p:Pt->Bool}{sv:aa}
section
variable{Q:aH}(hP:Q.P=ae)(hh:Q.hint=ai)(hH: ∀f,Q.specH f=none)
include hP hh
theorem aha(Y:ay 2 aU sv l)(O:l.length<=1000000)(I:Q.spec g=none)(hg: ∀x∈l,aq Q g (aU x::cap) s (.bool (p x)) s){lc:Ag.Loc}{r:Int}(U: ∀e,r= -1->K (.exit 0) ⟨e,19,lc⟩ s)(Z: ∀e,ac e 4= .int .i64 r->K .ret ⟨e,19,lc⟩ s):
 ∀(h d:List Pt) (e:ax),l=d++h->r=kJ p h d.length->ac e 0=sv->ac e 1= .func (.func g) [] cap->ac e 7= .int .i64 (l.length:Nat)->ac e 8= .int .i64 (d.length:Nat)->W Q 495 (.loop Oe) ⟨e,19,lc⟩ s K:=by
 have a0:=hh;intro h
 induction h with
 |nil=>
  intro d e y A N J z w;have G:d.length=l.length:=by rw[y];simp
  refine bG ?_;simp only[go_sem,hP,hh,seval,Oe,z,w,G,cD];exact U _ A
 |cons x h S=>
  intro d e y A N J z w;have F:d.length<l.length:=by rw[y];simp
  have u:l[d.length]? =some x:=by rw[y];simp
  have H:=fun lc k=>Y.at pB.2.2.1 u lc k;have B:=dB (n:=d.length) (by omega);have j:=hg x (eP u);simp only[aU] at j;have e1:([]:List aa)++([aU x]++cap)=aU x::cap:=rfl;refine bG ?_;simp only[go_sem,hP,hh,seval,Oe,N,J,z,w,F,H,aU,I];refine cG.of j (by decide) ?_;cases hd:p x with
  |true=>
   simp only[go_sem,hP,hh,seval];exact Z _ (by simp only[sN,seval,w,A,kJ,hd])
  |false=>
   simp only[go_sem,hP,hh,seval,w,B];refine S (d++[x]) _ (by rw[y];simp) (by rw[A];simp only[kJ,hd,cF,sA]) ?_ ?_ ?_ ?_
   all_goals simp only[sN,seval,N,J,z,sA]
include hH
theorem ahb(j:Q.spec 495=none)(d:Q.specW 495=none)(u:ay 2 aU sv l)(h:l.length<=1000000)(y:Q.spec g=none)(B: ∀x∈l,aq Q g (aU x::cap) s (.bool (p x)) s):aq Q 495 [sv,.func (.func g) [] cap] s (cd (kJ p l 0)) s:=by
 have w:=u.lenS pB;have z:=u.ge;refine aq.ofZ hP hH akW j d rfl ?_;refine co ?_;simp only[go_sem,hP,hh,seval,w,z];refine aha hP hh u h y B (r:=kJ p l 0) ?_ ?_ l [] _ rfl rfl (by simp only[sG,seval, *]) (by simp only[sG,seval, *]) (by simp only[sG,seval, *]) (by simp only[sN,seval];rfl);intro e A;simp only[go_sem,hP,hh,seval,A];rfl;intro e F;simp only[go_sem,hP,hh,seval,F];rfl
theorem agK(d:Q.spec 495=none)(e:Q.specW 495=none)(u:Q.spec 428=none)(h:Q.specW 428=none)(z:ay 2 aU sv l)(j:l.length<=1000000)(w:Q.spec g=none)(A: ∀x∈l,aq Q g (aU x::cap) s (.bool (p x)) s):aq Q 428 [sv,.func (.func g) [] cap] s (.bool (l.any p)) s:=by
 have y:=z.ge;refine aq.ofZ hP hH akG u h rfl ?_;refine co ?_;simp only[go_sem,hP,hh,seval,y,d];refine cG.of (ahb hP hh hH d e z j w A) (by decide) ?_;simp only[go_sem,hP,hh,seval,cd,kE,EG]
theorem ZM(B:Q.spec 495=none)(u:Q.specW 495=none)(e:Q.spec 428=none)(z:Q.specW 428=none)(F:Q.spec 430=none)(w:Q.specW 430=none)(d:Q.spec 429=none)(y:Q.specW 429=none)(G:Q.spec 326=none)(A:Q.specW 326=none){r:List Pt}(J:ay 2 aU sv r)(s:St):aq Q 326 [sv] s (.bool (pz r)) s:=by
 have j:=J.ge;have h:=J.lenS pB;have O:pz r=(cr 3 ((r.length:Nat):Int)&&(cr ((r.length:Nat):Int) 2000&& !r.any fun p=> !bk p)):=by
  have I:cr 3 ((r.length:Nat):Int)=decide (3<=r.length):=decide_eq_decide.2 (by omega);have H:cr ((r.length:Nat):Int) 2000=decide (r.length<=2000):=decide_eq_decide.2 (by omega);rw[acJ,I,H];rfl
 refine aq.ofZ hP hH aj6 G A rfl ?_;refine co ?_;rw[O];cases I:cr 3 ((r.length:Nat):Int) with
 |false=>simp only[go_sem,hP,hh,seval,j,h,I,kE]
 |true=>
  cases H:cr ((r.length:Nat):Int) 2000 with
  |false=>simp only[go_sem,hP,hh,seval,j,h,I,H,kE]
  |true=>
   have S:r.length<=2000:=by simp only[cr,dE] at H;omega
   have N:=agK hP hh hH B u e z J (by omega) d (cap:=[]) (s:=s) (p:=fun p=> !bk p) fun x _=>afp hP hh hH F w d y x s;simp only[go_sem,hP,hh,seval,j,h,I,H,kE,e];refine cG.of N (by decide) ?_;simp only[go_sem,hP,hh,seval]
end
def aaf{r:List Pt}{i:Nat}{p q:Pt}(e:r[i]? =some p)(d:r[(i+1) % r.length]? =some q):fw r i=(p,q):=by
 unfold fw;rw[e,d];rfl
variable{P:Nat->St->Prop}{D:St->Prop}{rv:aa}
section
variable{Q:aH}(hP:Q.P=ae)(hh:Q.hint=ai)(hH: ∀f,Q.specH f=none)
include hP hh
theorem aqA{r:List Pt}(J:ay 2 aU rv r)(a7:r.length<=2000){bx n:Nat}(hb: ∀i s,P i s->s.get [] bx=some (.cells [rv]))(Y: ∀i s,P i s->s.gt<=s.aL)(S: ∀i s,i<r.length->P i s-> ∃v s',ji Q n [.int .i64 (i:Nat),bX (fw r i)] s.top v s'/\(s'.ci=s.ci/\s.aL<=s'.aL/\((v= .bool true/\P (i+1) (s.Gt s'))\/(v= .bool false/\D (s.Gt s')))))(hx: ∀e lc s,P r.length s->K (.exit 0) ⟨e,27,lc⟩ s)(hd: ∀e lc s,D s->K .ret ⟨e,27,lc⟩ s):
 ∀(h d:List Pt) (e:ax) (lc:Ag.Loc) (s:St),r=d++h->P d.length s->ac e 0= .yld n->ac e 1= .ptr bx 0->ac e 5=rv->ac e 6= .int .i64 (r.length:Nat)->ac e 7= .int .i64 (d.length:Nat)->W Q 339 (.loop N6) ⟨e,27,lc⟩ s K:=by
 intro h
 induction h with
 |nil=>
  intro d e lc s I z h0 w h5 N H;have B:d.length=r.length:=by rw[I];simp
  refine bG ?_;simp only[go_sem,hP,hh,seval,N6,N,H,B,cD];exact hx _ _ _ (by rw[<-B];exact z)
 |cons p h ih=>
  intro d e lc s I z h0 w h5 N H;have A:d.length<r.length:=by rw[I];simp
  have G:r[d.length]? =some p:=by rw[I];simp
  have a0:=fun lc k=>J.at pB.2.2.1 G lc k;have x:=dB (n:=d.length) (by omega);have j:0<r.length:=by omega
  have y:=ZN (a:=d.length+1) (b:=r.length) j;obtain⟨q,hq⟩: ∃q,r[(d.length+1) % r.length]? =some q:=⟨_,gn (Nat.mod_lt _ j)⟩;have F:=fun lc k=>J.at pB.2.2.1 hq lc k;have u:=aaf G hq;have a2:=J.ge;have Z:=J.lenS pB;have a6:=hb _ _ z;have hm:=Y _ _ z;obtain⟨v,s1,O,a5,a4,a3⟩:=S d.length s A z;rw[u] at O;simp only[bX] at O;refine lk ?_;simp only[go_sem,hP,hh,seval,N6,h5,N,H,A,a0,aU];refine iT hm ?_;simp only[go_sem,hP,hh,Jd,seval,h0,w,H,x,a2,aW,a6,aY,sj,Z,y,F,aU,bj,bg,aZ,bf,evc];refine KW.of O a5 a4 (by decide) (by simp[fo,pD]) ?_;rcases a3 with⟨rfl,U⟩|⟨rfl,a1⟩
  ·simp only[go_sem,hP,hh,Jd,seval,H,x]
   refine ih (d++[p]) _ _ (s.Gt s1) (by rw[I];simp) (by rw[cJ];exact U) ?_ ?_ ?_ ?_ ?_
   all_goals simp only[sN,seval,h0,w,h5,N,sA]
  simp only[go_sem,hP,hh,Jd,seval];exact hd _ _ _ a1
include hH
theorem Bk(u:Q.spec 339=none)(d:Q.specW 339=none){r:List Pt}(x:ay 2 aU rv r)(j:r.length<=2000){bx n:Nat}(G: ∀i s,P i s->s.get [] bx=some (.cells [rv]))(y: ∀i s,P i s->s.gt<=s.aL)(w: ∀i s,i<r.length->P i s-> ∃v s',ji Q n [.int .i64 (i:Nat),bX (fw r i)] s.top v s'/\(s'.ci=s.ci/\s.aL<=s'.aL/\((v= .bool true/\P (i+1) (s.Gt s'))\/(v= .bool false/\D (s.Gt s')))))(F:P 0 s):
 ∃v s',aq Q 339 [.yld n,.ptr bx 0] s v s'/\(v= .tup []/\(P r.length s'\/D s')):=by
 have B:=G _ _ F;have z:=x.lenS pB;have A:=x.ge;refine aq.ofWZ hP hH akd u d ?_;refine co ?_;simp only[go_sem,hP,hh,seval,aW,B,aY,sj,z,A];refine aqA hP hh x j G y w ?_ ?_ r [] _ _ s rfl F ?_ ?_ ?_ ?_ ?_;intro e lc H h;simp only[go_sem,hP,hh,seval];exact⟨_,rfl,rfl,.inl h⟩;intro e lc H h;simp only[go_sem,hP,hh,seval];exact⟨_,rfl,rfl,.inr h⟩
 all_goals simp only[sN,seval,bn]
 all_goals rfl
theorem Bj(e:Q.spec 235=none)(d:Q.specW 235=none){r:List Pt}(u:ay 2 aU rv r)(s:St):aq Q 235 [rv] s (.func (.func 339) [] [.ptr s.aL 0]) (s.new (.cells [rv])):=by
 have j:=u.ge;have h:=u.scal;refine aq.ofZ hP hH ajf e d rfl ?_;refine co ?_;simp only[go_sem,hP,hh,seval,j,h,aru]
end
