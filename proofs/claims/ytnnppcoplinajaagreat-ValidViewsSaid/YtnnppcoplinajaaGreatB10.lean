/- Lemmas for ValidViews. -/
import Derived.Test.YtnnppcoplinajaaGreatB6
import Derived.Test.YtnnppcoplinajaaGreatB8
import Derived.Test.YtnnppcoplinajaaGreatB9
import Derived.Test.YtnnppcoplinajaaGreatAg3
import Derived.Test.YtnnppcoplinajaaGreatB7
set_option linter.all false
open Bool renaming and_self→cw,true_and→eH
open List renaming drop_drop→xP,drop_left→Bz,drop→bP,eq_nil_of_length_eq_zero→uv,filter_append→DR,finRange→ux,getElem?_cons_succ→jO,getElem?_eq_getElem→gn,getElem?_eq_some_iff→nY,getElem?_map→jf,getElem_mem→xR,length_append→cJ,length_cons→bH,length_take→sC,map_append→ff,mem_cons_of_mem→iE,mem_cons_self→iL,mem_of_getElem?→eP,range→ix,replicate→iy,take_append_drop→zU,take_append_of_le_length→Lf,take_of_length_le→re,take_succ_eq_append_getElem→Q5
open Nat renaming beq→aQ,ble_eq_true_of_le→cP,ble→bw,le_of_ble_eq_true→fW,le_refl→br,lt_irrefl→cD,mod_eq_of_lt→D0,mod_lt→uF,mul_le_mul_right→uG,reduceAdd→bQ,reduceBEq→ah,reduceLT→aB,reduceLeDiff→cK,reduceMod→ep,reducePow→ew,reduceSub→ey,succ_mul→mJ,zero_add→bV,zero_mul→BE
open Option renaming bind_eq_some_iff→ak,bind_some→au,getD_some→wt
open Option.some renaming injEq→aJ
open Go.Proofs.Tryz renaming prog→ae
open Go.Ag.W renaming loopC→bG
open Go.Ag.WC renaming sound→co
namespace Go.Proofs.YtnnppcoplinajaaGreat
open Go.Ag
open Go.Sort (putRow grow Holds SWO HoldsK putRowK flatK get_flatK size_flatK)
noncomputable def Cs(G:Gh)(h:aC aR):Gh:= {at_:=fun _=>none,ro:=fun b o=>(og G h b o).bind (AC h),dim:=fun _=>none }
variable{G:Gh}{h:aC aR}
def UZ{b o:Nat}{u c:aa}(e:og G h b o=some u)(f:fY h u c):(Cs G h).ro b o=some c:=by
 show(og G h b o).bind (AC h)=_;rw[e];exact UH f
variable{w:World}
def adJ(wr:WR G h w){b o:Nat}{u:aa}(e:og G h b o=some u):b<w.heap.size/\u.scal=true/\ ∃x,w.cell? ⟨b,o,none⟩=some x/\VR G u x:=by
 rcases HE e with e|⟨n,a,F,i,g,c,rfl,rfl,y⟩
 obtain⟨g,x,c,z⟩:=wr.ro b o u e;exact⟨World.block_lt_of_cell? w ⟨b,o,none⟩ c,g,x,c,z⟩;obtain⟨H,d,E,C,t,B,D,A⟩:=wr.obj n _ g;rw[c] at d;injection d with d;subst d
 obtain⟨q,x,p,j⟩:=A i u y;exact⟨wr.below n a c,q,x,by rw[o0 B];exact p,j⟩
def asX{W:World}(wr:WR G h w){c:Nat}(j: ∀b o u,og G h b o=some u->b≠c)(q: ∀b,b<w.heap.size->b≠c->W.heap[b]? =w.heap[b]?):WR (Cs G h) .nil W:=by
 refine⟨fun _ _ e=>(by cases e),fun _ _ _ _ e=>absurd rfl e,fun b o v e=>?_,fun _ _ _ _ _ e=>(by cases e),fun _ _ e=>(by cases e),fun _ _ e=>(by cases e)⟩;simp only[Cs,ak] at e;obtain⟨u,g,B⟩:=e;obtain⟨A,z,x,y,t⟩:=adJ wr g;have p:=UI B;obtain⟨k,d⟩:=p;refine⟨H2 d z,x,(World.cell?_of_block (q b A (j b o u g))).trans y,thaw (G2:=Cs G h) (fun b o u C=>UZ) wr k t d⟩
variable{α:Type}
def aq6[Inhabited α](enc:α->List Value)(k:Nat)(w:World)(c off m:Nat)(o:Array α)(os:Array Go.Obj)(b:Nat)(g:b<w.heap.size)(d:b≠c):(sortWorldK enc k w c off m o os).heap[b]? =w.heap[b]? :=by
 unfold sortWorldK putRowK;rw[Go.Sort.heap_grow_old _ _ (by simpa using g)];have j: ¬c=b:=fun e=>d e.symm;simp[putRow,Go.Sort.mapBlock,Sort.ahead,Array.getElem?_modify,j]
def aeh[Inhabited α]{g:Nat}{sp:Sp}(B:db ae g sp)(O: ∀d w,(callFunc g d).run ae w= .ok (.enter g d) w){G2:Gh}{enc:α->List Value}{encA:α->aa}(D: ∀x,VR G2 (encA x) (.agg (enc x).toArray)){F:α->α->Int}(C: ∀x y,sp [encA x,encA y]=some (.int .i64 (F x y)))(k o off size:Nat)(w:World)(A: ∀m p t,WR G2 .nil (sortWorldK enc k w o off m t p)):CmpLays ae g #[] enc k F o off size w:=by
 intro m p t _ x y;have A:=A m p t;generalize sortWorldK enc k w o off m t p=W at*;have M:=B _ _ (C x y) G2 .nil W [.agg (enc x).toArray,.agg (enc y).toArray] A (.cons (D x) (.cons (D y) .nil));rcases M with⟨S,c,E,_⟩|⟨_,N⟩
 rw[O] at E;cases E;refine N.mono ?_;rintro e c ⟨v,rfl,U,_,z,H⟩;cases H;refine⟨rfl,c.drawn-W.drawn,c.heap.extract W.heap.size c.heap.size,?_⟩;have q:=z.quiet;have I:=z.size;have j:c.heap=W.heap++c.heap.extract W.heap.size c.heap.size:=by
  apply Array.ext_getElem?;intro i;by_cases hi:i<W.heap.size;rw[Array.getElem?_append_left hi];exact z.keep i hi fun J=>by
   obtain⟨n,a,h,_⟩:=J;exact h rfl
  rw[Array.getElem?_append_right (by omega),Array.getElem?_extract];by_cases hj:i-W.heap.size<c.heap.size-W.heap.size;rw[iP (by omega),show W.heap.size+(i-W.heap.size)=i by omega];rw[iN (by omega),Array.getElem?_eq_none (by omega)]
 have T:=q.2.2.2.2.2;refine abv j q.2.2.2.2.1 ?_ q.1 q.2.1;show c.drawn=W.drawn+(c.drawn-W.drawn);omega
def oG{k:Nat}: ∀ {rows:List aa},(∀v∈rows,v.cells.length=k)->(aF rows).length=rows.length*k
 | [],_=>by simp[aF]
 |v::l,h=>by
  have:=oG (rows:=l) fun x c=>h x (iE _ c);rw[aF,cJ,this,h v iL,bH,mJ];omega
def PV{k:Nat}(c:0<k): ∀ {rows:List aa},(∀v∈rows,v.cells.length=k)-> ∀t,(aF rows)[t]? =(rows[t / k]?).bind fun v=>v.cells[t % k]?
 | [],_,t=>by simp[aF]
 |v::l,h,t=>by
  have g:=h v iL;have d:=PV c (rows:=l) fun x e=>h x (iE _ e);rw[aF];by_cases ht:t<k;rw[List.getElem?_append_left (by omega),Nat.div_eq_of_lt ht,D0 ht];rfl;rw[List.getElem?_append_right (by omega),g,d];have o:t / k=(t-k) / k+1:=by
   rw[<-Nat.add_div_right _ c];congr 1;omega
  have j:t % k=(t-k) % k:=by
   rw[<-Nat.add_mod_right (t-k) k];congr 1;omega
  rw[o,j,jO]
variable{i k:Nat}
def ZW{rows:List aa}(h: ∀v∈rows,v.cells.length=k){v:aa}(c:rows[i]? =some v):cut (aF rows) (i*k) k=some v.cells:=by
 induction rows generalizing i with
 |nil=>simp at c
 |cons x l e=>
  have d:=h x iL;cases i with
  |zero=>
   simp only[List.getElem?_cons_zero,aJ] at c;subst c;simp only[cut,aF,BE,List.drop_zero,bD];rw[Lf (by omega),re (by omega),d];simp
  |succ i=>
   rw[jO] at c
   have:=e (fun y g=>h y (iE _ g)) c;rw[<-this];simp only[cut,aF];have:(x.cells++aF l).drop ((i+1)*k)=(aF l).drop (i*k):=by
    rw[show(i+1)*k=x.cells.length+i*k by rw[d,mJ];omega,<-xP,Bz]
   rw[this]
def zx{rows:List aa}(h: ∀v∈rows,v.cells.length=k)(A:i<rows.length){x:aa}(p:x.cells.length=k):fL (aF rows) (i*k) x.cells=some (aF (rows.set i x)):=by
 induction rows generalizing i with
 |nil=>simp at A
 |cons v l e=>
  have g:=h v iL;have z:=oG (rows:=l) fun y o=>h y (iE _ o);have c:(v.cells++aF l).length=(l.length+1)*k:=by rw[cJ,g,z,mJ];omega
  cases i with
  |zero=>
   have j:bw (0*k+k) ((l.length+1)*k)=true:=cP (by rw[mJ];omega);have q:(v.cells++aF l).drop k=aF l:=by rw[<-g,Bz]
   rw[BE,bV] at j;simp only[go_sem,aF,c,p,j,List.set_cons_zero,BE,q]
  |succ i=>
   have d:i<l.length:=by simpa using A
   have e:=e (fun y o=>h y (iE _ o)) d;have B:i*k+k<=l.length*k:=by rw[<-mJ];exact uG k d
   have j:bw ((i+1)*k+k) ((l.length+1)*k)=true:=cP (by rw[mJ,mJ];omega);have t:bw (i*k+k) (l.length*k)=true:=cP B;simp only[fL,p,z,t,cT,aJ] at e;simp only[fL,aF,c,p,j,cT,List.set_cons_succ,<-e];have D:(v.cells++aF l).take ((i+1)*k)=v.cells++(aF l).take (i*k):=by
    rw[show(i+1)*k=v.cells.length+i*k by rw[g,mJ];omega,List.take_length_add_append]
   have C:(v.cells++aF l).drop ((i+1)*k+k)=(aF l).drop (i*k+k):=by
    rw[show(i+1)*k+k=v.cells.length+(i*k+k) by rw[g,mJ];omega,<-xP,Bz]
   rw[D,C,List.append_assoc]
def xy(c:Nat->Nat->Int)(n:Nat):List (Fin n):=(ux n).mergeSort fun i j=> !(ltOf fun x y:Fin n=>c x y) j i
def xI(c:Nat->Nat->Int)(rows:List aa):List aa:=(xy c rows.length).map fun i=>rows[i]
def Ps(c:Nat->Nat->Int)(n:Nat):(xy c n).Perm (ux n):=List.mergeSort_perm _ _
def aaw(c:Nat->Nat->Int)(rows:List aa):(xI c rows).Perm rows:=by
 have h:=(Ps c rows.length).map fun i=>rows[i];have e:(ux rows.length).map (fun i=>rows[i])=rows:=by
  refine List.ext_getElem (by simp) fun i g d=>?_;simp
 rwa [e] at h
def abn{G:Gh}: ∀ {cs:List aa} {vs:List Value},cs.length=vs.length->(∀(i:Nat) v,cs[i]? =some v-> ∃x,vs[i]? =some x/\VR G v x)->ck G cs vs
 | [],[],_,_=>.nil
 | [],_::_,h,_=>by simp at h
 |_::_,[],h,_=>by simp at h
 |c::cs,v::vs,h,hv=>by
  obtain⟨x,d,g⟩:=hv 0 c rfl;have d:some v=some x:=d;injection d with d;subst d
  exact .cons g (abn (by simpa using h) fun i u e=>hv (i+1) u e)
def Qe{f g:Nat}{ρ:Go.Shelf.Ren}(L:SlLaysF0.n6 ae ρ)(hf:ρ.f 6=f)(aE: ∀w,(isAgg (ρ.t 24)).run ae w= .ok true w)(zE: ∀w,(Go.sizeOf (ρ.t 24)).run ae w= .ok k w)(ef: ∀A w,(callFunc f A).run ae w= .ok (.enter f A) w)(eg: ∀A w,(callFunc g A).run ae w= .ok (.enter g A) w){sp:Sp}(b8:db ae g sp)(wr:WR G h w){m lcap:Nat}{rows us:List aa}(hl:h.get m=some (.cells (aF rows)))(hk: ∀v∈rows,v.cells.length=k/\v= .agg v.cells)(D:0<k)(a2:us.length=rows.length)(hu: ∀(i:Nat) v u,rows[i]? =some v->us[i]? =some u->fY (h.set m none) v u)(E:Nat->Nat->Int)(c8: ∀(i j:Nat) u u',us[i]? =some u->us[j]? =some u'->sp [u,u']=some (.int .i64 (E i j)))(hO:SWO (ltOf fun x y:Fin rows.length=>E x y))(hT: ∀x y:Fin rows.length,(ltOf fun x y:Fin rows.length=>E x y) x y=false->(ltOf fun x y:Fin rows.length=>E x y) y x=false->x=y)(d2:rows.length<=1000000){y:Value}(hy:VR G (.arr k m 0 rows.length lcap) y):
 mM ae f ⟨[y,.func (.func g) #[] #[]]⟩ w fun z w'=> ∃O,WR O (h.set m (some (.cells (aF (xI E rows))))) w'/\cZ G h w O (h.set m (some (.cells (aF (xI E rows))))) w' 0 0/\VR O (.tup []) z:=by
 subst hf;have B: ∀v∈rows,v.cells.length=k:=fun v hv=>(hk v hv).1;have d4: ∀v∈xI E rows,v.cells.length=k:=fun v hv=>B v ((aaw E rows).mem_iff.1 hv);have c0:(xI E rows).length=rows.length:=(aaw E rows).length_eq;obtain⟨a,b,b4,rfl,J,M,b3,d1,d,q,hd⟩:=LK hy;obtain⟨b',V,_,C,e,hC,a5,c7⟩:=wr.obj m _ hl;rw[J] at V;injection V with V;subst V
 rw[a5] at q;injection q with q
 have c9:=wr.below m b J;obtain⟨val,p⟩: ∃val:Nat->Nat->Value, ∀(i:Nat) v,rows[i]? =some v-> ∀(t:Nat) u,v.cells[t]? =some u->C[b.off+(i*k+t)]? =some (val i t)/\VR G u (val i t)/\u.scal=true:=by
  refine⟨fun i t=>(C[b.off+(i*k+t)]?).getD .nilFunc,fun i v I t u F=>?_⟩;have T:t<k:=by
   have:=(nY.1 F).1;rwa [B v (eP I)] at this
  have e:(aF rows)[i*k+t]? =some u:=by
   rw[PV D B];have e1:(i*k+t) / k=i:=by rw[Nat.add_comm,Nat.add_mul_div_right _ _ D,Nat.div_eq_of_lt T,bV]
   have e2:(i*k+t) % k=t:=by rw[Nat.add_comm,Nat.add_mul_mod_self_right,D0 T]
   rw[e1,e2,I];exact F
  obtain⟨h1,x,h2,h3⟩:=c7 _ u e;simp only[h2,wt,tA];exact⟨h3,h1⟩
 have Y: ∀(i:Nat) v,rows[i]? =some v->ck G v.cells ((ix k).map (val i)):=fun i v I=>by
  refine abn (by simp[B v (eP I)]) fun t u F=>?_;have T:t<k:=by
   have:=(nY.1 F).1;rwa [B v (eP I)] at this
  exact⟨val i t,by simp[T],(p i v I t u F).2.1⟩
 have N: ∀(i:Nat) v,rows[i]? =some v->dG v.cells=true:=fun i v I=>by
  simp only[dG,List.all_eq_true];intro u b6;obtain⟨t,F⟩:=List.getElem?_of_mem b6;exact(p i v I t u F).2.2
 have b2: ∀n os (H:Array (Fin rows.length)) (a1:Inhabited (Fin rows.length)),H.toList.length=rows.length-> ∃O,WR O (h.set m (some (.cells (aF (H.toList.map fun i=>rows[i]))))) (sortWorldK (fun i:Fin rows.length=>(ix k).map (val i)) k w b.block b.off n H os)/\
  cZ G h w O (h.set m (some (.cells (aF (H.toList.map fun i=>rows[i]))))) (sortWorldK (fun i:Fin rows.length=>(ix k).map (val i)) k w b.block b.off n H os) 0 0/\VR O (.tup []) (.tuple #[]):=fun n os H a1 c5=>by
  have c6: ∀v∈H.toList.map (fun i=>rows[i]),v.cells.length=k:=fun v hv=>by
   obtain⟨i,_,rfl⟩:=List.mem_map.1 hv;exact B _ (xR _)
  refine Kn wr hl J id (flatK (fun i:Fin rows.length=>(ix k).map (val i)) k H) n os (fun C' e' c=>?_) (fun t v F=>?_);rw[hC] at c;injection c with c;injection c with c _ _;subst c
  rw[size_flatK,<-Array.length_toList,c5,q]
  have:=uG k b3;omega;rw[PV D c6] at F;simp only[ak,jf,Option.map_eq_some_iff] at F;obtain⟨r,⟨i,I,rfl⟩,F⟩:=F;have c3:t / k<H.size:=by
   have:=(nY.1 I).1;simpa using this
  have a7:t<H.size*k:=by
   have:=Nat.div_add_mod t k
   have:=uF t D;have h3:(t / k+1)*k<=H.size*k:=uG k c3;rw[mJ] at h3
   have:=Nat.div_add_mod t k;rw[Nat.mul_comm] at this;omega
  refine⟨by rw[size_flatK];exact a7,(p i _ (by simp) _ v F).2.2,?_⟩;show VR G v ((flatK _ k H)[t]!);rw[get_flatK _ _ _ _ a7];have e1:H[t / k]! =i:=by
   have b1:H.toList[t / k]? =some i:=I;rw[Array.getElem?_toList] at b1;rw[getElem!_def,b1]
  have b7:=uF t D;rw[e1];have e2:((ix k).map (val i))[t % k]! =val i (t % k):=by
   rw[getElem!_def];simp[b7]
  rw[e2];exact(p i _ (by simp) _ v F).2.1
 by_cases hn:rows.length=0;have c1:rows=[]:=uv hn;subst c1;refine .inr ⟨ef _ _,(AnyF.slices_SortFunc_none L (some a) b4 (.func (.func g) #[] #[]) w).mono ?_⟩;rintro e' w' ⟨rfl,rfl⟩;obtain⟨O,S,g2,g3⟩:=Kn (cs':=[]) wr hl J id (#[]:Array Value) 0 #[] (fun C' e' c=>by
  rw[hC] at c;injection c with c;injection c with c _ _;subst c
  rw[q];show b.off+0<=d;omega) (fun i v I=>by simp at I)
 have hw:grow (putRow id (Sort.ahead w' 0) b.block b.off (#[]:Array Value)) #[]=w':=by
  rw[Go.Sort.grow_empty,Go.Sort.ahead_zero];exact Go.Sort.putRow_self id w' b.block b.off _ (fun j hj=>by simp at hj)
 rw[hw] at S g2;rw[uv c0];exact⟨_,rfl,O,S,g2,g3⟩
 haveI a1:Inhabited (Fin rows.length):=⟨⟨0,by omega⟩⟩
 rcases d1 with h0|⟨a0,Z⟩
 exact absurd h0 hn;obtain⟨ab,ao,d5⟩:=a;simp only at a0 Z M;subst a0;subst Z;subst M;have a3:(ux rows.length).toArray.size=rows.length:=by simp
 have hH:HoldsK (fun i:Fin rows.length=>(ix k).map (val i)) k w b.block b.off (ux rows.length).toArray:=fun j hj=>by
  have a4:j<(ux rows.length).toArray.size*k:=by rw[size_flatK] at hj;exact hj
  refine⟨?_,by simp[World.frozen?,hC]⟩;have U:j / k<rows.length:=by
   rw[a3] at a4;exact(Nat.div_lt_iff_lt_mul D).2 a4
  have b0:=uF j D;have a9:=B _ (xR U);obtain⟨h1,_,_⟩:=p (j / k) rows[j / k] (by simp[U]) (j % k) (rows[j / k].cells[j % k]'(by omega)) (by simp[a9,b0]);have ej:j / k*k+j % k=j:=by rw[Nat.mul_comm];exact Nat.div_add_mod j k
  rw[ej] at h1;rw[o0 hC,h1];show some _=some ((flatK _ k (ux rows.length).toArray)[j]!);rw[get_flatK _ _ _ _ a4];have e1:(ux rows.length).toArray[j / k]! =⟨j / k,U⟩:=by
   rw[getElem!_def];simp[U]
  rw[e1,getElem!_def];simp[b0]
 have a6:WR G (h.set m none) w:=wr.killed m;have c2: ∀bb o u,og G (h.set m none) bb o=some u->bb≠b.block:=fun bb o u hc he=>by
  subst he;rcases HE hc with hc|⟨n,a',cs,i,S,g2,g3,_,_⟩
  have:=wr.apart m _ b o u hl J hc;cases this.1;by_cases hnm:n=m;subst hnm;rw[aC.get_set,iP rfl] at S;cases S;rw[aC.get_set,iN hnm] at S;exact hnm (wr.sep n m a' b (by rw[S];simp) (by rw[hl];simp) g2 J g3)
 have b5: ∀x:Fin rows.length,VR (Cs G (h.set m none)) (us[x]'(by rw[a2];exact x.2)) (.agg ((ix k).map (val x)).toArray):=fun x=>by
  have hx:rows[x.1]? =some rows[x]:=by simp
  obtain⟨kk,c4⟩:=hu x rows[x] _ hx (gn (by rw[a2];exact x.2));refine thaw (fun _ _ _ _=>UZ) a6 kk (v:=rows[x]) ?_ c4;rw[(hk rows[x] (xR _)).2];exact .agg (N x _ hx) (Y x _ hx)
 have hO:=AnyQ.slices_SortFunc_total L k aE zE (fun i:Fin rows.length=>(ix k).map (val i)) (fun _=>by simp) (fun x v hv=>by
  have hx:rows[x.1]? =some rows[x]:=by simp
  exact(Y x _ hx).ones (N x _ hx) v hv) (fun x y:Fin rows.length=>E x y) hO g #[] b.block b.off b4 (ux rows.length).toArray w eg
  (aeh b8 eg (G2:=Cs G (h.set m none)) (encA:=fun x=>us[x]'(by rw[a2];exact x.2)) b5 (fun x y=>c8 x y _ _ (gn _) (gn _)) k b.block b.off _ w
   (fun mm os dk=>asX a6 c2 fun bb d0 a8=>aq6 _ _ _ _ _ _ _ _ bb d0 a8)) hH c9 (by rw[a3];omega) hT
 rw[a3] at hO;refine .inr ⟨ef _ _,hO.mono ?_⟩;rintro e' w' ⟨rfl,n,os,rfl⟩;obtain⟨O,S,g2,g3⟩:=b2 n os (xy E rows.length).toArray a1 (by simpa using(Ps E rows.length).length_eq);have e:(xy E rows.length).toArray.toList.map (fun i=>rows[i])=xI E rows:=by simp[xI]
 rw[e] at S g2;exact⟨_,rfl,O,S,g2,g3⟩
end Go.Proofs.YtnnppcoplinajaaGreat
namespace Go.Proofs.YtnnppcoplinajaaGreat
open Go.Ag
abbrev dg:=Int×bT
def jX(s:bT):Int:=min s.1.1 s.2.1
def vh(s:bT):Int:=max s.1.1 s.2.1
def qJ(s:bT):Int:=min s.1.2 s.2.2
def qG(s:bT):Int:=max s.1.2 s.2.2
def jz(x:dg):List aa:=[.int .i64 x.1,.int .i64 x.2.1.1,.int .i64 x.2.1.2,.int .i64 x.2.2.1,.int .i64 x.2.2.2,.int .i64 (jX x.2),.int .i64 (vh x.2),.int .i64 (qJ x.2),.int .i64 (qG x.2)]
def cX(x:dg):aa:=.agg (jz x)
abbrev Mt:=Int×Int×Int
def im(m:Mt):aa:=.agg [.int .i64 m.1,.int .i64 m.2.1,.int .i64 m.2.2]
def A4:Sp
 | [.int .i64 a,.int .i64 b]=>some (aU (min a b,max a b))
 |_=>none
variable{s:St}{x:dg}
section
variable{sp:SpZ}
def anK(c:sp 303=none)(a b:Int)(s:St):aq (QS sp) 303 [.int .i64 a,.int .i64 b] s (aU (min a b,max a b)) s:=by
 refine aq.of4 IV.1 IV.2 IV.3 IV.4 c ?_;simp only[go_sem,seval,aU,ru,sY,bj,bg,aZ,bf,evc]
def adi(c:sp 308=none)(a b:Int×Int)(s:St):aq (QS sp) 308 [aU a,aU b] s (.bool (cr a.1 b.2&&cr b.1 a.2)) s:=by
 refine aq.of3 IX.1 IX.2 IX.3 IX.4 c rfl ?_;cases e1:cr a.1 b.2 with
 |false=>simp only[go_sem,seval,aU,e1,Bool.false_and]
 |true=>simp only[go_sem,seval,aU,e1,eH]
def aeg(c:sp 305=none)(d:sp 232=some o5)(e:sp 108=some vA){y:dg}(o:IntKind.i64.wrap (x.1-y.1)=x.1-y.1)(p:s.gt<=s.aL):aq (QS sp) 305 [cX x,cX y] s (cd (mz [jx (jX x.2) (jX y.2),x.1-y.1])) s:=by
 have j:o5 [.int .i64 (jX x.2),.int .i64 (jX y.2)]=some (.int .i64 (jx (jX x.2) (jX y.2))):=rfl;have g:vA [.list 1 [.int .i64 (jx (jX x.2) (jX y.2)),.int .i64 (x.1-y.1)] .GE]=some (.int .i64 (mz [jx (jX x.2) (jX y.2),x.1-y.1])):=rfl;refine aq.of3 IW.1 IW.2 IW.3 IW.4 c rfl ?_;simp only[go_sem,seval,cX,jz,cd,p,d,e,j,g,o,bj,bg,aZ,bf,evc]
def aek(c:sp 310=none)(d:sp 108=some vA){x y:Mt}(j:IntKind.i64.wrap (x.1-y.1)=x.1-y.1)(e:IntKind.i64.wrap (x.2.1-y.2.1)=x.2.1-y.2.1)(s:St):aq (QS sp) 310 [im x,im y] s (cd (mz [x.1-y.1,x.2.1-y.2.1])) s:=by
 have g:vA [.list 1 [.int .i64 (x.1-y.1),.int .i64 (x.2.1-y.2.1)] .GE]=some (.int .i64 (mz [x.1-y.1,x.2.1-y.2.1])):=rfl;refine aq.of3 IY.1 IY.2 IY.3 IY.4 c rfl ?_;simp only[go_sem,seval,im,cd,d,g,j,e,bj,bg,aZ,bf,evc]
end
variable{n:Nat}{a:dg}
section
variable{Q:aH}(hP:Q.P=ae)(hh:Q.hint=ai)(hH: ∀f,Q.specH f=none)
include hP hh hH
def TS(d:Q.spec 307=none)(c:Q.specW 307=none)(e:s.get [] n=some (.cells (jz a))):aq Q 307 [cX x,.ptr n 0] s (.bool (bc (vh x.2) (jX a.2))) s:=by
 refine aq.ofZ hP hH ajR d c rfl ?_;refine co ?_;simp only[go_sem,hP,hh,seval,cX,jz,e]
end
def FA(mk:aK)(n m o l c:Nat)(s:St):jo ae mk 363 (.arr n m o l c) s=some (.int .i64 l):=by kernel_rfl
variable{R:List dg}
def wY: ∀v∈R.map cX,v.cells.length=9:=fun v c=>by
 obtain⟨x,_,rfl⟩:=List.mem_map.1 c;rfl
variable{i m:Nat}
def Ii(h:s.get [] m=some (.cells (aF (R.map cX))))(c:R[i]? =some x):yT ae 368 (i*9) (s.get [] m)=some (cX x):=by
 rw[h,aY,PN,ZW wY (by rw[jf,c];rfl)];rfl
def jn(a x:dg):Bool:=bc (vh x.2) (jX a.2)
def tu(p:dg->Bool):List dg->Nat->Int
 | [],_=> -1
 |x::l,i=>bif p x then(i:Int) else tu p l (i+1)
variable{lc:Ag.Loc}{K:Ex->Fr->St->Prop}{lcap:Nat}
section
variable{Q:aH}(hP:Q.P=ae)(hh:Q.hint=ai)(hH: ∀f,Q.specH f=none)
include hP hh hH
def ag8(g:Q.spec 307=none)(o:Q.specW 307=none){len:Nat}(U:R.length<=1000000)(I:len<=R.length)(T:s.get [] m=some (.cells (aF (R.map cX))))(S:s.get [] n=some (.cells (jz a))){r:Int}(N: ∀e,r= -1->K (.exit 0) ⟨e,19,lc⟩ s)(O: ∀e,ac e 4= .int .i64 r->K .ret ⟨e,19,lc⟩ s):
 ∀(d c:List dg) (e:ax),R.take len=c++d->r=tu (jn a) d c.length->ac e 0= .arr 9 m 0 len lcap->ac e 1= .func (.func 307) [] [.ptr n 0]->ac e 7= .int .i64 (len:Nat)->ac e 8= .int .i64 (c.length:Nat)->W Q 418 (.loop Jh) ⟨e,19,lc⟩ s K:=by
 intro d;have J:(R.take len).length=len:=by rw[sC];omega
 induction d with
 |nil=>
  intro c e t A B y z q;have E:c.length=len:=by rw[<-J,t];simp
  refine bG ?_;simp only[go_sem,hP,hh,seval,Jh,B,y,z,q,E,cD];exact N _ A
 |cons x d M=>
  intro c e t A B y z q;have p:c.length<len:=by rw[<-J,t];simp
  have H:R[c.length]? =some x:=by
   have:(R.take len)[c.length]? =some x:=by rw[t];simp
   rwa [List.getElem?_take,iP p] at this
  have D:=Ii T H;have C:=dB (n:=c.length) (by omega);have F:(cX x).ge=true:=rfl;refine bG ?_;simp only[go_sem,hP,hh,seval,Jh,B,y,z,q,p,D,g,F];refine cG.of (TS hP hh hH g o S) (by decide) ?_;cases hd:jn a x with
  |true=>
   have j:bc (vh x.2) (jX a.2)=true:=hd;simp only[go_sem,hP,hh,seval,j];exact O _ (by simp only[sN,seval,q,A,tu,hd])
  |false=>
   have j:bc (vh x.2) (jX a.2)=false:=hd;simp only[go_sem,hP,hh,seval,j,q,C];refine M (c++[x]) _ (by rw[t];simp) (by rw[A];simp only[tu,hd,cF,sA]) ?_ ?_ ?_ ?_
   all_goals simp only[sN,seval,B,y,z,sA]
def ag9(j:Q.spec 418=none)(c:Q.specW 418=none)(o:Q.spec 307=none)(d:Q.specW 307=none){len:Nat}(p:R.length<=1000000)(g:len<=R.length)(y:s.get [] m=some (.cells (aF (R.map cX))))(t:s.get [] n=some (.cells (jz a))):aq Q 418 [.arr 9 m 0 len lcap,.func (.func 307) [] [.ptr n 0]] s (cd (tu (jn a) (R.take len) 0)) s:=by
 refine aq.ofZ hP hH WW j c rfl ?_;refine co ?_;simp only[go_sem,hP,hh,seval,FA];refine ag8 hP hh hH (lcap:=lcap) o d p g y t (r:=tu (jn a) (R.take len) 0) ?_ ?_ (R.take len) [] _ rfl rfl (by simp only[sG,seval, *]) (by simp only[sG,seval, *]) (by simp only[sG,seval, *]) (by simp only[sN,seval];rfl);intro e q;simp only[go_sem,hP,hh,seval,q];rfl;intro e z;simp only[go_sem,hP,hh,seval,z];rfl
end
def ari(l:List ag):aa:=fI 1 (l.map aG)
def tagsV(l:List fE):aa:=fI 2 (l.map jd)
def awD:Sp
 | [v]=>(BO v).bind fun l=>bif bw l.length 100000 then some (ari (abu l)) else none
 |_=>none
def atn:Sp
 | [v,u]=>(jT v).bind fun a=>(jT u).bind fun b=>some (cd (ael a b))
 |_=>none
def BR:Sp
 | [v,u]=>(x9 v).bind fun a=>(x9 u).bind fun b=>bif bw a.length 1000000 then some (.bool (lL a b)) else none
 |_=>none
def AK:Sp
 | [v,u]=>(x9 v).bind fun a=>(x9 u).bind fun b=>bif bw a.length 1000000&&bw b.length 1000000 then some (.bool (wV a b)) else none
 |_=>none
def aoV(p:Option Obj):aa:=match p with
 |some o=>o.val
 |none=>as3.val
def atH:Sp
 | [v,.str id]=>(acR v).bind fun l=>some (.tup [aoV (dP id l),.bool (dP id l).isSome])
 |_=>none
def wT:Sp
 | [v,.str k]=>(BO v).bind fun l=>bif bw l.length 1000000 then some (.tup [.str ((dM k l).getD []),.bool (dM k l).isSome]) else none
 |_=>none
variable{a b:List ag}{u v:aa}
section
variable{sp:SpZ}
def ac8(S:ay 1 aG v a)(O:ay 1 aG u b)(ha:a.length<=1000000)(hm:s.gt<=s.aL)(hx: ∀e,ac e 0=v->ac e 1=u->lL a b=decide (a.length<b.length)->K (.exit 0) ⟨e,41,lc⟩ s)(hr: ∀e,ac e 4= .bool (lL a b)->K .ret ⟨e,41,lc⟩ s):
 ∀(t rb c d:List ag) (e:ax),a=c++t->b=d++rb->c.length=d.length->lL a b=lL t rb->ac e 0=v->ac e 1=u->ac e 5= .int .i64 (c.length:Nat)->W (QS sp) 82 (.loop Fw) ⟨e,41,lc⟩ s K:=by
 have I:=S.ge;have V:=O.ge;have H:=fun M s=>S.lenS cH M s;have J:=fun M s=>O.lenS cH M s;intro t
 induction t with
 |nil=>
  intro rb c d e E A z C F g D;have B:a.length=c.length:=by rw[E];simp
  have j:b.length=c.length+rb.length:=by rw[A,z];simp
  refine W.loopF ?_;simp only[dJ,FlZ,ah,aB,ofValue,pw,EK,Fw,F,D,I,H,B,cD];refine hx _ (by simp only[abK,ah, *]) (by simp only[abK,ah, *]) ?_;rw[C,B,j];cases rb with
  |nil=>simp[lL]
  |cons y rb=>simp[lL]
 |cons x t ih=>
  intro rb c d e E A z C F g D;have p:c.length<a.length:=by rw[E];simp
  have U:a[c.length]? =some x:=by rw[E];simp
  have Z:=fun lc=>S.at cH.2.2.1 U lc .i64;cases rb with
  |nil=>
   have j:b.length=c.length:=by rw[A,z];simp
   refine W.loopF ?_;simp only[dJ,FlZ,ah,aB,ofValue,pw,EK,Fw,F,g,D,I,V,H,J,p,j,cD];refine hx _ (by simp only[abK,ah, *]) (by simp only[abK,ah, *]) ?_;rw[C,j,dN (by omega)];rfl
  |cons y rb=>
   have o:c.length<b.length:=by rw[A,z];simp
   have T:b[c.length]? =some y:=by rw[A,z];simp
   have Y:=fun lc=>O.at cH.2.2.1 T lc .i64;have N:=dB (n:=c.length) (by omega);refine W.loopF ?_;cases hq:x==y with
   |false=>
    have q:lL a b=Op.bytesLess x y:=by rw[C];simp only[lL,hq,cF]
    simp only[dJ,FlZ,isStore,List.take,bP,ah,aB,bQ,ey,vf,ew,ep,ofValue,pw,iB,EK,W6,alh,Fw,F,g,D,I,V,H,J,Z,Y,p,o,hm,aG,hq];exact hr _ (by simp only[aj,ah,cT,q])
   |true=>
    have q:lL a b=lL t rb:=by rw[C];simp only[lL,hq,cT]
    simp only[dJ,FlZ,isStore,List.take,bP,ah,aB,bQ,ey,vf,ew,ep,ofValue,pw,iB,EK,W6,Fw,F,g,D,I,V,H,J,Z,Y,p,o,hm,aG,hq,N];exact ih rb (c++[x]) (d++[y]) _ (by rw[E];simp) (by rw[A];simp) (by simp[z]) q (by simp only[abK,ah, *]) (by simp only[abK,ah, *]) (by simp only[abc,akZ,ah])
def ac9(j:sp 82=none)(g:ay 1 aG v a)(d:ay 1 aG u b)(y:a.length<=1000000)(t:s.gt<=s.aL):aq (QS sp) 82 [v,u] s (.bool (lL a b)) s:=by
 have D:=g.ge;have C:=d.ge;have p:=fun c s=>g.lenS cH c s;have o:=fun c s=>d.lenS cH c s;refine aq.of3 Jx.1 Jx.2 Jx.3 Jx.4 j rfl ?_;simp only[dJ,FlZ,ii,gI,aB,bQ,cK,ofValue,pw,Oz];refine ac8 g d y t ?_ ?_ a b [] [] _ rfl rfl rfl rfl (by simp only[abc,ah, *]) (by simp only[abc,ah, *]) (by simp only[abc,ah, *];rfl);intro e B A q;simp only[dJ,FlZ,ah,aB,reduceCtorEq,EK,B,A,D,C,p,o,q];intro e z;simp only[aT,FQ,Eg,reduceCtorEq,oT,eq_self,z]
end
def SL(j:ay 1 aG v a)(g:ay 1 aG u b)(d:bL v=true)(c:bL u=true)(e:a.length<=1000000):BR [v,u]=some (.bool (lL a b)):=by
 simp only[adz,BR,Hx j d,Hx g c,cP e]
def ac6:db ae 82 BR:=by
 refine pC dR.nil fun c u h=>?_;unfold BR at h;split at h;simp only[ak] at h;obtain⟨a,q,b,p,h⟩:=h;obtain⟨o,h⟩:=bh h;have h:=sI h;subst h;obtain⟨j,e⟩:=Hw q;obtain⟨g,d⟩:=Hw p;exact⟨by simp only[pures,e,d,cw],_,_,ac9 (sp:=fun f=>gL f []) rfl j g (fW o) (br _),rfl,⟨1,rfl⟩⟩;cases h
def Ru:dX:=[(82,BR)]
def abU:dR Ru:=.cons ac6 .nil
section
variable{sp:SpZ}
def ag4(j:sp 35=none)(c:sp 82=some BR)(g:ay 1 aG v a)(e:ay 1 aG u b)(p:bL v=true)(o:bL u=true)(A:a.length<=1000000)(z:b.length<=1000000)(s:St):aq (QS sp) 35 [v,u] s (.bool (wV a b)) s:=by
 have t:=g.ge;have q:=e.ge;have d:=SL g e p o A;have y:=SL e g o p z;refine aq.of3 Jf.1 Jf.2 Jf.3 Jf.4 j rfl ?_;unfold wV;cases e1:lL a b with
 |true=>
  rw[e1] at d;simp only[dJ,FlZ,ii,gI,ah,aB,bQ,cK,reduceCtorEq,ofValue,pw,Oa,t,q,c,d]
 |false=>
  rw[e1] at d;simp only[dJ,FlZ,ii,gI,ah,aB,bQ,cK,reduceCtorEq,ofValue,pw,Oa,t,q,c,d,y]
end
def ag3:db ae 35 AK:=by
 refine pC abU fun g u h=>?_;unfold AK at h;split at h;simp only[ak] at h;obtain⟨a,q,b,p,h⟩:=h;obtain⟨c,h⟩:=bh h;have h:=sI h;subst h;simp only[Bool.and_eq_true] at c;obtain⟨o,e⟩:=Hw q;obtain⟨j,d⟩:=Hw p;exact⟨by simp only[pures,e,d,cw],_,_,ag4 (sp:=fun f=>gL f Ru) rfl rfl o j e d (fW c.1) (fW c.2) s0,rfl,⟨1,rfl⟩⟩;cases h
def apc(h:bL v=true)(c:bL u=true):pures [v,u]=true:=by simp only[pures,h,c,cw]
def agh{h:aC aR}{a b a' b':aa}(d:fY h a a')(c:fY h b b'):fY h (.tup [a,b]) (.tup [a',b']):=by
 obtain⟨g,d⟩:=d;obtain⟨e,c⟩:=c;refine⟨max g e+1,?_⟩;have d:=AD h (Nat.le_max_left g e) d;have c:=AD h (Nat.le_max_right g e) c;show((dL (cL h (max g e)) [a,b])).bind (fun r=>some (aa.tup r))=_;simp only[dL,d,c,au]
def agb(h:aC aR)(b:Bool):fY h (.bool b) (.bool b):=⟨1,rfl⟩
def agf(h:aC aR)(b:ag):fY h (.str b) (.str b):=⟨1,rfl⟩
variable{l:List fE}{k:ag}
section
variable{sp:SpZ}
def agx(C:ay 2 jd v l)(N:l.length<=1000000)(J: ∀e,dM k l=none->K (.exit 0) ⟨e,25,lc⟩ s)(M: ∀e x,dM k l=some x->ac e 4= .str x->ac e 5= .bool true->K .ret ⟨e,25,lc⟩ s):
 ∀(d c:List fE) (e:ax),l=c++d->dM k l=dM k d->ac e 0=v->ac e 1= .str k->ac e 6= .int .i64 (c.length:Nat)->W (QS sp) 160 (.loop Iz) ⟨e,25,lc⟩ s K:=by
 have E:=C.ge;have z:=fun H s=>C.lenS ub H s;intro d
 induction d with
 |nil=>
  intro c e g p o y q;have B:l.length=c.length:=by rw[g];simp
  refine W.loopF ?_;simp only[dJ,FlZ,ah,aB,M8,Iz,o,q,E,z,B,cD];exact J _ p
 |cons t d I=>
  intro c e g p o y q;have j:c.length<l.length:=by rw[g];simp
  have D:l[c.length]? =some t:=by rw[g];simp
  have F:=fun lc=>C.at ub.2.2.1 D lc .i64;have A:=dB (n:=c.length) (by omega);refine W.loopF ?_;cases hk:t.1==k with
  |true=>
   simp only[dJ,FlZ,bP,ah,aB,ofValue,pw,iB,tk,Ax,M8,Iz,o,y,q,E,z,F,j,jd,hk];exact M _ t.2 (by rw[p];simp only[dM,hk,cT]) (by simp only[abc,ah]) (by simp only[abc,ah])
  |false=>
   simp only[dJ,FlZ,bP,ah,aB,ofValue,pw,iB,tk,M8,Iz,o,y,q,E,z,F,j,jd,hk,A];exact I (c++[t]) _ (by rw[g];simp) (by rw[p];simp only[dM,hk,cF]) (by simp only[abK,ah,o]) (by simp only[abK,ah,y]) (by simp only[abc,akZ,ah])
def agy(c:sp 160=none)(j:ay 2 jd v l)(g:l.length<=1000000)(s:St):aq (QS sp) 160 [v,.str k] s (.tup [.str ((dM k l).getD []),.bool (dM k l).isSome]) s:=by
 refine aq.of4 Iy.1 Iy.2 Iy.3 Iy.4 c ?_;simp only[go_sem,seval,NF];refine agx (k:=k) j g ?_ ?_ l [] _ rfl rfl (by simp only[abc,ah, *]) (by simp only[abc,ah, *]) (by simp only[abc,ah, *];rfl);intro e d;simp only[go_sem,seval,d,Option.getD_none,Option.isSome_none];intro e x d p o;simp only[go_sem,seval,d,p,o,wt,Option.isSome_some]
end
def agw:db ae 160 wT:=by
 refine pC dR.nil fun c u h=>?_;unfold wT at h;split at h;rename_i v k;simp only[ak] at h;obtain⟨l,j,h⟩:=h;obtain⟨g,h⟩:=bh h;have h:=sI h;subst h;obtain⟨e,d⟩:=acW j;exact⟨apc d rfl,_,_,agy (sp:=fun f=>gL f []) rfl e (fW g) s0,rfl,agh (agf _ _) (agb _ _)⟩;cases h
def X0{env:ax}{x:Operand}{d:Nat}(h:ev env x=some (.int .i64 (n:Nat))):fR env (some x) d=some n:=by
 simp only[fR,h,au];rfl
def aqL(mk:aK)(m off len lcap:Nat)(lo c:Option Operand)(e:ax)(s:St):jE ae mk 363 (.arr 9 m off len lcap) lo c none e s=(fR e c len).bind fun h=>(fR e lo 0).bind fun l=>bif bw l h&&bw h len then some (.arr 9 m (off+l*9) (h-l) (lcap-l)) else none:=by
 have h:jE ae mk 363 (.arr 9 m off len lcap) lo c none e s=(fR e c len).bind fun h=>(fR e lo 0).bind fun l=>bif aQ 9 9&&bw l h&&bw h len&&true then some (.arr 9 m (off+l*9) (h-l) (lcap-l)) else none:=by kernel_rfl
 rw[h];simp only[Bool.and_true,Nat.beq_refl,eH]
def Vy(h:s.get [] m=some (.cells (aF (R.map cX))))(c:i<R.length)(x:dg)(lc:Ag.Loc):KL lc s m (i*9) (cX x) (s.get [] m)=some (lc,s.put m (some (.cells (aF ((R.set i x).map cX))))):=by
 rw[h,dp,zx wY (by simpa using c) rfl];simp only[au,List.map_set]
structure eL (m:Nat) (s s':St):Prop where
 old: ∀k,k≠m->s'.get [] k=s.get [] k
 aL:s'.aL=s.aL
 ci:s'.ci=s.ci
 mw:s'.gt<=s'.aL
def eL.refl(h:s.gt<=s.aL):eL m s s:=⟨fun _ _=>rfl,rfl,rfl,h⟩
theorem eL.put{s':St}(h:eL m s s')(o:Option aR):eL m s (s'.put m o):=
 ⟨fun k c=>by rw[aX,bN.2 c];exact h.old k c,h.aL,h.ci,dh s' m o h.mw⟩
def eL.trans{s' c:St}(h:eL m s s')(k:eL m s' c):eL m s c:=⟨fun j d=>(k.old j d).trans (h.old j d),k.aL.trans h.aL,k.ci.trans h.ci,k.mw⟩
def Bw:dg:=(0,((0,0),(0,0)))
def abz(n:Nat):aZ [.int .i64 0,.int .i64 0,.int .i64 0,.int .i64 0,.int .i64 0,.int .i64 0,.int .i64 0,.int .i64 0,.int .i64 0] n=aF ((iy n Bw).map cX):=by
 induction n with
 |zero=>rfl
 |succ n c=>rw[aZ,c,List.replicate_succ,List.map_cons,aF];rfl
def ap2(h:i+n<=R.length):fL (aF (R.map cX)) (i*9) (aF ((iy n Bw).map cX))=some (aF ((R.take i++(iy n Bw++R.drop (i+n))).map cX)):=by
 have p:R=R.take i++((R.drop i).take n++R.drop (i+n)):=by
  rw[<-xP,zU,zU]
 have j:(aF ((R.take i).map cX)).length=i*9:=by
  rw[oG wY];simp;omega
 have g:(aF (((R.drop i).take n).map cX)).length=n*9:=by
  rw[oG wY];simp;omega
 have e:(aF ((iy n Bw).map cX)).length=n*9:=by
  rw[oG wY];simp
 have d:(aF (R.map cX)).length=R.length*9:=by rw[oG wY];simp
 have c:bw (i*9+n*9) (R.length*9)=true:=cP (by omega);have o:aF (R.map cX)=aF ((R.take i).map cX)++(aF (((R.drop i).take n).map cX)++aF ((R.drop (i+n)).map cX)):=by
  conv=>lhs;rw[p]
  rw[ff,qF,ff,qF]
 unfold fL;rw[e,d,c,o];simp only[cT,aJ,ff,qF];rw[Lf (by omega),re (by omega)];congr 2;rw[<-j,<-xP,Bz,<-g,Bz]
structure Del (R:List dg) (m k:Nat) (K:List dg) (s s':St):Prop where
 but:eL m s s'
 row: ∃R':List dg,R'.length=R.length/\R'.take k=K/\s'.get [] m=some (.cells (aF (R'.map cX)))
def aq.ofWE{Q:aH}{f:FuncId}{fn:Func}{g:SC}{t:Tmp}{args:List aa}{R:aa->St->Prop}(q:Q.P.funcs[f]? =some fn)(y:fn.body.map eD=some g)(p:fn.ntmps=n)(o:fn.results.toList=[.tmp t])(e:Q.spec f=none)(h:W Q f g (ii n args) s fun x c d=>(x= .normal\/x= .ret)/\(ac c.env t).ge=true/\R (ac c.env t) d)(hH:Q.specH f=none:=by rfl)(z:Q.specW f=none:=by rfl): ∃v j,aq Q f args s v j/\R v j:=by
 obtain⟨x,c,d,D,C,B,A⟩:=h;exact⟨_,d,aq.of2 q y p o e ⟨x,c,d,D,rfl,C,dZ rfl B⟩ hH z,A⟩
def US(p:dg->Bool): ∀(l:List dg) (k:Nat),(tu p l k= -1/\l.filter (fun x=> !p x)=l)\/ ∃c x d,l=c++x::d/\c.filter (fun x=> !p x)=c/\p x=true/\tu p l k=((k+c.length:Nat):Int)
 | [],k=>.inl ⟨rfl,rfl⟩
 |x::l,k=>by
  cases h:p x with
  |true=>exact .inr ⟨[],x,l,rfl,rfl,h,by simp[tu,h]⟩
  |false=>
   rcases US p l (k+1) with⟨g,e⟩|⟨c,y,d,g,e,o,j⟩
   exact .inl ⟨by simp[tu,h,g],by rw[List.filter_cons,h,e];rfl⟩;refine .inr ⟨x::c,y,d,by rw[g];rfl,by rw[List.filter_cons,h,e];rfl,o,?_⟩;simp only[tu,h,cF,j,bH];omega
def ad3{c:Nat}(q:s.get [] m=some (.cells (aF (R.map cX))))(h:i+n<=R.length)(d:s.gt<=s.aL): ∃g,(∀e,jH ae [] .clear [363] e [.arr 9 m (i*9) n c] s=some (.tup [],g))/\eL m s g/\ ∃R':List dg,R'.length=R.length/\R'.take i=R.take i/\g.get [] m=some (.cells (aF (R'.map cX))):=by
 have t: ∀e,jH ae [] .clear [363] e [.arr 9 m (i*9) n c] s=bif aQ n 0 then some (.tup [],s) else(s.get [] m).bind fun o=>match o with
  | .cells p=>(fL p (i*9) (aZ [.int .i64 0,.int .i64 0,.int .i64 0,.int .i64 0,.int .i64 0,.int .i64 0,.int .i64 0,.int .i64 0,.int .i64 0] n)).bind fun j=>some (.tup [],s.put m (some (.cells j)))
  |_=>none:=by
  intro e;have u:ae.underlying 363=some (.slice 368):=by kernel_rfl
  simp only[jH,u,au,uT,ua,gD];cases aQ n 0 with
  |true=>rfl
  |false=>
   simp only[afo,cF];cases s.get [] m with
   |none=>rfl
   |some o=>
    cases o with
    |cells p=>
     simp only[au];cases fL p (i*9) _<;>rfl
    |_=>rfl
 simp only[t];cases hn:aQ n 0 with
 |true=>exact⟨s,fun _=>rfl,.refl d,R,rfl,rfl,q⟩
 |false=>
  rw[q];simp only[cF,au,abz,ap2 h];refine⟨_,fun _=>rfl,(eL.refl d).put _,_,?_,?_,by rw[aX,bS];rfl⟩;simp only[cJ,sC,List.length_replicate,List.length_drop];omega;rw[Lf (by rw[sC];omega),re (by rw[sC];omega)]
variable{a:dg}
section
variable{Q:aH}(hP:Q.P=ae)(hh:Q.hint=ai)(hH: ∀f,Q.specH f=none)
include hP hh hH
def aeF(c:Q.spec 307=none)(p:Q.specW 307=none){len:Nat}{s0:St}(N:n≠m)(hs:R.length<=1000000)(a0:len<=R.length)(hn:s0.get [] n=some (.cells (jz a)))(hx: ∀e lc s (i:Nat) (R':List dg),ac e 0= .arr 9 m 0 len lcap->ac e 5= .int .i64 (i:Nat)->eL m s0 s->R'.length=R.length->s.get [] m=some (.cells (aF (R'.map cX)))->i<=len->R'.take i=(R.take len).filter (fun x=> !jn a x)->K (.exit 0) ⟨e,42,lc⟩ s):
 ∀(r j i:Nat) (R':List dg) (e:ax) (lc:Ag.Loc) (s:St),r+j=len->i<j->R'.length=R.length->R'.take i=(R.take j).filter (fun x=> !jn a x)->R'.drop j=R.drop j->eL m s0 s->s.get [] m=some (.cells (aF (R'.map cX)))->
  ac e 0= .arr 9 m 0 len lcap->ac e 1= .func (.func 307) [] [.ptr n 0]->ac e 5= .int .i64 (i:Nat)->ac e 6= .int .i64 (j:Nat)->W Q 306 (.loop NZ) ⟨e,42,lc⟩ s K:=by
 intro r
 induction r with
 |zero=>
  intro j i R' e lc s hr T F H I D z g J o E;have hj:j=len:=by omega
  subst hj;refine bG ?_;simp only[go_sem,hP,hh,seval,NZ,FA,g,o,E,cD];exact hx _ _ _ i R' (by simp only[sN,seval,g]) (by simp only[sN,seval,o]) D F z (by omega) H
 |succ r Z=>
  intro j i R' e lc s hr T F H I D z g J o E;have O:j<len:=by omega
  have B:j<R.length:=by omega
  have Y:R'[j]? =some R[j]:=by
   have:(R'.drop j)[0]? =(R.drop j)[0]? :=by rw[I]
   simpa[B] using this
  have A:=Ii z Y;have q:=dB (n:=j) (by omega);have M:=dB (n:=i) (by omega);have a1:(cX R[j]).ge=true:=rfl;have S:i<len:=by omega
  have y:=Vy z (i:=i) (by omega) R[j];have t:(R.take (j+1)).filter (fun x=> !jn a x)=(R.take j).filter (fun x=> !jn a x)++(if !jn a R[j] then [R[j]] else []):=by
   rw[Q5 B,DR];cases hq:jn a R[j]<;>simp[hq]
  have V: ∀x,(R'.set i x).drop (j+1)=R.drop (j+1):=fun x=>by
   rw[List.drop_set_of_lt (by omega),<-xP,I,xP]
  have C:R'.drop (j+1)=R.drop (j+1):=by rw[<-xP,I,xP]
  have U:s.get [] n=some (.cells (jz a)):=(D.old n N).trans hn;simp only[cX,jz] at A y;refine bG ?_;simp only[go_sem,hP,hh,seval,NZ,FA,g,J,o,E,O,A,c];refine cG.of (TS hP hh hH (x:=R[j]) c p U) (by decide) ?_;cases hd':bc (vh R[j].2) (jX a.2) with
  |true=>
   have d:jn a R[j]=true:=hd';simp only[go_sem,hP,hh,seval,E,q];refine Z (j+1) i R' _ _ s (by omega) (by omega) F (by rw[t,d];simpa using H) C D z ?_ ?_ ?_ ?_
   all_goals simp only[sN,seval,g,J,o]
  |false=>
   have d:jn a R[j]=false:=hd';simp only[go_sem,hP,hh,seval,dn,g,o,E,q,M,S,y];refine Z (j+1) (i+1) (R'.set i R[j]) _ _ _ (by omega) (by omega) (by simpa using F) ?_ (V _) (D.put _) (by rw[aX,bS];rfl) ?_ ?_ ?_ ?_;rw[t,d];have:(R'.set i R[j]).take (i+1)=R'.take i++[R[j]]:=by
    rw[Q5 (by rw[List.length_set];omega),List.take_set_of_le (br _),List.getElem_set_self]
   rw[this,H];rfl
   all_goals simp only[sN,seval,g,J]
def aeH(D:Q.spec 306=none)(z:Q.specW 306=none)(q:Q.spec 418=none)(y:Q.specW 418=none)(t:Q.spec 307=none)(o:Q.specW 307=none){len:Nat}(I:n≠m)(V:R.length<=1000000)(p:len<=R.length)(M:s.get [] m=some (.cells (aF (R.map cX))))(Y:s.get [] n=some (.cells (jz a)))(B:s.gt<=s.aL):
 ∃v T,aq Q 306 [.arr 9 m 0 len lcap,.func (.func 307) [] [.ptr n 0]] s v T/\(v= .arr 9 m 0 ((R.take len).filter fun x=> !jn a x).length lcap/\Del R m ((R.take len).filter fun x=> !jn a x).length ((R.take len).filter fun x=> !jn a x) s T):=by
 have C:(R.take len).length=len:=by rw[sC];omega
 refine aq.ofWE (by rw[hP];exact Fh.1) Fh.2 Fh.3 Fh.4 D ?_ (hH 306) z;refine co ?_;simp only[go_sem,hP,hh,seval,q];refine cG.of (ag9 hP hh hH (lcap:=lcap) q y t o V p M Y) (by decide) ?_;rcases US (jn a) (R.take len) 0 with⟨E,S⟩|⟨g,x,U,E,S,e3,e4⟩
 rw[E];simp only[go_sem,hP,hh,seval,cd];rw[S,C];exact⟨rfl,.refl B,R,rfl,rfl,M⟩
 ·rw[e4,bV]
  have a0:g.length<len:=by rw[<-C,E];simp
  have H:an ((g.length:Nat):Int) (-1)=false:=by simp[an]
  have F:=dB (n:=g.length) (by omega);have A:R.take g.length=g:=by
   have:(R.take len).take g.length=g:=by rw[E,List.take_left]
   rwa [List.take_take,Nat.min_eq_left (by omega)] at this
  have hx:R.take (g.length+1)=g++[x]:=by
   have:(R.take len).take (g.length+1)=g++[x]:=by rw[E,List.take_length_add_append];rfl
   rwa [List.take_take,Nat.min_eq_left (by omega)] at this
  simp only[go_sem,hP,hh,seval,cd,H,F];refine aeF hP hh hH (lcap:=lcap) t o I V p Y ?_ (len-(g.length+1)) (g.length+1) g.length R _ _ s (by omega) (by omega) rfl (by rw[A,hx,DR,S];simp[e3]) rfl (.refl B) M ?_ ?_ ?_ ?_;intro e lc s1 i R' h0 h5 hb hl J O Z;obtain⟨s2,q1,q2,R2,q3,q4,q5⟩:=ad3 (c:=lcap-i) J (i:=i) (n:=len-i) (by omega) hb.mw;have N:i=((R.take len).filter fun x=> !jn a x).length:=by rw[<-Z,sC];omega
  have n1: ∀j,ac j 37= .int .i64 (i:Nat)->fR j (some (.tmp 37)) 0=some i:=fun j h=>X0 (by rw[aA,h]);have n2: ∀j,ac j 40= .int .i64 (i:Nat)->fR j (some (.tmp 40)) len=some i:=fun j h=>X0 (by rw[aA,h]);have n3: ∀j d,fR j none d=some d:=fun _ _=>rfl;simp only[go_sem,hP,hh,seval,h0,h5,aqL,n1,n2,n3,br,Nat.zero_le,O,q1,BE,Nat.sub_zero];rw[<-N];exact⟨rfl,hb.trans q2,R2,by rw[q3,hl],by rw[q4,Z],q5⟩
  all_goals simp only[sN,seval]
end
