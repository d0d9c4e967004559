/- Lemmas for PartKeeps. -/
import Derived.Test.YtakkigoeiahlcaaGreatZ1
import Derived.Test.YtakkigoeiahlcaaGreatAg2
import Derived.Shelf.SortM.Plain
import Derived.Shelf.SortM.SortNone
import Derived.Shelf.SlSortCmp.NoneTotal
import Derived.Ground.SlgmProg
import Derived.Ground.SlsfProg
import Derived.Test.YtakkigoeiahlcaaGreatProg
set_option linter.all false
open Option renaming some→X,none→Z,bind_eq_some_iff→ak,bind_some→aG
open Bool renaming true→O,false→I,and_eq_true→bg,and_self→bZ,false_eq_true→E6,not_eq_true'→ny,not_eq_false'→E7,or_eq_false_iff→wz
open List renaming length→J,getElem?_append_left→AQ,getElem?_append_right→sQ,getElem?_map→ix,mem_cons→dD,mem_map→cy,pairwise_cons→re,drop_drop→wB,drop_left→Fa,eq_nil_of_length_eq_zero→qY,finRange→yI,getElem?_cons_succ→Cx,getElem?_eq_getElem→dA,getElem?_eq_some_iff→ie,getElem_mem→AU,length_append→bI,mem_cons_of_mem→ig,mem_cons_self→gz,range→ii,filter_append→Ik,length_take→jG,map_append→dj,replicate→gK,take_append_drop→wF,take_append_of_le_length→TI,take_of_length_le→nA,take_succ_eq_append_getElem→TJ
open Go.Ag.eX renaming of→kT
open Classical renaming byContradiction→wA
open Go.Ag.bj renaming of→de
open Go.IntKind renaming i64→ic
open Nat renaming ble_eq_true_of_le→bG,blt→bq,le_refl→aC,le_succ_of_le→co,lt_or_ge→iz,lt_succ_self→iA,ble→aP,lt_irrefl→bJ,mod_eq_of_lt→Ff,mul_le_mul_right→md,succ_mul→jW,beq→aA,le_of_ble_eq_true→gS
open Go.Op renaming binOp→fE,bytesLess→gi,buildSlice→Fg
open Go.Operand renaming const→dB,tmp→aD
open Option.some renaming injEq→aQ
open Go.Ag.dZ renaming of→jH
open Go.ResultVar renaming cell→jI,tmp→bc
open Go.Ag.eH renaming of→kH
open Go.Ag.eE renaming of→mh
open Go.Proofs.Tryz renaming prog→ag
open Go.Value renaming bool→qe,int→gB
open Int renaming mul_le_mul_of_nonneg_left→MF
open Prod.mk renaming injEq→bk
open Go.Ag.W renaming loopC→aF
open Go.Ag.WC renaming sound→aM
namespace Go.Proofs.YtakkigoeiahlcaaGreat
open Tryz
open Go.Ag
open Go.Sort (putRow putCells mapBlock onCells grow heap_grow_old Holds SWO)
structure TS (w w':World):Prop where
 os:w'.os=w.os
 output:w'.output=w.output
 size:w.heap.size<=w'.heap.size
 block:∀k,k<w.heap.size->w'.heap[k]?=w.heap[k]?
 tape:w'.tape=w.tape
 drawn:w.drawn<=w'.drawn
variable{G:Gh}{w:World}{h:aB aH}
def Ux{w':World}(wr:WR G h w)(g:TS w w')(f:Nat->Nat->er)(y:∀b o v,f b o=X v->w.heap.size<=b/\v.scal=O/\∃x,w'.cell? ⟨b,o,Z⟩=X x/\VR G v x):
 ∃G':Gh,(∀b o v,f b o=X v->G'.ro b o=X v)/\G.le G'/\WR G' h w'/\ce G h w G' h w' 0 0:=by
 let G':Gh:= {at_:=G.at_,ro:=λb o=>if b<w.heap.size then G.ro b o else f b o,dim:=G.dim }
 have p:∀b o v,G.ro b o=X v->b<w.heap.size:=λb o v e=>by
  let⟨_,x,hx,_⟩:=wr.ro b o v e
  exact World.block_lt_of_cell? w ⟨b,o,Z⟩ hx
 have j:G.le G':=⟨λ_ _ e=>e,λb o v e=>by
  show(if b<w.heap.size then G.ro b o else f b o)=X v;rw[iP (p b o v e)];exact e,λ_ _ e=>e⟩
 have l:∀b o v,G'.ro b o=X v->(b<w.heap.size/\G.ro b o=X v)\/(¬b<w.heap.size/\f b o=X v):=λb o v e=>by
  have e:(if b<w.heap.size then G.ro b o else f b o)=X v:=e;by_cases c:b<w.heap.size;rw[iP c]at e;exact .inl ⟨c,e⟩;rw[iN c]at e;exact .inr ⟨c,e⟩
 refine⟨G',λb o v e=>?_,j,⟨?_,?_,?_,?_,?_,?_⟩,j,g.size,λb c _=>g.block b c,λb _ o=>o,λn a e m=>(by have e:G.at_ n=X a:=e;rw[e]at m;cases m),?_,⟨g.os,g.output,g.size,λa B=>World.frozen?_of_block (g.block _ B),g.tape,g.drawn⟩,λb _ o=>o⟩;show(if b<w.heap.size then G.ro b o else f b o)=X v
 have:=(y b o v e).1;rw[iN w_];exact e;intro n o e
 let⟨a,h1,h2,h3⟩:=wr.obj n o e
 exact⟨a,h1,h2,(h3.of_block (g.block _ (wr.below n a h1))).mono j⟩;exact wr.sep;intro b o v e;rcases l b o v e with⟨c,e⟩|⟨c,e⟩
 let⟨h1,x,h2,h3⟩:=wr.ro b o v e
 exact⟨h1,x,(World.cell?_of_block (g.block b c)).trans h2,h3.mono j⟩
 let⟨_,h1,x,h2,h3⟩:=y b o v e
 exact⟨h1,x,h2,h3.mono j⟩;intro n A a i v e z u;rcases l _ _ _ u with⟨_,u⟩|⟨c,_⟩
 exact wr.apart n A a i v e z u;exact absurd (wr.below n a z) c;intro b d e
 let⟨C,el,h1,h2⟩:=wr.dim b d e
 have c:b<w.heap.size:=by
  rcases iz b w.heap.size with c|c
  exact c;rw[Array.getElem?_eq_none c]at h1;cases h1
 exact⟨C,el,(g.block b c).trans h1,h2⟩;exact λn a e=>Nat.lt_of_lt_of_le (wr.below n a e) g.size;intro b o v c e m;rcases l b o v e with⟨_,e⟩|⟨q,_⟩
 rw[e]at m;cases m;exact absurd c q
section
variable{α:Type}[Inhabited α]
def adH(enc:α->Value)(off:Nat)(d:Array α)(C:il):(putCells enc off d C).size=C.size:=by simp[putCells]
def aAu(enc:α->Value)(off:Nat)(d:Array α)(C:il){i:Nat}(hi:i<d.size)(a:off+i<C.size):(putCells enc off d C)[off+i]?=X (enc d[i]!):=by
 simp[putCells,a,hi]
def aDp(enc:α->Value)(w:World)(a off n:Nat)(d:Array α)(os:Array Go.Obj){C:il}{e:TypeId}(c:w.heap[a]?=X (.cells C e (0,0)))(k:Nat)(b:k<w.heap.size):
 (grow (putRow enc (Sort.ahead w n) a off d) os).heap[k]?=if k=a then X (.cells (putCells enc off d C) e (0,0))else w.heap[k]? :=by
 rw[heap_grow_old _ _ (by simpa using b)];by_cases h:k=a;subst h;simp[putRow,mapBlock,Sort.ahead,Array.getElem?_modify,c,onCells];have g:¬a=k:=λe=>h e.symm;simp[putRow,mapBlock,Sort.ahead,Array.getElem?_modify,h,g]
def LM(wr:WR G h w){m:Nat}{a:Addr}{cs cs':az}(u:h.get m=X (.cells cs))(p:G.at_ m=X a)(enc:α->Value)(d:Array α)(n:Nat)(os:Array Go.Obj)(B:∀C e,w.heap[a.block]?=X (.cells C e (0,0))->a.off+d.size<=C.size)(D:∀(i:Nat) v,cs'[i]?=X v->i<d.size/\v.scal=O/\VR G v (enc d[i]!)):
 ∃l,WR l (h.set m (X (.cells cs'))) (grow (putRow enc (Sort.ahead w n) a.block a.off d) os)/\ce G h w l (h.set m (X (.cells cs'))) (grow (putRow enc (Sort.ahead w n) a.block a.off d) os) 0 0/\VR l (.tup []) (.tuple #[]):=by
 let⟨b,hb,_,C,e,hC,hdim,_⟩:=wr.obj m _ u
 rw[p]at hb;cases hb;have j:=wr.below m a p;have A:=B C e hC;have g:(cV w a.block (.cells (putCells enc a.off d C) e (0,0))).heap[a.block]?=X (.cells (putCells enc a.off d C) e (0,0)):=by rw[iM _ _ _ _ j,iP rfl]
 let⟨c1,c2⟩:=wr.changed (o':=.cells cs') (ob:=.cells (putCells enc a.off d C) e (0,0)) u p
  ⟨_,e,g,by rw[adH];exact hdim,λi v z=>by
    let⟨h1,h2,h3⟩:=D i v z
    exact⟨h2,_,aAu enc a.off d C h1 w_,h3⟩⟩
  (λi v y=>by
   have:=(wr.apart m _ a i v u p y).1;cases this)
  (λF c=>by
   rw[hdim]at c;injection c with c
   exact⟨_,e,rfl,by rw[adH];exact c⟩)
  rfl
 have q:TS (cV w a.block (.cells (putCells enc a.off d C) e (0,0))) (grow (putRow enc (Sort.ahead w n) a.block a.off d) os):=by
  refine⟨rfl,rfl,?_,λk x=>?_,rfl,?_⟩;rw[En];simp[grow];rw[En]at x;rw[aDp enc w a.block a.off n d os hC k x,iM _ _ _ _ j];show w.drawn<=w.drawn+n;omega
 let⟨l,_,_,g3,g4⟩:=Ux c1 q (λ_ _=>Z) (by intro b o v e;cases e)
 exact⟨l,g3,(c2 0 0).trans g4 (aC _) (aC _),.tup .nil⟩
end
def IU:∀{cs:az}{l:cf},rB cs=X l->cs=l.map aw
 |[],l,h=>by
   simp only[rB,aQ]at h;subst h;rfl
 |v::cs,l,h=>by
  unfold rB at h;split at h;rename_i e;cases e;rename_i a r e;injection e with d c
  subst d;subst c;simp only[ak,aQ]at h;obtain⟨l,b,rfl⟩:=h;rw[IU b];rfl;cases h
def uV(f:FuncId)(sp:aax):Prop:=
 ∀a (G:Gh) (h:aB aH) (w:World) (xs:gy),WR G h w->bL G a xs->
  (sp a=X Z->kI ag f ⟨xs⟩ w λy d=>∃c,WR c h d/\ce G h w c h d 0 0/\VR c (.tup []) y)/\
  ∀n g cs b,sp a=X (X (n,g))->h.get n=X (.cells cs)->ee h.get (g cs)=X (.agg b)->
   kI ag f ⟨xs⟩ w λy d=>∃c,WR c (h.set n (X (.cells b))) d/\ce G h w c (h.set n (X (.cells b))) d 0 0/\VR c (.tup []) y
def Nq{sz m len lcap:Nat}{y:Value}(h:VR G (.arr sz m 0 len lcap) y):∃(a b:Addr)(cap:Nat),y=.slice (X a) len cap/\G.at_ m=X b/\a.spot=Z/\len<=cap/\(len=0\/(a.block=b.block/\a.off=b.off))/\(∃d,G.dim b.block=X d/\b.off+cap*sz<=d):=by
 cases h with
 |arr j i o n l c g e=>
  rename_i a b cap d;refine⟨a,b,cap,rfl,j,i,w_,?_,d,g,by simpa using e⟩;rcases c with c|c
  exact .inl w_;exact .inr (by simpa using c)
def aeJ:uV 61 uj:=by
 intro a7 G h w xs U hx;refine⟨λc=>?_,λn g cs a9 c hl P=>?_⟩;unfold uj at c;split at c;cases hx with
 |cons p q=>
  cases q;cases p;refine .inr ⟨Go.Proofs.enters_of func61 k_ rfl _ _,(AnyM.slices_Sort_string_none Tryz.sort48 Z 0 w).mono ?_⟩;rintro e R ⟨rfl,rfl⟩;exact⟨_,rfl,G,U,.refl,.tup .nil⟩
 cases c;cases c;unfold uj at c;split at c;cases c;rename_i m len a5;simp only[aQ,Prod.mk.injEq]at c;obtain⟨rfl,rfl⟩:=c;have P:=HM P
 let⟨hb,P⟩:=aZ P
 simp only[bg]at hb;have z:=Nat.eq_of_beq_eq_true hb.1;have a8:=Nat.le_of_ble_eq_true hb.2;simp only[ak,aQ]at P;obtain⟨l,h1,rfl⟩:=P;have H:=IU h1;subst H;rw[List.length_map]at z;cases hx with
 |cons p q=>
  cases q;obtain⟨a,b,T,rfl,K,y,a6,a2,d,o,hd⟩:=Nq p
  let⟨b',hb',_,C,e,hC,hdimC,H⟩:=U.obj m _ hl
  rw[K]at hb';cases hb';rw[hdimC]at o;injection o with o
  have a3:∀i (A:i<J l),C[b.off+i]?=X (encStr l[i]):=λi A=>by
   let⟨_,x,hx1,hx2⟩:=H i (aw l[i]) (by rw[ix,List.getElem?_eq_getElem A];rfl)
   cases hx2;exact hx1
  have V:(ja l).length=J l:=(Cj l).length_eq;have B:∀n N,∃M,WR M (h.set m (X (.cells ((ja l).map aw)))) (grow (putRow encStr (Sort.ahead w n) b.block b.off (ja l).toArray) N)/\ce G h w M (h.set m (X (.cells ((ja l).map aw)))) (grow (putRow encStr (Sort.ahead w n) b.block b.off (ja l).toArray) N) 0 0/\VR M (.tup []) (.tuple #[]):=λn N=>by
   refine LM U hl K encStr (ja l).toArray n N (λC' e' u=>?_) (λi v A=>?_);rw[hC]at u;injection u with u;injection u with u _ _;subst u
   rw[List.size_toArray,V,o];omega;rw[ix,Option.map_eq_some_iff]at A;obtain⟨s,Y,rfl⟩:=A
   let⟨A,Y⟩:=List.getElem?_eq_some_iff.1 Y
   refine⟨by simpa using A,rfl,?_⟩;have:(ja l).toArray[i]! =s:=by simp[A,Y]
   rw[this];exact .str s
  rcases a2 with h0|⟨F,D⟩
  have a0:l=[]:=List.eq_nil_of_length_eq_zero w_;subst a0;have a4:len=0:=h0;subst a4;refine .inr ⟨Go.Proofs.enters_of func61 k_ rfl _ _,(AnyM.slices_Sort_string_none Tryz.sort48 (X a) T w).mono ?_⟩;rintro e' R ⟨rfl,rfl⟩
  let⟨M,g1,g2,g3⟩:=B 0 #[]
  have hw:grow (putRow encStr (Sort.ahead R 0) b.block b.off (ja []).toArray) #[]=R:=by
   rw[Go.Sort.grow_empty,Go.Sort.ahead_zero];exact Go.Sort.putRow_self encStr R b.block b.off _ (λj hj=>by simp[ja]at hj)
  rw[hw]at g1 g2;exact⟨_,rfl,M,g1,g2,g3⟩
  let⟨ab,ao,asp⟩:=a
  simp only at F D y;subst F;subst D;subst y;have hH:Holds encStr w b.block b.off l.toArray:=λj hj=>by
   have S:j<J l:=by simpa using hj
   refine⟨?_,by simp[World.frozen?,hC]⟩;rw[kw hC,a3 j S];simp[S]
  have a1:=U.below m b K;rw[<-z];refine .inr ⟨Go.Proofs.enters_of func61 k_ rfl _ _,(AnyM.slices_Sort_string Tryz.sort48 b.block b.off T l w hH a1 w_).mono ?_⟩;rintro e' R ⟨rfl,n,N,rfl⟩;rw[SW]
  let⟨M,g1,g2,g3⟩:=B n N
  exact⟨_,rfl,M,g1,g2,g3⟩
 cases c
end Go.Proofs.YtakkigoeiahlcaaGreat
namespace Go.Proofs.YtakkigoeiahlcaaGreat
open Tryz
open Go.Ag
def cD(k:ae):ba->Option Obj
 |[]=>Z
 |o::l=>bif k==o.id then X o else cD k l
theorem oN{k:ae}:∀{l:ba}{q:Obj},cD k l=X q->q∈l/\q.id=k
 |[],_,h=>by cases h
 |o::r,q,h=>by
  simp only[cD]at h;cases hb:k==o.id;rw[hb]at h
  let⟨h1,h2⟩:=oN h
  exact⟨by simp[h1],h2⟩;rw[hb]at h;cases h;have:k=o.id:=by simpa using hb
  exact⟨by simp,this.symm⟩
def xu:∀(l:ba)(last:ae),lQ last l=O->(∀k∈l.map (·.id),gi last k=O)/\(l.map (·.id)).Pairwise (λa b=>gi a b=O)
 |[],_,_=>⟨λk h=>(by cases h),List.Pairwise.nil⟩
 |o::r,last,h=>by
  simp only[lQ]at h;cases hb:(!dY o||Ag.leBytes o.id last);rw[hb]at h;simp only[Bool.or_eq_false_iff]at hb
  let⟨h1,h2⟩:=xu r o.id h
  have d:gi last o.id=O:=by rw[Rl,hb.2];rfl
  refine⟨λk c=>?_,re.2 ⟨h1,h2⟩⟩;rcases dD.1 c with rfl|c
  exact d;have e:=h1 k c;rw[Go.Proofs.bytesLess_eq,dE]at d e⊢;exact List.lt_trans d e;rw[hb]at h;cases h
def abx(k:ae):gi k k=I:=by
 rw[Go.Proofs.bytesLess_eq];exact dN (List.lt_irrefl k)
def rQ{l:ba}(h:bm l=O):(l.map (·.id)).Nodup:=by
 simp only[bm,bg]at h;refine(xu l [] h.1).2.imp λa e=>?_;subst e;rw[abx]at a;cases a
theorem Ea:∀{l:ba}{q:Obj},(l.map (·.id)).Nodup->q∈l->cD q.id l=X q
 |[],_,_,h=>by cases h
 |o::r,q,hn,h=>by
  simp only[List.map_cons,List.nodup_cons]at hn;simp only[cD];rcases dD.1 h with rfl|h
  simp;have:(q.id==o.id)=I:=bN.2 λe=>hn.1 (by rw[<-e];exact cy.2 ⟨q,h,rfl⟩);rw[this];exact Ea hn.2 h
def rN{g:aaE}:∀{l:az},(∀v∈l,g v=X v)->da g l=X l
 |[],_=>rfl
 |v::l,h=>by
  have a:=rN (g:=g) (l:=l) λu b=>h u (by simp[b]);simp only[da,h v (by simp),a,aG]
variable{xs:az}
def JA(h:aB aH){k n:Nat}{r:gV}(b:bn (.list n xs r)=O)(a:∀v∈xs,b9 h k v=X v):b9 h (k+1) (.list n xs r)=X (.list n xs r):=by
 simp only[b9,rN a,aG];cases r with
 |own m=>simp[bn]at b
 |_=>rfl
def WK(h:aB aH){o:Obj}(c:o.AL)(k:Nat):b9 h (k+4) o.val=X o.val:=by
 have g:b9 h (k+3) o.refsV=X o.refsV:=by
  have b:=c.pr;rcases c.gT with⟨e,_⟩|⟨r,e⟩
  rw[e];rfl;rw[e]at b⊢;refine JA h b λv a=>?_;obtain⟨s,_,rfl⟩:=cy.1 a;rfl
 have d:b9 h (k+3) o.tagsV=X o.tagsV:=by
  have b:=c.pt;rcases c.uP with⟨e,_⟩|⟨r,e⟩
  rw[e];rfl;rw[e]at b⊢;refine JA h b λv a=>?_;obtain⟨s,_,rfl⟩:=cy.1 a;rfl
 show(da (b9 h (k+3)) o.cells).bind (λr=>X (aa.agg r))=_;rw[rN (l:=o.cells) λv a=>?_];rfl;simp only[Obj.cells,dD,List.not_mem_nil,or_false]at a;rcases a with rfl|rfl|rfl|rfl|rfl|rfl
 rfl;rfl;rfl;rfl;exact g;exact d
def Wn{B:Nat}(V:0<B)(p:(dd)->Nat->Prop)(mono:∀ch n m,n<=m->p ch n->p ch m)(loc:∀ch n,p ch n->∃k,∀o,(∀i,i<k->o i=ch i)->p o n)(all:∀ch,(∀i,ch i<B)->∃n,p ch n):∃N,∀ch,(∀i,ch i<B)->p ch N:=by
 classical
 let AL:be->Prop:=λl=>∃N,∀ch:dd,(∀i,ch i<B)->(∀i x,l[i]?=X x->ch i=x)->p ch N
 have step:∀l,¬AL l->∃c,c<B/\¬AL (l++[c]):=by
  intro l M;refine wA λF=>M ?_;have F:∀c,c<B->AL (l++[c]):=λc h=>wA λU=>F ⟨c,h,U⟩;have z:∀m,m<=B->∃N,∀c,c<m->∀ch:dd,(∀i,ch i<B)->(∀i x,(l++[c])[i]?=X x->ch i=x)->p ch N:=by
   intro m
   induction m with
   |zero=>exact λ_=>⟨0,λc h=>w_⟩
   |succ m u=>
    intro hm;obtain⟨N1,S⟩:=u w_;obtain⟨Y,A⟩:=F m w_;refine⟨max N1 Y,λc R ch a b=>?_⟩;by_cases h:c<m;exact mono _ _ _ (Nat.le_max_left _ _) (S c h ch a b);have:c=m:=w_
    subst this;exact mono _ _ _ (Nat.le_max_right _ _) (A ch a b)
  obtain⟨N,H⟩:=z B (aC _);refine⟨N,λch a b=>H (ch (J l)) (a _) ch a λi x g=>?_⟩;rcases iz i (J l)with h|h
  rw[AQ h]at g;exact b i x g;rw[sQ h]at g;cases C:i-J l with
  |zero=>
   rw[C]at g;simp only[List.getElem?_cons_zero,aQ]at g;have:i=J l:=w_
   rw[this,g]
  |succ j=>rw[C]at g;simp at g
 refine wA λy=>?_;have T:¬AL []:=λ⟨N,H⟩=>y ⟨N,λch a=>H ch a λi x g=>by simp at g⟩
 let d:Nat-> {l:be //¬AL l}:=λn=>Nat.rec ⟨[],T⟩ (λ_ q=>⟨q.1++[(step q.1 q.2).choose],(step q.1 q.2).choose_spec.2⟩) n
 have e:∀n,(d n).1.length=n:=by
  intro n
  induction n with
  |zero=>rfl
  |succ n u=>
   show((d n).1++[_]).length=_;rw[List.length_append,u];rfl
 let ch:Nat->Nat:=λn=>(step (d n).1 (d n).2).choose
 have D:∀n,ch n<B:=λn=>(step (d n).1 (d n).2).choose_spec.1;have v:∀n i,i<n->(d n).1[i]?=X (ch i):=by
  intro n
  induction n with
  |zero=>intro i h;omega
  |succ n u=>
   intro i h;show((d n).1++[ch n])[i]?=_;rcases iz i n with A|A
   rw[AQ (by rw[e];exact A)];exact u i A;have:i=n:=w_
   subst this;rw[sQ (by rw[e];exact aC _),e];simp
 obtain⟨n,K⟩:=all ch D;obtain⟨k,P⟩:=loc ch n K;exact(d k).2 ⟨n,λo _ b=>P o λi C=>b i _ (v k i C)⟩
def acK:ofValue (.pointer Z)=X .nilp:=rfl
def u6:(aa.nilp).gt=O:=rfl
section
variable{sp:SpZ}{ch:dd}
def at_(k:ae)(L:df):aa:=(look k L).getD .nilp
end
abbrev Cf:=ae×ae
def w6(a b:Cf):Bool:=bif a.1==b.1 then bif a.2==b.2 then O else I else I
def Vn(a b:Cf):w6 a b=O↔a=b:=by
 let⟨a1,a2⟩:=a
 let⟨b1,b2⟩:=b
 unfold w6;constructor;intro h;cases h1:a1==b1;simp only[h1,cF,E6]at h;cases h2:a2==b2;simp only[h1,h2,cT,cF,E6]at h;rw[eq_of_beq h1,eq_of_beq h2];intro h;cases h;simp
def aDJ{v u:aa}{l r:cf}(g:au 1 aw v l)(d:au 1 aw u r)(c:bn v=O)(a:bn u=O)(e:J l<small):EU [v,u]=X (.int .i64 (fk l r)):=by
 have b:bq (J l) small=O:=bG e;simp only[aac,EU,pures,c,a,oI oo g,oI oo d,b]
def g9(a b:x_):Bool:=bif aj a.1 b.1 then bif aj a.2 b.2 then O else I else I
inductive Rows:az->List cf->Prop
 |nil:Rows [] []
 |cons {v:aa} {l:cf} {vs:az} {ls:List cf}:au 1 aw v l->bn v=true->Rows vs ls->Rows (v::vs) (l::ls)
section
variable{Q:ay}{f:FuncId}
def amP:cz->Bool
 |.none=>O
 |.loc _=>O
 |_=>I
def WX(Q:ay)(f:FuncId)(s:St):ns->Fr->(Fr->Prop)->Prop
 |[],fr,N=>N fr
 |o::l,fr,N=>∃v a,jT fr.env o.g=O/\dJ Q f o [] fr s=X (v,fr.loc,s)/\isStore o.op=I/\amP (bK (Q.hint f) o.dst fr.env o.op)=O/\d8 fr o.dst v fr.loc=X a/\WX Q f s l a N
end
def bU(sz lo:Nat)(s:St)(ov:aa)(xs:az):Prop:=(ov=.Ge/\xs=[])\/(xs≠[]/\∃k,ov=.list sz xs (.own k)/\s.get [] k=X .tok/\lo<=k/\k<s.aL)
variable{lo sz:Nat}{s:St}{ov:aa}
def bU.gt(h:bU sz lo s ov xs):ov.gt=O:=by
 rcases h with⟨rfl,_⟩|⟨_,k,rfl,_⟩<;>rfl
def bU.keep{s':St}(h:bU sz lo s ov xs)(b:∀n,lo<=n->s'.get [] n=s.get [] n)(g:s.aL<=s'.aL):bU sz lo s' ov xs:=by
 rcases h with h|⟨e,k,d,c,a,i⟩
 exact .inl h;exact .inr ⟨e,k,d,(b k a).trans c,a,w_⟩
theorem cG(s:St)(n:Nat)(o:sh)(h:s.gE<=s.aL):(s.put n o).gE<=(s.put n o).aL:=by
 show(bif Nat.ble s.gE n then s.gE else n)<=s.aL;cases hb:Nat.ble s.gE n;have:¬s.gE<=n:=λa=>by rw[bG a]at hb;cases hb
 simp only[cF];omega;exact h
variable{E:EI}{t:TypeId}
def Fy(q:js ag t=X E)(x:E.n=sz)(u:E.b<=88){y:aa}{ys:az}(h:bU sz lo s ov xs)(l:cU [] E.g E.n y s=X ys)(c:J xs+J ys<=1000000)(i:lo<=s.aL)(p:s.gE<=s.aL):
 ∃a d,cJ ag [] t ov y I s=X (a,d)/\bU sz lo d a (xs++ys)/\d.ci=s.ci/\s.aL<=d.aL/\d.gE<=d.aL/\(∀n,n<lo->d.get [] n=s.get [] n)/\a.cells=[a]:=by
 subst x;have e:rT ov=O/\ov.cells=[ov]:=by rcases h with⟨rfl,_⟩|⟨_,k,rfl,_⟩<;>exact R_
 cases ys with
 |nil=>
  refine⟨ov,s,?_,by rw[List.append_nil];exact h,rfl,aC _,p,λ_ _=>rfl,e.2⟩;simp only[aaf,cJ,q,l,e.1]
 |cons j ys=>
  rcases h with⟨rfl,rfl⟩|⟨v,k,rfl,z,B,A⟩
  have m:eB (j::ys).length E.b=O:=ui (by simpa using c) u;refine⟨.list E.n (j::ys) (.own s.aL),s.new .tok,?_,.inr ⟨by simp,s.aL,rfl,by rw[ei,bS];rfl,i,iA _⟩,rfl,Nat.le_succ _,co p,λn o=>?_,rfl⟩;simp only[aaf,cJ,q,l,fy,iB,m,cF];rw[ei,bN.2 w_];rfl;have m:eB (J xs+(j::ys).length) E.b=O:=ui c u;refine⟨.list E.n (xs++(j::ys)) (.own s.aL),(s.put k Z).new .tok,?_,.inr ⟨by simp,s.aL,rfl,by rw[ei,kB,bS];rfl,i,iA _⟩,rfl,Nat.le_succ _,co (cG s k Z p),λn o=>?_,rfl⟩;simp only[aaa,cJ,q,aG,l,fy,z,m,bZ];rw[ei,kB,bN.2 w_,cF,aO,bN.2 w_];rfl
def adA:∀l:cf,pures (l.map aw)=O
 |[]=>rfl
 |a::l=>by
  show(bn (aw a)&&pures (l.map aw))=O;rw[adA l];rfl
def aAL:gV->Bool
 |.own _=>I
 |_=>O
def B5(l:cf)(r:gV):bn (.list 1 (l.map aw) r)=aAL r:=by
 show(pures (l.map aw)&&_)=_;rw[adA];cases r<;>rfl
def aEV:ag.underlying 25=X (.slice 9):=k_
def CZ(P:Program)(t:TypeId)(a b:Int):cP P .mul t (.int .i64 a) (.int .i64 b)=X (.int .i64 (IntKind.i64.wrap (a*b))):=rfl
def up(T:q_)(o:Nat):Int:=(T[o]?).getD 0
def aDz(a b:cf)(w i k:Nat)(T:q_):q_:=
 T.set (i*w+k) (bif(a[i]?).getD []==(b[k]?).getD []then IntKind.i32.wrap (up T ((i+1)*w+(k+1))+1)else bif aR (up T ((i+1)*w+k)) (up T (i*w+(k+1)))then up T (i*w+(k+1))else up T ((i+1)*w+k))
def Sf{Q:ay}{f:FuncId}{e:ax}{lc:Ag.Loc}{d:ir}{g:SG}{mk:aI}(t:TypeId)(l c:Operand):dJ Q f ⟨d,.makeSlice t l c,g⟩ mk ⟨e,sz,lc⟩ s=(ev e l).bind λl=>(ev e c).bind λc=>gu (nN Q.P t l c (Nat.beq (oG (Q.hint f) d) 2) s) lc:=rfl
theorem pures_all{l:az}(h:∀v∈l,bn v=O):pures l=O:=by
 induction l with
 |nil=>rfl
 |cons a l b=>
  show(bn a&&pures l)=O;rw[h a (by simp),b λv c=>h v (by simp[c])];rfl
def fG(sz:Nat):az->aa
 |[]=>.Ge
 |x::l=>.list sz (x::l) .no
def Bs{h:aB aH}(e:bU sz lo s ov xs){k:Nat}(d:∀v∈xs,b9 h k v=X v):b9 h (k+1) ov=X (fG sz xs):=by
 rcases e with⟨rfl,rfl⟩|⟨b,n,rfl,_⟩
 rfl;show(da (b9 h k) xs).bind (λc=>X (aa.list sz c .no))=_;rw[rN d];rcases xs with _|⟨a,l⟩
 exact absurd rfl b;rfl
def UF(q:js ag t=X E)(v:E.n=sz)(p:E.b<=88){y:aa}{ys:az}(h:bU sz lo s ov xs)(m:cU [] E.g E.n y s=X ys)(d:ys≠[])(a:J xs+J ys<=1000000)(o:s.gE<=s.aL):
 ∃c,cJ ag [] t ov y I s=X (.list sz (xs++ys) (.own s.aL),c)/\c.get [] s.aL=X .tok/\c.ci=s.ci/\c.aL=s.aL+1/\c.gE<=c.aL/\(∀n,n<s.aL->(∀k,ov=.list sz xs (.own k)->n≠k)->c.get [] n=s.get [] n):=by
 subst v;have u:rT ov=O/\ov.cells=[ov]:=by rcases h with⟨rfl,_⟩|⟨_,k,rfl,_⟩<;>exact R_
 rcases ys with _|⟨l,ys⟩
 exact absurd rfl d;rcases h with⟨rfl,rfl⟩|⟨d,k,rfl,x,A,z⟩
 have e:eB (l::ys).length E.b=O:=ui (by simpa using a) p;refine⟨s.new .tok,?_,by rw[ei,bS];rfl,rfl,rfl,co o,λn j _=>?_⟩;simp only[aaf,cJ,q,m,fy,iB,e,cF,List.nil_append];rw[ei,bN.2 w_];rfl;have e:eB (J xs+(l::ys).length) E.b=O:=ui a p;refine⟨(s.put k Z).new .tok,?_,by rw[ei,kB,bS];rfl,rfl,rfl,co (cG s k Z o),λn j i=>?_⟩;simp only[aaa,cJ,q,aG,m,fy,x,e,bZ];rw[ei,kB,bN.2 w_,cF,aO,bN.2 (i k rfl)];rfl
def bU.token(h:bU sz lo s ov xs){k:Nat}(a:ov=.list sz xs (.own k)):lo<=k/\k<s.aL/\s.get [] k=X .tok:=by
 rcases h with⟨rfl,_⟩|⟨_,e,rfl,d,c,b⟩
 cases a;injection a with _ _ h;cases h;exact⟨c,b,d⟩
end Go.Proofs.YtakkigoeiahlcaaGreat
namespace Go.Proofs.YtakkigoeiahlcaaGreat
open Tryz
open Go.Ag
open Go.Sort (putRow grow Holds SWO HoldsK putRowK flatK get_flatK size_flatK)
attribute[go_sem]ZS Zn
section
variable{Q:ay}[Std Q]
def ajP(e:No Q 192)(d:No Q 257)(c:Q.spec 292=X kL)(a b:ae)(s:St):ai Q 192 [.str a,.str b] s (bu (cK a b)) s:=by
 have r:ai Q 257 [.str a,.str b] s (bu (cK a b)) s:=by
  have q:kL [.str a,.str b]=X (bu (cK a b)):=rfl;refine ai.ofNZ atk (WC.sound ?_);simp only[go_sem,seval,c,q,bu]
 refine ai.ofNZ asO (WC.sound ?_);simp only[go_sem,seval];exact aU.of r d_ (by simp only[go_sem,seval,bu])
end
def X32:dy:=[(292,kL)]
def agE:eh X32:=.cons ajY .nil
theorem Sb(x y:Int):lR [x,y]=bif aj x 0 then y else x:=by
 simp only[lR];cases h:aj y 0;cases aj x 0<;>rfl;have:y=0:=by simpa[aj]using h
 subst this;cases aj x 0<;>rfl
def Da:∀a:ae,cK a a=0
 |[]=>rfl
 |x::a=>by
  have:bq x.toNat x.toNat=I:=by rw[qL];exact dN (Nat.lt_irrefl _)
  simp only[cK,this,cF,Da a]
def VH(a b:ae):cK a b= -1\/cK a b=0\/cK a b=1:=by
 induction a generalizing b with
 |nil=>cases b<;>simp[cK]
 |cons x a c=>
  rcases b with _|⟨y,b⟩
  simp[cK];simp only[cK];cases bq x.toNat y.toNat;cases bq y.toNat x.toNat;exact c b;simp;simp
theorem Bi(a b:ae):cK b a= -cK a b:=by
 induction a generalizing b with
 |nil=>cases b<;>rfl
 |cons x a e=>
  rcases b with _|⟨y,b⟩
  rfl;simp only[cK];rcases Nat.lt_trichotomy x.toNat y.toNat with h|h|h
  have d:bq x.toNat y.toNat=O:=bG h;have c:bq y.toNat x.toNat=I:=by rw[qL];exact dN w_
  rw[d,c];rfl;have d:bq x.toNat y.toNat=I:=by rw[qL];exact dN w_
  have c:bq y.toNat x.toNat=I:=by rw[qL];exact dN w_
  rw[d,c];exact e b;have d:bq x.toNat y.toNat=I:=by rw[qL];exact dN w_
  have c:bq y.toNat x.toNat=O:=bG h;rw[d,c];rfl
theorem rJ{a b:ae}(h:cK a b=0):a=b:=by
 induction a generalizing b with
 |nil=>cases b with
  |nil=>rfl
  |cons y b=>simp[cK]at h
 |cons x a c=>
  rcases b with _|⟨y,b⟩
  simp[cK]at h;simp only[cK]at h;cases h1:bq x.toNat y.toNat;rw[h1]at h;cases h2:bq y.toNat x.toNat;rw[h2]at h;have e:x.toNat=y.toNat:=by
   rw[qL]at h1 h2
   have:=of_decide_eq_false h1
   have:=of_decide_eq_false h2;omega
  rw[UInt8.toNat_inj.1 e,c h];rw[h2]at h;simp at h;rw[h1]at h;simp at h
theorem Bj{a b c:ae}(h1:cK a b<0)(d:cK b c<0):cK a c<0:=by
 induction a generalizing b c with
 |nil=>
  rcases b with _|⟨y,b⟩
  simp[cK]at h1;rcases c with _|⟨z,c⟩
  simp[cK]at d;simp[cK]
 |cons x a e=>
  rcases b with _|⟨y,b⟩
  simp[cK]at h1;rcases c with _|⟨z,c⟩
  simp[cK]at d;simp only[cK,qL]at h1 d⊢;by_cases p:x.toNat<y.toNat;by_cases q:y.toNat<z.toNat;simp[show x.toNat<z.toNat from w_];by_cases q2:z.toNat<y.toNat;simp[q,q2]at d;simp[show x.toNat<z.toNat from w_];by_cases p2:y.toNat<x.toNat;simp[p,p2]at h1;by_cases q:y.toNat<z.toNat;simp[show x.toNat<z.toNat from w_];by_cases q2:z.toNat<y.toNat;simp[q,q2]at d;simp only[p,p2,q,q2,dF,cF]at h1 d;simp only[show¬x.toNat<z.toNat from w_,show¬z.toNat<x.toNat from w_,dF,cF];exact e h1 d
def FJ(a b:y_):iX a b=if cK a.1 b.1=0 then cK a.2 b.2 else cK a.1 b.1:=by
 unfold iX;by_cases h:cK a.1 b.1=0;have:aj (cK a.1 b.1) 0=O:=by simp[aj,h]
 rw[this,iP h];rfl;have:aj (cK a.1 b.1) 0=I:=by simp[aj,h]
 rw[this,iN h];rfl
def VI(a b:y_):iX b a= -iX a b:=by
 rw[FJ,FJ,Bi a.1 b.1,Bi a.2 b.2];by_cases h:cK a.1 b.1=0;rw[iP h,iP w_];rw[iN h,iN w_]
def VL{a b:y_}(h:iX a b=0):a=b:=by
 rw[FJ]at h;by_cases h1:cK a.1 b.1=0;rw[iP h1]at h;exact Prod.ext (rJ h1) (rJ h);rw[iN h1]at h;exact absurd h h1
def ajR(a:y_):iX a a=0:=by
 rw[FJ,iP (Da _),Da]
def VJ{a b c:y_}(h1:iX a b<0)(d:iX b c<0):iX a c<0:=by
 rw[FJ]at h1 d⊢;by_cases p:cK a.1 b.1=0;rw[iP p]at h1;have e:=rJ p;by_cases q:cK b.1 c.1=0;rw[iP q]at d;rw[e,iP q];exact Bj h1 d;rw[iN q]at d;rw[e,iN q];exact d;rw[iN p]at h1;by_cases q:cK b.1 c.1=0;have e:=rJ q;rw[<-e,iN p];exact h1;rw[iN q]at d
 have:=Bj h1 d;rw[iN w_];exact this
def H2:SWO (ltOf iX) where
 irrefl x:=by simp[ltOf,ajR]
 trans x y z h1 h2:=by
  simp only[ltOf,dE]at*;exact VJ h1 h2
 ntrans x y z h1 h2:=by
  simp only[ltOf,decide_eq_false_iff_not]at*;intro h3;rcases Int.lt_trichotomy (iX x y) 0 with p|p|p
  exact h1 p;rw[VL p]at h3;exact h2 h3;have a:iX y x<0:=by rw[VI x y];omega
  exact h2 (VJ a h3)
def ae6(x y:y_)(h1:ltOf iX x y=I)(a:ltOf iX y x=I):x=y:=by
 simp only[ltOf,decide_eq_false_iff_not]at h1 a;rw[VI x y]at a;exact VL w_
def abR(x y:y_):KS x y=ltOf iX x y:=rfl
def XU(x:y_):∀l:e_,l.Pairwise (λa b=>(!ltOf iX b a)=O)->(Bz x l).Pairwise (λa b=>(!ltOf iX b a)=O)
 |[],_=>by simp[Bz]
 |y::l,h=>by
  simp only[Bz];cases e:KS y x;rw[abR]at e;refine re.2 ⟨λz c=>?_,h⟩;rcases dD.1 c with rfl|c
  rw[e];rfl;have d:=(re.1 h).1 z c;simp only[ny]at d⊢;exact H2.ntrans _ _ _ d e;refine re.2 ⟨λz c=>?_,XU x l (re.1 h).2⟩;rcases dD.1 ((Pa x l).mem_iff.1 c)with rfl|c
  rw[abR]at e;cases hc:ltOf iX z y;rfl
  have:=H2.trans _ _ _ hc e;rw[H2.irrefl]at this;cases this;exact(re.1 h).1 z c
def aeC:∀l,(EM l).Pairwise (λa b=>(!ltOf iX b a)=O)
 |[]=>.nil
 |x::l=>XU x _ (aeC l)
def aDc{l r:e_}(h:l.Perm r)(g:l.Pairwise (λa b=>(!ltOf iX b a)=O))(e:r.Pairwise (λa b=>(!ltOf iX b a)=O)):l=r:=by
 refine List.Perm.eq_of_pairwise (le:=λa b=>(!ltOf iX b a)=O) (λa b _ _ d c=>?_) g e h;simp only[ny]at d c;exact ae6 a b c d
def G0:Gh:= {at_:=λ_=>Z,ro:=λ_ _=>Z,dim:=λ_=>Z }
def afu{a b:World}(h1:a.heap=b.heap)(g:a.tape=b.tape)(e:a.drawn=b.drawn)(d:a.os=b.os)(c:a.output=b.output):a=b:=by
 let⟨_,_,_,_,_⟩:=a
 let⟨_,_,_,_,_⟩:=b
 cases h1;cases g;cases e;cases d;cases c;rfl
end Go.Proofs.YtakkigoeiahlcaaGreat
namespace Go.Proofs.YtakkigoeiahlcaaGreat
open Tryz
open Go.Ag
def zU(mk:aI)(n m o l c:Nat)(s:St):fN ag mk 25 (.arr n m o l c) s=X (.int .i64 (l:Nat)):=k_
def aiR(n:Nat):(aa.map n).cells=[.map n]:=rfl
def aaI:be:=[0,0,3,7,0,0,48,112,255]
def aaJ:be:=[0,0,3,7,0,0,48,112,255,511]
def QH:=({y:=_}:aY f69 [aaI,aaJ]).1
def KA:=({y:=_}:bQ QH [1,0,1,0,0]).1
def aud:aV 69 f69 QH 41 [bc 4]:=.of
def aqv:hrow 69=[]:=k_
def Z1:=({y:=_}:aY f28 []).1
def atv:aV 28 f28 Z1 15 [bc 4]:=.of
def ahy:eX ag 47 [(0,1),(1,1),(2,2),(4,1),(5,1)]:=kT
def aA5:dZ ag 26:=jH
def aD8:cS ag 26=X 1:=k_
def yf:eE ag 33 1 24 I .Ge:=mh
attribute[go_sem]ahy aA5 aD8 yf aaI aaJ
def Ps:=({y:=_}:aY f153 []).1
def Pu:=({y:=_}:bQ Ps [1,0,1,0,0]).1
def asn:aV 153 f153 Ps 26 [bc 2]:=.of
def apJ:hrow 153=[4]:=k_
def Y4:=({y:=_}:aY f154 []).1
def JW:aV 154 f154 Y4 16 [jI 2 186]:=.of
def apK:hrow 154=[1,2]:=k_
def Y5:=({y:=_}:aY f155 []).1
def aso:aV 155 f155 Y5 24 [bc 6]:=.of
def apL:hrow 155=[3,4,5]:=k_
def Y7:be:=[0,1,0,4,0,0,51,127]
def Y6:=({y:=_}:aY f156 [Y7]).1
def asq:aV 156 f156 Y6 63 [bc 4]:=.of
def apM:hrow 156=[2,3,5,6]:=k_
def abc:be:=[0,1,0,7,15,31]
def abd:be:=[0,1,0,4,0,16,63,0,128,0,512,0,2048,8191,16383,32767]
def abe:be:=[0,1,0,4,0,16,63,0,128,0,512,0,2048,8191,16383,32767]
def k99:=({y:=_}:aY f99 [abc,abd,abe]).1
def avd:aV 99 f99 k99 125 [bc 4]:=.of
def api:hrow 99=[2,3]:=k_
def ZH:=({y:=_}:aY f230 []).1
def Ka:aV 230 f230 ZH 16 [jI 4 324]:=.of
def aqa:hrow 230=[2,3,4]:=k_
def ZI:=({y:=_}:aY f231 []).1
def ata:aV 231 f231 ZI 16 [bc 4]:=.of
def aqb:hrow 231=[2,3]:=k_
def ZJ:=({y:=_}:aY f232 []).1
def atb:aV 232 f232 ZJ 49 [bc 4]:=.of
def aqc:hrow 232=[2,3]:=k_
def YX:=({y:=_}:aY f145 []).1
def JU:aV 145 f145 YX 12 [jI 4 245]:=.of
def apD:hrow 145=[4]:=k_
def Y2:=({y:=_}:aY f150 []).1
def asl:aV 150 f150 Y2 17 [bc 4]:=.of
def apG:hrow 150=[2,3]:=k_
def aba:be:=[0,0,0,0,0,16,48,0,128,384,1008,0,2048,6144,0,16384,49152,131056,262140,524287,1048575]
def GX:=({y:=_}:aY f98 [aba]).1
def Rb:=({y:=_}:bQ GX [1,1,1,0,1,0,0]).1
def DN:=({y:=_}:bQ GX [1,1,1,1,1,1,1,0,1,0,0,1,1,0,0,1,1,0,1,0,0]).1
def Rc:=({y:=_}:bQ GX [1,1,1,1,1,1,1,0,1,0,0]).1
def avc:aV 98 f98 GX 102 [bc 2,bc 3]:=.of
def aph:hrow 98=[6,12,1019,1092,1097]:=k_
def YZ:be:=[0,1,3,0,8,24,63,0,128,0,512,1920,4095,8191,16383]
def YY:=({y:=_}:aY f147 [YZ]).1
def ash:aV 147 f147 YY 19 [bc 4]:=.of
def Xq:hrow 147=[2,3]:=k_
def Y1:=({y:=_}:aY f149 []).1
def asi:aV 149 f149 Y1 11 [bc 3]:=.of
def apF:hrow 149=[2]:=k_
def Pq:=({y:=_}:aY f148 []).1
def Pr:=({y:=_}:bQ Pq [1,1,1,0,1,0,0]).1
def Y0:aV 148 f148 Pq 42 [bc 4]:=.of
def apE:hrow 148=[7]:=k_
def PX:=({y:=_}:aY f227 []).1
def J6:=({y:=_}:bQ PX [1,0,1,0,0]).1
def ZF:aV 227 f227 PX 19 [bc 4]:=.of
def ap9:hrow 227=[]:=k_
def Y3:=({y:=_}:aY f152 []).1
def asm:aV 152 f152 Y3 17 [bc 4]:=.of
def apI:hrow 152=[2,3]:=k_
def ahr:eX ag 191 [(0,1),(1,1),(2,1)]:=kT
def ahu:eX ag 245 [(0,1),(1,1)]:=kT
def ahv:eX ag 248 [(0,1),(1,4),(5,2),(7,2)]:=kT
def ahx:eX ag 324 [(0,1),(1,1)]:=kT
def aA7:eH ag 186 4:=kH
def aBc:eH ag 245 2:=kH
def adL:eH ag 248 9:=kH
def aBe:eH ag 324 2:=kH
def aD9:cS ag 186=X 4:=k_
def aEf:cS ag 245=X 2:=k_
def aEg:cS ag 248=X 9:=k_
def aEj:cS ag 324=X 2:=k_
def aGN:dC ag 186=X (.agg [(.int .i64 (0)),(.int .i64 (0)),(.int .i64 (0)),(.int .i64 (0))]):=k_
def aGO:dC ag 191=X (.agg [(.int .i64 (0)),(.int .i64 (0)),(.int .i64 (0))]):=k_
def aGS:dC ag 245=X (.agg [(.int .i64 (0)),(.int .i64 (0))]):=k_
def aGT:dC ag 248=X (.agg [(.int .i64 (0)),(.int .i64 (0)),(.int .i64 (0)),(.int .i64 (0)),(.int .i64 (0)),(.int .i64 (0)),(.int .i64 (0)),(.int .i64 (0)),(.int .i64 (0))]):=k_
def aGW:dC ag 324=X (.agg [(.int .i64 (0)),(.int .i64 (0))]):=k_
def alE:bj ag 186 0 0:=de
def alF:bj ag 186 1 2:=de
def Wh:bj ag 191 0 0:=de
def alG:bj ag 191 1 1:=de
def alM:bj ag 245 0 0:=de
def alN:bj ag 245 1 1:=de
def alO:bj ag 248 0 0:=de
def alP:bj ag 248 1 1:=de
def alQ:bj ag 248 2 5:=de
def alR:bj ag 248 3 7:=de
def Wk:bj ag 324 0 0:=de
def alS:bj ag 324 1 1:=de
def Aw:eE ag 125 4 32 O (.agg [(.int .i64 (0)),(.int .i64 (0)),(.int .i64 (0)),(.int .i64 (0))]):=mh
def v8:eE ag 243 9 72 O (.agg [(.int .i64 (0)),(.int .i64 (0)),(.int .i64 (0)),(.int .i64 (0)),(.int .i64 (0)),(.int .i64 (0)),(.int .i64 (0)),(.int .i64 (0)),(.int .i64 (0))]):=mh
def EF:eE ag 187 3 24 O (.agg [(.int .i64 (0)),(.int .i64 (0)),(.int .i64 (0))]):=mh
attribute[go_sem]ahr ahu ahv ahx aA7 aBc adL aBe aD9 aEf aEg aEj aGN aGO aGS aGT aGW alE alF Wh Wh alG alM alN alO alP alQ alR Wk Wk alS Aw v8 EF apJ apK apL apM api aqa aqb aqc apD apG aph Xq Xq apF apE ap9 apI Ps Y4 Y5 Y6 k99 ZH ZI ZJ YX Y2 GX YY Y1 Pq PX Y3
def Qs:=({y:=_}:aY f47 []).1
def Qt:=({y:=_}:bQ Qs [1,1,1,0,1,0,0]).1
def atM:aV 47 f47 Qs 29 [jI 2 110,bc 3]:=.of
def aoC:hrow 47=[1,2,4,6]:=k_
def k93:=({y:=_}:aY f93 []).1
def au9:aV 93 f93 k93 10 [bc 4]:=.of
def apd:hrow 93=[3]:=k_
def YW:=({y:=_}:aY f143 []).1
def asg:aV 143 f143 YW 25 [bc 3]:=.of
def aad:be:=[0,1,0,0,8,24,60,127,255,511]
def aae:be:=[0,0,3,0,8,31,63]
def GL:=({y:=_}:aY f48 [aad,aae]).1
def GM:=({y:=_}:bQ GL [1,1,0,1,0,0,1,1,0,0,1,1,1,0,0]).1
def GN:=({y:=_}:bQ GL [1,1,0,1,0,0]).1
def Qu:=({y:=_}:bQ GL [1,1,1,1,0,1,0,0]).1
def atN:aV 48 f48 GL 110 [bc 2]:=.of
def Xi:hrow 48=[1,5,10,12,1093]:=k_
def k95:=({y:=_}:aY f95 []).1
def ava:aV 95 f95 k95 19 [bc 4]:=.of
def ape:hrow 95=[2,3]:=k_
def aa8:be:=[0,0,3,7,0,0,32,112,240,511,1023]
def Q9:=({y:=_}:aY f96 [aa8]).1
def GW:=({y:=_}:bQ Q9 [1,0,1,0,0]).1
def avb:aV 96 f96 Q9 25 [bc 2]:=.of
def apf:hrow 96=[]:=k_
def k50:=({y:=_}:aY f50 []).1
def atQ:aV 50 f50 k50 15 [jI 4 44]:=.of
def aoE:hrow 50=[2,4]:=k_
def aam:be:=[0,1,3,0,8,24,63,0,128,384,0,1024,3072,8064,127,32767]
def aan:be:=[0,0,2,6,0,16,48,127,0,0,512,1536,0,4096,12288,32512,255,131071]
def aai:be:=[0,0,0,4,14,30,0,0,128,448,960,2046,0,4096,16383]
def aaj:be:=[0,0,3,7,15,31,0,0,192,448,960,1984,4095,0,16383]
def aak:be:=[0,0,3,7,15,31,0,0,192,448,960,1984,4095,0,16383]
def aal:be:=[0,0,3,7,0,0,48,112,255,511]
def BD:=({y:=_}:aY f52 [aam,aan,aai,aaj,aak,aal]).1
def Ks:=({y:=_}:bQ BD [1,1,0,1,0,0]).1
def Qv:=({y:=_}:bQ BD [1,1,1,0,1,0,1,0,1,0,0]).1
def atS:aV 52 f52 BD 208 []:=.of
def Xj:hrow 52=[11,15]:=k_
def aao:be:=[0,0,0,4,12,30,0,0,128,384,1022,2046,4094,8191,16383]
def Qw:=({y:=_}:aY f53 [aao]).1
def Qx:=({y:=_}:bQ Qw [1,1,0,1,0,0]).1
def atT:aV 53 f53 Qw 30 [bc 4]:=.of
def aoF:hrow 53=[2,7]:=k_
def ZM:be:=[0,0,2,7,15,0,0,64,224,480,0,0,3103,8191]
def ZN:be:=[0,1,0,4,12,31,63,127,255,127,639,1663,4095,8191,16383]
def vt:=({y:=_}:aY f24 [ZM,ZN]).1
def PZ:=({y:=_}:bQ vt [1,1,1,1,1,1,1,0,1,0,0,1,1,0,0,1,1,0,0,1,1,0,0,1,1,1,0,0,1,0,0]).1
def P0:=({y:=_}:bQ vt [1,1,1,1,1,1,1,0,1,0,0,1,1,0,0,1,1,0,0]).1
def P1:=({y:=_}:bQ vt [1,1,1,1,1,1,1,0,1,0,0]).1
def P2:=({y:=_}:bQ vt [1,1,1,1,1,1,1,1,1,0,1,0,0]).1
def P3:=({y:=_}:bQ vt [1,1,1,1,1,1,1,1,1,1,1,1,0,1,0,0,1,1,0,1,1,1,1,1,0,0,1,1,0,0,1,1,0,0]).1
def P4:=({y:=_}:bQ vt [1,1,1,1,1,1,1,1,1,1,1,1,0,1,0,0,1,1,0,1,1,1,1,1,0,0]).1
def Kc:=({y:=_}:bQ vt [1,1,1,1,1,1,1,1,1,1,1,1,0,1,0,0]).1
def P5:=({y:=_}:bQ vt [1,1,1,1,1,1,1,1,1,1,1,1,1,1,0,1,0,0]).1
def atg:aV 24 f24 vt 180 [bc 2]:=.of
def Xy:hrow 24=[1,3,10,13,19,21,1176]:=k_
def k49:=({y:=_}:aY f49 []).1
def atO:aV 49 f49 k49 13 []:=.of
def aoD:hrow 49=[]:=k_
def aaq:be:=[0,0,3,7,0,0,32,112,240,511]
def aap:be:=[0,0,3,7,0,0,32,112,240,511]
def Kt:=({y:=_}:aY f54 [aaq,aap]).1
def atV:=({y:=_}:bQ Kt [1,1,0,1,0,0,1,0,0,1,0,1,0,1,0,0]).1
def Qy:=({y:=_}:bQ Kt [1,1,0,1,0,0]).1
def atU:aV 54 f54 Kt 61 [bc 2]:=.of
def aoG:hrow 54=[]:=k_
def k56:=({y:=_}:aY f56 []).1
def atW:aV 56 f56 k56 10 [bc 4]:=.of
def aoH:hrow 56=[2,3]:=k_
def aht:eX ag 41 [(0,1),(1,1),(2,1)]:=kT
def ahj:eX ag 110 [(0,1),(1,1)]:=kT
def ahk:ri ag 116 1:=ri.of
def ahl:eX ag 120 [(0,2),(2,1)]:=kT
def ahq:eX ag 186 [(0,2),(2,2)]:=kT
def aAT:dZ ag 83:=jH
def aAV:eH ag 110 2:=kH
def aAW:dZ ag 115:=jH
def aAX:eH ag 116 2:=kH
def adJ:eH ag 120 3:=kH
def aA9:eH ag 191 3:=kH
def aDZ:cS ag 110=X 2:=k_
def aD0:cS ag 115=X 1:=k_
def aD1:cS ag 116=X 2:=k_
def aD2:cS ag 120=X 3:=k_
def aEa:cS ag 191=X 3:=k_
def yA:dC ag 25=X .Ge:=k_
def aGR:dC ag 41=X (.agg [(.str []),(.int .i64 (0)),.Ge]):=k_
def aGE:dC ag 110=X (.agg [.Ge,.nilm]):=k_
def aGF:dC ag 115=X .nilm:=k_
def aGG:dC ag 116=X (.agg [(.str []),(.str [])]):=k_
def aGH:dC ag 120=X (.agg [(.str []),(.str []),.Ge]):=k_
def Wj:bj ag 41 2 2:=de
def alr:bj ag 110 0 0:=de
def als:bj ag 110 1 1:=de
def alt:bj ag 120 0 0:=de
def alu:bj ag 120 1 2:=de
def alH:bj ag 191 2 2:=de
def Ch:eE ag 113 3 56 O (.agg [(.str []),(.str []),.Ge]):=mh
def aqE(lc:Ag.Loc)(l g o:Nat)(i:aa):gm ag lc 116 (.Gt l g o) i=(dP i).bind λi=>bif bq i 2 then bif Nat.beq (lc.gen l) g then X (.Gt l g (o+i*1))else Z else Z:=k_
def Ye(cs:az)(i:aa):Bw ag 116 (.agg cs) i=(dP i).bind λi=>bif bq i 2 then gQ ag 9 cs (i*1)else Z:=k_
def iC:eE ag 37 3 48 O (.agg [(.str []),(.int .i64 (0)),.Ge]):=mh
attribute[go_sem]aht ahj ahk ahl ahq aAT aAV aAW aAX adJ aA9 aDZ aD0 aD1 aD2 aEa yA aGR aGE aGF aGG aGH Wj Wj alr als alt alu alH Ch aqE EF Ye EF iC Ch Aw aoC apd Xi Xi ape apf aoE Xj Xj aoF Xy Xy aoD aoG aoH Qs k93 YW GL k95 Q9 k50 BD Qw vt k49 Kt k56
def Y9:=({y:=_}:aY f168 []).1
def ast:aV 168 f168 Y9 16 [bc 2]:=.of
def apO:hrow 168=[]:=k_
def atc:=({y:=_}:aY f238 []).1
def ZK:=({y:=_}:aY f239 []).1
def atd:aV 239 f239 ZK 6 [bc 2]:=.of
def aqd:hrow 239=[1]:=k_
def ZL:=({y:=_}:aY f240 []).1
def atf:aV 240 f240 ZL 17 [bc 2]:=.of
def aqf:hrow 240=[1]:=k_
def Z2:=({y:=_}:aY f287 []).1
def Yo:=({y:=_}:aY f110 []).1
def arM:aV 110 f110 Yo 4 [bc 2]:=.of
def apl:hrow 110=[]:=k_
def Zd:be:=[0,0,0,0,0,16,0,64,240,504,1016,2044,4095,8191]
def PC:=({y:=_}:aY f181 [Zd]).1
def PD:=({y:=_}:bQ PC [1,0,0]).1
def asB:aV 181 f181 PC 27 []:=.of
def apS:hrow 181=[4]:=k_
noncomputable def Gn:Code:=
 ((jn (f103.body.getD .ret)).getD 0 (.ret,.ret)).1
noncomputable def Gq:Code:=
 ((jn (f103.body.getD .ret)).getD 0 (.ret,.ret)).2
noncomputable def Pd:SC:=
 (.seq (.region [cI 6 21])
 (.region [gN 7 186,eI 186 7 22]))
noncomputable def JR:SC:=
 (.block 3 (.seq (.seq (.region [bw 23 6,br 24 3 4,⟨X 25,fE BinOp.geq 3 (aD 23) (aD 24) 3,.aw⟩])
 (.cond (aD 25) (.exit 2) .skip))
 (.seq (.region [br 26 186 5,br 27 186 7,qQ 28 99 26 27 186 186,cI 8 28])
 (.seq (.region [br 29 3 4,bw 30 6,acW 31 29 30,ng 32 31 1,bw 33 32,oO 34 3 4 33,xV 35 6 33,⟨X 36,fE BinOp.sub 3 (aD 34) (aD 35) 3,(.when 33 I)⟩,oO 37 3 3 33,ayy 38 37 33,ayH 39 3 36 38 33,vK 40 33 39,cI 9 40])
 (.seq (.region [bw 41 9,bw 42 41,vJ 43 8 42,Lq 44 43 1 42,nf 45 42 44,bw 46 45,xV 47 9 46,R5 48 47 46,xV 49 48 46,vJ 50 8 49,Lq 51 50 0 49,R6 52 49 51 46,vK 53 46 52])
 (.cond (aD 53) (.seq (.region [Hz 2])
 .ret) .skip))))))
noncomputable def Gp:Code:=
 ((jn (f103.body.getD .ret)).getD 1 (.ret,.ret)).1
noncomputable def Gr:Code:=
 ((jn (f103.body.getD .ret)).getD 1 (.ret,.ret)).2
noncomputable def Pe:SC:=
 (.seq (.region [gN 4 3,eI 3 4 17])
 (.region [gN 5 186,eI 186 5 18]))
noncomputable def Pf:SC:=
 (.block 1 (.seq (.region [br 19 138 1,nQ 20 110 19 138])
 (.block 2 (.rfun (aD 20) [21,22] Gn Gq))))
noncomputable def Yh:SC:=
 (.seq (.region [qR 1 138 0,gN 2 4])
 (.seq (.seq (.region [br 10 138 1,nQ 11 168 10 138,mF 12 11])
 (.cond (aD 12) (.seq (.region [Hz 2])
 .ret) .skip))
 (.seq (.region [br 13 138 1,vM 14 13 138,gN 3 3,eI 3 3 14])
 (.seq (.seq (.region [br 15 138 1,nQ 16 110 15 138])
 (.block 0 (.rfun (aD 16) [17,18] Gp Gr)))
 (.seq (.region [⟨Z,Op.store 4 (aD 2) (dB (qe O)),.aw⟩])
 .ret)))))
def arC:dX Gn=Pd:=k_
def arE:dX Gq=JR:=k_
def Yi:(dM Gn&&dM Gq)=O:=k_
def arD:dX Gp=Pe:=k_
def arF:dX Gr=Pf:=k_
def arH:aV 103 f103 Yh 54 [jI 2 4]:=.of
def Xn:hrow 103=[]:=k_
noncomputable def Gz:Code:=
 ((jn (f171.body.getD .ret)).getD 0 (.ret,.ret)).1
noncomputable def GA:Code:=
 ((jn (f171.body.getD .ret)).getD 0 (.ret,.ret)).2
noncomputable def Pz:SC:=
 (.region [gN 5 186,eI 186 5 12])
noncomputable def PA:SC:=
 (.block 1 (.region [br 13 3 3,cj 14 186 5 0,cj 15 44 14 0,br 16 3 15,cj 17 186 5 1,cj 18 44 17 0,br 19 3 18,Ln 20 3 16 19,cj 21 186 5 1,cj 22 44 21 1,br 23 3 22,cj 24 186 5 0,cj 25 44 24 1,br 26 3 25,acW 27 23 26,ayD 28 3 20 27,Ln 29 3 13 28,eI 3 3 29]))
noncomputable def Zc:SC:=
 (.seq (.region [ac3 2 0])
 (.seq (.seq (.region [bw 6 0,nQ 7 168 6 138,mF 8 7])
 (.cond (aD 8) (.seq (.region [ac3 2 0])
 .ret) .skip))
 (.seq (.region [gN 3 3,sr 3 0])
 (.seq (.seq (.region [bw 9 0,nQ 10 110 9 138])
 (.block 0 (.rfun (aD 10) [11,12] Gz GA)))
 (.seq (.region [br 30 3 3,cI 2 30])
 .ret)))))
def asw:dX Gz=Pz:=k_
def asx:dX GA=PA:=k_
def asz:(dM Gz&&dM GA)=O:=k_
def asy:aV 171 f171 Zc 31 [bc 2]:=.of
def apQ:hrow 171=[]:=k_
def jZ:uS:=[bw 20 8,ng 21 20 0,bw 22 21,jk 23 186 7 0 22,jk 24 44 23 0 22,kd 25 3 24 22,jk 26 44 3 0 22,kd 27 3 26 22,jk 28 186 7 1 22,jk 29 44 28 0 22,kd 30 3 29 22,acT 31 253 25 27 30 3 22,nf 32 22 31,bw 33 32,jk 34 186 7 0 33,jk 35 44 34 1 33,kd 36 3 35 33,jk 37 44 3 1 33,kd 38 3 37 33,jk 39 186 7 1 33,jk 40 44 39 1 33,kd 41 3 40 33,acT 42 253 36 38 41 3 33,nf 43 33 42,cI 19 43]
def ky:uS:=[cj 45 186 7 0,cj 46 44 45 1,br 47 3 46,cj 48 44 3 1,br 49 3 48,ayL 50 47 49,bw 51 50,jk 52 186 7 1 51,jk 53 44 52 1 51,kd 54 3 53 51,jk 55 44 3 1 51,kd 56 3 55 51,⟨X 57,fE BinOp.gtr 3 (aD 54) (aD 56) 3,(.when 51 O)⟩,nf 58 51 57,bw 59 58,vJ 60 8 59,Sa 61 60 59,nf 62 59 61,cI 44 62]
def kM:uS:=[cj 66 186 7 0,cj 67 44 66 1,br 68 3 67,cj 69 44 3 1,br 70 3 69,ayJ 71 3 68 70,bw 72 71,jk 73 186 7 1 72,jk 74 44 73 1 72,kd 75 3 74 72,jk 76 44 3 1 72,kd 77 3 76 72,ayx 78 75 77 72,nf 79 72 78,bw 80 79,vJ 81 8 80,ayK 82 81 0 80,nf 83 80 82,cI 65 83]
noncomputable def GB:Code:=
 ((jn (f184.body.getD .ret)).getD 0 (.ret,.ret)).1
noncomputable def GC:Code:=
 ((jn (f184.body.getD .ret)).getD 0 (.ret,.ret)).2
noncomputable def PG:SC:=
 (.region [gN 7 186,eI 186 7 12])
noncomputable def PH:SC:=
 (.block 1 (.seq (.region [cj 13 186 7 0,br 14 44 13,cj 15 186 7 1,br 16 44 15,br 17 44 3,Ll 18 252 14 16 17 44 44 44,cI 8 18])
 (.block 2 (.seq (.region jZ)
 (.cond (aD 19) (.seq (.region [sr 4 0])
 .ret) (.seq (.region ky)
 (.cond (aD 44) (.region [br 63 3 5,BV 64 63 1,eI 3 5 64]) (.seq (.region kM)
 (.cond (aD 65) (.region [br 84 3 5,ayN 85 84,eI 3 5 85]) .skip)))))))))
noncomputable def Zf:SC:=
 (.seq (.region [qR 3 44 1,gN 4 3])
 (.seq (.region [gN 5 3,sr 5 0])
 (.seq (.seq (.region [bw 9 0,nQ 10 110 9 138])
 (.block 0 (.rfun (aD 10) [11,12] GB GC)))
 (.seq (.seq (.region [br 86 3 5,ng 87 86 0])
 (.cond (aD 87) (.seq (.region [sr 4 (-1)])
 .ret) .skip))
 (.seq (.region [sr 4 1])
 .ret)))))
def asE:dX GB=PG:=k_
def asF:dX GC=PH:=k_
def asG:aV 184 f184 Zf 88 [jI 4 3]:=.of
def apU:hrow 184=[]:=k_
def ZO:=({y:=_}:aY f252 []).1
def ath:aV 252 f252 ZO 30 [bc 6]:=.of
def aqg:hrow 252=[3,4,5]:=k_
def ZP:=({y:=_}:aY f253 []).1
def ati:aV 253 f253 ZP 19 [bc 6]:=.of
def aqh:hrow 253=[]:=k_
def PE:=({y:=_}:aY f182 []).1
def PF:=({y:=_}:bQ PE [1,1,0,1,0,0]).1
def asC:aV 182 f182 PE 25 [bc 4]:=.of
def Xs:hrow 182=[7]:=k_
def Ze:=({y:=_}:aY f183 []).1
def asD:aV 183 f183 Ze 10 [jI 2 44]:=.of
def apT:hrow 183=[1,2]:=k_
noncomputable def Gs:Code:=
 ((jn (f111.body.getD .ret)).getD 0 (.ret,.ret)).1
noncomputable def Gu:Code:=
 ((jn (f111.body.getD .ret)).getD 0 (.ret,.ret)).2
noncomputable def Pj:SC:=
 (.region [gN 8 186,eI 186 8 14])
noncomputable def Pk:SC:=
 (.block 1 (.region [br 15 138 6,cj 16 186 8 0,cj 17 44 16 0,br 18 3 17,cj 19 186 8 1,cj 20 44 19 0,br 21 3 20,Ln 22 3 18 21,cj 23 186 8 0,cj 24 44 23 1,br 25 3 24,cj 26 186 8 1,cj 27 44 26 1,br 28 3 27,Ln 29 3 25 28,R3 30 44 22 1 29,qQ 31 184 15 30 138 44,⟨X 32,fE BinOp.sub 3 (dB (gB ic 1)) (aD 31) 3,.aw⟩,xW 33 207 5 32,br 34 3 33,BV 35 34 1,xW 36 207 5 32,eI 3 36 35]))
noncomputable def Yp:SC:=
 (.seq (.region [gN 4 207])
 (.seq (.region [gN 5 207])
 (.seq (.region [bw 9 1,ac0 10 182 9 183 138 281,gN 6 138,eI 138 6 10])
 (.seq (.seq (.region [bw 11 0,nQ 12 110 11 138])
 (.block 0 (.rfun (aD 12) [13,14] Gs Gu)))
 (.seq (.region [br 37 207 5,eI 207 4 37])
 .ret)))))
def arN:dX Gs=Pj:=k_
def arO:dX Gu=Pk:=k_
def arQ:(dM Gs&&dM Gu)=O:=k_
def arP:aV 111 f111 Yp 38 [jI 4 207]:=.of
def apm:hrow 111=[]:=k_
def aay:be:=[0,0,3,0,0,31,0,0,255,511]
noncomputable def GP:Code:=
 ((jn (f62.body.getD .ret)).getD 0 (.ret,.ret)).1
noncomputable def GR:Code:=
 ((jn (f62.body.getD .ret)).getD 0 (.ret,.ret)).2
noncomputable def QC:SC:=
 (.region [gN 8 186,eI 186 8 26])
noncomputable def DL:SC:=
 (.block 3 (.seq (.region [br 27 186 6,br 28 186 8,qQ 29 99 27 28 186 186])
 (.block 4 (.seq (.seq (.region [ng 31 29 2,cI 30 31])
 (.cond (aD 30) .skip (.seq (.region [ng 32 29 3,cI 30 32])
 (.cond (aD 30) .skip (.region [ng 33 29 5,cI 30 33])))))
 (.cond (aD 30) (.seq (.region [sr 4 0])
 .ret) .skip)))))
noncomputable def GQ:Code:=
 ((jn (f62.body.getD .ret)).getD 1 (.ret,.ret)).1
noncomputable def GS:Code:=
 ((jn (f62.body.getD .ret)).getD 1 (.ret,.ret)).2
noncomputable def QD:SC:=
 (.region [gN 6 186,eI 186 6 22])
noncomputable def QE:SC:=
 (.block 1 (.seq (.region [br 23 138 3,nQ 24 110 23 138])
 (.block 2 (.rfun (aD 24) [25,26] GP GR))))
def pF:uS:=[bw 34 0,br 35 138 3,qQ 36 111 34 35 138 138,br 37 138 3,bw 38 0,qQ 39 111 37 38 138 138,gN 9 207,gN 10 207,eI 207 9 36,eI 207 10 39]
noncomputable def k62:SC:=
 (.seq (.region [qR 3 138 1,gN 4 3])
 (.seq (.seq (.region [bw 11 0,nQ 12 103 11 138,mF 13 12,bw 14 13,oO 15 138 3 14,ayF 16 103 15 138 14,R5 17 16 14,vK 18 14 17])
 (.cond (aD 18) (.seq (.region [sr 4 0])
 .ret) .skip))
 (.seq (.seq (.region [bw 19 0,nQ 20 110 19 138])
 (.block 0 (.rfun (aD 20) [21,22] GQ GS)))
 (.seq (.draw pF aay)
 (.seq (.block 5 (.seq (.region [Lm 41 207 9 0,br 42 3 41,BX 43 42 0,bw 44 43,ac6 45 207 9 2 44,kd 46 3 45 44,Sa 47 46 44,nf 48 44 47,bw 49 48,ayM 50 207 10 0 49,oO 51 3 50 49,ayC 52 51 0 49,xV 53 52 49,ac6 54 207 10 2 53,kd 55 3 54 53,Sa 56 55 53,R6 57 53 56 49,vK 58 49 57,cI 40 58])
 (.cond (aD 40) (.seq (.region [sr 4 0])
 .ret) (.seq (.region [Lm 60 207 9 0,br 61 3 60,BX 62 61 0,cI 59 62])
 (.cond (aD 59) (.seq (.region [sr 4 2])
 .ret) (.seq (.region [Lm 64 207 10 0,br 65 3 64,BX 66 65 0,cI 63 66])
 (.cond (aD 63) (.seq (.region [sr 4 3])
 .ret) (.seq (.region [Lm 68 207 9 2,br 69 3 68,BX 70 69 0,cI 67 70])
 (.cond (aD 67) (.seq (.region [sr 4 1])
 .ret) .skip)))))))))
 (.seq (.region [sr 4 4])
 .ret))))))
def at2:dX GP=QC:=k_
def at4:dX GR=DL:=k_
def aaz:(dM GP&&dM GR)=O:=k_
def at3:dX GQ=QD:=k_
def at5:dX GS=QE:=k_
def at6:aV 62 f62 k62 71 [jI 4 3]:=.of
def aoK:hrow 62=[9,10]:=k_
def ZD:=({y:=_}:aY f215 []).1
def as5:aV 215 f215 ZD 16 [bc 4]:=.of
def ap8:hrow 215=[3]:=k_
def aav:be:=[0,1,3,7,0,16,0,127]
def aat:be:=[0,0,2,6,14,0,32,96,254,511,1023,2047]
def aau:be:=[0,1,3,7,0,16,0,127]
def Kv:SC:=(dz [Hv 24 3 23 22] (LX 24 0 (kD (rE 1 (dz [xW 25 22 21 23,br 26 47 25,gN 5 47,eI 47 5 26] (.draw [bw 27 3,t7 28 27,cj 29 136 28 1,br 30 106 29,cj 31 47 5 0,br 32 9 31,br 33 47 5,acZ 106 30 32 33] aav))) (sC [BV 34 23 1,bw 23 34]))))
def DJ:SC:=(dz [Hv 49 3 48 47] (LX 49 4 (kD (rE 5 (dz [xW 50 25 46 48,br 51 9 50,cI 10 51] (dz [bw 53 3,t7 54 53,cj 55 136 54 1,br 56 106 55,bw 57 10,Ad 58 106 56 57,bw 52 58,kC 59 52 0,kC 60 52 1,gN 11 47,eI 47 11 59,cI 12 60] (kD (dz [bw 61 12,mF 62 61,bw 63 62,Ac 64 47 11 1 63,oO 65 3 64 63,⟨X 66,fE BinOp.neq 3 (aD 65) (dB (gB ic 1)) 3,(.when 63 I)⟩,vK 67 63 66] (mq 67 (.exit 3) nU)) (sC [bw 68 8,cj 69 47 11 2,br 70 44 69,vL 71 138 70,Ei 72 68 71 138 138,cI 8 72]))))) (sC [BV 73 48 1,bw 48 73]))))
def DK:SC:=(dz [Hv 39 3 38 37] (LX 39 2 (kD (rE 3 (dz [xW 40 22 36 38,br 41 47 40,gN 7 47,eI 47 7 41] (kD (dz [cj 42 47 7 1,br 43 3 42,Lp 44 3 43 3] (mq 44 (.exit 3) nU)) (dz [BW 8] (kD (dz [cj 45 47 7 3,br 46 25 45,vM 47 46 25,Hw 48] (rE 4 (Ha DJ))) (kD (dz [bw 74 8,nQ 75 103 74 138,mF 76 75] (mq 76 (sdR [bw 77 3,bw 78 3,t7 79 78,cj 80 136 79 2,br 81 25 80,cj 82 47 7 0,br 83 9 82,vL 84 25 83,Ei 85 81 84 25 25,t7 86 77,cj 87 136 86 2,eI 25 87 85] aat (.exit 3)) nU)) (.draw [bw 88 3,t7 89 88,cj 90 136 89 0,br 91 134 90,cj 92 47 7 0,br 93 9 92,bw 94 8,acZ 134 91 93 94] aau))))))) (sC [BV 95 38 1,bw 38 95]))))
def k58:SC:=(dz [qR 1 24 0,ac5] (.scope (kD (dz [br 13 24 1,nQ 14 20 13 24,mF 15 14] (mq 15 (dz [ac5] vW) nU)) (dz [R4 16 134,R4 17 106,⟨X 18,Op.build 136 #[(0,aD 16),(1,aD 17),(2,dB (Value.slice Z 0 0))],.aw⟩,qR 19 136 18,cI 3 19] (kD (dz [cj 20 24 1 0,br 21 22 20,vM 22 21 22,Hw 23] (rE 0 (Ha Kv))) (kD nU (kD (dz [cj 35 24 1 0,br 36 22 35,vM 37 36 22,Hw 38] (rE 2 (Ha DK))) (dz [bw 96 3,cI 2 96] vW))))))))
def atY:aV 58 f58 k58 97 [bc 2]:=.of
def aoJ:hrow 58=[1,5,7,11]:=k_
def Yn:=({y:=_}:aY f108 []).1
def arL:aV 108 f108 Yn 17 [bc 4]:=.of
def apk:hrow 108=[]:=k_
def QA:=({y:=_}:aY f59 []).1
def QB:=({y:=_}:bQ QA [1,1,0,1,0,0]).1
def atZ:aV 59 f59 QA 30 [bc 4]:=.of
def Xk:hrow 59=[1025]:=k_
def Yl:be:=[0,0,3,0,0,31,63,0,0,511,1023,2047,4095]
def Yk:=({y:=_}:aY f105 [Yl]).1
def arI:aV 105 f105 Yk 18 [bc 5]:=.of
def apj:hrow 105=[]:=k_
def k60:=({y:=_}:aY f60 []).1
def at1:aV 60 f60 k60 5 [bc 4]:=.of
def ZT:be:=[0,1,3,7,0,31,0,64,192,448,0,1984,4095,8191]
def GF:=({y:=_}:aY f25 [ZT]).1
def P8:=({y:=_}:bQ GF [1,1,1,1,0,1,0,0]).1
def Kf:=({y:=_}:bQ GF [1,1,1,1,1,1,1,0,1,0,0,1,1,0,0,1,1,0,0]).1
def GG:=({y:=_}:bQ GF [1,1,1,1,1,1,1,0,1,0,0]).1
def atl:aV 25 f25 GF 76 [bc 2]:=.of
def aqn:hrow 25=[1]:=k_
noncomputable def Gw:Code:=
 ((jn (f141.body.getD .ret)).getD 0 (.ret,.ret)).1
noncomputable def Gx:Code:=
 ((jn (f141.body.getD .ret)).getD 0 (.ret,.ret)).2
noncomputable def Pp:SC:=
 (.seq (.region [gN 12 44,eI 44 12 45])
 (.region [cI 13 46]))
noncomputable def Gv:SC:=
 (.block 1 (.seq (.region [bw 47 13,mF 48 47,bw 49 48,oO 50 138 10 49,oO 51 44 12 49,R8 52 215 50 51 138 44 49,⟨X 53,fE BinOp.lss 3 (aD 52) (dB (gB ic 0)) 3,(.when 49 I)⟩,vK 54 49 53])
 (.cond (aD 54) (.seq (.region [Hz 6])
 .ret) .skip)))
noncomputable def YT:SC:=
 (.seq (.region [qR 3 24 0,gN 6 4])
 (.seq (.region [br 14 24 3,nQ 15 58 14 24,cI 7 15])
 (.seq (.seq (.region [bw 16 7,ayz 17 132 16])
 (.cond (aD 17) (.seq (.region [Hz 6])
 .ret) .skip))
 (.seq (.region [bw 19 7,t7 20 19,cj 21 136 20 1,br 22 106 21,bw 23 1,Ad 24 106 22 23,bw 18 24,kC 25 18 0,kC 26 18 1,gN 8 47,eI 47 8 25,cI 9 26])
 (.seq (.region [bw 28 7,t7 29 28,cj 30 136 29 0,br 31 134 30,bw 32 2,Ad 33 134 31 32,bw 27 33,kC 34 27 0,kC 35 27 1,gN 10 138,eI 138 10 34,cI 11 35])
 (.seq (.seq (.region [bw 36 9,mF 37 36,bw 38 37,xV 39 11 38,R5 40 39 38,vK 41 38 40])
 (.cond (aD 41) (.seq (.region [Hz 6])
 .ret) .skip))
 (.seq (.seq (.region [bw 42 7,br 43 47 8,qQ 44 214 42 43 132 47])
 (.block 0 (.rfun (aD 44) [45,46] Gw Gx)))
 (.seq (.region [⟨Z,Op.store 4 (aD 6) (dB (qe O)),.aw⟩])
 .ret))))))))
def asc:dX Gw=Pp:=k_
def asd:dX Gx=Gv:=k_
def YU:(dM Gw&&dM Gx)=O:=k_
def ase:aV 141 f141 YT 55 [jI 6 4]:=.of
def apC:hrow 141=[]:=k_
def ZC:=({y:=_}:aY f214 []).1
def as4:aV 214 f214 ZC 6 [bc 4]:=.of
def ap7:hrow 214=[]:=k_
def ZX:be:=[0,1,3,7,15,7,7,103,255,511]
noncomputable def GH:Code:=
 ((jn (f264.body.getD .ret)).getD 0 (.ret,.ret)).1
noncomputable def GI:Code:=
 ((jn (f264.body.getD .ret)).getD 0 (.ret,.ret)).2
noncomputable def Qa:SC:=
 (.seq (.region [gN 8 44,eI 44 8 50])
 (.region [cI 9 51]))
noncomputable def Qb:SC:=
 (.block 3 (.seq (.region [br 52 348 3,br 53 44 8,bw 54 9,ayG 55 52 53 54 44 4,mF 56 55])
 (.cond (aD 56) .ret .skip)))
noncomputable def DF:SC:=
 (.seq (.region [Hv 21 3 20 19])
 (.seq (.cond (aD 21) .skip (.exit 0))
 (.seq (.block 1 (.seq (.region [bw 22 20,xW 23 25 18 20,br 24 9 23,cI 4 22,cI 5 24])
 (.seq (.region [br 26 132 2,t7 27 26,cj 28 136 27 1,br 29 106 28,bw 30 5,Ad 31 106 29 30,bw 25 31,kC 32 25 0,kC 33 25 1,gN 6 47,eI 47 6 32,cI 7 33])
 (.seq (.seq (.draw [bw 34 7,mF 35 34,bw 36 35,Ac 37 47 6 1 36,oO 38 3 37 36,oO 39 47 1 36,xV 40 4 36,R8 41 265 39 40 47 3 36,acS 42 3 38 41 36,vK 43 36 42] ZX)
 (.cond (aD 43) (.seq (.region [br 44 348 3,acY 45 44,⟨X 46,Op.call ⟨Callee.value (aD 44),#[aD 45,dB (qe I)],#[44,4]⟩,.aw⟩])
 .ret) .skip))
 (.seq (.region [br 47 132 2,br 48 47 6,qQ 49 214 47 48 132 47])
 (.block 2 (.rfun (aD 49) [50,51] GH GI)))))))
 (.region [BV 57 20 1,bw 20 57]))))
noncomputable def ZW:SC:=
 (.seq (.region [qR 3 348 0])
 (.seq (.seq (.region [cj 10 47 1 1,br 11 3 10,ng 12 11 1])
 (.cond (aD 12) (.seq (.region [br 13 348 3,cj 14 47 1 2,br 15 44 14,⟨X 16,Op.call ⟨Callee.value (aD 13),#[aD 15,dB (qe O)],#[44,4]⟩,.aw⟩])
 .ret) .skip))
 (.seq (.region [cj 17 47 1 3,br 18 25 17,vM 19 18 25,Hw 20])
 (.block 0 (.loop DF)))))
def atn:dX GH=Qa:=k_
def ato:dX GI=Qb:=k_
def ZY:(dM GH&&dM GI)=O:=k_
def atp:aV 264 f264 ZW 58 []:=.of
def aqj:hrow 264=[]:=k_
def ZZ:=({y:=_}:aY f265 []).1
def atq:aV 265 f265 ZZ 17 [bc 4]:=.of
def aqk:hrow 265=[2]:=k_
def ahm:eX ag 136 [(0,1),(1,1),(2,1)]:=kT
def aBd:dZ ag 4:=jH
def aAP:dZ ag 106:=jH
def aAY:dZ ag 132:=jH
def aAZ:dZ ag 134:=jH
def ue:dZ ag 138:=jH
def aBa:eH ag 207 3:=kH
def aBf:dZ ag 348:=jH
def aEh:cS ag 4=X 1:=k_
def aeT:cS ag 138=X 1:=k_
def aEc:cS ag 207=X 3:=k_
def aGI:dC ag 136=X (.agg [.nilm,.nilm,.Ge]):=k_
def E5:dC ag 138=X .Ge:=k_
def aGP:dC ag 207=X (.agg [(.int .i64 (0)),(.int .i64 (0)),(.int .i64 (0))]):=k_
def alv:bj ag 136 0 0:=de
def alw:bj ag 136 1 1:=de
def alx:bj ag 136 2 2:=de
def XD(lc:Ag.Loc)(l g o:Nat)(i:aa):gm ag lc 207 (.Gt l g o) i=(dP i).bind λi=>bif bq i 3 then bif Nat.beq (lc.gen l) g then X (.Gt l g (o+i*1))else Z else Z:=k_
def BI(k:pb):j0 ag 106 (.str k)=X (9,47):=k_
def BJ(k:pb):j0 ag 134 (.str k)=X (9,138):=k_
attribute[go_sem]ahm aBd aAP aAY aAZ ue aBa aBf aEh aeT aEc aGI E5 aGP alv alw alx XD BI BJ apO aqd aqf apl apS Xn Xn apQ apU aqg aqh Xs Xs apT apm aoK ap8 aoJ apk Xk Xk apj aqn apC ap7 aqj aqk Y9 atc ZK ZL Z2 Yo PC Yh Zc Zf ZO ZP PE Ze Yp k62 ZD k58 Yn QA Yk k60 GF YT ZC ZW ZZ
end Go.Proofs.YtakkigoeiahlcaaGreat
namespace Go.Proofs.YtakkigoeiahlcaaGreat
open Tryz
open Go.Ag
def aaC:be:=[0,1,3,7,0,16,0,64,255]
def aaB:be:=[0,1,3,7,0,16,0,64,255]
def Kw:=({y:=_}:aY f63 [aaC,aaB]).1
def Kx:=({y:=_}:bQ Kw [1,1,1,0,1,0,0]).1
def Ky:=({y:=_}:bQ Kw [1,1,1,1,0,1,0,0]).1
def at7:aV 63 f63 Kw 64 [bc 2,bc 3]:=.of
def Xl:hrow 63=[1,6,8]:=k_
def Yq:=({y:=_}:aY f112 []).1
def arR:aV 112 f112 Yq 17 [bc 3]:=.of
def apn:hrow 112=[4]:=k_
def QF:=({y:=_}:aY f64 []).1
def xK:=({y:=_}:bQ QF [1,0,1,0,0]).1
def at8:aV 64 f64 QF 43 [bc 4]:=.of
def aoL:hrow 64=[3,7]:=k_
def aaD:be:=[0,1,3,0,0,16,48,120,248,7,1023]
def QG:=({y:=_}:aY f65 [aaD]).1
def Kz:=({y:=_}:bQ QG [1,1,1,0,1,0,0]).1
def at9:aV 65 f65 QG 60 [bc 4]:=.of
def aoM:hrow 65=[3]:=k_
def Yr:=({y:=_}:aY f113 []).1
def arS:aV 113 f113 Yr 23 [bc 4]:=.of
def aaF:be:=[0,1,3,7,0,16,48,112,255,0,512,1536,3584,8191,16383,32767,65535,131071,262143,32767,557055,1605631,3702783,8388607,32767,16809983,50364415,117473279,268435455,536870911,1073741823]
def k66:=({y:=_}:aY f66 [aaF]).1
def aua:aV 66 f66 k66 35 [bc 4]:=.of
def aoN:hrow 66=[3]:=k_
def P9:=({y:=_}:aY f26 []).1
def DG:=({y:=_}:bQ P9 [1,1,1,1,0,1,0,0]).1
def atr:aV 26 f26 P9 73 [bc 2]:=.of
def Xz:hrow 26=[1,8]:=k_
def k90:=({y:=_}:aY f90 []).1
def au6:aV 90 f90 k90 11 [bc 2]:=.of
def apa:hrow 90=[]:=k_
def ar7:=({y:=_}:aY f136 []).1
def Zz:=({y:=_}:aY f211 []).1
def YQ:=({y:=_}:aY f137 []).1
def ar8:aV 137 f137 YQ 6 [bc 2]:=.of
def apz:hrow 137=[1]:=k_
def xF:uS:=[cj 8 105 1 1,br 9 9 8,ac4 10 9,bw 11 10,jk 12 105 1 1 11,kd 13 9 12 11,R7 14 84 13 9 11,Hx 15 14 11,nf 16 11 15,cI 7 16]
def xG:uS:=[cj 28 105 1 3,br 29 103 28,acY 30 103,acV 31 103 29 30,bw 32 31,jk 33 105 1 3 32,jk 34 103 33 0 32,kd 35 9 34 32,R7 36 84 35 9 32,vJ 37 36 32,jk 38 105 1 3 37,jk 39 103 38 1 37,kd 40 9 39 37,R7 41 212 40 9 37,⟨X 42,Op.pick (aD 37) (aD 41) (dB (Value.bool I)),(.when 32 O)⟩,Hx 43 42 32,nf 44 32 43,cI 27 44]
def xH:uS:=[bw 46 3,mF 47 46,bw 48 47,jk 49 105 1 4 48,kd 50 3 49 48,Lq 51 50 1 48,nf 52 48 51,bw 53 52,jk 54 105 1 4 53,kd 55 3 54 53,Lq 56 55 3 53,nf 57 53 56,cI 45 57]
def YR:SC:=(dz [qR 1 105 0,BU 2] (dz [cj 4 105 1 4,br 5 3 4,ng 6 5 2,cI 3 6] (kD (rE 0 (kD (dz xF (mq 7 nU (dz [cj 17 105 1 2,br 18 3 17,ayE 19 18 0,cI 7 19] (mq 7 nU (dz [cj 20 105 1 2,br 21 3 20,BX 22 21 5,cI 7 22] (mq 7 nU (sC [cj 23 105 1 5,br 24 9 23,nQ 25 84 24 9,mF 26 25,cI 7 26]))))))) (mq 7 (dz [BU 2] vW) (dz xG (mq 27 (dz [BU 2] vW) (kD (dz xH (mq 45 nU (dz [bw 58 3,cj 59 105 1 6,br 60 25 59,vM 61 60 25,BX 62 61 0,acV 63 4 58 62,cI 45 63] (mq 45 nU (sC [cj 64 105 1 6,br 65 25 64,vM 66 65 25,BX 67 66 60,cI 45 67]))))) (mq 45 (dz [BU 2] vW) nU))))))) (dz [cj 68 105 1 6,br 69 25 68,ac0 70 88 69 213 25 173,mF 71 70,cI 2 71] vW))))
def ar9:aV 138 f138 YR 72 [bc 2]:=.of
def apA:hrow 138=[1]:=k_
def ZA:=({y:=_}:aY f212 []).1
def as2:aV 212 f212 ZA 10 [bc 2]:=.of
def ap6:hrow 212=[]:=k_
def ZB:=({y:=_}:aY f213 []).1
def as3:aV 213 f213 ZB 6 [bc 2]:=.of
def Kr:=({y:=_}:aY f44 []).1
def Qo:=({y:=_}:bQ Kr [1,1,1,0,1,0,0,1,1,0,0,1,1,1,0,0]).1
def Qp:=({y:=_}:bQ Kr [1,1,1,0,1,0,0]).1
def atJ:aV 44 f44 Kr 49 [bc 4]:=.of
def aoA:hrow 44=[2,7,10]:=k_
def k91:=({y:=_}:aY f91 []).1
def au7:aV 91 f91 k91 6 [bc 4]:=.of
def apb:hrow 91=[]:=k_
def vq:uS:=[cj 10 105 1 2,br 11 3 10,Lp 12 3 11 0,bw 13 12,jk 14 105 1 2 13,kd 15 3 14 13,jk 16 47 3 1 13,kd 17 3 16 13,⟨X 18,Op.binOp BinOp.neq 3 (aD 15) (aD 17) 3,(.when 13 O)⟩,nf 19 13 18]
def vr:uS:=[cj 29 105 1 3,cj 30 103 29 0,br 31 9 30,ac4 32 31,bw 33 32,vJ 34 6 33,Hx 35 34 33,vJ 36 35 33,xV 37 5 36,Ac 38 105 1 3 36,Ac 39 103 38 1 36,oO 40 9 39 36,acS 41 9 37 40 36,ac7 42 36 41 33,nf 43 33 42]
def tR:uS:=[bw 69 9,mF 70 69,bw 71 70,jk 72 105 1 1 71,kd 73 9 72 71,⟨X 74,Op.binOp BinOp.eql 9 (aD 73) (dB (Value.string {data:= #[] })) 9,(.when 71 O)⟩,vJ 75 74 71,oO 76 24 2 75,Ac 77 47 3 0 75,oO 78 9 77 75,Ac 79 105 1 1 75,oO 80 9 79 75,⟨X 81,Op.call ⟨Callee.value (Operand.func 141),#[aD 76,aD 78,aD 80],#[24,9,9]⟩,(.when 75 I)⟩,ac7 82 75 81 71,nf 83 71 82,cI 4 83]
def YS:SC:=(dz [qR 3 47 0,BU 4] (kD (dz vq (mq 19 (dz [BU 4] vW) nU)) (kD (dz [cj 21 47 3 4,br 22 45 21,cj 23 105 1 3,cj 24 103 23 0,br 25 9 24,qQ 26 140 22 25 45 9,bw 20 26,kC 27 20 0,kC 28 20 1,cI 5 27,cI 6 28] (dz vr (mq 43 (dz [BU 4] vW) nU))) (dz [cj 45 47 3 4,br 46 45 45,cj 47 105 1 5,br 48 9 47,qQ 49 140 46 48 45 9,bw 44 49,kC 50 44 0,kC 51 44 1,cI 7 50,cI 8 51] (dz [bw 52 8,cI 9 52] (kD (dz [cj 53 105 1 4,br 54 3 53] (rE 0 (dz [ng 56 54 3,cI 55 56] (mq 55 (sC [bw 57 8,mF 58 57,cI 9 58]) (dz [ng 60 54 2,cI 59 60] (mq 59 (sC [bw 61 8,mF 62 61,bw 63 62,Ac 64 105 1 6 63,oO 65 25 64 63,xV 66 7 63,R8 67 51 65 66 25 9 63,vK 68 63 67,cI 9 68]) nU)))))) (dz tR vW)))))))
def asa:aV 139 f139 YS 84 [bc 4]:=.of
def apB:hrow 139=[3]:=k_
def J5:=({y:=_}:aY f22 []).1
def J7:=({y:=_}:bQ J5 [1,1,0,1,0,0]).1
def J8:=({y:=_}:bQ J5 [1,1,1,1,0,1,0,0]).1
def as9:aV 22 f22 J5 50 [bc 4]:=.of
def Xw:hrow 22=[2,7,10]:=k_
def Po:=({y:=_}:aY f140 []).1
def JT:=({y:=_}:bQ Po [1,0,1,0,0]).1
def asb:aV 140 f140 Po 21 [bc 4,bc 5]:=.of
def ao9:hrow 140=[7]:=k_
def Z0:=({y:=_}:aY f27 []).1
def att:aV 27 f27 Z0 9 [jI 4 24]:=.of
def apy:hrow 27=[2,4]:=k_
def k68:=({y:=_}:aY f68 []).1
def auc:aV 68 f68 k68 13 [bc 5]:=.of
def k67:=({y:=_}:aY f67 []).1
def aub:aV 67 f67 k67 12 [bc 4]:=.of
def aqq:hrow 67=[2]:=k_
def Yt:be:=[0,0,2,6,6,31,63]
def Ys:=({y:=_}:aY f115 [Yt]).1
def arU:aV 115 f115 Ys 10 [bc 3]:=.of
def aoQ:hrow 115=[2]:=k_
def Pl:=({y:=_}:aY f114 []).1
def Pm:=({y:=_}:bQ Pl [1,1,0,1,0,0]).1
def arT:aV 114 f114 Pl 23 [bc 4]:=.of
def aoP:hrow 114=[7]:=k_
def Yu:=({y:=_}:aY f116 []).1
def arV:aV 116 f116 Yu 18 [bc 2,bc 3]:=.of
def aoR:hrow 116=[1]:=k_
def k7:=({y:=_}:aY Tryz.f7 []).1
def QU:=({y:=_}:bQ k7 [1,1,1,1,1,0,1,0,0,1,1,0,0,1,1,1,0,0,1,1,0,0,1,1,0,0]).1
def QV:=({y:=_}:bQ k7 [1,1,1,1,1,0,1,0,0,1,1,0,0,1,1,1,0,0]).1
def QX:=({y:=_}:bQ k7 [1,1,1,1,1,0,1,0,0]).1
def auW:aV 7 Tryz.f7 k7 57 [bc 4]:=.of
def ao4:hrow 7=[2,10,14]:=k_
def Zy:=({y:=_}:aY f21 []).1
def as7:aV 21 f21 Zy 8 [bc 3]:=.of
def aqm:hrow 21=[2]:=k_
def J9:=({y:=_}:aY f23 []).1
def Kb:=({y:=_}:bQ J9 [1,1,1,0,1,0,0,1,1,0,0,1,1,0,0]).1
def PY:=({y:=_}:bQ J9 [1,1,1,0,1,0,0]).1
def ate:aV 23 f23 J9 46 [bc 2]:=.of
def Xx:hrow 23=[1,6]:=k_
def k46:=({y:=_}:aY f46 []).1
def atL:aV 46 f46 k46 17 [bc 2]:=.of
def aoB:hrow 46=[1]:=k_
def aa5:be:=[0,0,0,6,0,0,48,126,255,511]
def Q8:=({y:=_}:aY f92 [aa5]).1
def GV:=({y:=_}:bQ Q8 [1,1,1,1,1,1,0,0,0]).1
def au8:aV 92 f92 Q8 48 [bc 4]:=.of
def apc:hrow 92=[]:=k_
def Qq:=({y:=_}:aY f45 []).1
def Qr:=({y:=_}:bQ Qq [1,1,0,1,0,0]).1
def atK:aV 45 f45 Qq 23 [bc 2]:=.of
def aqo:hrow 45=[1,5]:=k_
def k9:=({y:=_}:aY Tryz.f9 []).1
def ave:aV 9 Tryz.f9 k9 14 [bc 4]:=.of
def Xo:hrow 9=[2,3]:=k_
def ahi:eX ag 101 [(0,1),(1,1)]:=eX.of
def ahn:eX ag 148 [(0,1),(1,1),(2,1)]:=eX.of
def ahs:ri ag 210 1:=ri.of
def aA6:dZ ag 27:=jH
def aA8:eH ag 29 6:=kH
def aBb:eH ag 41 3:=kH
def adP:eH ag 105 8:=kH
def aBk:dZ ag 69:=jH
def aAQ:dZ ag 150:=jH
def aAU:eH ag 101 2:=kH
def aA1:dZ ag 142:=jH
def aA2:dZ ag 145:=jH
def aA3:dZ ag 146:=jH
def aEe:cS ag 41=X 3:=k_
def aEq:cS ag 105=X 8:=k_
def aDY:cS ag 101=X 2:=k_
def aD4:cS ag 142=X 1:=k_
def aEd:cS ag 210=X 2:=k_
def aG2:dC ag 105=X (.agg [(.bool I),(.str []),(.int .i64 (0)),(.str []),(.str []),(.int .i64 (0)),(.str []),.Ge]):=k_
def aGD:dC ag 101=X (.agg [(.int .i64 (0)),(.str [])]):=k_
def aGJ:dC ag 142=X .nilp:=k_
def aGK:dC ag 148=X (.agg [.Ge,.nilm,.nilm]):=k_
def aGQ:dC ag 210=X (.agg [(.bool I),(.bool I)]):=k_
def Wi:bj ag 29 4 4:=de
def alI:bj ag 29 5 5:=de
def alJ:bj ag 41 0 0:=de
def al6:bj ag 105 0 0:=de
def al7:bj ag 105 1 1:=de
def al8:bj ag 105 2 2:=de
def al9:bj ag 105 3 3:=de
def ama:bj ag 105 4 5:=de
def Wm:bj ag 105 5 6:=de
def amb:bj ag 105 6 7:=de
def alp:bj ag 101 0 0:=de
def alq:bj ag 101 1 1:=de
def aly:bj ag 148 0 0:=de
def alz:bj ag 148 1 1:=de
def alA:bj ag 148 2 2:=de
def OC(cs:az):zG ag 47 (.agg cs) 1=gQ ag 3 cs 1:=k_
def sF:eE ag 27 8 112 O (.agg [(.bool I),(.str []),(.int .i64 (0)),(.str []),(.str []),(.int .i64 (0)),(.str []),.Ge]):=mh
def L6:eE ag 70 1 8 I .nilf:=mh
def L4:eE ag 98 2 24 O (.agg [(.int .i64 (0)),(.str [])]):=mh
def KW(k:pb):j0 ag 145 (.str k)=X (9,44):=k_
def D2(k:pb):j0 ag 146 (.str k)=X (9,25):=k_
attribute[go_sem]ahi ahn ahs aA6 aA8 aBb adP aBk aAQ aAU aA1 aA2 aA3 aEe aEq aDY aD4 aEd aG2 aGD aGJ aGK aGQ Wi Wi alI alJ al6 al7 al8 al9 ama Wm Wm amb alp alq aly alz alA OC sF iC iC L6 L4 sF KW D2 Xl Xl apn aoL aoM aoN Xz Xz apa apz apA ap6 aoA apb apB Xw Xw ao9 apy aqq aoQ aoP aoR ao4 aqm Xx Xx aoB apc aqo Xo Xo Kw Yq QF QG Yr k66 P9 k90 ar7 Zz YQ YR ZA ZB Kr k91 YS J5 Po Z0 k68 k67 Ys Pl Yu k7 Zy J9 k46 Q8 Qq k9
end Go.Proofs.YtakkigoeiahlcaaGreat
namespace Go.Proofs.YtakkigoeiahlcaaGreat
open Tryz
open Go.Ag
attribute[go_sem]Y7 abc abd abe aba YZ aad aae aa8 aam aan aai aaj aak aal aao ZM ZN aaq aap Zd aay aav aat aau Yl ZT ZX aaC aaB aaD aaF Yt aa5
def YV:=({y:=_}:aY f142 []).1
def asf:aV 142 f142 YV 30 [bc 4,bc 5]:=.of
def ZE:=({y:=_}:aY f217 []).1
def as6:aV 217 f217 ZE 51 [bc 4,bc 5]:=.of
attribute[go_sem]YV ZE
def Qf:=({y:=_}:aY f31 []).1
def Kg:=({y:=_}:bQ Qf [1,0,1,0,0]).1
def atx:aV 31 f31 Qf 36 [bc 6]:=.of
def aoS:hrow 31=[3,4]:=k_
def aaK:be:=[0,0,3,7,15,31,0,0,192,448,960,1984,4095,0,0,24576,57344,122880,253952,516096,1048575,0,0,6291456,14680064,31457280,65011712,132120576,268435455,536870911,1073741823,2147483647,2147483647,8589934591,17179869183,34359738367,68719476735,137438953471,274877906943]
def KD:=({y:=_}:aY f70 [aaK]).1
def KF:=({y:=_}:bQ KD [1,0,1,0,0,1,0,0,1,1,0,0]).1
def QI:=({y:=_}:bQ KD [1,0,1,0,0]).1
def auf:aV 70 f70 KD 76 [bc 4]:=.of
def aql:hrow 70=[]:=k_
def Z3:be:=[0,0,3,7,15,0,0,96,224,480,1023,2047,4095,4095,16383,32767,65535,4095,4095,397311,921599,1970175,4194303,8388607,16777215,33554431,33554431,134217727,268435455,536870911,33554431,33554431,3254779903,7549747199,16139681791,34359738367,68719476735,137438953471]
def Qe:=({y:=_}:aY f30 [Z3]).1
def DH:=({y:=_}:bQ Qe [1,1,0,1,0,0]).1
def atw:aV 30 f30 Qe 55 [bc 4]:=.of
def aoX:hrow 30=[]:=k_
def alK:bj ag 41 1 1:=de
attribute[go_sem]alK sF aoS aql aoX Qf KD Qe aaK Z3
def aa2:be:=[0,0,3,7,15,0,32,127,255,511,511,2047,4095,8191,511,16895,65535,131071,262143,524287,524287,2097151,4194303,8388607,524287,17301503,67108863,134217727]
def k8:=({y:=_}:aY Tryz.f8 [aa2]).1
def DM:=({y:=_}:bQ k8 [1,0,1,0,0]).1
def au5:aV 8 Tryz.f8 k8 40 [bc 4]:=.of
def apq:hrow 8=[3]:=k_
attribute[go_sem]apq k8 aa2
def Zv:=({y:=_}:aY f200 []).1
def asV:aV 200 f200 Zv 8 [bc 2]:=.of
def aoO:hrow 200=[]:=k_
attribute[go_sem]aoO Zv
def k75:=({y:=_}:aY f75 []).1
def auU:aV 75 f75 k75 51 [jI 4 24,bc 5]:=.of
def Xr:hrow 75=[2,3,4,8,1034]:=k_
def YJ:=({y:=_}:aY f126 []).1
def ar4:aV 126 f126 YJ 6 [bc 2]:=.of
def YK:=({y:=_}:aY f127 []).1
def ar5:aV 127 f127 YK 12 [bc 4,bc 5]:=.of
def aqt:hrow 127=[2]:=k_
def YL:=({y:=_}:aY f128 []).1
def Pn:aV 128 f128 YL 8 [bc 2]:=.of
def aqu:hrow 128=[1007]:=k_
def asX:=({y:=_}:aY f202 []).1
def Zw:=({y:=_}:aY f203 []).1
def asY:aV 203 f203 Zw 6 [bc 2]:=.of
def aoY:hrow 203=[1]:=k_
def PU:=({y:=_}:aY f204 []).1
def PV:=({y:=_}:bQ PU [1,1,1,0,0,0]).1
def asZ:aV 204 f204 PU 49 [bc 6,bc 7]:=.of
def aoZ:hrow 204=[]:=k_
def Zx:=({y:=_}:aY f205 []).1
def as0:aV 205 f205 Zx 9 [bc 4]:=.of
def ao0:hrow 205=[2]:=k_
def ZV:=({y:=_}:aY f261 []).1
def aex:eE ag 294 1 24 O (.agg [.Ge]):=mh
attribute[go_sem]aex Xr Xr aqt aqu aoY aoZ ao0 k75 YJ YK YL asX Zw PU Zx ZV
end Go.Proofs.YtakkigoeiahlcaaGreat
namespace Go.Proofs.YtakkigoeiahlcaaGreat
open Tryz
open Go.Ag
def k3:=({y:=_}:aY Tryz.f3 []).1
def Ql:=({y:=_}:bQ k3 [1,1,1,1,1,1,0,1,0,0]).1
def atE:aV 3 Tryz.f3 k3 60 [bc 6]:=.of
def aoy:hrow 3=[3,4,8]:=k_
def k5:=({y:=_}:aY Tryz.f5 []).1
def at0:aV 5 Tryz.f5 k5 11 [bc 6]:=.of
def ap1:hrow 5=[3,4]:=k_
def GU:SC:=(dz [Hv 27 3 26 25] (LX 27 2 (kD (rE 3 (dz [xW 28 33 24 26,br 29 26 28,cI 16 29] (dz [bw 30 12,bw 31 16,ayB 32 30 31 26,gN 17 56,eI 56 17 32] (dz [cj 33 56 17 1,br 34 54 33,Lp 35 54 34 0] (mq 35 (sC [bw 36 10,br 37 56 17,vL 38 34 37,Ei 39 36 38 34 34,bw 40 14,bw 41 16,vL 42 33 41,Ei 43 40 42 33 33,cI 10 39,cI 14 43]) (sC [bw 44 9,bw 45 16,vL 46 33 45,Ei 47 44 46 33 33,cI 9 47])))))) (sC [BV 48 26 1,bw 26 48]))))
def KC:SC:=(rE 1 (dz [BW 10] (dz [BW 14] (kD (dz [bw 24 13,vM 25 24 33,Hw 26] (rE 2 (Ha GU))) (kD (dz [bw 49 14,vM 50 49 33,bw 51 13,vM 52 51 33,ayA 53 3 50 52] (mq 53 (.exit 0) nU)) (sC [bw 54 14,cI 13 54]))))))
def k6:SC:=(dz [qR 3 24 0,qR 4 29 1,qR 5 30 2,gN 6 24,BW 7,BW 8] (.scope (dz [BW 9] (dz [BW 10] (dz [br 18 24 3,br 19 29 4,qQ 20 15 18 19 24 29,gN 11 58,eI 58 11 20] (dz [⟨X 21,Op.makeFunc (Fn.func 16) #[] #[aD 5,aD 3,aD 4,aD 11],.aw⟩,cI 12 21] (dz [br 22 30 5,nQ 23 19 22 30,cI 13 23] (kD nU (kD (rE 0 (Ha KC)) (dz [br 55 24 3,bw 56 9,bw 57 10,eI 24 6 55,cI 7 56,cI 8 57] vW))))))))))
def aue:aV 6 Tryz.f6 k6 58 [jI 6 24,bc 7,bc 8]:=.of
def Xt:hrow 6=[6,17]:=k_
def GD:be:=[0,0,0,6,0,0,0,96,240,496,0,1024,4080,8191,16383]
abbrev asU:ns:=[bw 121 16,bw 122 17,bw 123 19,acX 124 94 122 123,bw 125 16,bw 126 17,bw 127 19,acX 128 94 126 127,xW 129 33 125 128,br 130 26 129,bw 131 18,vL 132 26 131,Ei 133 130 132 26 26,xW 134 33 121 124,eI 26 134 133]
def zS:=({y:=_}:aY f19 [GD]).1
def J2:=({y:=_}:bQ zS [1,1,1,0,1,0,0,1,1,0,0,1,1,1,0,0]).1
def PO:=({y:=_}:bQ zS [1,1,1,0,1,0,0]).1
def J3:=({y:=_}:bQ zS [1,1,1,1,0,1,0,0,1,1,0,0,1,1,0,0]).1
def PP:=({y:=_}:bQ zS [1,1,1,1,0,1,0,0]).1
def PQ:=({y:=_}:bQ zS [1,1,1,1,1,1,1,0,1,0,0]).1
def asT:aV 19 f19 zS 137 [bc 2]:=.of
def Xu:hrow 19=[5,11,1040,1120]:=k_
def Py:=({y:=_}:aY f17 []).1
def JX:=({y:=_}:bQ Py [1,1,1,0,1,0,0]).1
def asA:aV 17 f17 Py 42 [jI 4 24,bc 5,bc 6]:=.of
def aqe:hrow 17=[2,4,9,10]:=k_
def xI:=({y:=_}:aY f14 []).1
def asj:aV 14 f14 xI 26 [bc 10]:=.of
def aqw:hrow 14=[5,6]:=k_
def JV:=({y:=_}:aY f15 []).1
def Pv:=({y:=_}:bQ JV [1,1,0,1,0,0]).1
def asr:aV 15 f15 JV 22 [bc 4]:=.of
def XA:hrow 15=[2,3,7]:=k_
def Za:be:=[0,0,2,7,15]
def Gy:=({y:=_}:aY f16 [Za]).1
def Pw:=({y:=_}:bQ Gy [1,1,0,1,0,0]).1
def Px:=({y:=_}:bQ Gy [1,1,1,1,1,1,1,0,1,0,0]).1
def asu:aV 16 f16 Gy 74 [jI 6 56]:=.of
def aqx:hrow 16=[6,10,16]:=k_
def Zl:be:=[0,1,0,4,0,16,48,127,255]
def PB:=({y:=_}:aY f18 [Zl]).1
def asK:aV 18 f18 PB 11 [jI 2 63]:=.of
def aqy:hrow 18=[1,2]:=k_
def Z8:=({y:=_}:aY f38 []).1
def GK:aV 38 f38 Z8 16 [bc 2]:=.of
def aqz:hrow 38=[]:=k_
def Z9:=({y:=_}:aY f39 []).1
def atD:aV 39 f39 Z9 22 [bc 2]:=.of
def XB:hrow 39=[1]:=k_
def k40:=({y:=_}:aY f40 []).1
def atF:aV 40 f40 k40 23 []:=.of
def aqA:hrow 40=[]:=k_
def Qm:=({y:=_}:aY f41 []).1
def Kn:=({y:=_}:bQ Qm [1,1,1,1,1,1,1,1,0,1,0,0]).1
def atG:aV 41 f41 Qm 48 [bc 2]:=.of
def aqB:hrow 41=[1,1044]:=k_
def Qn:=({y:=_}:aY f42 []).1
def Ko:=({y:=_}:bQ Qn [1,0,0,0]).1
def atH:aV 42 f42 Qn 22 [bc 4]:=.of
def Z6:be:=[0,1,3,7,0,16,0,64,255]
def Kl:=({y:=_}:aY f35 [Z6]).1
def Qi:=({y:=_}:bQ Kl [1,1,1,0,1,0,0]).1
def Qj:=({y:=_}:bQ Kl [1,1,1,1,0,1,0,0]).1
def atB:aV 35 f35 Kl 44 [bc 2]:=.of
def aqC:hrow 35=[1,5,7]:=k_
def Z7:be:=[0,0,2,1,15]
def Qk:=({y:=_}:aY f36 [Z7]).1
def Km:=({y:=_}:bQ Qk [1,1,1,1,1,0,1,0,0]).1
def atC:aV 36 f36 Qk 58 [jI 4 24,bc 5]:=.of
def aqD:hrow 36=[3,4,6,7,9,10]:=k_
def Kh:=({y:=_}:aY f32 []).1
def Ki:=({y:=_}:bQ Kh [1,1,0,1,0,0,1,0,0,1,1,1,0,0]).1
def xJ:=({y:=_}:bQ Kh [1,1,0,1,0,0]).1
def aty:aV 32 f32 Kh 83 [bc 4]:=.of
def ao1:hrow 32=[6]:=k_
def Z5:be:=[0,1,0,0,12,28,60,124,255,511,1023]
def Kk:=({y:=_}:aY f34 [Z5]).1
def Qh:=({y:=_}:bQ Kk [1,1,0,1,0,0]).1
def atA:aV 34 f34 Kk 22 [jI 2 24]:=.of
def ao2:hrow 34=[2,3]:=k_
def k80:=({y:=_}:aY f80 []).1
def k81:=({y:=_}:aY f81 []).1
def KL:aV 81 f81 k81 6 [bc 2]:=.of
def ao3:hrow 81=[1]:=k_
def aaR:be:=[0,1,0,4,12,0,60,127,255,511]
def aaS:be:=[0,1,0,4,12,28,60,12,140,396,1020,2044,4092,8188,16380,32764,65532,16380,147452,409596,1048572,2097148,4194300,3,8404991,33554431]
def aaN:be:=[0,1,0,4,0,16,48,112,240,496,1008,2032,4080,8176,16368,32752,65520,3,135155,397311,921599,2097151]
def aaO:be:=[0,1,0,4,12,28,60,124,252,508,1020,2044,4092,8188,16380,32764,65532,131068,262140,524284,3,1572863,4194303]
def aaP:be:=[0,1,0,4,0,16,48,112,48,304,1008,2032,4080,3,12275,28671,61439,131071]
def aaQ:be:=[0,1,0,4,12,28,60,124,252,3,767,2047]
def aaT:uS:=[bw 126 4,bw 127 126,kd 128 51 3 127,kd 129 51 1 127,acU 130 119 128 129 51 51 127,nf 131 127 130,cI 2 131]
def k73:SC:=(dz [qR 1 51 0,BU 2] (dz [cj 5 51 1 0,br 6 3 5,cj 7 51 1 1,br 8 9 7,R3 9 51 6 1 8,gN 3 51,eI 51 3 9] (dz [cj 10 51 1 1,br 11 9 10,vL 12 25 11,nQ 13 118 12 25,cI 4 13] (kD (dz [cj 14 51 1 0,br 15 3 14] (rE 0 (dz [ng 17 15 1,cI 16 17] (mq 16 (.draw [cj 18 51 1 8,br 19 47 18,cj 20 51 1 8,br 21 47 20,nQ 22 43 21 47,cj 23 51 3 1,⟨Z,Op.store 9 (aD 23) (dB (Value.string {data:= #[] })),.aw⟩,cj 24 51 3 8,eI 47 24 19,cI 4 22] aaR) (dz [ng 26 15 2,cI 25 26] (mq 25 (.draw [cj 27 51 1 4,br 28 44 27,bw 29 4,bw 30 29,jk 31 51 1 4 30,jk 32 44 31 0 30,kd 33 3 32 30,jk 34 51 1 4 30,jk 35 44 34 1 30,kd 36 3 35 30,⟨X 37,Op.call ⟨Callee.builtin Builtin.min,#[aD 33,aD 36],#[3,3]⟩,(.when 30 O)⟩,⟨X 38,Op.binOp BinOp.geq 3 (aD 37) (dB (gB ic 0)) 3,(.when 30 O)⟩,nf 39 30 38,bw 40 39,jk 41 51 1 4 40,jk 42 44 41 0 40,kd 43 3 42 40,jk 44 51 1 4 40,jk 45 44 44 1 40,kd 46 3 45 40,aHl 47 43 46 40,ayK 48 47 1048576 40,nf 49 40 48,cj 50 51 3 4,eI 44 50 28,cI 4 49] aaS) (dz [ng 52 15 3,cI 51 52] (mq 51 (.draw [cj 53 51 1 5,br 54 9 53,cj 55 51 1 6,br 56 9 55,bw 57 4,bw 58 57,jk 59 51 1 5 58,kd 60 9 59 58,⟨X 61,Fg 25 1 #[(0,aD 60)],(.when 58 O)⟩,R7 62 118 61 25 58,nf 63 58 62,bw 64 63,jk 65 51 1 6 64,kd 66 9 65 64,aHq 67 66 9 64,aHv 68 67 200 64,nf 69 64 68,cj 70 51 3 5,eI 9 70 54,cj 71 51 3 6,eI 9 71 56,cI 4 69] aaN) (dz [ng 73 15 4,cI 72 73] (mq 72 (.draw [cj 74 51 1 7,br 75 25 74,bw 76 4,bw 77 76,jk 78 51 1 7 77,kd 79 25 78 77,aHq 80 79 25 77,Sa 81 80 77,nf 82 77 81,bw 83 82,jk 84 51 1 7 83,kd 85 25 84 83,aHq 86 85 25 83,aHv 87 86 2000 83,nf 88 83 87,bw 89 88,jk 90 51 1 7 89,kd 91 25 90 89,R7 92 118 91 25 89,nf 93 89 92,cj 94 51 3 7,eI 25 94 75,cI 4 93] aaO) (dz [ng 96 15 5,cI 95 96] (mq 95 nU (dz [ng 98 15 6,cI 97 98] (mq 97 (.draw [cj 99 51 1 3,br 100 9 99,cj 101 51 1 2,br 102 9 101,bw 103 4,bw 104 103,jk 105 51 1 3 104,kd 106 9 105 104,jk 107 51 1 2 104,kd 108 9 107 104,⟨X 109,Fg 25 2 #[(0,aD 106),(1,aD 108)],(.when 104 O)⟩,R7 110 118 109 25 104,nf 111 104 110,cj 112 51 3 3,eI 9 112 100,cj 113 51 3 2,eI 9 113 102,cI 4 111] aaP) (dz [ng 115 15 7,cI 114 115] (mq 114 (.draw [cj 116 51 1 2,br 117 9 116,bw 118 4,bw 119 118,jk 120 51 1 2 119,kd 121 9 120 119,⟨X 122,Fg 25 1 #[(0,aD 121)],(.when 119 O)⟩,R7 123 118 122 25 119,nf 124 119 123,cj 125 51 3 2,eI 9 125 117,cI 4 124] aaQ) (dz [BU 2] vW))))))))))))))))) (dz aaT vW)))))
def KJ:aV 73 f73 k73 132 [bc 2]:=.of
def ao5:hrow 73=[1,3]:=k_
def QY:=({y:=_}:aY f82 []).1
def QZ:=({y:=_}:bQ QY [1,0,0]).1
def auY:aV 82 f82 QY 14 []:=.of
def ao6:hrow 82=[]:=k_
def QK:=({y:=_}:aY f72 []).1
def KI:=({y:=_}:bQ QK [1,0,1,0,0]).1
def auh:aV 72 f72 QK 37 [bc 4]:=.of
def ao7:hrow 72=[3]:=k_
def QL:be:=[0,1,3,7,0,16,48,127,255,511,511,1023,4095]
def QO:be:=[0,1,3,0,0,16,56,127,255]
def QP:be:=[0,1,3,7,0,16,63,127,255,255,511,2047]
def QQ:be:=[0,1,3,7,0,16,63,127,255,255,511,2047]
def QM:be:=[0,1,0,0,12,31,63]
abbrev auj:ns:=[qR 3 51 1,gN 4 156]
abbrev auk:ns:=[cj 17 51 3 0,br 18 3 17,ng 19 18 1]
abbrev auv:ns:=[bw 21 0,t7 22 21,cj 23 85 22 1,br 24 83 23,cj 25 51 3 8,cj 26 47 25 0,br 27 9 26,Ad 28 83 24 27,bw 20 28,kC 29 20 0,kC 30 20 1,cI 5 29,cI 6 30]
abbrev auG:ns:=[bw 31 6]
abbrev auO:ns:=[Hy 32 9,eI 156 4 32]
abbrev auP:ns:=[cj 33 51 3 8,br 34 47 33,vL 35 22 34,bw 36 0,cj 37 51 3 8,br 38 47 37,qQ 39 72 36 38 79 47,R3 40 156 35 2 39,eI 156 4 40]
abbrev auQ:ns:=[bw 42 0,t7 43 42,cj 44 85 43 1,br 45 83 44,cj 46 51 3 1,br 47 9 46,Ad 48 83 45 47,bw 41 48,kC 49 41 0,kC 50 41 1,cI 7 49,cI 8 50]
abbrev auR:ns:=[bw 52 0,t7 53 52,cj 54 85 53 1,br 55 83 54,cj 56 51 3 2,br 57 9 56,Ad 58 83 55 57,bw 51 58,kC 59 51 0,kC 60 51 1,cI 9 59,cI 10 60]
abbrev auS:ns:=[bw 61 8,mF 62 61,bw 63 62,Ac 64 51 3 0 63,oO 65 3 64 63,ayI 66 65 7 63,xV 67 66 63,vJ 68 10 67,Hx 69 68 67,R6 70 67 69 63,vK 71 63 70]
abbrev auT:ns:=[Hy 72 11,eI 156 4 72]
abbrev aul:ns:=[bw 73 0,cj 74 51 3 1,br 75 9 74,qQ 76 120 73 75 79 9,gN 11 47,eI 47 11 76]
abbrev aum:ns:=[R4 77 217,R1 78 1,Lk 2 78,⟨X 79,Fg 26 3 #[(0,dB (gB ic 2)),(1,dB (gB ic 3)),(2,dB (gB ic 4))],.aw⟩,Lk 4 79,R1 80 2,Lk 6 80,R1 81 2,Lk 7 81,bw 82 77,cI 12 82]
abbrev aun:ns:=[bw 84 12,cj 85 51 3 0,br 86 3 85,Ad 87 217 84 86,bw 83 87,kC 88 83 0,kC 89 83 1,cI 13 88,cI 14 89]
abbrev auo:ns:=[bw 90 14,bw 91 90,vJ 92 13 91,jk 93 47 11 1 91,kd 94 3 93 91,acU 95 121 92 94 26 3 91,Hx 96 95 91,nf 97 91 96]
abbrev aup:ns:=[Hy 98 13,eI 156 4 98]
abbrev auq:ns:=[cj 99 51 3 0,br 100 3 99]
abbrev aur:ns:=[ng 102 100 2,cI 101 102]
abbrev aus:ns:=[cj 103 51 3 4,br 104 44 103,cj 105 47 11 2,eI 44 105 104]
abbrev aut:ns:=[ng 107 100 3,cI 106 107]
abbrev auu:ns:=[cj 109 47 11 4,br 110 45 109,cj 111 51 3 5,br 112 9 111,cj 113 51 3 6,br 114 9 113,Ll 115 122 110 112 114 45 9 9,bw 108 115,kC 116 108 0,kC 117 108 1,cI 15 116,cI 16 117]
abbrev auw:ns:=[bw 118 15,cj 119 47 11 4,eI 45 119 118]
abbrev aux:ns:=[bw 120 16,Lp 121 54 120 0]
abbrev auy:ns:=[bw 122 16,R9 123 156 2 122,eI 156 4 123]
abbrev auz:ns:=[ng 125 100 4,cI 124 125]
abbrev auA:ns:=[cj 126 51 3 7,br 127 25 126,cj 128 47 11 3,eI 25 128 127]
abbrev auB:ns:=[br 129 47 11,nQ 130 43 129 47,mF 131 130]
abbrev auC:ns:=[Hy 132 1,eI 156 4 132]
abbrev auD:ns:=[br 133 47 11,vL 134 22 133,bw 135 0,br 136 47 11,qQ 137 72 135 136 79 47,R3 138 156 134 2 137,eI 156 4 138]
abbrev auE:ns:=[ng 140 100 5,cI 139 140]
abbrev auF:ns:=[bw 141 0,cj 142 51 3 1,br 143 9 142,vL 144 25 143,sOa 145 (Op.call ⟨Callee.value (Operand.func 123),#[aD 141,dB (Value.bool I),aD 144],#[79,4,25]⟩)]
abbrev auH:ns:=[Hy 146 14,eI 156 4 146]
abbrev auI:ns:=[cj 147 51 3 1,br 148 9 147,R9 149 156 1 148,eI 156 4 149]
abbrev auJ:ns:=[ng 151 100 6,cI 150 151]
abbrev auK:ns:=[bw 152 0,br 153 51 3,br 154 47 11,Ll 155 124 152 153 154 79 51 47,eI 156 4 155]
abbrev auL:ns:=[ng 157 100 7,cI 156 157]
abbrev auM:ns:=[bw 158 0,br 159 51 3,br 160 47 11,Ll 161 125 158 159 160 79 51 47,eI 156 4 161]
abbrev auN:ns:=[br 162 47 11,vL 163 22 162,R9 164 156 0 163,eI 156 4 164]
def k74:=({y:=_}:aY f74 [QL,QO,QP,QQ,QM]).1
def KK:aV 74 f74 k74 165 [jI 4 156]:=.of
def Xm:hrow 74=[3,4,11]:=k_
def k76:=({y:=_}:aY f76 []).1
def auV:aV 76 f76 k76 30 [jI 4 24,bc 5]:=.of
def ao8:hrow 76=[2,4]:=k_
def aaL:be:=[0,1,0,7,15,31,63,0,128,0,896,1920,3968,8064,16383,32767]
def KG:=({y:=_}:aY f71 [aaL]).1
def KH:=({y:=_}:bQ KG [1,1,0,1,0,0]).1
def QJ:=({y:=_}:bQ KG [1,1,1,0,1,0,0]).1
def aug:aV 71 f71 KG 61 [bc 4]:=.of
def apo:hrow 71=[2]:=k_
def YO:=({y:=_}:aY f133 []).1
def Yw:=({y:=_}:aY f118 []).1
def arX:aV 118 f118 Yw 6 [bc 2]:=.of
def Yx:=({y:=_}:aY f119 []).1
def JS:aV 119 f119 Yx 61 [bc 4]:=.of
def apr:hrow 119=[2,3]:=k_
def Yv:=({y:=_}:aY f117 []).1
def arW:aV 117 f117 Yv 15 [bc 4]:=.of
def Yz:be:=[0,1,3,7,15,0,32,96,224,0,992,2047,4095,8191]
def Yy:=({y:=_}:aY f120 [Yz]).1
def arY:aV 120 f120 Yy 18 [jI 4 47]:=.of
def aps:hrow 120=[4]:=k_
def YA:=({y:=_}:aY f121 []).1
def arZ:aV 121 f121 YA 9 [bc 4]:=.of
def YB:=({y:=_}:aY f122 []).1
def ar0:aV 122 f122 YB 69 [bc 6,bc 7]:=.of
def apt:hrow 122=[1066]:=k_
def YC:=({y:=_}:aY f123 []).1
def ar1:aV 123 f123 YC 14 [bc 6]:=.of
def apu:hrow 123=[]:=k_
def YE:be:=[0,1,3,7,0,16,63,127,255,255,511,2047]
def YF:be:=[0,1,0,4,0,28,60,0,128,511,0,2047]
def YD:=({y:=_}:aY f124 [YE,YF]).1
def ar2:aV 124 f124 YD 60 [jI 6 156]:=.of
def Xp:hrow 124=[4,5,6,10]:=k_
def YI:be:=[0,1,0,4,15,31,63,127,63,319,831,1855,4095,8191,63,16447,49215,114751,262143,524287,1048575]
def YH:be:=[0,1,0,4,12,31,63,127,255]
def YG:=({y:=_}:aY f125 [YI,YH]).1
def ar3:aV 125 f125 YG 72 [jI 6 156]:=.of
def apv:hrow 125=[4,5,6,7]:=k_
def YN:be:=[0,0,3,0,0,24,63,127]
def YM:=({y:=_}:aY f130 [YN]).1
def ar6:aV 130 f130 YM 33 [bc 6]:=.of
def apw:hrow 130=[]:=k_
def Zh:=({y:=_}:aY f185 []).1
def asH:aV 185 f185 Zh 6 [bc 2]:=.of
def PL:=({y:=_}:aY f189 []).1
def J0:=({y:=_}:bQ PL [1,0,1,0,0]).1
def asJ:aV 189 f189 PL 19 [bc 4]:=.of
def apV:hrow 189=[]:=k_
def PM:=({y:=_}:aY f190 []).1
def J1:=({y:=_}:bQ PM [1,1,1,0,0,0]).1
def asM:aV 190 f190 PM 49 [bc 6,bc 7]:=.of
def apW:hrow 190=[]:=k_
def Zm:=({y:=_}:aY f191 []).1
def asN:aV 191 f191 Zm 9 [bc 4]:=.of
def apX:hrow 191=[2]:=k_
def Zo:=({y:=_}:aY f193 []).1
def PN:aV 193 f193 Zo 8 [bc 2]:=.of
def apY:hrow 193=[1007]:=k_
def Zq:be:=[0,0,3,0,0,24,63,127]
def Zp:=({y:=_}:aY f194 [Zq]).1
def asP:aV 194 f194 Zp 33 [bc 6]:=.of
def apZ:hrow 194=[]:=k_
def asQ:=({y:=_}:aY f196 []).1
def Zr:=({y:=_}:aY f197 []).1
def asR:aV 197 f197 Zr 18 [bc 4]:=.of
def ap0:hrow 197=[3]:=k_
def Zs:=({y:=_}:aY f198 []).1
def asS:aV 198 f198 Zs 7 [bc 3]:=.of
def Zt:=({y:=_}:aY f199 []).1
def Zu:aV 199 f199 Zt 27 [bc 4]:=.of
def ap2:hrow 199=[]:=k_
def J4:=({y:=_}:aY f201 []).1
def PS:=({y:=_}:bQ J4 [1,1,0,1,0,0]).1
def PT:=({y:=_}:bQ J4 [1,1,1,1,0,1,0,0]).1
def asW:aV 201 f201 J4 36 [bc 2]:=.of
def ap3:hrow 201=[]:=k_
def ZU:=({y:=_}:aY f260 []).1
def atm:aV 260 f260 ZU 27 [bc 4]:=.of
def Xv:hrow 260=[]:=k_
def ahz:eX ag 56 [(0,1),(1,1),(2,1)]:=kT
def ahA:eX ag 51 [(0,1),(1,1),(2,1),(3,1),(4,2),(6,1),(7,1),(8,1),(9,6)]:=kT
def ahf:eX ag 63 [(0,1),(1,1),(2,1)]:=kT
def ahg:eX ag 90 [(0,1),(1,1)]:=kT
def ahh:eX ag 85 [(0,1),(1,1)]:=kT
def ahp:eX ag 156 [(0,1),(1,1),(2,1)]:=kT
def ahw:ri ag 284 1:=ri.of
def aBg:dZ ag 54:=dZ.of
def aBh:dZ ag 30:=dZ.of
def aBi:eH ag 56 3:=kH
def adO:eH ag 51 15:=kH
def aAR:dZ ag 58:=dZ.of
def aAS:eH ag 63 3:=kH
def aA4:eH ag 156 3:=kH
def aEn:cS ag 56=X 3:=k_
def aEo:cS ag 51=X 15:=k_
def aDW:cS ag 58=X 1:=k_
def aDX:cS ag 63=X 3:=k_
def aD7:cS ag 156=X 3:=k_
def afA:dC ag 26=X .Ge:=k_
def aGY:dC ag 56=X (.agg [.Ge,(.int .i64 (0)),.Ge]):=k_
def aGZ:dC ag 51=X (.agg [(.int .i64 (0)),(.str []),(.str []),(.str []),(.int .i64 (0)),(.int .i64 (0)),(.str []),(.str []),.Ge,(.str []),(.int .i64 (0)),(.int .i64 (0)),(.int .i64 (0)),.Ge,.Ge]):=k_
def aGz:dC ag 58=X .nilm:=k_
def aGA:dC ag 63=X (.agg [(.str []),(.int .i64 (0)),(.str [])]):=k_
def aGB:dC ag 90=X (.agg [.Ge,.nilm]):=k_
def aGC:dC ag 85=X (.agg [.Ge,.nilm]):=k_
def aGM:dC ag 156=X (.agg [.Ge,(.str []),(.int .i64 (0))]):=k_
def aGU:dC ag 284=X (.agg [(.str []),(.str []),(.str []),(.str [])]):=k_
def alV:bj ag 56 1 1:=de
def alW:bj ag 51 0 0:=de
def alX:bj ag 51 1 1:=de
def alY:bj ag 51 2 2:=de
def alZ:bj ag 51 3 3:=de
def al0:bj ag 51 4 4:=de
def Wl:bj ag 51 5 6:=de
def al1:bj ag 51 6 7:=de
def al2:bj ag 51 7 8:=de
def al3:bj ag 51 8 9:=de
def alj:bj ag 90 0 0:=de
def alk:bj ag 90 1 1:=de
def alm:bj ag 85 0 0:=de
def alo:bj ag 85 1 1:=de
def Wg:bj ag 156 0 0:=de
def alC:bj ag 156 1 1:=de
def alD:bj ag 156 2 2:=de
def nk:eE ag 30 15 216 O (.agg [(.int .i64 (0)),(.str []),(.str []),(.str []),(.int .i64 (0)),(.int .i64 (0)),(.str []),(.str []),.Ge,(.str []),(.int .i64 (0)),(.int .i64 (0)),(.int .i64 (0)),.Ge,.Ge]):=eE.of
def aey:eE ag 34 3 56 O (.agg [.Ge,(.int .i64 (0)),.Ge]):=eE.of
attribute[go_sem]ahz ahA ahf ahg ahh ahp ahw aBg aBh aBi adO aAR aAS aA4 aEn aEo aDW aDX aD7 afA aGY aGZ aGz aGA aGB aGC aGM aGU alV alW alX alY alZ al0 Wl Wl al1 al2 al3 alj alk alm alo Wg Wg alC alD nk yf aey aoy ap1 Xt Xt Xu Xu aqe aqw XA XA aqx aqy aqz XB XB aqA aqB aqC aqD ao1 ao2 ao3 ao5 ao6 ao7 Xm Xm ao8 apo apr aps apt apu Xp Xp apv apw apV apW apX apY apZ ap0 ap2 ap3 Xv Xv k3 k5 k6 zS Py xI JV Gy PB Z8 Z9 k40 Qm Qn Kl Qk Kh Kk k80 k81 k73 QY QK k74 k76 KG YO Yw Yx Yv Yy YA YB YC YD YG YM Zh PL PM Zm Zo Zp asQ Zr Zs Zt J4 ZU Za Zl Z6 Z7 Z5 aaR aaS aaN aaO aaP aaQ QL QO QP QQ QM aaL Yz YE YF YI YH YN Zq
end Go.Proofs.YtakkigoeiahlcaaGreat
set_option linter.defProp false
namespace Go.Proofs.YtakkigoeiahlcaaGreat
open Tryz
open Go.Ag
attribute[go_sem]afR afS afT DC ae5 xO qF ajj aiR aiS
def Obj.AL.all{o:Obj}(h:o.AL):(o.refsV.gt=O/\o.tagsV.gt=O)/\o.refsV.cells=[o.refsV]/\o.tagsV.cells=[o.tagsV]:=⟨⟨h.gT.gt,h.uP.gt⟩,h.gT.scal,h.uP.scal⟩
set_option linter.defProp false in
def sB:=(⟨@th.eq_1,@dL.eq_1,@dL.eq_2,@fD.eq_1,@fD.eq_2,@chunk.eq_1,@chunk.eq_3,@evc.eq_1⟩:_/\_/\_/\_/\_/\_/\_/\_)
variable{n:Nat}{s:St}{o:aH}
theorem cQ(h:n<s.aL):(s.new o).get [] n=s.get [] n:=by
 rw[ei,bN.2 (by omega:n≠s.aL)];rfl
def cr:(s.new o).get [] s.aL=X o:=by rw[ei,bS];rfl
def oL(o:aH)(h:s.gE<=s.aL):∃z,s.new o=z/\z.aL=s.aL+1/\z.gE<=z.aL/\(∀k,k<s.aL->z.get [] k=s.get [] k)/\z.get [] s.aL=X o:=⟨_,rfl,rfl,co h,λ_ d=>cQ d,cr⟩
def vE(o p:aH)(h:s.gE<=s.aL):∃z,(s.new o).new p=z/\z.aL=s.aL+2/\z.gE<=z.aL/\(∀k,k<s.aL->z.get [] k=s.get [] k)/\z.get [] s.aL=X o/\z.get [] (s.aL+1)=X p:=⟨_,rfl,rfl,co (co h),λ_ d=>(cQ (Nat.lt_succ_of_lt d)).trans (cQ d),(cQ (Nat.lt_succ_self s.aL)).trans cr,cr⟩
def zr(o p:aH)(h:s.gE<=s.aL):∃z,(s.new o).put s.aL (X p)=z/\z.aL=s.aL+1/\z.gE<=z.aL/\(∀k,k<s.aL->z.get [] k=s.get [] k)/\z.get [] s.aL=X p:=⟨_,rfl,rfl,cG _ _ _ (co h),λk d=>by rw[aO,bN.2 (Nat.ne_of_lt d)];exact cQ d,by rw[aO,bS];rfl⟩
abbrev Pt:=Int×Int
abbrev bF:=Pt×Pt
def gl(a b c:Pt):Int:=(b.1-a.1)*(c.2-a.2)-(b.2-a.2)*(c.1-a.1)
def fH(a b c:Pt):Int:=jO (gl a b c) 0
def jD(s:bF):bF:=bif aR 0 (im s.1 s.2)then(s.2,s.1)else s
def vH(s:bF)(p:Pt):Bool:=aj (fH (jD s).1 (jD s).2 p) 0&&(bT (im (jD s).1 p) 0&&(bT (im p (jD s).2) 0&&(!g9 (jD s).1 (jD s).2||g9 p (jD s).1)))
def vA(s t:bF):Pt:=bif aR 0 (im t.1 s.1)then t.1 else s.1
def vm(s t:bF):Pt:=bif aR (im t.2 s.2) 0 then t.2 else s.2
def BT(s t:bF):Int:=bif g9 s.1 s.2 then bif vH t s.1 then bif g9 s.1 t.1||g9 s.1 t.2 then 1 else 2 else 0
 else bif aj (im (vA s t) (vm s t)) (-1)then 5 else bif aj (im (vA s t) (vm s t)) 0 then 1 else 0
def Ht(s t:bF):Int:=bif g9 t.1 t.2 then BT t s else BT s t
def Av(s t:bF):Bool:=g9 s.1 t.1&&g9 s.2 t.2
def Jd(s t:bF):Int:=
 bif aR 0 (fH s.1 s.2 t.1*fH s.1 s.2 t.2)||aR 0 (fH t.1 t.2 s.1*fH t.1 t.2 s.2)then 0
 else bif aR (fH s.1 s.2 t.1*fH s.1 s.2 t.2) 0&&aR (fH t.1 t.2 s.1*fH t.1 t.2 s.2) 0 then 3
 else bif aj (fH s.1 s.2 t.1*fH s.1 s.2 t.2) 0&&aj (fH t.1 t.2 s.1*fH t.1 t.2 s.2) 0 then 1 else 2
def xU(s t:bF):Bool:=g9 s.1 s.2||g9 t.1 t.2||(aj (fH s.1 s.2 t.1) 0&&aj (fH s.1 s.2 t.2) 0)
def BH(s t:bF):Int:=bif Av s t then 4 else bif xU s t then Ht s t else Jd s t
def li(s t:bF):Int:=BH (jD s) (jD t)
def gH(a b:Pt):Prop:=a.1<b.1\/(a.1=b.1/\a.2<=b.2)
theorem Bk(a b:Pt):(im a b= -1/\gH a b/\a≠b)\/(im a b=0/\a=b)\/(im a b=1/\gH b a/\a≠b):=by
 grind [im,xe,jO,aR,aj,gH]
variable{a b:Pt}
theorem HJ:g9 a b=O↔a=b:=by
 grind [g9,aj]
def abq(a b:Pt):gH a b\/gH b a:=by
 simp only[gH];omega
theorem abp(h:gH a b)(k:gH b a):a=b:=by
 grind [gH]
def aeI(s:bF):gH (jD s).1 (jD s).2:=by
 unfold jD;rcases Bk s.1 s.2 with⟨h,k,_⟩|⟨h,k⟩|⟨h,k,_⟩<;>rw[h]
 exact k;show gH s.1 s.2;rw[k];simp[gH];exact k
theorem aeH(s:bF):(jD s=s)\/(jD s=(s.2,s.1)):=by
 grind [jD]
theorem aq4:bT (im a b) 0=O↔gH a b:=by
 grind [Bk,bT,gH]
theorem C9(a:Int):(jO a 0= -1/\a<0)\/(jO a 0=0/\a=0)\/(jO a 0=1/\0<a):=by
 grind [jO,aR]
def boxes(s t:bF):Prop:=(min s.1.1 s.2.1<=max t.1.1 t.2.1/\min t.1.1 t.2.1<=max s.1.1 s.2.1)/\(min s.1.2 s.2.2<=max t.1.2 t.2.2/\min t.1.2 t.2.2<=max s.1.2 s.2.2)
theorem u9{D p q c d a b:Int}(C:0<D)(j:0<=p)(g:p<=D)(f:0<=q)(e:q<=D)(h:D*c+p*(d-c)=D*a+q*(b-a)):min c d<=max a b:=by
 by_cases hc:min c d<=max a b;exact hc;exfalso;have B:max a b+1<=c:=w_
 have A:max a b+1<=d:=w_
 have z:a<=max a b:=w_
 have u:b<=max a b:=w_
 generalize max a b=M at*;have K:=MF B (show 0<=D-p from w_);have H:=MF A j;have F:=MF z (show 0<=D-q from w_);have E:=MF u f
 grind
variable{p:Pt}
theorem O8(h1:gH a p)(q:gH p b)(h:gl a b p=0):(a.1<=p.1/\p.1<=b.1)/\(min a.2 b.2<=p.2/\p.2<=max a.2 b.2):=by
 have f:a.1<=p.1/\p.1<=b.1:=by
  simp only[gH]at*;omega
 refine⟨f,?_⟩;by_cases e:a.1=b.1;simp only[gH]at*;omega;have d:(b.1-a.1)*p.2+0*(p.2-p.2)=(b.1-a.1)*a.2+(p.1-a.1)*(b.2-a.2):=by
  simp only[gl]at h;grind
 have j:=u9 (show 0<b.1-a.1 from w_) (Int.le_refl 0) w_ w_ w_ d;have g:=u9 (show 0<b.1-a.1 from w_) (show 0<=p.1-a.1 from w_) w_ (Int.le_refl 0) w_ d.symm;omega
variable{c:Pt}
theorem VO{d:Pt}(f:a≠b)(h1:gl a b c=0)(j:gl a b d=0):gl c d a=0/\gl c d b=0:=by
 let⟨a1,a2⟩:=a
 let⟨b1,b2⟩:=b
 let⟨c1,c2⟩:=c
 let⟨d1,d2⟩:=d
 simp only[gl,ne_eq,bk]at*;by_cases hx:b1-a1=0;have g:b2-a2≠0:=w_
 grind [Int.mul_eq_zero]
 have e:(b1-a1)*((c1-a1)*(d2-a2)-(c2-a2)*(d1-a1))=0:=by grind
 grind [Int.mul_eq_zero]
theorem akk{d:Pt}(K:¬(gl a b c=0/\gl a b d=0))(h1:¬0<fH a b c*fH a b d)(q:¬0<fH c d a*fH c d b):boxes (a,b) (c,d):=by
 let⟨a1,a2⟩:=a
 let⟨b1,b2⟩:=b
 let⟨c1,c2⟩:=c
 let⟨d1,d2⟩:=d
 have F:gl (a1,a2) (b1,b2) (d1,d2)-gl (a1,a2) (b1,b2) (c1,c2)=gl (c1,c2) (d1,d2) (a1,a2)-gl (c1,c2) (d1,d2) (b1,b2):=by
  simp only[gl];grind
 have B:(gl (a1,a2) (b1,b2) (d1,d2)-gl (a1,a2) (b1,b2) (c1,c2))*c1+(-gl (a1,a2) (b1,b2) (c1,c2))*(d1-c1)=(gl (a1,a2) (b1,b2) (d1,d2)-gl (a1,a2) (b1,b2) (c1,c2))*a1+gl (c1,c2) (d1,d2) (a1,a2)*(b1-a1):=by
  simp only[gl];grind
 have A:(gl (a1,a2) (b1,b2) (d1,d2)-gl (a1,a2) (b1,b2) (c1,c2))*c2+(-gl (a1,a2) (b1,b2) (c1,c2))*(d2-c2)=(gl (a1,a2) (b1,b2) (d1,d2)-gl (a1,a2) (b1,b2) (c1,c2))*a2+gl (c1,c2) (d1,d2) (a1,a2)*(b2-a2):=by
  simp only[gl];grind
 simp only[fH]at h1 q;generalize gl (a1,a2) (b1,b2) (c1,c2)=m1 at*;generalize gl (a1,a2) (b1,b2) (d1,d2)=m2 at*;generalize gl (c1,c2) (d1,d2) (a1,a2)=l1 at*;generalize gl (c1,c2) (d1,d2) (b1,b2)=l2 at*;have E:(m1<=0/\0<=m2)\/(m2<=0/\0<=m1):=by
  rcases C9 m1 with⟨e,k⟩|⟨e,k⟩|⟨e,k⟩<;>rcases C9 m2 with⟨f,g⟩|⟨f,g⟩|⟨f,g⟩<;>rw[e,f]at h1<;>first|omega|(exfalso;exact h1 d_)
 have D:(l1<=0/\0<=l2)\/(l2<=0/\0<=l1):=by
  rcases C9 l1 with⟨e,k⟩|⟨e,k⟩|⟨e,k⟩<;>rcases C9 l2 with⟨f,g⟩|⟨f,g⟩|⟨f,g⟩<;>rw[e,f]at q<;>first|omega|(exfalso;exact q d_)
 have C:m2-m1≠0:=w_
 rcases Int.lt_or_gt_of_ne C with H|j
 have z:(-(m2-m1))*c1+m1*(d1-c1)=(-(m2-m1))*a1+(-l1)*(b1-a1):=by grind
 have u:(-(m2-m1))*c2+m1*(d2-c2)=(-(m2-m1))*a2+(-l1)*(b2-a2):=by grind
 exact⟨⟨u9 w_ w_ w_ w_ w_ z.symm,u9 w_ w_ w_ w_ w_ z⟩,u9 w_ w_ w_ w_ w_ u.symm,u9 w_ w_ w_ w_ w_ u⟩;exact⟨⟨u9 j w_ w_ w_ w_ B.symm,u9 j w_ w_ w_ w_ B⟩,u9 j w_ w_ w_ w_ A.symm,u9 j w_ w_ w_ w_ A⟩
theorem Lu:aj (fH a b c) 0=O↔gl a b c=0:=by
 grind [fH,C9,aj]
variable{s t:bF}
theorem NG(h:boxes s t):boxes t s:=⟨h.1.symm,h.2.symm⟩
def Sl(h:(s.1.1<=p.1/\p.1<=s.2.1)/\(min s.1.2 s.2.2<=p.2/\p.2<=max s.1.2 s.2.2))(d:p=t.1):boxes s t:=by
 subst d;simp only[boxes];omega
def ayq(d:gH s.1 s.2)(h:vH s p=O):(s.1.1<=p.1/\p.1<=s.2.1)/\(min s.1.2 s.2.2<=p.2/\p.2<=max s.1.2 s.2.2):=by
 have e:jD s=s:=by
  unfold jD;rcases Bk s.1 s.2 with⟨h,_⟩|⟨h,_⟩|⟨h,k,n⟩<;>rw[h]
  rfl;rfl;exact absurd (abp d k) n
 simp only[vH,e,bg,Lu,aq4]at h;exact O8 h.2.1 h.2.2.1 h.1
def awG(q:gH s.1 s.2)(j:gH t.1 t.2)(h:gH (vA s t) (vm s t)):(gH s.1 t.1/\gH t.1 s.2)\/(gH t.1 s.1/\gH s.1 t.2):=by
 let⟨⟨a1,a2⟩,b1,b2⟩:=s
 let⟨⟨c1,c2⟩,d1,d2⟩:=t
 simp only[vA,vm]at h;rcases Bk (c1,c2) (a1,a2)with⟨e,g,_⟩|⟨e,g⟩|⟨e,g,_⟩<;>rcases Bk (d1,d2) (b1,b2)with⟨d,f,_⟩|⟨d,f⟩|⟨d,f,_⟩<;>rw[e,d]at h<;>
  simp only[aR,gH,bk]at* <;>simp at h<;>omega
theorem awU(q:gH s.1 s.2)(d:gH t.1 t.2)(h:BH s t≠0):boxes s t:=by
 unfold BH at h;cases h1:Av s t;rw[h1]at h;simp only[cF]at h;have A:∀{s t:bF},gH s.1 s.2->gH t.1 t.2->g9 s.1 s.2=O->BT s t≠0->boxes s t:=by
  intro s t q d f h;unfold BT at h;rw[f]at h;cases ho:vH t s.1;rw[ho]at h;exact absurd rfl h;exact NG (Sl (ayq d ho) rfl)
 cases h2:xU s t
 grind [xU,Jd,aR,akk,Lu]
 rw[h2]at h;simp only[cT,Ht]at h;cases f:g9 t.1 t.2;rw[f]at h;simp only[cF]at h;cases hd2:g9 s.1 s.2;unfold BT at h;rw[hd2]at h;simp only[xU,f,hd2,Bool.false_or,bg,Lu]at h2;have u:s.1≠s.2:=λe=>by rw[HJ.2 e]at hd2;cases hd2
 have B:=VO u h2.1 h2.2;have z:gH (vA s t) (vm s t):=by
  rcases Bk (vA s t) (vm s t)with⟨e,k,_⟩|⟨e,k⟩|⟨e,k,_⟩
  exact k;rw[k];simp[gH];rw[e]at h;exact absurd rfl h
 rcases awG q d z with⟨j,g⟩|⟨j,g⟩
 exact Sl (O8 j g h2.1) rfl;exact NG (Sl (O8 j g B.1) rfl);exact A q d hd2 h
 grind [NG]
 grind [Av,HJ,boxes]
theorem awX(h:li s t≠0):boxes s t:=by
 have d:=awU (aeI s) (aeI t) h
 grind [aeH,boxes]
theorem zA(h:gH a b)(n:a≠b):im a b= -1/\im b a=1:=by
 grind [Bk,abp]
theorem awF:vA s t=vA t s:=by
 unfold vA;by_cases h:s.1=t.1;rw[h];rcases abq s.1 t.1 with k|k
 rw[(zA k h).1,(zA k h).2];rfl;rw[(zA k (Ne.symm h)).1,(zA k (Ne.symm h)).2];rfl
theorem aow:vm s t=vm t s:=by
 unfold vm;by_cases h:s.2=t.2;rw[h];rcases abq s.2 t.2 with k|k
 rw[(zA k h).1,(zA k h).2];rfl;rw[(zA k (Ne.symm h)).1,(zA k (Ne.symm h)).2];rfl
theorem ayr(h:s.1=s.2)(d:p≠s.1):vH s p=I:=by
 grind [jD,HJ,vH]
theorem ayp(h1:g9 s.1 s.2=I)(d:g9 t.1 t.2=I):xU s t=xU t s:=by
 grind [HJ,xU,Lu,VO]
theorem awV(s t:bF):BH s t=BH t s:=by
 grind [BH,Av,xU,Ht,HJ,BT,ayr,ayp,awF,aow,Jd]
def awT(s t:bF):li s t=li t s:=awV _ _
theorem RZ:∀(l:ba)(last:ae),lQ last l=O->∀q∈l,jt q.uP=O
 |[],_,_,q,h=>by cases h
 |o::r,last,h,q,e=>by
  simp only[lQ]at h;cases hb: !dY o||Ag.leBytes o.id last
  rw[hb]at h;rcases dD.1 e with rfl|e
  have d:dY q=O:=by
   cases d:dY q;rw[d]at hb;cases hb;rfl
  unfold dY at d;cases hh:lK q;unfold lK at hh;simp only[wz,E7]at hh;exact hh.1.1.2;rw[hh]at d;cases d;exact RZ r o.id h q e;rw[hb]at h;cases h
def not_le{a b:ae}(h:gi a b=O):Ag.leBytes b a=I:=by
 rw[Rl]at h;simpa using h
def axX{q:Obj}:dY q=O↔lK q=I/\rm q.Al [] [] q.gT=I/\(bif aj q.Al 1 then(J q.gT==0)&&Ab q.x q.y else bif aj q.Al 5 then(J q.gT==3)&&Ie q else Ie q)=O:=by
 unfold dY;cases lK q;cases rm q.Al [] [] q.gT<;>simp;simp
def sm:∀(l:ba)(last:ae),lQ last l=O->∀q∈l,dY q=O
 |[],_,_,q,h=>by cases h
 |o::r,last,h,q,d=>by
  simp only[lQ]at h;cases hb:(!dY o||Ag.leBytes o.id last);rw[hb]at h;rcases dD.1 d with rfl|d
  simp only[wz,E7]at hb;exact hb.1;exact sm r o.id h q d;rw[hb]at h;cases h
def La:∀(l:ba)(last:ae),(∀q∈l,dY q=O)->(∀k∈l.map (·.id),gi last k=O)->(l.map (·.id)).Pairwise (λa b=>gi a b=O)->lQ last l=O
 |[],_,_,_,_=>rfl
 |o::r,last,h,h1,h2=>by
  rw[List.map_cons,List.pairwise_cons]at h2;have e:(!dY o||Ag.leBytes o.id last)=I:=by
   rw[h o (by simp),not_le (h1 o.id (by simp))];rfl
  simp only[lQ,e,cF];exact La r o.id (λq d=>h q (by simp[d])) h2.1 h2.2
theorem ou:∀(a b:ae),cK a b<0↔gi a b=O
 |[],[]=>by simp[cK,Go.Proofs.bytesLess_eq]
 |[],y::b=>by rw[Go.Proofs.bytesLess_eq,dE];simp[cK]
 |x::a,[]=>by rw[Go.Proofs.bytesLess_eq,dE];simp[cK]
 |x::a,y::b=>by
  have d:=ou a b
  grind [Go.Proofs.bytesLess_eq,List.cons_lt_cons_iff,UInt8.lt_iff_toNat_lt,UInt8.toNat_inj,cK,qL]
theorem avT{a b:ae}(h:gi a b=O):gi b a=I:=by
 grind [Go.Proofs.bytesLess_eq]
theorem ajI(a b:ae):gG b a= -gG a b:=by
 grind [gG,avT]
theorem VG{a b:ae}(h:gG a b=0):a=b:=by
 grind [gG,Go.Proofs.bytesLess_eq]
theorem aqW(a:Int):aj (-a) 0=aj a 0:=by
 grind [oH]
theorem Db:∀a b:cf,fk b a= -fk a b
 |[],[]=>rfl
 |[],_::_=>rfl
 |_::_,[]=>rfl
 |a::x,b::y=>by
  simp only[fk,ajI a b,aqW,Db x y];cases aj (gG a b) 0<;>rfl
theorem Ob:∀{a b:cf},fk a b=0->a=b
 |[],[],_=>rfl
 |[],_::_,h=>by simp[fk]at h
 |_::_,[],h=>by simp[fk]at h
 |a::x,b::y,h=>by
  simp only[fk]at h;by_cases hz:gG a b=0;rw[hz]at h;rw[VG hz,Ob (a:=x) (b:=y) (by simpa[aj]using h)]
  grind [oH]
def gM(k:ae):wf->N_
 |[]=>Z
 |t::l=>bif t.1==k then X t.2 else gM k l
def D0(a b:ae):ae:=bif Ag.leBytes a b then a else b
def DX(a b:ae):ae:=bif gi a b then b else a
def fS(a b:ae):ae×ae:=(D0 a b,DX a b)
def m7(m:ba)(r:ae):Int:=match cD r m with|some q=>q.Al|none=>0
def dH(m:ba)(r:ae):Bool:=aj (m7 m r) 1
def eV(m:ba)(r:ae):Pt:=match cD r m with|some q=>(q.x,q.y)|none=>(0,0)
def mI(o:Obj):e_:=(o.gT.zip (o.gT.tail++(bif aj o.Al 3 then o.gT.take 1 else []))).map λp=>fS p.1 p.2
def BE(m:ba)(o:Obj):Bool:=(aj o.Al 2||aj o.Al 3)&&o.gT.all (dH m)
def kA(m:ba)(o:Obj):e_:=bif BE m o then mI o else []
def oQ(m:ba)(k:y_):bF:=(eV m k.1,eV m k.2)
def vP{α:Type}:List α->List (α×α)
 |[]=>[]
 |a::l=>l.map (λb=>(a,b))++vP l
def iL(p:y_):cf:=bif p.1==p.2 then [p.1]else [p.1,p.2]
def bO(p:Pt):Bool:= !aR 2097152 (max p.1 p.2)&&!aR (min p.1 p.2) (-2097152)
abbrev oa:=List Pt
def oP(r:oa):Bool:=decide (3<=J r)&&(decide (J r<=2000)&&r.all bO)
abbrev wj:=List bF
def fU(r:oa):wj:=r.zip (r.tail++r.take 1)
def fg(r:oa)(i:Nat):bF:=((r[i]?).getD (0,0),(r[(i+1) % J r]?).getD (0,0))
def m9(r:oa)(i k:Nat):Bool:=bif(i-k==1||i-k==J r-1)then aj (li (fg r i) (fg r k)) 1 else aj (li (fg r i) (fg r k)) 0
def jR(r:oa):Bool:=oP r&&((ii (J r)).all λi=>(ii i).all λk=>m9 r i k)
def wq(a b c:Pt):Int:=(b.1-a.1)*(c.2-b.2)-(b.2-a.2)*(c.1-b.1)
def rD(a n b:Int):Bool:=decide (min a b<=n)&&decide (n<=max a b)
def BS(s:bF)(p:Pt):Bool:=aj (wq s.1 s.2 p) 0&&(rD s.1.1 p.1 s.2.1&&rD s.1.2 p.2 s.2.2)
def wx(s:bF)(p:Pt):Int:=bif bT s.1.2 p.2&&(aR p.2 s.2.2&&aR 0 (wq s.1 s.2 p))then 1 else bif aR p.2 s.1.2&&(bT s.2.2 p.2&&aR (wq s.1 s.2 p) 0)then-1 else 0
def zW(p:Pt):wj->Int->Int
 |[],w=>bif aj w 0 then-1 else 1
 |s::l,w=>bif BS s p then 0 else zW p l (w+wx s p)
def qG(r:oa)(p:Pt):Int:=zW p (fU r) 0
def sE(r:oa)(p:Pt):Int:=bif jR r&&bO p then qG r p else-1
def oz(r:oa):oa:=r.map λp=>(2*p.1,2*p.2)
def Bl(r s:oa)(v:Int):Nat:=((fU r).filter λx=>aj (qG (oz s) (x.1.1+x.2.1,x.1.2+x.2.2)) v).length
def nV(a b:bF):Bool:=aj (li a b) 2||(aj (li a b) 3||aj (li a b) 5)
def pM(r s:oa):Int:=
 bif !(jR r&&jR s)then 0 else
 bif(fU r).any (λa=>(fU s).any λb=>nV a b)then 0 else
 bif(decide (0<Bl r s 1)&&decide (0<Bl r s (-1)))||(decide (0<Bl s r 1)&&decide (0<Bl s r (-1)))then 0 else
 bif decide (0<Bl r s 1)then 2 else
 bif decide (0<Bl s r 1)then 3 else
 bif decide (0<Bl r s (-1))then 1 else 4
def Ak(m:ba)(o:Obj):Option oa:=bif aj o.Al 3&&o.gT.all (dH m)then X (o.gT.map (eV m))else Z
def t8(m:ba)(o:Obj):Option oa:=(Ak m o).bind λr=>bif jR r then X r else Z
def vR(m:ba)(id:ae):Option oa:=(cD id m).bind (t8 m)
def jU(m:ba)(r:ae):Option cf:=(cD r m).bind λq=>bif aj q.Al 2&&q.gT.all (dH m)then X q.gT else Z
def uq(m:ba)(o:Obj):Bool:=((ii (J o.gT)).zip o.gT).all λp=>bif aj o.Al 5&&p.1==1 then dH m p.2 else(jU m p.2).isSome
def Bm(l:cf):ae×ae:=(l.headD [],l.getLastD [])
def Ck(d:ae×ae×Bool×Bool)(e:y_):ae×ae×Bool×Bool:=
 (e.1,e.2,((d.2.2.1&&d.1==e.2)||(d.2.2.2&&d.2.1==e.2)),((d.2.2.1&&d.1==e.1)||(d.2.2.2&&d.2.1==e.1)))
def FM(m:ba)(o:Obj):Bool:=match o.gT.map λr=>Bm ((jU m r).getD [])with
 |[]=>O
 |e::l=>(l.foldl Ck (e.1,e.2,O,O)).2.2.1||(l.foldl Ck (e.1,e.2,O,O)).2.2.2
def H4(m:ba)(o:Obj):Bool:=((jU m (o.gT.getD 0 [])).getD []).contains (o.gT.getD 1 [])&&((jU m (o.gT.getD 2 [])).getD []).contains (o.gT.getD 1 [])
def ki(k:Int)(i:Nat):Int:=bif aj k 4||(aj k 5&&!(i==1))then 2 else 1
def LH(m:ba)(o:Obj):Bool:=((ii (J o.gT)).zip o.gT).all λp=>aj (m7 m p.2) (ki o.Al p.1)
structure aW where
 strict:Bool
 area:ae
 Al:Int
 ifK:ae
 ifV:ae
 op:Int
 key:ae
 valuesV:aa
 values:cf
def tQ(s:ae):Bool:= !(s== [])&&decide (J s<=200)
def Ew(x:aW):Bool:=
 bif !(x.area== [])&&!eA x.area then I else bif aR x.Al 0 then I else bif aR 5 x.Al then I else bif !eA x.key then I else
 bif !((x.ifK== [])&&(x.ifV== []))&&!(eA x.ifK&&tQ x.ifV)then I else
 bif !(aj x.op 2)&&(!(aj x.op 1)&&!(aj x.op 3))then I else bif !(aj x.op 2==decide (0<J x.values))then I else bif decide (60<J x.values)then I else
 x.values.all tQ
abbrev vy:=List aW
def nT(l:vy):Bool:=decide (J l<=200)&&l.all Ew
def vu(x:aW)(o:Obj):Bool:=bif aj x.op 3 then(gM x.key o.uP).isNone else bif aj x.op 2 then(match gM x.key o.uP with|some v=>x.values.contains v|none=>O)else(gM x.key o.uP).isSome
def Oi(x:aW)(o:Obj):Bool:=(aj x.Al 0||aj x.Al o.Al)&&((x.ifK== [])||gM x.ifK o.uP==X x.ifV)
def Aq:ae:=[118,105,101,119]
def afo(o:Obj):N_:=(gM Aq o.uP).bind λs=>bif eA s then X s else Z
def zQ(name:ae)(o:Obj):Bool:=match afo o with|some s=>s==name|none=>O
def jb(m:ba)(name:ae):ba:=m.filter (zQ name)
def ph:cf->cf->Bool
 |[],[]=>I
 |[],_::_=>O
 |_::_,[]=>I
 |a::x,b::y=>bif a==b then ph x y else gi a b
def ajK(a:ae):gG a a=0:=by unfold gG;rw[abx];rfl
def ajH(a b:ae):aR (gG a b) 0=gi a b:=by
 unfold gG;cases gi a b;cases gi b a<;>rfl;rfl
def NC:∀a b:cf,ph a b=aR (fk a b) 0
 |[],[]=>rfl
 |[],_::_=>rfl
 |_::_,[]=>rfl
 |a::x,b::y=>by
  simp only[ph,fk];by_cases h:a=b;subst h;rw[bS,ajK];exact NC x y;have d:gG a b≠0:=λe=>h (VG e);rw[bN.2 h,oH d];exact(ajH a b).symm
def tJ(a b:cf):Bool:= !ph a b&&!ph b a
def aj0(a:cf):fk a a=0:=by have:=Db a a;omega
def aqK(a b:cf):tJ a b=aj (fk a b) 0:=by
 unfold tJ;rw[NC,NC,Db a b];unfold aR;rcases Int.lt_trichotomy (fk a b) 0 with h|h|h
 rw[dQ h,oH w_];rfl;rw[h];rfl;rw[dN (show¬fk a b<0 from w_),dQ (show-fk a b<0 from w_),oH w_];rfl
variable{s:St}
def bU.isL{sz lo:Nat}{ov:aa}{α:Type}{enc:α->aa}{l:List α}(h:bU sz lo s ov (l.map enc)):au sz enc ov l:=by
 rcases h with⟨e,d⟩|⟨_,k,d,_⟩
 exact .inl ⟨e,List.map_eq_nil_iff.1 d⟩;exact .inr ⟨_,d⟩
def uX(u:aa):Option cf:=bif bn u then ff 1 iV u else Z
variable{l:cf}{v:aa}
def CT(h:au 1 aw v l)(d:bn v=O):uX v=X l:=by
 simp only[uX,d,cT,oI oo h]
def IT{u:aa}(h:uX u=X l):au 1 aw u l/\bn u=O:=by
 unfold uX at h;obtain⟨d,h⟩:=aZ h;exact⟨ku (λv a=>pg) h,d⟩
def cm(h:n<4611686018427387904):IntKind.i64.wrap ((n:Int)+1)=((n+1:Nat):Int):=by rw[kj w_ w_];omega
def rF(P:Program)(mk:aI)(d:z_)(mu:Bool)(x y:Int)(s:St):fZ P mk .max d mu [ah x,ah y] s=X (ah (max x y),s):=by
 have:(bif aR x y then y else x)=max x y:=by
  unfold aR;by_cases h:x<y;simp[h];omega;simp[h];omega
 simp[fZ,tT,this]
def tf(P:Program)(mk:aI)(d:z_)(mu:Bool)(x y:Int)(s:St):fZ P mk .min d mu [ah x,ah y] s=X (ah (min x y),s):=by
 have:(bif aR y x then y else x)=min x y:=by
  unfold aR;by_cases h:y<x;simp[h];omega;simp[h];omega
 simp[fZ,tT,this]
def U9(P:Program)(mk:aI)(d:z_)(mu:Bool)(x y:ae)(s:St):fZ P mk .max d mu [.str x,.str y] s=X (.str (DX x y),s):=rfl
def U7(P:Program)(mk:aI)(d:z_)(mu:Bool)(x y:ae)(s:St):fZ P mk .min d mu [.str x,.str y] s=X (.str (D0 x y),s):=rfl
def adw(a b c d:Int):cP ag .eql 44 (.agg [ah a,ah b]) (.agg [ah c,ah d])=X (.bool (g9 (a,b) (c,d))):=Lz a b c d
def aAh(a b c d:Int):cP ag .neq 44 (.agg [ah a,ah b]) (.agg [ah c,ah d])=X (.bool (!g9 (a,b) (c,d))):=by
 have h:=adw a b c d;rw[Nj]at h;rw[agP];generalize xd ag 44 (.agg [ah a,ah b]) (.agg [ah c,ah d])=x at*;generalize g9 (a,b) (c,d)=y at*;rcases x with _|x
 cases h;injection h with h;injection h with h
 subst h;rfl
def aCJ(a b c d e f g h:Int):cP ag .eql 186 (.agg [ah a,ah b,ah c,ah d]) (.agg [ah e,ah f,ah g,ah h])=X (.bool (Av ((a,b),(c,d)) ((e,f),(g,h)))):=by
 have k:xd ag 186 (.agg [ah a,ah b,ah c,ah d]) (.agg [ah e,ah f,ah g,ah h])=
  ((X (aj a e)).bind λr=>bif r then(X (aj b f)).bind λr=>bif r then X O else X I else X I).bind λr=>bif r then((X (aj c g)).bind λr=>bif r then(X (aj d h)).bind λr=>bif r then X O else X I else X I).bind λr=>bif r then X O else X I else X I:=k_
 rw[Nj,k];simp only[Av,g9];cases aj a e<;>cases aj b f<;>cases aj c g<;>cases aj d h<;>rfl
def bV(s:bF):aa:=.agg [ah s.1.1,ah s.1.2,ah s.2.1,ah s.2.2]
def CR:aa->Option bF
 |.agg [.int .i64 a,.int .i64 b,.int .i64 c,.int .i64 d]=>X ((a,b),(c,d))
 |_=>Z
def Nv{p:bF}(h:CR v=X p):v=bV p:=by
 unfold CR at h;split at h;cases h;rfl;cases h
def UR(s:bF):CR (bV s)=X s:=rfl
def aCA(s:bF):bn (bV s)=O:=rfl
def KZ(h:bO p=O):(-2097152<=p.1/\p.1<=2097152)/\(-2097152<=p.2/\p.2<=2097152):=by
 simp only[bO,aR,bg,Bool.not_eq_true',decide_eq_false_iff_not]at h;omega
def HI(p q:Pt):cP ag .eql 44 (.agg [ah p.1,ah p.2]) (.agg [ah q.1,ah q.2])=X (.bool (g9 p q)):=adw ..
def aAi(p q:Pt):cP ag .neq 44 (.agg [ah p.1,ah p.2]) (.agg [ah q.1,ah q.2])=X (.bool (!g9 p q)):=aAh ..
def aCK(s t:bF):cP ag .eql 186 (.agg [ah s.1.1,ah s.1.2,ah s.2.1,ah s.2.2]) (.agg [ah t.1.1,ah t.1.2,ah t.2.1,ah t.2.2])=X (.bool (Av s t)):=aCJ ..
def Ly(p q:Pt):Af [.agg [ah p.1,ah p.2],.agg [ah q.1,ah q.2]]=X (ah (im p q)):=rfl
def Va(a b:Int):pm [ah a,ah b]=X (ah (jO a b)):=rfl
theorem S6{s:bF}(h1:bO s.1=O)(d:bO s.2=O):bO (jD s).1=O/\bO (jD s).2=O:=by
 grind [aeH]
variable{x y:Int}
def EV(e: -4194304<=x/\x<=4194304)(d: -4194304<=y/\y<=4194304):IntKind.i64.wrap (x-y)=x-y:=kj w_ w_
def D4(e: -8388608<=x/\x<=8388608)(d: -8388608<=y/\y<=8388608): -70368744177664<=x*y/\x*y<=70368744177664:=by
 have f:(x*y).natAbs<=8388608*8388608:=by
  rw[Int.natAbs_mul];exact Nat.mul_le_mul w_ w_
 omega
def Hh(e: -8388608<=x/\x<=8388608)(d: -8388608<=y/\y<=8388608):IntKind.i64.wrap (x*y)=x*y:=by
 have:=D4 e d;exact kj w_ w_
def EY(p:Pt):Bool:=decide (-4194304<=p.1)&&decide (p.1<=4194304)&&decide (-4194304<=p.2)&&decide (p.2<=4194304)
def afl(h:EY p=O):(-4194304<=p.1/\p.1<=4194304)/\(-4194304<=p.2/\p.2<=4194304):=by
 simp only[EY,bg,dE]at h;omega
variable{l:oa}
section
variable{Q:ay}[Std Q]
def axq(A:au 2 aX v l)(M:J l<=1000000){K:hP}(E:∀e lc,l.all bO=O->K (.exit 0) ⟨e,26,lc⟩ s)(F:∀e lc,l.all bO=I->ac e 2=.bool I->K .ret ⟨e,26,lc⟩ s):
 ∀(r d:oa)(e:ax)(lc:Ag.Loc),l=d++r->l.all bO=r.all bO->ac e 5=v->ac e 6=an (J l)->ac e 7=an (J d)->W Q 153 (.loop Pu) ⟨e,26,lc⟩ s K:=by
 have H:=A.gt;intro r
 induction r with
 |nil=>
  intro d e lc g f B z u;have q:=(cL g).symm;refine aF ?_;simp only[go_sem,seval,Pu,z,u,q,bJ];exact E _ _ f
 |cons p r C=>
  intro d e lc g f B z u
  let⟨hlt,ha1⟩:=cR g
  have D:=λlc=>A.at nj.2.2.1 ha1 lc .i64;have j:=cm (n:=J d) w_;rw[List.all_cons]at f;refine aF ?_;cases e1:aR 2097152 (max p.1 p.2)<;>cases e2:aR (min p.1 p.2) (-2097152)<;>simp only[bO,e1,e2,Bool.not_true,Bool.not_false,Bool.and_false,Bool.false_and,Bool.true_and]at f<;>simp only[go_sem,seval,Pu,B,z,u,H,D,hlt,aX,rF,tf,e1,e2,j];exact C (d++[p]) _ _ (db g) f (by simp only[sG,seval, *]) (by simp only[sG,seval, *]) (by simp only[sN,seval,sA])
  all_goals exact F _ _ f (by simp only[sN,seval])
def axr(g:No Q 153)(f:au 2 aX v l)(z:J l<=1000000)(s:St):ai Q 153 [v] s (.bool (l.all bO)) s:=by
 have B:=f.gt;have j:=λq s=>f.lenS nj q s;refine ai.ofNZ asn (aM ?_);simp only[go_sem,seval,B,j];refine axq f z ?_ ?_ l [] _ _ rfl rfl (by simp only[sG,seval, *]) (by simp only[sG,seval, *]) (by simp only[sN,seval];rfl);intro e u d;simp only[go_sem,seval,d];intro e u d A;simp only[go_sem,seval,A,d]
def RT(d:No Q 153)(e:J l<=4)(h:l.all bO=O)(s:St):ai Q 153 [.list 2 (l.map aX) .GT] s (.bool O) s:=h▸axr d (.inr ⟨.GT,rfl⟩) (Nat.le_trans e d_) s
def ae4(d:No Q 230)(j:bO a=O)(g:bO b=O)(s:St):ai Q 230 [aX a,aX b] s (aX (b.1-a.1,b.2-a.2)) s:=by
 have u:=KZ j;have q:=KZ g;have f:=EV (x:=b.1) (y:=a.1) w_ w_;have e:=EV (x:=b.2) (y:=a.2) w_ w_;refine ai.ofV Ka.1 Ka.2 Ka.3 Ka.4 (aM ?_);simp only[go_sem,seval,aX,f,e,sB]
def akl(d:No Q 231)(q:EY a=O)(j:EY b=O)(s:St):ai Q 231 [aX a,aX b] s (bu (a.1*b.2-a.2*b.1)) s:=by
 have B:=afl q;have A:=afl j;have z:=D4 (x:=a.1) (y:=b.2) w_ w_;have u:=D4 (x:=a.2) (y:=b.1) w_ w_;have g:=Hh (x:=a.1) (y:=b.2) w_ w_;have f:=Hh (x:=a.2) (y:=b.1) w_ w_;have e:IntKind.i64.wrap (a.1*b.2-a.2*b.1)=a.1*b.2-a.2*b.1:=kj w_ w_;refine ai.ofNZ ata (aM ?_);simp only[go_sem,seval,aX,bu,CZ,g,f,e]
def afm(e:bO a=O)(d:bO b=O):EY (b.1-a.1,b.2-a.2)=O:=by
 have g:=KZ e;have f:=KZ d;simp only[EY,bg,dE];omega
def azv(z:No Q 155)(f:No Q 153)(d:No Q 230)(e:No Q 231)(j:Q.spec 107=X pm)(g:bO a=O)(u:bO b=O)(q:bO c=O)(s:St):ai Q 155 [aX a,aX b,aX c] s (bu (fH a b c)) s:=by
 refine ai.ofNZ aso (aM ?_);simp only[go_sem,seval,aX,sB];refine aU.of (RT f (l:=[a,b,c]) (show 3<=4 from d_) (by simp only[List.all,g,u,q];rfl) s) d_ ?_;simp only[go_sem,seval,aX];refine aU.of (ae4 d g u s) d_ ?_;simp only[go_sem,seval,aX];refine aU.of (ae4 d g q s) d_ ?_;simp only[go_sem,seval,aX];refine aU.of (akl e (afm g u) (afm g q) s) d_ ?_;simp only[go_sem,seval,bu,j,Va];rfl
def S7(e:No Q 154)(d:Q.spec 229=X Af)(t:bF)(s:St):ai Q 154 [bV t] s (bV (jD t)) s:=by
 refine ai.ofV JW.1 JW.2 JW.3 JW.4 (aM ?_);unfold jD;cases e1:aR 0 (im t.1 t.2)<;>simp only[go_sem,seval,bV,d,Ly,e1]
end
def Ae:Sp
 |[u,v,w]=>(nF u).bind λa=>(nF v).bind λb=>(nF w).bind λc=>bif bO a&&(bO b&&bO c)then X (bu (fH a b c))else Z
 |_=>Z
def HC(f:bO a=O)(e:bO b=O)(d:bO c=O):Ae [aX a,aX b,aX c]=X (bu (fH a b c)):=by
 simp only[aac,Ae,FA,f,e,d]
def azu:cW ag 155 Ae:=by
 refine mL Us λd u h=>?_;unfold Ae at h;split at h;simp only[ak]at h
 let⟨a,h1,b,h2,c,h4,h⟩:=h
 let⟨h3,h⟩:=aZ h
 simp only[bg]at h3;cases h;rw[rq h1,rq h2,rq h4];exact⟨rfl,_,s0,azv R_ R_ R_ R_ rfl h3.1 h3.2.1 h3.2.2 s0,rfl,1,rfl⟩;cases h
section
variable{Q:ay}[Std Q]
def acQ(j:No Q 232)(f:No Q 153)(e:No Q 154)(g:Q.spec 155=X Ae)(d:Q.spec 229=X Af)(h1:bO t.1=O)(A:bO t.2=O)(z:bO p=O)(s:St):ai Q 232 [bV t,aX p] s (.bool (vH t p)) s:=by
 have u:=S6 h1 A;have q:=HC u.1 u.2 z;refine ai.ofNZ atb (aM ?_);simp only[go_sem,seval,bV,aX,sB];refine aU.of (RT f (l:=[t.1,t.2,p]) (show 3<=4 from d_) (by simp only[List.all,h1,A,z];rfl) s) d_ ?_;simp only[go_sem,seval,bV];refine aU.of (S7 e d t s) d_ ?_;unfold vH;generalize jD t=S at*;simp only[aX,bu]at q;cases e1:aj (fH S.1 S.2 p) 0<;>cases e2:bT (im S.1 p) 0<;>cases e3:bT (im p S.2) 0<;>cases e4:g9 S.1 S.2<;>simp only[go_sem,seval,bV,g,q,d,Ly,HI,aAi,e1,e2,e3,e4]
def ayw(q:No Q 156)(e:No Q 232)(g:No Q 153)(f:No Q 154)(j:Q.spec 155=X Ae)(d:Q.spec 229=X Af){u v:bF}(z:bO u.1=O)(n2:bO u.2=O)(n3:bO v.1=O)(A:bO v.2=O)(B:s.gE<=s.aL):ai Q 156 [bV u,bV v] s (bu (Ht u v)) s:=by
 refine ai.ofNZ asq (aM ?_);unfold Ht BT vA vm;cases x0:g9 v.1 v.2<;>cases x1:g9 u.1 u.2<;>simp only[go_sem,seval,bV,HI,x0,x1,B,d,Ly];cases y1:aR 0 (im v.1 u.1)<;>cases y2:aR (im v.2 u.2) 0<;>simp only[go_sem,seval,d,Ly,y1,y2,bu];cases z1:aj (im u.1 u.2) (-1)<;>cases z2:aj (im u.1 u.2) 0<;>simp only[go_sem,seval,z1,z2];cases z1:aj (im u.1 v.2) (-1)<;>cases z2:aj (im u.1 v.2) 0<;>simp only[go_sem,seval,z1,z2];cases z1:aj (im v.1 u.2) (-1)<;>cases z2:aj (im v.1 u.2) 0<;>simp only[go_sem,seval,z1,z2];cases z1:aj (im v.1 v.2) (-1)<;>cases z2:aj (im v.1 v.2) 0<;>simp only[go_sem,seval,z1,z2];refine aU.of (acQ e g f j d n3 A z s) d_ ?_;cases vH v u.1<;>cases x3:g9 u.1 v.1<;>cases x4:g9 u.1 v.2<;>simp only[go_sem,seval,HI,x3,x4,bu]
 all_goals
  refine aU.of (acQ e g f j d z n2 n3 s) d_ ?_;cases vH u v.1<;>cases x3:g9 v.1 u.1<;>cases x4:g9 v.1 u.2<;>simp only[go_sem,seval,HI,x3,x4,bu]
def adg(a b c:Pt):fH a b c= -1\/fH a b c=0\/fH a b c=1:=by
 unfold fH;rcases C9 (gl a b c)with⟨e,_⟩|⟨e,_⟩|⟨e,_⟩<;>rw[e]<;>simp
def adf(a b c d e f:Pt):IntKind.i64.wrap (fH a b c*fH d e f)=fH a b c*fH d e f:=by
 rcases adg a b c with h|h|h<;>rcases adg d e f with k|k|k<;>rw[h,k]<;>rfl
def tri(n:Int):(aR 0 n=O/\aR n 0=I/\aj n 0=I)\/(aR 0 n=I/\aR n 0=O/\aj n 0=I)\/aR 0 n=I/\aR n 0=I/\aj n 0=O:=by
 rcases Int.lt_trichotomy n 0 with h|h|h<;>simp[aR,aj]<;>omega
set_option maxRecDepth 8000 in
set_option maxHeartbeats 2000000 in
def awY(V:No Q 99)(B:No Q 156)(A:No Q 232)(g:No Q 153)(e:No Q 154)(d:Q.spec 155=X Ae)(f:Q.spec 229=X Af){u v:bF}(n1:bO u.1=O)(n2:bO u.2=O)(n3:bO v.1=O)(n4:bO v.2=O)(z:s.gE<=s.aL):ai Q 99 [bV u,bV v] s (bu (li u v)) s:=by
 have q:=S6 n1 n2;have j:=S6 n3 n4;refine ai.ofNZ avd (aM ?_);simp only[go_sem,seval,bV,sB];refine aU.of (RT g (l:=[u.1,u.2,v.1,v.2]) (show 4<=4 from d_) (by simp only[List.all,n1,n2,n3,n4];rfl) s) d_ ?_;simp only[go_sem,seval,z];refine jx.quiet (S7 e f u s.top) d_ (by rfl) ?_;simp only[go_sem,seval,z,bV];refine jx.quiet (S7 e f v s.top) d_ (by rfl) ?_;unfold li;generalize jD u=S at*;generalize jD v=T at*;have D:=HC q.1 q.2 j.1;have C:=HC q.1 q.2 j.2;have F:=HC j.1 j.2 q.1;have E:=HC j.1 j.2 q.2;have w1:=adf S.1 S.2 T.1 S.1 S.2 T.2;have Y:=adf T.1 T.2 S.1 T.1 T.2 S.2;have t1:=tri (fH S.1 S.2 T.1*fH S.1 S.2 T.2);have t2:=tri (fH T.1 T.2 S.1*fH T.1 T.2 S.2);simp only[aX,bu]at D C F E;cases x0:Av S T<;>cases x1:g9 S.1 S.2<;>cases x2:g9 T.1 T.2<;>simp only[go_sem,seval,z,bV,aCK,HI,d,D,C,x0,x1,x2,BH,xU,bu]
 case' false.false.false=>cases x3:aj (fH S.1 S.2 T.1) 0<;>cases x4:aj (fH S.1 S.2 T.2) 0<;>simp only[go_sem,seval,z,d,D,C,F,E,CZ,w1,Y,x3,x4]
 all_goals first
  |refine aU.of (ayw B A g e d f q.1 q.2 j.1 j.2 z) d_ ?_
   simp only[go_sem,seval,bu]
  |rcases t1 with⟨U,N,K⟩|⟨U,N,K⟩|⟨U,N,K⟩<;>rcases t2 with⟨P,M,H⟩|⟨P,M,H⟩|⟨P,M,H⟩<;>simp only[go_sem,seval,z,d,D,C,F,E,CZ,w1,Y,Jd,U,P,N,M,K,H]
end
def kQ:Sp
 |[u,v]=>(CR u).bind λa=>(CR v).bind λb=>bif bO a.1&&(bO a.2&&(bO b.1&&bO b.2))then X (bu (li a b))else Z
 |_=>Z
def Rz{a b:bF}(e:bO a.1=O)(n2:bO a.2=O)(n3:bO b.1=O)(d:bO b.2=O):kQ [bV a,bV b]=X (bu (li a b)):=by
 simp only[aac,kQ,UR,e,n2,n3,d]
def TG5:dy:=[(155,Ae),(229,Af)]
def RA:cW ag 99 kQ:=by
 refine mL (T:=TG5) (.cons azu (.cons aAg .nil)) λd u h=>?_;unfold kQ at h;split at h;simp only[ak]at h
 let⟨a,h1,b,h2,h⟩:=h
 let⟨h3,h⟩:=aZ h
 simp only[bg]at h3;cases h;rw[Nv h1,Nv h2];exact⟨rfl,_,s0,awY R_ R_ R_ R_ R_ rfl rfl h3.1 h3.2.1 h3.2.2.1 h3.2.2.2 (Nat.le_refl _),rfl,1,rfl⟩;cases h
end Go.Proofs.YtakkigoeiahlcaaGreat
namespace Go.Proofs.YtakkigoeiahlcaaGreat
open Tryz
open Go.Ag
open Go.Sort (putRow grow Holds SWO HoldsK putRowK flatK get_flatK size_flatK)
noncomputable def F8(G:Gh)(h:aB aH):Gh:= {at_:=λ_=>Z,ro:=λb o=>(nH G h b o).bind (Br h),dim:=λ_=>Z }
variable{G:Gh}{h:aB aH}
theorem W4{b o:Nat}{u d:aa}(e:nH G h b o=X u)(f:fF h u d):(F8 G h).ro b o=X d:=by
 show(nH G h b o).bind (Br h)=_;rw[e];exact WD f
variable{w:World}
theorem aiM(wr:WR G h w){b o:Nat}{u:aa}(e:nH G h b o=X u):b<w.heap.size/\u.scal=O/\∃x,w.cell? ⟨b,o,Z⟩=X x/\VR G u x:=by
 rcases I5 e with e|⟨n,a,cs,i,f,d,rfl,rfl,g⟩
 let⟨f,x,d,h3⟩:=wr.ro b o u e
 exact⟨World.block_lt_of_cell? w ⟨b,o,Z⟩ d,f,x,d,h3⟩
 let⟨a',g1,g2,C,t,g3,g4,g5⟩:=wr.obj n _ f
 grind [kw]
theorem aF4{W:World}(wr:WR G h w){d:Nat}(g:∀b o u,nH G h b o=X u->b≠d)(j:∀b,b<w.heap.size->b≠d->W.heap[b]?=w.heap[b]?):WR (F8 G h) .nil W:=by
 refine⟨λ_ _ e=>(by cases e),λ_ _ _ _ e=>absurd rfl e,λb o v e=>?_,λ_ _ _ _ _ e=>(by cases e),λ_ _ e=>(by cases e),λ_ _ e=>(by cases e)⟩;simp only[F8,ak]at e
 let⟨u,e1,e2⟩:=e
 let⟨h1,h2,x,h3,h4⟩:=aiM wr e1
 have f:=WE e2
 let⟨k,hk⟩:=f
 grind [JB,World.cell?_of_block,thaw,W4]
variable{α:Type}
theorem aDn[Inhabited α](enc:α->gy)(k:Nat)(w:World)(d off m:Nat)(f:Array α)(os:Array Go.Obj)(b:Nat)(g:b<w.heap.size)(e:b≠d):(sortWorldK enc k w d off m f os).heap[b]?=w.heap[b]? :=by
 grind [sortWorldK,putRowK,Go.Sort.heap_grow_old,putRow,Go.Sort.mapBlock,Sort.ahead]
theorem ajU[Inhabited α]{g:Nat}{sp:Sp}(D:cW ag g sp)(U:∀f w,(callFunc g f).run ag w=.ok (.enter g f) w){G2:Gh}{enc:α->gy}{encA:α->aa}(F:∀x,VR G2 (encA x) (.agg (enc x).toArray)){K:α->α->Int}(E:∀x y,sp [encA x,encA y]=X (.int .i64 (K x y)))(k q off size:Nat)(w:World)(C:∀m u A,WR G2 .nil (sortWorldK enc k w q off m A u)):CmpLays ag g #[] enc k K q off size w:=by
 intro m u A _ x y;have C:=C m u A;generalize sortWorldK enc k w q off m A u=W at*;have S:=D _ _ (E x y) G2 .nil W [.agg (enc x).toArray,.agg (enc y).toArray] C (.cons (F x) (.cons (F y) .nil));rcases S with⟨V,d,H,_⟩|⟨_,T⟩
 rw[U]at H;cases H;refine T.mono ?_;rintro e d ⟨v,rfl,G',_,B,M⟩;cases M;refine⟨rfl,d.drawn-W.drawn,d.heap.extract W.heap.size d.heap.size,?_⟩;have z:=B.quiet;have N:=B.size;have j:d.heap=W.heap++d.heap.extract W.heap.size d.heap.size:=by
  apply Array.ext_getElem?;intro i;by_cases hi:i<W.heap.size;rw[Array.getElem?_append_left hi];exact B.keep i hi λP=>by
   let⟨n,a,h,_⟩:=P
   exact h rfl
  grind
 have Y:=z.2.2.2.2.2;refine afu j z.2.2.2.2.1 ?_ z.1 z.2.1;show d.drawn=W.drawn+(d.drawn-W.drawn);omega
def nS{k:Nat}:∀{rows:az},(∀v∈rows,J v.cells=k)->(aq rows).length=J rows*k
 |[],_=>by simp[aq]
 |v::l,h=>by
  have:=nS (rows:=l) λx d=>h x (ig _ d);rw[aq,bI,this,h v gz,List.length_cons,jW];omega
theorem SH{k:Nat}(d:0<k):∀{rows:az},(∀v∈rows,J v.cells=k)->∀t,(aq rows)[t]?=(rows[t / k]?).bind λv=>v.cells[t % k]?
 |[],_,t=>by simp[aq]
 |v::l,h,t=>by
  have g:=h v gz;have e:=SH d (rows:=l) λx f=>h x (ig _ f);rw[aq];by_cases ht:t<k
  grind [Nat.div_eq_of_lt,Ff]
  rw[List.getElem?_append_right w_,g,e];have q:t / k=(t-k) / k+1:=by
   rw[<-Nat.add_div_right _ d];congr 1;omega
  have j:t % k=(t-k) % k:=by
   rw[<-Nat.add_mod_right (t-k) k];congr 1;omega
  rw[q,j,Cx]
variable{i:Nat}
theorem ad8{k:Nat}{rows:az}(h:∀v∈rows,J v.cells=k){v:aa}(hi:rows[i]?=X v):cut (aq rows) (i*k) k=X v.cells:=by
 induction rows generalizing i with
 |nil=>simp at hi
 |cons x l d=>
  have f:=h x gz;rcases i with _|i
  grind [cut,aq,cd]
  rw[Cx]at hi
  have:=d (λy e=>h y (ig _ e)) hi;rw[<-this];simp only[cut,aq];have:(x.cells++aq l).drop ((i+1)*k)=(aq l).drop (i*k):=by
   rw[show(i+1)*k=J x.cells+i*k by rw[f,jW];omega,<-wB,Fa]
  rw[this]
def ye{k:Nat}{rows:az}(h:∀v∈rows,J v.cells=k)(hi:i<J rows){x:aa}(u:J x.cells=k):gR (aq rows) (i*k) x.cells=X (aq (rows.set i x)):=by
 induction rows generalizing i with
 |nil=>simp at hi
 |cons v l f=>
  have g:=h v gz;have B:=nS (rows:=l) λy q=>h y (ig _ q);have d:(v.cells++aq l).length=(J l+1)*k:=by rw[bI,g,B,jW];omega
  rcases i with _|i
  have j:aP (0*k+k) ((J l+1)*k)=O:=bG (by rw[jW];omega);have z:(v.cells++aq l).drop k=aq l:=by rw[<-g,Fa]
  rw[Nat.zero_mul,Nat.zero_add]at j;simp only[go_sem,aq,d,u,j,List.set_cons_zero,Nat.zero_mul,z];have e:i<J l:=by simpa using hi
  have f:=f (λy q=>h y (ig _ q)) e;have C:i*k+k<=J l*k:=by rw[<-jW];exact md k e
  have j:aP ((i+1)*k+k) ((J l+1)*k)=O:=bG (by rw[jW,jW];omega);have A:aP (i*k+k) (J l*k)=O:=bG C;simp only[gR,u,B,A,cT,Option.some.injEq]at f;simp only[gR,aq,d,u,j,cT,List.set_cons_succ,<-f];have E:(v.cells++aq l).take ((i+1)*k)=v.cells++(aq l).take (i*k):=by
   rw[show(i+1)*k=J v.cells+i*k by rw[g,jW];omega,List.take_length_add_append]
  have D:(v.cells++aq l).drop ((i+1)*k+k)=(aq l).drop (i*k+k):=by
   rw[show(i+1)*k+k=J v.cells+(i*k+k) by rw[g,jW];omega,<-wB,Fa]
  rw[E,D,List.append_assoc]
abbrev C_:=Nat->Nat->Int
def xX(d:C_)(n:Nat):List (Fin n):=(yI n).mergeSort λi j=> !(ltOf λx y:Fin n=>d x y) j i
def Ay(d:C_)(rows:az):az:=(xX d (J rows)).map λi=>rows[i]
def Sd(d:C_)(n:Nat):(xX d n).Perm (yI n):=List.mergeSort_perm _ _
def aeG(d:C_)(rows:az):(Ay d rows).Perm rows:=by
 have h:=(Sd d (J rows)).map λi=>rows[i];have e:(yI (J rows)).map (λi=>rows[i])=rows:=by
  refine List.ext_getElem (by simp) λi g f=>?_;simp
 rwa [e]at h
theorem afr{G:Gh}:∀{cs:az}{vs:gy},J cs=J vs->(∀(i:Nat) v,cs[i]?=X v->∃x,vs[i]?=X x/\VR G v x)->bL G cs vs
 |[],[],_,_=>.nil
 |[],_::_,h,_=>by simp at h
 |_::_,[],h,_=>by simp at h
 |c::cs,v::vs,h,hv=>by
  let⟨x,d,h2⟩:=hv 0 c rfl
  have d:X v=X x:=d;cases d;exact .cons h2 (afr (by simpa using h) λi u e=>hv (i+1) u e)
theorem SY{k f g:Nat}{ρ:Go.Shelf.Ren}(L:SlLaysF0.n6 ag ρ)(hf:ρ.f 6=f)(aE:∀w,(isAgg (ρ.t 24)).run ag w=.ok O w)(zE:∀w,(Go.sizeOf (ρ.t 24)).run ag w=.ok k w)(ef:∀q w,(callFunc f q).run ag w=.ok (.enter f q) w)(eg:∀q w,(callFunc g q).run ag w=.ok (.enter g q) w){sp:Sp}(b4:cW ag g sp)(wr:WR G h w){m lcap:Nat}{rows us:az}(hl:h.get m=X (.cells (aq rows)))(hk:∀v∈rows,J v.cells=k/\v=.agg v.cells)(D:0<k)(a1:J us=J rows)(hu:∀(i:Nat) v u,rows[i]?=X v->us[i]?=X u->fF (h.set m Z) v u)(F:C_)(c3:∀(i j:Nat) u u',us[i]?=X u->us[j]?=X u'->sp [u,u']=X (.int .i64 (F i j)))(hO:SWO (ltOf λx y:Fin (J rows)=>F x y))(hT:∀x y:Fin (J rows),(ltOf λx y:Fin (J rows)=>F x y) x y=I->(ltOf λx y:Fin (J rows)=>F x y) y x=I->x=y)(c8:J rows<=1000000){y:Value}(hy:VR G (.arr k m 0 (J rows) lcap) y):
 kI ag f ⟨[y,.func (.func g) #[] #[]]⟩ w λz V=>∃N,WR N (h.set m (X (.cells (aq (Ay F rows))))) V/\ce G h w N (h.set m (X (.cells (aq (Ay F rows))))) V 0 0/\VR N (.tup []) z:=by
 subst hf;have P:∀v∈rows,J v.cells=k:=λv hv=>(hk v hv).1;have c9:∀v∈Ay F rows,J v.cells=k:=λv hv=>P v ((aeG F rows).mem_iff.1 hv);have b5:(Ay F rows).length=J rows:=(aeG F rows).length_eq;obtain⟨a,b,b2,rfl,E,H,b1,c6,d,B,hd⟩:=Nq hy
 let⟨b',hb',_,C,e,hC,hdimC,hcs⟩:=wr.obj m _ hl
 rw[E]at hb';cases hb';rw[hdimC]at B;injection B with B
 have c4:=wr.below m b E;obtain⟨val,a4⟩:∃val:Nat->Nat->Value,∀(i:Nat) v,rows[i]?=X v->∀(t:Nat) u,v.cells[t]?=X u->C[b.off+(i*k+t)]?=X (val i t)/\VR G u (val i t)/\u.scal=O:=by
  refine⟨λi t=>(C[b.off+(i*k+t)]?).getD .nilFunc,λi v S t u ht=>?_⟩;have a5:t<k:=by
   have:=(ie.1 ht).1;rwa [P v (List.mem_of_getElem? S)]at this
  have e:(aq rows)[i*k+t]?=X u:=by
   rw[SH D P];have e1:(i*k+t) / k=i:=by rw[Nat.add_comm,Nat.add_mul_div_right _ _ D,Nat.div_eq_of_lt a5,Nat.zero_add]
   have e2:(i*k+t) % k=t:=by rw[Nat.add_comm,Nat.add_mul_mod_self_right,Ff a5]
   rw[e1,e2,S];exact ht
  grind
 have hrow:∀(i:Nat) v,rows[i]?=X v->bL G v.cells ((ii k).map (val i)):=λi v S=>by
  grind [afr]
 have K:∀(i:Nat) v,rows[i]?=X v->dl v.cells=O:=λi v S=>by
  grind [dl,List.getElem?_of_mem]
 have b0:∀n Y (M:Array (Fin (J rows))) (a0:Inhabited (Fin (J rows))),J M.toList=J rows->∃N,WR N (h.set m (X (.cells (aq (M.toList.map λi=>rows[i]))))) (sortWorldK (λi:Fin (J rows)=>(ii k).map (val i)) k w b.block b.off n M Y)/\
  ce G h w N (h.set m (X (.cells (aq (M.toList.map λi=>rows[i]))))) (sortWorldK (λi:Fin (J rows)=>(ii k).map (val i)) k w b.block b.off n M Y) 0 0/\VR N (.tup []) (.tuple #[]):=λn Y M a0 c1=>by
  have c2:∀v∈M.toList.map (λi=>rows[i]),J v.cells=k:=λv hv=>by
   grind
  refine LM wr hl E id (flatK (λi:Fin (J rows)=>(ii k).map (val i)) k M) n Y (λC' e' A=>?_) (λt v ht=>?_);rw[hC]at A;injection A with A;injection A with A _ _;subst A
  rw[size_flatK,<-Array.length_toList,c1,B]
  have:=md k b1;omega;rw[SH D c2]at ht;simp only[ak,ix,Option.map_eq_some_iff]at ht;obtain⟨r,⟨i,S,rfl⟩,ht⟩:=ht;have b8:t / k<M.size:=by
   have:=(ie.1 S).1;simpa using this
  have c7:t<M.size*k:=by
   have:=Nat.div_add_mod t k
   have:=Nat.mod_lt t D;have h3:(t / k+1)*k<=M.size*k:=md k b8;rw[jW]at h3
   have:=Nat.div_add_mod t k;rw[Nat.mul_comm]at this;omega
  grind [flatK]
 by_cases hn:J rows=0;have b6:rows=[]:=qY hn;subst b6;refine .inr ⟨ef _ _,(AnyF.slices_SortFunc_none L (X a) b2 (.func (.func g) #[] #[]) w).mono ?_⟩;rintro e' V ⟨rfl,rfl⟩
 let⟨N,g1,g2,g3⟩:=LM (cs':=[]) wr hl E id (#[]:il) 0 #[] (λC' e' A=>by
  grind) (λi v S=>by simp at S)
 have hw:grow (putRow id (Sort.ahead V 0) b.block b.off (#[]:il)) #[]=V:=by
  rw[Go.Sort.grow_empty,Go.Sort.ahead_zero];exact Go.Sort.putRow_self id V b.block b.off _ (λj hj=>by simp at hj)
 rw[hw]at g1 g2;rw[qY b5];exact⟨_,rfl,N,g1,g2,g3⟩
 haveI a0:Inhabited (Fin (J rows)):=⟨⟨0,w_⟩⟩
 rcases c6 with h0|⟨U,T⟩
 exact absurd h0 hn
 let⟨ab,ao,asp⟩:=a
 simp only at U T H;subst U;subst T;subst H;have a2:(yI (J rows)).toArray.size=J rows:=by simp
 have hH:HoldsK (λi:Fin (J rows)=>(ii k).map (val i)) k w b.block b.off (yI (J rows)).toArray:=λj hj=>by
  have a9:j<(yI (J rows)).toArray.size*k:=by rw[size_flatK]at hj;exact hj
  refine⟨?_,by simp[World.frozen?,hC]⟩;have a8:j / k<J rows:=by
   rw[a2]at a9;exact(Nat.div_lt_iff_lt_mul D).2 a9
  have c0:=Nat.mod_lt j D;have a7:=P _ (AU a8)
  let⟨h1,_,_⟩:=a4 (j / k) rows[j / k] (by simp[a8]) (j % k) (rows[j / k].cells[j % k]' w_) (by simp[a7,c0])
  have ej:j / k*k+j % k=j:=by rw[Nat.mul_comm];exact Nat.div_add_mod j k
  rw[ej]at h1
  grind [kw,get_flatK]
 have a3:WR G (h.set m Z) w:=wr.killed m;have b7:∀bb o u,nH G (h.set m Z) bb o=X u->bb≠b.block:=λbb o u hc he=>by
  subst he;rcases I5 hc with hc|⟨n,a',cs,i,g1,g2,g3,_,_⟩
  have:=wr.apart m _ b o u hl E hc;cases this.1;by_cases hnm:n=m
  grind [aB.get_set]
  rw[aB.get_set,iN hnm]at g1;exact hnm (wr.sep n m a' b (by rw[g1];simp) (by rw[hl];simp) g2 E g3)
 have b3:∀x:Fin (J rows),VR (F8 G (h.set m Z)) (us[x]'(by rw[a1];exact x.2)) (.agg ((ii k).map (val x)).toArray):=λx=>by
  have hx:rows[x.1]?=X rows[x]:=by simp
  let⟨kk,hkk⟩:=hu x rows[x] _ hx (dA (by rw[a1];exact x.2))
  refine thaw (λ_ _ _ _=>W4) a3 kk (v:=rows[x]) ?_ hkk;rw[(hk rows[x] (AU _)).2];exact .agg (K x _ hx) (hrow x _ hx)
 have hO:=AnyQ.slices_SortFunc_total L k aE zE (λi:Fin (J rows)=>(ii k).map (val i)) (λ_=>by simp) (λx v hv=>by
  have hx:rows[x.1]?=X rows[x]:=by simp
  exact(hrow x _ hx).ones (K x _ hx) v hv) (λx y:Fin (J rows)=>F x y) hO g #[] b.block b.off b2 (yI (J rows)).toArray w eg
  (ajU b4 eg (G2:=F8 G (h.set m Z)) (encA:=λx=>us[x]'(by rw[a1];exact x.2)) b3 (λx y=>c3 x y _ _ (dA _) (dA _)) k b.block b.off _ w
   (λmm Y dk=>aF4 a3 b7 λbb c5 a6=>aDn _ _ _ _ _ _ _ _ bb c5 a6)) hH c4 (by rw[a2];omega) hT
 rw[a2]at hO;refine .inr ⟨ef _ _,hO.mono ?_⟩;rintro e' V ⟨rfl,n,Y,rfl⟩
 let⟨N,g1,g2,g3⟩:=b0 n Y (xX F (J rows)).toArray a0 (by simpa using(Sd F (J rows)).length_eq)
 grind [xX,Ay]
end Go.Proofs.YtakkigoeiahlcaaGreat
namespace Go.Proofs.YtakkigoeiahlcaaGreat
open Tryz
open Go.Ag
variable{Q:ay}[Std Q]
abbrev cM:=Int×bF
def kN(s:bF):Int:=min s.1.1 s.2.1
def vn(s:bF):Int:=max s.1.1 s.2.1
def qH(s:bF):Int:=min s.1.2 s.2.2
def qC(s:bF):Int:=max s.1.2 s.2.2
def ji(x:cM):az:=[ah x.1,ah x.2.1.1,ah x.2.1.2,ah x.2.2.1,ah x.2.2.2,ah (kN x.2),ah (vn x.2),ah (qH x.2),ah (qC x.2)]
def cH(x:cM):aa:=.agg (ji x)
abbrev Mt:=Int×Int×Int
def gJ(m:Mt):aa:=.agg [ah m.1,ah m.2.1,ah m.2.2]
def BQ:Sp
 |[.int .i64 a,.int .i64 b]=>X (aX (min a b,max a b))
 |_=>Z
def ayh(d:No Q 145)(a b:Int)(s:St):ai Q 145 [ah a,ah b] s (aX (min a b,max a b)) s:=by
 refine ai.ofV JU.1 JU.2 JU.3 JU.4 (aM ?_);simp only[go_sem,seval,aX,rF,tf,sB]
def ah1(d:No Q 150)(a b:x_)(s:St):ai Q 150 [aX a,aX b] s (.bool (bT a.1 b.2&&bT b.1 a.2)) s:=by
 refine ai.ofNZ asl (aM ?_);cases e1:bT a.1 b.2<;>simp only[go_sem,seval,aX,e1]
variable{s:St}{x:cM}
def ajT(f:No Q 147)(d:Q.spec 107=X pm)(e:Q.spec 106=X vO){y:cM}(j:IntKind.i64.wrap (x.1-y.1)=x.1-y.1)(q:s.gE<=s.aL):ai Q 147 [cH x,cH y] s (bu (lR [jO (kN x.2) (kN y.2),x.1-y.1])) s:=by
 have g:vO [.list 1 [ah (jO (kN x.2) (kN y.2)),ah (x.1-y.1)] .GT]=X (ah (lR [jO (kN x.2) (kN y.2),x.1-y.1])):=rfl;refine ai.ofNZ ash (aM ?_);simp only[go_sem,seval,cH,ji,bu,q,d,e,Va,g,j,sB]
def ajX(f:No Q 152)(d:Q.spec 106=X vO){x y:Mt}(j:IntKind.i64.wrap (x.1-y.1)=x.1-y.1)(e:IntKind.i64.wrap (x.2.1-y.2.1)=x.2.1-y.2.1)(s:St):ai Q 152 [gJ x,gJ y] s (bu (lR [x.1-y.1,x.2.1-y.2.1])) s:=by
 have g:vO [.list 1 [ah (x.1-y.1),ah (x.2.1-y.2.1)] .GT]=X (ah (lR [x.1-y.1,x.2.1-y.2.1])):=rfl;refine ai.ofNZ asm (aM ?_);simp only[go_sem,seval,gJ,bu,d,g,j,e,sB]
variable{n:Nat}{a:cM}
def V4(d:No Q 149)(e:s.get [] n=X (.cells (ji a))):ai Q 149 [cH x,.ptr n 0] s (.bool (aR (vn x.2) (kN a.2))) s:=by
 refine ai.ofNZ asi (aM ?_);simp only[go_sem,seval,cH,ji,e]
def G5(mk:aI)(n m o l c:Nat)(s:St):fN ag mk 243 (.arr n m o l c) s=X (ah l):=k_
abbrev Tm:=List cM
variable{R:Tm}
def xE:∀v∈R.map cH,J v.cells=9:=λv d=>by
 obtain⟨x,_,rfl⟩:=List.mem_map.1 d;rfl
variable{m:Nat}
def JQ(h:s.get [] m=X (.cells (aq (R.map cH)))){i:Nat}(hi:R[i]?=X x):zV ag 248 (i*9) (s.get [] m)=X (cH x):=by
 rw[h,qF,adL,ad8 xE (by rw[ix,hi];rfl)];rfl
def iY(a x:cM):Bool:=aR (vn x.2) (kN a.2)
def tD(p:cM->Bool):Tm->Nat->Int
 |[],_=> -1
 |x::l,i=>bif p x then(i:Int)else tD p l (i+1)
def aqU(g:No Q 149){lcap len:Nat}(hs:J R<=1000000)(N:len<=J R)(Y:s.get [] m=X (.cells (aq (R.map cH))))(V:s.get [] n=X (.cells (ji a))){lc:Ag.Loc}{K:hP}{r:Int}(T:∀e,r= -1->K (.exit 0) ⟨e,19,lc⟩ s)(U:∀e,ac e 4=ah r->K .ret ⟨e,19,lc⟩ s):
 ∀(rest d:Tm)(e:ax),R.take len=d++rest->r=tD (iY a) rest (J d)->ac e 0=.arr 9 m 0 len lcap->ac e 1=.func (.func 149) [] [.ptr n 0]->ac e 7=an len->ac e 8=an (J d)->W Q 227 (.loop J6) ⟨e,19,lc⟩ s K:=by
 intro rest;have P:(R.take len).length=len:=by rw[List.length_take];omega
 induction rest with
 |nil=>
  intro d e u B C z A q;have F:J d=len:=by rw[<-P,u];simp
  refine aF ?_;simp only[go_sem,seval,J6,C,z,A,q,F,bJ];exact T _ B
 |cons x rest S=>
  intro d e u B C z A q;have j:J d<len:=by rw[<-P,u];simp
  have M:R[d.length]?=X x:=by
   have:(R.take len)[d.length]?=X x:=by rw[u];simp
   rwa [List.getElem?_take,iP j]at this
  have E:=JQ Y M;have D:=cm (n:=J d) w_;have H:(cH x).gt=O:=rfl;refine aF ?_;simp only[go_sem,seval,J6,C,z,A,q,j,E,H];refine aU.of (V4 g V) d_ ?_;cases hd:iY a x with
  |true=>
   have f:aR (vn x.2) (kN a.2)=O:=hd;simp only[go_sem,seval,f];exact U _ (by simp only[sN,seval,q,B,tD,hd])
  |false=>
   have f:aR (vn x.2) (kN a.2)=I:=hd;simp only[go_sem,seval,f,q,D];refine S (d++[x]) _ (db u) (by rw[B];simp only[tD,hd,cF,sA]) ?_ ?_ ?_ ?_
   all_goals simp only[sN,seval,C,z,A,sA]
def aqV(g:No Q 227)(d:No Q 149){lcap len:Nat}(j:J R<=1000000)(f:len<=J R)(z:s.get [] m=X (.cells (aq (R.map cH))))(u:s.get [] n=X (.cells (ji a))):ai Q 227 [.arr 9 m 0 len lcap,.func (.func 149) [] [.ptr n 0]] s (bu (tD (iY a) (R.take len) 0)) s:=by
 refine ai.ofNZ ZF (aM ?_);simp only[go_sem,seval,G5];refine aqU (lcap:=lcap) d j f z u (r:=tD (iY a) (R.take len) 0) ?_ ?_ (R.take len) [] _ rfl rfl (by simp only[sG,seval, *]) (by simp only[sG,seval, *]) (by simp only[sG,seval, *]) (by simp only[sN,seval];rfl);intro e q;simp only[go_sem,seval,q];rfl;intro e A;simp only[go_sem,seval,A];rfl
def tagsV(l:wf):aa:=fG 2 (l.map bW)
def tK:Sp
 |[v,u]=>(uX v).bind λa=>(uX u).bind λb=>bif aP (J a) 1000000&&aP (J b) 1000000 then X (.bool (tJ a b))else Z
 |_=>Z
end Go.Proofs.YtakkigoeiahlcaaGreat
namespace Go.Proofs.YtakkigoeiahlcaaGreat
open Go.Ag
attribute[go_sem]QH aqv Z1
variable{K:hP}{a b:cf}{s:St}{u v:aa}
section
variable{Q:ay}[Std Q]
def ahE(D:au 1 aw v a)(C:au 1 aw u b)(V:J a<=1000000)(U:s.gE<=s.aL){lc:Ag.Loc}(H:∀e,ac e 0=v->ac e 1=u->ph a b=decide (J a<J b)->K (.exit 0) ⟨e,41,lc⟩ s)(T:∀e,ac e 4=.bool (ph a b)->K .ret ⟨e,41,lc⟩ s):
 ∀(p rb c d:cf)(e:ax),a=c++p->b=d++rb->J c=J d->ph a b=ph p rb->ac e 0=v->ac e 1=u->ac e 5=.int .i64 (J c:Nat)->W Q 69 (.loop KA) ⟨e,41,lc⟩ s K:=by
 have F:=D.gt;have M:=C.gt;have A:=D.lenS bM;have G:=C.lenS bM;intro p
 induction p with
 |nil=>
  intro rb c d e z o l h j f w;have t:=(cL z).symm;have g:J b=J c+J rb:=by rw[o,l];simp
  refine aF ?_;simp only[go_sem,seval,KA,j,w,F,A,t,bJ];refine H _ (by simp only[sN,seval,j]) (by simp only[sN,seval,f]) ?_;rw[h,t,g];cases rb<;>simp[ph]
 |cons x p N=>
  intro rb c d e z o l h j f w
  let⟨hlt,ha1⟩:=cR z
  have S:=λlc k=>D.at bM.2.2.1 ha1 lc k;refine aF ?_;rcases rb with _|⟨y,rb⟩
  have g:J b=J c:=by rw[o,l];simp
  simp only[go_sem,seval,KA,j,f,w,F,M,A,G,hlt,g,bJ];refine H _ (by simp only[sN,seval,j]) (by simp only[sN,seval,f]) ?_;rw[h,g,dN w_];rfl;have q:J c<J b:=by rw[o,l];simp
  have E:b[c.length]?=X y:=by rw[o,l];simp
  have P:=λlc k=>C.at bM.2.2.1 E lc k;have B:=cm (n:=J c) w_;rw[ph]at h;cases hq:x==y<;>rw[hq]at h<;>simp only[go_sem,seval,KA,j,f,w,F,M,A,G,hlt,q,S,P,aw,hq,U,B];exact T _ (by simp only[sN,seval,h]);exact N rb (c++[x]) (d++[y]) _ (db z) (by rw[o];simp) (by simp[l]) h (by simp only[sN,seval,j]) (by simp only[sN,seval,f]) (by simp only[sN,seval,sA])
def U4(f:No Q 69)(d:au 1 aw v a)(c:au 1 aw u b)(o:J a<=1000000)(l:s.gE<=s.aL):ai Q 69 [v,u] s (.bool (ph a b)) s:=by
 have x:=d.gt;have w:=c.gt;have h:=d.lenS bM;have g:=c.lenS bM;refine ai.ofNZ aud (aM ?_);simp only[go_sem,seval];refine ahE d c o l (λe t q j=>?_) (λe p=>?_) a b [] [] _ rfl rfl rfl rfl (by simp only[sN,seval]) (by simp only[sN,seval]) (by simp only[sN,seval];rfl);simp only[go_sem,seval,t,q,x,w,h,g,j];simp only[go_sem,seval,p]
end
section
variable{Q:ay}[Std Q]
def aqP(j:No Q 28)(c:No Q 69)(e:au 1 aw v a)(d:au 1 aw u b)(p:J a<=1000000)(o:J b<=1000000)(f:s.gE<=s.aL):ai Q 28 [v,u] s (.bool (tJ a b)) s:=by
 have h:=e.gt;have g:=d.gt;have l:=U4 c e d p f;refine ai.ofNZ atv (aM ?_);unfold tJ;simp only[go_sem,seval,h,g];refine aU.of l d_ ?_;cases ph a b<;>simp only[go_sem,seval,h,g];exact aU.of (U4 c d e o f) d_ (by simp only[go_sem,seval])
end
def aqN:cW ag 28 tK:=by
 refine mL (T:=[]) .nil λd u h=>?_;unfold tK at h;split at h;rename_i v u;simp only[Option.bind_eq_some_iff]at h
 let⟨a,h1,b,h2,h⟩:=h
 let⟨h3,h⟩:=aZ h
 cases h;simp only[bg]at h3
 let⟨l1,p1⟩:=IT h1
 let⟨l2,p2⟩:=IT h2
 have c:pures [v,u]=O:=by simp only[pures,p1,p2,Bool.and_self]
 rw[kF c];exact⟨AB c,_,s0,aqP R_ R_ l1 l2 (gS h3.1) (gS h3.2) (aC _),rfl,1,rfl⟩;cases h
variable{n:Nat}
def kR{env:ax}{x:Operand}{d:Nat}(h:ev env x=X (.int .i64 (n:Nat))):dI env (X x) d=X n:=by
 simp only[dI,h,aG];rfl
def L9{t e sz:Nat}(p:ag.underlying t=X (.slice e))(f:cS ag e=X sz){α:Type}{enc:α->aa}{V:aa}{l:List α}(x:au sz enc V l){lo hi:Nat}(h1:lo<=hi)(q:hi<=J l):
 ∃o,(∀(env:ax)(s:St)(low c:sq),dI env c (J l)=X hi->dI env low 0=X lo->eC ag [] t V low c Z env s=X o)/\au sz enc o ((l.take hi).drop lo)/\(bn V=O->bn o=O):=by
 rcases x with⟨rfl,rfl⟩|⟨r,rfl⟩
 have j:hi=0:=by simpa using q
 subst j;have j:lo=0:=w_
 subst j;refine⟨.Ge,λenv s low c d g=>?_,.inl R_,λ_=>rfl⟩;have d:dI env c 0=X 0:=d;simp only[eC,p,aG,f,d,g];rfl;refine⟨.list sz (((l.map enc).take hi).drop lo) (bif aA hi (J l)&&(Nat.blt lo hi||aA lo 0)then r else .no),λenv s low c d g=>?_,.inr ⟨_,by rw[List.map_drop,List.map_take]⟩,λh=>?_⟩;have z:aP hi (J l)=O:=bG q;have y:aP lo hi=O:=bG h1;simp only[aac,eC,p,f,d,g,z,y,Hj,List.length_map];simp only[bn,bg]at h⊢;refine⟨?_,?_⟩;exact Go.Ag.pures_all.2 λv w=>Go.Ag.pures_all.1 h.1 v (List.mem_of_mem_take (List.mem_of_mem_drop w));cases aA hi (J l)&&(Nat.blt lo hi||aA lo 0);rfl;exact h.2
def H5:ag.underlying 22=X (.slice 47):=k_
def Mu:ag.underlying 25=X (.slice 9):=k_
variable{Q:ay}[Std Q]
def aC1(mk:aI)(m off len lcap:Nat)(lo hi:sq)(e:ax)(s:St):eC ag mk 243 (.arr 9 m off len lcap) lo hi Z e s=(dI e hi len).bind λh=>(dI e lo 0).bind λl=>bif aP l h&&aP h lcap then X (.arr 9 m (off+l*9) (h-l) (lcap-l))else Z:=by
 have h:eC ag mk 243 (.arr 9 m off len lcap) lo hi Z e s=(dI e hi len).bind λh=>(dI e lo 0).bind λl=>bif aA 9 9&&aP l h&&aP h lcap&&aP lcap lcap&&O then X (.arr 9 m (off+l*9) (h-l) (lcap-l))else Z:=k_
 have q:aP lcap lcap=O:=bG (aC _);rw[h];simp only[Bool.and_true,Nat.beq_refl,Bool.true_and,q]
variable{R:Tm}{i m:Nat}
def Yb(h:s.get [] m=X (.cells (aq (R.map cH))))(hi:i<J R)(x:cM)(lc:Ag.Loc):ET lc s m (i*9) (cH x) (s.get [] m)=X (lc,s.put m (X (.cells (aq ((R.set i x).map cH))))):=by
 rw[h,dq,ye xE (by simpa using hi) rfl];simp only[aG,List.map_set]
structure du (m:Nat) (s s':St):Prop where
 old:∀k,k≠m->s'.get [] k=s.get [] k
 aL:s'.aL=s.aL
 ci:s'.ci=s.ci
 mw:s'.gE<=s'.aL
def du.refl(h:s.gE<=s.aL):du m s s:=⟨λ_ _=>rfl,rfl,rfl,h⟩
theorem du.put{s':St}(h:du m s s')(o:sh):du m s (s'.put m o):=
 ⟨λk c=>by rw[aO,bN.2 c];exact h.old k c,h.aL,h.ci,cG s' m o h.mw⟩
def du.trans{s' c:St}(h:du m s s')(k:du m s' c):du m s c:=⟨λj d=>(k.old j d).trans (h.old j d),k.aL.trans h.aL,k.ci.trans h.ci,k.mw⟩
def Cu:cM:=(0,((0,0),(0,0)))
def afz(n:Nat):fD [ah 0,ah 0,ah 0,ah 0,ah 0,ah 0,ah 0,ah 0,ah 0] n=aq ((gK n Cu).map cH):=by
 induction n with
 |zero=>rfl
 |succ n c=>rw[fD,c,List.replicate_succ,List.map_cons,aq];rfl
def aB1(h:i+n<=J R):gR (aq (R.map cH)) (i*9) (aq ((gK n Cu).map cH))=X (aq ((R.take i++(gK n Cu++R.drop (i+n))).map cH)):=by
 have l:R=R.take i++((R.drop i).take n++R.drop (i+n)):=by
  rw[<-wB,wF,wF]
 have g:(aq ((R.take i).map cH)).length=i*9:=by
  rw[nS xE];simp;omega
 have f:(aq (((R.drop i).take n).map cH)).length=n*9:=by
  rw[nS xE];simp;omega
 have e:(aq ((gK n Cu).map cH)).length=n*9:=by
  rw[nS xE];simp
 have d:(aq (R.map cH)).length=J R*9:=by rw[nS xE];simp
 have c:aP (i*9+n*9) (J R*9)=O:=bG w_;have j:aq (R.map cH)=aq ((R.take i).map cH)++(aq (((R.drop i).take n).map cH)++aq ((R.drop (i+n)).map cH)):=by
  conv=>lhs;rw[l]
  rw[dj,mY,dj,mY]
 unfold gR;rw[e,d,c,j];simp only[cT,Option.some.injEq,dj,mY];rw[TI w_,nA w_];congr 2;rw[<-g,<-wB,Fa,<-f,Fa]
structure Del (R:Tm) (m k:Nat) (K:Tm) (s s':St):Prop where
 but:du m s s'
 row:∃R':Tm,R'.length=R.length/\R'.take k=K/\s'.get [] m=some (.cells (aq (R'.map cH)))
def WP(p:cM->Bool):∀(l:Tm)(k:Nat),(tD p l k= -1/\l.filter (λx=> !p x)=l)\/∃c x d,l=c++x::d/\c.filter (λx=> !p x)=c/\p x=O/\tD p l k=((k+J c:Nat):Int)
 |[],k=>.inl R_
 |x::l,k=>by
  cases h:p x;rcases WP p l (k+1)with⟨f,e⟩|⟨c,y,d,f,e,j,g⟩
  exact .inl ⟨by simp[tD,h,f],by rw[List.filter_cons,h,e];rfl⟩;refine .inr ⟨x::c,y,d,by rw[f];rfl,by rw[List.filter_cons,h,e];rfl,j,?_⟩;simp only[tD,h,cF,g,List.length_cons];omega;exact .inr ⟨[],x,l,rfl,rfl,h,by simp[tD,h]⟩
def ajA{c:Nat}(j:s.get [] m=X (.cells (aq (R.map cH))))(h:i+n<=J R)(d:s.gE<=s.aL):∃f,(∀e,fZ ag [] .clear [243] e [.arr 9 m (i*9) n c] s=X (.tup [],f))/\du m s f/\∃R':Tm,J R'=J R/\R'.take i=R.take i/\f.get [] m=X (.cells (aq (R'.map cH))):=by
 have l:∀e,fZ ag [] .clear [243] e [.arr 9 m (i*9) n c] s=bif aA n 0 then X (.tup [],s)else(s.get [] m).bind λo=>match o with
  |.cells cs=>(gR cs (i*9) (fD [ah 0,ah 0,ah 0,ah 0,ah 0,ah 0,ah 0,ah 0,ah 0] n)).bind λg=>X (.tup [],s.put m (X (.cells g)))
  |_=>Z:=by
  intro e;have u:ag.underlying 243=X (.slice 248):=k_
  simp only[fZ,u,aG,rH,v8,mo];cases aA n 0;simp only[aaa,cF];rcases s.get [] m with _|o
  rfl;cases o with
  |cells cs=>
   simp only[aG];cases gR cs (i*9) _<;>rfl
  |_=>rfl
  rfl
 simp only[l];cases hn:aA n 0;rw[j];simp only[cF,aG,afz,aB1 h];refine⟨_,λ_=>rfl,(du.refl d).put _,_,?_,?_,by rw[aO,bS];rfl⟩;simp only[List.length_append,jG,List.length_replicate,List.length_drop];omega;rw[TI (by rw[jG];omega),nA (by rw[jG];omega)];exact⟨s,λ_=>rfl,.refl d,R,rfl,rfl,j⟩
variable{a:cM}
def aks(g:No Q 149){lcap len:Nat}{s0:St}(F:n≠m)(hs:J R<=1000000)(U:len<=J R)(hn:s0.get [] n=X (.cells (ji a)))(V:∀e lc s (i:Nat) (R':Tm),ac e 0=.arr 9 m 0 len lcap->ac e 5=an i->du m s0 s->J R'=J R->s.get [] m=X (.cells (aq (R'.map cH)))->i<=len->R'.take i=(R.take len).filter (λx=> !iY a x)->K (.exit 0) ⟨e,42,lc⟩ s):
 ∀(r j i:Nat)(R':Tm)(e:ax)(lc:Ag.Loc)(s:St),r+j=len->i<j->J R'=J R->R'.take i=(R.take j).filter (λx=> !iY a x)->R'.drop j=R.drop j->du m s0 s->s.get [] m=X (.cells (aq (R'.map cH)))->
  ac e 0=.arr 9 m 0 len lcap->ac e 1=.func (.func 149) [] [.ptr n 0]->ac e 5=an i->ac e 6=an j->W Q 148 (.loop Pr) ⟨e,42,lc⟩ s K:=by
 intro r
 induction r with
 |zero=>
  intro j i R' e lc s Y M A B C y p d D f z;have hj:j=len:=w_
  subst hj;refine aF ?_;simp only[go_sem,seval,Pr,G5,d,f,z,bJ];exact V _ _ _ i R' (by simp only[sN,seval,d]) (by simp only[sN,seval,f]) y A p w_ B
 |succ r T=>
  intro j i R' e lc s Y M A B C y p d D f z;have G:j<len:=w_
  have t:j<J R:=w_
  have S:R'[j]?=X R[j]:=by
   have:(R'.drop j)[0]?=(R.drop j)[0]? :=by rw[C]
   simpa[t]using this
  have q:=JQ p S;have h:=cm (n:=j) w_;have E:=cm (n:=i) w_;have a0:(cH R[j]).gt=O:=rfl;have H:i<len:=w_
  have o:=Yb p (i:=i) w_ R[j];have l:(R.take (j+1)).filter (λx=> !iY a x)=(R.take j).filter (λx=> !iY a x)++(if !iY a R[j]then [R[j]]else []):=by
   rw[TJ t,Ik];cases hq:iY a R[j]<;>simp[hq]
  have P:∀x,(R'.set i x).drop (j+1)=R.drop (j+1):=λx=>by
   rw[List.drop_set_of_lt w_,<-wB,C,wB]
  have w:R'.drop (j+1)=R.drop (j+1):=by rw[<-wB,C,wB]
  have N:s.get [] n=X (.cells (ji a)):=(y.old n F).trans hn;simp only[cH,ji]at q o;refine aF ?_;simp only[go_sem,seval,Pr,G5,d,D,f,z,G,q];refine aU.of (V4 (x:=R[j]) g N) d_ ?_;cases hd':aR (vn R[j].2) (kN a.2)with
  |true=>
   have c:iY a R[j]=O:=hd';simp only[go_sem,seval,z,h];refine T (j+1) i R' _ _ s w_ w_ A (by rw[l,c];simpa using B) w y p ?_ ?_ ?_ ?_
   all_goals simp only[sN,seval,d,D,f]
  |false=>
   have c:iY a R[j]=I:=hd';simp only[go_sem,seval,dh,d,f,z,h,E,H,o];refine T (j+1) (i+1) (R'.set i R[j]) _ _ _ w_ w_ (by simpa using A) ?_ (P _) (y.put _) (by rw[aO,bS];rfl) ?_ ?_ ?_ ?_;rw[l,c];have:(R'.set i R[j]).take (i+1)=R'.take i++[R[j]]:=by
    rw[TJ (by rw[List.length_set];omega),List.take_set_of_le (aC _),List.getElem_set_self]
   rw[this,B];rfl
   all_goals simp only[sN,seval,d,D]
def aku(M:No Q 148)(o:No Q 227)(j:No Q 149){lcap len:Nat}(C:n≠m)(S:J R<=1000000)(l:len<=J R)(w:len<=lcap)(E:s.get [] m=X (.cells (aq (R.map cH))))(T:s.get [] n=X (.cells (ji a)))(q:s.gE<=s.aL):
 ∃v N,ai Q 148 [.arr 9 m 0 len lcap,.func (.func 149) [] [.ptr n 0]] s v N/\(v=.arr 9 m 0 ((R.take len).filter λx=> !iY a x).length lcap/\Del R m ((R.take len).filter λx=> !iY a x).length ((R.take len).filter λx=> !iY a x) s N):=by
 have t:(R.take len).length=len:=by rw[jG];omega
 refine ai.ofNRZ Y0 (aM ?_);simp only[go_sem,seval];refine aU.of (aqV (lcap:=lcap) o j S l E T) d_ ?_;rcases WP (iY a) (R.take len) 0 with⟨z,H⟩|⟨f,x,P,z,H,e3,e4⟩
 rw[z];simp only[go_sem,seval,bu];rw[H,t];exact⟨_,rfl,rfl,.refl q,R,rfl,rfl,E⟩
 ·rw[e4,Nat.zero_add]
  have a0:J f<len:=by rw[<-t,z];simp
  have B:aj ((J f:Nat):Int) (-1)=I:=by simp[aj]
  have A:=cm (n:=J f) w_;have p:R.take (J f)=f:=by
   have:(R.take len).take (J f)=f:=by rw[z,List.take_left]
   rwa [List.take_take,Nat.min_eq_left w_]at this
  have hx:R.take (J f+1)=f++[x]:=by
   have:(R.take len).take (J f+1)=f++[x]:=by rw[z,List.take_length_add_append];rfl
   rwa [List.take_take,Nat.min_eq_left w_]at this
  simp only[go_sem,seval,bu,B,A];refine aks (lcap:=lcap) j C S l T ?_ (len-(J f+1)) (J f+1) (J f) R _ _ s w_ w_ rfl (by rw[p,hx,Ik,H];simp[e3]) rfl (.refl q) E ?_ ?_ ?_ ?_;intro e lc s1 i R' h0 h5 V hl D y U
  let⟨s2,q1,q2,R2,q3,q4,q5⟩:=ajA (c:=lcap-i) D (i:=i) (n:=len-i) w_ V.mw
  have F:i=((R.take len).filter λx=> !iY a x).length:=by rw[<-U,jG];omega
  have n1:∀g,ac g 37=an i->dI g (X (.tmp 37)) 0=X i:=λg h=>kR (by rw[ey,h]);have n2:∀g,ac g 40=an i->dI g (X (.tmp 40)) len=X i:=λg h=>kR (by rw[ey,h]);have Y:∀g d,dI g Z d=X d:=λ_ _=>rfl;have G:i<=lcap:=Nat.le_trans y w;simp only[go_sem,seval,h0,h5,aC1,n1,n2,Y,aC,Nat.zero_le,y,w,G,q1,Nat.zero_mul,Nat.sub_zero];rw[<-F];exact⟨_,rfl,rfl,V.trans q2,R2,by rw[q3,hl],by rw[q4,U],q5⟩
  all_goals simp only[sN,seval]
end Go.Proofs.YtakkigoeiahlcaaGreat
namespace Go.Proofs
open Go.Shelf
def Tryz.sortF304_ren:Go.Shelf.Ren:=⟨λ|6=>146|15=>101|14=>226|28=>165|29=>166|20=>269|21=>270|22=>271|23=>272|24=>273|25=>274|26=>275|27=>276|46=>297|47=>234|48=>235|49=>298|50=>299|57=>305|n=>n,λ|22=>243|24=>248|25=>250|3=>3|39=>195|0=>0|53=>267|55=>269|4=>4|46=>261|45=>260|50=>92|5=>5|9=>9|66=>327|70=>331|76=>363|77=>364|n=>n,λ|n=>n⟩
def Tryz.sortF304:Go.Proofs.SlLaysF0.n6 ag Tryz.sortF304_ren:=by
 constructor<;>first|kernel_rfl|(intro _;kernel_rfl)|(refine CU ?_ ?_<;>kernel_rfl)
def Tryz.sortF309_ren:Go.Shelf.Ren:=⟨λ|6=>151|15=>101|14=>228|28=>165|29=>166|20=>277|21=>278|22=>279|23=>280|24=>281|25=>282|26=>283|27=>284|46=>300|47=>234|48=>235|49=>301|50=>302|57=>306|n=>n,λ|22=>187|24=>191|25=>255|3=>3|39=>195|0=>0|53=>267|55=>269|4=>4|46=>261|45=>260|50=>92|5=>5|9=>9|66=>327|70=>331|76=>363|77=>364|n=>n,λ|n=>n⟩
def Tryz.sortF309:Go.Proofs.SlLaysF0.n6 ag Tryz.sortF309_ren:=by
 constructor<;>first|kernel_rfl|(intro _;kernel_rfl)|(refine CU ?_ ?_<;>kernel_rfl)
def Tryz.sortF220_ren:Go.Shelf.Ren:=⟨λ|6=>94|15=>101|14=>144|28=>165|29=>166|20=>218|21=>219|22=>220|23=>221|24=>222|25=>223|26=>224|27=>225|46=>266|47=>234|48=>235|49=>267|50=>268|57=>296|n=>n,λ|22=>113|24=>120|25=>183|3=>3|39=>195|0=>0|53=>267|55=>269|4=>4|46=>261|45=>260|50=>92|5=>5|9=>9|66=>327|70=>331|76=>363|77=>364|n=>n,λ|n=>n⟩
def Tryz.sortF220:Go.Proofs.SlLaysF0.n6 ag Tryz.sortF220_ren:=by
 constructor<;>first|kernel_rfl|(intro _;kernel_rfl)|(refine CU ?_ ?_<;>kernel_rfl)
def Tryz.sortF134_ren:Go.Shelf.Ren:=⟨λ|6=>55|15=>101|14=>100|28=>165|29=>166|20=>157|21=>158|22=>159|23=>160|24=>161|25=>162|26=>163|27=>164|46=>233|47=>234|48=>235|49=>236|50=>237|57=>286|n=>n,λ|22=>37|24=>41|25=>131|3=>3|39=>195|0=>0|53=>267|55=>269|4=>4|46=>261|45=>260|50=>92|5=>5|9=>9|66=>327|70=>331|76=>363|77=>364|n=>n,λ|n=>n⟩
def Tryz.sortF134:Go.Proofs.SlLaysF0.n6 ag Tryz.sortF134_ren:=by
 constructor<;>first|kernel_rfl|(intro _;kernel_rfl)|(refine CU ?_ ?_<;>kernel_rfl)
def Tryz.sortF230_ren:Go.Shelf.Ren:=⟨λ|6=>104|15=>101|14=>169|28=>165|29=>166|20=>241|21=>242|22=>243|23=>244|24=>245|25=>246|26=>247|27=>248|46=>288|47=>234|48=>235|49=>289|50=>290|57=>303|n=>n,λ|22=>25|24=>9|25=>196|3=>3|39=>195|0=>0|53=>267|55=>269|4=>4|46=>261|45=>260|50=>92|5=>5|9=>9|66=>327|70=>331|76=>363|77=>364|n=>n,λ|n=>n⟩
def Tryz.sortF230:Go.Proofs.SlLaysF.n6 ag Tryz.sortF230_ren:=by
 constructor<;>first|kernel_rfl|(intro _;kernel_rfl)|(refine CU ?_ ?_<;>kernel_rfl)
