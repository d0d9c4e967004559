/- Lemmas for ValidApart. -/
import Derived.Test.YtnnppcoplinajaaGreatB3
import Derived.Test.YtnnppcoplinajaaGreatB4
set_option linter.all false
open Bool renaming and_eq_true→bu,and_self→cw,false_eq_true→K4,not_false→hG,not_true→fp
open Classical renaming byContradiction→sB
open List renaming drop→bP,getElem?_append_left→BA,getElem?_append_right→wd,getElem?_map→jf,mem_cons→fc,mem_map→dy
open Nat renaming ble_eq_true_of_le→cP,blt→bm,le_of_ble_eq_true→fW,le_refl→br,le_succ_of_le→cq,lt_irrefl→cD,lt_or_ge→nZ,lt_succ_self→kU,reduceAdd→bQ,reduceBEq→ah,reduceLT→aB,reduceLeDiff→cK,reduceMul→ee,zero_lt_succ→nB
open Go.Op renaming bytesLess→fN
open Option renaming bind_eq_some_iff→ak,bind_some→au
open Option.some renaming injEq→aJ
open Go.Ag.aq renaming of2→l8
open Go.Proofs.Tryz renaming prog→ae
open Go.Ag.W renaming block→jR,cnSZ→ak7,cnTZ→ak9,cond→cQ,loop1→kp,ret→eA,seq→cU,skip→fX,sreg→bt
namespace Go.Proofs.YtnnppcoplinajaaGreat
open Go.Ag
open Go.Sort (putRow putCells mapBlock onCells grow heap_grow_old Holds SWO)
structure Ro (w w':World):Prop where
 os:w'.os=w.os
 output:w'.output=w.output
 size:w.heap.size<=w'.heap.size
 block: ∀k,k<w.heap.size->w'.heap[k]? =w.heap[k]?
 tape:w'.tape=w.tape
 drawn:w.drawn<=w'.drawn
variable{G:Gh}{w:World}{h:aC aR}
def acz{w':World}(wr:WR G h w)(g:Ro w w')(f:Nat->Nat->Option aa)(D: ∀b o v,f b o=some v->w.heap.size<=b/\v.scal=true/\ ∃x,w'.cell? ⟨b,o,none⟩=some x/\VR G v x):
 ∃G':Gh,(∀b o v,f b o=some v->G'.ro b o=some v)/\G.le G'/\WR G' h w'/\cZ G h w G' h w' 0 0:=by
 let G':Gh:= {at_:=G.at_,ro:=fun b o=>if b<w.heap.size then G.ro b o else f b o,dim:=G.dim }
 have z: ∀b o v,G.ro b o=some v->b<w.heap.size:=fun b o v e=>by
  obtain⟨_,x,H,_⟩:=wr.ro b o v e;exact World.block_lt_of_cell? w ⟨b,o,none⟩ H
 have j:G.le G':=⟨fun _ _ e=>e,fun b o v e=>by
  show(if b<w.heap.size then G.ro b o else f b o)=some v;rw[iP (z b o v e)];exact e,fun _ _ e=>e⟩
 have p: ∀b o v,G'.ro b o=some v->(b<w.heap.size/\G.ro b o=some v)\/(¬b<w.heap.size/\f b o=some v):=fun b o v e=>by
  have e:(if b<w.heap.size then G.ro b o else f b o)=some v:=e;by_cases c:b<w.heap.size;rw[iP c] at e;exact .inl ⟨c,e⟩;rw[iN c] at e;exact .inr ⟨c,e⟩
 refine⟨G',fun b o v e=>?_,j,⟨?_,?_,?_,?_,?_,?_⟩,j,g.size,fun b c _=>g.block b c,fun b _ o=>o,fun n a e y=>(by have e:G.at_ n=some a:=e;rw[e] at y;cases y),?_,⟨g.os,g.output,g.size,fun a I=>World.frozen?_of_block (g.block _ I),g.tape,g.drawn⟩,fun b _ o=>o⟩;show(if b<w.heap.size then G.ro b o else f b o)=some v
 have:=(D b o v e).1;rw[iN (by omega)];exact e;intro n o e;obtain⟨a,m,q,t⟩:=wr.obj n o e;exact⟨a,m,q,(t.of_block (g.block _ (wr.below n a m))).mono j⟩;exact wr.sep;intro b o v e;rcases p b o v e with⟨c,e⟩|⟨c,e⟩
 obtain⟨m,x,q,t⟩:=wr.ro b o v e;exact⟨m,x,(World.cell?_of_block (g.block b c)).trans q,t.mono j⟩;obtain⟨_,m,x,q,t⟩:=D b o v e;exact⟨m,x,q,t.mono j⟩;intro n F a i v e E B;rcases p _ _ _ B with⟨_,B⟩|⟨c,_⟩
 exact wr.apart n F a i v e E B;exact absurd (wr.below n a E) c;intro b d e;obtain⟨C,J,m,q⟩:=wr.dim b d e;have c:b<w.heap.size:=by
  rcases nZ b w.heap.size with c|c
  exact c;rw[Array.getElem?_eq_none c] at m;cases m
 exact⟨C,J,(g.block b c).trans m,q⟩;exact fun n a e=>Nat.lt_of_lt_of_le (wr.below n a e) g.size;intro b o v c e y;rcases p b o v e with⟨_,e⟩|⟨A,_⟩
 rw[e] at y;cases y;exact absurd c A
section
variable{α:Type}[Inhabited α]
def Zt(enc:α->Value)(off:Nat)(d:Array α)(C:Array Value):(putCells enc off d C).size=C.size:=by simp[putCells]
def apf(enc:α->Value)(off:Nat)(d:Array α)(C:Array Value){i:Nat}(hi:i<d.size)(a:off+i<C.size):(putCells enc off d C)[off+i]? =some (enc d[i]!):=by
 simp[putCells,a,hi]
def aq8(enc:α->Value)(w:World)(a off n:Nat)(d:Array α)(os:Array Go.Obj){C:Array Value}{e:TypeId}(c:w.heap[a]? =some (.cells C e (0,0)))(k:Nat)(b:k<w.heap.size):
 (grow (putRow enc (Sort.ahead w n) a off d) os).heap[k]? =if k=a then some (.cells (putCells enc off d C) e (0,0)) else w.heap[k]? :=by
 rw[heap_grow_old _ _ (by simpa using b)];by_cases h:k=a;subst h;simp[putRow,mapBlock,Sort.ahead,Array.getElem?_modify,c,onCells];have g: ¬a=k:=fun e=>h e.symm;simp[putRow,mapBlock,Sort.ahead,Array.getElem?_modify,h,g]
def Kn(wr:WR G h w){m:Nat}{a:Addr}{cs cs':List aa}(z:h.get m=some (.cells cs))(x:G.at_ m=some a)(enc:α->Value)(d:Array α)(n:Nat)(os:Array Go.Obj)(H: ∀C e,w.heap[a.block]? =some (.cells C e (0,0))->a.off+d.size<=C.size)(I: ∀(i:Nat) v,cs'[i]? =some v->i<d.size/\v.scal=true/\VR G v (enc d[i]!)):
 ∃q,WR q (h.set m (some (.cells cs'))) (grow (putRow enc (Sort.ahead w n) a.block a.off d) os)/\cZ G h w q (h.set m (some (.cells cs'))) (grow (putRow enc (Sort.ahead w n) a.block a.off d) os) 0 0/\VR q (.tup []) (.tuple #[]):=by
 obtain⟨b,t,_,C,e,B,g,_⟩:=wr.obj m _ z;rw[x] at t;injection t with t;subst t
 have p:=wr.below m a x;have F:=H C e B;have j:(dU w a.block (.cells (putCells enc a.off d C) e (0,0))).heap[a.block]? =some (.cells (putCells enc a.off d C) e (0,0)):=by rw[jZ _ _ _ _ p,iP rfl]
 obtain⟨R,P⟩:=wr.changed (o':=.cells cs') (ob:=.cells (putCells enc a.off d C) e (0,0)) z x
  ⟨_,e,j,by rw[Zt];exact g,fun i v E=>by
    obtain⟨M,K,J⟩:=I i v E;exact⟨K,_,apf enc a.off d C M (by omega),J⟩⟩
  (fun i v D=>by
   have:=(wr.apart m _ a i v z x D).1;cases this)
  (fun S c=>by
   rw[g] at c;injection c with c
   exact⟨_,e,rfl,by rw[Zt];exact c⟩)
  rfl
 have y:Ro (dU w a.block (.cells (putCells enc a.off d C) e (0,0))) (grow (putRow enc (Sort.ahead w n) a.block a.off d) os):=by
  refine⟨rfl,rfl,?_,fun k A=>?_,rfl,?_⟩;rw[Dh];simp[grow];rw[Dh] at A;rw[aq8 enc w a.block a.off n d os B k A,jZ _ _ _ _ p];show w.drawn<=w.drawn+n;omega
 obtain⟨q,_,_,O,N⟩:=acz R y (fun _ _=>none) (by intro b o v e;cases e);exact⟨q,O,(P 0 0).trans N (br _) (br _),.tup .nil⟩
end
def LO: ∀ {cs:List aa} {l:List ag},wD cs=some l->cs=l.map aG
 | [],l,h=>by
   simp only[wD,aJ] at h;subst h;rfl
 |v::cs,l,h=>by
  unfold wD at h;split at h;rename_i e;cases e;rename_i a r e;injection e with d c
  subst d;subst c;simp only[ak,aJ] at h;obtain⟨l,b,rfl⟩:=h;rw[LO b];rfl;cases h
def uN(f:FuncId)(sp:List aa->Option pH):Prop:=
 ∀a (G:Gh) (h:aC aR) (w:World) (xs:List Value),WR G h w->ck G a xs->
  (sp a=some none->mM ae f ⟨xs⟩ w fun y d=> ∃c,WR c h d/\cZ G h w c h d 0 0/\VR c (.tup []) y)/\
  ∀n g cs b,sp a=some (some (n,g))->h.get n=some (.cells cs)->gm h.get (g cs)=some (.agg b)->
   mM ae f ⟨xs⟩ w fun y d=> ∃c,WR c (h.set n (some (.cells b))) d/\cZ G h w c (h.set n (some (.cells b))) d 0 0/\VR c (.tup []) y
def LK{sz m len lcap:Nat}{y:Value}(h:VR G (.arr sz m 0 len lcap) y): ∃(a b:Addr) (cap:Nat),y= .slice (some a) len cap/\G.at_ m=some b/\a.spot=none/\len<=cap/\(len=0\/(a.block=b.block/\a.off=b.off))/\(∃d,G.dim b.block=some d/\b.off+cap*sz<=d):=by
 cases h with
 |arr n j q p o c i g=>
  rename_i a b cap d;refine⟨a,b,cap,rfl,n,j,by omega,?_,d,i,by simpa using g⟩;rcases c with c|c
  exact .inl (by omega);exact .inr (by simpa using c)
def aq5:uN 140 GJ:=by
 intro a7 G h w xs S hx;refine⟨fun c=>?_,fun n g cs a9 c hl N=>?_⟩;unfold GJ at c;split at c;cases hx with
 |cons p q=>
  cases q;cases p;refine .inr ⟨Go.Proofs.enters_of Tryz.func140 (by kernel_rfl) rfl _ _,(AnyM.slices_Sort_string_none Tryz.sort48 none 0 w).mono ?_⟩;rintro e O ⟨rfl,rfl⟩;exact⟨_,rfl,G,S,.refl,.tup .nil⟩
 cases c;cases c;unfold GJ at c;split at c;cases c;rename_i m len a5;simp only[aJ,Prod.mk.injEq] at c;obtain⟨rfl,rfl⟩:=c;have N:=Gl N;obtain⟨hb,N⟩:=bh N;simp only[bu] at hb;have A:=Nat.eq_of_beq_eq_true hb.1;have a8:=fW hb.2;simp only[ak,aJ] at N;obtain⟨l,h1,rfl⟩:=N;have I:=LO h1;subst I;rw[List.length_map] at A;cases hx with
 |cons p q=>
  cases q;obtain⟨a,b,R,rfl,J,y,a6,a2,d,o,hd⟩:=LK p;obtain⟨b',z,_,C,e,hC,H,I⟩:=S.obj m _ hl;rw[J] at z;injection z with z;subst z
  rw[H] at o;injection o with o
  have a3: ∀i (B:i<l.length),C[b.off+i]? =some (encStr l[i]):=fun i B=>by
   obtain⟨_,x,Y,V⟩:=I i (aG l[i]) (by rw[jf,List.getElem?_eq_getElem B];rfl);cases V;exact Y
  have Z:(lW l).length=l.length:=(GG l).length_eq;have D: ∀n M, ∃K,WR K (h.set m (some (.cells ((lW l).map aG)))) (grow (putRow encStr (Sort.ahead w n) b.block b.off (lW l).toArray) M)/\cZ G h w K (h.set m (some (.cells ((lW l).map aG)))) (grow (putRow encStr (Sort.ahead w n) b.block b.off (lW l).toArray) M) 0 0/\VR K (.tup []) (.tuple #[]):=fun n M=>by
   refine Kn S hl J encStr (lW l).toArray n M (fun C' e' t=>?_) (fun i v B=>?_);rw[hC] at t;injection t with t;injection t with t _ _;subst t
   rw[List.size_toArray,Z,o];omega;rw[jf,Option.map_eq_some_iff] at B;obtain⟨s,hs,rfl⟩:=B;obtain⟨B,hs⟩:=List.getElem?_eq_some_iff.1 hs;refine⟨by simpa using B,rfl,?_⟩;have:(lW l).toArray[i]! =s:=by simp[B,hs]
   rw[this];exact .str s
  rcases a2 with h0|⟨F,E⟩
  have a0:l=[]:=List.eq_nil_of_length_eq_zero (by omega);subst a0;have a4:len=0:=h0;subst a4;refine .inr ⟨Go.Proofs.enters_of Tryz.func140 (by kernel_rfl) rfl _ _,(AnyM.slices_Sort_string_none Tryz.sort48 (some a) R w).mono ?_⟩;rintro e' O ⟨rfl,rfl⟩;obtain⟨K,U,T,g3⟩:=D 0 #[];have hw:grow (putRow encStr (Sort.ahead O 0) b.block b.off (lW []).toArray) #[]=O:=by
   rw[Go.Sort.grow_empty,Go.Sort.ahead_zero];exact Go.Sort.putRow_self encStr O b.block b.off _ (fun j hj=>by simp[lW] at hj)
  rw[hw] at U T;exact⟨_,rfl,K,U,T,g3⟩;obtain⟨ab,ao,b0⟩:=a;simp only at F E y;subst F;subst E;subst y;have hH:Holds encStr w b.block b.off l.toArray:=fun j hj=>by
   have P:j<l.length:=by simpa using hj
   refine⟨?_,by simp[World.frozen?,hC]⟩;rw[o0 hC,a3 j P];simp[P]
  have a1:=S.below m b J;rw[<-A];refine .inr ⟨Go.Proofs.enters_of Tryz.func140 (by kernel_rfl) rfl _ _,(AnyM.slices_Sort_string Tryz.sort48 b.block b.off R l w hH a1 (by omega)).mono ?_⟩;rintro e' O ⟨rfl,n,M,rfl⟩;rw[aqV];obtain⟨K,U,T,g3⟩:=D n M;exact⟨_,rfl,K,U,T,g3⟩
 cases c
end Go.Proofs.YtnnppcoplinajaaGreat
namespace Go.Proofs.YtnnppcoplinajaaGreat
open Go.Ag
def dP(k:ag):List Obj->Option Obj
 | []=>none
 |o::l=>bif k==o.id then some o else dP k l
theorem tS{k:ag}: ∀ {l:List Obj} {q:Obj},dP k l=some q->q∈l/\q.id=k
 | [],_,h=>by cases h
 |o::r,q,h=>by
  simp only[dP] at h;cases hb:k==o.id with
  |true=>
   rw[hb] at h;injection h with h;subst h
   have:k=o.id:=by simpa using hb
   exact⟨by simp,this.symm⟩
  |false=>
   rw[hb] at h;obtain⟨b,a⟩:=tS h;exact⟨by simp[b],a⟩
def OG(p k:ag):fN p k= !Ag.leBytes k p:=by
 rw[Ag.leBytes_iff,Go.Proofs.bytesLess_eq];by_cases h:k<=p;have a: ¬p<k:=List.not_lt.2 h;simp[lQ,h,a];have a:p<k:=List.not_le.1 h;simp[lQ,h,a]
def H9: ∀(l:List Obj) (last:ag),nP last l=true->(∀k∈l.map (·.id),fN last k=true)/\(l.map (·.id)).Pairwise (fun a b=>fN a b=true)
 | [],_,_=>⟨fun k h=>(by cases h),List.Pairwise.nil⟩
 |o::r,last,h=>by
  simp only[nP] at h;cases hb:(!gH o||Ag.leBytes o.id last) with
  |true=>rw[hb] at h;cases h
  |false=>
   rw[hb] at h;simp only[Bool.or_eq_false_iff] at hb;obtain⟨i,j⟩:=H9 r o.id h;have d:fN last o.id=true:=by rw[OG,hb.2];rfl
   refine⟨fun k c=>?_,List.pairwise_cons.2 ⟨i,j⟩⟩;rcases fc.1 c with rfl|c
   exact d;have g:=i k c;rw[Go.Proofs.bytesLess_eq,dE] at d g ⊢;exact List.lt_trans d g
def Xl(k:ag):fN k k=false:=by
 rw[Go.Proofs.bytesLess_eq];exact dN (List.lt_irrefl k)
def yK{l:List Obj}(h:dD l=true):(l.map (·.id)).Nodup:=by
 simp only[dD,bu] at h;refine(H9 l [] h.1).2.imp fun a e=>?_;subst e;rw[Xl] at a;cases a
theorem FR: ∀ {l:List Obj} {q:Obj},(l.map (·.id)).Nodup->q∈l->dP q.id l=some q
 | [],_,_,h=>by cases h
 |o::r,q,hn,h=>by
  simp only[List.map_cons,List.nodup_cons] at hn;simp only[dP];rcases fc.1 h with rfl|h
  simp;have:(q.id==o.id)=false:=bN.2 fun e=>hn.1 (by rw[<-e];exact dy.2 ⟨q,h,rfl⟩);rw[this];exact FR hn.2 h
def yF{g:aa->Option aa}: ∀ {l:List aa},(∀v∈l,g v=some v)->dL g l=some l
 | [],_=>rfl
 |v::l,h=>by
  have a:=yF (g:=g) (l:=l) fun u b=>h u (by simp[b]);simp only[dL,h v (by simp),a,au]
variable{xs:List aa}{k:Nat}
def H1(h:aC aR){n:Nat}{r:oW}(b:bL (.list n xs r)=true)(a: ∀v∈xs,cL h k v=some v):cL h (k+1) (.list n xs r)=some (.list n xs r):=by
 simp only[cL,yF a,au];cases r with
 |own m=>simp[bL] at b
 |_=>rfl
def agc(h:aC aR){o:Obj}(c:o.oM)(k:Nat):cL h (k+4) o.val=some o.val:=by
 have g:cL h (k+3) o.refsV=some o.refsV:=by
  have b:=c.pr;rcases c.gE with⟨e,_⟩|⟨r,e⟩
  rw[e];rfl;rw[e] at b ⊢;refine H1 h b fun v a=>?_;obtain⟨s,_,rfl⟩:=dy.1 a;rfl
 have d:cL h (k+3) o.tagsV=some o.tagsV:=by
  have b:=c.pt;rcases c.gT with⟨e,_⟩|⟨r,e⟩
  rw[e];rfl;rw[e] at b ⊢;refine H1 h b fun v a=>?_;obtain⟨s,_,rfl⟩:=dy.1 a;rfl
 show(dL (cL h (k+3)) o.cells).bind (fun r=>some (aa.agg r))=_;rw[yF (l:=o.cells) fun v a=>?_];rfl;simp only[Obj.cells,fc,List.not_mem_nil,or_false] at a;rcases a with rfl|rfl|rfl|rfl|rfl|rfl
 rfl;rfl;rfl;rfl;exact g;exact d
def fan{B:Nat}(T:0<B)(p:(Nat->Nat)->Nat->Prop)(mono: ∀ch n m,n<=m->p ch n->p ch m)(loc: ∀ch n,p ch n-> ∃k, ∀t,(∀i,i<k->t i=ch i)->p t n)(all: ∀ch,(∀i,ch i<B)-> ∃n,p ch n): ∃N, ∀ch,(∀i,ch i<B)->p ch N:=by
 classical
 let oM:List Nat->Prop:=fun l=> ∃N, ∀ch:Nat->Nat,(∀i,ch i<B)->(∀i x,l[i]? =some x->ch i=x)->p ch N
 have step: ∀l, ¬oM l-> ∃c,c<B/\ ¬oM (l++[c]):=by
  intro l K;refine sB fun H=>K ?_;have H: ∀c,c<B->oM (l++[c]):=fun c h=>sB fun S=>H ⟨c,h,S⟩;have C: ∀m,m<=B-> ∃N, ∀c,c<m-> ∀ch:Nat->Nat,(∀i,ch i<B)->(∀i x,(l++[c])[i]? =some x->ch i=x)->p ch N:=by
   intro m
   induction m with
   |zero=>exact fun _=>⟨0,fun c h=>by omega⟩
   |succ m y=>
    intro Y;obtain⟨V,P⟩:=y (by omega);obtain⟨U,D⟩:=H m (by omega);refine⟨max V U,fun c O ch a b=>?_⟩;by_cases h:c<m;exact mono _ _ _ (Nat.le_max_left _ _) (P c h ch a b);have:c=m:=by omega
    subst this;exact mono _ _ _ (Nat.le_max_right _ _) (D ch a b)
  obtain⟨N,I⟩:=C B (br _);refine⟨N,fun ch a b=>I (ch l.length) (a _) ch a fun i x o=>?_⟩;rcases nZ i l.length with h|h
  rw[BA h] at o;exact b i x o;rw[wd h] at o;cases E:i-l.length with
  |zero=>
   rw[E] at o;simp only[List.getElem?_cons_zero,aJ] at o;have:i=l.length:=by omega
   rw[this,o]
  |succ j=>rw[E] at o;simp at o
 refine sB fun A=>?_;have R: ¬oM []:=fun⟨N,I⟩=>A ⟨N,fun ch a=>I ch a fun i x o=>by simp at o⟩
 let d:Nat-> {l:List Nat // ¬oM l}:=fun n=>Nat.rec ⟨[],R⟩ (fun _ q=>⟨q.1++[(step q.1 q.2).choose],(step q.1 q.2).choose_spec.2⟩) n
 have g: ∀n,(d n).1.length=n:=by
  intro n
  induction n with
  |zero=>rfl
  |succ n y=>
   show((d n).1++[_]).length=_;rw[List.length_append,y];rfl
 let ch:Nat->Nat:=fun n=>(step (d n).1 (d n).2).choose
 have F: ∀n,ch n<B:=fun n=>(step (d n).1 (d n).2).choose_spec.1;have z: ∀n i,i<n->(d n).1[i]? =some (ch i):=by
  intro n
  induction n with
  |zero=>intro i h;omega
  |succ n y=>
   intro i h;show((d n).1++[ch n])[i]? =_;rcases nZ i n with D|D
   rw[BA (by rw[g];exact D)];exact y i D;have:i=n:=by omega
   subst this;rw[wd (by rw[g];exact br _),g];simp
 obtain⟨n,J⟩:=all ch F;obtain⟨k,M⟩:=loc ch n J;exact(d k).2 ⟨n,fun t _ b=>M t fun i E=>b i _ (z k i E)⟩
def ads(P:Program)(t:TypeId)(a b:List UInt8):eB P .gtr t (.str a) (.str b)=some (.bool (!Ag.leBytes a b)):=rfl
def alH(a b:ag):(!Ag.leBytes a b)=fN b a:=(OG b a).symm
def CW:Sp
 | [.int .i64 _a]=>some (.bool false)
 |_=>none
def amX{sp:SpZ}(b:sp 328=none)(a:Int)(s:St):aq (QS sp) 328 [.int .i64 a] s (.bool false) s:=by
 refine l8 Ja.1 Ja.2 Ja.3 Ja.4 b ?_;refine bt ?_;simp only[dJ,aaA,gI,aB,cK];refine bt ?_;simp only[dJ,ah,aB,EN];exact eA ⟨rfl,.inr rfl,dZ (by simp only[abc,ah, *]) rfl⟩
def amW:db ae 328 CW:=by
 intro args x b G h w xs c d;unfold CW at b;split at b;rename_i a;injection b with b;subst b
 exact ni (Q:=QT []) (mW .nil) (fun _=>nB 1) (args:=[.int .i64 a]) (v:=.bool false) (s':=s0) rfl (amX (sp:=fun f=>gL f []) rfl a s0) rfl ⟨1,rfl⟩ G h w xs c d;cases b
def jx(a b:Int):Int:=bif bc a b then-1 else bif bc b a then 1 else 0
def o5:Sp
 | [.int .i64 a,.int .i64 b]=>some (.int .i64 (jx a b))
 |_=>none
def ad4{sp:SpZ}(g:sp 232=none)(h1:sp 328=some CW)(a b:Int)(s:St):aq (QS sp) 232 [.int .i64 a,.int .i64 b] s (.int .i64 (jx a b)) s:=by
 have d:CW [.int .i64 a]=some (.bool false):=rfl;have c:CW [.int .i64 b]=some (.bool false):=rfl;refine l8 IT.1 IT.2 IT.3 IT.4 g ?_;refine bt ?_;simp only[dJ,aaA,gI,aB,bQ,cK];refine bt ?_;simp only[dJ,ah,aB,h1,d];refine bt ?_;simp only[dJ,ah,aB,h1,c];refine cU (bt ?_);simp only[dJ,ah,aB];refine ak7 ?_;simp only[dq];refine cU (bt ?_);simp only[dJ,ah,aB];refine ak7 ?_;simp only[dq];refine cU (bt ?_);simp only[dJ,ah,aB];cases h2:bc a b with
 |true=>
  refine ak9 (bt ?_);simp only[agI,cC,aB];exact eA ⟨rfl,.inr rfl,dZ (by simp only[abc,ah,jx,h2]) rfl⟩
 |false=>
  refine ak7 ?_;simp only[dq];refine cU (bt ?_);simp only[dJ,ah,aB];cases h3:bc b a with
  |true=>
   refine ak9 (bt ?_);simp only[agI,cC,aB];exact eA ⟨rfl,.inr rfl,dZ (by simp only[abc,ah,jx,h2,h3]) rfl⟩
  |false=>
   refine ak7 ?_;simp only[dq];refine bt ?_;simp only[agI,cC,aB];exact eA ⟨rfl,.inr rfl,dZ (by simp only[abc,ah,jx,h2,h3]) rfl⟩
def Lx:dX:=[(328,CW)]
def acq:dR Lx:=.cons amW .nil
def HH:db ae 232 o5:=by
 intro args x c G h w xs d g;unfold o5 at c;split at c;rename_i a b;injection c with c;subst c
 exact ni (Q:=QT Lx) (mW acq) (fun _=>nB 1) (args:=[.int .i64 a,.int .i64 b]) (v:=.int .i64 (jx a b)) (s':=s0) rfl (ad4 (sp:=fun f=>gL f Lx) rfl rfl a b s0) rfl ⟨1,rfl⟩ G h w xs d g;cases c
def CZ:Sp
 | [.str _a]=>some (.bool false)
 |_=>none
def amZ{sp:SpZ}(b:sp 325=none)(a:ag)(s:St):aq (QS sp) 325 [.str a] s (.bool false) s:=by
 refine l8 I9.1 I9.2 I9.3 I9.4 b ?_;refine bt ?_;simp only[dJ,aaA,gI,aB,cK];refine bt ?_;simp only[dJ,ah,aB];exact eA ⟨rfl,.inr rfl,dZ (by simp only[abc,ah, *]) rfl⟩
def amY:db ae 325 CZ:=by
 intro args x b G h w xs c d;unfold CZ at b;split at b;rename_i a;injection b with b;subst b
 exact ni (Q:=QT []) (mW .nil) (fun _=>nB 1) (args:=[.str a]) (v:=.bool false) (s':=s0) rfl (amZ (sp:=fun f=>gL f []) rfl a s0) rfl ⟨1,rfl⟩ G h w xs c d;cases b
def gu(a b:ag):Int:=bif fN a b then-1 else bif fN b a then 1 else 0
def pO:Sp
 | [.str a,.str b]=>some (.int .i64 (gu a b))
 |_=>none
def ad8{sp:SpZ}(g:sp 228=none)(h1:sp 325=some CZ)(a b:ag)(s:St):aq (QS sp) 228 [.str a,.str b] s (.int .i64 (gu a b)) s:=by
 have d:CZ [.str a]=some (.bool false):=rfl;have c:CZ [.str b]=some (.bool false):=rfl;refine l8 IQ.1 IQ.2 IQ.3 IQ.4 g ?_;refine bt ?_;simp only[dJ,aaA,gI,aB,bQ,cK];refine bt ?_;simp only[dJ,ah,aB,h1,d];refine bt ?_;simp only[dJ,ah,aB,h1,c];refine cU (bt ?_);simp only[dJ,ah,aB];refine ak7 ?_;simp only[dq];refine cU (bt ?_);simp only[dJ,ah,aB];refine ak7 ?_;simp only[dq];refine cU (bt ?_);simp only[dJ,ah,aB];cases h2:fN a b with
 |true=>
  refine ak9 (bt ?_);simp only[agI,cC,aB];exact eA ⟨rfl,.inr rfl,dZ (by simp only[abc,ah,gu,h2]) rfl⟩
 |false=>
  refine ak7 ?_;simp only[dq];refine cU (bt ?_);simp only[dJ,ah,aB,ads,alH];cases h3:fN b a with
  |true=>
   refine ak9 (bt ?_);simp only[agI,cC,aB];exact eA ⟨rfl,.inr rfl,dZ (by simp only[abc,ah,gu,h2,h3]) rfl⟩
  |false=>
   refine ak7 ?_;simp only[dq];refine bt ?_;simp only[agI,cC,aB];exact eA ⟨rfl,.inr rfl,dZ (by simp only[abc,ah,gu,h2,h3]) rfl⟩
def LA:dX:=[(325,CZ)]
def acw:dR LA:=.cons amY .nil
def Mi:db ae 228 pO:=by
 intro args x c G h w xs d g;unfold pO at c;split at c;rename_i a b;injection c with c;subst c
 exact ni (Q:=QT LA) (mW acw) (fun _=>nB 1) (args:=[.str a,.str b]) (v:=.int .i64 (gu a b)) (s':=s0) rfl (ad8 (sp:=fun f=>gL f LA) rfl rfl a b s0) rfl ⟨1,rfl⟩ G h w xs d g;cases c
def cd(n:Int):aa:=.int .i64 n
def asInt:aa->Option Int
 | .int .i64 n=>some n
 |_=>none
variable{v:aa}
def acP{n:Int}(h:asInt v=some n):v=cd n:=by
 unfold asInt at h;split at h;injection h with h;subst h;rfl
 cases h
def aU(p:Int×Int):aa:=.agg [.int .i64 p.1,.int .i64 p.2]
def jT:aa->Option (Int×Int)
 | .agg [.int .i64 a,.int .i64 b]=>some (a,b)
 |_=>none
def mj{p:Int×Int}(h:jT v=some p):v=aU p:=by
 unfold jT at h;split at h;injection h with h;subst h;rfl
 cases h
theorem wB(p:Int×Int):jT (aU p)=some p:=rfl
def Gb(p:Int×Int):bL (aU p)=true:=rfl
def mz:List Int->Int
 | []=>0
 |x::l=>bif an x 0 then mz l else x
variable{lc:Ag.Loc}{l:List Int}{s:St}
def aoW{sp:SpZ}(A:ay 1 cd v l)(i:l.length<small): ∀(b c:List Int) (e:ax),l=c++b->
 ac e 3= .int .i64 0->ac e 6=v->ac e 7= .int .i64 (l.length:Nat)->ac e 8= .int .i64 (c.length:Nat)->
 W (QS sp) 108 (.loop ahA) ⟨e,18,lc⟩ s fun x z D=>D=s/\z.size=18/\((x= .exit 0/\mz b=0/\ac z.env 3= .int .i64 0)\/(x= .ret/\ac z.env 2= .int .i64 (mz b))):=by
 intro b;have H:=A.ge;have F:=ajJ
 induction b with
 |nil=>
  intro c e d C B y g;have o:l.length=c.length:=by rw[d];simp
  refine kp ?_;refine bt ?_;simp only[dJ,aB,y,g,o,cD];refine cU (W.cnFZ ?_);exact W.exit ⟨rfl,rfl,.inl ⟨rfl,rfl,by simp only[abK,ah, *]⟩⟩
 |cons a b E=>
  intro c e d C B y g;have m:c.length<l.length:=by rw[d];simp
  have q:l[c.length]? =some a:=by rw[d];simp
  have p:=fun lc=>A.at ng.2.2.1 q lc .i64;have j:=ale (n:=c.length) (by omega);refine kp ?_;refine bt ?_;simp only[dJ,aB,y,g,m];refine cU (ak9 (fX ?_));simp only[dq];refine cU (jR (bt ?_));simp only[dJ,bP,ah,aB,j0,B,g,p,cd];refine bt ?_;simp only[dJ,ah,aB,C];cases hz:an a 0 with
  |false=>
   refine cQ (t:=true) (by simp only[abc,aA,ah,hG]) (bt ?_);simp only[dJ,ah,aB];exact eA ⟨rfl,rfl,.inr ⟨rfl,by simp only[abc,ah,mz,hz]⟩⟩
  |true=>
   refine cQ (t:=false) (by simp only[abc,aA,ah,fp]) (fX ?_);simp only[nH,dq];refine W.reg ?_;simp only[dJ,FlZ,ah,aB,g,j];refine(E (c++[a]) _ (by rw[d];simp) (by simp only[abK,ah, *]) (by simp only[abK,ah, *]) (by simp only[abK,ah, *]) (by simp only[abc,adz,ah])).mono ?_;simp only[mz,hz,cT];exact fun _ _ _ h=>h
def aoX{sp:SpZ}(o:sp 108=none)(g:ay 1 cd v l)(a:l.length<small)(s:St):aq (QS sp) 108 [v] s (.int .i64 (mz l)) s:=by
 have b:=fun m s=>g.lenS ng m s;have i:=g.ge;refine l8 Ij.1 Ij.2 Ij.3 Ij.4 o ?_;refine bt ?_;simp only[dJ,aaA,gI,aB,cK];refine bt ?_;simp only[agI,cC,aB];refine cU (bt ?_);simp only[dJ,ah,aB,agQ,i,b];refine jR ?_;refine(aoW g a l [] _ rfl (by simp only[abc,ah, *]) (by simp only[abc,ah, *]) (by simp only[abc,ah, *]) (by simp only[abc,ah];rfl)).mono ?_;rintro x ⟨e,sz,lc⟩ p ⟨rfl,c,⟨rfl,d,j⟩|⟨rfl,n⟩⟩;have c:sz=18:=c;subst c;have j:ac e 3= .int .i64 0:=j;show W (QS sp) 108 _ _ _ _;refine bt ?_;simp only[dJ,aB,j];exact eA ⟨rfl,.inr rfl,dZ (by simp only[abc,ah,d]) rfl⟩;exact⟨rfl,.inr rfl,dZ n rfl⟩
def vA:Sp
 | [a]=>bif pures [a] then(eX 1 asInt a).bind fun l=>bif bm l.length small then some (.int .i64 (mz l)) else none else none
 |_=>none
def Y1:db ae 108 vA:=by
 intro args x b G h w xs d g;unfold vA at b;split at b;rename_i a;obtain⟨c,b⟩:=bh b;simp only[ak] at b;obtain⟨l,m,b⟩:=b;obtain⟨i,b⟩:=bh b;injection b with b;subst b
 have j:=kr (fun v a=>acP) m;exact ni (Q:=QT []) (mW .nil) (fun _=>nB 1) (args:=[a]) (v:=.int .i64 (mz l)) (s':=s0) (xM c) (by rw[lh c];exact aoX (sp:=fun f=>gL f []) rfl j (fW i) s0) rfl ⟨1,rfl⟩ G h w xs d g;cases b
def u9:List (Int×Int)->Int
 | []=>0
 |p::l=>bif an (jx p.1 p.2) 0 then u9 l else jx p.1 p.2
variable{l:List (Int×Int)}
def afM{sp:SpZ}(i:sp 232=some o5)(B:ay 2 aU v l)(j:l.length<small): ∀(b c:List (Int×Int)) (e:ax) (lc:Ag.Loc),l=c++b->
 ac e 6=v->ac e 7= .int .i64 (l.length:Nat)->ac e 8= .int .i64 (c.length:Nat)->
 W (QS sp) 462 (.loop akP) ⟨e,21,lc⟩ s fun x D E=>E=s/\D.size=21/\((x= .exit 0/\u9 b=0)\/(x= .ret/\ac D.env 2= .int .i64 (u9 b))):=by
 intro b;have K:=B.ge;have J:=ajJ
 induction b with
 |nil=>
  intro c e lc d C A g;have q:l.length=c.length:=by rw[d];simp
  refine kp ?_;refine bt ?_;simp only[dJ,aB,A,g,q,cD];refine cU (W.cnFZ ?_);exact W.exit ⟨rfl,rfl,.inl ⟨rfl,rfl⟩⟩
 |cons a b I=>
  intro c e lc d C A g;have p:c.length<l.length:=by rw[d];simp
  have z:l[c.length]? =some a:=by rw[d];simp
  have y:=fun lc=>B.at P9.2.2.1 z lc .i64;have o:o5 [.int .i64 a.1,.int .i64 a.2]=some (.int .i64 (jx a.1 a.2)):=rfl;have m:=ale (n:=c.length) (by omega);have H: ∀k,dS (.int k 0)=some 0:=fun _=>rfl;have F: ∀k,dS (.int k 1)=some 1:=fun _=>rfl;refine kp ?_;refine bt ?_;simp only[dJ,aB,A,g,p];refine cU (ak9 (fX ?_));simp only[dq];refine cU (jR (bt ?_));simp only[dJ,FbZ,cut,fL,List.take,bP,ah,aB,bQ,cK,apu,Ve,C,g,y,aU];refine bt ?_;simp only[dJ,FbZ,bP,ah,aB,ee,j0,H,F,i,o];refine bt ?_;simp only[dJ,ah,aB];cases hz:an (jx a.1 a.2) 0 with
  |false=>
   refine cQ (t:=true) (by simp only[abc,aA,ah,hG]) (bt ?_);simp only[dJ,ah,aB];exact eA ⟨rfl,rfl,.inr ⟨rfl,by simp only[abc,ah,u9,hz]⟩⟩
  |true=>
   refine cQ (t:=false) (by simp only[abc,aA,ah,fp]) (fX ?_);simp only[nH,dq];refine W.reg ?_;simp only[dJ,FlZ,ah,aB,g,m];refine(I (c++[a]) _ _ (by rw[d];simp) (by simp only[abK,ah, *]) (by simp only[abK,ah, *]) (by simp only[abc,adz,ah])).mono ?_;simp only[u9,hz,cT];exact fun _ _ _ h=>h
def afN{sp:SpZ}(o:sp 462=none)(c:sp 232=some o5)(i:ay 2 aU v l)(a:l.length<small)(s:St):aq (QS sp) 462 [v] s (.int .i64 (u9 l)) s:=by
 have b:=fun m s=>i.lenS P9 m s;have j:=i.ge;refine l8 Jl.1 Jl.2 Jl.3 Jl.4 o ?_;refine bt ?_;simp only[dJ,aaA,gI,aB,cK];refine cU (bt ?_);simp only[dJ,ah,aB,Ve,j,b];refine jR ?_;refine(afM c i a l [] _ _ rfl (by simp only[abc,ah, *]) (by simp only[abc,ah, *]) (by simp only[abc,ah];rfl)).mono ?_;rintro x ⟨e,sz,lc⟩ p ⟨rfl,d,⟨rfl,g⟩|⟨rfl,n⟩⟩;have d:sz=21:=d;subst d;show W (QS sp) 462 _ _ _ _;refine bt ?_;simp only[agI,cC,aB];exact eA ⟨rfl,.inr rfl,dZ (by simp only[aj,ah,cT,g]) rfl⟩;exact⟨rfl,.inr rfl,dZ n rfl⟩
def ED:Sp
 | [a]=>bif pures [a] then(eX 2 jT a).bind fun l=>bif bm l.length small then some (.int .i64 (u9 l)) else none else none
 |_=>none
def Lz:dX:=[(232,o5)]
def acv:dR Lz:=.cons HH .nil
def afL:db ae 462 ED:=by
 intro args x b G h w xs d g;unfold ED at b;split at b;rename_i a;obtain⟨c,b⟩:=bh b;simp only[ak] at b;obtain⟨l,m,b⟩:=b;obtain⟨i,b⟩:=bh b;injection b with b;subst b
 have j:=kr (fun v a=>mj) m;exact ni (Q:=QT Lz) (mW acv) (fun _=>nB 1) (args:=[a]) (v:=.int .i64 (u9 l)) (s':=s0) (xM c) (by rw[lh c];exact afN (sp:=fun f=>gL f Lz) rfl rfl j (fW i) s0) rfl ⟨1,rfl⟩ G h w xs d g;cases b
def gg(a b:Int×Int):Int:=u9 [(a.1,b.1),(a.2,b.2)]
variable{e:ax}
def adr{x y:Operand}{a b c d:aa}(i:ev e x=some (.agg [a,b]))(g:ev e y=some (.agg [c,d]))(s:St):bj ae 535 2 [(0,x),(1,y)] false e s=some (.list 2 [.agg [a,b],.agg [c,d]] .uP,s):=by
 simp only[akZ,bj,P9,bg,evc,i,g,aa.ge,aZ,aa.cells,List.length_cons,List.length_nil,fL,Nat.zero_mul,Nat.zero_add,bQ,ee,bf,cut];rfl
def apb{sp:SpZ}(i:sp 379=none)(c:sp 462=some ED)(a b:Int×Int)(s:St):aq (QS sp) 379 [aU a,aU b] s (.int .i64 (gg a b)) s:=by
 have g: ∀e s,ac e 9= .agg [.int .i64 a.1,.int .i64 b.1]->ac e 14= .agg [.int .i64 a.2,.int .i64 b.2]->bj ae 535 2 [(0,.tmp 9),(1,.tmp 14)] false e s=some (.list 2 [.agg [.int .i64 a.1,.int .i64 b.1],.agg [.int .i64 a.2,.int .i64 b.2]] .uP,s):=fun e s p q=>adr (by rw[aA,p]) (by rw[aA,q]) s;have d:ED [.list 2 [.agg [.int .i64 a.1,.int .i64 b.1],.agg [.int .i64 a.2,.int .i64 b.2]] .uP]=some (.int .i64 (gg a b)):=rfl;refine l8 Jg.1 Jg.2 Jg.3 Jg.4 i ?_;refine bt ?_;simp only[dJ,aaA,gI,ah,aB,bQ,cK,Vd,aU];refine bt ?_;simp only[dJ,FbZ,fL,List.take,bP,ah,aB,bQ,ee,cK,ac3,j0,Aw,EB,Vd,bg,g,c,d];exact eA ⟨rfl,.inr rfl,dZ (by simp only[abc,ah, *]) rfl⟩
def si:Sp
 | [a,b]=>(jT a).bind fun p=>(jT b).bind fun q=>some (.int .i64 (gg p q))
 |_=>none
def Lw:dX:=[(462,ED)]
def acp:dR Lw:=.cons afL .nil
def PG:db ae 379 si:=by
 intro args x a G h w xs d g;unfold si at a;split at a;simp only[ak,aJ] at a;obtain⟨p,c,q,b,rfl⟩:=a;have c:=mj c;have b:=mj b;subst c;subst b;exact ni (Q:=QT Lw) (mW acp) (fun _=>nB 1) (args:=[aU p,aU q]) (v:=.int .i64 (gg p q)) (s':=s0) rfl (apb (sp:=fun f=>gL f Lw) rfl rfl p q s0) rfl ⟨1,rfl⟩ G h w xs d g;cases a
def fH:List ag->List ag->Int
 | [],[]=>0
 | [],_::_=> -1
 |_::_,[]=>1
 |a::x,b::y=>bif an (gu a b) 0 then fH x y else gu a b
variable{l:List ag}{u:aa}
theorem arl{sp:SpZ}(D:sp 228=some pO){r:List ag}(U:ay 1 aG v l)(J:ay 1 aG u r)(E:l.length<small): ∀(j c d g:List ag) (e:ax),l=d++j->r=g++c->d.length=g.length->
 ac e 0=v->ac e 1=u->ac e 9=v->ac e 10= .int .i64 (l.length:Nat)->ac e 11= .int .i64 (d.length:Nat)->
 W (QS sp) 136 (.loop ahW) ⟨e,36,lc⟩ s fun x F Y=>Y=s/\F.size=36/\((x= .exit 0/\fH j c=(bif decide (l.length<r.length) then-1 else 0)/\ac F.env 0=v/\ac F.env 1=u)\/(x= .ret/\ac F.env 4= .int .i64 (fH j c))):=by
 intro j;have a1:=U.ge;have R:=J.ge;have z:=fun Z s=>J.lenS cH Z s;have a0:=ajJ
 induction j with
 |nil=>
  intro c d g e m i q h0 T V A p;have M:l.length=d.length:=by rw[m];simp
  have o:r.length=g.length+c.length:=by rw[i];simp
  refine kp ?_;refine bt ?_;simp only[dJ,aB,A,p,M,cD];refine cU (W.cnFZ ?_);refine W.exit ⟨rfl,rfl,.inl ⟨rfl,?_,by simp only[abK,ah, *],by simp only[abK,ah, *]⟩⟩;cases c with
  |nil=>
   have:decide (d.length<r.length)=false:=dN (by simp at o;omega);rw[this];rfl
  |cons b y=>
   have:decide (d.length<r.length)=true:=dQ (by simp at o;omega);rw[this];rfl
 |cons a j ih=>
  intro c d g e m i q h0 T V A p;have K:d.length<l.length:=by rw[m];simp
  have S:l[d.length]? =some a:=by rw[m];simp
  have o:r.length=g.length+c.length:=by rw[i];simp
  have O:=fun lc=>U.at cH.2.2.1 S lc .i64;have H:=ale (n:=d.length) (by omega);refine kp ?_;refine bt ?_;simp only[dJ,aB,A,p,K];refine cU (ak9 (fX ?_));simp only[dq];refine cU (jR (bt ?_));simp only[dJ,bP,ah,aB,iB,V,p,O,aG];refine cU (bt ?_);have P:cr ((r.length:Nat):Int) ((d.length:Nat):Int)=decide (r.length<=d.length):=EO _ _;simp only[dJ,ah,aB,T,R,z,P];cases c with
  |nil=>
   have:decide (r.length<=d.length)=true:=dQ (by simp at o;omega);refine cQ (t:=true) (by simp only[abc,aA,ah,this]) (bt ?_);simp only[agI,cC,aB];exact eA ⟨rfl,rfl,.inr ⟨rfl,by simp only[abc,ah,fH]⟩⟩
  |cons b y=>
   have B:decide (r.length<=d.length)=false:=dN (by simp at o;omega);have C:r[d.length]? =some b:=by rw[i,q];simp
   have N:=fun lc=>J.at cH.2.2.1 C lc .i64;have I:pO [.str a,.str b]=some (.int .i64 (gu a b)):=rfl;refine cQ (t:=false) (by simp only[abc,aA,ah,B]) (fX ?_);simp only[dq];refine bt ?_;simp only[dJ,bP,ah,aB,iB,T,N,aG];refine bt ?_;simp only[dJ,ah,aB,D,I];refine bt ?_;simp only[dJ,ah,aB];cases hz:an (gu a b) 0 with
   |false=>
    refine cQ (t:=true) (by simp only[abc,aA,ah,hG]) (bt ?_);simp only[dJ,ah,aB];exact eA ⟨rfl,rfl,.inr ⟨rfl,by simp only[abc,ah,fH,hz]⟩⟩
   |true=>
    refine cQ (t:=false) (by simp only[abc,aA,ah,fp]) (fX ?_);simp only[nH,dq];refine W.reg ?_;simp only[dJ,FlZ,ah,aB,p,H];refine(ih y (d++[a]) (g++[b]) _ (by rw[m];simp) (by rw[i];simp) (by simp[q]) (by simp only[abK,ah, *]) (by simp only[abK,ah, *]) (by simp only[abK,ah, *]) (by simp only[abK,ah, *]) (by simp only[abc,adz,ah])).mono ?_
    grind [fH]
def arm{sp:SpZ}(z:sp 136=none)(i:sp 228=some pO){r:List ag}(o:ay 1 aG v l)(n:ay 1 aG u r)(a:l.length<small)(s:St):aq (QS sp) 136 [v,u] s (.int .i64 (fH l r)) s:=by
 have b:=fun j s=>o.lenS cH j s;have c:=fun j s=>n.lenS cH j s;have g:=o.ge;have p:=n.ge;refine l8 Io.1 Io.2 Io.3 Io.4 z ?_;refine bt ?_;simp only[dJ,aaA,gI,aB,bQ,cK];refine cU (bt ?_);simp only[dJ,ah,aB,U9,g,b];refine jR ?_;refine(arl i o n a l r [] [] _ rfl rfl rfl (by simp only[abc,ah, *]) (by simp only[abc,ah, *]) (by simp only[abc,ah, *]) (by simp only[abc,ah, *]) (by simp only[abc,ah];rfl)).mono ?_;rintro x ⟨e,sz,lc⟩ A ⟨rfl,m,⟨rfl,d,t,q⟩|⟨rfl,y⟩⟩;have m:sz=36:=m;subst m;have t:ac e 0=v:=t;have q:ac e 1=u:=q;show W (QS sp) 136 _ _ _ _;refine cU (bt ?_);simp only[dJ,ah,aB,U9,t,q,g,p,b,c];cases hd:decide (l.length<r.length) with
 |true=>
  refine ak9 (bt ?_);simp only[agI,cC,aB];exact eA ⟨rfl,.inr rfl,dZ (by simp only[abc,ah,d,hd]) rfl⟩
 |false=>
  refine ak7 ?_;simp only[dq];refine bt ?_;simp only[agI,cC,aB];exact eA ⟨rfl,.inr rfl,dZ (by simp only[abc,ah,d,hd]) rfl⟩
 exact⟨rfl,.inr rfl,dZ y rfl⟩
def DB:Sp
 | [a,b]=>bif pures [a,b] then(eX 1 jl a).bind fun l=>(eX 1 jl b).bind fun r=>bif bm l.length small then some (.int .i64 (fH l r)) else none else none
 |_=>none
def Ly:dX:=[(228,pO)]
def acr:dR Ly:=.cons Mi .nil
def arh:db ae 136 DB:=by
 intro args x c G h w xs g i;unfold DB at c;split at c;rename_i a b;obtain⟨d,c⟩:=bh c;simp only[ak] at c;obtain⟨l,p,r,o,c⟩:=c;obtain⟨j,c⟩:=bh c;injection c with c;subst c
 have n:=kr (fun v a=>pM) p;have m:=kr (fun v a=>pM) o;exact ni (Q:=QT Ly) (mW acr) (fun _=>nB 1) (args:=[a,b]) (v:=.int .i64 (fH l r)) (s':=s0) (xM d) (by rw[lh d];exact arm (sp:=fun f=>gL f Ly) rfl rfl n m (fW j) s0) rfl ⟨1,rfl⟩ G h w xs g i;cases c
def abu:List fE->List ag
 | []=>[]
 |t::l=>t.1::t.2::abu l
def ol:(aa.nilp).ge=true:=rfl
section
variable{sp:SpZ}{ch:Nat->Nat}
def at_(k:ag)(L:List (ag×aa)):aa:=(look k L).getD .nilp
end
abbrev Cf:=ag×ag
def wK(a b:Cf):Bool:=bif a.1==b.1 then bif a.2==b.2 then true else false else false
def Tb(a b:Cf):wK a b=true↔a=b:=by
 obtain⟨i,g⟩:=a;obtain⟨d,c⟩:=b;unfold wK;constructor;intro h;cases h1:i==d with
 |false=>simp only[h1,cF,K4] at h
 |true=>
  cases h2:g==c with
  |false=>simp only[h1,h2,cT,cF,K4] at h
  |true=>rw[eq_of_beq h1,eq_of_beq h2]
 intro h;cases h;simp
def arf{r:List ag}(i:ay 1 aG v l)(d:ay 1 aG u r)(c:bL v=true)(a:bL u=true)(g:l.length<small):DB [v,u]=some (.int .i64 (fH l r)):=by
 have b:bm l.length small=true:=cP g;simp only[akZ,DB,pures,c,a,cw,mX oc i,mX oc d,b]
def gh(a b:Int×Int):Bool:=bif an a.1 b.1 then bif an a.2 b.2 then true else false else false
inductive Rows:List aa->List (List ag)->Prop
 |nil:Rows [] []
 |cons {v:aa} {l:List ag} {vs:List aa} {ls:List (List ag)}:ay 1 aG v l->bL v=true->Rows vs ls->Rows (v::vs) (l::ls)
section
variable{Q:aH}{f:FuncId}
def afV:dt->Bool
 | .none=>true
 | .loc _=>true
 |_=>false
def WX(Q:aH)(f:FuncId)(s:St):List aw->Fr->(Fr->Prop)->Prop
 | [],fr,N=>N fr
 |o::l,fr,N=> ∃v a,fU fr.env o.g=true/\cM Q f o [] fr s=some (v,fr.loc,s)/\isStore o.op=false/\afV (cu (Q.hint f) o.dst fr.env o.op)=true/\di fr o.dst v fr.loc=some a/\WX Q f s l a N
end
def cR(sz lo:Nat)(s:St)(ov:aa)(xs:List aa):Prop:=(ov= .oZ/\xs=[])\/(xs≠ []/\ ∃k,ov= .list sz xs (.own k)/\s.get [] k=some .tok/\lo<=k/\k<s.aL)
variable{lo sz:Nat}{ov:aa}
def cR.ge(h:cR sz lo s ov xs):ov.ge=true:=by
 rcases h with⟨rfl,_⟩|⟨_,k,rfl,_⟩<;>rfl
theorem dh(s:St)(n:Nat)(o:Option aR)(h:s.gt<=s.aL):(s.put n o).gt<=(s.put n o).aL:=by
 show(bif Nat.ble s.gt n then s.gt else n)<=s.aL;cases hb:Nat.ble s.gt n with
 |true=>exact h
 |false=>
  have: ¬s.gt<=n:=fun a=>by rw[cP a] at hb;cases hb
  simp only[cF];omega
def Eb{t:TypeId}{E:EI}(z:lV ae t=some E)(C:E.n=sz)(A:E.b<=88){y:aa}{ys:List aa}(h:cR sz lo s ov xs)(o:eE [] E.g E.n y s=some ys)(c:xs.length+ys.length<=1000000)(j:lo<=s.aL)(x:s.gt<=s.aL):
 ∃a d,fF ae [] t ov y false s=some (a,d)/\cR sz lo d a (xs++ys)/\d.ci=s.ci/\s.aL<=d.aL/\d.gt<=d.aL/\(∀n,n<lo->d.get [] n=s.get [] n)/\a.cells=[a]:=by
 subst C;have i:yL ov=true/\ov.cells=[ov]:=by rcases h with⟨rfl,_⟩|⟨_,k,rfl,_⟩<;>exact⟨rfl,rfl⟩
 cases ys with
 |nil=>
  refine⟨ov,s,?_,by rw[List.append_nil];exact h,rfl,br _,x,fun _ _=>rfl,i.2⟩;simp only[akZ,fF,z,o,i.1]
 |cons m ys=>
  rcases h with⟨rfl,rfl⟩|⟨B,k,rfl,D,H,F⟩
  have p:jc (m::ys).length E.b=true:=vI (by simpa using c) A;refine⟨.list E.n (m::ys) (.own s.aL),s.new .tok,?_,.inr ⟨by simp,s.aL,rfl,by rw[fk,bS];rfl,j,kU _⟩,rfl,Nat.le_succ _,cq x,fun n q=>?_,rfl⟩;simp only[akZ,fF,z,o,jG,kL,p,cF];rw[fk,bN.2 (by omega)];rfl;have p:jc (xs.length+(m::ys).length) E.b=true:=vI c A;refine⟨.list E.n (xs++(m::ys)) (.own s.aL),(s.put k none).new .tok,?_,.inr ⟨by simp,s.aL,rfl,by rw[fk,lR,bS];rfl,j,kU _⟩,rfl,Nat.le_succ _,cq (dh s k none x),fun n q=>?_,rfl⟩;simp only[afo,fF,z,au,o,jG,D,p,cw];rw[fk,lR,bN.2 (by omega),cF,aX,bN.2 (by omega)];rfl
def Zr: ∀l:List ag,pures (l.map aG)=true
 | []=>rfl
 |a::l=>by
  show(bL (aG a)&&pures (l.map aG))=true;rw[Zr l];rfl
def apr:oW->Bool
 | .own _=>false
 |_=>true
def Gj(l:List ag)(r:oW):bL (.list 1 (l.map aG) r)=apr r:=by
 show(pures (l.map aG)&&_)=_;rw[Zr];cases r<;>rfl
def ar1:ae.underlying 25=some (.slice 9):=by kernel_rfl
def qy(P:Program)(t:TypeId)(a b:Int):eB P .mul t (.int .i64 a) (.int .i64 b)=some (.int .i64 (IntKind.i64.wrap (a*b))):=rfl
def up(T:List Int)(o:Nat):Int:=(T[o]?).getD 0
def GL(a b:List ag)(w i k:Nat)(T:List Int):List Int:=
 T.set (i*w+k) (bif(a[i]?).getD []==(b[k]?).getD [] then IntKind.i32.wrap (up T ((i+1)*w+(k+1))+1) else bif bc (up T ((i+1)*w+k)) (up T (i*w+(k+1))) then up T (i*w+(k+1)) else up T ((i+1)*w+k))
def Py{Q:aH}{f:FuncId}{d:Option Tmp}{g:SG}{mk:aK}(t:TypeId)(l c:Operand):cM Q f ⟨d,.makeSlice t l c,g⟩ mk ⟨e,sz,lc⟩ s=(ev e l).bind fun l=>(ev e c).bind fun c=>gW (ow Q.P t l c (Nat.beq (pg (Q.hint f) d) 2) s) lc:=rfl
theorem Bd{l:List aa}(h: ∀v∈l,bL v=true):pures l=true:=by
 induction l with
 |nil=>rfl
 |cons a l b=>
  show(bL a&&pures l)=true;rw[h a (by simp),b fun v c=>h v (by simp[c])];rfl
def fI(sz:Nat):List aa->aa
 | []=>.oZ
 |x::l=>.list sz (x::l) .no
def AE{h:aC aR}(g:cR sz lo s ov xs)(d: ∀v∈xs,cL h k v=some v):cL h (k+1) ov=some (fI sz xs):=by
 rcases g with⟨rfl,rfl⟩|⟨b,n,rfl,_⟩
 rfl;show(dL (cL h k) xs).bind (fun c=>some (aa.list sz c .no))=_;rw[yF d];cases xs with
 |nil=>exact absurd rfl b
 |cons a l=>rfl
