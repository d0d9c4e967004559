/- Lemmas for ValidParts. -/
import Derived.Test.YtnnppcoplinajaaGreatB3
import Derived.Test.YtnnppcoplinajaaGreatB4
set_option linter.all false
open Bool renaming and_eq_true→bm,and_self→bW,false_eq_true→zt,not_false→kp,not_true→jp
open Classical renaming byContradiction→su
open List renaming drop→bK,getElem?_append_left→Bk,getElem?_append_right→t6,getElem?_map→iw,length_append→cD,mem_cons→dl,mem_map→cx
open Nat renaming ble_eq_true_of_le→cE,blt→bh,le_of_ble_eq_true→fF,le_refl→bk,le_succ_of_le→bU,lt_irrefl→cq,lt_or_ge→nG,lt_succ_self→kF,reduceAdd→bG,reduceBEq→ai,reduceLT→ay,reduceLeDiff→cy,reduceMul→dw,zero_lt_succ→nH
open Go.Op renaming bytesLess→eR
open Option renaming bind_eq_some_iff→aj,bind_some→bg
open Option.some renaming injEq→aH
open Go.Ag.aq renaming of2→lu
open Go.Proofs.Tryz renaming prog→ah
open Go.Ag.W renaming block→jX,cnSZ→kX,cnTZ→lw,cond→jc,loop1→kq,ret→dZ,seq→cK,skip→lY,sreg→br
namespace Go.Proofs.YtnnppcoplinajaaGreat
open Go.Ag
open Go.Sort (putRow putCells mapBlock onCells grow heap_grow_old Holds SWO)
structure Sz (w w':World):Prop where
 os:w'.os=w.os
 output:w'.output=w.output
 size:w.heap.size<=w'.heap.size
 block: ∀k,k<w.heap.size->w'.heap[k]? =w.heap[k]?
 tape:w'.tape=w.tape
 drawn:w.drawn<=w'.drawn
variable{G:Gh}{w:World}{h:aC aJ}
def ae0{w':World}(wr:WR G h w)(g:Sz w w')(f:Nat->Nat->Option aa)(D: ∀b o v,f b o=some v->w.heap.size<=b/\v.scal=true/\ ∃x,w'.cell? ⟨b,o,none⟩=some x/\VR G v x):
 ∃G':Gh,(∀b o v,f b o=some v->G'.ro b o=some v)/\G.le G'/\WR G' h w'/\cJ G h w G' h w' 0 0:=by
 let G':Gh:= {at_:=G.at_,ro:=fun b o=>if b<w.heap.size then G.ro b o else f b o,dim:=G.dim }
 have z: ∀b o v,G.ro b o=some v->b<w.heap.size:=fun b o v e=>by
  obtain⟨_,x,H,_⟩:=wr.ro b o v e;exact World.block_lt_of_cell? w ⟨b,o,none⟩ H
 have j:G.le G':=⟨fun _ _ e=>e,fun b o v e=>by
  show(if b<w.heap.size then G.ro b o else f b o)=some v;rw[iP (z b o v e)];exact e,fun _ _ e=>e⟩
 have p: ∀b o v,G'.ro b o=some v->(b<w.heap.size/\G.ro b o=some v)\/(¬b<w.heap.size/\f b o=some v):=fun b o v e=>by
  have e:(if b<w.heap.size then G.ro b o else f b o)=some v:=e;by_cases c:b<w.heap.size;rw[iP c] at e;exact .inl ⟨c,e⟩;rw[iN c] at e;exact .inr ⟨c,e⟩
 refine⟨G',fun b o v e=>?_,j,⟨?_,?_,?_,?_,?_,?_⟩,j,g.size,fun b c _=>g.block b c,fun b _ o=>o,fun n a e y=>(by have e:G.at_ n=some a:=e;rw[e] at y;cases y),?_,⟨g.os,g.output,g.size,fun a I=>World.frozen?_of_block (g.block _ I),g.tape,g.drawn⟩,fun b _ o=>o⟩;show(if b<w.heap.size then G.ro b o else f b o)=some v
 have:=(D b o v e).1;rw[iN (by omega)];exact e;intro n o e;obtain⟨a,m,q,t⟩:=wr.obj n o e;exact⟨a,m,q,(t.of_block (g.block _ (wr.below n a m))).mono j⟩;exact wr.sep;intro b o v e;rcases p b o v e with⟨c,e⟩|⟨c,e⟩
 obtain⟨m,x,q,t⟩:=wr.ro b o v e;exact⟨m,x,(World.cell?_of_block (g.block b c)).trans q,t.mono j⟩;obtain⟨_,m,x,q,t⟩:=D b o v e;exact⟨m,x,q,t.mono j⟩;intro n F a i v e E B;rcases p _ _ _ B with⟨_,B⟩|⟨c,_⟩
 exact wr.apart n F a i v e E B;exact absurd (wr.below n a E) c;intro b d e;obtain⟨C,J,m,q⟩:=wr.dim b d e;have c:b<w.heap.size:=by
  rcases nG b w.heap.size with c|c
  exact c;rw[Array.getElem?_eq_none c] at m;cases m
 exact⟨C,J,(g.block b c).trans m,q⟩;exact fun n a e=>Nat.lt_of_lt_of_le (wr.below n a e) g.size;intro b o v c e y;rcases p b o v e with⟨_,e⟩|⟨A,_⟩
 rw[e] at y;cases y;exact absurd c A
section
variable{α:Type}[Inhabited α]
def abF(enc:α->Value)(off:Nat)(d:Array α)(C:Array Value):(putCells enc off d C).size=C.size:=by simp[putCells]
def atR(enc:α->Value)(off:Nat)(d:Array α)(C:Array Value){i:Nat}(a:i<d.size)(b:off+i<C.size):(putCells enc off d C)[off+i]? =some (enc d[i]!):=by
 simp[putCells,b,a]
def avY(enc:α->Value)(w:World)(a off n:Nat)(d:Array α)(os:Array Go.Obj){C:Array Value}{e:TypeId}(c:w.heap[a]? =some (.cells C e (0,0)))(k:Nat)(b:k<w.heap.size):
 (grow (putRow enc (Sort.ahead w n) a off d) os).heap[k]? =if k=a then some (.cells (putCells enc off d C) e (0,0)) else w.heap[k]? :=by
 rw[heap_grow_old _ _ (by simpa using b)];by_cases h:k=a;subst h;simp[putRow,mapBlock,Sort.ahead,Array.getElem?_modify,c,onCells];have g: ¬a=k:=fun e=>h e.symm;simp[putRow,mapBlock,Sort.ahead,Array.getElem?_modify,h,g]
def JS(wr:WR G h w){m:Nat}{a:Addr}{cs cs':List aa}(z:h.get m=some (.cells cs))(x:G.at_ m=some a)(enc:α->Value)(d:Array α)(n:Nat)(os:Array Go.Obj)(H: ∀C e,w.heap[a.block]? =some (.cells C e (0,0))->a.off+d.size<=C.size)(I: ∀(i:Nat) v,cs'[i]? =some v->i<d.size/\v.scal=true/\VR G v (enc d[i]!)):
 ∃q,WR q (h.set m (some (.cells cs'))) (grow (putRow enc (Sort.ahead w n) a.block a.off d) os)/\cJ G h w q (h.set m (some (.cells cs'))) (grow (putRow enc (Sort.ahead w n) a.block a.off d) os) 0 0/\VR q (.tup []) (.tuple #[]):=by
 obtain⟨b,t,_,C,e,B,g,_⟩:=wr.obj m _ z;rw[x] at t;injection t with t;subst t
 have p:=wr.below m a x;have F:=H C e B;have j:(dt w a.block (.cells (putCells enc a.off d C) e (0,0))).heap[a.block]? =some (.cells (putCells enc a.off d C) e (0,0)):=by rw[jC _ _ _ _ p,iP rfl]
 obtain⟨R,P⟩:=wr.changed (o':=.cells cs') (ob:=.cells (putCells enc a.off d C) e (0,0)) z x
  ⟨_,e,j,by rw[abF];exact g,fun i v E=>by
    obtain⟨M,K,J⟩:=I i v E;exact⟨K,_,atR enc a.off d C M (by omega),J⟩⟩
  (fun i v D=>by
   have:=(wr.apart m _ a i v z x D).1;cases this)
  (fun S c=>by
   rw[g] at c;injection c with c
   exact⟨_,e,rfl,by rw[abF];exact c⟩)
  rfl
 have y:Sz (dt w a.block (.cells (putCells enc a.off d C) e (0,0))) (grow (putRow enc (Sort.ahead w n) a.block a.off d) os):=by
  refine⟨rfl,rfl,?_,fun k A=>?_,rfl,?_⟩;rw[C5];simp[grow];rw[C5] at A;rw[avY enc w a.block a.off n d os B k A,jC _ _ _ _ p];show w.drawn<=w.drawn+n;omega
 obtain⟨q,_,_,O,N⟩:=ae0 R y (fun _ _=>none) (by intro b o v e;cases e);exact⟨q,O,(P 0 0).trans N (bk _) (bk _),.tup .nil⟩
end
def Lq: ∀ {cs:List aa} {l:List ae},vW cs=some l->cs=l.map aA
 | [],l,h=>by
   simp only[vW,aH] at h;subst h;rfl
 |v::cs,l,h=>by
  unfold vW at h;split at h;rename_i e;cases e;rename_i a r e;injection e with d c
  subst d;subst c;simp only[aj,aH] at h;obtain⟨l,b,rfl⟩:=h;rw[Lq b];rfl;cases h
def uj(f:FuncId)(sp:List aa->Option o7):Prop:=
 ∀a (G:Gh) (h:aC aJ) (w:World) (xs:List Value),WR G h w->bR G a xs->
  (sp a=some none->lZ ah f ⟨xs⟩ w fun y d=> ∃c,WR c h d/\cJ G h w c h d 0 0/\VR c (.tup []) y)/\
  ∀n g cs b,sp a=some (some (n,g))->h.get n=some (.cells cs)->fC h.get (g cs)=some (.agg b)->
   lZ ah f ⟨xs⟩ w fun y d=> ∃c,WR c (h.set n (some (.cells b))) d/\cJ G h w c (h.set n (some (.cells b))) d 0 0/\VR c (.tup []) y
def Lk{sz m len lcap:Nat}{y:Value}(h:VR G (.arr sz m 0 len lcap) y): ∃(a b:Addr) (cap:Nat),y= .slice (some a) len cap/\G.at_ m=some b/\a.spot=none/\len<=cap/\(len=0\/(a.block=b.block/\a.off=b.off))/\(∃d,G.dim b.block=some d/\b.off+cap*sz<=d):=by
 cases h with
 |arr n j q p o c i g=>
  rename_i a b cap d;refine⟨a,b,cap,rfl,n,j,by omega,?_,d,i,by simpa using g⟩;rcases c with c|c
  exact .inl (by omega);exact .inr (by simpa using c)
def avV:uj 140 Gf:=by
 intro a7 G h w xs S hx;refine⟨fun c=>?_,fun n g cs a9 c hl N=>?_⟩;unfold Gf at c;split at c;cases hx with
 |cons p q=>
  cases q;cases p;refine .inr ⟨Go.Proofs.enters_of Tryz.func140 (by kernel_rfl) rfl _ _,(AnyM.slices_Sort_string_none Tryz.sort48 none 0 w).mono ?_⟩;rintro e O ⟨rfl,rfl⟩;exact⟨_,rfl,G,S,.refl,.tup .nil⟩
 cases c;cases c;unfold Gf at c;split at c;cases c;rename_i m len a5;simp only[aH,Prod.mk.injEq] at c;obtain⟨rfl,rfl⟩:=c;have N:=FV N;obtain⟨hb,N⟩:=aY N;simp only[bm] at hb;have A:=Nat.eq_of_beq_eq_true hb.1;have a8:=fF hb.2;simp only[aj,aH] at N;obtain⟨l,h1,rfl⟩:=N;have I:=Lq h1;subst I;rw[List.length_map] at A;cases hx with
 |cons p q=>
  cases q;obtain⟨a,b,R,rfl,J,y,a6,a2,d,o,hd⟩:=Lk p;obtain⟨b',z,_,C,e,hC,H,I⟩:=S.obj m _ hl;rw[J] at z;injection z with z;subst z
  rw[H] at o;injection o with o
  have a3: ∀i (B:i<l.length),C[b.off+i]? =some (encStr l[i]):=fun i B=>by
   obtain⟨_,x,Y,V⟩:=I i (aA l[i]) (by rw[iw,List.getElem?_eq_getElem B];rfl);cases V;exact Y
  have Z:(lj l).length=l.length:=(Gc l).length_eq;have D: ∀n M, ∃K,WR K (h.set m (some (.cells ((lj l).map aA)))) (grow (putRow encStr (Sort.ahead w n) b.block b.off (lj l).toArray) M)/\cJ G h w K (h.set m (some (.cells ((lj l).map aA)))) (grow (putRow encStr (Sort.ahead w n) b.block b.off (lj l).toArray) M) 0 0/\VR K (.tup []) (.tuple #[]):=fun n M=>by
   refine JS S hl J encStr (lj l).toArray n M (fun C' e' t=>?_) (fun i v B=>?_);rw[hC] at t;injection t with t;injection t with t _ _;subst t
   rw[List.size_toArray,Z,o];omega;rw[iw,Option.map_eq_some_iff] at B;obtain⟨s,hs,rfl⟩:=B;obtain⟨B,hs⟩:=List.getElem?_eq_some_iff.1 hs;refine⟨by simpa using B,rfl,?_⟩;have:(lj l).toArray[i]! =s:=by simp[B,hs]
   rw[this];exact .str s
  rcases a2 with h0|⟨F,E⟩
  have a0:l=[]:=List.eq_nil_of_length_eq_zero (by omega);subst a0;have a4:len=0:=h0;subst a4;refine .inr ⟨Go.Proofs.enters_of Tryz.func140 (by kernel_rfl) rfl _ _,(AnyM.slices_Sort_string_none Tryz.sort48 (some a) R w).mono ?_⟩;rintro e' O ⟨rfl,rfl⟩;obtain⟨K,U,T,g3⟩:=D 0 #[];have hw:grow (putRow encStr (Sort.ahead O 0) b.block b.off (lj []).toArray) #[]=O:=by
   rw[Go.Sort.grow_empty,Go.Sort.ahead_zero];exact Go.Sort.putRow_self encStr O b.block b.off _ (fun j hj=>by simp[lj] at hj)
  rw[hw] at U T;exact⟨_,rfl,K,U,T,g3⟩;obtain⟨ab,ao,b0⟩:=a;simp only at F E y;subst F;subst E;subst y;have hH:Holds encStr w b.block b.off l.toArray:=fun j hj=>by
   have P:j<l.length:=by simpa using hj
   refine⟨?_,by simp[World.frozen?,hC]⟩;rw[oE hC,a3 j P];simp[P]
  have a1:=S.below m b J;rw[<-A];refine .inr ⟨Go.Proofs.enters_of Tryz.func140 (by kernel_rfl) rfl _ _,(AnyM.slices_Sort_string Tryz.sort48 b.block b.off R l w hH a1 (by omega)).mono ?_⟩;rintro e' O ⟨rfl,n,M,rfl⟩;rw[avL];obtain⟨K,U,T,g3⟩:=D n M;exact⟨_,rfl,K,U,T,g3⟩
 cases c
end Go.Proofs.YtnnppcoplinajaaGreat
namespace Go.Proofs.YtnnppcoplinajaaGreat
open Go.Ag
def cj(k:ae):List Obj->Option Obj
 | []=>none
 |o::l=>bif k==o.id then some o else cj k l
def mB{k:ae}: ∀ {l:List Obj} {q:Obj},cj k l=some q->q∈l/\q.id=k
 | [],_,h=>by cases h
 |o::r,q,h=>by
  simp only[cj] at h;cases hb:k==o.id with
  |true=>
   rw[hb] at h;injection h with h;subst h
   have:k=o.id:=by simpa using hb
   exact⟨by simp,this.symm⟩
  |false=>
   rw[hb] at h;obtain⟨b,a⟩:=mB h;exact⟨by simp[b],a⟩
def Pf(p k:ae):eR p k= !Ag.leBytes k p:=by
 rw[Ag.leBytes_iff,Go.Proofs.bytesLess_eq];by_cases h:k<=p;have a: ¬p<k:=List.not_lt.2 h;simp[li,h,a];have a:p<k:=List.not_le.1 h;simp[li,h,a]
def EB: ∀(l:List Obj) (last:ae),nh last l=true->(∀k∈l.map (·.id),eR last k=true)/\(l.map (·.id)).Pairwise (fun a b=>eR a b=true)
 | [],_,_=>⟨fun k h=>(by cases h),List.Pairwise.nil⟩
 |o::r,last,h=>by
  simp only[nh] at h;cases hb:(!fS o||Ag.leBytes o.id last) with
  |true=>rw[hb] at h;cases h
  |false=>
   rw[hb] at h;simp only[Bool.or_eq_false_iff] at hb;obtain⟨i,j⟩:=EB r o.id h;have d:eR last o.id=true:=by rw[Pf,hb.2];rfl
   refine⟨fun k c=>?_,List.pairwise_cons.2 ⟨i,j⟩⟩;rcases dl.1 c with rfl|c
   exact d;have g:=i k c;rw[Go.Proofs.bytesLess_eq,dE] at d g ⊢;exact List.lt_trans d g
def Y4(k:ae):eR k k=false:=by
 rw[Go.Proofs.bytesLess_eq];exact dN (List.lt_irrefl k)
def qA{l:List Obj}(h:cZ l=true):(l.map (·.id)).Nodup:=by
 simp only[cZ,bm] at h;refine(EB l [] h.1).2.imp fun a e=>?_;subst e;rw[Y4] at a;cases a
theorem CR: ∀ {l:List Obj} {q:Obj},(l.map (·.id)).Nodup->q∈l->cj q.id l=some q
 | [],_,_,h=>by cases h
 |o::r,q,hn,h=>by
  simp only[List.map_cons,List.nodup_cons] at hn;simp only[cj];rcases dl.1 h with rfl|h
  simp;have:(q.id==o.id)=false:=bN.2 fun e=>hn.1 (by rw[<-e];exact cx.2 ⟨q,h,rfl⟩);rw[this];exact CR hn.2 h
def yd{g:aa->Option aa}: ∀ {l:List aa},(∀v∈l,g v=some v)->dq g l=some l
 | [],_=>rfl
 |v::l,h=>by
  have a:=yd (g:=g) (l:=l) fun u b=>h u (by simp[b]);simp only[dq,h v (by simp),a,bg]
variable{xs:List aa}{k:Nat}
def Hx(h:aC aJ){n:Nat}{r:nL}(b:bH (.list n xs r)=true)(a: ∀v∈xs,cC h k v=some v):cC h (k+1) (.list n xs r)=some (.list n xs r):=by
 simp only[cC,yd a,bg];cases r with
 |own m=>simp[bH] at b
 |_=>rfl
def ajo(h:aC aJ){o:Obj}(c:o.Al)(k:Nat):cC h (k+4) o.val=some o.val:=by
 have g:cC h (k+3) o.refsV=some o.refsV:=by
  have b:=c.pr;rcases c.gE with⟨e,_⟩|⟨r,e⟩
  rw[e];rfl;rw[e] at b ⊢;refine Hx h b fun v a=>?_;obtain⟨s,_,rfl⟩:=cx.1 a;rfl
 have d:cC h (k+3) o.tagsV=some o.tagsV:=by
  have b:=c.pt;rcases c.gT with⟨e,_⟩|⟨r,e⟩
  rw[e];rfl;rw[e] at b ⊢;refine Hx h b fun v a=>?_;obtain⟨s,_,rfl⟩:=cx.1 a;rfl
 show(dq (cC h (k+3)) o.cells).bind (fun r=>some (aa.agg r))=_;rw[yd (l:=o.cells) fun v a=>?_];rfl;simp only[Obj.cells,dl,List.not_mem_nil,or_false] at a;rcases a with rfl|rfl|rfl|rfl|rfl|rfl
 rfl;rfl;rfl;rfl;exact g;exact d
def fan{B:Nat}(T:0<B)(p:(Nat->Nat)->Nat->Prop)(mono: ∀ch n m,n<=m->p ch n->p ch m)(loc: ∀ch n,p ch n-> ∃k, ∀t,(∀i,i<k->t i=ch i)->p t n)(all: ∀ch,(∀i,ch i<B)-> ∃n,p ch n): ∃N, ∀ch,(∀i,ch i<B)->p ch N:=by
 classical
 let Al:List Nat->Prop:=fun l=> ∃N, ∀ch:Nat->Nat,(∀i,ch i<B)->(∀i x,l[i]? =some x->ch i=x)->p ch N
 have step: ∀l, ¬Al l-> ∃c,c<B/\ ¬Al (l++[c]):=by
  intro l K;refine su fun H=>K ?_;have H: ∀c,c<B->Al (l++[c]):=fun c h=>su fun S=>H ⟨c,h,S⟩;have C: ∀m,m<=B-> ∃N, ∀c,c<m-> ∀ch:Nat->Nat,(∀i,ch i<B)->(∀i x,(l++[c])[i]? =some x->ch i=x)->p ch N:=by
   intro m
   induction m with
   |zero=>exact fun _=>⟨0,fun c h=>by omega⟩
   |succ m y=>
    intro Y;obtain⟨V,P⟩:=y (by omega);obtain⟨U,D⟩:=H m (by omega);refine⟨max V U,fun c O ch a b=>?_⟩;by_cases h:c<m;exact mono _ _ _ (Nat.le_max_left _ _) (P c h ch a b);have:c=m:=by omega
    subst this;exact mono _ _ _ (Nat.le_max_right _ _) (D ch a b)
  obtain⟨N,I⟩:=C B (bk _);refine⟨N,fun ch a b=>I (ch l.length) (a _) ch a fun i x o=>?_⟩;rcases nG i l.length with h|h
  rw[Bk h] at o;exact b i x o;rw[t6 h] at o;cases E:i-l.length with
  |zero=>
   rw[E] at o;simp only[List.getElem?_cons_zero,aH] at o;have:i=l.length:=by omega
   rw[this,o]
  |succ j=>rw[E] at o;simp at o
 refine su fun A=>?_;have R: ¬Al []:=fun⟨N,I⟩=>A ⟨N,fun ch a=>I ch a fun i x o=>by simp at o⟩
 let d:Nat-> {l:List Nat // ¬Al l}:=fun n=>Nat.rec ⟨[],R⟩ (fun _ q=>⟨q.1++[(step q.1 q.2).choose],(step q.1 q.2).choose_spec.2⟩) n
 have g: ∀n,(d n).1.length=n:=by
  intro n
  induction n with
  |zero=>rfl
  |succ n y=>
   show((d n).1++[_]).length=_;rw[cD,y];rfl
 let ch:Nat->Nat:=fun n=>(step (d n).1 (d n).2).choose
 have F: ∀n,ch n<B:=fun n=>(step (d n).1 (d n).2).choose_spec.1;have z: ∀n i,i<n->(d n).1[i]? =some (ch i):=by
  intro n
  induction n with
  |zero=>intro i h;omega
  |succ n y=>
   intro i h;show((d n).1++[ch n])[i]? =_;rcases nG i n with D|D
   rw[Bk (by rw[g];exact D)];exact y i D;have:i=n:=by omega
   subst this;rw[t6 (by rw[g];exact bk _),g];simp
 obtain⟨n,J⟩:=all ch F;obtain⟨k,M⟩:=loc ch n J;exact(d k).2 ⟨n,fun t _ b=>M t fun i E=>b i _ (z k i E)⟩
def afW(P:Program)(t:TypeId)(a b:List UInt8):dI P .gtr t (.str a) (.str b)=some (.bool (!Ag.leBytes a b)):=rfl
def aqc(a b:ae):(!Ag.leBytes a b)=eR b a:=(Pf b a).symm
def CH:Sp
 | [.int .i64 _a]=>some (.bool false)
 |_=>none
def ars{sp:g9}(b:sp 328=none)(a:Int)(s:St):aq (QS sp) 328 [.int .i64 a] s (.bool false) s:=by
 refine lu Iv.1 Iv.2 Iv.3 Iv.4 b ?_;refine br ?_;simp only[aU,fZ,fT,ay,cy];refine br ?_;simp only[aU,ai,ay,ED];exact dZ ⟨rfl,.inr rfl,dK (by simp only[aW,ai, *]) rfl⟩
def arq:cQ ah 328 CH:=by
 intro args x b G h w xs c d;unfold CH at b;split at b;rename_i a;injection b with b;subst b
 exact nB (Q:=QT []) (mY .nil) (fun _=>nH 1) (args:=[.int .i64 a]) (v:=.bool false) (s':=s0) rfl (ars (sp:=fun f=>gD f []) rfl a s0) rfl ⟨1,rfl⟩ G h w xs c d;cases b
def iO(a b:Int):Int:=bif aV a b then-1 else bif aV b a then 1 else 0
def oG:Sp
 | [.int .i64 a,.int .i64 b]=>some (.int .i64 (iO a b))
 |_=>none
def agZ{sp:g9}(i:sp 232=none)(c:sp 328=some CH)(a b:Int)(s:St):aq (QS sp) 232 [.int .i64 a,.int .i64 b] s (.int .i64 (iO a b)) s:=by
 have g:CH [.int .i64 a]=some (.bool false):=rfl;have d:CH [.int .i64 b]=some (.bool false):=rfl;refine lu Ig.1 Ig.2 Ig.3 Ig.4 i ?_;refine br ?_;simp only[aU,fZ,fT,ay,bG,cy];refine br ?_;simp only[aU,ai,ay,c,g];refine br ?_;simp only[aU,ai,ay,c,d];refine cK (br ?_);simp only[aU,ai,ay];refine kX ?_;simp only[fJ];refine cK (br ?_);simp only[aU,ai,ay];refine kX ?_;simp only[fJ];refine cK (br ?_);simp only[aU,ai,ay];cases h2:aV a b with
 |true=>
  refine lw (br ?_);simp only[iA,ni,ay];exact dZ ⟨rfl,.inr rfl,dK (by simp only[aW,ai,iO,h2]) rfl⟩
 |false=>
  refine kX ?_;simp only[fJ];refine cK (br ?_);simp only[aU,ai,ay];cases h3:aV b a with
  |true=>
   refine lw (br ?_);simp only[iA,ni,ay];exact dZ ⟨rfl,.inr rfl,dK (by simp only[aW,ai,iO,h2,h3]) rfl⟩
  |false=>
   refine kX ?_;simp only[fJ];refine br ?_;simp only[iA,ni,ay];exact dZ ⟨rfl,.inr rfl,dK (by simp only[aW,ai,iO,h2,h3]) rfl⟩
def La:dp:=[(328,CH)]
def aeL:du La:=.cons arq .nil
def Hb:cQ ah 232 oG:=by
 intro args x c G h w xs d g;unfold oG at c;split at c;rename_i a b;injection c with c;subst c
 exact nB (Q:=QT La) (mY aeL) (fun _=>nH 1) (args:=[.int .i64 a,.int .i64 b]) (v:=.int .i64 (iO a b)) (s':=s0) rfl (agZ (sp:=fun f=>gD f La) rfl rfl a b s0) rfl ⟨1,rfl⟩ G h w xs d g;cases c
def CJ:Sp
 | [.str _a]=>some (.bool false)
 |_=>none
def aru{sp:g9}(b:sp 325=none)(a:ae)(s:St):aq (QS sp) 325 [.str a] s (.bool false) s:=by
 refine lu Iu.1 Iu.2 Iu.3 Iu.4 b ?_;refine br ?_;simp only[aU,fZ,fT,ay,cy];refine br ?_;simp only[aU,ai,ay];exact dZ ⟨rfl,.inr rfl,dK (by simp only[aW,ai, *]) rfl⟩
def art:cQ ah 325 CJ:=by
 intro args x b G h w xs c d;unfold CJ at b;split at b;rename_i a;injection b with b;subst b
 exact nB (Q:=QT []) (mY .nil) (fun _=>nH 1) (args:=[.str a]) (v:=.bool false) (s':=s0) rfl (aru (sp:=fun f=>gD f []) rfl a s0) rfl ⟨1,rfl⟩ G h w xs c d;cases b
def fI(a b:ae):Int:=bif eR a b then-1 else bif eR b a then 1 else 0
def pk:Sp
 | [.str a,.str b]=>some (.int .i64 (fI a b))
 |_=>none
def ag5{sp:g9}(i:sp 228=none)(c:sp 325=some CJ)(a b:ae)(s:St):aq (QS sp) 228 [.str a,.str b] s (.int .i64 (fI a b)) s:=by
 have g:CJ [.str a]=some (.bool false):=rfl;have d:CJ [.str b]=some (.bool false):=rfl;refine lu Ic.1 Ic.2 Ic.3 Ic.4 i ?_;refine br ?_;simp only[aU,fZ,fT,ay,bG,cy];refine br ?_;simp only[aU,ai,ay,c,g];refine br ?_;simp only[aU,ai,ay,c,d];refine cK (br ?_);simp only[aU,ai,ay];refine kX ?_;simp only[fJ];refine cK (br ?_);simp only[aU,ai,ay];refine kX ?_;simp only[fJ];refine cK (br ?_);simp only[aU,ai,ay];cases h2:eR a b with
 |true=>
  refine lw (br ?_);simp only[iA,ni,ay];exact dZ ⟨rfl,.inr rfl,dK (by simp only[aW,ai,fI,h2]) rfl⟩
 |false=>
  refine kX ?_;simp only[fJ];refine cK (br ?_);simp only[aU,ai,ay,afW,aqc];cases h3:eR b a with
  |true=>
   refine lw (br ?_);simp only[iA,ni,ay];exact dZ ⟨rfl,.inr rfl,dK (by simp only[aW,ai,fI,h2,h3]) rfl⟩
  |false=>
   refine kX ?_;simp only[fJ];refine br ?_;simp only[iA,ni,ay];exact dZ ⟨rfl,.inr rfl,dK (by simp only[aW,ai,fI,h2,h3]) rfl⟩
def Ld:dp:=[(325,CJ)]
def aeQ:du Ld:=.cons art .nil
def L8:cQ ah 228 pk:=by
 intro args x c G h w xs d g;unfold pk at c;split at c;rename_i a b;injection c with c;subst c
 exact nB (Q:=QT Ld) (mY aeQ) (fun _=>nH 1) (args:=[.str a,.str b]) (v:=.int .i64 (fI a b)) (s':=s0) rfl (ag5 (sp:=fun f=>gD f Ld) rfl rfl a b s0) rfl ⟨1,rfl⟩ G h w xs d g;cases c
def bO(n:Int):aa:=.int .i64 n
def asInt:aa->Option Int
 | .int .i64 n=>some n
 |_=>none
variable{v:aa}
def afh{n:Int}(h:asInt v=some n):v=bO n:=by
 unfold asInt at h;split at h;injection h with h;subst h;rfl
 cases h
def aN(p:Int×Int):aa:=.agg [.int .i64 p.1,.int .i64 p.2]
def jw:aa->Option (Int×Int)
 | .agg [.int .i64 a,.int .i64 b]=>some (a,b)
 |_=>none
def lH{p:Int×Int}(h:jw v=some p):v=aN p:=by
 unfold jw at h;split at h;injection h with h;subst h;rfl
 cases h
def vT(p:Int×Int):jw (aN p)=some p:=rfl
def FO(p:Int×Int):bH (aN p)=true:=rfl
def lO:List Int->Int
 | []=>0
 |x::l=>bif an x 0 then lO l else x
variable{lc:Ag.Loc}{l:List Int}{s:St}
def atx{sp:g9}(A:ax 1 bO v l)(i:l.length<small): ∀(b c:List Int) (e:aw),l=c++b->
 ac e 3= .int .i64 0->ac e 6=v->ac e 7= .int .i64 (l.length:Nat)->ac e 8= .int .i64 (c.length:Nat)->
 W (QS sp) 108 (.loop amA) ⟨e,18,lc⟩ s fun x z D=>D=s/\z.size=18/\((x= .exit 0/\lO b=0/\ac z.env 3= .int .i64 0)\/(x= .ret/\ac z.env 2= .int .i64 (lO b))):=by
 intro b;have H:=A.ge;have F:=i6
 induction b with
 |nil=>
  intro c e d C B y g;have o:l.length=c.length:=by rw[d];simp
  refine kq ?_;refine br ?_;simp only[aU,ay,y,g,o,cq];refine cK (W.cnFZ ?_);exact W.exit ⟨rfl,rfl,.inl ⟨rfl,rfl,by simp only[dh,ai, *]⟩⟩
 |cons a b E=>
  intro c e d C B y g;have m:c.length<l.length:=by rw[d];simp
  have q:l[c.length]? =some a:=by rw[d];simp
  have p:=fun lc=>A.at kT.2.2.1 q lc .i64;have j:=vD (n:=c.length) (by omega);refine kq ?_;refine br ?_;simp only[aU,ay,y,g,m];refine cK (lw (lY ?_));simp only[fJ];refine cK (jX (br ?_));simp only[aU,bK,ai,ay,jl,B,g,p,bO];refine br ?_;simp only[aU,ai,ay,C];cases hz:an a 0 with
  |false=>
   refine jc (t:=true) (by simp only[aW,dR,ai,kp]) (br ?_);simp only[aU,ai,ay];exact dZ ⟨rfl,rfl,.inr ⟨rfl,by simp only[aW,ai,lO,hz]⟩⟩
  |true=>
   refine jc (t:=false) (by simp only[aW,dR,ai,jp]) (lY ?_);simp only[rq,fJ];refine W.reg ?_;simp only[aU,js,ai,ay,g,j];refine(E (c++[a]) _ (by rw[d];simp) (by simp only[dh,ai, *]) (by simp only[dh,ai, *]) (by simp only[dh,ai, *]) (by simp only[aW,fh,ai,cD])).mono ?_;simp only[lO,hz,cT];exact fun _ _ _ h=>h
def aty{sp:g9}(o:sp 108=none)(g:ax 1 bO v l)(a:l.length<small)(s:St):aq (QS sp) 108 [v] s (.int .i64 (lO l)) s:=by
 have b:=fun m s=>g.lenS kT m s;have i:=g.ge;refine lu HN.1 HN.2 HN.3 HN.4 o ?_;refine br ?_;simp only[aU,fZ,fT,ay,cy];refine br ?_;simp only[iA,ni,ay];refine cK (br ?_);simp only[aU,ai,ay,akC,i,b];refine jX ?_;refine(atx g a l [] _ rfl (by simp only[aW,ai, *]) (by simp only[aW,ai, *]) (by simp only[aW,ai, *]) (by simp only[aW,ai];rfl)).mono ?_;rintro x ⟨e,sz,lc⟩ p ⟨rfl,c,⟨rfl,d,j⟩|⟨rfl,n⟩⟩;have c:sz=18:=c;subst c;have j:ac e 3= .int .i64 0:=j;show W (QS sp) 108 _ _ _ _;refine br ?_;simp only[aU,ay,j];exact dZ ⟨rfl,.inr rfl,dK (by simp only[aW,ai,d]) rfl⟩;exact⟨rfl,.inr rfl,dK n rfl⟩
def ve:Sp
 | [a]=>bif pures [a] then(ek 1 asInt a).bind fun l=>bif bh l.length small then some (.int .i64 (lO l)) else none else none
 |_=>none
def aaP:cQ ah 108 ve:=by
 intro args x b G h w xs d g;unfold ve at b;split at b;rename_i a;obtain⟨c,b⟩:=aY b;simp only[aj] at b;obtain⟨l,m,b⟩:=b;obtain⟨i,b⟩:=aY b;injection b with b;subst b
 have j:=jN (fun v a=>afh) m;exact nB (Q:=QT []) (mY .nil) (fun _=>nH 1) (args:=[a]) (v:=.int .i64 (lO l)) (s':=s0) (xi c) (by rw[kC c];exact aty (sp:=fun f=>gD f []) rfl j (fF i) s0) rfl ⟨1,rfl⟩ G h w xs d g;cases b
def uK:List (Int×Int)->Int
 | []=>0
 |p::l=>bif an (iO p.1 p.2) 0 then uK l else iO p.1 p.2
variable{l:List (Int×Int)}
def ai0{sp:g9}(i:sp 232=some oG)(B:ax 2 aN v l)(j:l.length<small): ∀(b c:List (Int×Int)) (e:aw) (lc:Ag.Loc),l=c++b->
 ac e 6=v->ac e 7= .int .i64 (l.length:Nat)->ac e 8= .int .i64 (c.length:Nat)->
 W (QS sp) 462 (.loop apf) ⟨e,21,lc⟩ s fun x D E=>E=s/\D.size=21/\((x= .exit 0/\uK b=0)\/(x= .ret/\ac D.env 2= .int .i64 (uK b))):=by
 intro b;have K:=B.ge;have J:=i6
 induction b with
 |nil=>
  intro c e lc d C A g;have q:l.length=c.length:=by rw[d];simp
  refine kq ?_;refine br ?_;simp only[aU,ay,A,g,q,cq];refine cK (W.cnFZ ?_);exact W.exit ⟨rfl,rfl,.inl ⟨rfl,rfl⟩⟩
 |cons a b I=>
  intro c e lc d C A g;have p:c.length<l.length:=by rw[d];simp
  have z:l[c.length]? =some a:=by rw[d];simp
  have y:=fun lc=>B.at Di.2.2.1 z lc .i64;have o:oG [.int .i64 a.1,.int .i64 a.2]=some (.int .i64 (iO a.1 a.2)):=rfl;have m:=vD (n:=c.length) (by omega);have H: ∀k,dr (.int k 0)=some 0:=fun _=>rfl;have F: ∀k,dr (.int k 1)=some 1:=fun _=>rfl;refine kq ?_;refine br ?_;simp only[aU,ay,A,g,p];refine cK (lw (lY ?_));simp only[fJ];refine cK (jX (br ?_));simp only[aU,jK,cut,eM,List.take,bK,ai,ay,bG,cy,abH,Wr,C,g,y,aN];refine br ?_;simp only[aU,jK,bK,ai,ay,dw,jl,H,F,i,o];refine br ?_;simp only[aU,ai,ay];cases hz:an (iO a.1 a.2) 0 with
  |false=>
   refine jc (t:=true) (by simp only[aW,dR,ai,kp]) (br ?_);simp only[aU,ai,ay];exact dZ ⟨rfl,rfl,.inr ⟨rfl,by simp only[aW,ai,uK,hz]⟩⟩
  |true=>
   refine jc (t:=false) (by simp only[aW,dR,ai,jp]) (lY ?_);simp only[rq,fJ];refine W.reg ?_;simp only[aU,js,ai,ay,g,m];refine(I (c++[a]) _ _ (by rw[d];simp) (by simp only[dh,ai, *]) (by simp only[dh,ai, *]) (by simp only[aW,fh,ai,cD])).mono ?_;simp only[uK,hz,cT];exact fun _ _ _ h=>h
def ai1{sp:g9}(o:sp 462=none)(c:sp 232=some oG)(i:ax 2 aN v l)(a:l.length<small)(s:St):aq (QS sp) 462 [v] s (.int .i64 (uK l)) s:=by
 have b:=fun m s=>i.lenS Di m s;have j:=i.ge;refine lu II.1 II.2 II.3 II.4 o ?_;refine br ?_;simp only[aU,fZ,fT,ay,cy];refine cK (br ?_);simp only[aU,ai,ay,Wr,j,b];refine jX ?_;refine(ai0 c i a l [] _ _ rfl (by simp only[aW,ai, *]) (by simp only[aW,ai, *]) (by simp only[aW,ai];rfl)).mono ?_;rintro x ⟨e,sz,lc⟩ p ⟨rfl,d,⟨rfl,g⟩|⟨rfl,n⟩⟩;have d:sz=21:=d;subst d;show W (QS sp) 462 _ _ _ _;refine br ?_;simp only[iA,ni,ay];exact dZ ⟨rfl,.inr rfl,dK (by simp only[iV,ai,cT,g]) rfl⟩;exact⟨rfl,.inr rfl,dK n rfl⟩
def Ep:Sp
 | [a]=>bif pures [a] then(ek 2 jw a).bind fun l=>bif bh l.length small then some (.int .i64 (uK l)) else none else none
 |_=>none
def Lc:dp:=[(232,oG)]
def aeP:du Lc:=.cons Hb .nil
def aiZ:cQ ah 462 Ep:=by
 intro args x b G h w xs d g;unfold Ep at b;split at b;rename_i a;obtain⟨c,b⟩:=aY b;simp only[aj] at b;obtain⟨l,m,b⟩:=b;obtain⟨i,b⟩:=aY b;injection b with b;subst b
 have j:=jN (fun v a=>lH) m;exact nB (Q:=QT Lc) (mY aeP) (fun _=>nH 1) (args:=[a]) (v:=.int .i64 (uK l)) (s':=s0) (xi c) (by rw[kC c];exact ai1 (sp:=fun f=>gD f Lc) rfl rfl j (fF i) s0) rfl ⟨1,rfl⟩ G h w xs d g;cases b
def fk(a b:Int×Int):Int:=uK [(a.1,b.1),(a.2,b.2)]
variable{e:aw}
def afV{x y:Operand}{a b c d:aa}(i:ev e x=some (.agg [a,b]))(g:ev e y=some (.agg [c,d]))(s:St):bj ah 535 2 [(0,x),(1,y)] false e s=some (.list 2 [.agg [a,b],.agg [c,d]] .GE,s):=by
 simp only[dW,fh,bj,Di,bc,evc,i,g,aa.ge,aX,aa.cells,eM,Nat.zero_mul,Nat.zero_add,bG,dw,aZ,cut];rfl
def atM{sp:g9}(i:sp 379=none)(c:sp 462=some Ep)(a b:Int×Int)(s:St):aq (QS sp) 379 [aN a,aN b] s (.int .i64 (fk a b)) s:=by
 have g: ∀e s,ac e 9= .agg [.int .i64 a.1,.int .i64 b.1]->ac e 14= .agg [.int .i64 a.2,.int .i64 b.2]->bj ah 535 2 [(0,.tmp 9),(1,.tmp 14)] false e s=some (.list 2 [.agg [.int .i64 a.1,.int .i64 b.1],.agg [.int .i64 a.2,.int .i64 b.2]] .GE,s):=fun e s p q=>afV (by rw[dR,p]) (by rw[dR,q]) s;have d:Ep [.list 2 [.agg [.int .i64 a.1,.int .i64 b.1],.agg [.int .i64 a.2,.int .i64 b.2]] .GE]=some (.int .i64 (fk a b)):=rfl;refine lu IA.1 IA.2 IA.3 IA.4 i ?_;refine br ?_;simp only[aU,fZ,fT,ai,ay,bG,cy,Wq,aN];refine br ?_;simp only[aU,jK,eM,List.take,bK,ai,ay,bG,dw,cy,TV,jl,x8,BX,Wq,bc,g,c,d];exact dZ ⟨rfl,.inr rfl,dK (by simp only[aW,ai, *]) rfl⟩
def sb:Sp
 | [a,b]=>(jw a).bind fun p=>(jw b).bind fun q=>some (.int .i64 (fk p q))
 |_=>none
def K9:dp:=[(462,Ep)]
def aeK:du K9:=.cons aiZ .nil
def Qk:cQ ah 379 sb:=by
 intro args x a G h w xs d g;unfold sb at a;split at a;simp only[aj,aH] at a;obtain⟨p,c,q,b,rfl⟩:=a;have c:=lH c;have b:=lH b;subst c;subst b;exact nB (Q:=QT K9) (mY aeK) (fun _=>nH 1) (args:=[aN p,aN q]) (v:=.int .i64 (fk p q)) (s':=s0) rfl (atM (sp:=fun f=>gD f K9) rfl rfl p q s0) rfl ⟨1,rfl⟩ G h w xs d g;cases a
def eO:List ae->List ae->Int
 | [],[]=>0
 | [],_::_=> -1
 |_::_,[]=>1
 |a::x,b::y=>bif an (fI a b) 0 then eO x y else fI a b
variable{l:List ae}{u:aa}
def awi{sp:g9}(D:sp 228=some pk){r:List ae}(U:ax 1 aA v l)(J:ax 1 aA u r)(E:l.length<small): ∀(j c d g:List ae) (e:aw),l=d++j->r=g++c->d.length=g.length->
 ac e 0=v->ac e 1=u->ac e 9=v->ac e 10= .int .i64 (l.length:Nat)->ac e 11= .int .i64 (d.length:Nat)->
 W (QS sp) 136 (.loop amV) ⟨e,36,lc⟩ s fun x F Y=>Y=s/\F.size=36/\((x= .exit 0/\eO j c=(bif decide (l.length<r.length) then-1 else 0)/\ac F.env 0=v/\ac F.env 1=u)\/(x= .ret/\ac F.env 4= .int .i64 (eO j c))):=by
 intro j;have a1:=U.ge;have R:=J.ge;have z:=fun Z s=>J.lenS co Z s;have a0:=i6
 induction j with
 |nil=>
  intro c d g e m i q h0 T V A p;have M:l.length=d.length:=by rw[m];simp
  have o:r.length=g.length+c.length:=by rw[i];simp
  refine kq ?_;refine br ?_;simp only[aU,ay,A,p,M,cq];refine cK (W.cnFZ ?_);refine W.exit ⟨rfl,rfl,.inl ⟨rfl,?_,by simp only[dh,ai, *],by simp only[dh,ai, *]⟩⟩;cases c with
  |nil=>
   have:decide (d.length<r.length)=false:=dN (by simp at o;omega);rw[this];rfl
  |cons b y=>
   have:decide (d.length<r.length)=true:=dQ (by simp at o;omega);rw[this];rfl
 |cons a j ih=>
  intro c d g e m i q h0 T V A p;have K:d.length<l.length:=by rw[m];simp
  have S:l[d.length]? =some a:=by rw[m];simp
  have o:r.length=g.length+c.length:=by rw[i];simp
  have O:=fun lc=>U.at co.2.2.1 S lc .i64;have H:=vD (n:=d.length) (by omega);refine kq ?_;refine br ?_;simp only[aU,ay,A,p,K];refine cK (lw (lY ?_));simp only[fJ];refine cK (jX (br ?_));simp only[aU,bK,ai,ay,gR,V,p,O,aA];refine cK (br ?_);have P:bV ((r.length:Nat):Int) ((d.length:Nat):Int)=decide (r.length<=d.length):=HF _ _;simp only[aU,ai,ay,T,R,z,P];cases c with
  |nil=>
   have:decide (r.length<=d.length)=true:=dQ (by simp at o;omega);refine jc (t:=true) (by simp only[aW,dR,ai,this]) (br ?_);simp only[iA,ni,ay];exact dZ ⟨rfl,rfl,.inr ⟨rfl,by simp only[aW,ai,eO]⟩⟩
  |cons b y=>
   have B:decide (r.length<=d.length)=false:=dN (by simp at o;omega);have C:r[d.length]? =some b:=by rw[i,q];simp
   have N:=fun lc=>J.at co.2.2.1 C lc .i64;have I:pk [.str a,.str b]=some (.int .i64 (fI a b)):=rfl;refine jc (t:=false) (by simp only[aW,dR,ai,B]) (lY ?_);simp only[fJ];refine br ?_;simp only[aU,bK,ai,ay,gR,T,N,aA];refine br ?_;simp only[aU,ai,ay,D,I];refine br ?_;simp only[aU,ai,ay];cases hz:an (fI a b) 0 with
   |false=>
    refine jc (t:=true) (by simp only[aW,dR,ai,kp]) (br ?_);simp only[aU,ai,ay];exact dZ ⟨rfl,rfl,.inr ⟨rfl,by simp only[aW,ai,eO,hz]⟩⟩
   |true=>
    refine jc (t:=false) (by simp only[aW,dR,ai,jp]) (lY ?_);simp only[rq,fJ];refine W.reg ?_;simp only[aU,js,ai,ay,p,H];refine(ih y (d++[a]) (g++[b]) _ (by rw[m];simp) (by rw[i];simp) (by simp[q]) (by simp only[dh,ai, *]) (by simp only[dh,ai, *]) (by simp only[dh,ai, *]) (by simp only[dh,ai, *]) (by simp only[aW,fh,ai,cD])).mono ?_;simp only[eO,hz,cT];exact fun _ _ _ h=>h
def awj{sp:g9}(z:sp 136=none)(i:sp 228=some pk){r:List ae}(o:ax 1 aA v l)(n:ax 1 aA u r)(a:l.length<small)(s:St):aq (QS sp) 136 [v,u] s (.int .i64 (eO l r)) s:=by
 have b:=fun j s=>o.lenS co j s;have c:=fun j s=>n.lenS co j s;have g:=o.ge;have p:=n.ge;refine lu HS.1 HS.2 HS.3 HS.4 z ?_;refine br ?_;simp only[aU,fZ,fT,ay,bG,cy];refine cK (br ?_);simp only[aU,ai,ay,Wi,g,b];refine jX ?_;refine(awi i o n a l r [] [] _ rfl rfl rfl (by simp only[aW,ai, *]) (by simp only[aW,ai, *]) (by simp only[aW,ai, *]) (by simp only[aW,ai, *]) (by simp only[aW,ai];rfl)).mono ?_;rintro x ⟨e,sz,lc⟩ A ⟨rfl,m,⟨rfl,d,t,q⟩|⟨rfl,y⟩⟩;have m:sz=36:=m;subst m;have t:ac e 0=v:=t;have q:ac e 1=u:=q;show W (QS sp) 136 _ _ _ _;refine cK (br ?_);simp only[aU,ai,ay,Wi,t,q,g,p,b,c];cases hd:decide (l.length<r.length) with
 |true=>
  refine lw (br ?_);simp only[iA,ni,ay];exact dZ ⟨rfl,.inr rfl,dK (by simp only[aW,ai,d,hd]) rfl⟩
 |false=>
  refine kX ?_;simp only[fJ];refine br ?_;simp only[iA,ni,ay];exact dZ ⟨rfl,.inr rfl,dK (by simp only[aW,ai,d,hd]) rfl⟩
 exact⟨rfl,.inr rfl,dK y rfl⟩
def Du:Sp
 | [a,b]=>bif pures [a,b] then(ek 1 iL a).bind fun l=>(ek 1 iL b).bind fun r=>bif bh l.length small then some (.int .i64 (eO l r)) else none else none
 |_=>none
def Lb:dp:=[(228,pk)]
def aeM:du Lb:=.cons L8 .nil
def awe:cQ ah 136 Du:=by
 intro args x c G h w xs g i;unfold Du at c;split at c;rename_i a b;obtain⟨d,c⟩:=aY c;simp only[aj] at c;obtain⟨l,p,r,o,c⟩:=c;obtain⟨j,c⟩:=aY c;injection c with c;subst c
 have n:=jN (fun v a=>pf) p;have m:=jN (fun v a=>pf) o;exact nB (Q:=QT Lb) (mY aeM) (fun _=>nH 1) (args:=[a,b]) (v:=.int .i64 (eO l r)) (s':=s0) (xi d) (by rw[kC d];exact awj (sp:=fun f=>gD f Lb) rfl rfl n m (fF j) s0) rfl ⟨1,rfl⟩ G h w xs g i;cases c
def adI:List fO->List ae
 | []=>[]
 |t::l=>t.1::t.2::adI l
def RX:Obj:=⟨[],0,0,0,.AL,.AL,[],[]⟩
def nT:(aa.nilp).ge=true:=rfl
section
variable{sp:g9}{ch:Nat->Nat}
def at_(k:ae)(L:List (ae×aa)):aa:=(look k L).getD .nilp
end
abbrev Cf:=ae×ae
def sU(a b:Cf):Bool:=bif a.1==b.1 then bif a.2==b.2 then true else false else false
def D9(a b:Cf):sU a b=true↔a=b:=by
 obtain⟨i,g⟩:=a;obtain⟨d,c⟩:=b;unfold sU;constructor;intro h;cases h1:i==d with
 |false=>simp only[h1,cF,zt] at h
 |true=>
  cases h2:g==c with
  |false=>simp only[h1,h2,cT,cF,zt] at h
  |true=>rw[eq_of_beq h1,eq_of_beq h2]
 intro h;cases h;simp
def awd{r:List ae}(i:ax 1 aA v l)(d:ax 1 aA u r)(c:bH v=true)(a:bH u=true)(g:l.length<small):Du [v,u]=some (.int .i64 (eO l r)):=by
 have b:bh l.length small=true:=cE g;simp only[dW,Du,pures,c,a,bW,pA pg i,pA pg d,b]
def fp(a b:Int×Int):Bool:=bif an a.1 b.1 then bif an a.2 b.2 then true else false else false
inductive Rows:List aa->List (List ae)->Prop
 |nil:Rows [] []
 |cons {v:aa} {l:List ae} {vs:List aa} {ls:List (List ae)}:ax 1 aA v l->bH v=true->Rows vs ls->Rows (v::vs) (l::ls)
section
variable{Q:aD}{f:FuncId}
def aja:cU->Bool
 | .none=>true
 | .loc _=>true
 |_=>false
def WX(Q:aD)(f:FuncId)(s:St):List au->Fr->(Fr->Prop)->Prop
 | [],fr,N=>N fr
 |o::l,fr,N=> ∃v a,eY fr.env o.g=true/\cw Q f o [] fr s=some (v,fr.loc,s)/\isStore o.op=false/\aja (bD (Q.hint f) o.dst fr.env o.op)=true/\cN fr o.dst v fr.loc=some a/\WX Q f s l a N
end
def cP(sz lo:Nat)(s:St)(ov:aa)(xs:List aa):Prop:=(ov= .AL/\xs=[])\/(xs≠ []/\ ∃k,ov= .list sz xs (.own k)/\s.get [] k=some .tok/\lo<=k/\k<s.aL)
variable{lo sz:Nat}{ov:aa}
def cP.ge(h:cP sz lo s ov xs):ov.ge=true:=by
 rcases h with⟨rfl,_⟩|⟨_,k,rfl,_⟩<;>rfl
def cR(s:St)(n:Nat)(o:Option aJ)(h:s.gt<=s.aL):(s.put n o).gt<=(s.put n o).aL:=by
 show(bif Nat.ble s.gt n then s.gt else n)<=s.aL;cases hb:Nat.ble s.gt n with
 |true=>exact h
 |false=>
  have: ¬s.gt<=n:=fun a=>by rw[cE a] at hb;cases hb
  simp only[cF];omega
def D2{t:TypeId}{E:EI}(z:lQ ah t=some E)(C:E.n=sz)(A:E.b<=88){y:aa}{ys:List aa}(h:cP sz lo s ov xs)(o:em [] E.g E.n y s=some ys)(c:xs.length+ys.length<=1000000)(j:lo<=s.aL)(x:s.gt<=s.aL):
 ∃a d,fB ah [] t ov y false s=some (a,d)/\cP sz lo d a (xs++ys)/\d.ci=s.ci/\s.aL<=d.aL/\d.gt<=d.aL/\(∀n,n<lo->d.get [] n=s.get [] n)/\a.cells=[a]:=by
 subst C;have i:Ap ov=true/\ov.cells=[ov]:=by rcases h with⟨rfl,_⟩|⟨_,k,rfl,_⟩<;>exact⟨rfl,rfl⟩
 cases ys with
 |nil=>
  refine⟨ov,s,?_,by rw[List.append_nil];exact h,rfl,bk _,x,fun _ _=>rfl,i.2⟩;simp only[dW,fB,z,o,i.1]
 |cons m ys=>
  rcases h with⟨rfl,rfl⟩|⟨B,k,rfl,D,H,F⟩
  have p:iY (m::ys).length E.b=true:=vi (by simpa using c) A;refine⟨.list E.n (m::ys) (.own s.aL),s.new .tok,?_,.inr ⟨by simp,s.aL,rfl,by rw[eT,bS];rfl,j,kF _⟩,rfl,Nat.le_succ _,bU x,fun n q=>?_,rfl⟩;simp only[dW,fB,z,o,jM,kB,p,cF];rw[eT,bN.2 (by omega)];rfl;have p:iY (xs.length+(m::ys).length) E.b=true:=vi c A;refine⟨.list E.n (xs++(m::ys)) (.own s.aL),(s.put k none).new .tok,?_,.inr ⟨by simp,s.aL,rfl,by rw[eT,mA,bS];rfl,j,kF _⟩,rfl,Nat.le_succ _,bU (cR s k none x),fun n q=>?_,rfl⟩;simp only[fH,fB,z,bg,o,jM,D,p,bW];rw[eT,mA,bN.2 (by omega),cF,aR,bN.2 (by omega)];rfl
def abD: ∀l:List ae,pures (l.map aA)=true
 | []=>rfl
 |a::l=>by
  show(bH (aA a)&&pures (l.map aA))=true;rw[abD l];rfl
def at3:nL->Bool
 | .own _=>false
 |_=>true
def AO(l:List ae)(r:nL):bH (.list 1 (l.map aA) r)=at3 r:=by
 show(pures (l.map aA)&&_)=_;rw[abD];cases r<;>rfl
def aw5:ah.underlying 25=some (.slice 9):=by kernel_rfl
def ql(P:Program)(t:TypeId)(a b:Int):dI P .mul t (.int .i64 a) (.int .i64 b)=some (.int .i64 (IntKind.i64.wrap (a*b))):=rfl
def up(T:List Int)(o:Nat):Int:=(T[o]?).getD 0
def Gi(a b:List ae)(w i k:Nat)(T:List Int):List Int:=
 T.set (i*w+k) (bif(a[i]?).getD []==(b[k]?).getD [] then IntKind.i32.wrap (up T ((i+1)*w+(k+1))+1) else bif aV (up T ((i+1)*w+k)) (up T (i*w+(k+1))) then up T (i*w+(k+1)) else up T ((i+1)*w+k))
def Qb{Q:aD}{f:FuncId}{d:Option Tmp}{g:SG}{mk:aI}(t:TypeId)(l c:Operand):cw Q f ⟨d,.makeSlice t l c,g⟩ mk ⟨e,sz,lc⟩ s=(ev e l).bind fun l=>(ev e c).bind fun c=>f8 (n9 Q.P t l c (Nat.beq (oN (Q.hint f) d) 2) s) lc:=rfl
theorem AP{l:List aa}(h: ∀v∈l,bH v=true):pures l=true:=by
 induction l with
 |nil=>rfl
 |cons a l b=>
  show(bH a&&pures l)=true;rw[h a (by simp),b fun v c=>h v (by simp[c])];rfl
def io(sz:Nat):List aa->aa
 | []=>.AL
 |x::l=>.list sz (x::l) .no
def B7{h:aC aJ}(g:cP sz lo s ov xs)(d: ∀v∈xs,cC h k v=some v):cC h (k+1) ov=some (io sz xs):=by
 rcases g with⟨rfl,rfl⟩|⟨b,n,rfl,_⟩
 rfl;show(dq (cC h k) xs).bind (fun c=>some (aa.list sz c .no))=_;rw[yd d];cases xs with
 |nil=>exact absurd rfl b
 |cons a l=>rfl
