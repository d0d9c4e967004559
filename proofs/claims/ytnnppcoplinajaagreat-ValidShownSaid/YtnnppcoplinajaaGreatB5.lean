/- Lemmas for ValidShown. -/
import Derived.Test.YtnnppcoplinajaaGreatB3
import Derived.Test.YtnnppcoplinajaaGreatB4
set_option linter.all false
open Bool renaming and_eq_true→bq,and_self→bX,false_eq_true→KX,not_false→mZ,not_true→lD
open Classical renaming byContradiction→ut
open List renaming drop→bL,getElem?_append_left→GR,getElem?_append_right→xN,getElem?_map→jo,mem_cons→dG,mem_map→cw
open Nat renaming ble_eq_true_of_le→cN,blt→bh,le_of_ble_eq_true→fF,le_refl→bj,le_succ_of_le→bW,lt_irrefl→cq,lt_or_ge→pq,lt_succ_self→jX,reduceAdd→bH,reduceBEq→ai,reduceLT→aA,reduceLeDiff→cz,reduceMul→dH,zero_lt_succ→nf
open Go.Op renaming bytesLess→fh
open Option renaming bind_eq_some_iff→ak,bind_some→bk
open Option.some renaming injEq→aM
open Go.Ag.aq renaming of2→lg
open Go.Proofs.Tryz renaming prog→ah
open Go.Ag.W renaming block→jq,cnSZ→lh,cnTZ→li,cond→ib,loop1→jL,ret→dZ,seq→cC,skip→kO,sreg→bn
namespace Go.Proofs.YtnnppcoplinajaaGreat
open Go.Ag
open Go.Sort (putRow putCells mapBlock onCells grow heap_grow_old Holds SWO)
structure Tz (w w':World):Prop where
 os:w'.os=w.os
 output:w'.output=w.output
 size:w.heap.size<=w'.heap.size
 block: ∀k,k<w.heap.size->w'.heap[k]? =w.heap[k]?
 tape:w'.tape=w.tape
 drawn:w.drawn<=w'.drawn
variable{G:Gh}{w:World}{h:aD aJ}
def aga{w':World}(wr:WR G h w)(g:Tz w w')(f:Nat->Nat->Option aa)(D: ∀b o v,f b o=some v->w.heap.size<=b/\v.scal=true/\ ∃x,w'.cell? ⟨b,o,none⟩=some x/\VR G v x):
 ∃G':Gh,(∀b o v,f b o=some v->G'.ro b o=some v)/\G.le G'/\WR G' h w'/\cO G h w G' h w' 0 0:=by
 let G':Gh:= {at_:=G.at_,ro:=fun b o=>if b<w.heap.size then G.ro b o else f b o,dim:=G.dim }
 have z: ∀b o v,G.ro b o=some v->b<w.heap.size:=fun b o v e=>by
  obtain⟨_,x,H,_⟩:=wr.ro b o v e;exact World.block_lt_of_cell? w ⟨b,o,none⟩ H
 have j:G.le G':=⟨fun _ _ e=>e,fun b o v e=>by
  show(if b<w.heap.size then G.ro b o else f b o)=some v;rw[iP (z b o v e)];exact e,fun _ _ e=>e⟩
 have p: ∀b o v,G'.ro b o=some v->(b<w.heap.size/\G.ro b o=some v)\/(¬b<w.heap.size/\f b o=some v):=fun b o v e=>by
  have e:(if b<w.heap.size then G.ro b o else f b o)=some v:=e;by_cases c:b<w.heap.size;rw[iP c] at e;exact .inl ⟨c,e⟩;rw[iN c] at e;exact .inr ⟨c,e⟩
 refine⟨G',fun b o v e=>?_,j,⟨?_,?_,?_,?_,?_,?_⟩,j,g.size,fun b c _=>g.block b c,fun b _ o=>o,fun n a e y=>(by have e:G.at_ n=some a:=e;rw[e] at y;cases y),?_,⟨g.os,g.output,g.size,fun a I=>World.frozen?_of_block (g.block _ I),g.tape,g.drawn⟩,fun b _ o=>o⟩;show(if b<w.heap.size then G.ro b o else f b o)=some v
 have:=(D b o v e).1;rw[iN (by omega)];exact e;intro n o e;obtain⟨a,m,q,t⟩:=wr.obj n o e;exact⟨a,m,q,(t.of_block (g.block _ (wr.below n a m))).mono j⟩;exact wr.sep;intro b o v e;rcases p b o v e with⟨c,e⟩|⟨c,e⟩
 obtain⟨m,x,q,t⟩:=wr.ro b o v e;exact⟨m,x,(World.cell?_of_block (g.block b c)).trans q,t.mono j⟩;obtain⟨_,m,x,q,t⟩:=D b o v e;exact⟨m,x,q,t.mono j⟩;intro n F a i v e E B;rcases p _ _ _ B with⟨_,B⟩|⟨c,_⟩
 exact wr.apart n F a i v e E B;exact absurd (wr.below n a E) c;intro b d e;obtain⟨C,J,m,q⟩:=wr.dim b d e;have c:b<w.heap.size:=by
  rcases pq b w.heap.size with c|c
  exact c;rw[Array.getElem?_eq_none c] at m;cases m
 exact⟨C,J,(g.block b c).trans m,q⟩;exact fun n a e=>Nat.lt_of_lt_of_le (wr.below n a e) g.size;intro b o v c e y;rcases p b o v e with⟨_,e⟩|⟨A,_⟩
 rw[e] at y;cases y;exact absurd c A
section
variable{α:Type}[Inhabited α]
def acH(enc:α->Value)(off:Nat)(d:Array α)(C:Array Value):(putCells enc off d C).size=C.size:=by simp[putCells]
def avv(enc:α->Value)(off:Nat)(d:Array α)(C:Array Value){i:Nat}(a:i<d.size)(b:off+i<C.size):(putCells enc off d C)[off+i]? =some (enc d[i]!):=by
 simp[putCells,b,a]
def axK(enc:α->Value)(w:World)(a off n:Nat)(d:Array α)(os:Array Go.Obj){C:Array Value}{e:TypeId}(c:w.heap[a]? =some (.cells C e (0,0)))(k:Nat)(b:k<w.heap.size):
 (grow (putRow enc (Sort.ahead w n) a off d) os).heap[k]? =if k=a then some (.cells (putCells enc off d C) e (0,0)) else w.heap[k]? :=by
 rw[heap_grow_old _ _ (by simpa using b)];by_cases h:k=a;subst h;simp[putRow,mapBlock,Sort.ahead,Array.getElem?_modify,c,onCells];have g: ¬a=k:=fun e=>h e.symm;simp[putRow,mapBlock,Sort.ahead,Array.getElem?_modify,h,g]
def Ko(wr:WR G h w){m:Nat}{a:Addr}{cs cs':List aa}(z:h.get m=some (.cells cs))(x:G.at_ m=some a)(enc:α->Value)(d:Array α)(n:Nat)(os:Array Go.Obj)(H: ∀C e,w.heap[a.block]? =some (.cells C e (0,0))->a.off+d.size<=C.size)(I: ∀(i:Nat) v,cs'[i]? =some v->i<d.size/\v.scal=true/\VR G v (enc d[i]!)):
 ∃q,WR q (h.set m (some (.cells cs'))) (grow (putRow enc (Sort.ahead w n) a.block a.off d) os)/\cO G h w q (h.set m (some (.cells cs'))) (grow (putRow enc (Sort.ahead w n) a.block a.off d) os) 0 0/\VR q (.tup []) (.tuple #[]):=by
 obtain⟨b,t,_,C,e,B,g,_⟩:=wr.obj m _ z;rw[x] at t;injection t with t;subst t
 have p:=wr.below m a x;have F:=H C e B;have j:(dw w a.block (.cells (putCells enc a.off d C) e (0,0))).heap[a.block]? =some (.cells (putCells enc a.off d C) e (0,0)):=by rw[jD _ _ _ _ p,iP rfl]
 obtain⟨R,P⟩:=wr.changed (o':=.cells cs') (ob:=.cells (putCells enc a.off d C) e (0,0)) z x
  ⟨_,e,j,by rw[acH];exact g,fun i v E=>by
    obtain⟨M,K,J⟩:=I i v E;exact⟨K,_,avv enc a.off d C M (by omega),J⟩⟩
  (fun i v D=>by
   have:=(wr.apart m _ a i v z x D).1;cases this)
  (fun S c=>by
   rw[g] at c;injection c with c
   exact⟨_,e,rfl,by rw[acH];exact c⟩)
  rfl
 have y:Tz (dw w a.block (.cells (putCells enc a.off d C) e (0,0))) (grow (putRow enc (Sort.ahead w n) a.block a.off d) os):=by
  refine⟨rfl,rfl,?_,fun k A=>?_,rfl,?_⟩;rw[Ds];simp[grow];rw[Ds] at A;rw[axK enc w a.block a.off n d os B k A,jD _ _ _ _ p];show w.drawn<=w.drawn+n;omega
 obtain⟨q,_,_,O,N⟩:=aga R y (fun _ _=>none) (by intro b o v e;cases e);exact⟨q,O,(P 0 0).trans N (bj _) (bj _),.tup .nil⟩
end
def L7: ∀ {cs:List aa} {l:List ae},wf cs=some l->cs=l.map ax
 | [],l,h=>by
   simp only[wf,aM] at h;subst h;rfl
 |v::cs,l,h=>by
  unfold wf at h;split at h;rename_i e;cases e;rename_i a r e;injection e with d c
  subst d;subst c;simp only[ak,aM] at h;obtain⟨l,b,rfl⟩:=h;rw[L7 b];rfl;cases h
def uF(f:FuncId)(sp:List aa->Option pA):Prop:=
 ∀a (G:Gh) (h:aD aJ) (w:World) (xs:List Value),WR G h w->bV G a xs->
  (sp a=some none->mj ah f ⟨xs⟩ w fun y d=> ∃c,WR c h d/\cO G h w c h d 0 0/\VR c (.tup []) y)/\
  ∀n g cs b,sp a=some (some (n,g))->h.get n=some (.cells cs)->fC h.get (g cs)=some (.agg b)->
   mj ah f ⟨xs⟩ w fun y d=> ∃c,WR c (h.set n (some (.cells b))) d/\cO G h w c (h.set n (some (.cells b))) d 0 0/\VR c (.tup []) y
def L4{sz m len lcap:Nat}{y:Value}(h:VR G (.arr sz m 0 len lcap) y): ∃(a b:Addr) (cap:Nat),y= .slice (some a) len cap/\G.at_ m=some b/\a.spot=none/\len<=cap/\(len=0\/(a.block=b.block/\a.off=b.off))/\(∃d,G.dim b.block=some d/\b.off+cap*sz<=d):=by
 cases h with
 |arr n j q p o c i g=>
  rename_i a b cap d;refine⟨a,b,cap,rfl,n,j,by omega,?_,d,i,by simpa using g⟩;rcases c with c|c
  exact .inl (by omega);exact .inr (by simpa using c)
def axH:uF 140 GC:=by
 intro a7 G h w xs S hx;refine⟨fun c=>?_,fun n g cs a9 c hl N=>?_⟩;unfold GC at c;split at c;cases hx with
 |cons p q=>
  cases q;cases p;refine .inr ⟨Go.Proofs.enters_of Tryz.func140 (by kernel_rfl) rfl _ _,(AnyM.slices_Sort_string_none Tryz.sort48 none 0 w).mono ?_⟩;rintro e O ⟨rfl,rfl⟩;exact⟨_,rfl,G,S,.refl,.tup .nil⟩
 cases c;cases c;unfold GC at c;split at c;cases c;rename_i m len a5;simp only[aM,Prod.mk.injEq] at c;obtain⟨rfl,rfl⟩:=c;have N:=Gk N;obtain⟨hb,N⟩:=bc N;simp only[bq] at hb;have A:=Nat.eq_of_beq_eq_true hb.1;have a8:=fF hb.2;simp only[ak,aM] at N;obtain⟨l,h1,rfl⟩:=N;have I:=L7 h1;subst I;rw[List.length_map] at A;cases hx with
 |cons p q=>
  cases q;obtain⟨a,b,R,rfl,J,y,a6,a2,d,o,hd⟩:=L4 p;obtain⟨b',z,_,C,e,hC,H,I⟩:=S.obj m _ hl;rw[J] at z;injection z with z;subst z
  rw[H] at o;injection o with o
  have a3: ∀i (B:i<l.length),C[b.off+i]? =some (encStr l[i]):=fun i B=>by
   obtain⟨_,x,Y,V⟩:=I i (ax l[i]) (by rw[jo,List.getElem?_eq_getElem B];rfl);cases V;exact Y
  have Z:(lB l).length=l.length:=(GA l).length_eq;have D: ∀n M, ∃K,WR K (h.set m (some (.cells ((lB l).map ax)))) (grow (putRow encStr (Sort.ahead w n) b.block b.off (lB l).toArray) M)/\cO G h w K (h.set m (some (.cells ((lB l).map ax)))) (grow (putRow encStr (Sort.ahead w n) b.block b.off (lB l).toArray) M) 0 0/\VR K (.tup []) (.tuple #[]):=fun n M=>by
   refine Ko S hl J encStr (lB l).toArray n M (fun C' e' t=>?_) (fun i v B=>?_);rw[hC] at t;injection t with t;injection t with t _ _;subst t
   rw[List.size_toArray,Z,o];omega;rw[jo,Option.map_eq_some_iff] at B;obtain⟨s,hs,rfl⟩:=B;obtain⟨B,hs⟩:=List.getElem?_eq_some_iff.1 hs;refine⟨by simpa using B,rfl,?_⟩;have:(lB l).toArray[i]! =s:=by simp[B,hs]
   rw[this];exact .str s
  rcases a2 with h0|⟨F,E⟩
  have a0:l=[]:=List.eq_nil_of_length_eq_zero (by omega);subst a0;have a4:len=0:=h0;subst a4;refine .inr ⟨Go.Proofs.enters_of Tryz.func140 (by kernel_rfl) rfl _ _,(AnyM.slices_Sort_string_none Tryz.sort48 (some a) R w).mono ?_⟩;rintro e' O ⟨rfl,rfl⟩;obtain⟨K,U,T,g3⟩:=D 0 #[];have hw:grow (putRow encStr (Sort.ahead O 0) b.block b.off (lB []).toArray) #[]=O:=by
   rw[Go.Sort.grow_empty,Go.Sort.ahead_zero];exact Go.Sort.putRow_self encStr O b.block b.off _ (fun j hj=>by simp[lB] at hj)
  rw[hw] at U T;exact⟨_,rfl,K,U,T,g3⟩;obtain⟨ab,ao,b0⟩:=a;simp only at F E y;subst F;subst E;subst y;have hH:Holds encStr w b.block b.off l.toArray:=fun j hj=>by
   have P:j<l.length:=by simpa using hj
   refine⟨?_,by simp[World.frozen?,hC]⟩;rw[oL hC,a3 j P];simp[P]
  have a1:=S.below m b J;rw[<-A];refine .inr ⟨Go.Proofs.enters_of Tryz.func140 (by kernel_rfl) rfl _ _,(AnyM.slices_Sort_string Tryz.sort48 b.block b.off R l w hH a1 (by omega)).mono ?_⟩;rintro e' O ⟨rfl,n,M,rfl⟩;rw[axx];obtain⟨K,U,T,g3⟩:=D n M;exact⟨_,rfl,K,U,T,g3⟩
 cases c
end Go.Proofs.YtnnppcoplinajaaGreat
namespace Go.Proofs.YtnnppcoplinajaaGreat
open Go.Ag
def ck(k:ae):List Obj->Option Obj
 | []=>none
 |o::l=>bif k==o.id then some o else ck k l
theorem kJ{k:ae}: ∀ {l:List Obj} {q:Obj},ck k l=some q->q∈l/\q.id=k
 | [],_,h=>by cases h
 |o::r,q,h=>by
  simp only[ck] at h;cases hb:k==o.id with
  |true=>
   rw[hb] at h;injection h with h;subst h
   have:k=o.id:=by simpa using hb
   exact⟨by simp,this.symm⟩
  |false=>
   rw[hb] at h;obtain⟨b,a⟩:=kJ h;exact⟨by simp[b],a⟩
def P0(p k:ae):fh p k= !Ag.leBytes k p:=by
 rw[Ag.leBytes_iff,Go.Proofs.bytesLess_eq];by_cases h:k<=p;have a: ¬p<k:=List.not_lt.2 h;simp[lz,h,a];have a:p<k:=List.not_le.1 h;simp[lz,h,a]
def CA: ∀(l:List Obj) (last:ae),nG last l=true->(∀k∈l.map (·.id),fh last k=true)/\(l.map (·.id)).Pairwise (fun a b=>fh a b=true)
 | [],_,_=>⟨fun k h=>(by cases h),List.Pairwise.nil⟩
 |o::r,last,h=>by
  simp only[nG] at h;cases hb:(!fR o||Ag.leBytes o.id last) with
  |true=>rw[hb] at h;cases h
  |false=>
   rw[hb] at h;simp only[Bool.or_eq_false_iff] at hb;obtain⟨i,j⟩:=CA r o.id h;have d:fh last o.id=true:=by rw[P0,hb.2];rfl
   refine⟨fun k c=>?_,List.pairwise_cons.2 ⟨i,j⟩⟩;rcases dG.1 c with rfl|c
   exact d;have g:=i k c;rw[Go.Proofs.bytesLess_eq,dE] at d g ⊢;exact List.lt_trans d g
def PZ(k:ae):fh k k=false:=by
 rw[Go.Proofs.bytesLess_eq];exact dN (List.lt_irrefl k)
def qN{l:List Obj}(h:cM l=true):(l.map (·.id)).Nodup:=by
 simp only[cM,bq] at h;refine(CA l [] h.1).2.imp fun a e=>?_;subst e;rw[PZ] at a;cases a
theorem De: ∀ {l:List Obj} {q:Obj},(l.map (·.id)).Nodup->q∈l->ck q.id l=some q
 | [],_,_,h=>by cases h
 |o::r,q,hn,h=>by
  simp only[List.map_cons,List.nodup_cons] at hn;simp only[ck];rcases dG.1 h with rfl|h
  simp;have:(q.id==o.id)=false:=bN.2 fun e=>hn.1 (by rw[<-e];exact cw.2 ⟨q,h,rfl⟩);rw[this];exact De hn.2 h
def yA{g:aa->Option aa}: ∀ {l:List aa},(∀v∈l,g v=some v)->dt g l=some l
 | [],_=>rfl
 |v::l,h=>by
  have a:=yA (g:=g) (l:=l) fun u b=>h u (by simp[b]);simp only[dt,h v (by simp),a,bk]
variable{xs:List aa}{k:Nat}
def HV(h:aD aJ){n:Nat}{r:lJ}(b:bG (.list n xs r)=true)(a: ∀v∈xs,cG h k v=some v):cG h (k+1) (.list n xs r)=some (.list n xs r):=by
 simp only[cG,yA a,bk];cases r with
 |own m=>simp[bG] at b
 |_=>rfl
def akQ(h:aD aJ){o:Obj}(c:o.AL)(k:Nat):cG h (k+4) o.val=some o.val:=by
 have g:cG h (k+3) o.refsV=some o.refsV:=by
  have b:=c.pr;rcases c.gT with⟨e,_⟩|⟨r,e⟩
  rw[e];rfl;rw[e] at b ⊢;refine HV h b fun v a=>?_;obtain⟨s,_,rfl⟩:=cw.1 a;rfl
 have d:cG h (k+3) o.tagsV=some o.tagsV:=by
  have b:=c.pt;rcases c.uP with⟨e,_⟩|⟨r,e⟩
  rw[e];rfl;rw[e] at b ⊢;refine HV h b fun v a=>?_;obtain⟨s,_,rfl⟩:=cw.1 a;rfl
 show(dt (cG h (k+3)) o.cells).bind (fun r=>some (aa.agg r))=_;rw[yA (l:=o.cells) fun v a=>?_];rfl;simp only[Obj.cells,dG,List.not_mem_nil,or_false] at a;rcases a with rfl|rfl|rfl|rfl|rfl|rfl
 rfl;rfl;rfl;rfl;exact g;exact d
def fan{B:Nat}(T:0<B)(p:(Nat->Nat)->Nat->Prop)(mono: ∀ch n m,n<=m->p ch n->p ch m)(loc: ∀ch n,p ch n-> ∃k, ∀t,(∀i,i<k->t i=ch i)->p t n)(all: ∀ch,(∀i,ch i<B)-> ∃n,p ch n): ∃N, ∀ch,(∀i,ch i<B)->p ch N:=by
 classical
 let AL:List Nat->Prop:=fun l=> ∃N, ∀ch:Nat->Nat,(∀i,ch i<B)->(∀i x,l[i]? =some x->ch i=x)->p ch N
 have step: ∀l, ¬AL l-> ∃c,c<B/\ ¬AL (l++[c]):=by
  intro l K;refine ut fun H=>K ?_;have H: ∀c,c<B->AL (l++[c]):=fun c h=>ut fun S=>H ⟨c,h,S⟩;have C: ∀m,m<=B-> ∃N, ∀c,c<m-> ∀ch:Nat->Nat,(∀i,ch i<B)->(∀i x,(l++[c])[i]? =some x->ch i=x)->p ch N:=by
   intro m
   induction m with
   |zero=>exact fun _=>⟨0,fun c h=>by omega⟩
   |succ m y=>
    intro Y;obtain⟨V,P⟩:=y (by omega);obtain⟨U,D⟩:=H m (by omega);refine⟨max V U,fun c O ch a b=>?_⟩;by_cases h:c<m;exact mono _ _ _ (Nat.le_max_left _ _) (P c h ch a b);have:c=m:=by omega
    subst this;exact mono _ _ _ (Nat.le_max_right _ _) (D ch a b)
  obtain⟨N,I⟩:=C B (bj _);refine⟨N,fun ch a b=>I (ch l.length) (a _) ch a fun i x o=>?_⟩;rcases pq i l.length with h|h
  rw[GR h] at o;exact b i x o;rw[xN h] at o;cases E:i-l.length with
  |zero=>
   rw[E] at o;simp only[List.getElem?_cons_zero,aM] at o;have:i=l.length:=by omega
   rw[this,o]
  |succ j=>rw[E] at o;simp at o
 refine ut fun A=>?_;have R: ¬AL []:=fun⟨N,I⟩=>A ⟨N,fun ch a=>I ch a fun i x o=>by simp at o⟩
 let d:Nat-> {l:List Nat // ¬AL l}:=fun n=>Nat.rec ⟨[],R⟩ (fun _ q=>⟨q.1++[(step q.1 q.2).choose],(step q.1 q.2).choose_spec.2⟩) n
 have g: ∀n,(d n).1.length=n:=by
  intro n
  induction n with
  |zero=>rfl
  |succ n y=>
   show((d n).1++[_]).length=_;rw[List.length_append,y];rfl
 let ch:Nat->Nat:=fun n=>(step (d n).1 (d n).2).choose
 have F: ∀n,ch n<B:=fun n=>(step (d n).1 (d n).2).choose_spec.1;have z: ∀n i,i<n->(d n).1[i]? =some (ch i):=by
  intro n
  induction n with
  |zero=>intro i h;omega
  |succ n y=>
   intro i h;show((d n).1++[ch n])[i]? =_;rcases pq i n with D|D
   rw[GR (by rw[g];exact D)];exact y i D;have:i=n:=by omega
   subst this;rw[xN (by rw[g];exact bj _),g];simp
 obtain⟨n,J⟩:=all ch F;obtain⟨k,M⟩:=loc ch n J;exact(d k).2 ⟨n,fun t _ b=>M t fun i E=>b i _ (z k i E)⟩
def ahb(P:Program)(t:TypeId)(a b:List UInt8):dz P .gtr t (.str a) (.str b)=some (.bool (!Ag.leBytes a b)):=rfl
def arR(a b:ae):(!Ag.leBytes a b)=fh b a:=(P0 b a).symm
def C9:Sp
 | [.int .i64 _a]=>some (.bool false)
 |_=>none
def atc{sp:gQ}(b:sp 328=none)(a:Int)(s:St):aq (QS sp) 328 [.int .i64 a] s (.bool false) s:=by
 refine lg I4.1 I4.2 I4.3 I4.4 b ?_;refine bn ?_;simp only[aR,fP,fH,aA,cz];refine bn ?_;simp only[aR,ai,aA,EW];exact dZ ⟨rfl,.inr rfl,dD (by simp only[aV,ai, *]) rfl⟩
def atb:cL ah 328 C9:=by
 intro args x b G h w xs c d;unfold C9 at b;split at b;rename_i a;injection b with b;subst b
 exact mT (Q:=QT []) (mE .nil) (fun _=>nf 1) (args:=[.int .i64 a]) (v:=.bool false) (s':=s0) rfl (atc (sp:=fun f=>gg f []) rfl a s0) rfl ⟨1,rfl⟩ G h w xs c d;cases b
def iW(a b:Int):Int:=bif aX a b then-1 else bif aX b a then 1 else 0
def oN:Sp
 | [.int .i64 a,.int .i64 b]=>some (.int .i64 (iW a b))
 |_=>none
def aii{sp:gQ}(i:sp 232=none)(c:sp 328=some C9)(a b:Int)(s:St):aq (QS sp) 232 [.int .i64 a,.int .i64 b] s (.int .i64 (iW a b)) s:=by
 have g:C9 [.int .i64 a]=some (.bool false):=rfl;have d:C9 [.int .i64 b]=some (.bool false):=rfl;refine lg IK.1 IK.2 IK.3 IK.4 i ?_;refine bn ?_;simp only[aR,fP,fH,aA,bH,cz];refine bn ?_;simp only[aR,ai,aA,c,g];refine bn ?_;simp only[aR,ai,aA,c,d];refine cC (bn ?_);simp only[aR,ai,aA];refine lh ?_;simp only[fe];refine cC (bn ?_);simp only[aR,ai,aA];refine lh ?_;simp only[fe];refine cC (bn ?_);simp only[aR,ai,aA];cases h2:aX a b with
 |true=>
  refine li (bn ?_);simp only[gY,nH,aA];exact dZ ⟨rfl,.inr rfl,dD (by simp only[aV,ai,iW,h2]) rfl⟩
 |false=>
  refine lh ?_;simp only[fe];refine cC (bn ?_);simp only[aR,ai,aA];cases h3:aX b a with
  |true=>
   refine li (bn ?_);simp only[gY,nH,aA];exact dZ ⟨rfl,.inr rfl,dD (by simp only[aV,ai,iW,h2,h3]) rfl⟩
  |false=>
   refine lh ?_;simp only[fe];refine bn ?_;simp only[gY,nH,aA];exact dZ ⟨rfl,.inr rfl,dD (by simp only[aV,ai,iW,h2,h3]) rfl⟩
def LR:df:=[(328,C9)]
def afT:dl LR:=.cons atb .nil
def Hy:cL ah 232 oN:=by
 intro args x c G h w xs d g;unfold oN at c;split at c;rename_i a b;injection c with c;subst c
 exact mT (Q:=QT LR) (mE afT) (fun _=>nf 1) (args:=[.int .i64 a,.int .i64 b]) (v:=.int .i64 (iW a b)) (s':=s0) rfl (aii (sp:=fun f=>gg f LR) rfl rfl a b s0) rfl ⟨1,rfl⟩ G h w xs d g;cases c
def Da:Sp
 | [.str _a]=>some (.bool false)
 |_=>none
def ate{sp:gQ}(b:sp 325=none)(a:ae)(s:St):aq (QS sp) 325 [.str a] s (.bool false) s:=by
 refine lg IZ.1 IZ.2 IZ.3 IZ.4 b ?_;refine bn ?_;simp only[aR,fP,fH,aA,cz];refine bn ?_;simp only[aR,ai,aA];exact dZ ⟨rfl,.inr rfl,dD (by simp only[aV,ai, *]) rfl⟩
def atd:cL ah 325 Da:=by
 intro args x b G h w xs c d;unfold Da at b;split at b;rename_i a;injection b with b;subst b
 exact mT (Q:=QT []) (mE .nil) (fun _=>nf 1) (args:=[.str a]) (v:=.bool false) (s':=s0) rfl (ate (sp:=fun f=>gg f []) rfl a s0) rfl ⟨1,rfl⟩ G h w xs c d;cases b
def gR(a b:ae):Int:=bif fh a b then-1 else bif fh b a then 1 else 0
def pG:Sp
 | [.str a,.str b]=>some (.int .i64 (gR a b))
 |_=>none
def ail{sp:gQ}(i:sp 228=none)(c:sp 325=some Da)(a b:ae)(s:St):aq (QS sp) 228 [.str a,.str b] s (.int .i64 (gR a b)) s:=by
 have g:Da [.str a]=some (.bool false):=rfl;have d:Da [.str b]=some (.bool false):=rfl;refine lg II.1 II.2 II.3 II.4 i ?_;refine bn ?_;simp only[aR,fP,fH,aA,bH,cz];refine bn ?_;simp only[aR,ai,aA,c,g];refine bn ?_;simp only[aR,ai,aA,c,d];refine cC (bn ?_);simp only[aR,ai,aA];refine lh ?_;simp only[fe];refine cC (bn ?_);simp only[aR,ai,aA];refine lh ?_;simp only[fe];refine cC (bn ?_);simp only[aR,ai,aA];cases h2:fh a b with
 |true=>
  refine li (bn ?_);simp only[gY,nH,aA];exact dZ ⟨rfl,.inr rfl,dD (by simp only[aV,ai,gR,h2]) rfl⟩
 |false=>
  refine lh ?_;simp only[fe];refine cC (bn ?_);simp only[aR,ai,aA,ahb,arR];cases h3:fh b a with
  |true=>
   refine li (bn ?_);simp only[gY,nH,aA];exact dZ ⟨rfl,.inr rfl,dD (by simp only[aV,ai,gR,h2,h3]) rfl⟩
  |false=>
   refine lh ?_;simp only[fe];refine bn ?_;simp only[gY,nH,aA];exact dZ ⟨rfl,.inr rfl,dD (by simp only[aV,ai,gR,h2,h3]) rfl⟩
def LW:df:=[(325,Da)]
def afY:dl LW:=.cons atd .nil
def MP:cL ah 228 pG:=by
 intro args x c G h w xs d g;unfold pG at c;split at c;rename_i a b;injection c with c;subst c
 exact mT (Q:=QT LW) (mE afY) (fun _=>nf 1) (args:=[.str a,.str b]) (v:=.int .i64 (gR a b)) (s':=s0) rfl (ail (sp:=fun f=>gg f LW) rfl rfl a b s0) rfl ⟨1,rfl⟩ G h w xs d g;cases c
def bF(n:Int):aa:=.int .i64 n
def asInt:aa->Option Int
 | .int .i64 n=>some n
 |_=>none
variable{v:aa}
def ags{n:Int}(h:asInt v=some n):v=bF n:=by
 unfold asInt at h;split at h;injection h with h;subst h;rfl
 cases h
def aN(p:Int×Int):aa:=.agg [.int .i64 p.1,.int .i64 p.2]
def jv:aa->Option (Int×Int)
 | .agg [.int .i64 a,.int .i64 b]=>some (a,b)
 |_=>none
def lM{p:Int×Int}(h:jv v=some p):v=aN p:=by
 unfold jv at h;split at h;injection h with h;subst h;rfl
 cases h
def wd(p:Int×Int):jv (aN p)=some p:=rfl
def Ga(p:Int×Int):bG (aN p)=true:=rfl
def lW:List Int->Int
 | []=>0
 |x::l=>bif an x 0 then lW l else x
variable{lc:Ag.Loc}{l:List Int}{s:St}
def ave{sp:gQ}(A:au 1 bF v l)(i:l.length<small): ∀(b c:List Int) (e:aw),l=c++b->
 ac e 3= .int .i64 0->ac e 6=v->ac e 7= .int .i64 (l.length:Nat)->ac e 8= .int .i64 (c.length:Nat)->
 W (QS sp) 108 (.loop aoe) ⟨e,18,lc⟩ s fun x z D=>D=s/\z.size=18/\((x= .exit 0/\lW b=0/\ac z.env 3= .int .i64 0)\/(x= .ret/\ac z.env 2= .int .i64 (lW b))):=by
 intro b;have H:=A.ge;have F:=gV
 induction b with
 |nil=>
  intro c e d C B y g;have o:l.length=c.length:=by rw[d];simp
  refine jL ?_;refine bn ?_;simp only[aR,aA,y,g,o,cq];refine cC (W.cnFZ ?_);exact W.exit ⟨rfl,rfl,.inl ⟨rfl,rfl,by simp only[dc,ai, *]⟩⟩
 |cons a b E=>
  intro c e d C B y g;have m:c.length<l.length:=by rw[d];simp
  have q:l[c.length]? =some a:=by rw[d];simp
  have p:=fun lc=>A.at lf.2.2.1 q lc .i64;have j:=ug (n:=c.length) (by omega);refine jL ?_;refine bn ?_;simp only[aR,aA,y,g,m];refine cC (li (kO ?_));simp only[fe];refine cC (jq (bn ?_));simp only[aR,bL,ai,aA,jn,B,g,p,bF];refine bn ?_;simp only[aR,ai,aA,C];cases hz:an a 0 with
  |false=>
   refine ib (t:=true) (by simp only[aV,dA,ai,mZ]) (bn ?_);simp only[aR,ai,aA];exact dZ ⟨rfl,rfl,.inr ⟨rfl,by simp only[aV,ai,lW,hz]⟩⟩
  |true=>
   refine ib (t:=false) (by simp only[aV,dA,ai,lD]) (kO ?_);simp only[qA,fe];refine W.reg ?_;simp only[aR,ie,ai,aA,g,j];refine(E (c++[a]) _ (by rw[d];simp) (by simp only[dc,ai, *]) (by simp only[dc,ai, *]) (by simp only[dc,ai, *]) (by simp only[aV,kS,ai])).mono ?_;simp only[lW,hz,cT];exact fun _ _ _ h=>h
def avf{sp:gQ}(o:sp 108=none)(g:au 1 bF v l)(a:l.length<small)(s:St):aq (QS sp) 108 [v] s (.int .i64 (lW l)) s:=by
 have b:=fun m s=>g.lenS lf m s;have i:=g.ge;refine lg Ic.1 Ic.2 Ic.3 Ic.4 o ?_;refine bn ?_;simp only[aR,fP,fH,aA,cz];refine bn ?_;simp only[gY,nH,aA];refine cC (bn ?_);simp only[aR,ai,aA,al4,i,b];refine jq ?_;refine(ave g a l [] _ rfl (by simp only[aV,ai, *]) (by simp only[aV,ai, *]) (by simp only[aV,ai, *]) (by simp only[aV,ai];rfl)).mono ?_;rintro x ⟨e,sz,lc⟩ p ⟨rfl,c,⟨rfl,d,j⟩|⟨rfl,n⟩⟩;have c:sz=18:=c;subst c;have j:ac e 3= .int .i64 0:=j;show W (QS sp) 108 _ _ _ _;refine bn ?_;simp only[aR,aA,j];exact dZ ⟨rfl,.inr rfl,dD (by simp only[aV,ai,d]) rfl⟩;exact⟨rfl,.inr rfl,dD n rfl⟩
def vp:Sp
 | [a]=>bif pures [a] then(dW 1 asInt a).bind fun l=>bif bh l.length small then some (.int .i64 (lW l)) else none else none
 |_=>none
def abQ:cL ah 108 vp:=by
 intro args x b G h w xs d g;unfold vp at b;split at b;rename_i a;obtain⟨c,b⟩:=bc b;simp only[ak] at b;obtain⟨l,m,b⟩:=b;obtain⟨i,b⟩:=bc b;injection b with b;subst b
 have j:=ig (fun v a=>ags) m;exact mT (Q:=QT []) (mE .nil) (fun _=>nf 1) (args:=[a]) (v:=.int .i64 (lW l)) (s':=s0) (vH c) (by rw[kw c];exact avf (sp:=fun f=>gg f []) rfl j (fF i) s0) rfl ⟨1,rfl⟩ G h w xs d g;cases b
def uW:List (Int×Int)->Int
 | []=>0
 |p::l=>bif an (iW p.1 p.2) 0 then uW l else iW p.1 p.2
variable{l:List (Int×Int)}
def aks{sp:gQ}(i:sp 232=some oN)(B:au 2 aN v l)(j:l.length<small): ∀(b c:List (Int×Int)) (e:aw) (lc:Ag.Loc),l=c++b->
 ac e 6=v->ac e 7= .int .i64 (l.length:Nat)->ac e 8= .int .i64 (c.length:Nat)->
 W (QS sp) 462 (.loop aqR) ⟨e,21,lc⟩ s fun x D E=>E=s/\D.size=21/\((x= .exit 0/\uW b=0)\/(x= .ret/\ac D.env 2= .int .i64 (uW b))):=by
 intro b;have K:=B.ge;have J:=gV
 induction b with
 |nil=>
  intro c e lc d C A g;have q:l.length=c.length:=by rw[d];simp
  refine jL ?_;refine bn ?_;simp only[aR,aA,A,g,q,cq];refine cC (W.cnFZ ?_);exact W.exit ⟨rfl,rfl,.inl ⟨rfl,rfl⟩⟩
 |cons a b I=>
  intro c e lc d C A g;have p:c.length<l.length:=by rw[d];simp
  have z:l[c.length]? =some a:=by rw[d];simp
  have y:=fun lc=>B.at DE.2.2.1 z lc .i64;have o:oN [.int .i64 a.1,.int .i64 a.2]=some (.int .i64 (iW a.1 a.2)):=rfl;have m:=ug (n:=c.length) (by omega);have H: ∀k,dv (.int k 0)=some 0:=fun _=>rfl;have F: ∀k,dv (.int k 1)=some 1:=fun _=>rfl;refine jL ?_;refine bn ?_;simp only[aR,aA,A,g,p];refine cC (li (kO ?_));simp only[fe];refine cC (jq (bn ?_));simp only[aR,jM,cut,eR,List.take,bL,ai,aA,bH,cz,acJ,Xu,C,g,y,aN];refine bn ?_;simp only[aR,jM,bL,ai,aA,dH,jn,H,F,i,o];refine bn ?_;simp only[aR,ai,aA];cases hz:an (iW a.1 a.2) 0 with
  |false=>
   refine ib (t:=true) (by simp only[aV,dA,ai,mZ]) (bn ?_);simp only[aR,ai,aA];exact dZ ⟨rfl,rfl,.inr ⟨rfl,by simp only[aV,ai,uW,hz]⟩⟩
  |true=>
   refine ib (t:=false) (by simp only[aV,dA,ai,lD]) (kO ?_);simp only[qA,fe];refine W.reg ?_;simp only[aR,ie,ai,aA,g,m];refine(I (c++[a]) _ _ (by rw[d];simp) (by simp only[dc,ai, *]) (by simp only[dc,ai, *]) (by simp only[aV,kS,ai])).mono ?_;simp only[uW,hz,cT];exact fun _ _ _ h=>h
def akt{sp:gQ}(o:sp 462=none)(c:sp 232=some oN)(i:au 2 aN v l)(a:l.length<small)(s:St):aq (QS sp) 462 [v] s (.int .i64 (uW l)) s:=by
 have b:=fun m s=>i.lenS DE m s;have j:=i.ge;refine lg Jf.1 Jf.2 Jf.3 Jf.4 o ?_;refine bn ?_;simp only[aR,fP,fH,aA,cz];refine cC (bn ?_);simp only[aR,ai,aA,Xu,j,b];refine jq ?_;refine(aks c i a l [] _ _ rfl (by simp only[aV,ai, *]) (by simp only[aV,ai, *]) (by simp only[aV,ai];rfl)).mono ?_;rintro x ⟨e,sz,lc⟩ p ⟨rfl,d,⟨rfl,g⟩|⟨rfl,n⟩⟩;have d:sz=21:=d;subst d;show W (QS sp) 462 _ _ _ _;refine bn ?_;simp only[gY,nH,aA];exact dZ ⟨rfl,.inr rfl,dD (by simp only[iQ,ai,cT,g]) rfl⟩;exact⟨rfl,.inr rfl,dD n rfl⟩
def EJ:Sp
 | [a]=>bif pures [a] then(dW 2 jv a).bind fun l=>bif bh l.length small then some (.int .i64 (uW l)) else none else none
 |_=>none
def LU:df:=[(232,oN)]
def afX:dl LU:=.cons Hy .nil
def akr:cL ah 462 EJ:=by
 intro args x b G h w xs d g;unfold EJ at b;split at b;rename_i a;obtain⟨c,b⟩:=bc b;simp only[ak] at b;obtain⟨l,m,b⟩:=b;obtain⟨i,b⟩:=bc b;injection b with b;subst b
 have j:=ig (fun v a=>lM) m;exact mT (Q:=QT LU) (mE afX) (fun _=>nf 1) (args:=[a]) (v:=.int .i64 (uW l)) (s':=s0) (vH c) (by rw[kw c];exact akt (sp:=fun f=>gg f LU) rfl rfl j (fF i) s0) rfl ⟨1,rfl⟩ G h w xs d g;cases b
def fA(a b:Int×Int):Int:=uW [(a.1,b.1),(a.2,b.2)]
variable{e:aw}
def ag9{x y:Operand}{a b c d:aa}(i:ev e x=some (.agg [a,b]))(g:ev e y=some (.agg [c,d]))(s:St):bf ah 535 2 [(0,x),(1,y)] false e s=some (.list 2 [.agg [a,b],.agg [c,d]] .GT,s):=by
 simp only[dX,bf,DE,aZ,evc,i,g,aa.ge,aW,aa.cells,List.length_cons,List.length_nil,eR,Nat.zero_mul,Nat.zero_add,bH,dH,aY,cut];rfl
def avr{sp:gQ}(i:sp 379=none)(c:sp 462=some EJ)(a b:Int×Int)(s:St):aq (QS sp) 379 [aN a,aN b] s (.int .i64 (fA a b)) s:=by
 have g: ∀e s,ac e 9= .agg [.int .i64 a.1,.int .i64 b.1]->ac e 14= .agg [.int .i64 a.2,.int .i64 b.2]->bf ah 535 2 [(0,.tmp 9),(1,.tmp 14)] false e s=some (.list 2 [.agg [.int .i64 a.1,.int .i64 b.1],.agg [.int .i64 a.2,.int .i64 b.2]] .GT,s):=fun e s p q=>ag9 (by rw[dA,p]) (by rw[dA,q]) s;have d:EJ [.list 2 [.agg [.int .i64 a.1,.int .i64 b.1],.agg [.int .i64 a.2,.int .i64 b.2]] .GT]=some (.int .i64 (fA a b)):=rfl;refine lg I9.1 I9.2 I9.3 I9.4 i ?_;refine bn ?_;simp only[aR,fP,fH,ai,aA,bH,cz,Xt,aN];refine bn ?_;simp only[aR,jM,eR,List.take,bL,ai,aA,bH,dH,cz,UT,jn,yx,Ck,Xt,aZ,g,c,d];exact dZ ⟨rfl,.inr rfl,dD (by simp only[aV,ai, *]) rfl⟩
def sC:Sp
 | [a,b]=>(jv a).bind fun p=>(jv b).bind fun q=>some (.int .i64 (fA p q))
 |_=>none
def LQ:df:=[(462,EJ)]
def afS:dl LQ:=.cons akr .nil
def Rg:cL ah 379 sC:=by
 intro args x a G h w xs d g;unfold sC at a;split at a;simp only[ak,aM] at a;obtain⟨p,c,q,b,rfl⟩:=a;have c:=lM c;have b:=lM b;subst c;subst b;exact mT (Q:=QT LQ) (mE afS) (fun _=>nf 1) (args:=[aN p,aN q]) (v:=.int .i64 (fA p q)) (s':=s0) rfl (avr (sp:=fun f=>gg f LQ) rfl rfl p q s0) rfl ⟨1,rfl⟩ G h w xs d g;cases a
def fX:List ae->List ae->Int
 | [],[]=>0
 | [],_::_=> -1
 |_::_,[]=>1
 |a::x,b::y=>bif an (gR a b) 0 then fX x y else gR a b
variable{l:List ae}{u:aa}
def ax3{sp:gQ}(D:sp 228=some pG){r:List ae}(U:au 1 ax v l)(J:au 1 ax u r)(E:l.length<small): ∀(j c d g:List ae) (e:aw),l=d++j->r=g++c->d.length=g.length->
 ac e 0=v->ac e 1=u->ac e 9=v->ac e 10= .int .i64 (l.length:Nat)->ac e 11= .int .i64 (d.length:Nat)->
 W (QS sp) 136 (.loop aoA) ⟨e,36,lc⟩ s fun x F Y=>Y=s/\F.size=36/\((x= .exit 0/\fX j c=(bif decide (l.length<r.length) then-1 else 0)/\ac F.env 0=v/\ac F.env 1=u)\/(x= .ret/\ac F.env 4= .int .i64 (fX j c))):=by
 intro j;have a1:=U.ge;have R:=J.ge;have z:=fun Z s=>J.lenS bT Z s;have a0:=gV
 induction j with
 |nil=>
  intro c d g e m i q h0 T V A p;have M:l.length=d.length:=by rw[m];simp
  have o:r.length=g.length+c.length:=by rw[i];simp
  refine jL ?_;refine bn ?_;simp only[aR,aA,A,p,M,cq];refine cC (W.cnFZ ?_);refine W.exit ⟨rfl,rfl,.inl ⟨rfl,?_,by simp only[dc,ai, *],by simp only[dc,ai, *]⟩⟩;cases c with
  |nil=>
   have:decide (d.length<r.length)=false:=dN (by simp at o;omega);rw[this];rfl
  |cons b y=>
   have:decide (d.length<r.length)=true:=dQ (by simp at o;omega);rw[this];rfl
 |cons a j ih=>
  intro c d g e m i q h0 T V A p;have K:d.length<l.length:=by rw[m];simp
  have S:l[d.length]? =some a:=by rw[m];simp
  have o:r.length=g.length+c.length:=by rw[i];simp
  have O:=fun lc=>U.at bT.2.2.1 S lc .i64;have H:=ug (n:=d.length) (by omega);refine jL ?_;refine bn ?_;simp only[aR,aA,A,p,K];refine cC (li (kO ?_));simp only[fe];refine cC (jq (bn ?_));simp only[aR,bL,ai,aA,gK,V,p,O,ax];refine cC (bn ?_);have P:b9 ((r.length:Nat):Int) ((d.length:Nat):Int)=decide (r.length<=d.length):=H4 _ _;simp only[aR,ai,aA,T,R,z,P];cases c with
  |nil=>
   have:decide (r.length<=d.length)=true:=dQ (by simp at o;omega);refine ib (t:=true) (by simp only[aV,dA,ai,this]) (bn ?_);simp only[gY,nH,aA];exact dZ ⟨rfl,rfl,.inr ⟨rfl,by simp only[aV,ai,fX]⟩⟩
  |cons b y=>
   have B:decide (r.length<=d.length)=false:=dN (by simp at o;omega);have C:r[d.length]? =some b:=by rw[i,q];simp
   have N:=fun lc=>J.at bT.2.2.1 C lc .i64;have I:pG [.str a,.str b]=some (.int .i64 (gR a b)):=rfl;refine ib (t:=false) (by simp only[aV,dA,ai,B]) (kO ?_);simp only[fe];refine bn ?_;simp only[aR,bL,ai,aA,gK,T,N,ax];refine bn ?_;simp only[aR,ai,aA,D,I];refine bn ?_;simp only[aR,ai,aA];cases hz:an (gR a b) 0 with
   |false=>
    refine ib (t:=true) (by simp only[aV,dA,ai,mZ]) (bn ?_);simp only[aR,ai,aA];exact dZ ⟨rfl,rfl,.inr ⟨rfl,by simp only[aV,ai,fX,hz]⟩⟩
   |true=>
    refine ib (t:=false) (by simp only[aV,dA,ai,lD]) (kO ?_);simp only[qA,fe];refine W.reg ?_;simp only[aR,ie,ai,aA,p,H];refine(ih y (d++[a]) (g++[b]) _ (by rw[m];simp) (by rw[i];simp) (by simp[q]) (by simp only[dc,ai, *]) (by simp only[dc,ai, *]) (by simp only[dc,ai, *]) (by simp only[dc,ai, *]) (by simp only[aV,kS,ai])).mono ?_;simp only[fX,hz,cT];exact fun _ _ _ h=>h
def ax4{sp:gQ}(z:sp 136=none)(i:sp 228=some pG){r:List ae}(o:au 1 ax v l)(n:au 1 ax u r)(a:l.length<small)(s:St):aq (QS sp) 136 [v,u] s (.int .i64 (fX l r)) s:=by
 have b:=fun j s=>o.lenS bT j s;have c:=fun j s=>n.lenS bT j s;have g:=o.ge;have p:=n.ge;refine lg Ij.1 Ij.2 Ij.3 Ij.4 z ?_;refine bn ?_;simp only[aR,fP,fH,aA,bH,cz];refine cC (bn ?_);simp only[aR,ai,aA,Xk,g,b];refine jq ?_;refine(ax3 i o n a l r [] [] _ rfl rfl rfl (by simp only[aV,ai, *]) (by simp only[aV,ai, *]) (by simp only[aV,ai, *]) (by simp only[aV,ai, *]) (by simp only[aV,ai];rfl)).mono ?_;rintro x ⟨e,sz,lc⟩ A ⟨rfl,m,⟨rfl,d,t,q⟩|⟨rfl,y⟩⟩;have m:sz=36:=m;subst m;have t:ac e 0=v:=t;have q:ac e 1=u:=q;show W (QS sp) 136 _ _ _ _;refine cC (bn ?_);simp only[aR,ai,aA,Xk,t,q,g,p,b,c];cases hd:decide (l.length<r.length) with
 |true=>
  refine li (bn ?_);simp only[gY,nH,aA];exact dZ ⟨rfl,.inr rfl,dD (by simp only[aV,ai,d,hd]) rfl⟩
 |false=>
  refine lh ?_;simp only[fe];refine bn ?_;simp only[gY,nH,aA];exact dZ ⟨rfl,.inr rfl,dD (by simp only[aV,ai,d,hd]) rfl⟩
 exact⟨rfl,.inr rfl,dD y rfl⟩
def DQ:Sp
 | [a,b]=>bif pures [a,b] then(dW 1 gG a).bind fun l=>(dW 1 gG b).bind fun r=>bif bh l.length small then some (.int .i64 (fX l r)) else none else none
 |_=>none
def LS:df:=[(228,pG)]
def afU:dl LS:=.cons MP .nil
def axZ:cL ah 136 DQ:=by
 intro args x c G h w xs g i;unfold DQ at c;split at c;rename_i a b;obtain⟨d,c⟩:=bc c;simp only[ak] at c;obtain⟨l,p,r,o,c⟩:=c;obtain⟨j,c⟩:=bc c;injection c with c;subst c
 have n:=ig (fun v a=>kQ) p;have m:=ig (fun v a=>kQ) o;exact mT (Q:=QT LS) (mE afU) (fun _=>nf 1) (args:=[a,b]) (v:=.int .i64 (fX l r)) (s':=s0) (vH d) (by rw[kw d];exact ax4 (sp:=fun f=>gg f LS) rfl rfl n m (fF j) s0) rfl ⟨1,rfl⟩ G h w xs g i;cases c
def aeK:List fO->List ae
 | []=>[]
 |t::l=>t.1::t.2::aeK l
def SO:Obj:=⟨[],0,0,0,.Ge,.Ge,[],[]⟩
def n8:(aa.nilp).ge=true:=rfl
section
variable{sp:gQ}{ch:Nat->Nat}
def at_(k:ae)(L:List (ae×aa)):aa:=(look k L).getD .nilp
end
abbrev Cf:=ae×ae
def wu(a b:Cf):Bool:=bif a.1==b.1 then bif a.2==b.2 then true else false else false
theorem Hw(a b:Cf):wu a b=true↔a=b:=by
 obtain⟨i,g⟩:=a;obtain⟨d,c⟩:=b;unfold wu;constructor;intro h;cases h1:i==d with
 |false=>simp only[h1,cF,KX] at h
 |true=>
  cases h2:g==c with
  |false=>simp only[h1,h2,cT,cF,KX] at h
  |true=>rw[eq_of_beq h1,eq_of_beq h2]
 intro h;cases h;simp
def axY{r:List ae}(i:au 1 ax v l)(d:au 1 ax u r)(c:bG v=true)(a:bG u=true)(g:l.length<small):DQ [v,u]=some (.int .i64 (fX l r)):=by
 have b:bh l.length small=true:=cN g;simp only[dX,DQ,pures,c,a,bX,kT kF i,kT kF d,b]
def hG(a b:Int×Int):Bool:=bif an a.1 b.1 then bif an a.2 b.2 then true else false else false
inductive Rows:List aa->List (List ae)->Prop
 |nil:Rows [] []
 |cons {v:aa} {l:List ae} {vs:List aa} {ls:List (List ae)}:au 1 ax v l->bG v=true->Rows vs ls->Rows (v::vs) (l::ls)
section
variable{Q:aF}{f:FuncId}
def akB:cW->Bool
 | .none=>true
 | .loc _=>true
 |_=>false
def WX(Q:aF)(f:FuncId)(s:St):List ay->Fr->(Fr->Prop)->Prop
 | [],fr,N=>N fr
 |o::l,fr,N=> ∃v a,eY fr.env o.g=true/\cy Q f o [] fr s=some (v,fr.loc,s)/\isStore o.op=false/\akB (bD (Q.hint f) o.dst fr.env o.op)=true/\cR fr o.dst v fr.loc=some a/\WX Q f s l a N
end
def cI(sz lo:Nat)(s:St)(ov:aa)(xs:List aa):Prop:=(ov= .Ge/\xs=[])\/(xs≠ []/\ ∃k,ov= .list sz xs (.own k)/\s.get [] k=some .tok/\lo<=k/\k<s.aL)
variable{lo sz:Nat}{ov:aa}
def cI.ge(h:cI sz lo s ov xs):ov.ge=true:=by
 rcases h with⟨rfl,_⟩|⟨_,k,rfl,_⟩<;>rfl
theorem cU(s:St)(n:Nat)(o:Option aJ)(h:s.gE<=s.aL):(s.put n o).gE<=(s.put n o).aL:=by
 show(bif Nat.ble s.gE n then s.gE else n)<=s.aL;cases hb:Nat.ble s.gE n with
 |true=>exact h
 |false=>
  have: ¬s.gE<=n:=fun a=>by rw[cN a] at hb;cases hb
  simp only[cF];omega
def Ek{t:TypeId}{E:EI}(z:lY ah t=some E)(C:E.n=sz)(A:E.b<=88){y:aa}{ys:List aa}(h:cI sz lo s ov xs)(o:ee [] E.g E.n y s=some ys)(c:xs.length+ys.length<=1000000)(j:lo<=s.aL)(x:s.gE<=s.aL):
 ∃a d,eU ah [] t ov y false s=some (a,d)/\cI sz lo d a (xs++ys)/\d.ci=s.ci/\s.aL<=d.aL/\d.gE<=d.aL/\(∀n,n<lo->d.get [] n=s.get [] n)/\a.cells=[a]:=by
 subst C;have i:AU ov=true/\ov.cells=[ov]:=by rcases h with⟨rfl,_⟩|⟨_,k,rfl,_⟩<;>exact⟨rfl,rfl⟩
 cases ys with
 |nil=>
  refine⟨ov,s,?_,by rw[List.append_nil];exact h,rfl,bj _,x,fun _ _=>rfl,i.2⟩;simp only[dX,eU,z,o,i.1]
 |cons m ys=>
  rcases h with⟨rfl,rfl⟩|⟨B,k,rfl,D,H,F⟩
  have p:iR (m::ys).length E.b=true:=vw (by simpa using c) A;refine⟨.list E.n (m::ys) (.own s.aL),s.new .tok,?_,.inr ⟨by simp,s.aL,rfl,by rw[eN,bS];rfl,j,jX _⟩,rfl,Nat.le_succ _,bW x,fun n q=>?_,rfl⟩;simp only[dX,eU,z,o,ju,ki,p,cF];rw[eN,bN.2 (by omega)];rfl;have p:iR (xs.length+(m::ys).length) E.b=true:=vw c A;refine⟨.list E.n (xs++(m::ys)) (.own s.aL),(s.put k none).new .tok,?_,.inr ⟨by simp,s.aL,rfl,by rw[eN,mL,bS];rfl,j,jX _⟩,rfl,Nat.le_succ _,bW (cU s k none x),fun n q=>?_,rfl⟩;simp only[fc,eU,z,bk,o,ju,D,p,bX];rw[eN,mL,bN.2 (by omega),cF,aU,bN.2 (by omega)];rfl
def acF: ∀l:List ae,pures (l.map ax)=true
 | []=>rfl
 |a::l=>by
  show(bG (ax a)&&pures (l.map ax))=true;rw[acF l];rfl
def avL:lJ->Bool
 | .own _=>false
 |_=>true
def Bi(l:List ae)(r:lJ):bG (.list 1 (l.map ax) r)=avL r:=by
 show(pures (l.map ax)&&_)=_;rw[acF];cases r<;>rfl
def ayQ:ah.underlying 25=some (.slice 9):=by kernel_rfl
def qy(P:Program)(t:TypeId)(a b:Int):dz P .mul t (.int .i64 a) (.int .i64 b)=some (.int .i64 (IntKind.i64.wrap (a*b))):=rfl
def up(T:List Int)(o:Nat):Int:=(T[o]?).getD 0
def GF(a b:List ae)(w i k:Nat)(T:List Int):List Int:=
 T.set (i*w+k) (bif(a[i]?).getD []==(b[k]?).getD [] then IntKind.i32.wrap (up T ((i+1)*w+(k+1))+1) else bif aX (up T ((i+1)*w+k)) (up T (i*w+(k+1))) then up T (i*w+(k+1)) else up T ((i+1)*w+k))
def Q5{Q:aF}{f:FuncId}{d:Option Tmp}{g:SG}{mk:aH}(t:TypeId)(l c:Operand):cy Q f ⟨d,.makeSlice t l c,g⟩ mk ⟨e,sz,lc⟩ s=(ev e l).bind fun l=>(ev e c).bind fun c=>f9 (og Q.P t l c (Nat.beq (oX (Q.hint f) d) 2) s) lc:=rfl
theorem Bj{l:List aa}(h: ∀v∈l,bG v=true):pures l=true:=by
 induction l with
 |nil=>rfl
 |cons a l b=>
  show(bG a&&pures l)=true;rw[h a (by simp),b fun v c=>h v (by simp[c])];rfl
def gw(sz:Nat):List aa->aa
 | []=>.Ge
 |x::l=>.list sz (x::l) .no
def AF{h:aD aJ}(g:cI sz lo s ov xs)(d: ∀v∈xs,cG h k v=some v):cG h (k+1) ov=some (gw sz xs):=by
 rcases g with⟨rfl,rfl⟩|⟨b,n,rfl,_⟩
 rfl;show(dt (cG h k) xs).bind (fun c=>some (aa.list sz c .no))=_;rw[yA d];cases xs with
 |nil=>exact absurd rfl b
 |cons a l=>rfl
