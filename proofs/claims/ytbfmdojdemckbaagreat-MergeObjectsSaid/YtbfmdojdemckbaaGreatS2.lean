/- Contracts on the sorting of rows; plain facts of maps; one level for all choices. -/
import Derived.Test.YtbfmdojdemckbaaGreatS1
import Derived.Test.YtbfmdojdemckbaaGreatK2
namespace Go.Proofs.YtbfmdojdemckbaaGreat
open _root_.Array renaming getElem?_eq_none→ue,getElem?_modify→AY
open _root_.Bool renaming and_eq_true→cU,not_eq_true'→ug,not_false→ff,not_true→dP
open _root_.Classical renaming byContradiction→kV
open _root_.List renaming cons_append→cq,drop→aR,eq_nil_of_length_eq_zero→ql,getElem?_append_left→oJ,getElem?_append_right→pC,getElem?_eq_getElem→jf,getElem?_map→sS,head?_cons→bN,length_append→dn,length_cons→aK,length_nil→aQ,mem_cons→qp,nil_append→bT,size_toArray→un,take→bA
open _root_.Nat renaming ble_eq_true_of_le→ew,blt→bP,eq_of_beq_eq_true→ib,le_of_ble_eq_true→io,le_refl→bv,lt_irrefl→fL,lt_or_ge→gY,reduceAdd→bt,reduceBEq→ae,reduceLT→ar,reduceLeDiff→bR,reduceMul→jh,zero_add→aM,zero_lt_succ→gL
open Op renaming bytesLess→jS
open _root_.Option renaming bind_eq_some_iff→aF,bind_some→ak
open _root_.Option.some renaming injEq→a7
open _root_.Prod.mk renaming injEq→bK
open Go.Ag
open Go.Sort (putRow putCells mapBlock onCells grow heap_grow_old Holds SWO)
structure Gd (w w':World):Prop where
 os:w'.os=w.os
 output:w'.output=w.output
 size:w.heap.size≤w'.heap.size
 block: ∀k,k<w.heap.size→w'.heap[k]? =w.heap[k]?
 tape:w'.tape=w.tape
 drawn:w.drawn≤w'.drawn
theorem Un {G:Gh} {h:bq bE} {w w':World} (wr:WR G h w) (bl:Gd w w') (f:Nat→Nat→Option ai)
 (hf: ∀b o v,f b o=some v→w.heap.size≤b∧v.scal=true∧ ∃x,w'.cell? ⟨b,o,none⟩=some x∧VR G v x):
 ∃G':Gh,(∀b o v,f b o=some v→G'.ro b o=some v)∧G.le G'∧WR G' h w'∧dh G h w G' h w' 0 0:=by
 let G':Gh:= {at_:=G.at_,ro:=fun b o=>if b<w.heap.size then G.ro b o else f b o,dim:=G.dim }
 have hlt: ∀b o v,G.ro b o=some v→b<w.heap.size:=fun b o v e=>by
  obtain⟨_,x,hx,_⟩:=wr.ro b o v e
  exact World.block_lt_of_cell? w ⟨b,o,none⟩ hx
 have hle:G.le G':=⟨fun _ _ e=>e,fun b o v e=>by
  show(if b<w.heap.size then G.ro b o else f b o)=some v
  rw [if_pos (hlt b o v e)];exact e,fun _ _ e=>e⟩
 have hro: ∀b o v,G'.ro b o=some v→(b<w.heap.size∧G.ro b o=some v)∨(¬b<w.heap.size∧f b o=some v):=fun b o v e=>by
  have e:(if b<w.heap.size then G.ro b o else f b o)=some v:=e
  by_cases hb:b<w.heap.size
  ·rw [if_pos hb] at e;exact .inl ⟨hb,e⟩
  ·rw [if_neg hb] at e;exact .inr ⟨hb,e⟩
 refine⟨G',fun b o v e=>?_,hle,⟨?_,?_,?_,?_,?_,?_⟩,hle,bl.size,fun b hb _=>bl.block b hb,fun b _ o=>o,fun n a e e0=>(by have e:G.at_ n=some a:=e;rw [e] at e0;cases e0),?_,bl.os,bl.output,bl.size,fun a ha=>World.frozen?_of_block (bl.block _ ha),bl.tape,bl.drawn⟩
 ·show(if b<w.heap.size then G.ro b o else f b o)=some v
  have:=(hf b o v e).1
  rw [if_neg (by omega)];exact e
 ·intro n o e
  obtain⟨a,h1,h2,h3⟩:=wr.obj n o e
  exact⟨a,h1,h2,(h3.of_block (bl.block _ (wr.below n a h1))).mono hle⟩
 ·exact wr.sep
 ·intro b o v e
  rcases hro b o v e with⟨hb,e⟩|⟨hb,e⟩
  ·obtain⟨h1,x,h2,h3⟩:=wr.ro b o v e
   exact⟨h1,x,(World.cell?_of_block (bl.block b hb)).trans h2,h3.mono hle⟩
  ·obtain⟨_,h1,x,h2,h3⟩:=hf b o v e
   exact⟨h1,x,h2,h3.mono hle⟩
 ·intro n ob a i v e ea er
  rcases hro _ _ _ er with⟨_,er⟩|⟨hb,_⟩
  ·exact wr.apart n ob a i v e ea er
  ·exact absurd (wr.below n a ea) hb
 ·intro b d e
  obtain⟨C,el,h1,h2⟩:=wr.dim b d e
  have hb:b<w.heap.size:=by
   rcases gY b w.heap.size with hb|hb
   ·exact hb
   ·rw [ue hb] at h1;cases h1
  exact⟨C,el,(bl.block b hb).trans h1,h2⟩
 ·exact fun n a e=>Nat.lt_of_lt_of_le (wr.below n a e) bl.size
 ·intro b o v hb e e0
  rcases hro b o v e with⟨_,e⟩|⟨hb',_⟩
  ·rw [e] at e0;cases e0
  ·exact absurd hb hb'
section
variable {α:Type} [Inhabited α]
theorem R8 (enc:α→Value) (off:Nat) (d:Array α) (C:Array Value):(putCells enc off d C).size=C.size:=by simp [putCells]
theorem ajP (enc:α→Value) (off:Nat) (d:Array α) (C:Array Value) {i:Nat} (hi:i<d.size) (hc:off+i<C.size):(putCells enc off d C)[off+i]? =some (enc d[i]!):=by
 simp [putCells,hc,hi]
theorem akT (enc:α→Value) (w:World) (blk off n:Nat) (d:Array α) (os:Array Go.Obj) {C:Array Value} {e:TypeId} (hb:w.heap[blk]? =some (.cells C e (0,0))) (k:Nat) (hk:k<w.heap.size):
 (grow (putRow enc (Sort.ahead w n) blk off d) os).heap[k]? =if k=blk then some (.cells (putCells enc off d C) e (0,0)) else w.heap[k]? :=by
 rw [heap_grow_old _ _ (by simpa using hk)]
 by_cases h:k=blk
 ·subst h
  simp [putRow,mapBlock,Sort.ahead,AY,hb,onCells]
 ·have h': ¬blk=k:=fun e=>h e.symm
  simp [putRow,mapBlock,Sort.ahead,AY,h,h']
theorem So {G:Gh} {h:bq bE} {w:World} (wr:WR G h w) {m:Nat} {a:Addr} {cs cs':List ai} (hl:h.get m=some (.cells cs)) (ha:G.at_ m=some a) (enc:α→Value) (d:Array α) (n:Nat) (os:Array Go.Obj)
 (hd: ∀C e,w.heap[a.block]? =some (.cells C e (0,0))→a.off+d.size≤C.size) (hc: ∀(i:Nat) v,cs'[i]? =some v→i<d.size∧v.scal=true∧VR G v (enc d[i]!)):
 ∃G',WR G' (h.set m (some (.cells cs'))) (grow (putRow enc (Sort.ahead w n) a.block a.off d) os)∧dh G h w G' (h.set m (some (.cells cs'))) (grow (putRow enc (Sort.ahead w n) a.block a.off d) os) 0 0∧VR G' (.tup []) (.tuple #[]):=by
 obtain⟨b,hb,_,C,e,hC,hdim,_⟩:=wr.obj m _ hl
 rw [ha] at hb;injection hb with hb;subst hb
 have hlt:=wr.below m a ha
 have hdC:=hd C e hC
 have hself:(dK w a.block (.cells (putCells enc a.off d C) e (0,0))).heap[a.block]? =some (.cells (putCells enc a.off d C) e (0,0)):=by rw [iO _ _ _ _ hlt,if_pos rfl]
 obtain⟨c1,c2⟩:=wr.changed (o':=.cells cs') (ob:=.cells (putCells enc a.off d C) e (0,0)) hl ha
  ⟨_,e,hself,by rw [R8];exact hdim,fun i v hi=>by
    obtain⟨h1,h2,h3⟩:=hc i v hi
    exact⟨h2,_,ajP enc a.off d C h1 (by omega),h3⟩⟩
  (fun i v hv=>by
   have:=(wr.apart m _ a i v hl ha hv).1
   cases this)
  (fun d' hd'=>by
   rw [hdim] at hd';injection hd' with hd'
   exact⟨_,e,rfl,by rw [R8];exact hd'⟩)
  rfl
 have hst:Gd (dK w a.block (.cells (putCells enc a.off d C) e (0,0))) (grow (putRow enc (Sort.ahead w n) a.block a.off d) os):=by
  refine⟨rfl,rfl,?_,fun k hk=>?_,rfl,?_⟩
  ·rw [vM];simp [grow]
  ·rw [vM] at hk
   rw [akT enc w a.block a.off n d os hC k hk,iO _ _ _ _ hlt]
  ·show w.drawn≤w.drawn+n
   omega
 obtain⟨G',_,_,g3,g4⟩:=Un c1 hst (fun _ _=>none) (by intro b o v e;cases e)
 exact⟨G',g3,(c2 0 0).trans g4 (bv _) (bv _),.tup .nil⟩
end
theorem GC: ∀ {cs:List ai} {l:List ax},rA cs=some l→cs=l.map bp
 | [],l,h=>by
   simp only [rA,a7] at h
   subst h;rfl
 |v::cs,l,h=>by
  unfold rA at h
  split at h
  ·rename_i e;cases e
  ·rename_i a r e
   injection e with e1 e2
   subst e1;subst e2
   simp only [aF,a7] at h
   obtain⟨l,h1,rfl⟩:=h
   rw [GC h1];rfl
  ·cases h
theorem GA: ∀ {cs:List ai} {l:List (ax×ax)},qy cs=some l→cs=bO (l.map de)
 | [],l,h=>by
   simp only [qy,a7] at h
   subst h;rfl
 | [v],l,h=>by
   unfold qy at h
   split at h
   ·rename_i e;cases e
   ·rename_i e;cases e
   ·cases h
 |v::u::cs,l,h=>by
  unfold qy at h
  split at h
  ·rename_i e;cases e
  ·rename_i a b r e
   injection e with e1 e2
   injection e2 with e2 e3
   subst e1;subst e2;subst e3
   simp only [aF,a7] at h
   obtain⟨l,h1,rfl⟩:=h
   rw [GA h1];rfl
  ·cases h
def Gm (f:FuncId) (sp:List ai→Option s9):Prop:=
 ∀args (G:Gh) (h:bq bE) (w:World) (xs:List Value),WR G h w→cg G args xs→
  (sp args=some none→kb Tryz.prog f ⟨xs⟩ w fun y w'=> ∃G',WR G' h w'∧dh G h w G' h w' 0 0∧VR G' (.tup []) y)∧
  ∀n g cs cs',sp args=some (some (n,g))→h.get n=some (.cells cs)→g cs=some cs'→
   kb Tryz.prog f ⟨xs⟩ w fun y w'=> ∃G',WR G' (h.set n (some (.cells cs'))) w'∧dh G h w G' (h.set n (some (.cells cs'))) w' 0 0∧VR G' (.tup []) y
theorem Gz {G:Gh} {sz m len lcap:Nat} {y:Value} (h:VR G (.arr sz m 0 len lcap) y): ∃(a b:Addr) (cap:Nat),y= .slice (some a) len cap∧G.at_ m=some b∧a.spot=none∧len≤cap∧(len=0∨(a.block=b.block∧a.off=b.off))∧(∃d,G.dim b.block=some d∧b.off+cap*sz≤d):=by
 cases h with
 |arr h1 h2 h3 h4 h5 h6 h7 h8=>
  rename_i a b cap d
  refine⟨a,b,cap,rfl,h1,h2,by omega,?_,d,h7,by simpa using h8⟩
  rcases h6 with h6|h6
  ·exact .inl (by omega)
  ·exact .inr (by simpa using h6)
theorem akQ:Gm 48 wc:=by
 intro args G h w xs wr hx
 refine⟨fun hsp=>?_,fun n g cs cs' hsp hl hg=>?_⟩
 ·unfold wc at hsp
  split at hsp
  ·cases hx with
   |cons p q=>
    cases q
    cases p
    refine .inr ⟨Go.Proofs.enters_of Tryz.func48 (by kernel_rfl) rfl _ _,(AnyM.slices_Sort_string_none Tryz.sort48 none 0 w).mono ?_⟩
    rintro e w' ⟨rfl,rfl⟩
    exact⟨_,rfl,G,wr,.refl,.tup .nil⟩
  ·cases hsp
  ·cases hsp
 ·unfold wc at hsp
  split at hsp
  ·cases hsp
  ·rename_i m len lcap
   simp only [a7,bK] at hsp
   obtain⟨rfl,rfl⟩:=hsp
   obtain⟨hb,hg⟩:=bW hg
   simp only [cU] at hb
   have hlen:=ib hb.1
   have hsm:=io hb.2
   simp only [aF,a7] at hg
   obtain⟨l,h1,rfl⟩:=hg
   have hcs:=GC h1
   subst hcs
   rw [List.length_map] at hlen
   cases hx with
   |cons p q=>
    cases q
    obtain⟨a,b,cap,rfl,hat,hspot,hcap,hab,d,hdim,hd⟩:=Gz p
    obtain⟨b',hb',_,C,e,hC,hdimC,hcs⟩:=wr.obj m _ hl
    rw [hat] at hb';injection hb' with hb';subst hb'
    rw [hdimC] at hdim;injection hdim with hdim
    have hCs: ∀i (hi:i<l.length),C[b.off+i]? =some (encStr l[i]):=fun i hi=>by
     obtain⟨_,x,hx1,hx2⟩:=hcs i (bp l[i]) (by rw [sS,jf hi];rfl)
     cases hx2
     exact hx1
    have hsl:(fq l).length=l.length:=(l5 l).length_eq
    have hfin: ∀n os, ∃G',WR G' (h.set m (some (.cells ((fq l).map bp)))) (grow (putRow encStr (Sort.ahead w n) b.block b.off (fq l).toArray) os)∧dh G h w G' (h.set m (some (.cells ((fq l).map bp)))) (grow (putRow encStr (Sort.ahead w n) b.block b.off (fq l).toArray) os) 0 0∧VR G' (.tup []) (.tuple #[]):=fun n os=>by
     refine So wr hl hat encStr (fq l).toArray n os (fun C' e' hC'=>?_) (fun i v hi=>?_)
     ·rw [hC] at hC';injection hC' with hC';injection hC' with hC' _ _;subst hC'
      rw [un,hsl,hdim];omega
     ·rw [sS,Option.map_eq_some_iff] at hi
      obtain⟨s,hs,rfl⟩:=hi
      obtain⟨hi,hs⟩:=List.getElem?_eq_some_iff.1 hs
      refine⟨by simpa using hi,rfl,?_⟩
      have:(fq l).toArray[i]! =s:=by simp [hi,hs]
      rw [this];exact .str s
    rcases hab with h0|⟨hab1,hab2⟩
    ·have hl0:l=[]:=ql (by omega)
     subst hl0
     have h0':len=0:=h0
     subst h0'
     refine .inr ⟨Go.Proofs.enters_of Tryz.func48 (by kernel_rfl) rfl _ _,(AnyM.slices_Sort_string_none Tryz.sort48 (some a) cap w).mono ?_⟩
     rintro e' w' ⟨rfl,rfl⟩
     obtain⟨G',g1,g2,g3⟩:=hfin 0 #[]
     have hw:grow (putRow encStr (Sort.ahead w' 0) b.block b.off (fq []).toArray) #[]=w':=by
      rw [Go.Sort.grow_empty,Go.Sort.ahead_zero]
      exact Go.Sort.putRow_self encStr w' b.block b.off _ (fun j hj=>by simp [fq] at hj)
     rw [hw] at g1 g2
     exact⟨_,rfl,G',g1,g2,g3⟩
    ·obtain⟨ab,ao,asp⟩:=a
     simp only at hab1 hab2 hspot
     subst hab1;subst hab2;subst hspot
     have hH:Holds encStr w b.block b.off l.toArray:=fun j hj=>by
      have hj':j<l.length:=by simpa using hj
      refine⟨?_,by simp [World.frozen?,hC]⟩
      rw [nb hC,hCs j hj']
      simp [hj']
     have hbl:=wr.below m b hat
     rw [←hlen]
     refine .inr ⟨Go.Proofs.enters_of Tryz.func48 (by kernel_rfl) rfl _ _,(AnyM.slices_Sort_string Tryz.sort48 b.block b.off cap l w hH hbl (by omega)).mono ?_⟩
     rintro e' w' ⟨rfl,n,os,rfl⟩
     rw [Fw]
     obtain⟨G',g1,g2,g3⟩:=hfin n os
     exact⟨_,rfl,G',g1,g2,g3⟩
  ·cases hsp
end Go.Proofs.YtbfmdojdemckbaaGreat
namespace Go.Proofs.YtbfmdojdemckbaaGreat
open _root_.Array renaming getElem?_eq_none→ue,getElem?_modify→AY
open _root_.Bool renaming and_eq_true→cU,not_eq_true'→ug,not_false→ff,not_true→dP
open _root_.Classical renaming byContradiction→kV
open _root_.List renaming cons_append→cq,drop→aR,eq_nil_of_length_eq_zero→ql,getElem?_append_left→oJ,getElem?_append_right→pC,getElem?_eq_getElem→jf,getElem?_map→sS,head?_cons→bN,length_append→dn,length_cons→aK,length_nil→aQ,mem_cons→qp,nil_append→bT,size_toArray→un,take→bA
open _root_.Nat renaming ble_eq_true_of_le→ew,blt→bP,eq_of_beq_eq_true→ib,le_of_ble_eq_true→io,le_refl→bv,lt_irrefl→fL,lt_or_ge→gY,reduceAdd→bt,reduceBEq→ae,reduceLT→ar,reduceLeDiff→bR,reduceMul→jh,zero_add→aM,zero_lt_succ→gL
open Op renaming bytesLess→jS
open _root_.Option renaming bind_eq_some_iff→aF,bind_some→ak
open _root_.Option.some renaming injEq→a7
open _root_.Prod.mk renaming injEq→bK
open Go.Ag
def aX (k:ax):List Obj→Option Obj
 | []=>none
 |o::l=>bif k==o.id then some o else aX k l
theorem ku {k:ax}: ∀ {l:List Obj} {q:Obj},aX k l=some q→q∈l∧q.id=k
 | [],_,h=>by cases h
 |o::r,q,h=>by
  simp only [aX] at h
  cases hb:k==o.id with
  |true=>
   rw [hb] at h
   injection h with h;subst h
   have:k=o.id:=by simpa using hb
   exact⟨by simp,this.symm⟩
  |false=>
   rw [hb] at h
   obtain⟨h1,h2⟩:=ku h
   exact⟨by simp [h1],h2⟩
theorem QP (p k:ax):jS p k= !Ag.leBytes k p:=by
 rw [Ag.leBytes_iff,Go.Proofs.bytesLess_eq]
 by_cases h:k≤p
 ·have h1: ¬p<k:=List.not_lt.2 h
  simp [ko,h,h1]
 ·have h1:p<k:=List.not_le.1 h
  simp [ko,h,h1]
theorem Ih: ∀(l:List Obj) (last:ax),pf last l=true→(∀k∈l.map (·.id),jS last k=true)∧(l.map (·.id)).Pairwise (fun a b=>jS a b=true)
 | [],_,_=>⟨fun k h=>(by cases h),List.Pairwise.nil⟩
 |o::r,last,h=>by
  simp only [pf] at h
  cases hb:(!iB o||Ag.leBytes o.id last) with
  |true=>rw [hb] at h;cases h
  |false=>
   rw [hb] at h
   simp only [Bool.or_eq_false_iff] at hb
   obtain⟨h1,h2⟩:=Ih r o.id h
   have h3:jS last o.id=true:=by rw [QP,hb.2];rfl
   refine⟨fun k hk=>?_,List.pairwise_cons.2 ⟨h1,h2⟩⟩
   rcases List.mem_cons.1 hk with rfl|hk
   ·exact h3
   ·have h4:=h1 k hk
    rw [Go.Proofs.bytesLess_eq,decide_eq_true_eq] at h3 h4 ⊢
    exact List.lt_trans h3 h4
theorem ahl (k:ax):jS k k=false:=by
 rw [Go.Proofs.bytesLess_eq];exact decide_eq_false (List.lt_irrefl k)
theorem CM {l:List Obj} (h:j4 l=true):(l.map (·.id)).Nodup:=by
 simp only [j4,cU] at h
 refine(Ih l [] h.1).2.imp fun hab e=>?_
 subst e
 rw [ahl] at hab;cases hab
theorem vz {l:List Obj} {k:ax}:aX k l≠none↔k∈l.map (·.id):=by
 constructor
 ·intro h
  cases e:aX k l with
  |none=>exact absurd e h
  |some q=>
   obtain⟨h1,h2⟩:=ku e
   exact List.mem_map.2 ⟨q,h1,h2⟩
 ·intro h
  induction l with
  |nil=>cases h
  |cons o r ih=>
   simp only [aX]
   cases hb:k==o.id with
   |true=>simp
   |false=>
    have hne:k≠o.id:=by simpa using hb
    simp only [List.map_cons,qp] at h
    exact ih (h.resolve_left hne)
theorem uZ {g:ai→Option ai}: ∀ {l:List ai},(∀v∈l,g v=some v)→dZ g l=some l
 | [],_=>rfl
 |v::l,h=>by
  have ih:=uZ (g:=g) (l:=l) fun u hu=>h u (by simp [hu])
  simp only [dZ,h v (by simp),ih,ak]
theorem HR (h:bq bE) {k n:Nat} {xs:List ai} {r:fC} (hp:bM (.list n xs r)=true) (hx: ∀v∈xs,cR h k v=some v):cR h (k+1) (.list n xs r)=some (.list n xs r):=by
 simp only [cR,uZ hx,ak]
 cases r with
 |own m=>simp [bM] at hp
 |_=>rfl
theorem CB (h:bq bE) {o:Obj} (ho:o.Good) (k:Nat):cR h (k+4) o.val=some o.val:=by
 have hr:cR h (k+3) o.refsV=some o.refsV:=by
  have hp:=ho.pr
  rcases ho.refs with⟨e,_⟩|⟨r,e⟩
  ·rw [e];rfl
  ·rw [e] at hp ⊢
   refine HR h hp fun v hv=>?_
   obtain⟨s,_,rfl⟩:=List.mem_map.1 hv
   rfl
 have ht:cR h (k+3) o.tagsV=some o.tagsV:=by
  have hp:=ho.pt
  rcases ho.tags with⟨e,_⟩|⟨r,e⟩
  ·rw [e];rfl
  ·rw [e] at hp ⊢
   refine HR h hp fun v hv=>?_
   obtain⟨s,_,rfl⟩:=List.mem_map.1 hv
   rfl
 show(dZ (cR h (k+3)) o.cells).bind (fun r=>some (ai.agg r))=_
 rw [uZ (l:=o.cells) fun v hv=>?_]
 ·rfl
 ·simp only [Obj.cells,qp,List.not_mem_nil,or_false] at hv
  rcases hv with rfl|rfl|rfl|rfl|rfl|rfl
  ·rfl
  ·rfl
  ·rfl
  ·rfl
  ·exact hr
  ·exact ht
theorem zN (l:List ax):bu 1 bp (xp (l.map bp)) l:=by
 cases l with
 |nil=>exact .inl ⟨rfl,rfl⟩
 |cons a l=>exact .inr ⟨.no,rfl⟩
theorem W2 {B:Nat} (_hB:0<B) (p:(Nat→Nat)→Nat→Prop) (mono: ∀ch n m,n≤m→p ch n→p ch m) (loc: ∀ch n,p ch n→ ∃k, ∀ch',(∀i,i<k→ch' i=ch i)→p ch' n)
 (all: ∀ch,(∀i,ch i<B)→ ∃n,p ch n): ∃N, ∀ch,(∀i,ch i<B)→p ch N:=by
 classical
 let Good:List Nat→Prop:=fun l=> ∃N, ∀ch:Nat→Nat,(∀i,ch i<B)→(∀i x,l[i]? =some x→ch i=x)→p ch N
 have step: ∀l, ¬Good l→ ∃c,c<B∧ ¬Good (l++[c]):=by
  intro l hl
  refine kV fun hc=>hl ?_
  have hc: ∀c,c<B→Good (l++[c]):=fun c h=>kV fun h'=>hc ⟨c,h,h'⟩
  have hall: ∀m,m≤B→ ∃N, ∀c,c<m→ ∀ch:Nat→Nat,(∀i,ch i<B)→(∀i x,(l++[c])[i]? =some x→ch i=x)→p ch N:=by
   intro m
   induction m with
   |zero=>exact fun _=>⟨0,fun c h=>by omega⟩
   |succ m ih=>
    intro hm
    obtain⟨N1,h1⟩:=ih (by omega)
    obtain⟨N2,h2⟩:=hc m (by omega)
    refine⟨max N1 N2,fun c hcm ch a b=>?_⟩
    by_cases h:c<m
    ·exact mono _ _ _ (Nat.le_max_left _ _) (h1 c h ch a b)
    ·have:c=m:=by omega
     subst this
     exact mono _ _ _ (Nat.le_max_right _ _) (h2 ch a b)
  obtain⟨N,hN⟩:=hall B (bv _)
  refine⟨N,fun ch a b=>hN (ch l.length) (a _) ch a fun i x hx=>?_⟩
  rcases gY i l.length with h|h
  ·rw [oJ h] at hx;exact b i x hx
  ·rw [pC h] at hx
   cases hi:i-l.length with
   |zero=>
    rw [hi] at hx
    simp only [List.getElem?_cons_zero,a7] at hx
    have:i=l.length:=by omega
    rw [this,hx]
   |succ j=>rw [hi] at hx;simp at hx
 refine kV fun hbad=>?_
 have h0: ¬Good []:=fun⟨N,hN⟩=>hbad ⟨N,fun ch a=>hN ch a fun i x hx=>by simp at hx⟩
 let pre:Nat→ {l:List Nat // ¬Good l}:=fun n=>Nat.rec ⟨[],h0⟩ (fun _ q=>⟨q.1++[(step q.1 q.2).choose],(step q.1 q.2).choose_spec.2⟩) n
 have hlen: ∀n,(pre n).1.length=n:=by
  intro n
  induction n with
  |zero=>rfl
  |succ n ih=>
   show((pre n).1++[_]).length=_
   rw [dn,ih];rfl
 let ch:Nat→Nat:=fun n=>(step (pre n).1 (pre n).2).choose
 have hch: ∀n,ch n<B:=fun n=>(step (pre n).1 (pre n).2).choose_spec.1
 have hget: ∀n i,i<n→(pre n).1[i]? =some (ch i):=by
  intro n
  induction n with
  |zero=>intro i h;omega
  |succ n ih=>
   intro i h
   show((pre n).1++[ch n])[i]? =_
   rcases gY i n with h2|h2
   ·rw [oJ (by rw [hlen];exact h2)];exact ih i h2
   ·have:i=n:=by omega
    subst this
    rw [pC (by rw [hlen];exact bv _),hlen];simp
 obtain⟨n,hn⟩:=all ch hch
 obtain⟨k,hk⟩:=loc ch n hn
 exact(pre k).2 ⟨n,fun ch' _ b=>hk ch' fun i hi=>b i _ (hget k i hi)⟩
theorem Vb (P:Program) (t:TypeId) (a b:List UInt8):fR P .gtr t (.str a) (.str b)=some (.bool (!Ag.leBytes a b)):=rfl
theorem ahm (a b:ax):(!Ag.leBytes a b)=jS b a:=(QP b a).symm
def vq:Sp
 | [.int .i64 _a]=>some (.bool false)
 |_=>none
theorem aiy {sp:FuncId→Option (List ai→Option ai)} (h0:sp 187=none) (a:Int) (s:St):br (QS sp) 187 [.int .i64 a] s (.bool false) s:=by
 refine br.of2 acL acK acN acM h0 ?_
 unfold KR
 refine W.sreg ?_
 unfold KS
 simp only [dg,cM,az,aA,aB,aJ,aI,bJ,aw,cT,aK,aQ,tA,aM,ar,bR,bQ,dT]
 refine W.sreg ?_
 unfold KT
 simp only [az,aA,aB,ah,aE,aJ,aW,aj,aC,aw,uC,ak,aZ,cT,cF,aP,dP,bS,tA,ae,ar,aay]
 exact W.ret ⟨rfl,.inr rfl,cp (by simp only [ah,ae,cT,cF, *]) rfl⟩
theorem aix:eD Tryz.prog 187 vq:=by
 intro args x hv G h w xs wr hx
 unfold vq at hv
 split at hv
 ·rename_i a
  injection hv with hv;subst hv
  exact gJ (Q:=QT []) (gD .nil) (fun _=>gL 1) (args:=[.int .i64 a]) (v:=.bool false) (s':=s0) rfl (aiy (sp:=fun f=>eY f []) rfl a s0) rfl ⟨1,rfl⟩ G h w xs wr hx
 ·cases hv
def lM (a b:Int):Int:=bif du a b then-1 else bif du b a then 1 else 0
def oQ:Sp
 | [.int .i64 a,.int .i64 b]=>some (.int .i64 (lM a b))
 |_=>none
theorem VI {sp:FuncId→Option (List ai→Option ai)} (h0:sp 122=none) (h1:sp 187=some vq) (a b:Int) (s:St):br (QS sp) 122 [.int .i64 a,.int .i64 b] s (.int .i64 (lM a b)) s:=by
 have ha:vq [.int .i64 a]=some (.bool false):=rfl
 have hb:vq [.int .i64 b]=some (.bool false):=rfl
 refine br.of2 abA abz abG abF h0 ?_
 unfold Jl
 refine W.sreg ?_
 unfold Jm
 simp only [dg,cM,az,aA,aB,aJ,aI,bo,aw,cT,aK,aQ,tA,aM,ar,bt,bR,bQ,dT]
 refine W.sreg ?_
 unfold Jn
 simp only [az,aA,aB,ah,aE,aJ,dc,db,aj,aC,be,bh,aw,ak,aZ,cT,cF,dt,bS,tA,ae,ar,h1,ha]
 refine W.sreg ?_
 unfold Js
 simp only [az,aA,aB,ah,aE,aJ,dc,db,aj,aC,be,bh,aw,ak,aZ,cT,cF,dt,bS,tA,ae,ar,h1,hb]
 refine W.seq (W.sreg ?_)
 unfold Jt
 simp only [az,aA,aB,ah,aE,aj,aw,cT,cF,bS,tA,ae,ar]
 refine W.cond (t:=false) (by simp only [aj,ah,ae,cT,cF, *]) (W.skip ?_)
 simp only [aN]
 refine W.seq (W.sreg ?_)
 unfold Ju
 simp only [az,aA,aB,ah,aE,aj,aw,cT,cF,bS,tA,ae,ar]
 refine W.cond (t:=false) (by simp only [aj,ah,ae,cT,cF, *]) (W.skip ?_)
 simp only [aN]
 refine W.seq (W.sreg ?_)
 unfold Jv
 simp only [az,aA,aB,ah,aE,aW,aj,aC,aw,cQ,ak,aZ,cT,cF,aP,bS,tA,ae,ar]
 cases h2:du a b with
 |true=>
  refine W.cond (t:=true) (by simp only [aj,ah,ae,cT,cF]) (W.sreg ?_)
  unfold Jo
  simp only [az,aA,aB,aJ,aI,bo,aw,tA,ar]
  exact W.ret ⟨rfl,.inr rfl,cp (by simp only [ah,ae,cT,cF,lM,h2]) rfl⟩
 |false=>
  refine W.cond (t:=false) (by simp only [aj,ah,ae,cT,cF]) (W.skip ?_)
  simp only [aN]
  refine W.seq (W.sreg ?_)
  unfold Jp
  simp only [az,aA,aB,ah,aE,aW,aj,aC,aw,lL,ak,aZ,cT,cF,aP,bS,tA,ae,ar]
  cases h3:du b a with
  |true=>
   refine W.cond (t:=true) (by simp only [aj,ah,ae,cT,cF]) (W.sreg ?_)
   unfold Jq
   simp only [az,aA,aB,aJ,aI,bo,aw,tA,ar]
   exact W.ret ⟨rfl,.inr rfl,cp (by simp only [ah,ae,cT,cF,lM,h2,h3]) rfl⟩
  |false=>
   refine W.cond (t:=false) (by simp only [aj,ah,ae,cT,cF]) (W.skip ?_)
   simp only [aN]
   refine W.sreg ?_
   unfold Jr
   simp only [az,aA,aB,aJ,aI,bo,aw,tA,ar]
   exact W.ret ⟨rfl,.inr rfl,cp (by simp only [ah,ae,cT,cF,lM,h2,h3]) rfl⟩
def Bl:eE:=[(187,vq)]
theorem Ug:fV Bl:=.cons aix .nil
theorem G4:eD Tryz.prog 122 oQ:=by
 intro args x hv G h w xs wr hx
 unfold oQ at hv
 split at hv
 ·rename_i a b
  injection hv with hv;subst hv
  exact gJ (Q:=QT Bl) (gD Ug) (fun _=>gL 1) (args:=[.int .i64 a,.int .i64 b]) (v:=.int .i64 (lM a b)) (s':=s0) rfl (VI (sp:=fun f=>eY f Bl) rfl rfl a b s0) rfl ⟨1,rfl⟩ G h w xs wr hx
 ·cases hv
def vr:Sp
 | [.str _a]=>some (.bool false)
 |_=>none
theorem aiA {sp:FuncId→Option (List ai→Option ai)} (h0:sp 194=none) (a:ax) (s:St):br (QS sp) 194 [.str a] s (.bool false) s:=by
 refine br.of2 ac1 ac0 ac3 ac2 h0 ?_
 unfold Lb
 refine W.sreg ?_
 unfold Lc
 simp only [dg,cM,az,aA,aB,aJ,aI,bJ,aw,cT,aK,aQ,tA,aM,ar,bR,bQ,dT]
 refine W.sreg ?_
 unfold Ld
 simp only [az,aA,aB,ah,aE,aJ,aW,aj,aC,aw,yA,ak,cu,cT,cF,aP,dP,bS,tA,ae,ar]
 exact W.ret ⟨rfl,.inr rfl,cp (by simp only [ah,ae,cT,cF, *]) rfl⟩
theorem aiz:eD Tryz.prog 194 vr:=by
 intro args x hv G h w xs wr hx
 unfold vr at hv
 split at hv
 ·rename_i a
  injection hv with hv;subst hv
  exact gJ (Q:=QT []) (gD .nil) (fun _=>gL 1) (args:=[.str a]) (v:=.bool false) (s':=s0) rfl (aiA (sp:=fun f=>eY f []) rfl a s0) rfl ⟨1,rfl⟩ G h w xs wr hx
 ·cases hv
def pM (a b:ax):Int:=bif jS a b then-1 else bif jS b a then 1 else 0
def uH:Sp
 | [.str a,.str b]=>some (.int .i64 (pM a b))
 |_=>none
theorem VK {sp:FuncId→Option (List ai→Option ai)} (h0:sp 188=none) (h1:sp 194=some vr) (a b:ax) (s:St):br (QS sp) 188 [.str a,.str b] s (.int .i64 (pM a b)) s:=by
 have ha:vr [.str a]=some (.bool false):=rfl
 have hb:vr [.str b]=some (.bool false):=rfl
 refine br.of2 acP acO acV acU h0 ?_
 unfold KU
 refine W.sreg ?_
 unfold KV
 simp only [dg,cM,az,aA,aB,aJ,aI,bo,aw,cT,aK,aQ,tA,aM,ar,bt,bR,bQ,dT]
 refine W.sreg ?_
 unfold KW
 simp only [az,aA,aB,ah,aE,aJ,dc,db,aj,aC,be,bh,aw,ak,cu,cT,cF,dt,bS,tA,ae,ar,h1,ha]
 refine W.sreg ?_
 unfold K4
 simp only [az,aA,aB,ah,aE,aJ,dc,db,aj,aC,be,bh,aw,ak,cu,cT,cF,dt,bS,tA,ae,ar,h1,hb]
 refine W.seq (W.sreg ?_)
 unfold K6
 simp only [az,aA,aB,ah,aE,aj,aw,cT,cF,bS,tA,ae,ar]
 refine W.cond (t:=false) (by simp only [aj,ah,ae,cT,cF, *]) (W.skip ?_)
 simp only [aN]
 refine W.seq (W.sreg ?_)
 unfold K7
 simp only [az,aA,aB,ah,aE,aj,aw,cT,cF,bS,tA,ae,ar]
 refine W.cond (t:=false) (by simp only [aj,ah,ae,cT,cF, *]) (W.skip ?_)
 simp only [aN]
 refine W.seq (W.sreg ?_)
 unfold K8
 simp only [az,aA,aB,ah,aE,aW,aj,aC,aw,Vc,ak,cu,cT,cF,aP,bS,tA,ae,ar]
 cases h2:jS a b with
 |true=>
  refine W.cond (t:=true) (by simp only [aj,ah,ae,cT,cF]) (W.sreg ?_)
  unfold KX
  simp only [az,aA,aB,aJ,aI,bo,aw,tA,ar]
  exact W.ret ⟨rfl,.inr rfl,cp (by simp only [ah,ae,cT,cF,pM,h2]) rfl⟩
 |false=>
  refine W.cond (t:=false) (by simp only [aj,ah,ae,cT,cF]) (W.skip ?_)
  simp only [aN]
  refine W.seq (W.sreg ?_)
  unfold KZ
  simp only [az,aA,aB,ah,aE,aW,aj,aC,aw,ak,cu,cT,cF,aP,bS,tA,ae,ar,Vb,ahm]
  cases h3:jS b a with
  |true=>
   refine W.cond (t:=true) (by simp only [aj,ah,ae,cT,cF]) (W.sreg ?_)
   unfold K0
   simp only [az,aA,aB,aJ,aI,bo,aw,tA,ar]
   exact W.ret ⟨rfl,.inr rfl,cp (by simp only [ah,ae,cT,cF,pM,h2,h3]) rfl⟩
  |false=>
   refine W.cond (t:=false) (by simp only [aj,ah,ae,cT,cF]) (W.skip ?_)
   simp only [aN]
   refine W.sreg ?_
   unfold K1
   simp only [az,aA,aB,aJ,aI,bo,aw,tA,ar]
   exact W.ret ⟨rfl,.inr rfl,cp (by simp only [ah,ae,cT,cF,pM,h2,h3]) rfl⟩
def Bo:eE:=[(194,vr)]
theorem Uj:fV Bo:=.cons aiz .nil
theorem VJ:eD Tryz.prog 188 uH:=by
 intro args x hv G h w xs wr hx
 unfold uH at hv
 split at hv
 ·rename_i a b
  injection hv with hv;subst hv
  exact gJ (Q:=QT Bo) (gD Uj) (fun _=>gL 1) (args:=[.str a,.str b]) (v:=.int .i64 (pM a b)) (s':=s0) rfl (VK (sp:=fun f=>eY f Bo) rfl rfl a b s0) rfl ⟨1,rfl⟩ G h w xs wr hx
 ·cases hv
def yU (n:Int):ai:=.int .i64 n
def asInt:ai→Option Int
 | .int .i64 n=>some n
 |_=>none
theorem UE {v:ai} {n:Int} (h:asInt v=some n):v=yU n:=by
 unfold asInt at h
 split at h
 ·injection h with h;subst h;rfl
 ·cases h
def gI (p:Int×Int):ai:=.agg [.int .i64 p.1,.int .i64 p.2]
def te:ai→Option (Int×Int)
 | .agg [.int .i64 a,.int .i64 b]=>some (a,b)
 |_=>none
theorem wD {v:ai} {p:Int×Int} (h:te v=some p):v=gI p:=by
 unfold te at h
 split at h
 ·injection h with h;subst h;rfl
 ·cases h
def ou:List Int→Int
 | []=>0
 |x::l=>bif bL x 0 then ou l else x
theorem ajr {sp:FuncId→Option (List ai→Option ai)} {v:ai} {l:List Int} (hl:bu 1 yU v l) (hsmall:l.length<small) {s:St} {lc:Ag.Loc}: ∀(rest pre:List Int) (e:bc),l=pre++rest→
 aq e 3= .int .i64 0→aq e 6=v→aq e 7= .int .i64 (l.length:Nat)→aq e 8= .int .i64 (pre.length:Nat)→
 W (QS sp) 31 (.loop zg) ⟨e,18,lc⟩ s fun x fr s'=>s'=s∧fr.size=18∧((x= .exit 0∧ou rest=0∧aq fr.env 3= .int .i64 0)∨(x= .ret∧aq fr.env 2= .int .i64 (ou rest))):=by
 intro rest
 have hcl:=hl.clean
 have hsm:small=9223372036854775808:=rfl
 induction rest with
 |nil=>
  intro pre e hpre h3 h6 h7 h8
  have hl':l.length=pre.length:=by rw [hpre];simp
  refine W.loop1 ?_
  unfold zg
  refine W.sreg ?_
  unfold Dy
  simp only [az,aA,aB,aW,aj,aC,aw,cQ,ak,aZ,cT,aP,cZ,tA,ar,decide_false,h7,h8,hl',fL]
  refine W.seq (W.cond (t:=false) (by simp only [aj,ah,ae,cT, *]) ?_)
  exact W.exit ⟨rfl,rfl,.inl ⟨rfl,rfl,by simp only [ah,ae,cF, *]⟩⟩
 |cons a rest ih=>
  intro pre e hpre h3 h6 h7 h8
  have hlt:pre.length<l.length:=by rw [hpre];simp
  have hat:l[pre.length]? =some a:=by rw [hpre];simp
  have hia:=fun lc=>hl.at aap hat lc .i64
  have hwr:IntKind.i64.wrap ((pre.length:Int)+1)=((pre.length+1:Nat):Int):=by rw [eC (by omega) (by omega)];omega
  refine W.loop1 ?_
  unfold zg
  refine W.sreg ?_
  unfold Dy
  simp only [az,aA,aB,aW,aj,aC,aw,cQ,ak,aZ,cT,aP,cZ,tA,ar,dT,h7,h8,hlt]
  refine W.seq (W.cond (t:=true) (by simp only [aj,ah,ae,cT, *]) (W.skip ?_))
  simp only [aN]
  refine W.seq (W.block (W.sreg ?_))
  unfold Mx
  simp only [az,aA,aB,ah,aJ,bf,ec,aj,eI,aw,wF,ak,cT,cF,aP,aR,bN,bS,tA,ae,ar,fT,h6,h8,hia,yU]
  refine W.sreg ?_
  unfold My
  simp only [az,aA,aB,ah,aE,aW,aj,aC,aw,uC,ak,aZ,cT,cF,aP,bS,tA,ae,ar,h3]
  cases hz:bL a 0 with
  |false=>
   refine W.cond (t:=true) (by simp only [aj,ah,ae,cT,cF,ff]) (W.sreg ?_)
   unfold Mz
   simp only [az,aA,aB,ah,aE,aJ,aj,aw,cT,cF,ff,bS,tA,ae,ar]
   exact W.ret ⟨rfl,rfl,.inr ⟨rfl,by simp only [ah,ae,cT,cF,ou,hz]⟩⟩
  |true=>
   refine W.cond (t:=false) (by simp only [aj,ah,ae,cT,cF,dP]) (W.skip ?_)
   simp only [dS,aN]
   refine W.reg ?_
   unfold MA
   simp only [az,aA,aB,ah,aE,aW,aj,aI,aC,bo,aw,d8,ak,aZ,cT,cF,aP,dP,bS,tA,ae,ar,h8,hwr,aN]
   refine(ih (pre++[a]) _ (by rw [hpre];simp) (by simp only [ah,ae,cF, *]) (by simp only [ah,ae,cF, *]) (by simp only [ah,ae,cF, *]) (by simp only [ah,ae,cT,cF,dn,aK,aQ])).mono ?_
   simp only [ou,hz,cT]
   exact fun _ _ _ h=>h
theorem ajs {sp:FuncId→Option (List ai→Option ai)} (h0:sp 31=none) {v:ai} {l:List Int} (hl:bu 1 yU v l) (hsmall:l.length<small) (s:St):br (QS sp) 31 [v] s (.int .i64 (ou l)) s:=by
 have hlen:=fun mk s=>hl.len ahx ahw mk s
 have hcl:=hl.clean
 refine br.of2 adO adN adQ adP h0 ?_
 unfold Mt
 refine W.sreg ?_
 unfold Mu
 simp only [dg,cM,az,aA,aB,aJ,aI,bo,aw,cT,aK,aQ,tA,aM,ar,bR,bQ,dT]
 refine W.sreg ?_
 unfold Mv
 simp only [az,aA,aB,aJ,aI,bo,aw,tA,ar]
 refine W.seq (W.sreg ?_)
 unfold Mw
 simp only [az,aA,aB,ah,aE,cL,aj,aI,aC,be,bh,bo,aw,cd,da,bH,ak,cT,cF,aP,bX,bS,tA,ae,ar,aU,YT,hcl,hlen]
 refine W.block ?_
 refine(ajr hl hsmall l [] _ rfl (by simp only [ah,ae,cT,cF, *]) (by simp only [ah,ae,cT,cF, *]) (by simp only [ah,ae,cT,cF, *]) (by simp only [ah,ae,cT,cF];rfl)).mono ?_
 rintro x ⟨e,sz,lc⟩ s' ⟨rfl,hs,⟨rfl,hok,h3⟩|⟨rfl,h2⟩⟩
 ·have hs:sz=18:=hs
  subst hs
  have h3:aq e 3= .int .i64 0:=h3
  show W (QS sp) 31 _ _ _ _
  refine W.sreg ?_
  unfold MB
  simp only [az,aA,aB,ah,aE,aJ,aj,aw,cT,bS,tA,ar,h3]
  exact W.ret ⟨rfl,.inr rfl,cp (by simp only [ah,ae,cT,cF,hok]) rfl⟩
 ·exact⟨rfl,.inr rfl,cp h2 rfl⟩
def ph:Sp
 | [a]=>bif pures [a] then(gN 1 asInt a).bind fun l=>bif bP l.length small then some (.int .i64 (ou l)) else none else none
 |_=>none
theorem RU:eD Tryz.prog 31 ph:=by
 intro args x hv G h w xs wr hx
 unfold ph at hv
 split at hv
 ·rename_i a
  obtain⟨hp,hv⟩:=bW hv
  simp only [aF] at hv
  obtain⟨l,h1,hv⟩:=hv
  obtain⟨hs,hv⟩:=bW hv
  injection hv with hv;subst hv
  have hl:=iX (fun v a=>UE) h1
  exact gJ (Q:=QT []) (gD .nil) (fun _=>gL 1) (args:=[a]) (v:=.int .i64 (ou l)) (s':=s0) (kB hp) (by rw [iw hp];exact ajs (sp:=fun f=>eY f []) rfl hl (io hs) s0) rfl ⟨1,rfl⟩ G h w xs wr hx
 ·cases hv
def qH:List (Int×Int)→Int
 | []=>0
 |p::l=>bif bL (lM p.1 p.2) 0 then qH l else lM p.1 p.2
theorem Xl {sp:FuncId→Option (List ai→Option ai)} (h122:sp 122=some oQ) {v:ai} {l:List (Int×Int)} (hl:bu 2 gI v l) (hsmall:l.length<small) {s:St}: ∀(rest pre:List (Int×Int)) (e:bc) (lc:Ag.Loc),l=pre++rest→
 aq e 6=v→aq e 7= .int .i64 (l.length:Nat)→aq e 8= .int .i64 (pre.length:Nat)→
 W (QS sp) 184 (.loop y8) ⟨e,21,lc⟩ s fun x fr s'=>s'=s∧fr.size=21∧((x= .exit 0∧qH rest=0)∨(x= .ret∧aq fr.env 2= .int .i64 (qH rest))):=by
 intro rest
 have hcl:=hl.clean
 have hsm:small=9223372036854775808:=rfl
 induction rest with
 |nil=>
  intro pre e lc hpre h6 h7 h8
  have hl':l.length=pre.length:=by rw [hpre];simp
  refine W.loop1 ?_
  unfold y8
  refine W.sreg ?_
  unfold Df
  simp only [az,aA,aB,aW,aj,aC,aw,cQ,ak,aZ,cT,aP,cZ,tA,ar,decide_false,h7,h8,hl',fL]
  refine W.seq (W.cond (t:=false) (by simp only [aj,ah,ae,cT, *]) ?_)
  exact W.exit ⟨rfl,rfl,.inl ⟨rfl,rfl⟩⟩
 |cons a rest ih=>
  intro pre e lc hpre h6 h7 h8
  have hlt:pre.length<l.length:=by rw [hpre];simp
  have hat:l[pre.length]? =some a:=by rw [hpre];simp
  have hia:=fun lc=>hl.at aao hat lc .i64
  have hsp:oQ [.int .i64 a.1,.int .i64 a.2]=some (.int .i64 (lM a.1 a.2)):=rfl
  have hwr:IntKind.i64.wrap ((pre.length:Int)+1)=((pre.length+1:Nat):Int):=by rw [eC (by omega) (by omega)];omega
  have n0: ∀k,fF (.int k 0)=some 0:=fun _=>rfl
  have n1: ∀k,fF (.int k 1)=some 1:=fun _=>rfl
  refine W.loop1 ?_
  unfold y8
  refine W.sreg ?_
  unfold Df
  simp only [az,aA,aB,aW,aj,aC,aw,cQ,ak,aZ,cT,aP,cZ,tA,ar,dT,h7,h8,hlt]
  refine W.seq (W.cond (t:=true) (by simp only [aj,ah,ae,cT, *]) (W.skip ?_))
  simp only [aN]
  refine W.seq (W.block (W.sreg ?_))
  unfold Kx
  simp only [az,aA,dH,aB,dI,ah,bI,gQ,fH,bf,dJ,ec,aj,aC,eM,eI,aw,bH,di,fU,ak,bZ,cT,cF,aP,bX,aK,aQ,cut,cI,bA,aR,List.take_succ_cons,bT,cq,bS,tA,aM,ae,ar,bt,bR,Bool.and_true,aU,cP,bQ,dT,ajV,ak9,TI,YB,h6,h8,hia,gI]
  refine W.sreg ?_
  unfold Ky
  simp only [az,aA,aB,ah,cz,bI,aJ,bf,ec,dc,db,aj,aI,aC,be,bh,bo,bU,aw,ak,aZ,cT,cF,aP,dt,aR,bN,bS,tA,aM,ae,ar,jh,aU,cP,dT,fT,aak,n0,n1,h122,hsp]
  refine W.sreg ?_
  unfold Kz
  simp only [az,aA,aB,ah,aE,aW,aj,aI,aC,bo,aw,uC,ak,aZ,cT,cF,aP,bS,tA,ae,ar]
  cases hz:bL (lM a.1 a.2) 0 with
  |false=>
   refine W.cond (t:=true) (by simp only [aj,ah,ae,cT,cF,ff]) (W.sreg ?_)
   unfold KA
   simp only [az,aA,aB,ah,aE,aJ,aj,aw,cT,cF,ff,bS,tA,ae,ar]
   exact W.ret ⟨rfl,rfl,.inr ⟨rfl,by simp only [ah,ae,cT,cF,qH,hz]⟩⟩
  |true=>
   refine W.cond (t:=false) (by simp only [aj,ah,ae,cT,cF,dP]) (W.skip ?_)
   simp only [dS,aN]
   refine W.reg ?_
   unfold KB
   simp only [az,aA,aB,ah,aE,aW,aj,aI,aC,bo,aw,d8,ak,aZ,cT,cF,aP,dP,bS,tA,ae,ar,h8,hwr,aN]
   refine(ih (pre++[a]) _ _ (by rw [hpre];simp) (by simp only [ah,ae,cF, *]) (by simp only [ah,ae,cF, *]) (by simp only [ah,ae,cT,cF,dn,aK,aQ])).mono ?_
   simp only [qH,hz,cT]
   exact fun _ _ _ h=>h
theorem Xm {sp:FuncId→Option (List ai→Option ai)} (h0:sp 184=none) (h122:sp 122=some oQ) {v:ai} {l:List (Int×Int)} (hl:bu 2 gI v l) (hsmall:l.length<small) (s:St):br (QS sp) 184 [v] s (.int .i64 (qH l)) s:=by
 have hlen:=fun mk s=>hl.len ahv ahu mk s
 have hcl:=hl.clean
 refine br.of2 acz acy acB acA h0 ?_
 unfold Ku
 refine W.sreg ?_
 unfold Kv
 simp only [dg,cM,az,aA,aB,aJ,aI,bo,aw,cT,aK,aQ,tA,aM,ar,bR,bQ,dT]
 refine W.seq (W.sreg ?_)
 unfold Kw
 simp only [az,aA,aB,ah,aE,cL,aj,aI,aC,be,bh,bo,aw,cd,da,bH,ak,cT,cF,aP,bX,bS,tA,ae,ar,aU,YC,hcl,hlen]
 refine W.block ?_
 refine(Xl h122 hl hsmall l [] _ _ rfl (by simp only [ah,ae,cT,cF, *]) (by simp only [ah,ae,cT,cF, *]) (by simp only [ah,ae,cT,cF];rfl)).mono ?_
 rintro x ⟨e,sz,lc⟩ s' ⟨rfl,hs,⟨rfl,hok⟩|⟨rfl,h2⟩⟩
 ·have hs:sz=21:=hs
  subst hs
  show W (QS sp) 184 _ _ _ _
  refine W.sreg ?_
  unfold KC
  simp only [az,aA,aB,aJ,aI,bo,aw,tA,ar]
  exact W.ret ⟨rfl,.inr rfl,cp (by simp only [ah,ae,cT,hok]) rfl⟩
 ·exact⟨rfl,.inr rfl,cp h2 rfl⟩
def wS:Sp
 | [a]=>bif pures [a] then(gN 2 te a).bind fun l=>bif bP l.length small then some (.int .i64 (qH l)) else none else none
 |_=>none
def Bn:eE:=[(122,oQ)]
theorem Ui:fV Bn:=.cons G4 .nil
theorem Xk:eD Tryz.prog 184 wS:=by
 intro args x hv G h w xs wr hx
 unfold wS at hv
 split at hv
 ·rename_i a
  obtain⟨hp,hv⟩:=bW hv
  simp only [aF] at hv
  obtain⟨l,h1,hv⟩:=hv
  obtain⟨hs,hv⟩:=bW hv
  injection hv with hv;subst hv
  have hl:=iX (fun v a=>wD) h1
  exact gJ (Q:=QT Bn) (gD Ui) (fun _=>gL 1) (args:=[a]) (v:=.int .i64 (qH l)) (s':=s0) (kB hp) (by rw [iw hp];exact Xm (sp:=fun f=>eY f Bn) rfl rfl hl (io hs) s0) rfl ⟨1,rfl⟩ G h w xs wr hx
 ·cases hv
def n9 (a b:Int×Int):Int:=qH [(a.1,b.1),(a.2,b.2)]
theorem U5 {e:bc} {x y:Operand} {a b c d:ai} (hx:ev e x=some (.agg [a,b])) (hy:ev e y=some (.agg [c,d])) (s:St):dR Tryz.prog 349 2 [(0,x),(1,y)] false e s=some (.list 2 [.agg [a,b],.agg [c,d]] .full,s):=by
 simp only [dR,We,ak,dL,evc,hx,hy,ai.clean,cT,gg,ai.cells,aK,aQ,cI,Nat.zero_mul,aM,bt,jh,ie,cut]
 rfl
theorem ajJ {sp:FuncId→Option (List ai→Option ai)} (h0:sp 119=none) (h184:sp 184=some wS) (a b:Int×Int) (s:St):br (QS sp) 119 [gI a,gI b] s (.int .i64 (n9 a b)) s:=by
 have hbs: ∀e s,aq e 9= .agg [.int .i64 a.1,.int .i64 b.1]→aq e 14= .agg [.int .i64 a.2,.int .i64 b.2]→dR Tryz.prog 349 2 [(0,.tmp 9),(1,.tmp 14)] false e s=some (.list 2 [.agg [.int .i64 a.1,.int .i64 b.1],.agg [.int .i64 a.2,.int .i64 b.2]] .full,s):=fun e s p q=>U5 (by rw [aj,p]) (by rw [aj,q]) s
 have hsp:wS [.list 2 [.agg [.int .i64 a.1,.int .i64 b.1],.agg [.int .i64 a.2,.int .i64 b.2]] .full]=some (.int .i64 (n9 a b)):=rfl
 refine br.of2 abn abm abp abo h0 ?_
 unfold Jc
 refine W.sreg ?_
 unfold Jd
 simp only [dg,cM,az,aA,aB,ah,dx,cz,aJ,ja,aj,aI,aC,bo,eM,aw,bH,di,ak,bZ,cT,cF,bX,aK,aQ,bS,tA,aM,ae,ar,bt,bR,bQ,dT,Yf,Yg,gI]
 refine W.sreg ?_
 unfold Je
 simp only [az,aA,aB,ah,dx,cz,bI,aJ,kL,kM,bf,b7,dc,db,aj,aC,be,bh,bU,aw,cd,bH,di,wF,ak,aZ,i8,cT,cF,aP,bX,dt,aK,aQ,cI,bA,aR,bN,List.drop_succ_cons,bT,cq,bS,tA,aM,Nat.add_zero,ae,ar,bt,jh,bR,aU,bQ,dT,UO,fT,TI,wR,B7,Ye,dL,hbs,h184,hsp]
 exact W.ret ⟨rfl,.inr rfl,cp (by simp only [ah,ae,cT,cF, *]) rfl⟩
def qa:Sp
 | [a,b]=>(te a).bind fun p=>(te b).bind fun q=>some (.int .i64 (n9 p q))
 |_=>none
def Bk:eE:=[(184,wS)]
theorem Uf:fV Bk:=.cons Xk .nil
theorem R2:eD Tryz.prog 119 qa:=by
 intro args x hv G h w xs wr hx
 unfold qa at hv
 split at hv
 ·simp only [aF,a7] at hv
  obtain⟨p,h1,q,h2,rfl⟩:=hv
  have h1:=wD h1
  have h2:=wD h2
  subst h1;subst h2
  exact gJ (Q:=QT Bk) (gD Uf) (fun _=>gL 1) (args:=[gI p,gI q]) (v:=.int .i64 (n9 p q)) (s':=s0) rfl (ajJ (sp:=fun f=>eY f Bk) rfl rfl p q s0) rfl ⟨1,rfl⟩ G h w xs wr hx
 ·cases hv
end Go.Proofs.YtbfmdojdemckbaaGreat
namespace Go.Proofs.YtbfmdojdemckbaaGreat
open _root_.Array renaming getElem?_eq_none→ue,getElem?_modify→AY
open _root_.Bool renaming and_eq_true→cU,not_eq_true'→ug,not_false→ff,not_true→dP
open _root_.Classical renaming byContradiction→kV
open _root_.List renaming cons_append→cq,drop→aR,eq_nil_of_length_eq_zero→ql,getElem?_append_left→oJ,getElem?_append_right→pC,getElem?_eq_getElem→jf,getElem?_map→sS,head?_cons→bN,length_append→dn,length_cons→aK,length_nil→aQ,mem_cons→qp,nil_append→bT,size_toArray→un,take→bA
open _root_.Nat renaming ble_eq_true_of_le→ew,blt→bP,eq_of_beq_eq_true→ib,le_of_ble_eq_true→io,le_refl→bv,lt_irrefl→fL,lt_or_ge→gY,reduceAdd→bt,reduceBEq→ae,reduceLT→ar,reduceLeDiff→bR,reduceMul→jh,zero_add→aM,zero_lt_succ→gL
open Op renaming bytesLess→jS
open _root_.Option renaming bind_eq_some_iff→aF,bind_some→ak
open _root_.Option.some renaming injEq→a7
open _root_.Prod.mk renaming injEq→bK
open Go.Ag
open Go.Sort (putRow grow Holds SWO HoldsK putRowK flatK get_flatK size_flatK)
theorem VN {sp:FuncId→Option (List ai→Option ai)} (h0:sp 53=none) (h83:sp 83=some mj) (a b:ax) (s:St):br (QS sp) 53 [.str a,.str b] s (.int .i64 (dV a b)) s:=by
 have hsp:mj [.str a,.str b]=some (.int .i64 (dV a b)):=rfl
 refine br.of2 afd afc aff afe h0 ?_
 unfold N8
 refine W.sreg ?_
 unfold N9
 simp only [dg,cM,az,aA,aB,aJ,aI,bo,aw,cT,aK,aQ,tA,aM,ar,bt,bR,bQ,dT]
 refine W.sreg ?_
 unfold Oa
 simp only [az,aA,aB,ah,aE,aJ,dc,db,aj,aC,be,bh,aw,ak,cu,cT,cF,dt,bS,tA,ae,ar,h83,hsp]
 exact W.ret ⟨rfl,.inr rfl,cp (by simp only [ah,ae,cT,cF, *]) rfl⟩
theorem VM {sp:FuncId→Option (List ai→Option ai)} (h32:sp 32=none) (h0:sp 53=none) (h83:sp 83=some mj) (a b:ax) (s:St):br (QS sp) 32 [.str a,.str b] s (.int .i64 (dV a b)) s:=by
 refine br.of2 adS adR adU adT h32 ?_
 unfold MC
 refine W.sreg ?_
 unfold MD
 simp only [dg,cM,az,aA,aB,aJ,aI,bo,aw,cT,aK,aQ,tA,aM,ar,bt,bR,bQ,dT]
 refine W.seq (W.region (fD 2 ?_))
 unfold ME
 simp only [az,aA,aB,ah,aE,aj,aw,cT,cF,bA,aR,bS,tA,ae,ar]
 refine fQ (g:=53) (args:=[.str a,.str b]) ?_ (VN h0 h83 a b s) (by decide) ?_
 ·simp only [callee,ah,aj,eH,aC,be,bh,ak,cu,cT,cF,bT,cq,bS,ae]
 refine fP ?_
 simp only [az,aA,aB,ah,aJ,aj,aw,cT,cF,bS,tA,ae,ar,aN]
 exact W.ret ⟨rfl,.inr rfl,cp (by simp only [ah,ae,cT,cF, *]) rfl⟩
def Br:eE:=[(83,mj)]
theorem Um:fV Br:=.cons BN .nil
theorem VL:eD Tryz.prog 32 mj:=by
 intro args x hv G h w xs wr hx
 unfold mj at hv
 split at hv
 ·rename_i a b
  injection hv with hv;subst hv
  exact gJ (Q:=QT Br) (gD Um) (fun _=>gL 1) (args:=[.str a,.str b]) (v:=.int .i64 (dV a b)) (s':=s0) rfl (VM (sp:=fun f=>eY f Br) rfl rfl rfl a b s0) rfl ⟨1,rfl⟩ G h w xs wr hx
 ·cases hv
theorem ajq (x y:Int):ou [x,y]=bif bL x 0 then y else x:=by
 simp only [ou]
 cases h:bL y 0 with
 |true=>
  have:y=0:=by simpa [bL] using h
  subst this
  cases bL x 0<;>rfl
 |false=>cases bL x 0<;>rfl
theorem U9 {e:bc} {x y:Operand} {a b:Int} (hx:ev e x=some (.int .i64 a)) (hy:ev e y=some (.int .i64 b)) (s:St):dR Tryz.prog 55 2 [(0,x),(1,y)] false e s=some (.list 1 [.int .i64 a,.int .i64 b] .full,s):=by
 simp only [dR,Hj,ak,dL,evc,hx,hy,ai.clean,cT,gg,ai.cells,aK,aQ,cI,Nat.zero_mul,aM,bt,jh,ie,cut]
 rfl
theorem Vs {sp:FuncId→Option (List ai→Option ai)} (h0:sp 30=none) (h32:sp 32=some mj) (h31:sp 31=some ph) (a b:ax×ax) {s:St} (hm:s.minw≤s.next):br (QS sp) 30 [de a,de b] s (.int .i64 (gU a b)) s:=by
 have hs1:mj [.str a.1,.str b.1]=some (.int .i64 (dV a.1 b.1)):=rfl
 have hs2:mj [.str a.2,.str b.2]=some (.int .i64 (dV a.2 b.2)):=rfl
 have hor:ph [.list 1 [.int .i64 (dV a.1 b.1),.int .i64 (dV a.2 b.2)] .full]=some (.int .i64 (gU a b)):=by
  have h1:ph [.list 1 [.int .i64 (dV a.1 b.1),.int .i64 (dV a.2 b.2)] .full]=some (.int .i64 (ou [dV a.1 b.1,dV a.2 b.2])):=rfl
  rw [h1,ajq];rfl
 have hbs: ∀e s,aq e 9= .int .i64 (dV a.1 b.1)→aq e 14= .int .i64 (dV a.2 b.2)→dR Tryz.prog 55 2 [(0,.tmp 9),(1,.tmp 14)] false e s=some (.list 1 [.int .i64 (dV a.1 b.1),.int .i64 (dV a.2 b.2)] .full,s):=fun e s p q=>U9 (by rw [aj,p]) (by rw [aj,q]) s
 refine br.of2 adK adJ adM adL h0 ?_
 unfold Mq
 refine W.sreg ?_
 unfold Mr
 simp only [dg,cM,az,aA,aB,ah,dx,cz,aJ,ja,aj,aI,aC,bo,eM,aw,bH,di,ak,bZ,cT,cF,bX,aK,aQ,bS,tA,aM,ae,ar,bt,bR,bQ,dT,YR,YS,de]
 refine W.sdrawQ hm ?_
 unfold Ms
 simp only [fh,fg,fu,isStore,ah,dx,cz,bI,aJ,kM,bf,b7,dc,db,aj,aC,be,bh,bU,aw,cd,bH,ak,cu,i8,cT,cF,aP,bX,dt,aR,bN,bS,tA,aM,Nat.add_zero,ae,ar,aU,dD,WM,WN,YQ,h32,hs1,hs2,hbs,h31,hor]
 exact W.ret ⟨rfl,.inr rfl,cp (by simp only [ah,ae,cT,cF, *]) rfl⟩
def uy:ai→Option (ax×ax)
 | .agg [.str a,.str b]=>some (a,b)
 |_=>none
theorem Bv {v:ai} {c:ax×ax} (h:uy v=some c):v=de c:=by
 unfold uy at h
 split at h
 ·injection h with h;subst h;rfl
 ·cases h
def GQ:Sp
 | [p,q]=>(uy p).bind fun a=>(uy q).bind fun b=>some (.int .i64 (gU a b))
 |_=>none
def Bq:eE:=[(32,mj),(31,ph)]
theorem Ul:fV Bq:=.cons VL (.cons RU .nil)
theorem Vr:eD Tryz.prog 30 GQ:=by
 intro args x hv G h w xs wr hx
 unfold GQ at hv
 split at hv
 ·simp only [aF,a7] at hv
  obtain⟨a,h1,b,h2,rfl⟩:=hv
  have h1:=Bv h1
  have h2:=Bv h2
  subst h1;subst h2
  exact gJ (Q:=QT Bq) (gD Ul) (fun _=>gL 1) (args:=[de a,de b]) (v:=.int .i64 (gU a b)) (s':=s0) rfl (Vs (sp:=fun f=>eY f Bq) rfl rfl rfl a b (bv _)) rfl ⟨1,rfl⟩ G h w xs wr hx
 ·cases hv
theorem BM: ∀a:ax,dV a a=0
 | []=>rfl
 |x::a=>by
  have:bP x.toNat x.toNat=false:=by rw [cP];exact decide_eq_false (fL _)
  simp only [dV,this,cF,BM a]
theorem G5 (a b:ax):dV b a= -dV a b:=by
 induction a generalizing b with
 |nil=>cases b<;>rfl
 |cons x a ih=>
  cases b with
  |nil=>rfl
  |cons y b=>
   simp only [dV]
   rcases Nat.lt_trichotomy x.toNat y.toNat with h|h|h
   ·have h1:bP x.toNat y.toNat=true:=ew h
    have h2:bP y.toNat x.toNat=false:=by rw [cP];exact decide_eq_false (by omega)
    rw [h1,h2];rfl
   ·have h1:bP x.toNat y.toNat=false:=by rw [cP];exact decide_eq_false (by omega)
    have h2:bP y.toNat x.toNat=false:=by rw [cP];exact decide_eq_false (by omega)
    rw [h1,h2];exact ih b
   ·have h1:bP x.toNat y.toNat=false:=by rw [cP];exact decide_eq_false (by omega)
    have h2:bP y.toNat x.toNat=true:=ew h
    rw [h1,h2];rfl
theorem yC {a b:ax} (h:dV a b=0):a=b:=by
 induction a generalizing b with
 |nil=>cases b with
  |nil=>rfl
  |cons y b=>simp [dV] at h
 |cons x a ih=>
  cases b with
  |nil=>simp [dV] at h
  |cons y b=>
   simp only [dV] at h
   cases h1:bP x.toNat y.toNat with
   |true=>rw [h1] at h;simp at h
   |false=>
    rw [h1] at h
    cases h2:bP y.toNat x.toNat with
    |true=>rw [h2] at h;simp at h
    |false=>
     rw [h2] at h
     have e:x.toNat=y.toNat:=by
      rw [cP] at h1 h2
      have:=of_decide_eq_false h1
      have:=of_decide_eq_false h2
      omega
     rw [UInt8.toNat_inj.1 e,ih h]
theorem G6 {a b c:ax} (h1:dV a b<0) (h2:dV b c<0):dV a c<0:=by
 induction a generalizing b c with
 |nil=>
  cases b with
  |nil=>simp [dV] at h1
  |cons y b=>
   cases c with
   |nil=>simp [dV] at h2
   |cons z c=>simp [dV]
 |cons x a ih=>
  cases b with
  |nil=>simp [dV] at h1
  |cons y b=>
   cases c with
   |nil=>simp [dV] at h2
   |cons z c=>
    simp only [dV,cP] at h1 h2 ⊢
    by_cases p:x.toNat<y.toNat
    ·by_cases q:y.toNat<z.toNat
     ·simp [show x.toNat<z.toNat by omega]
     ·by_cases q2:z.toNat<y.toNat
      ·simp [q,q2] at h2
      ·simp [show x.toNat<z.toNat by omega]
    ·by_cases p2:y.toNat<x.toNat
     ·simp [p,p2] at h1
     ·by_cases q:y.toNat<z.toNat
      ·simp [show x.toNat<z.toNat by omega]
      ·by_cases q2:z.toNat<y.toNat
       ·simp [q,q2] at h2
       ·simp only [p,p2,q,q2,decide_false,cF] at h1 h2
        simp only [show¬x.toNat<z.toNat by omega,show¬z.toNat<x.toNat by omega,decide_false,cF]
        exact ih h1 h2
theorem wJ (a b:ax×ax):gU a b=if dV a.1 b.1=0 then dV a.2 b.2 else dV a.1 b.1:=by
 unfold gU
 by_cases h:dV a.1 b.1=0
 ·have:bL (dV a.1 b.1) 0=true:=by simp [bL,h]
  rw [this,if_pos h];rfl
 ·have:bL (dV a.1 b.1) 0=false:=by simp [bL,h]
  rw [this,if_neg h];rfl
theorem G7 (a b:ax×ax):gU b a= -gU a b:=by
 rw [wJ,wJ,G5 a.1 b.1,G5 a.2 b.2]
 by_cases h:dV a.1 b.1=0
 ·rw [if_pos h,if_pos (by omega)]
 ·rw [if_neg h,if_neg (by omega)]
theorem G9 {a b:ax×ax} (h:gU a b=0):a=b:=by
 rw [wJ] at h
 by_cases h1:dV a.1 b.1=0
 ·rw [if_pos h1] at h
  exact Prod.ext (yC h1) (yC h)
 ·rw [if_neg h1] at h;exact absurd h h1
theorem VP (a:ax×ax):gU a a=0:=by
 rw [wJ,if_pos (BM _),BM]
theorem G8 {a b c:ax×ax} (h1:gU a b<0) (h2:gU b c<0):gU a c<0:=by
 rw [wJ] at h1 h2 ⊢
 by_cases p:dV a.1 b.1=0
 ·rw [if_pos p] at h1
  have e:=yC p
  by_cases q:dV b.1 c.1=0
  ·rw [if_pos q] at h2
   rw [e,if_pos q]
   exact G6 h1 h2
  ·rw [if_neg q] at h2
   rw [e,if_neg q];exact h2
 ·rw [if_neg p] at h1
  by_cases q:dV b.1 c.1=0
  ·have e:=yC q
   rw [←e,if_neg p];exact h1
  ·rw [if_neg q] at h2
   have:=G6 h1 h2
   rw [if_neg (by omega)];exact this
theorem t7:SWO (ltOf gU) where
 irrefl x:=by simp [ltOf,VP]
 trans x y z h1 h2:=by
  simp only [ltOf,decide_eq_true_eq] at*
  exact G8 h1 h2
 ntrans x y z h1 h2:=by
  simp only [ltOf,decide_eq_false_iff_not] at*
  intro h3
  rcases Int.lt_trichotomy (gU x y) 0 with p|p|p
  ·exact h1 p
  ·rw [G9 p] at h3;exact h2 h3
  ·have p2:gU y x<0:=by rw [G7 x y];omega
   exact h2 (G8 p2 h3)
theorem Tr (x y:ax×ax) (h1:ltOf gU x y=false) (h2:ltOf gU y x=false):x=y:=by
 simp only [ltOf,decide_eq_false_iff_not] at h1 h2
 rw [G7 x y] at h2
 exact G9 (by omega)
theorem Re (x y:ax×ax):zR x y=ltOf gU x y:=rfl
theorem Ik (x:ax×ax): ∀l:List (ax×ax),l.Pairwise (fun a b=>(!ltOf gU b a)=true)→(tC x l).Pairwise (fun a b=>(!ltOf gU b a)=true)
 | [],_=>by simp [tC]
 |y::l,h=>by
  simp only [tC]
  cases e:zR y x with
  |true=>
   refine List.pairwise_cons.2 ⟨fun z hz=>?_,Ik x l (List.pairwise_cons.1 h).2⟩
   rcases List.mem_cons.1 ((CO x l).mem_iff.1 hz) with rfl|hz
   ·rw [Re] at e
    cases hc:ltOf gU z y with
    |false=>rfl
    |true=>have:=t7.trans _ _ _ hc e;rw [t7.irrefl] at this;cases this
   ·exact(List.pairwise_cons.1 h).1 z hz
  |false=>
   rw [Re] at e
   refine List.pairwise_cons.2 ⟨fun z hz=>?_,h⟩
   rcases List.mem_cons.1 hz with rfl|hz
   ·rw [e];rfl
   ·have h1:=(List.pairwise_cons.1 h).1 z hz
    simp only [ug] at h1 ⊢
    exact t7.ntrans _ _ _ h1 e
theorem AE: ∀l,(hZ l).Pairwise (fun a b=>(!ltOf gU b a)=true)
 | []=>.nil
 |x::l=>Ik x _ (AE l)
theorem SQ {l r:List (ax×ax)} (h:l.Perm r) (hl:l.Pairwise (fun a b=>(!ltOf gU b a)=true)) (hr:r.Pairwise (fun a b=>(!ltOf gU b a)=true)):l=r:=by
 refine List.Perm.eq_of_pairwise (le:=fun a b=>(!ltOf gU b a)=true) (fun a b _ _ h1 h2=>?_) hl hr h
 simp only [ug] at h1 h2
 exact Tr a b h2 h1
theorem akO (l:List (ax×ax)):l.mergeSort (fun x y=> !(ltOf gU) y x)=hZ l:=by
 refine SQ ((List.mergeSort_perm l _).trans (sF l).symm) (List.pairwise_mergeSort (fun a b c h1 h2=>?_) (fun a b=>?_) l) (AE l)
 ·simp only [ug] at*
  exact t7.ntrans _ _ _ h2 h1
 ·cases h:ltOf gU b a with
  |false=>rfl
  |true=>
   cases h2:ltOf gU a b with
   |false=>rfl
   |true=>have:=t7.trans _ _ _ h h2;rw [t7.irrefl] at this;cases this
theorem SP {l r:List (ax×ax)} (h:l.Perm r):hZ l=hZ r:=
 SQ (((sF l).trans h).trans (sF r).symm) (AE l) (AE r)
def ng (c:ax×ax):List Value:=[.string ⟨⟨c.1⟩⟩,.string ⟨⟨c.2⟩⟩]
def G0:Gh:= {at_:=fun _=>none,ro:=fun _ _=>none,dim:=fun _=>none }
theorem wr0 (w:World):WR G0 .nil w:=
 ⟨fun _ _ h=>(by cases h),fun _ _ _ _ h=>absurd rfl h,fun _ _ _ h=>(by cases h),fun _ _ _ _ _ h=>(by cases h),fun _ _ h=>(by cases h),fun _ _ h=>(by cases h)⟩
theorem al2 {a b:World} (h1:a.heap=b.heap) (h2:a.tape=b.tape) (h3:a.drawn=b.drawn) (h4:a.os=b.os) (h5:a.output=b.output):a=b:=by
 obtain⟨_,_,_,_,_⟩:=a
 obtain⟨_,_,_,_,_⟩:=b
 cases h1;cases h2;cases h3;cases h4;cases h5;rfl
theorem VQ {α:Type} [Inhabited α] {g:Nat} {sp:Sp} (hsp:eD Tryz.prog g sp) (eg: ∀args w,(callFunc g args).run Tryz.prog w= .ok (.enter g args) w) {enc:α→List Value} {encA:α→ai} (hv: ∀G x,VR G (encA x) (.agg (enc x).toArray)) {cf:α→α→Int} (hcf: ∀x y,sp [encA x,encA y]=some (.int .i64 (cf x y))) (k blk off size:Nat) (w:World):CmpLays Tryz.prog g #[] enc k cf blk off size w:=by
 intro m os dk _ x y
 generalize sortWorldK enc k w blk off m dk os=W
 have hc:=hsp _ _ (hcf x y) G0 .nil W [.agg (enc x).toArray,.agg (enc y).toArray] (wr0 W) (.cons (hv _ x) (.cons (hv _ y) .nil))
 rcases hc with⟨y',w',h1,_⟩|⟨_,h2⟩
 ·rw [eg] at h1;cases h1
 ·refine h2.mono ?_
  rintro e w' ⟨v,rfl,G',_,x1,x2⟩
  cases x2
  refine⟨rfl,w'.drawn-W.drawn,w'.heap.extract W.heap.size w'.heap.size,?_⟩
  have hq:=x1.quiet
  have hsz:=x1.size
  have hheap:w'.heap=W.heap++w'.heap.extract W.heap.size w'.heap.size:=by
   apply Array.ext_getElem?
   intro i
   by_cases hi:i<W.heap.size
   ·rw [Array.getElem?_append_left hi]
    exact x1.keep i hi fun ho=>by
     obtain⟨n,a,h,_⟩:=ho
     exact h rfl
   ·rw [Array.getElem?_append_right (by omega),Array.getElem?_extract]
    by_cases hj:i-W.heap.size<w'.heap.size-W.heap.size
    ·rw [if_pos (by omega),show W.heap.size+(i-W.heap.size)=i by omega]
    ·rw [if_neg (by omega),ue (by omega)]
  have hd:=hq.2.2.2.2.2
  refine al2 hheap hq.2.2.2.2.1 ?_ hq.1 hq.2.1
  show w'.drawn=W.drawn+(w'.drawn-W.drawn)
  omega
theorem Ck: ∀(l:List (ax×ax)) (t:Nat) (v:ai),(bO (l.map de))[t]? =some v→ ∃h:t / 2<l.length, ∃s:ax,v= .str s∧(ng l[t / 2])[t % 2]! = .string ⟨⟨s⟩⟩
 | [],t,v,h=>by simp [bO] at h
 |c::l,0,v,h=>by
  have h:some (ai.str c.1)=some v:=h
  injection h with h;subst h
  exact⟨by simp,c.1,rfl,rfl⟩
 |c::l,1,v,h=>by
  have h:some (ai.str c.2)=some v:=h
  injection h with h;subst h
  exact⟨by simp,c.2,rfl,rfl⟩
 |c::l,t+2,v,h=>by
  have h:(bO (l.map de))[t]? =some v:=h
  obtain⟨h1,s,h2,h3⟩:=Ck l t v h
  have e1:(t+2) / 2=t / 2+1:=by omega
  have e2:(t+2) % 2=t % 2:=by omega
  refine⟨by rw [e1,aK];omega,s,h2,?_⟩
  rw [←h3]
  simp [e1,e2]
theorem akP:Gm 51 v8:=by
 have eg: ∀args w,(callFunc 30 args).run Tryz.prog w= .ok (.enter 30 args) w:=Go.Proofs.enters_of Tryz.func30 (by kernel_rfl) rfl
 intro args G h w xs wr hx
 refine⟨fun hsp=>?_,fun n g cs cs' hsp hl hg=>?_⟩
 ·unfold v8 at hsp
  split at hsp
  ·cases hx with
   |cons p q=>
    cases q with
    |cons q r=>
     cases r
     cases p
     cases q with
     |func q1 q2=>
      cases q1
      cases q2
      refine .inr ⟨Go.Proofs.enters_of Tryz.func51 (by kernel_rfl) rfl _ _,(AnyF.slices_SortFunc_none Tryz.sortF51 none 0 (.func (.func 30) #[] #[]) w).mono ?_⟩
      rintro e w' ⟨rfl,rfl⟩
      exact⟨_,rfl,G,wr,.refl,.tup .nil⟩
  ·cases hsp
  ·cases hsp
 ·unfold v8 at hsp
  split at hsp
  ·cases hsp
  ·rename_i m len lcap
   simp only [a7,bK] at hsp
   obtain⟨rfl,rfl⟩:=hsp
   obtain⟨hb,hg⟩:=bW hg
   simp only [cU] at hb
   have hlen:=ib hb.1
   have hsm:=io hb.2
   simp only [aF,a7] at hg
   obtain⟨l,h1,rfl⟩:=hg
   have hcs:=GA h1
   subst hcs
   rw [wU] at hlen
   have hlen:l.length=len:=by omega
   cases hx with
   |cons p q=>
    cases q with
    |cons q r=>
    cases r
    cases q with
    |func q1 q2=>
    cases q1
    cases q2
    obtain⟨a,b,cap,rfl,hat,hspot,hcap,hab,d,hdim,hd⟩:=Gz p
    obtain⟨b',hb',_,C,e,hC,hdimC,hcs⟩:=wr.obj m _ hl
    rw [hat] at hb';injection hb' with hb';subst hb'
    rw [hdimC] at hdim;injection hdim with hdim
    have hsl:(hZ l).length=l.length:=(sF l).length_eq
    have hfin: ∀n os, ∃G',WR G' (h.set m (some (.cells (bO ((hZ l).map de))))) (sortWorldK ng 2 w b.block b.off n (hZ l).toArray os)∧dh G h w G' (h.set m (some (.cells (bO ((hZ l).map de))))) (sortWorldK ng 2 w b.block b.off n (hZ l).toArray os) 0 0∧VR G' (.tup []) (.tuple #[]):=fun n os=>by
     refine So wr hl hat id (flatK ng 2 (hZ l).toArray) n os (fun C' e' hC'=>?_) (fun i v hi=>?_)
     ·rw [hC] at hC';injection hC' with hC';injection hC' with hC' _ _;subst hC'
      rw [size_flatK,un,hsl,hdim];omega
     ·obtain⟨h1,s,rfl,h3⟩:=Ck (hZ l) i v hi
      have hi2:i<(hZ l).toArray.size*2:=by rw [un];omega
      refine⟨by rw [size_flatK];exact hi2,rfl,?_⟩
      show VR G (.str s) ((flatK ng 2 (hZ l).toArray)[i]!)
      rw [get_flatK _ _ _ _ hi2]
      have:(hZ l).toArray[i / 2]! =(hZ l)[i / 2]:=by simp [h1]
      rw [this,h3];exact .str s
    rcases hab with h0|⟨hab1,hab2⟩
    ·have hl0:l=[]:=ql (by omega)
     subst hl0
     have h0':len=0:=h0
     subst h0'
     refine .inr ⟨Go.Proofs.enters_of Tryz.func51 (by kernel_rfl) rfl _ _,(AnyF.slices_SortFunc_none Tryz.sortF51 (some a) cap (.func (.func 30) #[] #[]) w).mono ?_⟩
     rintro e' w' ⟨rfl,rfl⟩
     obtain⟨G',g1,g2,g3⟩:=hfin 0 #[]
     have hw:sortWorldK ng 2 w' b.block b.off 0 (hZ []).toArray #[]=w':=by
      show grow (putRowK ng 2 (Go.Sort.ahead w' 0) b.block b.off (hZ []).toArray) #[]=w'
      rw [Go.Sort.grow_empty,Go.Sort.ahead_zero]
      exact Go.Sort.putRowK_self ng 2 w' b.block b.off _ (fun j hj=>by rw [size_flatK] at hj;simp [hZ] at hj)
     rw [hw] at g1 g2
     exact⟨_,rfl,G',g1,g2,g3⟩
    ·obtain⟨ab,ao,asp⟩:=a
     simp only at hab1 hab2 hspot
     subst hab1;subst hab2;subst hspot
     have hH:HoldsK ng 2 w b.block b.off l.toArray:=fun j hj=>by
      have hj':j<l.toArray.size*2:=by rw [size_flatK] at hj;exact hj
      have hj2:j<(bO (l.map de)).length:=by rw [wU];simpa using hj'
      refine⟨?_,by simp [World.frozen?,hC]⟩
      obtain⟨_,x,hx1,hx2⟩:=hcs j _ (jf hj2)
      obtain⟨h1,s,h2,h3⟩:=Ck l j _ (jf hj2)
      rw [h2] at hx2
      cases hx2
      rw [nb hC,hx1]
      show some _=some ((flatK ng 2 l.toArray)[j]!)
      rw [get_flatK _ _ _ _ hj']
      have e1:l.toArray[j / 2]! =l[j / 2]:=by simp [h1]
      rw [e1,h3]
     have hbl:=wr.below m b hat
     have hO:=AnyQ.slices_SortFunc_total Tryz.sortF51 2 Tryz.isAgg31 Tryz.sizeOf31 ng (fun _=>rfl) (fun x v hv=>by simp [ng] at hv;rcases hv with rfl|rfl<;>rfl) gU t7 30 #[] b.block b.off cap l.toArray w eg
      (VQ Vr eg (encA:=de) (fun G x=>.agg rfl (.cons (.str _) (.cons (.str _) .nil))) (fun x y=>rfl) 2 b.block b.off _ w) hH hbl (by rw [un];omega) Tr
     rw [←hlen]
     refine .inr ⟨Go.Proofs.enters_of Tryz.func51 (by kernel_rfl) rfl _ _,Calls.mono (R:=fun e w'=>e= .returned (.tuple #[])∧ ∃n os,w'=sortWorldK ng 2 w b.block b.off n (l.mergeSort fun x y=> !(ltOf gU) y x).toArray os) (by simp at hO;exact hO) ?_⟩
     rintro e' w' ⟨rfl,n,os,rfl⟩
     rw [akO]
     obtain⟨G',g1,g2,g3⟩:=hfin n os
     exact⟨_,rfl,G',g1,g2,g3⟩
  ·cases hsp
end Go.Proofs.YtbfmdojdemckbaaGreat
