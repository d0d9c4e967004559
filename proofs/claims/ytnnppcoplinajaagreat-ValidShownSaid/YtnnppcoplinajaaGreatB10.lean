/- Lemmas for ValidShown. -/
import Derived.Test.YtnnppcoplinajaaGreatB9
import Derived.Test.YtnnppcoplinajaaGreatB6
import Derived.Test.YtnnppcoplinajaaGreatAg3
import Derived.Test.YtnnppcoplinajaaGreatB7
set_option linter.all false
open Bool renaming and_eq_true→bq,and_false→gA,and_self→bX,and_true→mY,false_and→dL,false_or→jV,or_false→jG,or_self→uq,or_true→lF,true_and→eC,true_or→jH
open List renaming drop_drop→vO,eq_nil_of_length_eq_zero→vP,filter_append→BH,finRange→xL,getElem?_cons_succ→mg,getElem?_eq_getElem→gB,getElem?_eq_some_iff→nR,getElem?_map→jo,getElem_mem→zS,length_append→de,length_cons→cX,length_take→uv,map_append→eK,mem_cons_of_mem→iw,mem_cons_self→fE,range→hZ,replicate→gD,take_append_drop→zV,take_append_of_le_length→S6,take_of_length_le→sU,take_succ_eq_append_getElem→S7
open Nat renaming beq→aK,ble_eq_true_of_le→cN,ble→bu,le_of_ble_eq_true→fF,le_refl→bj,lt_irrefl→cq,mod_eq_of_lt→D9,mul_le_mul_right→vW,reduceAdd→bH,reduceBEq→ai,reduceLT→aA,reduceLeDiff→cz,reduceMod→dP,reducePow→dR,reduceSub→dS,succ_mul→qo,zero_add→eM
open Go.Operand renaming tmp→aC
open Option renaming bind_eq_some_iff→ak,bind_some→bk
open Go.Proofs.Tryz renaming prog→ah
open Go.Ag.W renaming loopC→bm
open Go.Ag.WC renaming sound→bP
namespace Go.Proofs.YtnnppcoplinajaaGreat
open Go.Ag
def abU(a b c:Pt):dC a b c= -1\/dC a b c=0\/dC a b c=1:=by
 unfold dC;rcases B9 (fY a b c) with⟨e,_⟩|⟨e,_⟩|⟨e,_⟩<;>rw[e]<;>simp
def abT(a b c d e f:Pt):IntKind.i64.wrap (dC a b c*dC d e f)=dC a b c*dC d e f:=by
 rcases abU a b c with h|h|h<;>rcases abU d e f with k|k|k<;>rw[h,k]<;>rfl
noncomputable def O1:SC:=(.seq (.draw apF O3) (.seq (.draw apG O4) (.seq (.block 1 (.seq (.region aps) (.cond (aC 92) (.seq (.region apt) .ret) (.seq (.region apu) (.cond (aC 103) (.seq (.region apv) .ret) (.seq (.region apw) (.cond (aC 114) (.seq (.region apx) .ret) .skip))))))) (.seq (.region apy) .ret))))
noncomputable def O0:SC:=(.seq (.block 0 (.seq (.region apB) (.cond (aC 24) (.seq (.region apC) .ret) (.seq (.region apD) (.cond (aC 28) (.seq (.region apE) .ret) .skip))))) O1)
def apo:OZ=(.seq (.region apq) (.seq (.seq (.region apr) (.cond (aC 19) (.seq (.region apz) .ret) .skip)) (.seq (.draw apA O2) O0))):=rfl
variable{lc:Ag.Loc}{K:Ex->Fr->St->Prop}{s:St}{e:aw}
section
variable{sp:gQ}
set_option maxRecDepth 8000 in
set_option maxHeartbeats 2000000 in
def aaC(f:sp 313=some t0){a b c d a' b' c' d':Int}(F:bg (a,b)=true)(n2:bg (c,d)=true)(E:bg (a',b')=true)(D:bg (c',d')=true)(A:s.gE<=s.aL){g2 g3:Nat}(e2:ac e 2= .Gt 2 g2 0)(C:ac e 3= .Gt 3 g3 0)(l2:lc.get 2 g2=some [ag a,ag b,ag c,ag d])(z:lc.get 3 g3=some [ag a',ag b',ag c',ag d'])(y:lc.gen 2=g2)(t:lc.gen 3=g3)(B: ∀e lc,ac e 4=ag (qD ((a,b),(c,d)) ((a',b'),(c',d')))->K .ret ⟨e,125,lc⟩ s):W (QS sp) 225 O1 ⟨e,125,lc⟩ s K:=by
 have q:=Be F n2 E;have p:=Be F n2 D;have o:=Be E D F;have l:=Be E D n2;have j:=abT (a,b) (c,d) (a',b') (a,b) (c,d) (c',d');have g:=abT (a',b') (c',d') (a,b) (a',b') (c',d') (c,d);unfold O1;refine WF.sound ?_;cases c1:aX 0 (dC (a,b) (c,d) (a',b')*dC (a,b) (c,d) (c',d')) with
 |true=>
  simp only[go_sem,seval,qy,e2,C,l2,z,y,t,A,f,q,p,o,l,j,g,c1];exact B _ _ (by simp only[sN,seval,qD,c1,lF,jG,uq,jH,mY,gA,bX,dL])
 |false=>
  cases c2:aX 0 (dC (a',b') (c',d') (a,b)*dC (a',b') (c',d') (c,d)) with
  |true=>
   simp only[go_sem,seval,qy,e2,C,l2,z,y,t,A,f,q,p,o,l,j,g,c1,c2];exact B _ _ (by simp only[sN,seval,qD,c1,c2,lF,jG,uq,jH,mY,gA,bX,dL])
  |false=>
   cases c3:aX (dC (a,b) (c,d) (a',b')*dC (a,b) (c,d) (c',d')) 0 with
   |true=>
    cases c4:aX (dC (a',b') (c',d') (a,b)*dC (a',b') (c',d') (c,d)) 0 with
    |true=>
     simp only[go_sem,seval,qy,e2,C,l2,z,y,t,A,f,q,p,o,l,j,g,c1,c2,c3,c4];exact B _ _ (by simp only[sN,seval,qD,c1,c2,c3,c4,lF,jG,uq,jH,mY,gA,bX,dL])
    |false=>
     cases c5:an (dC (a,b) (c,d) (a',b')*dC (a,b) (c,d) (c',d')) 0 with
     |true=>
      cases c6:an (dC (a',b') (c',d') (a,b)*dC (a',b') (c',d') (c,d)) 0 with
      |true=>
       simp only[go_sem,seval,qy,e2,C,l2,z,y,t,A,f,q,p,o,l,j,g,c1,c2,c3,c4,c5,c6];exact B _ _ (by simp only[sN,seval,qD,c1,c2,c3,c4,c5,c6,lF,jG,uq,jH,mY,gA,bX,dL])
      |false=>
       simp only[go_sem,seval,qy,e2,C,l2,z,y,t,A,f,q,p,o,l,j,g,c1,c2,c3,c4,c5,c6];exact B _ _ (by simp only[sN,seval,qD,c1,c2,c3,c4,c5,c6,lF,jG,uq,jH,mY,gA,bX,dL])
     |false=>
      simp only[go_sem,seval,qy,e2,C,l2,z,y,t,A,f,q,p,o,l,j,g,c1,c2,c3,c4,c5];exact B _ _ (by simp only[sN,seval,qD,c1,c2,c3,c4,c5,lF,jG,uq,jH,mY,gA,bX,dL])
   |false=>
    cases c5:an (dC (a,b) (c,d) (a',b')*dC (a,b) (c,d) (c',d')) 0 with
    |true=>
     cases c6:an (dC (a',b') (c',d') (a,b)*dC (a',b') (c',d') (c,d)) 0 with
     |true=>
      simp only[go_sem,seval,qy,e2,C,l2,z,y,t,A,f,q,p,o,l,j,g,c1,c2,c3,c5,c6];exact B _ _ (by simp only[sN,seval,qD,c1,c2,c3,c5,c6,lF,jG,uq,jH,mY,gA,bX,dL])
     |false=>
      simp only[go_sem,seval,qy,e2,C,l2,z,y,t,A,f,q,p,o,l,j,g,c1,c2,c3,c5,c6];exact B _ _ (by simp only[sN,seval,qD,c1,c2,c3,c5,c6,lF,jG,uq,jH,mY,gA,bX,dL])
    |false=>
     simp only[go_sem,seval,qy,e2,C,l2,z,y,t,A,f,q,p,o,l,j,g,c1,c2,c3,c5];exact B _ _ (by simp only[sN,seval,qD,c1,c2,c3,c5,lF,jG,uq,jH,mY,gA,bX,dL])
set_option maxRecDepth 8000 in
set_option maxHeartbeats 2000000 in
def asS(f:sp 313=some t0)(g:sp 314=some zd){a b c d a' b' c' d':Int}(z:bg (a,b)=true)(n2:bg (c,d)=true)(B:bg (a',b')=true)(A:bg (c',d')=true)(D:s.gE<=s.aL){g2 g3:Nat}(e2:ac e 2= .Gt 2 g2 0)(p:ac e 3= .Gt 3 g3 0)(l2:lc.get 2 g2=some [ag a,ag b,ag c,ag d])(o:lc.get 3 g3=some [ag a',ag b',ag c',ag d'])(l:lc.gen 2=g2)(j:lc.gen 3=g3)(y: ∀e lc,ac e 4=ag (qU ((a,b),(c,d)) ((a',b'),(c',d')))->K .ret ⟨e,125,lc⟩ s):W (QS sp) 225 O0 ⟨e,125,lc⟩ s K:=by
 have t:=Be z n2 B;have q:=Be z n2 A;have C:zd [.agg [ag a,ag b,ag c,ag d],.agg [ag a',ag b',ag c',ag d']]=some (ag (y8 ((a,b),(c,d)) ((a',b'),(c',d')))):=auj (a:=((a,b),(c,d))) (b:=((a',b'),(c',d'))) z n2 B A;unfold O0;refine W.seq (WF.sound ?_);cases x0:Bo ((a,b),(c,d)) ((a',b'),(c',d')) with
 |true=>
  simp only[go_sem,seval,bO,bf,aZ,aW,aY,evc,oq,DB,e2,p,l2,o,l,j,f,g,t,q,x0];exact y _ _ (by simp only[sN,seval,qU,x0])
 |false=>
 cases x1:hG (a,b) (c,d) with
 |true=>
  simp only[go_sem,seval,bO,bf,aZ,aW,aY,evc,oq,DB,e2,p,l2,o,l,j,f,g,t,q,C,x0,x1];exact y _ _ (by simp only[sN,seval,qU,qY,x0,x1,jH,lF,jG,jV,bX])
 |false=>
 cases x2:hG (a',b') (c',d') with
 |true=>
  simp only[go_sem,seval,bO,bf,aZ,aW,aY,evc,oq,DB,e2,p,l2,o,l,j,f,g,t,q,C,x0,x1,x2];exact y _ _ (by simp only[sN,seval,qU,qY,x0,x1,x2,jH,lF,jG,jV,bX])
 |false=>
 cases x3:an (dC (a,b) (c,d) (a',b')) 0 with
 |false=>
  simp only[go_sem,seval,bO,bf,aZ,aW,aY,evc,oq,DB,e2,p,l2,o,l,j,f,g,t,q,x0,x1,x2,x3];refine aaC f z n2 B A D ?_ ?_ l2 o l j fun e lc h=>y e lc ?_;simp only[sN,seval,e2];simp only[sN,seval,p];rw[h];simp only[qU,qY,x0,x1,x2,x3,jH,lF,jG,jV,gA,dL,cT,cF]
 |true=>
 cases x4:an (dC (a,b) (c,d) (c',d')) 0 with
 |true=>
  simp only[go_sem,seval,bO,bf,aZ,aW,aY,evc,oq,DB,e2,p,l2,o,l,j,f,g,t,q,C,x0,x1,x2,x3,x4];exact y _ _ (by simp only[sN,seval,qU,qY,x0,x1,x2,x3,x4,jH,lF,jG,jV,bX])
 |false=>
  simp only[go_sem,seval,bO,bf,aZ,aW,aY,evc,oq,DB,e2,p,l2,o,l,j,f,g,t,q,x0,x1,x2,x3,x4];refine aaC f z n2 B A D ?_ ?_ l2 o l j fun e lc h=>y e lc ?_;simp only[sN,seval,e2];simp only[sN,seval,p];rw[h];simp only[qU,qY,x0,x1,x2,x3,x4,jH,lF,jG,jV,gA,dL,cT,cF]
set_option maxRecDepth 8000 in
set_option maxHeartbeats 2000000 in
def asV(o:sp 225=none)(l:sp 311=some sl)(j:sp 312=some Bu)(g:sp 313=some t0)(f:sp 314=some zd){u v:bK}(z:bg u.1=true)(n2:bg u.2=true)(y:bg v.1=true)(t:bg v.2=true)(A:s.gE<=s.aL):aq (QS sp) 225 [bO u,bO v] s (bF (jj u v)) s:=by
 have D:=atk z n2 y t;have q:=R4 z n2;have p:=R4 y t;obtain⟨⟨a,b⟩,c,d⟩:=u;obtain⟨⟨a',b'⟩,c',d'⟩:=v;have C:=R5 a b c d;have B:=R5 a' b' c' d';unfold jj;generalize gz ((a,b),(c,d))=S at*;generalize gz ((a',b'),(c',d'))=T at*;obtain⟨⟨O,M⟩,I,F⟩:=S;obtain⟨⟨N,J⟩,H,E⟩:=T;refine aq.ofW IG.1 IG.2 IG.3 IG.4 o rfl ?_;rw[apo];refine W.seq (WF.sound ?_);simp only[go_sem,seval,bO];refine W.seq (WF.sound ?_);simp only[go_sem,seval,bO,bf,aZ,aW,aY,evc,l,D];refine W.seq (WF.sound ?_);simp only[go_sem,seval,bO,A,j,C,B];refine asS g f (a:=O) (b:=M) (c:=I) (d:=F) (a':=N) (b':=J) (c':=H) (d':=E) q.1 q.2 p.1 p.2 A (g2:=1) (g3:=1) ?_ ?_ ?_ ?_ ?_ ?_ ?_
 case refine_7=>exact fun e lc h=>⟨rfl,.inr rfl,h⟩
 all_goals simp only[aV,nY,ai,bH]
end
def kX:Sp
 | [u,v]=>(uG u).bind fun a=>(uG v).bind fun b=>bif bg a.1&&(bg a.2&&(bg b.1&&bg b.2)) then some (bF (jj a b)) else none
 |_=>none
def Qb{a b:bK}(f:bg a.1=true)(n2:bg a.2=true)(d:bg b.1=true)(c:bg b.2=true):kX [bO a,bO b]=some (bF (jj a b)):=by
 simp only[dX,kX,Hn,f,n2,d,c,bX]
def TP:df:=[(311,sl),(312,Bu),(313,t0),(314,zd)]
def afr:dl TP:=.cons Qw (.cons adJ (.cons abR (.cons auk .nil)))
def Qc:cL ah 225 kX:=by
 refine qa afr fun d u h=>?_;unfold kX at h;split at h;simp only[ak] at h;obtain⟨a,j,b,g,h⟩:=h;obtain⟨c,h⟩:=bc h;simp only[bq] at c;have h:=sI h;subst h;rw[An j,An g];exact⟨rfl,_,_,asV (sp:=fun f=>gg f TP) rfl rfl rfl rfl rfl c.1 c.2.1 c.2.2.1 c.2.2.2 (bj _),rfl,⟨1,rfl⟩⟩;cases h
end Go.Proofs.YtnnppcoplinajaaGreat
namespace Go.Proofs.YtnnppcoplinajaaGreat
open Go.Ag
open Go.Sort (putRow grow Holds SWO HoldsK putRowK flatK get_flatK size_flatK)
noncomputable def EO(G:Gh)(h:aD aJ):Gh:= {at_:=fun _=>none,ro:=fun b o=>(nZ G h b o).bind (AE h),dim:=fun _=>none }
variable{G:Gh}{h:aD aJ}
theorem W5{b o:Nat}{u c:aa}(e:nZ G h b o=some u)(f:fU h u c):(EO G h).ro b o=some c:=by
 show(nZ G h b o).bind (AE h)=_;rw[e];exact WJ f
variable{w:World}
theorem ahK(wr:WR G h w){b o:Nat}{u:aa}(e:nZ G h b o=some u):b<w.heap.size/\u.scal=true/\ ∃x,w.cell? ⟨b,o,none⟩=some x/\VR G u x:=by
 rcases Hu e with e|⟨n,a,cs,i,d,c,rfl,rfl,g⟩
 obtain⟨d,x,c,f⟩:=wr.ro b o u e;exact⟨World.block_lt_of_cell? w ⟨b,o,none⟩ c,d,x,c,f⟩;obtain⟨z,y,q,C,t,p,l,j⟩:=wr.obj n _ d
 grind [oL]
theorem azE{W:World}(wr:WR G h w){c:Nat}(j: ∀b o u,nZ G h b o=some u->b≠c)(p: ∀b,b<w.heap.size->b≠c->W.heap[b]? =w.heap[b]?):WR (EO G h) .nil W:=by
 refine⟨fun _ _ e=>(by cases e),fun _ _ _ _ e=>absurd rfl e,fun b o v e=>?_,fun _ _ _ _ _ e=>(by cases e),fun _ _ e=>(by cases e),fun _ _ e=>(by cases e)⟩;simp only[EO,ak] at e;obtain⟨u,g,f⟩:=e;obtain⟨z,y,x,t,q⟩:=ahK wr g;have d:=WK f;obtain⟨k,l⟩:=d
 grind [HW,World.cell?_of_block,thaw,W5]
variable{α:Type}
theorem axI[Inhabited α](enc:α->List Value)(k:Nat)(w:World)(c off m:Nat)(f:Array α)(os:Array Go.Obj)(b:Nat)(g:b<w.heap.size)(d:b≠c):(sortWorldK enc k w c off m f os).heap[b]? =w.heap[b]? :=by
 grind [sortWorldK,putRowK,Go.Sort.heap_grow_old,putRow,Go.Sort.mapBlock,Sort.ahead]
theorem aiu[Inhabited α]{g:Nat}{sp:Sp}(z:cL ah g sp)(M: ∀d w,(callFunc g d).run ah w= .ok (.enter g d) w){G2:Gh}{enc:α->List Value}{encA:α->aa}(B: ∀x,VR G2 (encA x) (.agg (enc x).toArray)){D:α->α->Int}(A: ∀x y,sp [encA x,encA y]=some (.int .i64 (D x y)))(k j off size:Nat)(w:World)(t: ∀m l p,WR G2 .nil (sortWorldK enc k w j off m p l)):CmpLays ah g #[] enc k D j off size w:=by
 intro m l p _ x y;have t:=t m l p;generalize sortWorldK enc k w j off m p l=W at*;have I:=z _ _ (A x y) G2 .nil W [.agg (enc x).toArray,.agg (enc y).toArray] t (.cons (B x) (.cons (B y) .nil));rcases I with⟨N,c,C,_⟩|⟨_,J⟩
 rw[M] at C;cases C;refine J.mono ?_;rintro e c ⟨v,rfl,P,_,q,E⟩;cases E;refine⟨rfl,c.drawn-W.drawn,c.heap.extract W.heap.size c.heap.size,?_⟩;have o:=q.quiet;have F:=q.size;have f:c.heap=W.heap++c.heap.extract W.heap.size c.heap.size:=by
  apply Array.ext_getElem?;intro i;by_cases hi:i<W.heap.size;rw[Array.getElem?_append_left hi];exact q.keep i hi fun H=>by
   obtain⟨n,a,h,_⟩:=H;exact h rfl
  grind
 have O:=o.2.2.2.2.2;refine aeL f o.2.2.2.2.1 ?_ o.1 o.2.1;show c.drawn=W.drawn+(c.drawn-W.drawn);omega
def ot{k:Nat}: ∀ {rows:List aa},(∀v∈rows,v.cells.length=k)->(aG rows).length=rows.length*k
 | [],_=>by simp[aG]
 |v::l,h=>by
  have:=ot (rows:=l) fun x c=>h x (iw _ c);rw[aG,de,this,h v fE,cX,qo];omega
theorem RE{k:Nat}(c:0<k): ∀ {rows:List aa},(∀v∈rows,v.cells.length=k)-> ∀t,(aG rows)[t]? =(rows[t / k]?).bind fun v=>v.cells[t % k]?
 | [],_,t=>by simp[aG]
 |v::l,h,t=>by
  have g:=h v fE;have d:=RE c (rows:=l) fun x f=>h x (iw _ f);rw[aG];by_cases ht:t<k
  grind [Nat.div_eq_of_lt,D9]
  rw[List.getElem?_append_right (by omega),g,d];have o:t / k=(t-k) / k+1:=by
   rw[<-Nat.add_div_right _ c];congr 1;omega
  have j:t % k=(t-k) % k:=by
   rw[<-Nat.add_mod_right (t-k) k];congr 1;omega
  rw[o,j,mg]
variable{i k:Nat}
theorem ac2{rows:List aa}(h: ∀v∈rows,v.cells.length=k){v:aa}(c:rows[i]? =some v):cut (aG rows) (i*k) k=some v.cells:=by
 induction rows generalizing i with
 |nil=>simp at c
 |cons x l d=>
  have g:=h x fE;cases i with
  |zero=>
   grind [cut,aG,ja]
  |succ i=>
   rw[mg] at c
   have:=d (fun y f=>h y (iw _ f)) c;rw[<-this];simp only[cut,aG];have:(x.cells++aG l).drop ((i+1)*k)=(aG l).drop (i*k):=by
    rw[show(i+1)*k=x.cells.length+i*k by rw[g,qo];omega,<-vO,List.drop_left]
   rw[this]
theorem zr{rows:List aa}(h: ∀v∈rows,v.cells.length=k)(q:i<rows.length){x:aa}(o:x.cells.length=k):eR (aG rows) (i*k) x.cells=some (aG (rows.set i x)):=by
 induction rows generalizing i with
 |nil=>simp at q
 |cons v l t=>
  have f:=h v fE;have p:=ot (rows:=l) fun y j=>h y (iw _ j);have c:(v.cells++aG l).length=(l.length+1)*k:=by rw[de,f,p,qo];omega
  cases i with
  |zero=>
   have g:bu (0*k+k) ((l.length+1)*k)=true:=cN (by rw[qo];omega);have d:(v.cells++aG l).drop k=aG l:=by rw[<-f,List.drop_left]
   rw[Nat.zero_mul,eM] at g;simp only[go_sem,aG,c,o,g,List.set_cons_zero,Nat.zero_mul,d]
  |succ i=>
   have i1 : i < l.length := by simpa using q
   have t := t (fun y j => h y (iw _ j)) i1
   have h1 : i * k + k ≤ l.length * k := by rw [<-qo]; exact vW k i1
   have b0 : bu ((i + 1) * k + k) ((l.length + 1) * k) = true := cN (by rw [qo, qo]; omega)
   have b1 : bu (i * k + k) (l.length * k) = true := cN h1
   simp only [eR, o, p, b1, cond_true, Option.some.injEq] at t
   simp only [eR, aG, c, o, b0, cond_true, List.set_cons_succ, <-t]
   have e1 : (v.cells ++ aG l).take ((i + 1) * k) = v.cells ++ (aG l).take (i * k) := by
     rw [show (i + 1) * k = v.cells.length + i * k by rw [f, qo]; omega, List.take_length_add_append]
   have e2 : (v.cells ++ aG l).drop ((i + 1) * k + k) = (aG l).drop (i * k + k) := by
     rw [show (i + 1) * k + k = v.cells.length + (i * k + k) by rw [f, qo]; omega, <-vO, List.drop_left]
   rw [e1, e2, List.append_assoc]
def xh(c:Nat->Nat->Int)(n:Nat):List (Fin n):=(xL n).mergeSort fun i j=> !(ltOf fun x y:Fin n=>c x y) j i
def zD(c:Nat->Nat->Int)(rows:List aa):List aa:=(xh c rows.length).map fun i=>rows[i]
def QX(c:Nat->Nat->Int)(n:Nat):(xh c n).Perm (xL n):=List.mergeSort_perm _ _
def adG(c:Nat->Nat->Int)(rows:List aa):(zD c rows).Perm rows:=by
 have h:=(QX c rows.length).map fun i=>rows[i];have e:(xL rows.length).map (fun i=>rows[i])=rows:=by
  refine List.ext_getElem (by simp) fun i f d=>?_;simp
 rwa [e] at h
theorem aev{G:Gh}: ∀ {cs:List aa} {vs:List Value},cs.length=vs.length->(∀(i:Nat) v,cs[i]? =some v-> ∃x,vs[i]? =some x/\VR G v x)->bV G cs vs
 | [],[],_,_=>.nil
 | [],_::_,h,_=>by simp at h
 |_::_,[],h,_=>by simp at h
 |c::cs,v::vs,h,hv=>by
  obtain⟨x,d,g⟩:=hv 0 c rfl;have d:some v=some x:=d;injection d with d;subst d
  exact .cons g (aev (by simpa using h) fun i u f=>hv (i+1) u f)
theorem RY{f g:Nat}{ρ:Go.Shelf.Ren}(L:SlLaysF0.n6 ah ρ)(hf:ρ.f 6=f)(aE: ∀w,(isAgg (ρ.t 24)).run ah w= .ok true w)(zE: ∀w,(Go.sizeOf (ρ.t 24)).run ah w= .ok k w)(ef: ∀c w,(callFunc f c).run ah w= .ok (.enter f c) w)(eg: ∀c w,(callFunc g c).run ah w= .ok (.enter g c) w){sp:Sp}(b2:cL ah g sp)(wr:WR G h w){m lcap:Nat}{rows us:List aa}(hl:h.get m=some (.cells (aG rows)))(hk: ∀v∈rows,v.cells.length=k/\v= .agg v.cells)(q:0<k)(V:us.length=rows.length)(hu: ∀(i:Nat) v u,rows[i]? =some v->us[i]? =some u->fU (h.set m none) v u)(B:Nat->Nat->Int)(c2: ∀(i j:Nat) u u',us[i]? =some u->us[j]? =some u'->sp [u,u']=some (.int .i64 (B i j)))(hO:SWO (ltOf fun x y:Fin rows.length=>B x y))(hT: ∀x y:Fin rows.length,(ltOf fun x y:Fin rows.length=>B x y) x y=false->(ltOf fun x y:Fin rows.length=>B x y) y x=false->x=y)(c7:rows.length<=1000000){y:Value}(hy:VR G (.arr k m 0 rows.length lcap) y):
 mj ah f ⟨[y,.func (.func g) #[] #[]]⟩ w fun z S=> ∃H,WR H (h.set m (some (.cells (aG (zD B rows))))) S/\cO G h w H (h.set m (some (.cells (aG (zD B rows))))) S 0 0/\VR H (.tup []) z:=by
 subst hf;have I: ∀v∈rows,v.cells.length=k:=fun v hv=>(hk v hv).1;have c8: ∀v∈zD B rows,v.cells.length=k:=fun v hv=>I v ((adG B rows).mem_iff.1 hv);have b3:(zD B rows).length=rows.length:=(adG B rows).length_eq;obtain⟨a,b,b0,rfl,A,D,a9,c5,d,p,hd⟩:=L4 hy;obtain⟨b',J,_,C,e,hC,a0,c9⟩:=wr.obj m _ hl;rw[A] at J;injection J with J;subst J
 rw[a0] at p;injection p with p
 have c3:=wr.below m b A;obtain⟨val,a2⟩: ∃val:Nat->Nat->Value, ∀(i:Nat) v,rows[i]? =some v-> ∀(t:Nat) u,v.cells[t]? =some u->C[b.off+(i*k+t)]? =some (val i t)/\VR G u (val i t)/\u.scal=true:=by
  refine⟨fun i t=>(C[b.off+(i*k+t)]?).getD .nilFunc,fun i v N t u Y=>?_⟩;have a3:t<k:=by
   have:=(nR.1 Y).1;rwa [I v (List.mem_of_getElem? N)] at this
  have e:(aG rows)[i*k+t]? =some u:=by
   rw[RE q I];have e1:(i*k+t) / k=i:=by rw[Nat.add_comm,Nat.add_mul_div_right _ _ q,Nat.div_eq_of_lt a3,eM]
   have e2:(i*k+t) % k=t:=by rw[Nat.add_comm,Nat.add_mul_mod_self_right,D9 a3]
   rw[e1,e2,N];exact Y
  grind
 have M: ∀(i:Nat) v,rows[i]? =some v->bV G v.cells ((hZ k).map (val i)):=fun i v N=>by
  grind [aev]
 have E: ∀(i:Nat) v,rows[i]? =some v->dg v.cells=true:=fun i v N=>by
  grind [dg,List.getElem?_of_mem]
 have a8: ∀n T (F:Array (Fin rows.length)) (U:Inhabited (Fin rows.length)),F.toList.length=rows.length-> ∃H,WR H (h.set m (some (.cells (aG (F.toList.map fun i=>rows[i]))))) (sortWorldK (fun i:Fin rows.length=>(hZ k).map (val i)) k w b.block b.off n F T)/\
  cO G h w H (h.set m (some (.cells (aG (F.toList.map fun i=>rows[i]))))) (sortWorldK (fun i:Fin rows.length=>(hZ k).map (val i)) k w b.block b.off n F T) 0 0/\VR H (.tup []) (.tuple #[]):=fun n T F U c0=>by
  have c1: ∀v∈F.toList.map (fun i=>rows[i]),v.cells.length=k:=fun v hv=>by
   grind
  refine Ko wr hl A id (flatK (fun i:Fin rows.length=>(hZ k).map (val i)) k F) n T (fun C' e' l=>?_) (fun t v Y=>?_);rw[hC] at l;injection l with l;injection l with l _ _;subst l
  rw[size_flatK,<-Array.length_toList,c0,p]
  have:=vW k a9;omega;rw[RE q c1] at Y;simp only[ak,jo,Option.map_eq_some_iff] at Y;obtain⟨r,⟨i,N,rfl⟩,Y⟩:=Y;have b6:t / k<F.size:=by
   have:=(nR.1 N).1;simpa using this
  have c6:t<F.size*k:=by
   have:=Nat.div_add_mod t k
   have:=Nat.mod_lt t q;have h3:(t / k+1)*k<=F.size*k:=vW k b6;rw[qo] at h3
   have:=Nat.div_add_mod t k;rw[Nat.mul_comm] at this;omega
  grind [flatK]
 by_cases hn:rows.length=0;have b4:rows=[]:=vP hn;subst b4;refine .inr ⟨ef _ _,(AnyF.slices_SortFunc_none L (some a) b0 (.func (.func g) #[] #[]) w).mono ?_⟩;rintro e' S ⟨rfl,rfl⟩;obtain⟨H,g1,g2,g3⟩:=Ko (cs':=[]) wr hl A id (#[]:Array Value) 0 #[] (fun C' e' l=>by
  grind) (fun i v N=>by simp at N)
 have hw:grow (putRow id (Sort.ahead S 0) b.block b.off (#[]:Array Value)) #[]=S:=by
  rw[Go.Sort.grow_empty,Go.Sort.ahead_zero];exact Go.Sort.putRow_self id S b.block b.off _ (fun j hj=>by simp at hj)
 rw[hw] at g1 g2;rw[vP b3];exact⟨_,rfl,H,g1,g2,g3⟩
 haveI U:Inhabited (Fin rows.length):=⟨⟨0,by omega⟩⟩
 rcases c5 with h0|⟨P,O⟩
 exact absurd h0 hn;obtain⟨ab,ao,d0⟩:=a;simp only at P O D;subst P;subst O;subst D;have Z:(xL rows.length).toArray.size=rows.length:=by simp
 have hH:HoldsK (fun i:Fin rows.length=>(hZ k).map (val i)) k w b.block b.off (xL rows.length).toArray:=fun j hj=>by
  have a7:j<(xL rows.length).toArray.size*k:=by rw[size_flatK] at hj;exact hj
  refine⟨?_,by simp[World.frozen?,hC]⟩;have a6:j / k<rows.length:=by
   rw[Z] at a7;exact(Nat.div_lt_iff_lt_mul q).2 a7
  have b8:=Nat.mod_lt j q;have a5:=I _ (zS a6);obtain⟨h1,_,_⟩:=a2 (j / k) rows[j / k] (by simp[a6]) (j % k) (rows[j / k].cells[j % k]'(by omega)) (by simp[a5,b8]);have ej:j / k*k+j % k=j:=by rw[Nat.mul_comm];exact Nat.div_add_mod j k
  rw[ej] at h1
  grind [oL,get_flatK]
 have a1:WR G (h.set m none) w:=wr.killed m;have b5: ∀bb o u,nZ G (h.set m none) bb o=some u->bb≠b.block:=fun bb o u hc he=>by
  subst he;rcases Hu hc with hc|⟨n,a',cs,i,g1,g2,g3,_,_⟩
  have:=wr.apart m _ b o u hl A hc;cases this.1;by_cases hnm:n=m
  grind [aD.get_set]
  rw[aD.get_set,iN hnm] at g1;exact hnm (wr.sep n m a' b (by rw[g1];simp) (by rw[hl];simp) g2 A g3)
 have b1: ∀x:Fin rows.length,VR (EO G (h.set m none)) (us[x]'(by rw[V];exact x.2)) (.agg ((hZ k).map (val x)).toArray):=fun x=>by
  have hx:rows[x.1]? =some rows[x]:=by simp
  obtain⟨kk,b7⟩:=hu x rows[x] _ hx (gB (by rw[V];exact x.2));refine thaw (fun _ _ _ _=>W5) a1 kk (v:=rows[x]) ?_ b7;rw[(hk rows[x] (zS _)).2];exact .agg (E x _ hx) (M x _ hx)
 have hO:=AnyQ.slices_SortFunc_total L k aE zE (fun i:Fin rows.length=>(hZ k).map (val i)) (fun _=>by simp) (fun x v hv=>by
  have hx:rows[x.1]? =some rows[x]:=by simp
  exact(M x _ hx).ones (E x _ hx) v hv) (fun x y:Fin rows.length=>B x y) hO g #[] b.block b.off b0 (xL rows.length).toArray w eg
  (aiu b2 eg (G2:=EO G (h.set m none)) (encA:=fun x=>us[x]'(by rw[V];exact x.2)) b1 (fun x y=>c2 x y _ _ (gB _) (gB _)) k b.block b.off _ w
   (fun mm T dk=>azE a1 b5 fun bb c4 a4=>axI _ _ _ _ _ _ _ _ bb c4 a4)) hH c3 (by rw[Z];omega) hT
 rw[Z] at hO;refine .inr ⟨ef _ _,hO.mono ?_⟩;rintro e' S ⟨rfl,n,T,rfl⟩;obtain⟨H,g1,g2,g3⟩:=a8 n T (xh B rows.length).toArray U (by simpa using(QX B rows.length).length_eq)
 grind [xh,zD]
end Go.Proofs.YtnnppcoplinajaaGreat
namespace Go.Proofs.YtnnppcoplinajaaGreat
open Go.Ag
variable{Q:aF}[Std Q]
abbrev cP:=Int×bK
def jz(s:bK):Int:=min s.1.1 s.2.1
def u4(s:bK):Int:=max s.1.1 s.2.1
def qQ(s:bK):Int:=min s.1.2 s.2.2
def qM(s:bK):Int:=max s.1.2 s.2.2
def iZ(x:cP):List aa:=[ag x.1,ag x.2.1.1,ag x.2.1.2,ag x.2.2.1,ag x.2.2.2,ag (jz x.2),ag (u4 x.2),ag (qQ x.2),ag (qM x.2)]
def cK(x:cP):aa:=.agg (iZ x)
abbrev Mt:=Int×Int×Int
def gu(m:Mt):aa:=.agg [ag m.1,ag m.2.1,ag m.2.2]
def Ba:Sp
 | [.int .i64 a,.int .i64 b]=>some (aN (min a b,max a b))
 |_=>none
variable{s:St}{x:cP}
section
variable{sp:gQ}
def at3(c:sp 303=none)(a b:Int)(s:St):aq (QS sp) 303 [ag a,ag b] s (aN (min a b,max a b)) s:=by
 refine aq.of4 IM.1 IM.2 IM.3 IM.4 c ?_;simp only[go_sem,seval,aN,rP,rN,bf,aZ,aW,aY,evc]
def agY(c:sp 308=none)(a b:Int×Int)(s:St):aq (QS sp) 308 [aN a,aN b] s (.bool (b9 a.1 b.2&&b9 b.1 a.2)) s:=by
 refine aq.of3 IQ.1 IQ.2 IQ.3 IQ.4 c rfl ?_;cases e1:b9 a.1 b.2 with
 |false=>simp only[go_sem,seval,aN,e1,dL]
 |true=>simp only[go_sem,seval,aN,e1,eC]
def ait(c:sp 305=none)(d:sp 232=some oN)(f:sp 108=some vp){y:cP}(l:IntKind.i64.wrap (x.1-y.1)=x.1-y.1)(o:s.gE<=s.aL):aq (QS sp) 305 [cK x,cK y] s (bF (lW [iW (jz x.2) (jz y.2),x.1-y.1])) s:=by
 have j:oN [ag (jz x.2),ag (jz y.2)]=some (ag (iW (jz x.2) (jz y.2))):=rfl;have g:vp [.list 1 [ag (iW (jz x.2) (jz y.2)),ag (x.1-y.1)] .GT]=some (ag (lW [iW (jz x.2) (jz y.2),x.1-y.1])):=rfl;refine aq.of3 IP.1 IP.2 IP.3 IP.4 c rfl ?_;simp only[go_sem,seval,cK,iZ,bF,o,d,f,j,g,l,bf,aZ,aW,aY,evc]
def aix(c:sp 310=none)(d:sp 108=some vp){x y:Mt}(j:IntKind.i64.wrap (x.1-y.1)=x.1-y.1)(f:IntKind.i64.wrap (x.2.1-y.2.1)=x.2.1-y.2.1)(s:St):aq (QS sp) 310 [gu x,gu y] s (bF (lW [x.1-y.1,x.2.1-y.2.1])) s:=by
 have g:vp [.list 1 [ag (x.1-y.1),ag (x.2.1-y.2.1)] .GT]=some (ag (lW [x.1-y.1,x.2.1-y.2.1])):=rfl;refine aq.of3 IR.1 IR.2 IR.3 IR.4 c rfl ?_;simp only[go_sem,seval,gu,bF,d,g,j,f,bf,aZ,aW,aY,evc]
end
variable{n:Nat}{a:cP}
def Wd(c:No Q 307)(d:s.get [] n=some (.cells (iZ a))):aq Q 307 [cK x,.ptr n 0] s (.bool (aX (u4 x.2) (jz a.2))) s:=by
 refine aq.ofNZ aqe (bP ?_);simp only[go_sem,seval,cK,iZ,d]
def FE(mk:aH)(n m o l c:Nat)(s:St):iM ah mk 363 (.arr n m o l c) s=some (ag l):=by kernel_rfl
variable{R:List cP}
def wK: ∀v∈R.map cK,v.cells.length=9:=fun v c=>by
 obtain⟨x,_,rfl⟩:=List.mem_map.1 c;rfl
variable{i m:Nat}
def Ib(h:s.get [] m=some (.cells (aG (R.map cK))))(c:R[i]? =some x):yO ah 368 (i*9) (s.get [] m)=some (cK x):=by
 rw[h,aQ,Kg,ac2 wK (by rw[jo,c];rfl)];rfl
def iL(a x:cP):Bool:=aX (u4 x.2) (jz a.2)
def tC(p:cP->Bool):List cP->Nat->Int
 | [],_=> -1
 |x::l,i=>bif p x then(i:Int) else tC p l (i+1)
variable{lc:Ag.Loc}{K:Ex->Fr->St->Prop}{lcap:Nat}
def anI(g:No Q 307){len:Nat}(O:R.length<=1000000)(E:len<=R.length)(N:s.get [] m=some (.cells (aG (R.map cK))))(M:s.get [] n=some (.cells (iZ a))){r:Int}(I: ∀e,r= -1->K (.exit 0) ⟨e,19,lc⟩ s)(J: ∀e,ac e 4=ag r->K .ret ⟨e,19,lc⟩ s):
 ∀(d c:List cP) (e:aw),R.take len=c++d->r=tC (iL a) d c.length->ac e 0= .arr 9 m 0 len lcap->ac e 1= .func (.func 307) [] [.ptr n 0]->ac e 7=aI len->ac e 8=aI c.length->W Q 418 (.loop Ja) ⟨e,19,lc⟩ s K:=by
 intro d;have F:(R.take len).length=len:=by rw[uv];omega
 induction d with
 |nil=>
  intro c e o t y p q l;have B:c.length=len:=by rw[<-F,o];simp
  refine bm ?_;simp only[go_sem,seval,Ja,y,p,q,l,B,cq];exact I _ t
 |cons x d H=>
  intro c e o t y p q l;have j:c.length<len:=by rw[<-F,o];simp
  have D:R[c.length]? =some x:=by
   have:(R.take len)[c.length]? =some x:=by rw[o];simp
   rwa [List.getElem?_take,iP j] at this
  have A:=Ib N D;have z:=da (n:=c.length) (by omega);have C:(cK x).ge=true:=rfl;refine bm ?_;simp only[go_sem,seval,Ja,y,p,q,l,j,A,C];refine co.of (Wd g M) (by decide) ?_;cases hd:iL a x with
  |true=>
   have f:aX (u4 x.2) (jz a.2)=true:=hd;simp only[go_sem,seval,f];exact J _ (by simp only[sN,seval,l,t,tC,hd])
  |false=>
   have f:aX (u4 x.2) (jz a.2)=false:=hd;simp only[go_sem,seval,f,l,z];refine H (c++[x]) _ (by rw[o];simp) (by rw[t];simp only[tC,hd,cF,sA]) ?_ ?_ ?_ ?_
   all_goals simp only[sN,seval,y,p,q,sA]
def anJ(f:No Q 418)(c:No Q 307){len:Nat}(g:R.length<=1000000)(d:len<=R.length)(o:s.get [] m=some (.cells (aG (R.map cK))))(l:s.get [] n=some (.cells (iZ a))):aq Q 418 [.arr 9 m 0 len lcap,.func (.func 307) [] [.ptr n 0]] s (bF (tC (iL a) (R.take len) 0)) s:=by
 refine aq.ofNZ Zt (bP ?_);simp only[go_sem,seval,FE];refine anI (lcap:=lcap) c g d o l (r:=tC (iL a) (R.take len) 0) ?_ ?_ (R.take len) [] _ rfl rfl (by simp only[sG,seval, *]) (by simp only[sG,seval, *]) (by simp only[sG,seval, *]) (by simp only[sN,seval];rfl);intro e j;simp only[go_sem,seval,j];rfl;intro e p;simp only[go_sem,seval,p];rfl
def ax0(l:List ae):aa:=gw 1 (l.map ax)
def tagsV(l:List fO):aa:=gw 2 (l.map kM)
def aAY:Sp
 | [v]=>(agy v).bind fun l=>bif bu l.length 100000 then some (ax0 (aeK l)) else none
 |_=>none
def aAk:Sp
 | [v,u]=>(jv v).bind fun a=>(jv u).bind fun b=>some (bF (aiy a b))
 |_=>none
def BW:Sp
 | [v,u]=>(x6 v).bind fun a=>(x6 u).bind fun b=>bif bu a.length 1000000 then some (.bool (mr a b)) else none
 |_=>none
def AM:Sp
 | [v,u]=>(x6 v).bind fun a=>(x6 u).bind fun b=>bif bu a.length 1000000&&bu b.length 1000000 then some (.bool (Cz a b)) else none
 |_=>none
variable{a b:List ae}{u v:aa}
section
variable{sp:gQ}
def agO(N:au 1 ax v a)(M:au 1 ax u b)(ha:a.length<=1000000)(Y:s.gE<=s.aL)(V: ∀e,ac e 0=v->ac e 1=u->mr a b=decide (a.length<b.length)->K (.exit 0) ⟨e,41,lc⟩ s)(hr: ∀e,ac e 4= .bool (mr a b)->K .ret ⟨e,41,lc⟩ s):
 ∀(p rb c d:List ae) (e:aw),a=c++p->b=d++rb->c.length=d.length->mr a b=mr p rb->ac e 0=v->ac e 1=u->ac e 5= .int .i64 (c.length:Nat)->W (QS sp) 82 (.loop FB) ⟨e,41,lc⟩ s K:=by
 have F:=N.ge;have S:=M.ge;have E:=fun I s=>N.lenS bT I s;have H:=fun I s=>M.lenS bT I s;intro p
 induction p with
 |nil=>
  intro rb c d e C t q A D f B;have z:a.length=c.length:=by rw[C];simp
  have g:b.length=c.length+rb.length:=by rw[t,q];simp
  refine W.loopF ?_;simp only[aR,ie,ai,aA,ofValue,pP,ET,FB,D,B,F,E,z,cq];refine V _ (by simp only[dc,ai, *]) (by simp only[dc,ai, *]) ?_;rw[A,z,g];cases rb with
  |nil=>simp[mr]
  |cons y rb=>simp[mr]
 |cons x p Z=>
  intro rb c d e C t q A D f B;have l:c.length<a.length:=by rw[C];simp
  have P:a[c.length]? =some x:=by rw[C];simp
  have U:=fun lc=>N.at bT.2.2.1 P lc .i64;cases rb with
  |nil=>
   have g:b.length=c.length:=by rw[t,q];simp
   refine W.loopF ?_;simp only[aR,ie,ai,aA,ofValue,pP,ET,FB,D,f,B,F,S,E,H,l,g,cq];refine V _ (by simp only[dc,ai, *]) (by simp only[dc,ai, *]) ?_;rw[A,g,dN (by omega)];rfl
  |cons y rb=>
   have j:c.length<b.length:=by rw[t,q];simp
   have O:b[c.length]? =some y:=by rw[t,q];simp
   have T:=fun lc=>M.at bT.2.2.1 O lc .i64;have J:=da (n:=c.length) (by omega);refine W.loopF ?_;cases hq:x==y with
   |false=>
    have o:mr a b=Op.bytesLess x y:=by rw[A];simp only[mr,hq,cF]
    simp only[aR,ie,isStore,List.take,List.drop,ai,aA,bH,dS,tD,dR,dP,ofValue,pP,gK,ET,ZQ,aru,FB,D,f,B,F,S,E,H,U,T,l,j,Y,ax,hq];exact hr _ (by simp only[iQ,ai,cT,o])
   |true=>
    have o:mr a b=mr p rb:=by rw[A];simp only[mr,hq,cT]
    simp only[aR,ie,isStore,List.take,List.drop,ai,aA,bH,dS,tD,dR,dP,ofValue,pP,gK,ET,ZQ,FB,D,f,B,F,S,E,H,U,T,l,j,Y,ax,hq,J];exact Z rb (c++[x]) (d++[y]) _ (by rw[C];simp) (by rw[t];simp) (by simp[q]) o (by simp only[dc,ai, *]) (by simp only[dc,ai, *]) (by simp only[aV,kS,ai])
def agP(g:sp 82=none)(f:au 1 ax v a)(d:au 1 ax u b)(q:a.length<=1000000)(p:s.gE<=s.aL):aq (QS sp) 82 [v,u] s (.bool (mr a b)) s:=by
 have B:=f.ge;have A:=d.ge;have l:=fun c s=>f.lenS bT c s;have j:=fun c s=>d.lenS bT c s;refine aq.of3 Jt.1 Jt.2 Jt.3 Jt.4 g rfl ?_;simp only[aR,ie,fP,fH,aA,bH,cz,ofValue,pP,PT];refine agO f d q p ?_ ?_ a b [] [] _ rfl rfl rfl rfl (by simp only[aV,ai, *]) (by simp only[aV,ai, *]) (by simp only[aV,ai, *];rfl);intro e z y o;simp only[aR,ie,ai,aA,reduceCtorEq,ET,z,y,B,A,l,j,o];intro e t;simp only[aT,Qy,Mr,reduceCtorEq,oT,eq_self,t]
end
def UW(j:au 1 ax v a)(g:au 1 ax u b)(d:bG v=true)(c:bG u=true)(f:a.length<=1000000):BW [v,u]=some (.bool (mr a b)):=by
 simp only[dX,BW,Hq j d,Hq g c,cN f]
def agM:cL ah 82 BW:=by
 refine qa dl.nil fun c u h=>?_;unfold BW at h;split at h;simp only[ak] at h;obtain⟨a,q,b,p,h⟩:=h;obtain⟨o,h⟩:=bc h;have h:=sI h;subst h;obtain⟨l,g⟩:=Hp q;obtain⟨j,d⟩:=Hp p;exact⟨by simp only[pures,g,d,bX],_,_,agP (sp:=fun f=>gg f []) rfl l j (fF o) (bj _),rfl,⟨1,rfl⟩⟩;cases h
def TF:df:=[(82,BW)]
def afh:dl TF:=.cons agM .nil
section
variable{sp:gQ}
def anE(j:sp 35=none)(c:sp 82=some BW)(g:au 1 ax v a)(f:au 1 ax u b)(o:bG v=true)(l:bG u=true)(z:a.length<=1000000)(y:b.length<=1000000)(s:St):aq (QS sp) 35 [v,u] s (.bool (Cz a b)) s:=by
 have q:=g.ge;have p:=f.ge;have d:=UW g f o l z;have t:=UW f g l o y;refine aq.of3 I8.1 I8.2 I8.3 I8.4 j rfl ?_;unfold Cz;cases e1:mr a b with
 |true=>
  rw[e1] at d;simp only[aR,ie,fP,fH,ai,aA,bH,cz,reduceCtorEq,ofValue,pP,Pq,q,p,c,d]
 |false=>
  rw[e1] at d;simp only[aR,ie,fP,fH,ai,aA,bH,cz,reduceCtorEq,ofValue,pP,Pq,q,p,c,d,t]
end
def anC:cL ah 35 AM:=by
 refine qa afh fun j u h=>?_;unfold AM at h;split at h;simp only[ak] at h;obtain⟨a,q,b,p,h⟩:=h;obtain⟨c,h⟩:=bc h;have h:=sI h;subst h;simp only[bq] at c;obtain⟨o,g⟩:=Hp q;obtain⟨l,d⟩:=Hp p;exact⟨by simp only[pures,g,d,bX],_,_,anE (sp:=fun f=>gg f TF) rfl rfl o l g d (fF c.1) (fF c.2) s0,rfl,⟨1,rfl⟩⟩;cases h
def aaP{env:aw}{x:Operand}{d:Nat}(h:ev env x=some (.int .i64 (n:Nat))):eV env (some x) d=some n:=by
 simp only[eV,h,bk];rfl
def axo(mk:aH)(m off len lcap:Nat)(lo c:Option Operand)(e:aw)(s:St):jd ah mk 363 (.arr 9 m off len lcap) lo c none e s=(eV e c len).bind fun h=>(eV e lo 0).bind fun l=>bif bu l h&&bu h len then some (.arr 9 m (off+l*9) (h-l) (lcap-l)) else none:=by
 have h:jd ah mk 363 (.arr 9 m off len lcap) lo c none e s=(eV e c len).bind fun h=>(eV e lo 0).bind fun l=>bif aK 9 9&&bu l h&&bu h len&&true then some (.arr 9 m (off+l*9) (h-l) (lcap-l)) else none:=by kernel_rfl
 rw[h];simp only[mY,Nat.beq_refl,eC]
def XS(h:s.get [] m=some (.cells (aG (R.map cK))))(c:i<R.length)(x:cP)(lc:Ag.Loc):KN lc s m (i*9) (cK x) (s.get [] m)=some (lc,s.put m (some (.cells (aG ((R.set i x).map cK))))):=by
 rw[h,cV,zr wK (by simpa using c) rfl];simp only[bk,List.map_set]
structure dr (m:Nat) (s s':St):Prop where
 old: ∀k,k≠m->s'.get [] k=s.get [] k
 aL:s'.aL=s.aL
 ci:s'.ci=s.ci
 mw:s'.gE<=s'.aL
def dr.refl(h:s.gE<=s.aL):dr m s s:=⟨fun _ _=>rfl,rfl,rfl,h⟩
theorem dr.put{s':St}(h:dr m s s')(o:Option aJ):dr m s (s'.put m o):=
 ⟨fun k c=>by rw[aU,bN.2 c];exact h.old k c,h.aL,h.ci,cU s' m o h.mw⟩
def dr.trans{s' c:St}(h:dr m s s')(k:dr m s' c):dr m s c:=⟨fun j d=>(k.old j d).trans (h.old j d),k.aL.trans h.aL,k.ci.trans h.ci,k.mw⟩
def BE:cP:=(0,((0,0),(0,0)))
def aeP(n:Nat):aW [ag 0,ag 0,ag 0,ag 0,ag 0,ag 0,ag 0,ag 0,ag 0] n=aG ((gD n BE).map cK):=by
 induction n with
 |zero=>rfl
 |succ n c=>rw[aW,c,List.replicate_succ,List.map_cons,aG];rfl
def awy(h:i+n<=R.length):eR (aG (R.map cK)) (i*9) (aG ((gD n BE).map cK))=some (aG ((R.take i++(gD n BE++R.drop (i+n))).map cK)):=by
 have o:R=R.take i++((R.drop i).take n++R.drop (i+n)):=by
  rw[<-vO,zV,zV]
 have j:(aG ((R.take i).map cK)).length=i*9:=by
  rw[ot wK];simp;omega
 have g:(aG (((R.drop i).take n).map cK)).length=n*9:=by
  rw[ot wK];simp;omega
 have f:(aG ((gD n BE).map cK)).length=n*9:=by
  rw[ot wK];simp
 have d:(aG (R.map cK)).length=R.length*9:=by rw[ot wK];simp
 have c:bu (i*9+n*9) (R.length*9)=true:=cN (by omega);have l:aG (R.map cK)=aG ((R.take i).map cK)++(aG (((R.drop i).take n).map cK)++aG ((R.drop (i+n)).map cK)):=by
  conv=>lhs;rw[o]
  rw[eK,qK,eK,qK]
 unfold eR;rw[f,d,c,l];simp only[cT,Option.some.injEq,eK,qK];rw[S6 (by omega),sU (by omega)];congr 2;rw[<-j,<-vO,List.drop_left,<-g,List.drop_left]
structure Del (R:List cP) (m k:Nat) (K:List cP) (s s':St):Prop where
 but:dr m s s'
 row: ∃R':List cP,R'.length=R.length/\R'.take k=K/\s'.get [] m=some (.cells (aG (R'.map cK)))
def aq.ofWE{Q:aF}{f:FuncId}{fn:Func}{j:SC}{t:Tmp}{args:List aa}{R:aa->St->Prop}(q:Q.P.funcs[f]? =some fn)(y:fn.body.map dY=some j)(p:fn.ntmps=n)(o:fn.results.toList=[.tmp t])(g:Q.spec f=none)(h:W Q f j (fP n args) s fun x c d=>(x= .normal\/x= .ret)/\(ac c.env t).ge=true/\R (ac c.env t) d)(A:Q.specH f=none:=by rfl)(z:Q.specW f=none:=by rfl): ∃v l,aq Q f args s v l/\R v l:=by
 obtain⟨x,c,d,E,D,C,B⟩:=h;exact⟨_,d,aq.of2 q y p o g ⟨x,c,d,E,rfl,D,dD rfl C⟩ A z,B⟩
def WZ(p:cP->Bool): ∀(l:List cP) (k:Nat),(tC p l k= -1/\l.filter (fun x=> !p x)=l)\/ ∃c x d,l=c++x::d/\c.filter (fun x=> !p x)=c/\p x=true/\tC p l k=((k+c.length:Nat):Int)
 | [],k=>.inl ⟨rfl,rfl⟩
 |x::l,k=>by
  cases h:p x with
  |true=>exact .inr ⟨[],x,l,rfl,rfl,h,by simp[tC,h]⟩
  |false=>
   rcases WZ p l (k+1) with⟨g,f⟩|⟨c,y,d,g,f,o,j⟩
   exact .inl ⟨by simp[tC,h,g],by rw[List.filter_cons,h,f];rfl⟩;refine .inr ⟨x::c,y,d,by rw[g];rfl,by rw[List.filter_cons,h,f];rfl,o,?_⟩;simp only[tC,h,cF,j,cX];omega
def aih{c:Nat}(l:s.get [] m=some (.cells (aG (R.map cK))))(h:i+n<=R.length)(d:s.gE<=s.aL): ∃g,(∀f,jg ah [] .clear [363] f [.arr 9 m (i*9) n c] s=some (.tup [],g))/\dr m s g/\ ∃R':List cP,R'.length=R.length/\R'.take i=R.take i/\g.get [] m=some (.cells (aG (R'.map cK))):=by
 have p: ∀f,jg ah [] .clear [363] f [.arr 9 m (i*9) n c] s=bif aK n 0 then some (.tup [],s) else(s.get [] m).bind fun o=>match o with
  | .cells cs=>(eR cs (i*9) (aW [ag 0,ag 0,ag 0,ag 0,ag 0,ag 0,ag 0,ag 0,ag 0] n)).bind fun j=>some (.tup [],s.put m (some (.cells j)))
  |_=>none:=by
  intro f;have u:ah.underlying 363=some (.slice 368):=by kernel_rfl
  simp only[jg,u,bk,uJ,sH,lO];cases aK n 0 with
  |true=>rfl
  |false=>
   simp only[fc,cF];cases s.get [] m with
   |none=>rfl
   |some o=>
    cases o with
    |cells cs=>
     simp only[bk];cases eR cs (i*9) _<;>rfl
    |_=>rfl
 simp only[p];cases hn:aK n 0 with
 |true=>exact⟨s,fun _=>rfl,.refl d,R,rfl,rfl,l⟩
 |false=>
  rw[l];simp only[cF,bk,aeP,awy h];refine⟨_,fun _=>rfl,(dr.refl d).put _,_,?_,?_,by rw[aU,bS];rfl⟩;simp only[de,uv,List.length_replicate,List.length_drop];omega;rw[S6 (by rw[uv];omega),sU (by rw[uv];omega)]
variable{a:cP}
def aiY(g:No Q 307){len:Nat}{s0:St}(I:n≠m)(hs:R.length<=1000000)(U:len<=R.length)(Z:s0.get [] n=some (.cells (iZ a)))(V: ∀e lc s (i:Nat) (R':List cP),ac e 0= .arr 9 m 0 len lcap->ac e 5=aI i->dr m s0 s->R'.length=R.length->s.get [] m=some (.cells (aG (R'.map cK)))->i<=len->R'.take i=(R.take len).filter (fun x=> !iL a x)->K (.exit 0) ⟨e,42,lc⟩ s):
 ∀(r j i:Nat) (R':List cP) (e:aw) (lc:Ag.Loc) (s:St),r+j=len->i<j->R'.length=R.length->R'.take i=(R.take j).filter (fun x=> !iL a x)->R'.drop j=R.drop j->dr m s0 s->s.get [] m=some (.cells (aG (R'.map cK)))->
  ac e 0= .arr 9 m 0 len lcap->ac e 1= .func (.func 307) [] [.ptr n 0]->ac e 5=aI i->ac e 6=aI j->W Q 306 (.loop Pd) ⟨e,42,lc⟩ s K:=by
 intro r
 induction r with
 |zero=>
  intro j i R' e lc s Y N C D E A q d F f B;have hj:j=len:=by omega
  subst hj;refine bm ?_;simp only[go_sem,seval,Pd,FE,d,f,B,cq];exact V _ _ _ i R' (by simp only[sN,seval,d]) (by simp only[sN,seval,f]) A C q (by omega) D
 |succ r T=>
  intro j i R' e lc s Y N C D E A q d F f B;have J:j<len:=by omega
  have y:j<R.length:=by omega
  have S:R'[j]? =some R[j]:=by
   have:(R'.drop j)[0]? =(R.drop j)[0]? :=by rw[E]
   simpa[y] using this
  have t:=Ib q S;have l:=da (n:=j) (by omega);have H:=da (n:=i) (by omega);have a0:(cK R[j]).ge=true:=rfl;have M:i<len:=by omega
  have p:=XS q (i:=i) (by omega) R[j];have o:(R.take (j+1)).filter (fun x=> !iL a x)=(R.take j).filter (fun x=> !iL a x)++(if !iL a R[j] then [R[j]] else []):=by
   rw[S7 y,BH];cases hq:iL a R[j]<;>simp[hq]
  have P: ∀x,(R'.set i x).drop (j+1)=R.drop (j+1):=fun x=>by
   rw[List.drop_set_of_lt (by omega),<-vO,E,vO]
  have z:R'.drop (j+1)=R.drop (j+1):=by rw[<-vO,E,vO]
  have O:s.get [] n=some (.cells (iZ a)):=(A.old n I).trans Z;simp only[cK,iZ] at t p;refine bm ?_;simp only[go_sem,seval,Pd,FE,d,F,f,B,J,t];refine co.of (Wd (x:=R[j]) g O) (by decide) ?_;cases hd':aX (u4 R[j].2) (jz a.2) with
  |true=>
   have c:iL a R[j]=true:=hd';simp only[go_sem,seval,B,l];refine T (j+1) i R' _ _ s (by omega) (by omega) C (by rw[o,c];simpa using D) z A q ?_ ?_ ?_ ?_
   all_goals simp only[sN,seval,d,F,f]
  |false=>
   have c:iL a R[j]=false:=hd';simp only[go_sem,seval,cS,d,f,B,l,H,M,p];refine T (j+1) (i+1) (R'.set i R[j]) _ _ _ (by omega) (by omega) (by simpa using C) ?_ (P _) (A.put _) (by rw[aU,bS];rfl) ?_ ?_ ?_ ?_;rw[o,c];have:(R'.set i R[j]).take (i+1)=R'.take i++[R[j]]:=by
    rw[S7 (by rw[List.length_set];omega),List.take_set_of_le (bj _),List.getElem_set_self]
   rw[this,D];rfl
   all_goals simp only[sN,seval,d,F]
def ai0(l:No Q 306)(p:No Q 418)(j:No Q 307){len:Nat}(C:n≠m)(O:R.length<=1000000)(o:len<=R.length)(E:s.get [] m=some (.cells (aG (R.map cK))))(S:s.get [] n=some (.cells (iZ a)))(t:s.gE<=s.aL):
 ∃v M,aq Q 306 [.arr 9 m 0 len lcap,.func (.func 307) [] [.ptr n 0]] s v M/\(v= .arr 9 m 0 ((R.take len).filter fun x=> !iL a x).length lcap/\Del R m ((R.take len).filter fun x=> !iL a x).length ((R.take len).filter fun x=> !iL a x) s M):=by
 have y:(R.take len).length=len:=by rw[uv];omega
 refine aq.ofWE (by rw[Std.P];exact Fo.1) Fo.2 Fo.3 Fo.4 l.s ?_ (Std.H 306) l.w;refine bP ?_;simp only[go_sem,seval];refine co.of (anJ (lcap:=lcap) p j O o E S) (by decide) ?_;rcases WZ (iL a) (R.take len) 0 with⟨z,J⟩|⟨f,x,N,z,J,e3,e4⟩
 rw[z];simp only[go_sem,seval,bF];rw[J,y];exact⟨rfl,.refl t,R,rfl,rfl,E⟩
 ·rw[e4,eM]
  have a0:f.length<len:=by rw[<-y,z];simp
  have B:an ((f.length:Nat):Int) (-1)=false:=by simp[an]
  have A:=da (n:=f.length) (by omega);have q:R.take f.length=f:=by
   have:(R.take len).take f.length=f:=by rw[z,List.take_left]
   rwa [List.take_take,Nat.min_eq_left (by omega)] at this
  have hx:R.take (f.length+1)=f++[x]:=by
   have:(R.take len).take (f.length+1)=f++[x]:=by rw[z,List.take_length_add_append];rfl
   rwa [List.take_take,Nat.min_eq_left (by omega)] at this
  simp only[go_sem,seval,bF,B,A];refine aiY (lcap:=lcap) j C O o S ?_ (len-(f.length+1)) (f.length+1) f.length R _ _ s (by omega) (by omega) rfl (by rw[q,hx,BH,J];simp[e3]) rfl (.refl t) E ?_ ?_ ?_ ?_;intro e lc s1 i R' h0 h5 U hl D I T;obtain⟨s2,q1,q2,R2,Z,Y,V⟩:=aih (c:=lcap-i) D (i:=i) (n:=len-i) (by omega) U.mw;have F:i=((R.take len).filter fun x=> !iL a x).length:=by rw[<-T,uv];omega
  have n1: ∀g,ac g 37=aI i->eV g (some (.tmp 37)) 0=some i:=fun g h=>aaP (by rw[dA,h]);have n2: ∀g,ac g 40=aI i->eV g (some (.tmp 40)) len=some i:=fun g h=>aaP (by rw[dA,h]);have n3: ∀g d,eV g none d=some d:=fun _ _=>rfl;simp only[go_sem,seval,h0,h5,axo,n1,n2,n3,bj,Nat.zero_le,I,q1,Nat.zero_mul,Nat.sub_zero];rw[<-F];exact⟨rfl,U.trans q2,R2,by rw[Z,hl],by rw[Y,T],V⟩
  all_goals simp only[sN,seval]
