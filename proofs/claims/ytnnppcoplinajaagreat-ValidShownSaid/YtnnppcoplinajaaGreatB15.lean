/- Lemmas for ValidShown. -/
import Derived.Test.YtnnppcoplinajaaGreatB14
import Derived.ProofKit
set_option linter.all false
open Bool renaming and_self→bX
open List renaming all_cons→kx,drop_succ_cons→zR,drop_zero→pn,getElem?_cons_succ→mg,getElem?_cons_zero→kz,getElem?_map→jo,getElem?_of_mem→uu,mem_map→cw,take_succ_cons→zW,take_zero→zX
open List.cons renaming injEq→nQ
open Nat renaming eq_zero_or_pos→G5,le_trans→eL
open Option renaming bind_eq_some_iff→ak,bind_some→bk,map_some→jZ
open Option.some renaming injEq→aM
open Go.Proofs.Tryz renaming prog→ah
namespace Go.Proofs.YtnnppcoplinajaaGreat
open Go.Ag
def Kw:Value->Option aa
 | .bool b=>some (.bool b)
 | .int k n=>some (.int k n)
 | .string s=>some (.str s.data.toList)
 | .slice none 0 0=>some .Ge
 |_=>none
variable{x:Value}{v:aa}
def awX{G:Gh}(h:Kw x=some v):v.scal=true/\VR G v x:=by
 unfold Kw at h;split at h;injection h with h;subst h;exact⟨rfl,.bool _⟩
 injection h with h;subst h;exact⟨rfl,.int _ _⟩
 injection h with h;subst h;exact⟨rfl,.str _⟩
 injection h with h;subst h;exact⟨rfl,.Ge⟩
 cases h
def mt(W:World)(b o:Nat):Option aa:=(W.cell? ⟨b,o,none⟩).bind Kw
open Classical in
noncomputable def pick(P:aa->Prop):Option aa:=if h: ∃v,P v then some (Classical.choose h) else none
variable{P:aa->Prop}
theorem Re(h:pick P=some v):P v:=by
 unfold pick at h;split at h
 all_goals grind
theorem Rc(h:P v): ∃u,pick P=some u/\P u:=by
 have e: ∃v,P v:=⟨v,h⟩
 grind [pick]
def td(W:World)(x:Value)(v:aa):Prop:= ∃(a:Addr) (len c:Nat) (b:List ae),x= .slice (some a) len c/\v= .list 1 (b.map ax) .no/\(c=0\/a.spot=none)/\b.length=len/\len<=c/\len<small/\(∀s∈b,s.length<small)/\
 ∀(i:Nat) (s:ae),b[i]? =some s->W.cell? ⟨a.block,a.off+i,none⟩=some (.string ⟨⟨s⟩⟩)
def Af(W:World)(x:Value)(v:aa):Prop:= ∃(a:Addr) (len b:Nat) (c:List fO),x= .slice (some a) len b/\v= .list 2 (c.map kM) .no/\(b=0\/a.spot=none)/\c.length=len/\len<=b/\len<small/\(∀t∈c,t.1.length<small/\t.2.length<small)/\
 ∀(i:Nat) (t:fO),c[i]? =some t->W.cell? ⟨a.block,a.off+(i*2+0),none⟩=some (.string ⟨⟨t.1⟩⟩)/\W.cell? ⟨a.block,a.off+(i*2+1),none⟩=some (.string ⟨⟨t.2⟩⟩)
noncomputable def DG(W:World)(b o:Nat):Option aa:=
 (W.cell? ⟨b,o,none⟩).bind fun x=>match W.cell? ⟨b,o-1,none⟩ with
  |some (.int _ _)=>pick (td W x)
  |some (.slice _ _ _)=>pick (Af W x)
  |some (.string _)=>pick (td W x)
  |_=>none
noncomputable def jx(W:World):Gh where
 at_ _:=none
 dim _:=none
 ro b o:=(mt W b o).or (DG W b o)
theorem AI{W:World}{b o:Nat}{s:ae}(h:W.cell? ⟨b,o,none⟩=some (.string ⟨⟨s⟩⟩)):(jx W).ro b o=some (.str s):=by
 show(mt W b o).or _=_;have:mt W b o=some (.str s):=by
  simp only[mt,h,bk];rfl
 rw[this];rfl
def RA{W:World}(h:td W x v):VR (jx W) v x:=by
 obtain⟨d,len,m,b,rfl,rfl,g,l,k,_,_,f⟩:=h;rw[<-l] at k ⊢;have j:(b.map ax).length=b.length:=by simp
 rw[<-j];refine .list g Nat.one_pos ?_ (by rw[j];exact k) ?_ trivial;intro y c;obtain⟨s,_,rfl⟩:=cw.1 c;rfl;intro i y c;rw[AD,jo] at c;cases e:b[i]? with
 |none=>rw[e] at c;cases c
 |some s=>
  rw[e] at c;simp only[jZ,aM] at c;subst c;exact AI (f i s e)
theorem aa5: ∀ {l:List aa} {i:Nat} {v:aa},l[i]? =some v->nF l i=v
 | [],_,_,h=>by simp at h
 |_::_,0,_,h=>by simpa[nF] using h
 |_::l,i+1,v,h=>aa5 (l:=l) (i:=i) (by simpa using h)
variable{i:Nat}
theorem HR{sz:Nat}{xs:List aa}(b: ∀x∈xs,x.cells.length=sz){y:aa}(h:(aG xs)[i]? =some y): ∃v,xs[i / sz]? =some v/\v.cells[i % sz]? =some y/\i=i / sz*sz+i % sz:=by
 grind [oc,Nat.div_lt_iff_lt_mul,Nat.mod_lt,Nat.div_add_mod,WA,aa5]
theorem ayt{W:World}(h:Af W x v):VR (jx W) v x:=by
 obtain⟨d,len,o,c,rfl,rfl,g,m,l,_,_,j⟩:=h;rw[<-m] at l ⊢;have k:(c.map kM).length=c.length:=by simp
 have b: ∀y∈c.map kM,y.cells.length=2:=by
  intro y f;obtain⟨s,_,rfl⟩:=cw.1 f;rfl
 rw[<-k];refine .list g (Nat.succ_pos 1) b (by rw[k];exact l) ?_ trivial;intro i y f;obtain⟨u,t,q,p⟩:=HR b f
 grind [kM,aa.cells,AI]
def ald(W:World):WR (jx W) .nil W where
 obj m o h:=by cases h
 sep m k x y h:=absurd rfl h
 ro b o v h:=by
  have h:(mt W b o).or (DG W b o)=some v:=h;cases e:mt W b o with
  |some u=>
   rw[e] at h;simp only[Option.some_or,aM] at h;subst h;unfold mt at e;rw[ak] at e;obtain⟨x,c,h2⟩:=e;obtain⟨h3,h4⟩:=awX (G:=jx W) h2;exact⟨h3,x,c,h4⟩
  |none=>
   rw[e] at h;simp only[Option.none_or] at h;unfold DG at h;rw[ak] at h;obtain⟨x,c,h2⟩:=h;split at h2;have h2:=Re h2;have hs:v.scal=true:=by obtain⟨_,_,_,_,_,rfl,_⟩:=h2;rfl
   exact⟨hs,x,c,RA h2⟩;have h2:=Re h2;have hs:v.scal=true:=by obtain⟨_,_,_,_,_,rfl,_⟩:=h2;rfl
   exact⟨hs,x,c,ayt h2⟩;have h2:=Re h2;have hs:v.scal=true:=by obtain⟨_,_,_,_,_,rfl,_⟩:=h2;rfl
   exact⟨hs,x,c,RA h2⟩;cases h2
 apart m ob x i v h:=by cases h
 dim b d h:=by cases h
 below m x h:=by cases h
variable{a:Addr}{ps:List MemPlace}{fuel n:Nat}{α:Type}{e:TypeId}{u:aa}
section
variable{H:Type}{enc:TypeId×Value->H}{W:World}{held:Bool}
theorem DU:ah.underlying 3=some (.int .i64):=by kernel_rfl
def Ht:ah.cellsOf 9=1:=by kernel_rfl
theorem B0:ah.cellsOf 3=1:=by kernel_rfl
def Mw:ah.cellsOf 25=1:=by kernel_rfl
def ahh:ah.cellsOf 50=1:=by kernel_rfl
def Vk:ah.cellsOf 49=2:=by kernel_rfl
def Hs:ah.cellsOf 92=2:=by kernel_rfl
def Mx:ah.cellsOf 52=6:=by kernel_rfl
def Vj:ah.cellsOf 24=1:=by kernel_rfl
def Vi:ah.cellsOf 22=1:=by kernel_rfl
def DV:ah.underlying 9=some .string:=by kernel_rfl
def ayU:ah.underlying 50=some (.slice 92):=by kernel_rfl
def ayP:ah.underlying 22=some (.slice 52):=by kernel_rfl
theorem R7{v:Value}(h:W.cell? a=some v):a.spot=none:=by
 unfold World.cell? at h;split at h
 all_goals simp_all
theorem Ut(h:a.spot=none)(i:Nat):a.add i=⟨a.block,a.off+i,none⟩:=by
 obtain⟨b,o,sp⟩:=a
 grind [pB]
theorem FJ(h:n<=maxLen):n<small:=by
 grind [maxLen,small]
def DP{s:ByteArray}(h:s.size<=maxLen):s.data.toList.length<small:=by
 simp_all [FJ]
def arM{l:List α}(h:l.length=1): ∃a,l=[a]:=by
 match l,h with
 | [a],_=>exact⟨a,rfl⟩
def Z7{l:List α}(h:l.length=2): ∃a b,l=[a,b]:=by
 match l,h with
 | [a,b],_=>exact⟨a,b,rfl⟩
def arN{l:List α}(h:l.length=5): ∃a b c d e,l=[a,b,c,d,e]:=by
 match l,h with
 | [a,b,c,d,e],_=>exact⟨a,b,c,d,e,rfl⟩
def PY{l:List α}(h:l.length=6): ∃a b c d e f,l=[a,b,c,d,e,f]:=by
 match l,h with
 | [a,b,c,d,e,f],_=>exact⟨a,b,c,d,e,f,rfl⟩
theorem QR{cs:List Value}{x:DataW H×List MemPlace}(h:DataW.trod enc ah W 0 (fun _=>true) held fuel 25 cs=some x): ∃v,cs=[v]/\(v= .slice none 0 0\/ ∃u,td W v u):=by
 rcases Go.ChangeShapes.open_strings ayQ DV Ht h with⟨rfl,_⟩|⟨a,len,f,g,rfl,_,m,t,k,_,c,j⟩
 exact⟨_,rfl,.inl rfl⟩;simp only[if_true] at k;refine⟨_,rfl,.inr ⟨_,a,len,f,(g.take len).map (fun s=>s.data.toList),rfl,rfl,?_,?_,m,FJ (eL m t),?_,?_⟩⟩;rcases G5 f with o|o
 exact .inl o;refine .inr (R7 (W:=W) (v:=.string (g.getD 0 ByteArray.empty)) ?_)
 have:=c 0 (by omega);exact this
 grind
 intro s q;obtain⟨b,w,rfl⟩:=cw.1 q
 have:=j b (List.mem_of_mem_take w);exact DP this;intro i s d;rw[jo] at d;cases e:(g.take len)[i]? with
 |none=>rw[e] at d;cases d
 |some b=>
  rw[e] at d;simp only[jZ,aM] at d;subst d;rw[List.getElem?_take] at e;split at e;have l:=(List.getElem?_eq_some_iff.1 e).1;have y:=c i l;have p:a.spot=none:=R7 (W:=W) (v:=.string (g.getD 0 ByteArray.empty)) (c 0 (by omega))
  simp_all [Ut]
  cases e
def aei{cs:List Value}{x:DataW H×List MemPlace}(h:DataW.trod enc ah W 0 (fun _=>true) held fuel 92 cs=some x): ∃k v:ae,cs=[.string ⟨⟨k⟩⟩,.string ⟨⟨v⟩⟩]/\k.length<small/\v.length<small:=by
 obtain⟨p,o,n,_,c,f,d⟩:=Go.ChangeShapes.trod_struct2 Tryz.underlying92 h;rw[Hs] at c;obtain⟨a,b,rfl⟩:=Z7 c;rw[Ht] at f d;obtain⟨s,j,_,l⟩:=DataW.trod_string DV f;obtain⟨r,g,_,m⟩:=DataW.trod_string DV d;simp only[pn,zW,zX,nQ,aT] at j;simp only[zR,pn,zW,zX,nQ,aT] at g;subst j;subst g;exact⟨s.data.toList,r.data.toList,rfl,DP l,DP m⟩
theorem ayK{cs:List Value}{x:DataW H×List MemPlace}(h:DataW.trod enc ah W 0 (fun _=>true) held fuel 49 cs=some x): ∃k v:Int,cs=[.int .i64 k,.int .i64 v]:=by
 obtain⟨f,d,n,_,c,j,g⟩:=Go.ChangeShapes.trod_struct2 Tryz.underlying49 h;rw[Vk] at c;obtain⟨a,b,rfl⟩:=Z7 c
 grind [B0,DataW.trod_int,DU]
theorem FD{α:Type}{P:Nat->α->Prop}: ∀(n:Nat),(∀i,i<n-> ∃o,P i o)-> ∃l:List α,l.length=n/\ ∀(i:Nat) o,l[i]? =some o->P i o
 |0,_=>⟨[],rfl,fun i o h=>by simp at h⟩
 |n+1,h=>by
  obtain⟨l,b,g⟩:=FD n fun i f=>h i (by omega);obtain⟨o,d⟩:=h n (by omega);refine⟨l++[o],by simp[b],fun i p c=>?_⟩
  grind
theorem HI{c:Nat}{b:List (DataW H×List MemPlace)}(k:ah.cellsOf e=c)(g:i<b.length)(f:a.spot=none)(h:(W.cells? 0 (a.add (i*ah.cellsOf e)) (ah.cellsOf e)).bind (DataW.trod enc ah W 0 (fun _=>true) held n e)=b[i]?):
 ∃cs y,DataW.trod enc ah W 0 (fun _=>true) held n e cs=some y/\cs.length=c/\ ∀j,j<c->W.cell? ⟨a.block,a.off+(i*c+j),none⟩=cs[j]? :=by
 rw[k,List.getElem?_eq_getElem g,ak] at h;obtain⟨cs,l,o⟩:=h;obtain⟨_,m,d⟩:=World.cells?_some l
 grind [Ut]
theorem KD{len cap:Nat}{b c:List (DataW H×List MemPlace)}(f:0<ah.cellsOf e)(l:b.length=len)(p:len<=cap)(t: ∀i,i<len->(W.cells? 0 (a.add (i*ah.cellsOf e)) (ah.cellsOf e)).bind (DataW.trod enc ah W 0 (fun _=>true) held n e)=b[i]?)(g:c.length=cap-len/\ ∀j,j<cap-len->(W.cells? 0 (a.add ((len+j)*ah.cellsOf e)) (ah.cellsOf e)).bind (DataW.trod enc ah W 0 (fun _=>true) held n e)=c[j]?):cap=0\/a.spot=none:=by
 rcases G5 cap with m|m
 exact .inl m;refine .inr ?_;have q: ∀o:Option (DataW H×List MemPlace),o.isSome=true->(W.cells? 0 (a.add (0*ah.cellsOf e)) (ah.cellsOf e)).bind (DataW.trod enc ah W 0 (fun _=>true) held n e)=o->a.spot=none:=by
  intro o s h;cases o with
  |none=>cases s
  |some y=>
   rw[ak] at h;obtain⟨cs,k,_⟩:=h;obtain⟨_,z,d⟩:=World.cells?_some k
   have:=d 0 f;rw[Nat.zero_mul] at this;have w:(a.add 0).add 0=a:=rfl
   grind [R7]
 rcases G5 len with k|k
 have:=g.2 0 (by omega)
 grind
 grind
def au9{cs:List Value}{x:DataW H×List MemPlace}(h:DataW.trod enc ah W 0 (fun _=>true) held fuel 50 cs=some x): ∃v,cs=[v]/\(v= .slice none 0 0\/ ∃u,Af W v u):=by
 rcases DataW.trod_slice ayU h with⟨rfl,_⟩|⟨a,len,m,l,p,n,_,rfl,_,_,j,D,c,f,g,_⟩
 exact⟨_,rfl,.inl rfl⟩;have b:=KD (by rw[Hs];omega) c j f (g rfl);obtain⟨w,z,o⟩:=FD (P:=fun i (t:fO)=>(t.1.length<small/\t.2.length<small)/\W.cell? ⟨a.block,a.off+(i*2+0),none⟩=some (.string ⟨⟨t.1⟩⟩)/\W.cell? ⟨a.block,a.off+(i*2+1),none⟩=some (.string ⟨⟨t.2⟩⟩)) len fun i d=>by
  have C:a.spot=none:=by
   rcases b with s|s
   omega;exact s
  obtain⟨cs,y,A,F,q⟩:=HI Hs (by omega) C (f i d);obtain⟨k,v,rfl,E⟩:=aei A;exact⟨(k,v),E,q 0 (by omega),q 1 (by omega)⟩
 refine⟨_,rfl,.inr ⟨_,a,len,m,w,rfl,rfl,b,z,j,FJ (eL j D),?_,fun i t d=>(o i t d).2⟩⟩;intro t B;obtain⟨i,d⟩:=uu B;exact(o i t d).1
def au6{cs:List Value}{x:DataW H×List MemPlace}(h:DataW.trod enc ah W 0 (fun _=>true) held fuel 52 cs=some x):
 ∃(id:ae) (k p o:Int) (rv m:Value),cs=[.string ⟨⟨id⟩⟩,.int .i64 k,.int .i64 p,.int .i64 o,rv,m]/\id.length<small/\(rv= .slice none 0 0\/ ∃u,td W rv u)/\(m= .slice none 0 0\/ ∃u,Af W m u):=by
 obtain⟨N,n,_,_,q,g,j⟩:=DataW.trod_struct Tryz.underlying52 h;rw[Mx] at q;obtain⟨a,b,c,d,e,f,rfl⟩:=PY q;obtain⟨M,K,J,I,G,rfl⟩:=arN (l:=N) g;have A:DataW.trod enc ah W 0 (fun _=>true) held n 9 (([a,b,c,d,e,f].drop 0).take (ah.cellsOf 9))=some M:=j 0 _ rfl;have z:DataW.trod enc ah W 0 (fun _=>true) held n 3 (([a,b,c,d,e,f].drop 1).take (ah.cellsOf 3))=some K:=j 1 _ rfl;have y:DataW.trod enc ah W 0 (fun _=>true) held n 49 (([a,b,c,d,e,f].drop 2).take (ah.cellsOf 49))=some J:=j 2 _ rfl;have w:DataW.trod enc ah W 0 (fun _=>true) held n 25 (([a,b,c,d,e,f].drop 4).take (ah.cellsOf 25))=some I:=j 3 _ rfl;have t:DataW.trod enc ah W 0 (fun _=>true) held n 50 (([a,b,c,d,e,f].drop 5).take (ah.cellsOf 50))=some G:=j 4 _ rfl;rw[Ht] at A;rw[B0] at z;rw[Vk] at y;rw[Mw] at w;rw[ahh] at t;obtain⟨s,F,_,Q⟩:=DataW.trod_string DV A;obtain⟨k,E,_,_⟩:=DataW.trod_int DU z;obtain⟨p,o,D⟩:=ayK y;obtain⟨rv,C,R⟩:=QR w;obtain⟨m,B,O⟩:=au9 t;simp only[pn,zR,zW,zX,nQ,aT] at F E D C B;obtain⟨rfl,rfl⟩:=D;subst F;subst E;subst C;subst B;exact⟨s.data.toList,k,p,o,_,_,rfl,DP Q,R,O⟩
def RB(h:td W x v): ∃b:List ae,au 1 ax v b/\b.length<small/\(∀s∈b,s.length<small)/\bG v=true:=by
 obtain⟨_,_,_,b,_,rfl,_,d,_,f,c,_⟩:=h;refine⟨b,.inr ⟨_,rfl⟩,by omega,c,?_⟩;simp only[bG,vq rq b,bX]
def ayu(h:Af W x v): ∃b:List fO,au 2 kM v b/\b.length<small/\(∀t∈b,t.1.length<small/\t.2.length<small)/\bG v=true:=by
 obtain⟨_,_,_,b,_,rfl,_,d,_,f,c,_⟩:=h;refine⟨b,.inr ⟨_,rfl⟩,by omega,c,?_⟩;simp only[bG,vq Sq b,bX]
theorem uZ{b o:Nat}(h:W.cell? ⟨b,o,none⟩=some x)(c:Kw x=some v):(jx W).ro b o=some v:=by
 show(mt W b o).or _=_
 grind [mt]
theorem ala{k:IntKind}{z:Int}(g:W.cell? ⟨a.block,a.off+(i*6+3),none⟩=some (.int k z))(h:W.cell? ⟨a.block,a.off+(i*6+4),none⟩=some x)(b:td W x u): ∃v,(jx W).ro a.block (a.off+(i*6+4))=some v/\td W x v:=by
 obtain⟨v,j,c⟩:=Rc b;refine⟨v,?_,c⟩;show(mt W _ _).or _=_;have e:mt W a.block (a.off+(i*6+4))=none:=by
  obtain⟨d,len,f,_,rfl,_⟩:=b;simp only[mt,h,bk];rfl
 grind [DG]
theorem alb{y:Option Addr}{p q:Nat}(g:W.cell? ⟨a.block,a.off+(i*6+4),none⟩=some (.slice y p q))(h:W.cell? ⟨a.block,a.off+(i*6+5),none⟩=some x)(b:Af W x u): ∃v,(jx W).ro a.block (a.off+(i*6+5))=some v/\Af W x v:=by
 obtain⟨v,j,c⟩:=Rc b;refine⟨v,?_,c⟩;show(mt W _ _).or _=_;have e:mt W a.block (a.off+(i*6+5))=none:=by
  obtain⟨d,len,f,_,rfl,_⟩:=b;simp only[mt,h,bk];rfl
 grind [DG]
def abM{cs:List Value}{x:DataW H×List MemPlace}(h:DataW.trod enc ah W 0 (fun _=>true) held fuel 22 cs=some x):
 ∃(val:Value) (v:aa) (l:List Obj),cs=[val]/\VR (jx W) v val/\v.scal=true/\au 6 Obj.val v l/\(∀o∈l,o.AL)/\l.length<small/\(∀o∈l, ∀t∈o.uP,t.2.length<small)/\dy v=true:=by
 rcases DataW.trod_slice ayP h with⟨rfl,_⟩|⟨a,len,J,a0,a1,n,_,rfl,_,_,V,hm,F,I,S,_⟩
 refine⟨_,.Ge,[],rfl,.Ge,rfl,.inl ⟨rfl,rfl⟩,(fun o m=>by cases m),by decide,(fun o m=>by cases m),rfl⟩;have f:=KD (by rw[Mx];omega) F V I (S rfl);obtain⟨l,t1,M⟩:=FD (P:=fun i (o:Obj)=>(o.AL/\ ∀t∈o.uP,t.2.length<small)/\ ∀(j:Nat) v,o.cells[j]? =some v->(jx W).ro a.block (a.off+(i*6+j))=some v) len fun i G=>by
  have D:a.spot=none:=by
   rcases f with h0|h0
   omega;exact h0
  obtain⟨cs,y,q1,q2,w⟩:=HI Mx (by omega) D (I i G);obtain⟨id,k,px,py,rv,tv,rfl,hid,hr,B⟩:=au6 q1;have p0:=w 0 (by omega);have p1:=w 1 (by omega);have p2:=w 2 (by omega);have O:=w 3 (by omega);have K:=w 4 (by omega);have N:=w 5 (by omega);simp only[kz,mg] at p0 p1 p2 O K N;have R: ∃(v:aa) (b:List ae),(jx W).ro a.block (a.off+(i*6+4))=some v/\au 1 ax v b/\b.length<small/\(∀s∈b,s.length<small)/\bG v=true:=by
   rcases hr with rfl|⟨u,A⟩
   exact⟨.Ge,[],uZ K rfl,.inl ⟨rfl,rfl⟩,by decide,(fun s D=>by cases D),rfl⟩;obtain⟨v,g1,g2⟩:=ala O K A;obtain⟨b,Z⟩:=RB g2;exact⟨v,b,g1,Z⟩
  have U: ∃y p q,rv= .slice y p q:=by
   rcases hr with rfl|⟨u,A⟩
   exact⟨_,_,_,rfl⟩;obtain⟨d,len,J,_,rfl,_⟩:=A;exact⟨_,_,_,rfl⟩
  have T: ∃(v:aa) (g:List fO),(jx W).ro a.block (a.off+(i*6+5))=some v/\au 2 kM v g/\g.length<small/\(∀s∈g,s.1.length<small/\s.2.length<small)/\bG v=true:=by
   rcases B with rfl|⟨u,A⟩
   exact⟨.Ge,[],uZ N rfl,.inl ⟨rfl,rfl⟩,by decide,(fun s D=>by cases D),rfl⟩;obtain⟨y,p,q,rfl⟩:=U;obtain⟨v,g1,g2⟩:=alb K N A;obtain⟨g,Z⟩:=ayu g2;exact⟨v,g,g1,Z⟩
  obtain⟨rV,b,r1,r2,r3,r4,r5⟩:=R;obtain⟨tV,g,s1,s2,s3,s4,s5⟩:=T;refine⟨⟨id,k,px,py,rV,tV,b,g⟩,⟨⟨⟨r2,s2,hid,r3,r4,s3,fun t B=>(s4 t B).1⟩,r5,s5⟩,fun t B=>(s4 t B).2⟩,?_⟩;intro j v c
  match j,c with
  |0,c=>simp_all [Obj.cells,AI]
  |1,c=>simp only[Obj.cells,mg,kz,aM] at c;subst c;exact uZ p1 rfl
  |2,c=>simp only[Obj.cells,mg,kz,aM] at c;subst c;exact uZ p2 rfl
  |3,c=>simp only[Obj.cells,mg,kz,aM] at c;subst c;exact uZ O rfl
  |4,c=>simp_all [Obj.cells]
  |5,c=>simp_all [Obj.cells]
  |j+6,c=>simp[Obj.cells] at c
 have hg: ∀o∈l,o.AL:=fun o m=>by
  obtain⟨i,G⟩:=uu m;exact(M i o G).1.1
 have Y: ∀o∈l, ∀t∈o.uP,t.2.length<small:=fun o m=>by
  obtain⟨i,G⟩:=uu m;exact(M i o G).1.2
 refine⟨_,.list 6 (l.map Obj.val) .no,l,rfl,?_,rfl,.inr ⟨_,rfl⟩,hg,by rw[t1];exact FJ (eL V hm),Y,by simpa[dy] using Ke hg⟩;have E:(l.map Obj.val).length=len:=by simp[t1]
 have C: ∀y∈l.map Obj.val,y.cells.length=6:=by
  intro y Q;obtain⟨o,_,rfl⟩:=cw.1 Q;rfl
 have:VR (jx W) (.list 6 (l.map Obj.val) .no) (.slice (some a) (l.map Obj.val).length J):=by
  refine .list f (by omega) C (by rw[E];exact V) ?_ trivial;intro i y Q;obtain⟨u,z,h2,h3⟩:=HR C Q;rw[jo] at z;cases e:l[i / 6]? with
  |none=>rw[e] at z;cases z
  |some o=>
   rw[e] at z;simp only[jZ,aM] at z;subst z;rw[h3];exact(M _ o e).2 _ _ h2
 rw[E] at this;exact this
def ahe:ah.cellsOf 26=1:=by kernel_rfl
def ahf:ah.cellsOf 27=1:=by kernel_rfl
def ahg:ah.cellsOf 29=6:=by kernel_rfl
def c_4:ah.cellsOf 4=1:=by kernel_rfl
def My:ah.cellsOf 94=8:=by kernel_rfl
def ayR:ah.underlying 26=some (.slice 3):=by kernel_rfl
def ayS:ah.underlying 27=some (.slice 94):=by kernel_rfl
def ayT:ah.underlying 4=some .bool:=by kernel_rfl
def arP{l:List α}(h:l.length=8): ∃a b c d e f g k,l=[a,b,c,d,e,f,g,k]:=by
 match l,h with
 | [a,b,c,d,e,f,g,k],_=>exact⟨a,b,c,d,e,f,g,k,rfl⟩
def arO{l:List α}(h:l.length=7): ∃a b c d e f g,l=[a,b,c,d,e,f,g]:=by
 match l,h with
 | [a,b,c,d,e,f,g],_=>exact⟨a,b,c,d,e,f,g,rfl⟩
def abN{cs:List Value}{x:DataW H×List MemPlace}(h:DataW.trod enc ah W 0 (fun _=>true) held fuel 25 cs=some x):
 ∃(val:Value) (v:aa) (l:List ae),cs=[val]/\VR (jx W) v val/\v.scal=true/\au 1 ax v l/\l.length<small/\uX v=true:=by
 obtain⟨val,e,g⟩:=QR h;rcases g with rfl|⟨u,d⟩
 exact⟨_,.Ge,[],e,.Ge,rfl,.inl ⟨rfl,rfl⟩,by decide,rfl⟩;obtain⟨c,k,j,o,m⟩:=RB d;have f:=RA d;refine⟨_,u,c,e,f,?_,k,j,?_⟩;obtain⟨_,_,_,_,_,rfl,_⟩:=d;rfl;obtain⟨_,_,_,b,_,rfl,_⟩:=d;exact vq rq b
theorem au4{cs:List Value}{x:DataW H×List MemPlace}(h:DataW.trod enc ah W 0 (fun _=>true) held fuel 26 cs=some x):
 ∃(val:Value) (v:aa),cs=[val]/\VR (jx W) v val/\v.scal=true/\uX v=true:=by
 rcases DataW.trod_slice ayR h with⟨rfl,_⟩|⟨a,len,t,s,w,n,_,rfl,_,_,A,N,g,j,p,_⟩
 exact⟨_,.Ge,rfl,.Ge,rfl,rfl⟩;have b:=KD (by rw[B0];omega) g A j (p rfl);obtain⟨l,D,K⟩:=FD (P:=fun i (k:Int)=>(jx W).ro a.block (a.off+i)=some (.int .i64 k)) len fun i q=>by
  have G:a.spot=none:=by
   rcases b with C|C
   omega;exact C
  obtain⟨cs,y,F,M,E⟩:=HI B0 (by omega) G (j i q);obtain⟨k,J,_,_⟩:=DataW.trod_int DU F;subst J;have z:=E 0 (by omega);simp only[kz,Nat.mul_one,Nat.add_zero] at z;exact⟨k,uZ z rfl⟩
 have I: ∀k:Int,bG (aa.int .i64 k)=true:=fun _=>rfl;refine⟨_,.list 1 (l.map (aa.int .i64)) .no,rfl,?_,rfl,vq I l⟩;have f:(l.map (aa.int .i64)).length=len:=by simp[D]
 have d: ∀y∈l.map (aa.int .i64),y.cells.length=1:=by
  intro y m;obtain⟨o,_,rfl⟩:=cw.1 m;rfl
 have:VR (jx W) (.list 1 (l.map (aa.int .i64)) .no) (.slice (some a) (l.map (aa.int .i64)).length t):=by
  refine .list b (by omega) d (by rw[f];exact A) ?_ trivial;intro i y m;obtain⟨u,c,B,O⟩:=HR d m;rw[jo] at c;cases e:l[i / 1]? with
  |none=>rw[e] at c;cases c
  |some o=>
   rw[e] at c;simp only[jZ,aM] at c;subst c;have q:i % 1=0:=Nat.mod_one i;rw[q] at B;simp only[aa.cells,kz,aM] at B
   grind
 rw[f] at this;exact this
def au7{cs:List Value}{x:DataW H×List MemPlace}(h:DataW.trod enc ah W 0 (fun _=>true) held fuel 94 cs=some x):
 ∃(st:Bool) (O:ae) (k:Int) (t iv:ae) (op:Int) (key:ae) (o:Value),cs=[.bool st,.string ⟨⟨O⟩⟩,.int .i64 k,.string ⟨⟨t⟩⟩,.string ⟨⟨iv⟩⟩,.int .i64 op,.string ⟨⟨key⟩⟩,o]/\O.length<small/\t.length<small/\key.length<small/\(o= .slice none 0 0\/ ∃u,td W o u):=by
 obtain⟨Z,n,_,_,w,m,j⟩:=DataW.trod_struct Tryz.underlying94 h;rw[My] at w;obtain⟨a,b,c,d,e,f,g,k,rfl⟩:=arP w;obtain⟨Y,V,U,T,S,R,Q,rfl⟩:=arO (l:=Z) m;have E:DataW.trod enc ah W 0 (fun _=>true) held n 4 (([a,b,c,d,e,f,g,k].drop 0).take (ah.cellsOf 4))=some Y:=j 0 _ rfl;have D:DataW.trod enc ah W 0 (fun _=>true) held n 9 (([a,b,c,d,e,f,g,k].drop 1).take (ah.cellsOf 9))=some V:=j 1 _ rfl;have C:DataW.trod enc ah W 0 (fun _=>true) held n 3 (([a,b,c,d,e,f,g,k].drop 2).take (ah.cellsOf 3))=some U:=j 2 _ rfl;have B:DataW.trod enc ah W 0 (fun _=>true) held n 92 (([a,b,c,d,e,f,g,k].drop 3).take (ah.cellsOf 92))=some T:=j 3 _ rfl;have A:DataW.trod enc ah W 0 (fun _=>true) held n 3 (([a,b,c,d,e,f,g,k].drop 5).take (ah.cellsOf 3))=some S:=j 4 _ rfl;have z:DataW.trod enc ah W 0 (fun _=>true) held n 9 (([a,b,c,d,e,f,g,k].drop 6).take (ah.cellsOf 9))=some R:=j 5 _ rfl;have y:DataW.trod enc ah W 0 (fun _=>true) held n 25 (([a,b,c,d,e,f,g,k].drop 7).take (ah.cellsOf 25))=some Q:=j 6 _ rfl;rw[c_4] at E;rw[Ht] at D z;rw[B0] at C A;rw[Hs] at B;rw[Mw] at y;obtain⟨b0,N,_⟩:=DataW.trod_bool ayT E;obtain⟨s1,M,_,q⟩:=DataW.trod_string DV D;obtain⟨k2,K,_,_⟩:=DataW.trod_int DU C;obtain⟨k3,v3,J,s,_⟩:=aei B;obtain⟨k4,I,_,_⟩:=DataW.trod_int DU A;obtain⟨s5,G,_,p⟩:=DataW.trod_string DV z;obtain⟨rv,F,hr⟩:=QR y;simp only[pn,zR,zW,zX,nQ,aT] at N M K J I G F;obtain⟨rfl,rfl⟩:=J;subst N;subst M;subst K;subst I;subst G;subst F;exact⟨b0,s1.data.toList,k2,k3,v3,k4,s5.data.toList,_,rfl,DP q,s,DP p,hr⟩
theorem alc{z:ByteArray}(g:W.cell? ⟨a.block,a.off+(i*8+6),none⟩=some (.string z))(h:W.cell? ⟨a.block,a.off+(i*8+7),none⟩=some x)(b:td W x u): ∃v,(jx W).ro a.block (a.off+(i*8+7))=some v/\td W x v:=by
 obtain⟨v,j,c⟩:=Rc b;refine⟨v,?_,c⟩;show(mt W _ _).or _=_;have e:mt W a.block (a.off+(i*8+7))=none:=by
  obtain⟨d,len,f,_,rfl,_⟩:=b;simp only[mt,h,bk];rfl
 grind [DG]
def au8{cs:List Value}{x:DataW H×List MemPlace}(h:DataW.trod enc ah W 0 (fun _=>true) held fuel 27 cs=some x):
 ∃(val:Value) (v:aa) (l:List aB),cs=[val]/\VR (jx W) v val/\v.scal=true/\au 8 aB.val v l/\(∀o∈l,o.OkS)/\l.length<small:=by
 rcases DataW.trod_slice ayS h with⟨rfl,_⟩|⟨a,len,K,J,O,n,_,rfl,_,_,E,hm,q,t,B,_⟩
 refine⟨_,.Ge,[],rfl,.Ge,rfl,.inl ⟨rfl,rfl⟩,(fun o D=>by cases D),by decide⟩;have d:=KD (by rw[My];omega) q E t (B rfl);obtain⟨l,N,M⟩:=FD (P:=fun i (o:aB)=>o.OkS/\ ∀(j:Nat) v,o.cells[j]? =some v->(jx W).ro a.block (a.off+(i*8+j))=some v) len fun i F=>by
  have C:a.spot=none:=by
   rcases d with V|V
   omega;exact V
  obtain⟨cs,y,q1,q2,f⟩:=HI My (by omega) C (t i F);obtain⟨Y,ar,k,ik,iv,op,z,rv,rfl,g,I,G,hr⟩:=au7 q1;have U:=f 0 (by omega);have p1:=f 1 (by omega);have T:=f 2 (by omega);have p3:=f 3 (by omega);have p4:=f 4 (by omega);have S:=f 5 (by omega);have Q:=f 6 (by omega);have w:=f 7 (by omega);simp only[kz,mg] at U p1 T p3 p4 S Q w;have R: ∃(v:aa) (b:List ae),(jx W).ro a.block (a.off+(i*8+7))=some v/\au 1 ax v b/\b.length<small/\(∀s∈b,s.length<small)/\bG v=true:=by
   rcases hr with rfl|⟨u,hu⟩
   exact⟨.Ge,[],uZ w rfl,.inl ⟨rfl,rfl⟩,by decide,(fun s C=>by cases C),rfl⟩;obtain⟨v,g1,g2⟩:=alc Q w hu;obtain⟨b,g3⟩:=RB g2;exact⟨v,b,g1,g3⟩
  obtain⟨Z,b,r1,r2,r3,r4,r5⟩:=R;refine⟨⟨Y,ar,k,ik,iv,op,z,Z,b⟩,⟨r2,r5,g,G,I,r3⟩,?_⟩;intro j v c
  match j,c with
  |0,c=>simp only[aB.cells,kz,aM] at c;subst c;exact uZ U rfl
  |1,c=>simp_all [aB.cells,AI]
  |2,c=>simp only[aB.cells,mg,kz,aM] at c;subst c;exact uZ T rfl
  |3,c=>simp_all [aB.cells,AI]
  |4,c=>simp_all [aB.cells,AI]
  |5,c=>simp only[aB.cells,mg,kz,aM] at c;subst c;exact uZ S rfl
  |6,c=>simp_all [aB.cells,AI]
  |7,c=>simp_all [aB.cells]
  |j+8,c=>simp[aB.cells] at c
 have hg: ∀o∈l,o.OkS:=fun o D=>by
  obtain⟨i,F⟩:=uu D;exact(M i o F).1
 refine⟨_,.list 8 (l.map aB.val) .no,l,rfl,?_,rfl,.inr ⟨_,rfl⟩,hg,by rw[N];exact FJ (eL E hm)⟩;have p:(l.map aB.val).length=len:=by simp[N]
 have m: ∀y∈l.map aB.val,y.cells.length=8:=by
  intro y A;obtain⟨o,_,rfl⟩:=cw.1 A;rfl
 have:VR (jx W) (.list 8 (l.map aB.val) .no) (.slice (some a) (l.map aB.val).length K):=by
  refine .list d (by omega) m (by rw[p];exact E) ?_ trivial;intro i y A;obtain⟨u,g,I,G⟩:=HR m A;rw[jo] at g;cases e:l[i / 8]? with
  |none=>rw[e] at g;cases g
  |some o=>
   rw[e] at g;simp only[jZ,aM] at g;subst g;rw[G];exact(M _ o e).2 _ _ I
 rw[p] at this;exact this
def au5{v:Value}{d:DataW H}(k: ∃cs,v= .agg cs)(h:DataW.Trod enc ah W 0 (fun _=>true) held 24 v d ps):
 ∃(x:aa) (l:List Obj),VR (jx W) (.agg [x]) v/\au 6 Obj.val x l/\(∀o∈l,o.AL)/\l.length<small/\(∀o∈l, ∀t∈o.uP,t.2.length<small):=by
 obtain⟨fuel,h⟩:=h;obtain⟨cs,rfl⟩:=k;obtain⟨A,n,_,f,j⟩:=Go.ChangeShapes.trod_struct1 Tryz.underlying24 h;rw[Vi] at j;have g:(Value.agg cs).cells.toList=cs.toList:=rfl;rw[g] at j f;rw[Vj] at f;obtain⟨val,x,l,e,y,b,w,s,q,p,_⟩:=abM j;have m:cs= #[val]:=by
  obtain⟨z⟩:=cs;obtain⟨c,rfl⟩:=arM (l:=z) f;simp only[pn,zW,zX,nQ,aT] at e;subst e;rfl
 subst m;refine⟨x,l,.agg ?_ (.cons y .nil),w,s,q,p⟩;simp only[dg,kx,b,List.all_nil,bX]
def ava{v:Value}{d:DataW H}(hv: ∃cs,v= .agg cs)(h:DataW.Trod enc ah W 0 (fun _=>true) held 29 v d ps):
 ∃(w0 w1 w2 w3 q rv:aa) (g:List ae) (rl:List aB),VR (jx W) (.agg [w0,w1,w2,w3,q,rv]) v/\mC w0 w1 w2 w3=true/\au 1 ax q g/\g.length<small/\au 8 aB.val rv rl/\(∀x∈rl,x.OkS)/\rl.length<small:=by
 obtain⟨fuel,h⟩:=h;obtain⟨cs,rfl⟩:=hv;obtain⟨V,n,_,_,m,k,j⟩:=DataW.trod_struct Tryz.underlying29 h;have p:(Value.agg cs).cells.toList=cs.toList:=rfl;rw[p] at m j;rw[ahg] at m;obtain⟨cl⟩:=cs;have m:cl.length=6:=m;obtain⟨a,b,c,d,e,f,rfl⟩:=PY m;obtain⟨U,T,S,R,Q,O,rfl⟩:=PY (l:=V) k;have o:DataW.trod enc ah W 0 (fun _=>true) held n 24 (([a,b,c,d,e,f].drop 0).take (ah.cellsOf 24))=some U:=j 0 _ rfl;have F:DataW.trod enc ah W 0 (fun _=>true) held n 25 (([a,b,c,d,e,f].drop 1).take (ah.cellsOf 25))=some T:=j 1 _ rfl;have E:DataW.trod enc ah W 0 (fun _=>true) held n 26 (([a,b,c,d,e,f].drop 2).take (ah.cellsOf 26))=some S:=j 2 _ rfl;have D:DataW.trod enc ah W 0 (fun _=>true) held n 3 (([a,b,c,d,e,f].drop 3).take (ah.cellsOf 3))=some R:=j 3 _ rfl;have C:DataW.trod enc ah W 0 (fun _=>true) held n 25 (([a,b,c,d,e,f].drop 4).take (ah.cellsOf 25))=some Q:=j 4 _ rfl;have B:DataW.trod enc ah W 0 (fun _=>true) held n 27 (([a,b,c,d,e,f].drop 5).take (ah.cellsOf 27))=some O:=j 5 _ rfl;rw[Vj] at o;rw[Mw] at F C;rw[ahe] at E;rw[B0] at D;rw[ahf] at B;obtain⟨z0,n0,_,a0,o⟩:=Go.ChangeShapes.trod_struct1 Tryz.underlying24 o;rw[Vi] at o;obtain⟨z,A,l0,N,r0,s0,i0,g0,_,_,_⟩:=abM o;obtain⟨y,v1,l1,M,r1,s1,i1,_,f1⟩:=abN F;obtain⟨w,v2,K,r2,s2,f2⟩:=au4 E;obtain⟨k3,J,_,_⟩:=DataW.trod_int DU D;obtain⟨t,Z,l4,I,r4,s4,i4,n4,_⟩:=abN C;obtain⟨s,Y,l5,G,r5,s5,i5,g5,n5⟩:=au8 B;simp only[pn,zR,zW,zX,nQ,aT] at N M K J I G;subst N;subst M;subst K;subst J;subst I;subst G;have f0:uX A=true:=by
  rcases i0 with⟨rfl,_⟩|⟨r,rfl⟩
  rfl;exact Ke g0
 refine⟨A,v1,v2,.int .i64 k3,Z,Y,l4,l5,.agg ?_ (.cons r0 (.cons r1 (.cons r2 (.cons (.int _ _) (.cons r4 (.cons r5 .nil)))))),?_,i4,n4,i5,g5,n5⟩;simp only[dg,kx,s0,s1,s2,s4,s5,List.all_nil,bX];rfl;simp only[mC,f0,f1,f2,Bool.true_and];rfl
end
