/- Lemmas for ValidApart. -/
import Derived.Test.YtnnppcoplinajaaGreatB14
import Derived.ProofKit
set_option linter.all false
open Bool renaming and_self→cw
open List renaming all_cons→ju,drop_succ_cons→oO,drop_zero→nz,getElem?_cons_succ→jO,getElem?_cons_zero→iw,getElem?_map→jf,getElem?_of_mem→we,mem_map→dy,take_succ_cons→lZ,take_zero→wg
open List.cons renaming injEq→mH
open Nat renaming eq_zero_or_pos→BD,le_trans→fA
open Option renaming bind_eq_some_iff→ak,bind_some→au,map_some→kn
open Option.some renaming injEq→aJ
open Go.Proofs.Tryz renaming prog→ae
namespace Go.Proofs.YtnnppcoplinajaaGreat
open Go.Ag
def Kw:Value->Option aa
 | .bool b=>some (.bool b)
 | .int k n=>some (.int k n)
 | .string s=>some (.str s.data.toList)
 | .slice none 0 0=>some .oZ
 |_=>none
variable{x:Value}{v:aa}
def aqq{G:Gh}(h:Kw x=some v):v.scal=true/\VR G v x:=by
 unfold Kw at h;split at h;injection h with h;subst h;exact⟨rfl,.bool _⟩
 injection h with h;subst h;exact⟨rfl,.int _ _⟩
 injection h with h;subst h;exact⟨rfl,.str _⟩
 injection h with h;subst h;exact⟨rfl,.oZ⟩
 cases h
def mp(W:World)(b o:Nat):Option aa:=(W.cell? ⟨b,o,none⟩).bind Kw
open Classical in
noncomputable def pick(P:aa->Prop):Option aa:=if h: ∃v,P v then some (Classical.choose h) else none
variable{P:aa->Prop}
theorem PE(h:pick P=some v):P v:=by
 unfold pick at h;split at h
 all_goals grind
theorem PD(h:P v): ∃u,pick P=some u/\P u:=by
 have e: ∃v,P v:=⟨v,h⟩
 grind [pick]
def sP(W:World)(x:Value)(v:aa):Prop:= ∃(a:Addr) (len c:Nat) (b:List ag),x= .slice (some a) len c/\v= .list 1 (b.map aG) .no/\(c=0\/a.spot=none)/\b.length=len/\len<=c/\len<small/\(∀s∈b,s.length<small)/\
 ∀(i:Nat) (s:ag),b[i]? =some s->W.cell? ⟨a.block,a.off+i,none⟩=some (.string ⟨⟨s⟩⟩)
def Ac(W:World)(x:Value)(v:aa):Prop:= ∃(a:Addr) (len b:Nat) (c:List fE),x= .slice (some a) len b/\v= .list 2 (c.map jd) .no/\(b=0\/a.spot=none)/\c.length=len/\len<=b/\len<small/\(∀t∈c,t.1.length<small/\t.2.length<small)/\
 ∀(i:Nat) (t:fE),c[i]? =some t->W.cell? ⟨a.block,a.off+(i*2+0),none⟩=some (.string ⟨⟨t.1⟩⟩)/\W.cell? ⟨a.block,a.off+(i*2+1),none⟩=some (.string ⟨⟨t.2⟩⟩)
noncomputable def Ds(W:World)(b o:Nat):Option aa:=
 (W.cell? ⟨b,o,none⟩).bind fun x=>match W.cell? ⟨b,o-1,none⟩ with
  |some (.int _ _)=>pick (sP W x)
  |some (.slice _ _ _)=>pick (Ac W x)
  |some (.string _)=>pick (sP W x)
  |_=>none
noncomputable def jV(W:World):Gh where
 at_ _:=none
 dim _:=none
 ro b o:=(mp W b o).or (Ds W b o)
theorem yJ{W:World}{b o:Nat}{s:ag}(h:W.cell? ⟨b,o,none⟩=some (.string ⟨⟨s⟩⟩)):(jV W).ro b o=some (.str s):=by
 show(mp W b o).or _=_;have:mp W b o=some (.str s):=by
  simp only[mp,h,au];rfl
 rw[this];rfl
def PR{W:World}(h:sP W x v):VR (jV W) v x:=by
 obtain⟨d,len,m,b,rfl,rfl,g,l,k,_,_,f⟩:=h;rw[<-l] at k ⊢;have j:(b.map aG).length=b.length:=by simp
 rw[<-j];refine .list g Nat.one_pos ?_ (by rw[j];exact k) ?_ trivial;intro y c;obtain⟨s,_,rfl⟩:=dy.1 c;rfl;intro i y c;rw[AA,jf] at c;cases e:b[i]? with
 |none=>rw[e] at c;cases c
 |some s=>
  rw[e] at c;simp only[kn,aJ] at c;subst c;exact yJ (f i s e)
theorem Yg: ∀ {l:List aa} {i:Nat} {v:aa},l[i]? =some v->nN l i=v
 | [],_,_,h=>by simp at h
 |_::_,0,_,h=>by simpa[nN] using h
 |_::l,i+1,v,h=>Yg (l:=l) (i:=i) (by simpa using h)
variable{i:Nat}
theorem HX{sz:Nat}{xs:List aa}(b: ∀x∈xs,x.cells.length=sz){y:aa}(h:(aF xs)[i]? =some y): ∃v,xs[i / sz]? =some v/\v.cells[i % sz]? =some y/\i=i / sz*sz+i % sz:=by
 grind [om,Nat.div_lt_iff_lt_mul,Nat.mod_lt,Nat.div_add_mod,UC,Yg]
theorem arD{W:World}(h:Ac W x v):VR (jV W) v x:=by
 obtain⟨d,len,o,j,rfl,rfl,f,m,l,_,_,g⟩:=h;rw[<-m] at l ⊢;have k:(j.map jd).length=j.length:=by simp
 have b: ∀y∈j.map jd,y.cells.length=2:=by
  intro y c;obtain⟨s,_,rfl⟩:=dy.1 c;rfl
 rw[<-k];refine .list f (Nat.succ_pos 1) b (by rw[k];exact l) ?_ trivial;intro i y c;obtain⟨u,t,q,p⟩:=HX b c
 grind [jd,aa.cells,yJ]
def agF(W:World):WR (jV W) .nil W where
 obj m o h:=by cases h
 sep m k x y h:=absurd rfl h
 ro b o v h:=by
  have h:(mp W b o).or (Ds W b o)=some v:=h;cases e:mp W b o with
  |some u=>
   rw[e] at h;simp only[Option.some_or,aJ] at h;subst h;unfold mp at e;rw[ak] at e;obtain⟨x,h1,h2⟩:=e;obtain⟨h3,h4⟩:=aqq (G:=jV W) h2;exact⟨h3,x,h1,h4⟩
  |none=>
   rw[e] at h;simp only[Option.none_or] at h;unfold Ds at h;rw[ak] at h;obtain⟨x,h1,h2⟩:=h;split at h2;have h2:=PE h2;have hs:v.scal=true:=by obtain⟨_,_,_,_,_,rfl,_⟩:=h2;rfl
   exact⟨hs,x,h1,PR h2⟩;have h2:=PE h2;have hs:v.scal=true:=by obtain⟨_,_,_,_,_,rfl,_⟩:=h2;rfl
   exact⟨hs,x,h1,arD h2⟩;have h2:=PE h2;have hs:v.scal=true:=by obtain⟨_,_,_,_,_,rfl,_⟩:=h2;rfl
   exact⟨hs,x,h1,PR h2⟩;cases h2
 apart m ob x i v h:=by cases h
 dim b d h:=by cases h
 below m x h:=by cases h
variable{a:Addr}{ps:List MemPlace}{fuel n:Nat}{α:Type}{e:TypeId}{u:aa}
section
variable{H:Type}{enc:TypeId×Value->H}{W:World}{held:Bool}
theorem Bp:ae.underlying 3=some (.int .i64):=by kernel_rfl
def HD:ae.cellsOf 9=1:=by kernel_rfl
theorem BW:ae.cellsOf 3=1:=by kernel_rfl
def L4:ae.cellsOf 25=1:=by kernel_rfl
def ady:ae.cellsOf 50=1:=by kernel_rfl
def SU:ae.cellsOf 49=2:=by kernel_rfl
def HC:ae.cellsOf 92=2:=by kernel_rfl
def L5:ae.cellsOf 52=6:=by kernel_rfl
def ST:ae.cellsOf 24=1:=by kernel_rfl
def SS:ae.cellsOf 22=1:=by kernel_rfl
def DF:ae.underlying 9=some .string:=by kernel_rfl
def ar5:ae.underlying 50=some (.slice 92):=by kernel_rfl
def ar0:ae.underlying 22=some (.slice 52):=by kernel_rfl
theorem Qn{v:Value}(h:W.cell? a=some v):a.spot=none:=by
 unfold World.cell? at h;split at h
 all_goals simp_all
theorem Sb(h:a.spot=none)(i:Nat):a.add i=⟨a.block,a.off+i,none⟩:=by
 obtain⟨b,o,sp⟩:=a
 grind [oX]
theorem FF(h:n<=maxLen):n<small:=by
 grind [maxLen,small]
def DA{s:ByteArray}(h:s.size<=maxLen):s.data.toList.length<small:=by
 simp_all [FF]
def alB{l:List α}(h:l.length=1): ∃a,l=[a]:=by
 match l,h with
 | [a],_=>exact⟨a,rfl⟩
def Xk{l:List α}(h:l.length=2): ∃a b,l=[a,b]:=by
 match l,h with
 | [a,b],_=>exact⟨a,b,rfl⟩
def alC{l:List α}(h:l.length=5): ∃a b c d e,l=[a,b,c,d,e]:=by
 match l,h with
 | [a,b,c,d,e],_=>exact⟨a,b,c,d,e,rfl⟩
def OE{l:List α}(h:l.length=6): ∃a b c d e f,l=[a,b,c,d,e,f]:=by
 match l,h with
 | [a,b,c,d,e,f],_=>exact⟨a,b,c,d,e,f,rfl⟩
theorem Pp{cs:List Value}{x:DataW H×List MemPlace}(h:DataW.trod enc ae W 0 (fun _=>true) held fuel 25 cs=some x): ∃v,cs=[v]/\(v= .slice none 0 0\/ ∃u,sP W v u):=by
 rcases Go.ChangeShapes.open_strings ar1 DF HD h with⟨rfl,_⟩|⟨a,len,f,g,rfl,_,m,t,k,_,c,j⟩
 exact⟨_,rfl,.inl rfl⟩;simp only[if_true] at k;refine⟨_,rfl,.inr ⟨_,a,len,f,(g.take len).map (fun s=>s.data.toList),rfl,rfl,?_,?_,m,FF (fA m t),?_,?_⟩⟩;rcases BD f with o|o
 exact .inl o;refine .inr (Qn (W:=W) (v:=.string (g.getD 0 ByteArray.empty)) ?_)
 have:=c 0 (by omega);exact this
 grind
 intro s q;obtain⟨b,w,rfl⟩:=dy.1 q
 have:=j b (List.mem_of_mem_take w);exact DA this;intro i s d;rw[jf] at d;cases e:(g.take len)[i]? with
 |none=>rw[e] at d;cases d
 |some b=>
  rw[e] at d;simp only[kn,aJ] at d;subst d;rw[List.getElem?_take] at e;split at e;have l:=(List.getElem?_eq_some_iff.1 e).1;have y:=c i l;have p:a.spot=none:=Qn (W:=W) (v:=.string (g.getD 0 ByteArray.empty)) (c 0 (by omega))
  simp_all [Sb]
  cases e
def aba{cs:List Value}{x:DataW H×List MemPlace}(h:DataW.trod enc ae W 0 (fun _=>true) held fuel 92 cs=some x): ∃k v:ag,cs=[.string ⟨⟨k⟩⟩,.string ⟨⟨v⟩⟩]/\k.length<small/\v.length<small:=by
 obtain⟨p,o,n,_,c,f,d⟩:=Go.ChangeShapes.trod_struct2 Tryz.underlying92 h;rw[HC] at c;obtain⟨a,b,rfl⟩:=Xk c;rw[HD] at f d;obtain⟨s,j,_,l⟩:=DataW.trod_string DF f;obtain⟨r,g,_,m⟩:=DataW.trod_string DF d;simp only[nz,lZ,wg,mH,aT] at j;simp only[oO,nz,lZ,wg,mH,aT] at g;subst j;subst g;exact⟨s.data.toList,r.data.toList,rfl,DA l,DA m⟩
theorem arV{cs:List Value}{x:DataW H×List MemPlace}(h:DataW.trod enc ae W 0 (fun _=>true) held fuel 49 cs=some x): ∃k v:Int,cs=[.int .i64 k,.int .i64 v]:=by
 obtain⟨f,d,n,_,c,j,g⟩:=Go.ChangeShapes.trod_struct2 Tryz.underlying49 h;rw[SU] at c;obtain⟨a,b,rfl⟩:=Xk c
 grind [BW,DataW.trod_int,Bp]
theorem Fz{α:Type}{P:Nat->α->Prop}: ∀(n:Nat),(∀i,i<n-> ∃o,P i o)-> ∃l:List α,l.length=n/\ ∀(i:Nat) o,l[i]? =some o->P i o
 |0,_=>⟨[],rfl,fun i o h=>by simp at h⟩
 |n+1,h=>by
  obtain⟨l,b,g⟩:=Fz n fun i f=>h i (by omega);obtain⟨o,d⟩:=h n (by omega);refine⟨l++[o],by simp[b],fun i p c=>?_⟩
  grind
theorem HS{c:Nat}{b:List (DataW H×List MemPlace)}(g:ae.cellsOf e=c)(hi:i<b.length)(f:a.spot=none)(h:(W.cells? 0 (a.add (i*ae.cellsOf e)) (ae.cellsOf e)).bind (DataW.trod enc ae W 0 (fun _=>true) held n e)=b[i]?):
 ∃cs y,DataW.trod enc ae W 0 (fun _=>true) held n e cs=some y/\cs.length=c/\ ∀j,j<c->W.cell? ⟨a.block,a.off+(i*c+j),none⟩=cs[j]? :=by
 rw[g,List.getElem?_eq_getElem hi,ak] at h;obtain⟨cs,k,m⟩:=h;obtain⟨_,l,d⟩:=World.cells?_some k
 grind [Sb]
theorem KA{len cap:Nat}{b c:List (DataW H×List MemPlace)}(f:0<ae.cellsOf e)(l:b.length=len)(p:len<=cap)(t: ∀i,i<len->(W.cells? 0 (a.add (i*ae.cellsOf e)) (ae.cellsOf e)).bind (DataW.trod enc ae W 0 (fun _=>true) held n e)=b[i]?)(g:c.length=cap-len/\ ∀j,j<cap-len->(W.cells? 0 (a.add ((len+j)*ae.cellsOf e)) (ae.cellsOf e)).bind (DataW.trod enc ae W 0 (fun _=>true) held n e)=c[j]?):cap=0\/a.spot=none:=by
 rcases BD cap with m|m
 exact .inl m;refine .inr ?_;have q: ∀o:Option (DataW H×List MemPlace),o.isSome=true->(W.cells? 0 (a.add (0*ae.cellsOf e)) (ae.cellsOf e)).bind (DataW.trod enc ae W 0 (fun _=>true) held n e)=o->a.spot=none:=by
  intro o s h;cases o with
  |none=>cases s
  |some y=>
   rw[ak] at h;obtain⟨cs,k,_⟩:=h;obtain⟨_,z,d⟩:=World.cells?_some k
   have:=d 0 f;rw[Nat.zero_mul] at this;have w:(a.add 0).add 0=a:=rfl
   grind [Qn]
 rcases BD len with k|k
 have:=g.2 0 (by omega)
 grind
 grind
def aoQ{cs:List Value}{x:DataW H×List MemPlace}(h:DataW.trod enc ae W 0 (fun _=>true) held fuel 50 cs=some x): ∃v,cs=[v]/\(v= .slice none 0 0\/ ∃u,Ac W v u):=by
 rcases DataW.trod_slice ar5 h with⟨rfl,_⟩|⟨a,len,m,l,p,n,_,rfl,_,_,j,C,c,f,g,_⟩
 exact⟨_,rfl,.inl rfl⟩;have b:=KA (by rw[HC];omega) c j f (g rfl);obtain⟨E,w,o⟩:=Fz (P:=fun i (t:fE)=>(t.1.length<small/\t.2.length<small)/\W.cell? ⟨a.block,a.off+(i*2+0),none⟩=some (.string ⟨⟨t.1⟩⟩)/\W.cell? ⟨a.block,a.off+(i*2+1),none⟩=some (.string ⟨⟨t.2⟩⟩)) len fun i d=>by
  have B:a.spot=none:=by
   rcases b with s|s
   omega;exact s
  obtain⟨cs,y,z,F,q⟩:=HS HC (by omega) B (f i d);obtain⟨k,v,rfl,D⟩:=aba z;exact⟨(k,v),D,q 0 (by omega),q 1 (by omega)⟩
 refine⟨_,rfl,.inr ⟨_,a,len,m,E,rfl,rfl,b,w,j,FF (fA j C),?_,fun i t d=>(o i t d).2⟩⟩;intro t A;obtain⟨i,d⟩:=we A;exact(o i t d).1
def aoN{cs:List Value}{x:DataW H×List MemPlace}(h:DataW.trod enc ae W 0 (fun _=>true) held fuel 52 cs=some x):
 ∃(id:ag) (k p o:Int) (rv m:Value),cs=[.string ⟨⟨id⟩⟩,.int .i64 k,.int .i64 p,.int .i64 o,rv,m]/\id.length<small/\(rv= .slice none 0 0\/ ∃u,sP W rv u)/\(m= .slice none 0 0\/ ∃u,Ac W m u):=by
 obtain⟨N,n,_,_,q,g,j⟩:=DataW.trod_struct Tryz.underlying52 h;rw[L5] at q;obtain⟨a,b,c,d,e,f,rfl⟩:=OE q;obtain⟨M,K,J,I,G,rfl⟩:=alC (l:=N) g;have A:DataW.trod enc ae W 0 (fun _=>true) held n 9 (([a,b,c,d,e,f].drop 0).take (ae.cellsOf 9))=some M:=j 0 _ rfl;have z:DataW.trod enc ae W 0 (fun _=>true) held n 3 (([a,b,c,d,e,f].drop 1).take (ae.cellsOf 3))=some K:=j 1 _ rfl;have y:DataW.trod enc ae W 0 (fun _=>true) held n 49 (([a,b,c,d,e,f].drop 2).take (ae.cellsOf 49))=some J:=j 2 _ rfl;have w:DataW.trod enc ae W 0 (fun _=>true) held n 25 (([a,b,c,d,e,f].drop 4).take (ae.cellsOf 25))=some I:=j 3 _ rfl;have t:DataW.trod enc ae W 0 (fun _=>true) held n 50 (([a,b,c,d,e,f].drop 5).take (ae.cellsOf 50))=some G:=j 4 _ rfl;rw[HD] at A;rw[BW] at z;rw[SU] at y;rw[L4] at w;rw[ady] at t;obtain⟨s,F,_,Q⟩:=DataW.trod_string DF A;obtain⟨k,E,_,_⟩:=DataW.trod_int Bp z;obtain⟨p,o,D⟩:=arV y;obtain⟨rv,C,R⟩:=Pp w;obtain⟨m,B,O⟩:=aoQ t;simp only[nz,oO,lZ,wg,mH,aT] at F E D C B;obtain⟨rfl,rfl⟩:=D;subst F;subst E;subst C;subst B;exact⟨s.data.toList,k,p,o,_,_,rfl,DA Q,R,O⟩
def PS(h:sP W x v): ∃b:List ag,ay 1 aG v b/\b.length<small/\(∀s∈b,s.length<small)/\bL v=true:=by
 obtain⟨_,_,_,b,_,rfl,_,d,_,f,c,_⟩:=h;refine⟨b,.inr ⟨_,rfl⟩,by omega,c,?_⟩;simp only[bL,vE vQ b,cw]
def arE(h:Ac W x v): ∃b:List fE,ay 2 jd v b/\b.length<small/\(∀t∈b,t.1.length<small/\t.2.length<small)/\bL v=true:=by
 obtain⟨_,_,_,b,_,rfl,_,d,_,f,c,_⟩:=h;refine⟨b,.inr ⟨_,rfl⟩,by omega,c,?_⟩;simp only[bL,vE Qw b,cw]
theorem vg{b o:Nat}(h:W.cell? ⟨b,o,none⟩=some x)(c:Kw x=some v):(jV W).ro b o=some v:=by
 show(mp W b o).or _=_
 grind [mp]
theorem agC{k:IntKind}{z:Int}(g:W.cell? ⟨a.block,a.off+(i*6+3),none⟩=some (.int k z))(h:W.cell? ⟨a.block,a.off+(i*6+4),none⟩=some x)(b:sP W x u): ∃v,(jV W).ro a.block (a.off+(i*6+4))=some v/\sP W x v:=by
 obtain⟨v,j,c⟩:=PD b;refine⟨v,?_,c⟩;show(mp W _ _).or _=_;have e:mp W a.block (a.off+(i*6+4))=none:=by
  obtain⟨d,len,f,_,rfl,_⟩:=b;simp only[mp,h,au];rfl
 grind [Ds]
theorem agD{y:Option Addr}{p q:Nat}(g:W.cell? ⟨a.block,a.off+(i*6+4),none⟩=some (.slice y p q))(h:W.cell? ⟨a.block,a.off+(i*6+5),none⟩=some x)(b:Ac W x u): ∃v,(jV W).ro a.block (a.off+(i*6+5))=some v/\Ac W x v:=by
 obtain⟨v,j,c⟩:=PD b;refine⟨v,?_,c⟩;show(mp W _ _).or _=_;have e:mp W a.block (a.off+(i*6+5))=none:=by
  obtain⟨d,len,f,_,rfl,_⟩:=b;simp only[mp,h,au];rfl
 grind [Ds]
def YX{cs:List Value}{x:DataW H×List MemPlace}(h:DataW.trod enc ae W 0 (fun _=>true) held fuel 22 cs=some x):
 ∃(val:Value) (v:aa) (l:List Obj),cs=[val]/\VR (jV W) v val/\v.scal=true/\ay 6 Obj.val v l/\(∀o∈l,o.oM)/\l.length<small/\(∀o∈l, ∀t∈o.gT,t.2.length<small)/\d8 v=true:=by
 rcases DataW.trod_slice ar0 h with⟨rfl,_⟩|⟨a,len,J,a0,a1,n,_,rfl,_,_,V,hm,F,I,S,_⟩
 refine⟨_,.oZ,[],rfl,.oZ,rfl,.inl ⟨rfl,rfl⟩,(fun o g=>by cases g),by decide,(fun o g=>by cases g),rfl⟩;have f:=KA (by rw[L5];omega) F V I (S rfl);obtain⟨l,t1,M⟩:=Fz (P:=fun i (o:Obj)=>(o.oM/\ ∀t∈o.gT,t.2.length<small)/\ ∀(j:Nat) v,o.cells[j]? =some v->(jV W).ro a.block (a.off+(i*6+j))=some v) len fun i G=>by
  have D:a.spot=none:=by
   rcases f with h0|h0
   omega;exact h0
  obtain⟨cs,y,q1,q2,w⟩:=HS L5 (by omega) D (I i G);obtain⟨id,k,px,py,rv,tv,rfl,hid,hr,B⟩:=aoN q1;have p0:=w 0 (by omega);have p1:=w 1 (by omega);have p2:=w 2 (by omega);have O:=w 3 (by omega);have K:=w 4 (by omega);have N:=w 5 (by omega);simp only[iw,jO] at p0 p1 p2 O K N;have R: ∃(v:aa) (b:List ag),(jV W).ro a.block (a.off+(i*6+4))=some v/\ay 1 aG v b/\b.length<small/\(∀s∈b,s.length<small)/\bL v=true:=by
   rcases hr with rfl|⟨u,A⟩
   exact⟨.oZ,[],vg K rfl,.inl ⟨rfl,rfl⟩,by decide,(fun s D=>by cases D),rfl⟩;obtain⟨v,g1,g2⟩:=agC O K A;obtain⟨b,Z⟩:=PS g2;exact⟨v,b,g1,Z⟩
  have U: ∃y p q,rv= .slice y p q:=by
   rcases hr with rfl|⟨u,A⟩
   exact⟨_,_,_,rfl⟩;obtain⟨d,len,J,_,rfl,_⟩:=A;exact⟨_,_,_,rfl⟩
  have T: ∃(v:aa) (m:List fE),(jV W).ro a.block (a.off+(i*6+5))=some v/\ay 2 jd v m/\m.length<small/\(∀s∈m,s.1.length<small/\s.2.length<small)/\bL v=true:=by
   rcases B with rfl|⟨u,A⟩
   exact⟨.oZ,[],vg N rfl,.inl ⟨rfl,rfl⟩,by decide,(fun s D=>by cases D),rfl⟩;obtain⟨y,p,q,rfl⟩:=U;obtain⟨v,g1,g2⟩:=agD K N A;obtain⟨m,Z⟩:=arE g2;exact⟨v,m,g1,Z⟩
  obtain⟨rV,b,r1,r2,r3,r4,r5⟩:=R;obtain⟨tV,m,s1,s2,s3,s4,s5⟩:=T;refine⟨⟨id,k,px,py,rV,tV,b,m⟩,⟨⟨⟨r2,s2,hid,r3,r4,s3,fun t B=>(s4 t B).1⟩,r5,s5⟩,fun t B=>(s4 t B).2⟩,?_⟩;intro j v c
  match j,c with
  |0,c=>simp_all [Obj.cells,yJ]
  |1,c=>simp only[Obj.cells,jO,iw,aJ] at c;subst c;exact vg p1 rfl
  |2,c=>simp only[Obj.cells,jO,iw,aJ] at c;subst c;exact vg p2 rfl
  |3,c=>simp only[Obj.cells,jO,iw,aJ] at c;subst c;exact vg O rfl
  |4,c=>simp_all [Obj.cells]
  |5,c=>simp_all [Obj.cells]
  |j+6,c=>simp[Obj.cells] at c
 have hg: ∀o∈l,o.oM:=fun o g=>by
  obtain⟨i,G⟩:=we g;exact(M i o G).1.1
 have Y: ∀o∈l, ∀t∈o.gT,t.2.length<small:=fun o g=>by
  obtain⟨i,G⟩:=we g;exact(M i o G).1.2
 refine⟨_,.list 6 (l.map Obj.val) .no,l,rfl,?_,rfl,.inr ⟨_,rfl⟩,hg,by rw[t1];exact FF (fA V hm),Y,by simpa[d8] using Kc hg⟩;have E:(l.map Obj.val).length=len:=by simp[t1]
 have C: ∀y∈l.map Obj.val,y.cells.length=6:=by
  intro y Q;obtain⟨o,_,rfl⟩:=dy.1 Q;rfl
 have:VR (jV W) (.list 6 (l.map Obj.val) .no) (.slice (some a) (l.map Obj.val).length J):=by
  refine .list f (by omega) C (by rw[E];exact V) ?_ trivial;intro i y Q;obtain⟨u,z,h2,h3⟩:=HX C Q;rw[jf] at z;cases e:l[i / 6]? with
  |none=>rw[e] at z;cases z
  |some o=>
   rw[e] at z;simp only[kn,aJ] at z;subst z;rw[h3];exact(M _ o e).2 _ _ h2
 rw[E] at this;exact this
def adv:ae.cellsOf 26=1:=by kernel_rfl
def adw:ae.cellsOf 27=1:=by kernel_rfl
def adx:ae.cellsOf 29=6:=by kernel_rfl
def c_4:ae.cellsOf 4=1:=by kernel_rfl
def L6:ae.cellsOf 94=8:=by kernel_rfl
def ar2:ae.underlying 26=some (.slice 3):=by kernel_rfl
def ar3:ae.underlying 27=some (.slice 94):=by kernel_rfl
def ar4:ae.underlying 4=some .bool:=by kernel_rfl
def alE{l:List α}(h:l.length=8): ∃a b c d e f g k,l=[a,b,c,d,e,f,g,k]:=by
 match l,h with
 | [a,b,c,d,e,f,g,k],_=>exact⟨a,b,c,d,e,f,g,k,rfl⟩
def alD{l:List α}(h:l.length=7): ∃a b c d e f g,l=[a,b,c,d,e,f,g]:=by
 match l,h with
 | [a,b,c,d,e,f,g],_=>exact⟨a,b,c,d,e,f,g,rfl⟩
def YY{cs:List Value}{x:DataW H×List MemPlace}(h:DataW.trod enc ae W 0 (fun _=>true) held fuel 25 cs=some x):
 ∃(val:Value) (v:aa) (l:List ag),cs=[val]/\VR (jV W) v val/\v.scal=true/\ay 1 aG v l/\l.length<small/\awX v=true:=by
 obtain⟨val,e,g⟩:=Pp h;rcases g with rfl|⟨u,d⟩
 exact⟨_,.oZ,[],e,.oZ,rfl,.inl ⟨rfl,rfl⟩,by decide,rfl⟩;obtain⟨c,k,j,o,m⟩:=PS d;have f:=PR d;refine⟨_,u,c,e,f,?_,k,j,?_⟩;obtain⟨_,_,_,_,_,rfl,_⟩:=d;rfl;obtain⟨_,_,_,b,_,rfl,_⟩:=d;exact vE vQ b
theorem aoL{cs:List Value}{x:DataW H×List MemPlace}(h:DataW.trod enc ae W 0 (fun _=>true) held fuel 26 cs=some x):
 ∃(val:Value) (v:aa),cs=[val]/\VR (jV W) v val/\v.scal=true/\awX v=true:=by
 rcases DataW.trod_slice ar2 h with⟨rfl,_⟩|⟨a,len,t,s,w,n,_,rfl,_,_,A,N,g,j,p,_⟩
 exact⟨_,.oZ,rfl,.oZ,rfl,rfl⟩;have b:=KA (by rw[BW];omega) g A j (p rfl);obtain⟨l,D,K⟩:=Fz (P:=fun i (k:Int)=>(jV W).ro a.block (a.off+i)=some (.int .i64 k)) len fun i q=>by
  have G:a.spot=none:=by
   rcases b with C|C
   omega;exact C
  obtain⟨cs,y,F,M,E⟩:=HS BW (by omega) G (j i q);obtain⟨k,J,_,_⟩:=DataW.trod_int Bp F;subst J;have z:=E 0 (by omega);simp only[iw,Nat.mul_one,Nat.add_zero] at z;exact⟨k,vg z rfl⟩
 have I: ∀k:Int,bL (aa.int .i64 k)=true:=fun _=>rfl;refine⟨_,.list 1 (l.map (aa.int .i64)) .no,rfl,?_,rfl,vE I l⟩;have f:(l.map (aa.int .i64)).length=len:=by simp[D]
 have d: ∀y∈l.map (aa.int .i64),y.cells.length=1:=by
  intro y m;obtain⟨o,_,rfl⟩:=dy.1 m;rfl
 have:VR (jV W) (.list 1 (l.map (aa.int .i64)) .no) (.slice (some a) (l.map (aa.int .i64)).length t):=by
  refine .list b (by omega) d (by rw[f];exact A) ?_ trivial;intro i y m;obtain⟨u,c,B,O⟩:=HX d m;rw[jf] at c;cases e:l[i / 1]? with
  |none=>rw[e] at c;cases c
  |some o=>
   rw[e] at c;simp only[kn,aJ] at c;subst c;have q:i % 1=0:=Nat.mod_one i;rw[q] at B;simp only[aa.cells,iw,aJ] at B
   grind
 rw[f] at this;exact this
def aoO{cs:List Value}{x:DataW H×List MemPlace}(h:DataW.trod enc ae W 0 (fun _=>true) held fuel 94 cs=some x):
 ∃(st:Bool) (O:ag) (k:Int) (t iv:ag) (op:Int) (key:ag) (o:Value),cs=[.bool st,.string ⟨⟨O⟩⟩,.int .i64 k,.string ⟨⟨t⟩⟩,.string ⟨⟨iv⟩⟩,.int .i64 op,.string ⟨⟨key⟩⟩,o]/\O.length<small/\t.length<small/\key.length<small/\(o= .slice none 0 0\/ ∃u,sP W o u):=by
 obtain⟨Z,n,_,_,w,m,j⟩:=DataW.trod_struct Tryz.underlying94 h;rw[L6] at w;obtain⟨a,b,c,d,e,f,g,k,rfl⟩:=alE w;obtain⟨Y,V,U,T,S,R,Q,rfl⟩:=alD (l:=Z) m;have E:DataW.trod enc ae W 0 (fun _=>true) held n 4 (([a,b,c,d,e,f,g,k].drop 0).take (ae.cellsOf 4))=some Y:=j 0 _ rfl;have D:DataW.trod enc ae W 0 (fun _=>true) held n 9 (([a,b,c,d,e,f,g,k].drop 1).take (ae.cellsOf 9))=some V:=j 1 _ rfl;have C:DataW.trod enc ae W 0 (fun _=>true) held n 3 (([a,b,c,d,e,f,g,k].drop 2).take (ae.cellsOf 3))=some U:=j 2 _ rfl;have B:DataW.trod enc ae W 0 (fun _=>true) held n 92 (([a,b,c,d,e,f,g,k].drop 3).take (ae.cellsOf 92))=some T:=j 3 _ rfl;have A:DataW.trod enc ae W 0 (fun _=>true) held n 3 (([a,b,c,d,e,f,g,k].drop 5).take (ae.cellsOf 3))=some S:=j 4 _ rfl;have z:DataW.trod enc ae W 0 (fun _=>true) held n 9 (([a,b,c,d,e,f,g,k].drop 6).take (ae.cellsOf 9))=some R:=j 5 _ rfl;have y:DataW.trod enc ae W 0 (fun _=>true) held n 25 (([a,b,c,d,e,f,g,k].drop 7).take (ae.cellsOf 25))=some Q:=j 6 _ rfl;rw[c_4] at E;rw[HD] at D z;rw[BW] at C A;rw[HC] at B;rw[L4] at y;obtain⟨b0,N,_⟩:=DataW.trod_bool ar4 E;obtain⟨s1,M,_,q⟩:=DataW.trod_string DF D;obtain⟨k2,K,_,_⟩:=DataW.trod_int Bp C;obtain⟨k3,v3,J,s,_⟩:=aba B;obtain⟨k4,I,_,_⟩:=DataW.trod_int Bp A;obtain⟨s5,G,_,p⟩:=DataW.trod_string DF z;obtain⟨rv,F,hr⟩:=Pp y;simp only[nz,oO,lZ,wg,mH,aT] at N M K J I G F;obtain⟨rfl,rfl⟩:=J;subst N;subst M;subst K;subst I;subst G;subst F;exact⟨b0,s1.data.toList,k2,k3,v3,k4,s5.data.toList,_,rfl,DA q,s,DA p,hr⟩
theorem agE{z:ByteArray}(g:W.cell? ⟨a.block,a.off+(i*8+6),none⟩=some (.string z))(h:W.cell? ⟨a.block,a.off+(i*8+7),none⟩=some x)(b:sP W x u): ∃v,(jV W).ro a.block (a.off+(i*8+7))=some v/\sP W x v:=by
 obtain⟨v,j,c⟩:=PD b;refine⟨v,?_,c⟩;show(mp W _ _).or _=_;have e:mp W a.block (a.off+(i*8+7))=none:=by
  obtain⟨d,len,f,_,rfl,_⟩:=b;simp only[mp,h,au];rfl
 grind [Ds]
def aoP{cs:List Value}{x:DataW H×List MemPlace}(h:DataW.trod enc ae W 0 (fun _=>true) held fuel 27 cs=some x):
 ∃(val:Value) (v:aa) (l:List aI),cs=[val]/\VR (jV W) v val/\v.scal=true/\ay 8 aI.val v l/\(∀o∈l,o.OkS)/\l.length<small:=by
 rcases DataW.trod_slice ar3 h with⟨rfl,_⟩|⟨a,len,K,J,O,n,_,rfl,_,_,E,hm,q,t,B,_⟩
 refine⟨_,.oZ,[],rfl,.oZ,rfl,.inl ⟨rfl,rfl⟩,(fun o D=>by cases D),by decide⟩;have d:=KA (by rw[L6];omega) q E t (B rfl);obtain⟨l,N,M⟩:=Fz (P:=fun i (o:aI)=>o.OkS/\ ∀(j:Nat) v,o.cells[j]? =some v->(jV W).ro a.block (a.off+(i*8+j))=some v) len fun i F=>by
  have C:a.spot=none:=by
   rcases d with V|V
   omega;exact V
  obtain⟨cs,y,q1,q2,f⟩:=HS L6 (by omega) C (t i F);obtain⟨Y,ar,k,ik,iv,op,z,rv,rfl,g,I,G,hr⟩:=aoO q1;have U:=f 0 (by omega);have p1:=f 1 (by omega);have T:=f 2 (by omega);have p3:=f 3 (by omega);have p4:=f 4 (by omega);have S:=f 5 (by omega);have Q:=f 6 (by omega);have w:=f 7 (by omega);simp only[iw,jO] at U p1 T p3 p4 S Q w;have R: ∃(v:aa) (b:List ag),(jV W).ro a.block (a.off+(i*8+7))=some v/\ay 1 aG v b/\b.length<small/\(∀s∈b,s.length<small)/\bL v=true:=by
   rcases hr with rfl|⟨u,hu⟩
   exact⟨.oZ,[],vg w rfl,.inl ⟨rfl,rfl⟩,by decide,(fun s C=>by cases C),rfl⟩;obtain⟨v,g1,g2⟩:=agE Q w hu;obtain⟨b,g3⟩:=PS g2;exact⟨v,b,g1,g3⟩
  obtain⟨Z,b,r1,r2,r3,r4,r5⟩:=R;refine⟨⟨Y,ar,k,ik,iv,op,z,Z,b⟩,⟨r2,r5,g,G,I,r3⟩,?_⟩;intro j v c
  match j,c with
  |0,c=>simp only[aI.cells,iw,aJ] at c;subst c;exact vg U rfl
  |1,c=>simp_all [aI.cells,yJ]
  |2,c=>simp only[aI.cells,jO,iw,aJ] at c;subst c;exact vg T rfl
  |3,c=>simp_all [aI.cells,yJ]
  |4,c=>simp_all [aI.cells,yJ]
  |5,c=>simp only[aI.cells,jO,iw,aJ] at c;subst c;exact vg S rfl
  |6,c=>simp_all [aI.cells,yJ]
  |7,c=>simp_all [aI.cells]
  |j+8,c=>simp[aI.cells] at c
 have hg: ∀o∈l,o.OkS:=fun o D=>by
  obtain⟨i,F⟩:=we D;exact(M i o F).1
 refine⟨_,.list 8 (l.map aI.val) .no,l,rfl,?_,rfl,.inr ⟨_,rfl⟩,hg,by rw[N];exact FF (fA E hm)⟩;have p:(l.map aI.val).length=len:=by simp[N]
 have m: ∀y∈l.map aI.val,y.cells.length=8:=by
  intro y A;obtain⟨o,_,rfl⟩:=dy.1 A;rfl
 have:VR (jV W) (.list 8 (l.map aI.val) .no) (.slice (some a) (l.map aI.val).length K):=by
  refine .list d (by omega) m (by rw[p];exact E) ?_ trivial;intro i y A;obtain⟨u,g,I,G⟩:=HX m A;rw[jf] at g;cases e:l[i / 8]? with
  |none=>rw[e] at g;cases g
  |some o=>
   rw[e] at g;simp only[kn,aJ] at g;subst g;rw[G];exact(M _ o e).2 _ _ I
 rw[p] at this;exact this
def aoM{v:Value}{d:DataW H}(k: ∃cs,v= .agg cs)(h:DataW.Trod enc ae W 0 (fun _=>true) held 24 v d ps):
 ∃(x:aa) (l:List Obj),VR (jV W) (.agg [x]) v/\ay 6 Obj.val x l/\(∀o∈l,o.oM)/\l.length<small/\(∀o∈l, ∀t∈o.gT,t.2.length<small):=by
 obtain⟨fuel,h⟩:=h;obtain⟨cs,rfl⟩:=k;obtain⟨A,n,_,f,j⟩:=Go.ChangeShapes.trod_struct1 Tryz.underlying24 h;rw[SS] at j;have g:(Value.agg cs).cells.toList=cs.toList:=rfl;rw[g] at j f;rw[ST] at f;obtain⟨val,x,l,e,y,b,w,s,q,p,_⟩:=YX j;have m:cs= #[val]:=by
  obtain⟨z⟩:=cs;obtain⟨c,rfl⟩:=alB (l:=z) f;simp only[nz,lZ,wg,mH,aT] at e;subst e;rfl
 subst m;refine⟨x,l,.agg ?_ (.cons y .nil),w,s,q,p⟩;simp only[dG,ju,b,List.all_nil,cw]
def aoR{v:Value}{d:DataW H}(hv: ∃cs,v= .agg cs)(h:DataW.Trod enc ae W 0 (fun _=>true) held 29 v d ps):
 ∃(t s q p w rv:aa) (views:List ag) (rl:List aI),VR (jV W) (.agg [t,s,q,p,w,rv]) v/\tq t s q p=true/\ay 1 aG w views/\views.length<small/\ay 8 aI.val rv rl/\(∀x∈rl,x.OkS)/\rl.length<small:=by
 obtain⟨fuel,h⟩:=h;obtain⟨cs,rfl⟩:=hv;obtain⟨xs,n,_,_,k,j,g⟩:=DataW.trod_struct Tryz.underlying29 h;have o:(Value.agg cs).cells.toList=cs.toList:=rfl;rw[o] at k g;rw[adx] at k;obtain⟨cl⟩:=cs;have k:cl.length=6:=k;obtain⟨a,b,c,d,e,f,rfl⟩:=OE k;obtain⟨Z,Y,V,U,T,S,rfl⟩:=OE (l:=xs) j;have m:DataW.trod enc ae W 0 (fun _=>true) held n 24 (([a,b,c,d,e,f].drop 0).take (ae.cellsOf 24))=some Z:=g 0 _ rfl;have J:DataW.trod enc ae W 0 (fun _=>true) held n 25 (([a,b,c,d,e,f].drop 1).take (ae.cellsOf 25))=some Y:=g 1 _ rfl;have I:DataW.trod enc ae W 0 (fun _=>true) held n 26 (([a,b,c,d,e,f].drop 2).take (ae.cellsOf 26))=some V:=g 2 _ rfl;have G:DataW.trod enc ae W 0 (fun _=>true) held n 3 (([a,b,c,d,e,f].drop 3).take (ae.cellsOf 3))=some U:=g 3 _ rfl;have F:DataW.trod enc ae W 0 (fun _=>true) held n 25 (([a,b,c,d,e,f].drop 4).take (ae.cellsOf 25))=some T:=g 4 _ rfl;have E:DataW.trod enc ae W 0 (fun _=>true) held n 27 (([a,b,c,d,e,f].drop 5).take (ae.cellsOf 27))=some S:=g 5 _ rfl;rw[ST] at m;rw[L4] at J F;rw[adv] at I;rw[BW] at G;rw[adw] at E;obtain⟨z0,n0,_,a0,m⟩:=Go.ChangeShapes.trod_struct1 Tryz.underlying24 m;rw[SS] at m;obtain⟨C,D,l0,R,r0,s0,i0,g0,_,_,_⟩:=YX m;obtain⟨B,v1,l1,Q,r1,s1,i1,_,f1⟩:=YY J;obtain⟨A,v2,O,r2,s2,f2⟩:=aoL I;obtain⟨k3,N,_,_⟩:=DataW.trod_int Bp G;obtain⟨z,v4,l4,M,r4,s4,i4,n4,_⟩:=YY F;obtain⟨y,v5,l5,K,r5,s5,i5,g5,n5⟩:=aoP E;simp only[nz,oO,lZ,wg,mH,aT] at R Q O N M K;subst R;subst Q;subst O;subst N;subst M;subst K;have f0:awX D=true:=by
  rcases i0 with⟨rfl,_⟩|⟨r,rfl⟩
  rfl;exact Kc g0
 refine⟨D,v1,v2,.int .i64 k3,v4,v5,l4,l5,.agg ?_ (.cons r0 (.cons r1 (.cons r2 (.cons (.int _ _) (.cons r4 (.cons r5 .nil)))))),?_,i4,n4,i5,g5,n5⟩;simp only[dG,ju,s0,s1,s2,s4,s5,List.all_nil,cw];rfl;simp only[tq,f0,f1,f2,Bool.true_and];rfl
end
