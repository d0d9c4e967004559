/- Lemmas for PartKeeps. -/
import Derived.Test.YtakkigoeiahlcaaGreatB4
import Derived.Test.YtakkigoeiahlcaaGreatB10
import Derived.Test.YtakkigoeiahlcaaGreatB9
import Derived.Shelf.Spec.SlicesInsertGrow
import Derived.Shelf.RegionOpenPlain
import Derived.WalkKit
import Derived.Deep.RegionLaw
set_option linter.all false
open Option renaming some→X,none→Z,bind_eq_some_iff→ak,bind_some→aG,getD_some→yQ,isNone_none→Fh,map_none→n8,map_some→kV,ne_none_iff_exists'→TK
open Bool renaming true→O,false→I,and_eq_true→bg,and_false→kU,and_self→bZ,false_and→lZ,not_eq_true'→ny,or_eq_false_iff→wz,true_and→jo,true_or→uG
open List renaming length→J,all_eq_true→fO,append_assoc→oX,append_nil→jV,drop_append→Ij,drop_eq_getElem_cons→yF,drop_of_length_le→yG,drop_succ_cons→uI,drop_zero→kG,eq_nil_of_length_eq_zero→qY,filter_append→Ik,flatMap_cons→Cw,getD_eq_getElem?_getD→l8,getElem?_append_left→AQ,getElem?_append_right→sQ,getElem?_drop→qZ,getElem?_eq_getElem→dA,getElem?_eq_none→sR,getElem?_eq_some_iff→ie,getElem?_map→ix,getElem?_set→Il,getElem?_take→wC,head?_drop→AV,length_append→bI,length_cons→bP,length_drop→kp,length_eraseIdx_of_lt→Fc,length_filter_le→jF,length_map→bh,length_nil→bC,length_range→CA,length_set→qb,length_singleton→uJ,length_take→jG,length→oY,map_append→dj,map_cons→cZ,map_eq_nil_iff→nX,map_map→l9,map_nil→nY,mem_append→fJ,mem_cons→dD,mem_flatMap→uK,mem_iff_getElem?→rd,mem_map→cy,mem_of_getElem?→cq,mem_of_mem_drop→oZ,mem_of_mem_take→wD,mem_or_eq_of_mem_set→MJ,mem_singleton→kq,nil_append→nz,not_mem_nil→nZ,pairwise_iff_getElem→MN,pairwise_map→yN,set_eq_take_append_cons_drop→TH,size_toArray→Ir,sum_cons→wE,take_append_drop→wF,take_left'→It,take_length→Iu,take_of_length_le→nA,take_succ_cons→wH,take_zero→wI
open Go.Ag.aa renaming cells→nq
open Array renaming getElem?_push→MC,size_append→Ii
open Go.Builtin renaming append_→qV,copy_→sP,zeroCells→AN
open Go.IntKind renaming wrap_i64→oW
open Go.Ag.bf renaming put→rf
open Nat renaming add_assoc→sS,add_zero→o0,beq→aA,ble_eq_true_of_le→bG,ble→aP,blt→bq,eq_of_beq_eq_true→gA,le_of_ble_eq_true→gS,le_refl→aC,le_succ_of_le→co,le_succ→iy,le_trans→dg,lt_irrefl→bJ,lt_of_lt_of_le→fP,lt_or_ge→iz,lt_succ_self→iA,mul_le_mul_right→md,mul_le_mul→n7,not_lt_zero→AW,reduceAdd→cN,reduceBEq→ct,succ_mul→jW,zero_add→dS,zero_le→fT
open Go.Op renaming bytesLess→gi
open Option.some renaming injEq→aQ
open Go.Ag.St renaming get→ll
open Go.Proofs.Tryz renaming prog→ag
open Go.Ag.W renaming loopC→aF
open Go.Ag.WC renaming sound→aM
namespace Go.Proofs.YtakkigoeiahlcaaGreat
open Tryz
open Go.Ag
variable{Q:ay}[Std Q]
def DQ(l:ba)(k:Int):Nat->cf->Bool
 |_,[]=>O
 |i,r::rest=>aj (m7 l r) (ki k i)&&DQ l k (i+1) rest
def abu(l:ba)(k:Int):∀(rs:cf)(i:Nat),(((List.range' i (J rs)).zip rs).all λp=>aj (m7 l p.2) (ki k p.1))=DQ l k i rs
 |[],_=>rfl
 |r::rs,i=>by
  rw[bP,List.range'_succ,List.zip_cons_cons,List.all_cons,abu l k rs (i+1)];rfl
def aBu(l:ba)(o:Obj):LH l o=DQ l o.Al 0 o.gT:=by
 rw[<-abu];unfold LH;rw[List.range_eq_range']
def rC(l:ba)(o:Obj):Bool:= !LH l o
def Sy(l:ba):az:=(l.filter (rC l)).map λo=>fh 1 [o.id]
def H9(l:ba):aa:=fG 3 (Sy l)
def avo(l:ba)(r:ae):zG ag 47 (((cD r l).map Obj.val).getD (.agg [(.str []),(ah (0)),(ah (0)),(ah (0)),.Ge,.Ge])) 1=X (ah (m7 l r)):=by
 unfold m7;rcases cD r l with _|q
 rw[n8,Option.getD_none,OC,sw];rfl;rw[kV,yQ];show zG ag 47 (.agg q.cells) 1=_;rw[OC,sw];rfl
def avn(l:ba)(r:ae):((((cD r l).map Obj.val).getD (.agg [(.str []),(ah (0)),(ah (0)),(ah (0)),.Ge,.Ge]))).gt=O:=by
 cases cD r l<;>rfl
structure cu (a g6:Nat) (c6:az) (ov:aa) (n i:Nat) (e:ax) (lc:Ag.Loc):Prop where
 h3:ac e 3=.map a
 h6:ac e 6=.Gt 6 g6 0
 q6:lc.gen 6=g6
 l6:lc.get 6 g6=some c6
 h12:ac e 12=ov
 h13:ac e 13=an n
 h14:ac e 14=an i
variable{K:hP}{l:ba}{a i lo n:Nat}{o:Obj}{s:St}{ov:aa}
def aBq{g6:Nat}(hM:bf aa.str s a (jP l))(V:s.gE<=s.aL)(a0:lo<=s.aL)(go:o.AL)(hr:J o.gT<1000){wv:aa}(hw:uU s wv (wu o)){tv:aa}{S:az}(hO:bU 3 lo s tv S)(b3:J S<=900000)(hx:∀e lc s' B,bU 3 lo s' B (S++(bif rC l o then [fh 1 [o.id]]else []))->s'.gE<=s'.aL->lo<=s'.aL->(∀k,k<lo->s'.get [] k=s.get [] k)->ac e 4=B->cu a g6 o.cells ov n i e lc->K (.exit 2) ⟨e,46,lc⟩ s'):
 ∀(rest g:cf)(e:ax)(lc:Ag.Loc),o.gT=g++rest->LH l o=DQ l o.Al (J g) rest->ac e 4=tv->ac e 19=wv->ac e 20=an (J o.gT)->ac e 21=an (J g)->cu a g6 o.cells ov n i e lc->W Q 23 (.loop Kb) ⟨e,46,lc⟩ s K:=by
 intro rest
 induction rest with
 |nil=>
  intro g e lc h1 h2 h4 R A P F;have b2:=cL h1;have hb:rC l o=I:=by unfold rC;rw[h2];rfl
  refine aF ?_;simp only[go_sem,seval,Kb,A,P,b2,bJ];refine hx _ _ _ tv (by rw[hb,cF,jV];exact hO) V a0 (λ_ _=>rfl) ?_ ⟨?_,?_,F.q6,F.l6,?_,?_,?_⟩
  all_goals simp only[sN,seval,h4,F.h3,F.h6,F.h12,F.h13,F.h14]
 |cons r rest ih=>
  intro g e lc h1 h2 h4 R A P F
  let⟨hlt,hat⟩:=cR h1
  have b1:(wu o)[g.length]?=X (ki o.Al (J g)):=by
   unfold wu;rw[ix,List.getElem?_range hlt];rfl
  let⟨p,pc,hp1,hp2⟩:=hw.cell b1
  have a8:=λlc k=>go.gT.at bM.2.2.1 hat lc k;have b0:=cm (n:=J g) w_;have D:=r9 gn BI Ig hM r;rw[BF]at D;have kf:=avo l r;have kc:=avn l r;obtain⟨q,hq⟩:=cw (((cD r l).map Obj.val).getD (.agg [(.str []),(ah (0)),(ah (0)),(ah (0)),.Ge,.Ge]));rw[hq]at D kf kc;have wc:=hw.gt;have a9:=hO.gt;have rc:=go.gT.gt;have e3:=F.h3;have e6:=F.h6;have eg:=F.q6;have el:=F.l6;simp only[Obj.cells]at el;cases hk:aj (m7 l r) (ki o.Al (J g))with
  |true=>
   refine aF ?_;simp only[go_sem,seval,Kb,aw,e3,e6,eg,el,R,A,P,hlt,a8,hp1,hp2,pc,wc,rc,D,kc,kf,hk,b0];refine ih (g++[r]) _ _ (db h1) (by rw[h2,DQ,hk,jo,bI];rfl) ?_ ?_ ?_ ?_ ⟨?_,?_,F.q6,F.l6,?_,?_,?_⟩
   all_goals simp only[sL,seval,h4,R,A,F.h3,F.h6,F.h12,F.h13,F.h14,sA]
  |false=>
   have hb:rC l o=O:=by unfold rC;rw[h2,DQ,hk,lZ];rfl
   let⟨B,s1,a1,a2,a3,a4,a5,a6,a7⟩:=CP (t:=37) iC.1 rfl d_ (s:=s) (y:=.list 3 [fh 1 [o.id]] .GT) (x:=fh 1 [o.id]) hO (by simp only[aaa,cU]) b3 a0 V
   simp only[fh,cZ,nY,aw]at a1;refine aF ?_;simp only[go_sem,seval,Kb,aw,h4,e3,e6,eg,el,R,A,P,hlt,a8,hp1,hp2,pc,wc,rc,D,kc,kf,hk,a9,sB,a1,a3];refine hx _ _ s1 B (by rw[hb];exact a2) a5 w_ a7 ?_ ⟨?_,?_,F.q6,F.l6,?_,?_,?_⟩
   all_goals simp only[sL,seval,F.h3,F.h6,F.h12,F.h13,F.h14]
def aBx(a2:No Q 142)(a1:No Q 217)(a3:No Q 92)(a4:No Q 46)(ho:au 6 Obj.val ov l)(hg:∀o∈l,o.AL)(hl:J l<=900)(hr:∀o∈l,J o.gT<1000)(h5:∀o∈l,aj o.Al 5=O->J o.gT=3)(al:a<lo){s0:St}(hM:bf aa.str s0 a (jP l))(hx:∀e lc s q,bU 3 lo s q (Sy l)->ac e 4=q->K (.exit 0) ⟨e,46,lc⟩ s):
 ∀(rest g:ba)(e:ax)(lc:Ag.Loc)(s:St)(q:aa),l=g++rest->bU 3 lo s q ((g.filter (rC l)).map λo=>fh 1 [o.id])->(∀k,k<lo->s.get [] k=s0.get [] k)->lo<=s.aL->s.gE<=s.aL->ac e 3=.map a->ac e 4=q->ac e 12=ov->ac e 13=an (J l)->ac e 14=an (J g)->W Q 23 (.loop PY) ⟨e,46,lc⟩ s K:=by
 intro rest
 induction rest with
 |nil=>
  intro g e lc s q h1 hO V b0 a5 h3 h4 a0 R P;have b1:=cL h1;have a9:g=l:=by rw[h1];simp
  refine aF ?_;simp only[go_sem,seval,PY,R,P,b1,bJ];rw[a9]at hO;exact hx _ _ _ q hO (by simp only[sN,seval,h4])
 |cons o rest ih=>
  intro g e lc s q h1 hO V b0 a5 h3 h4 a0 R P
  let⟨hlt,hat⟩:=cR h1
  have B:=cq hat;have go:=hg o B;have rc:=go.all;have b2:=λlc k=>ho.at ek.2.2.1 hat lc k;have a7:=cm (n:=J g) w_;have a8:(wu o).length=J o.gT:=by unfold wu;rw[bh,CA]
  have S:=aFJ a2 a1 a3 a4 go (hr o B) (h5 o B) (s:=s) a5;simp only[Obj.val,Obj.cells]at S;refine aF ?_;simp only[go_sem,seval,PY,a0,R,P,hlt,b2,Obj.val,Obj.cells,rc];refine aU.ex S d_ ?_;rintro wv s1 ⟨A,n1,m1,o1⟩;have wc:=A.gt;have wl:=A.len;have b5:bf aa.str s1 a (jP l):=(o1 a w_).trans ((V a al).trans hM);have b4:bU 3 lo s1 q ((g.filter (rC l)).map λo=>fh 1 [o.id]):=by
   rcases hO with h|⟨q1,k,q2,q3,q4,q5⟩
   exact .inl h;exact .inr ⟨q1,k,q2,(o1 k q5).trans q3,q4,w_⟩
  have b3:((g.filter (rC l)).map λo=>fh 1 [o.id]).length<=900000:=by
   rw[bh]
   have:=jF (rC l) g;omega
  simp only[go_sem,seval,wc,wl,a8];refine aBq b5 m1 w_ go (hr o B) A b4 b3 (ov:=ov) (n:=J l) (i:=J g) (g6:=lc.gen 6+1) ?_ o.gT [] _ _ rfl (aBu l o) ?_ ?_ ?_ ?_ ⟨?_,?_,?_,?_,?_,?_,?_⟩
  ·intro e2 b7 s2 a6 D m2 l2 o2 c4 F
   have b6:=F.h14;simp only[go_sem,seval,b6,a7];refine ih (g++[o]) _ _ s2 a6 (db h1) ?_ (λk hk=>(o2 k hk).trans ((o1 k w_).trans (V k hk))) l2 m2 ?_ ?_ ?_ ?_ ?_;cases hb:rC l o;rw[hb,cF,jV]at D;rw[pA hb];exact D;rw[hb,cT]at D;rw[vi hb,dj];exact D
   all_goals simp only[sN,seval,c4,F.h3,F.h12,F.h13,sA]
  all_goals simp only[sL,seval,h3,h4,a0,R,P,bC]
  all_goals rfl
def aBt(A:No Q 142)(q:No Q 217)(B:No Q 92)(D:No Q 46)(R:No Q 45)(a2:No Q 23)(g:au 6 Obj.val ov l)(hg:∀o∈l,o.AL)(hl:J l<=900)(hr:∀o∈l,J o.gT<=999)(F:bm l=O)(hm:s.gE<=s.aL):
 ∃v s',ai Q 23 [.agg [ov]] s v s'/\fF s'.heap v (H9 l):=by
 have P:=g.cs;have a1:=g.lenS ek;have h5:∀o∈l,aj o.Al 5=O->J o.gT=3:=λo a0 e5=>by
  simp only[bm,bg]at F
  let⟨_,_,h3⟩:=axX.1 (sm l [] F.1 o a0)
  have e1:aj o.Al 1=I:=by
   have:o.Al=5:=of_decide_eq_true e5;rw[this];rfl
  rw[e1,e5]at h3;simp only[cF,cT,bg,bE]at h3;exact h3.1
 refine ai.ofNRZ ate (aM ?_);simp only[go_sem,seval,P];refine aU.ex (ax0 R g hg w_ (rQ F) hm) d_ ?_;rintro v V ⟨rfl,hM,n1,m1,o1⟩;simp only[go_sem,seval,P,a1];refine aBx A q B D g hg hl (λo g=>by have:=hr o g;omega) h5 (a:=s.aL) (lo:=V.aL) w_ (s0:=V) hM ?_ l [] _ _ V .Ge rfl (.inl R_) (λ_ _=>rfl) (aC _) m1 ?_ ?_ ?_ ?_ ?_;intro e lc s2 tv hO h4;have S:=hO.gt;simp only[go_sem,seval,h4,S];refine⟨_,rfl,4,Bs hO λv F=>?_⟩;obtain⟨i,_,rfl⟩:=cy.1 F;exact F5 _ _ _
 all_goals simp only[aah,bS,oD,ct,cN,bC]
 all_goals rfl
def Es:Sp
 |[v]=>(kY v).bind λl=>bif my l then X (H9 l)else Z
 |_=>Z
def aBw:cW ag 23 Es:=by
 intro args u g G h w F P R;unfold Es at g;split at g;simp only[ak]at g
 let⟨l,B,g⟩:=g
 let⟨q,g⟩:=aZ g
 have g:=sI g;subst g;obtain⟨v,rfl,B,D,V⟩:=qr B
 let⟨ht,v',A,hl'⟩:=pJ B D
 have A:di [.agg [v]]=[.agg [v']]:=by simp only[di,A]
 have q:=oC.1 q;refine iQ (T:=[]) (W:=[]) .nil .nil (args:=[.agg [v]]) (by simp only[dR,ht,bZ]) (λS=>?_) G h w F P R;rw[A];exact aBt (Q:=QW [] [] S) R_ R_ R_ R_ R_ R_ hl' D q.len q.gT q.valid d_;cases g
variable{lc:Ag.Loc}{C:mm}{args:az}{sz:Nat}{d:Tmp}{v:aa}{e:ax}
def zu.run{Q:ay}{s1:St}{g:FuncId}(q:ai Q g args s v s1)(A:d<sz)(h:C ⟨e.set d (X v),sz,lc⟩ s1):zu Q d e sz lc s C g args (Q.spec g):=by
 rcases hs:Q.spec g with _|sp
 exact⟨v,s1,q,A,h⟩
 let⟨h1,h2⟩:=ai.sp_inv hs q
 subst h2;exact⟨v,lc,s1,by rw[h1];rfl,A,h⟩
variable{b:Nat}
def x9(q:n<=1000000000)(g:b<=88):eB n b=O:=by
 unfold eB;apply bG;have:(n*2+1024)*b<=2000001024*88:=n7 w_ g;omega
def UG{t:TypeId}{E:EI}(hE:js ag t=X E)(hn:E.n=sz)(hb:E.b<=88){y x:aa}{xs:az}(h:bU sz lo s ov xs)(R:cU [] E.g E.n y s=X [x])(V:J xs<=900000000)(D:lo<=s.aL)(S:s.gE<=s.aL):
 ∃q s',cJ ag [] t ov y I s=X (q,s')/\bU sz lo s' q (xs++[x])/\q.cells=[q]/\s'.aL=s.aL+1/\s'.gE<=s'.aL/\(∀n,n<s.aL->s.get [] n≠X .tok->s'.get [] n=s.get [] n)/\(∀n,n<lo->s'.get [] n=s.get [] n):=by
 subst hn;rcases h with⟨rfl,rfl⟩|⟨B,k,rfl,hk,h5,h6⟩
 have F:eB [x].length E.b=O:=x9 (by simp) hb;refine⟨.list E.n [x] (.own s.aL),s.new .tok,?_,.inr ⟨by simp,s.aL,rfl,by rw[ei,bS];rfl,D,iA _⟩,rfl,rfl,co S,λn A _=>?_,λn A=>?_⟩;simp only[aaf,cJ,hE,R,fy,iB,F,cF];rw[ei,bN.2 w_];rfl;rw[ei,bN.2 w_];rfl;have F:eB (J xs+ [x].length) E.b=O:=x9 (by simp;omega) hb;refine⟨.list E.n (xs++[x]) (.own s.aL),(s.put k Z).new .tok,?_,.inr ⟨by simp,s.aL,rfl,by rw[ei,kB,bS];rfl,D,iA _⟩,rfl,rfl,co (cG s k Z S),λn A P=>?_,λn A=>?_⟩;simp only[aaa,cJ,hE,aG,R,fy,hk,F,bZ];have B:n≠k:=λe=>P (by rw[e];exact hk);rw[ei,kB,bN.2 w_,cF,aO,bN.2 B];rfl;rw[ei,kB,bN.2 w_,cF,aO,bN.2 w_];rfl
abbrev VQ:=Int×cf×Bool
def nR:Bool->gV
 |true=>.no
 |false=>.GT
def hJ(name:ae)(q:VQ):aa:=.agg [.str name,ah q.1,.list 1 (q.2.1.map aw) (nR q.2.2)]
def BM{α:Type}(n:Nat)(enc:α->aa):∀l:List α,au n enc (fG n (l.map enc)) l
 |[]=>.inl R_
 |_::_=>.inr ⟨_,rfl⟩
def am8(h:aB aH)(name:ae)(q:VQ):b9 h 3 (hJ name q)=X (hJ name q):=by
 have e:b9 h 2 (.list 1 (q.2.1.map aw) (nR q.2.2))=X (.list 1 (q.2.1.map aw) (nR q.2.2)):=JA h (by rw[B5];cases q.2.2<;>rfl) λv g=>by
  obtain⟨x,_,rfl⟩:=cy.1 g;rfl
 show(da (b9 h 2) [.str name,ah q.1,.list 1 (q.2.1.map aw) (nR q.2.2)]).bind (λr=>X (aa.agg r))=_;rw[rN λv g=>?_];rfl;simp only[dD,nZ,or_false]at g;rcases g with rfl|rfl|rfl
 rfl;rfl;exact e
variable{views:cf}{vv:aa}
def axh(B:au 1 aw vv views)(A:J views<=1000000)(g:s.gE<=s.aL):
 ∃nv s',cJ ag [] 25 (.list 1 [.str []] .GT) vv I s=X (nv,s')/\au 1 aw nv ([]::views)/\s.aL<=s'.aL/\s'.gE<=s'.aL/\∀i,i<s.aL->s'.get [] i=s.get [] i:=by
 rcases B with⟨rfl,rfl⟩|⟨r,rfl⟩
 exact⟨.list 1 ([([]:ae)].map aw) .GT,s,by simp only[aaf,cJ,bM,cU,rT];rfl,.inr ⟨_,rfl⟩,aC _,g,λ_ _=>rfl⟩;cases views with
 |nil=>exact⟨.list 1 ([([]:ae)].map aw) .GT,s,by simp only[aaa,cJ,bM,aG,cU,nY,rT];rfl,.inr ⟨_,rfl⟩,aC _,g,λ_ _=>rfl⟩
 |cons x views=>
  have q:eB ([aa.str []]++(x::views).map aw).length 16=O:=x9 (by simp only[aag,bh]at A⊢;omega) d_;refine⟨.list 1 ([aa.str []]++(x::views).map aw) (.own s.aL),s.new .tok,?_,.inr ⟨_,rfl⟩,iy _,co g,λi hi=>cQ hi⟩;rw[cZ]at q⊢;simp only[aaa,cJ,bM,aG,cU,cF,fy,iB,q]
def fV(c:Z_):aa:=.func (.func c.1) [] c.2
structure Ix (g10:Nat) (ov mv nv cv:aa) (nn i nc j:Nat) (name:ae) (e:ax) (lc:Ag.Loc):Prop where
 h2:ac e 2=.Gt 2 1 0
 g2:lc.gen 2=1
 l2:lc.get 2 1=some [ov]
 h6:ac e 6=cv
 h9:ac e 9=.str name
 h10:ac e 10=.Gt 10 g10 0
 q10:lc.gen 10=g10
 l10:lc.get 10 g10=some [mv]
 h24:ac e 24=nv
 h25:ac e 25=an nn
 h26:ac e 26=an i
 h33:ac e 33=cv
 h34:ac e 34=an nc
 h35:ac e 35=an j
variable{bse:az}{g10 j:Nat}{cv nv:aa}
abbrev o_:=List VQ
def aFH{name:ae}{L:o_}(hV:au 3 (hJ []) vv L)(b2:J bse+J L<=900000000){mv:aa}{nn nc:Nat}{s0:St}(hx:∀e lc s B,bU 3 lo s B (bse++L.map (hJ name))->og s0 s->lo<=s.aL->(∀k,k<lo->s.get [] k=s0.get [] k)->ac e 7=B->Ix g10 ov mv nv cv nn i nc j name e lc->K (.exit 4) ⟨e,57,lc⟩ s):
 ∀(rest g:o_)(e:ax)(lc:Ag.Loc)(s:St)(B:aa),L=g++rest->bU 3 lo s B (bse++g.map (hJ name))->og s0 s->lo<=s.aL->(∀k,k<lo->s.get [] k=s0.get [] k)->ac e 7=B->ac e 41=vv->ac e 42=an (J L)->ac e 43=an (J g)->Ix g10 ov mv nv cv nn i nc j name e lc->W Q 7 (.loop QU) ⟨e,57,lc⟩ s K:=by
 intro rest
 induction rest with
 |nil=>
  intro g e lc s B h1 hO hk P D h7 S A R F;have b0:=cL h1;have a9:g=L:=by rw[h1];simp
  refine aF ?_;simp only[go_sem,seval,QU,A,R,b0,bJ];rw[a9]at hO;refine hx _ _ _ B hO hk P D ?_ ⟨?_,F.g2,F.l2,?_,?_,?_,F.q10,F.l10,?_,?_,?_,?_,?_,?_⟩<;>simp only[sN,seval,h7,F.h2,F.h6,F.h9,F.h10,F.h24,F.h25,F.h26,F.h33,F.h34,F.h35]
 |cons q rest ih=>
  intro g e lc s B h1 hO hk P D h7 S A R F
  let⟨hlt,hat⟩:=cR h1
  have b1:=λlc k=>hV.at iC.2.2.1 hat lc k;have a8:=cm (n:=J g) w_;have a0:=hO.gt;have e9:=F.h9
  let⟨tv',s1,a1,a2,a3,a4,a5,a6,a7⟩:=UG (t:=37) iC.1 rfl d_ (s:=s) (y:=.list 3 [hJ name q] .GT) (x:=hJ name q) hO (by simp only[aaa,cU]) (by rw[bI,bh];omega) P hk.mw
  simp only[hJ]at a1;refine aF ?_;simp only[go_sem,seval,QU,hJ,e9,h7,S,A,R,hlt,b1,a0,sB,a8,a1,a3];refine ih (g++[q]) _ _ s1 tv' (by rw[h1];simp) (by rw[dj,<-oX];exact a2) (hk.app a4 a5 a6) w_ (λk V=>(a7 k V).trans (D k V)) ?_ ?_ ?_ ?_ ⟨?_,?_,?_,?_,?_,?_,?_,?_,?_,?_,?_,?_,?_,?_⟩
  all_goals simp only[sL,seval,S,A,F.h2,F.g2,F.l2,F.h6,F.h9,F.h10,F.q10,F.l10,F.h24,F.h25,F.h26,F.h33,F.h34,F.h35,sA]
def pL(name:ae)(cs:List ((Z_)×o_)):az:=cs.flatMap λc=>c.2.map (hJ name)
def azw(name:ae)(cs:List ((Z_)×o_))(c:(Z_)×o_):pL name (cs++[c])=pL name cs++c.2.map (hJ name):=by
 unfold pL;rw[List.flatMap_append,Cw,List.flatMap_nil,jV]
variable{wc:az}{rb:Nat}
def ajg{name:ae}{cs:List ((Z_)×o_)}(hC:au 1 fV cv (cs.map (·.1)))(c0:J cs<=1000)(a4:rb<lo){mv:aa}(mc:mv.gt=O)(ms:mv.cells=[mv]){s0:St}(a5:s0.get [] rb=X (.cells wc))(hc:∀c∈cs,∀s:St,s.get [] rb=X (.cells wc)->∃v,ai Q c.1.1 (.agg [mv]::c.1.2) s v s/\au 3 (hJ []) v c.2)(b1:J bse+(pL name cs).length<=900000000){nn:Nat}(hx:∀e lc s q,bU 3 lo s q (bse++pL name cs)->lo<=s.aL->s.gE<=s.aL->(∀k,k<lo->s.get [] k=s0.get [] k)->ac e 7=q->Ix g10 ov mv nv cv nn i (J cs) (J cs) name e lc->K (.exit 2) ⟨e,57,lc⟩ s):
 ∀(rest g:List ((Z_)×o_))(e:ax)(lc:Ag.Loc)(s:St)(q:aa),cs=g++rest->bU 3 lo s q (bse++pL name g)->lo<=s.aL->s.gE<=s.aL->(∀k,k<lo->s.get [] k=s0.get [] k)->ac e 7=q->Ix g10 ov mv nv cv nn i (J cs) (J g) name e lc->W Q 7 (.loop QV) ⟨e,57,lc⟩ s K:=by
 intro rest
 induction rest with
 |nil=>
  intro g e lc s q B hO P D A h7 F;have V:=cL B;have a6:g=cs:=by rw[B];simp
  have S:=F.h34;have R:=F.h35;refine aF ?_;simp only[go_sem,seval,QV,S,R,V,bJ];rw[a6]at hO;refine hx _ _ _ q hO P D A ?_ ⟨?_,F.g2,F.l2,?_,?_,?_,F.q10,F.l10,?_,?_,?_,?_,?_,?_⟩<;>simp only[sN,seval,h7,V,F.h2,F.h6,F.h9,F.h10,F.h24,F.h25,F.h26,F.h33,F.h34,F.h35]
 |cons c rest ih=>
  intro g e lc s q B hO P D A h7 F;have a7:J g<J cs:=by rw[B];simp
  have b2:(cs.map (·.1))[g.length]?=X c.1:=by rw[B];simp
  have b0:c∈cs:=by rw[B];simp
  have a9:=λlc k=>hC.at L6.2.2.1 b2 lc k;have a3:=cm (n:=J g) w_;have b4:=F.h33;have S:=F.h34;have R:=F.h35;have b5:=F.h10;have eg:=F.q10;have el:=F.l10;have b6:=hC.gt
  let⟨v,hrun,hv⟩:=hc c b0 s ((A rb a4).trans a5)
  have vc:=hv.gt;have vl:=hv.lenS iC;have a1:(bse++pL name g).length+J c.2<=900000000:=by
   have:pL name cs=(pL name g++c.2.map (hJ name))++pL name rest:=by
    rw[B];unfold pL;rw[List.flatMap_append,Cw,oX]
   rw[this,bI,bI,bh]at b1;rw[bI];omega
  refine aF ?_;simp only[go_sem,seval,QV,fV,b4,S,R,b5,eg,el,a7,a9,b6,mc,ms,FG];refine zu.run hrun d_ ?_;simp only[go_sem,seval,vc,vl];refine aFH (name:=name) hv (lo:=lo) (bse:=bse++pL name g) a1 (s0:=s) (g10:=g10) (ov:=ov) (mv:=mv) (nv:=nv) (cv:=cv) (nn:=nn) (i:=i) (nc:=J cs) (j:=J g) ?_ c.2 [] _ _ s q rfl (by rw[nY,jV];exact hO) (.refl D) P (λ_ _=>rfl) ?_ ?_ ?_ ?_ ⟨?_,F.g2,F.l2,?_,?_,?_,F.q10,F.l10,?_,?_,?_,?_,?_,?_⟩
  ·intro e2 b8 s2 a2 b3 a8 l2 o2 c7 F2
   have b7:=F2.h35;simp only[go_sem,seval,b7,a3];refine ih (g++[c]) _ _ s2 a2 (db B) (by rw[azw,<-oX];exact b3) l2 a8.mw (λk a0=>(o2 k a0).trans (A k a0)) ?_ ⟨?_,F2.g2,F2.l2,?_,?_,?_,F2.q10,F2.l10,?_,?_,?_,?_,?_,?_⟩
   all_goals simp only[sN,seval,c7,F2.h2,F2.h6,F2.h9,F2.h10,F2.h24,F2.h25,F2.h26,F2.h33,F2.h34,sA]
  all_goals simp only[sN,seval,h7,F.h2,F.h6,F.h9,F.h10,F.h24,F.h25,F.h26,F.h33,F.h34,F.h35,bC]
  all_goals rfl
def B9(l:ba):o_:=(l.filter (rC l)).map λo=>(1,[o.id],I)
def zq(l:ba):o_:=(qT (uY l)).map λk=>(2,iL k,O)
def D6(l:ba):o_:=(wY l).map (λi=>(3,[i],I))++((vP (kK l)).filter (Jc l)).map λq=>(4,[q.1,q.2],I)
def D8(l:ba):o_:=(l.filter (nG l)).map (λo=>(5,[o.id],I))++(l.filter (lG l)).map λo=>(6,[o.id],I)
def Ev(l:ba)(rl:vy):o_:=(l.filter (FC l rl)).map λo=>(7,[o.id],I)
def aBp(l:ba):H9 l=fG 3 ((B9 l).map (hJ [])):=by unfold H9 Sy B9;rw[l9];rfl
def ah5(l:ba):Cq l=fG 3 ((zq l).map (hJ [])):=by unfold Cq zq;rw[l9];rfl
def axs(l:ba):E4 l=fG 3 ((D6 l).map (hJ [])):=by unfold E4 vD D6;rw[dj,l9,l9];rfl
def axv(l:ba):H8 l=fG 3 ((D8 l).map (hJ [])):=by unfold H8 acm D8;rw[dj,l9,l9];rfl
def aB4(l:ba)(rl:vy):AE l rl=fG 3 ((Ev l rl).map (hJ [])):=by unfold AE LN Ev;rw[l9];rfl
def zx(l:ba)(rl:vy):List o_:=[B9 l,zq l,D6 l,D8 l,Ev l rl]
def Vq(rb:Nat):List (FuncId×az):=[(23,[]),(24,[]),(25,[]),(26,[]),(21,[.ptr rb 0])]
def C6(l:ba)(rl:vy)(rb:Nat):List ((Z_)×o_):=[((23,[]),B9 l),((24,[]),zq l),((25,[]),D6 l),((26,[]),D8 l),((21,[.ptr rb 0]),Ev l rl)]
def nm(l:ba)(rl:vy)(name:ae):az:=(zx (jb l name) rl).flatMap λL=>L.map (hJ name)
theorem adh(l:ba)(rl:vy)(rb:Nat)(name:ae):pL name (C6 (jb l name) rl rb)=nm l rl name:=rfl
def tm(l:ba)(views:cf)(rl:vy):az:=bif bm l then([]::views).flatMap (nm l rl)else []
def aeE(K:p0):(qT K).length=J K:=by
 unfold qT;rw[bh,(we _ _ _).length_eq,bh]
theorem afp{rl:vy}{name:ae}(h:J l<=900):(nm l rl name).length<=3000000:=by
 have g:(jb l name).length<=900:=dg (H7 l name).length_le h;generalize hL:jb l name=L at g;have A:J L*J L<=900*900:=n7 g g;have P:(B9 L).length<=J L:=by unfold B9;rw[bh];exact jF _ _
 have F:(zq L).length<=J L*J L:=by unfold zq;rw[bh,aeE];exact UY L
 have D:(wY L).length<=J L:=by unfold wY;rw[bh];exact jF _ _
 have q:(kK L).length<=J L:=by unfold kK;rw[bh];exact jF _ _
 have B:(kK L).length*(kK L).length<=900*900:=n7 (dg q g) (dg q g)
 grind [Sh,D6,bh,D8,Ev,nm,zx]
def Tt{l:ba}{rl:vy}(h:J l<=900):∀N:cf,(N.flatMap (nm l rl)).length<=J N*3000000
 |[]=>fT _
 |n::N=>by
  rw[Cw,bI,bP,jW];have q:=afp (rl:=rl) (name:=n) h;have g:=Tt (rl:=rl) h N;omega
def aFE(q:∀o∈l,o.AL)(name:ae):∀o∈jb l name,o.AL:=λo g=>q o ((H7 l name).subset g)
def ax2(l:ba):(vF l).gt=O/\(vF l).cells=[vF l]:=by cases l<;>exact R_
def acp(n:Nat)(l:az):(fG n l).gt=O:=by cases l<;>rfl
theorem Ww(g:my l=O):J l<small:=by
 have:=(oC.1 g).len
 grind [small]
variable{rv:aa}
def aB3(D:Q.spec 22=X An)(S:No Q 21){mv:aa}{L:ba}(P:au 6 Obj.val mv L)(hg:∀o∈L,o.AL)(R:my L=O){w0 w1 w2 V:aa}(hr:s.get [] rb=X (.cells [w0,w1,w2,V,vv,rv])){rl:vy}(g:au 8 aW.val rv rl)(ok:∀x∈rl,x.Ok)(A:J rl<=1000000):ai Q 21 [.agg [mv],.ptr rb 0] s (AE L rl) s:=by
 have B:=P.cs;have q:=g.gt;have F:An [.agg [mv],rv]=X (AE L rl):=by
  simp only[aaf,An,rp P hg (Ww R),Bd g ok A,R]
 have vc:=acp 3 (LN L rl);refine ai.ofNZ as7 (aM ?_) (acp 3 (LN L rl));unfold AE at F⊢;simp only[go_sem,seval,B,q,hr,D,F,vc]
def ajh(S:Q.spec 23=X Es)(R:Q.spec 24=X C3)(P:Q.spec 25=X D7)(F:Q.spec 26=X D9)(V:Q.spec 22=X An)(A:No Q 21){mv:aa}{L:ba}(hm:au 6 Obj.val mv L)(hg:∀o∈L,o.AL)(g:my L=O){w0 w1 w2 w3:aa}{rl:vy}(B:au 8 aW.val rv rl)(ok:∀x∈rl,x.Ok)(D:J rl<=1000000):
 ∀c∈C6 L rl rb,∀s:St,s.get [] rb=X (.cells [w0,w1,w2,w3,vv,rv])->∃v,ai Q c.1.1 (.agg [mv]::c.1.2) s v s/\au 3 (hJ []) v c.2:=by
 have q:=rp hm hg (Ww g);intro c hc s hr;simp only[C6,dD,nZ,or_false]at hc;rcases hc with rfl|rfl|rfl|rfl|rfl
 exact⟨H9 L,ai.sp S (by simp only[aaf,Es,q,g]),by rw[aBp];exact BM _ _ _⟩;exact⟨Cq L,ai.sp R (by simp only[aaf,C3,q,g]),by rw[ah5];exact BM _ _ _⟩;exact⟨E4 L,ai.sp P (by simp only[aaf,D7,q,g]),by rw[axs];exact BM _ _ _⟩;exact⟨H8 L,ai.sp F (by simp only[aaf,D9,q,g]),by rw[axv];exact BM _ _ _⟩;exact⟨AE L rl,aB3 V A hm hg g hr B ok D,by rw[aB4];exact BM _ _ _⟩
theorem aFF(b0:Q.spec 27=X Cp)(ho:au 6 Obj.val ov l)(hg:∀o∈l,o.AL)(hw:wP l){rl:vy}(a4:rb<lo){N:cf}(hN:au 1 aw nv N)(b6:J N<=201)(hC:au 1 fV cv (Vq rb)){s0:St}(a5:s0.get [] rb=X (.cells wc))(hc:∀name,∀c∈C6 (jb l name) rl rb,∀s:St,s.get [] rb=X (.cells wc)->∃v,ai Q c.1.1 (.agg [vF (jb l name)]::c.1.2) s v s/\au 3 (hJ []) v c.2)(hx:∀e lc s q,bU 3 lo s q (N.flatMap (nm l rl))->ac e 7=q->K (.exit 0) ⟨e,57,lc⟩ s):
 ∀(rest g:cf)(e:ax)(lc:Ag.Loc)(s:St)(q:aa),N=g++rest->bU 3 lo s q (g.flatMap (nm l rl))->lo<=s.aL->s.gE<=s.aL->(∀k,k<lo->s.get [] k=s0.get [] k)->ac e 2=.Gt 2 1 0->lc.gen 2=1->lc.get 2 1=X [ov]->ac e 6=cv->ac e 7=q->ac e 24=nv->ac e 25=an (J N)->ac e 26=an (J g)->W Q 7 (.loop QX) ⟨e,57,lc⟩ s K:=by
 intro rest
 induction rest with
 |nil=>
  intro g e lc s q V hO S R P r2 g2 l2 h6 h7 D B A;have a7:=cL V;have a6:g=N:=by rw[V];simp
  refine aF ?_;simp only[go_sem,seval,QX,B,A,a7,bJ];rw[a6]at hO;exact hx _ _ _ q hO (by simp only[sN,seval,h7])
 |cons name rest ih=>
  intro g e lc s q V hO S R P r2 g2 l2 h6 h7 D B A
  let⟨hlt,hat⟩:=cR V
  have a8:=λlc k=>hN.at bM.2.2.1 hat lc k;have a2:=cm (n:=J g) w_;have a9:=ho.gt;have q1:=aFC ho hg (by have:=hw.len;omega) name;have eo:t6 l name=jb l name:=by unfold t6;rw[hw.valid];rfl
  rw[eo]at q1
  let⟨mc,ms⟩:=ax2 (jb l name)
  have b2:=hC.gt;have b1:∀mk s',fN ag mk 70 cv s'=X (ah ((5:Nat):Int)):=hC.lenS L6;have a3:(g.flatMap (nm l rl)).length+(nm l rl name).length<=900000000:=by
   have a:=Tt (rl:=rl) hw.len g;have b:=afp (rl:=rl) (name:=name) hw.len;have c:J g*3000000<=200*3000000:=md _ w_;omega
  refine aF ?_;simp only[go_sem,seval,QX,aw,r2,g2,l2,h6,D,B,A,hlt,a8,a9,b0,q1,mc,ms,b2,b1];refine ajg (name:=name) (cs:=C6 (jb l name) rl rb) hC (by show 5<=1000;decide) (lo:=lo) (rb:=rb) (wc:=wc) a4 (ov:=ov) (mv:=vF (jb l name)) (nv:=nv) mc ms (s0:=s0) a5 (hc name) (bse:=g.flatMap (nm l rl)) (by rw[adh];exact a3) (g10:=lc.gen 10+1) (nn:=J N) (i:=J g) ?_ (C6 (jb l name) rl rb) [] _ _ s q rfl (by simp_all [pL]) S R P ?_ ⟨?_,?_,?_,?_,?_,?_,?_,?_,?_,?_,?_,?_,?_,?_⟩
  ·intro e2 b4 s2 a0 b5 a1 m2 o2 c7 F
   have b3:=F.h26;simp only[go_sem,seval,b3,a2];refine ih (g++[name]) _ _ s2 a0 (db V) ?_ a1 m2 o2 ?_ F.g2 F.l2 ?_ ?_ ?_ ?_ ?_
   grind [adh]
   all_goals simp only[sN,seval,c7,F.h2,F.h6,F.h24,F.h25,sA]
  all_goals simp only[sL,seval,r2,g2,l2,h6,h7,D,B,A,bC]
  all_goals rfl
def ai5(B:Q.spec 20=X gI)(b6:Q.spec 27=X Cp)(b0:Q.spec 23=X Es)(a9:Q.spec 24=X C3)(a8:Q.spec 25=X D7)(a7:Q.spec 26=X D9)(b2:Q.spec 22=X An)(F:No Q 21)(b8:No Q 7)(ho:au 6 Obj.val ov l)(hg:∀o∈l,o.AL)(a4:J l<small)(hw:bm l=O->wP l){V S R P:aa}(hV:au 1 aw vv views)(c0:J views<=200){rl:vy}(a5:au 8 aW.val rv rl)(ok:∀x∈rl,x.Ok)(a6:J rl<=1000000)(hm:s.gE<=s.aL):
 ∃v s',ai Q 7 [.agg [ov],.agg [V,S,R,P,vv,rv]] s v s'/\fF s'.heap v (fG 3 (tm l views rl)):=by
 have A:=ho.cs;have a0:=hV.gt;have D:=xP ho hg a4
 let⟨z,hz,zn,zm,_,zg⟩:=oL (.cells [V,S,R,P,vv,rv]) hm
 refine ai.ofNRZ auW (aM ?_);cases hmv:bm l with
 |false=>
  rw[hmv]at D;simp only[go_sem,seval,A,hz,B,D];refine⟨_,rfl,?_⟩;have:tm l views rl=[]:=by unfold tm;rw[hmv];rfl
  rw[this];exact⟨1,rfl⟩
 |true=>
  rw[hmv]at D;have W:=hw hmv
  let⟨nv,s2,b1,hN,b3,b4,b5⟩:=axh hV w_ zm
  have a3:=hN.gt;have a2:=hN.lenS bM;have hC:au 1 fV (.list 1 [.func (.func 23) [] [],.func (.func 24) [] [],.func (.func 25) [] [],.func (.func 26) [] [],.func (.func 21) [] [.ptr s.aL 0]] .GT) (Vq s.aL):=.inr ⟨.GT,rfl⟩;have b7:(aa.nilf).cells=[.nilf]:=rfl;simp only[go_sem,seval,b7,A,hz,B,D,FG,zg,a0,b1,a3,a2,L6,sB];refine aFF b6 ho hg W (rl:=rl) (rb:=s.aL) (lo:=s2.aL) w_ (wc:=[V,S,R,P,vv,rv]) hN (by rw[bP];omega) hC (s0:=s2) ((b5 _ w_).trans zg) (λname c hc s' hr=>ajh b0 a9 a8 a7 b2 F (ax3 _) (aFE hg name) (oC.2 (W.sub (H7 l name)).fine) a5 ok a6 c hc s' hr) ?_ ([]::views) [] _ _ s2 .Ge rfl (.inl R_) (aC _) b4 (λ_ _=>rfl) ?_ ?_ ?_ ?_ ?_ ?_ ?_ ?_;intro e lc s3 tv hO h7;have a1:=hO.gt;simp only[go_sem,seval,h7,a1];have e:tm l views rl=([]::views).flatMap (nm l rl):=by unfold tm;rw[hmv];rfl
  rw[e];refine⟨_,rfl,4,Bs hO λv g=>?_⟩
  let⟨name,_,g⟩:=uK.1 g
  let⟨L,_,g⟩:=uK.1 g
  obtain⟨q,_,rfl⟩:=cy.1 g;exact am8 _ _ _
  all_goals simp only[aah,bS,oD,ct,cN,bC]
  all_goals rfl
def TZ:dy:=[(20,gI),(27,Cp),(23,Es),(24,C3),(25,D7),(26,D9),(22,An)]
def af4:eh TZ:=.cons vB (.cons aFD (.cons aBw (.cons ah6 (.cons axt (.cons axu (.cons aB6 .nil))))))
def pK(l:ba):Bool:= !bm l||Jo l
def lI:Sp
 |[m,.agg [a,b,c,d,vv,rv]]=>(kY m).bind λl=>(ff 1 iV vv).bind λviews=>(rz rv).bind λrl=>bif pK l&&(decide (J views<=200)&&dR [a,b,c,d])then X (fG 3 (tm l views rl))else Z
 |_=>Z
def Vp{m a b c d:aa}{rl:vy}(A:kY m=X l)(g:ff 1 iV vv=X views)(q:rz rv=X rl)(h1:pK l=O)(D:J views<=200)(B:dR [a,b,c,d]=O):lI [m,.agg [a,b,c,d,vv,rv]]=X (fG 3 (tm l views rl)):=by
 simp only[aac,lI,A,g,q,h1,D,B,dT]
def NW:cW ag 7 lI:=by
 intro args u g G h w P R S;unfold lI at g;split at g;rename_i m a b c d vv rv;simp only[ak]at g
 let⟨l,D,views,q,rl,hrl,g⟩:=g
 let⟨hf,g⟩:=aZ g
 have g:=sI g;subst g;simp only[bg,dE]at hf
 let⟨hf1,hf2,hf3⟩:=hf
 obtain⟨v,rfl,D,F,V⟩:=qr D
 let⟨hrl,ok,hle⟩:=IQ hrl
 have q:=ku (λ_ _ h=>pg h) q
 let⟨ht,v',A,hl'⟩:=pJ D F
 let⟨ht2,hrl'⟩:=LO hrl ok
 let⟨ht3,hvw'⟩:=m6 pT q
 have A:di [.agg [v],.agg [a,b,c,d,vv,rv]]=[.agg [v'],.agg [cx a,cx b,cx c,cx d,cx vv,cx rv]]:=by simp only[di,cx,A];rw[<-A];simp only[cx,di]
 have B:bm l=O->wP l:=λe=>by
  unfold pK at hf1;rw[e]at hf1;exact Jp.1 (by simpa using hf1)
 simp only[dR,bg]at hf3;refine iQ af4 (W:=[]) .nil (args:=[.agg [v],.agg [a,b,c,d,vv,rv]]) (by
  have:dW (.agg [a,b,c,d,vv,rv])=O:=by
   simp only[dW,dR,hf3.1,hf3.2.1,hf3.2.2.1,hf3.2.2.2.1,ht2,ht3,bZ]
  simp only[dR,ht,this,bZ]) (λch=>?_) G h w P R S
 rw[A];exact ai5 (Q:=QW TZ [] ch) rfl rfl rfl rfl rfl rfl rfl R_ R_ hl' F V B hvw' hf2 hrl' ok hle d_;cases g
abbrev VE:=ae×VQ
def eY(p:VE):aa:=hJ p.1 p.2
def Be:aa->Option VE
 |.agg [.str n,.int .i64 k,.list 1 xs .no]=>(jB iV xs).bind λl=>X (n,k,l,O)
 |.agg [.str n,.int .i64 k,.list 1 xs .GT]=>(jB iV xs).bind λl=>X (n,k,l,I)
 |_=>Z
def US(p:VE):Be (eY p)=X p:=by
 let⟨n,k,l,b⟩:=p
 have h:=zZ oo l;cases b;show(jB iV (l.map aw)).bind _=_;rw[h];rfl;show(jB iV (l.map aw)).bind _=_;rw[h];rfl
variable{p:VE}
def IX(h:Be v=X p):v=eY p:=by
 unfold Be at h;split at h;simp only[ak,aQ]at h;obtain⟨l,g,rfl⟩:=h
 have:=Hb (λ_ _ h=>pg h) g;rw[this];rfl;simp only[ak,aQ]at h;obtain⟨l,g,rfl⟩:=h
 have:=Hb (λ_ _ h=>pg h) g;rw[this];rfl;cases h
def FR(p:VE):bn (eY p)=O:=by
 let⟨n,k,l,b⟩:=p
 have h:bn (.list 1 (l.map aw) (nR b))=O:=by rw[B5];cases b<;>rfl
 show(O&&(O&&(bn (.list 1 (l.map aw) (nR b))&&O)))=O;rw[h];rfl
def kx(p q:VE):Bool:=p.1==q.1&&(aj p.2.1 q.2.1&&tJ p.2.2.1 q.2.2.1)
abbrev Q3:=List VE
def qS:Q3->Q3->Bool
 |[],[]=>O
 |p::a,q::b=>kx p q&&qS a b
 |_,_=>I
def aei:∀{a b:Q3},qS a b=O->J a=J b
 |[],[],_=>rfl
 |[],_::_,h=>by cases h
 |_::_,[],h=>by cases h
 |p::a,q::b,h=>by
  simp only[qS,bg]at h;rw[bP,bP,aei h.2]
def pz(l:Q3):Bool:=l.all λp=>decide (J p.2.2.1<=1000000)
variable{u:aa}
def aCv(a4:Q.spec 28=X tK){a b:Q3}(ha:au 3 eY u a)(hb:au 3 eY v b)(hl:J a=J b)(a8:J a<=1000000000)(fa:pz a=O)(fb:pz b=O)(hm:s.gE<=s.aL)(hx:∀e,qS a b=O->K (.exit 0) ⟨e,55,lc⟩ s)(hr:∀e,qS a b=I->ac e 4=.bool I->K .ret ⟨e,55,lc⟩ s):
 ∀(V rb pa P:Q3)(e:ax),a=pa++V->b=P++rb->J pa=J P->qS a b=qS V rb->ac e 0=u->ac e 1=v->ac e 5=an (J pa)->W Q 30 (.loop DH) ⟨e,55,lc⟩ s K:=by
 intro V;have A:=ha.lenS iC;have g:=ha.gt;have D:=hb.gt
 induction V with
 |nil=>
  intro rb pa P e h1 h2 h3 h4 F r1 S;have a7:=cL h1;have a6:rb=[]:=by
   have:J b=J P+J rb:=by rw[h2];simp
   exact qY w_
  subst a6;refine aF ?_;simp only[go_sem,seval,DH,F,S,g,A,a7,bJ];exact hx _ h4
 |cons p V ih=>
  intro rb pa P e h1 h2 h3 h4 F r1 S;have B:J pa<J a:=by rw[h1];simp
  cases rb with
  |nil=>
   exfalso;have:J b=J P:=by rw[h2];simp
   omega
  |cons q rb=>
   have a3:a[pa.length]?=X p:=by rw[h1];simp
   have a0:b[pa.length]?=X q:=by rw[h2,h3];simp
   have i1:=λlc k=>ha.at iC.2.2.1 a3 lc k;have i2:=λlc k=>hb.at iC.2.2.1 a0 lc k;have a5:=cm (n:=J pa) w_;have f1:J p.2.2.1<=1000000:=by
    have:=fO.1 fa p (cq a3);simpa using this
   have f2:J q.2.2.1<=1000000:=by
    have:=fO.1 fb q (cq a0);simpa using this
   have q1:tK [.list 1 (p.2.2.1.map aw) (nR p.2.2.2),.list 1 (q.2.2.1.map aw) (nR q.2.2.2)]=X (.bool (tJ p.2.2.1 q.2.2.1)):=by
    have a1:=CT (v:=.list 1 (p.2.2.1.map aw) (nR p.2.2.2)) (.inr ⟨_,rfl⟩) (by rw[B5];cases p.2.2.2<;>rfl);have a2:=CT (v:=.list 1 (q.2.2.1.map aw) (nR q.2.2.2)) (.inr ⟨_,rfl⟩) (by rw[B5];cases q.2.2.2<;>rfl);have b1:aP (J p.2.2.1) 1000000=O:=bG f1;have b2:aP (J q.2.2.1) 1000000=O:=bG f2;simp only[aac,tK,a1,a2,b1,b2]
   have hs:qS a b=(kx p q&&qS V rb):=h4;refine aF ?_;cases e1:p.1==q.1 with
   |false=>
    have R:kx p q=I:=by unfold kx;rw[e1];rfl
    simp only[go_sem,seval,DH,F,S,g,A,B,r1,D,i1,i2,eY,hJ,e1,hm];exact hr _ (by rw[hs,R,lZ]) (by simp only[sN,seval])
   |true=>
    cases e2:aj p.2.1 q.2.1 with
    |false=>
     have R:kx p q=I:=by unfold kx;rw[e1,e2];rfl
     simp only[go_sem,seval,DH,F,S,g,A,B,r1,D,i1,i2,eY,hJ,e1,e2,hm];exact hr _ (by rw[hs,R,lZ]) (by simp only[sN,seval])
    |true=>
     cases e3:tJ p.2.2.1 q.2.2.1 with
     |false=>
      have R:kx p q=I:=by unfold kx;rw[e1,e2,e3];rfl
      rw[e3]at q1;simp only[go_sem,seval,DH,F,S,g,A,B,r1,D,i1,i2,eY,hJ,e1,e2,a4,q1,hm];exact hr _ (by rw[hs,R,lZ]) (by simp only[sN,seval])
     |true=>
      have R:kx p q=O:=by unfold kx;rw[e1,e2,e3];rfl
      rw[e3]at q1;simp only[go_sem,seval,DH,F,S,g,A,B];refine⟨hm,?_⟩;simp only[go_sem,seval,F,r1,S,g,D,i1,i2,eY,hJ,e1,e2,a4,q1,a5];refine ih rb (pa++[p]) (P++[q]) _ (db h1) (by rw[h2];simp) (by simp[h3]) (by rw[hs,R,jo]) ?_ ?_ ?_
      all_goals simp only[sN,seval,F,r1,sA]
def aCr(S:Q.spec 28=X tK)(V:No Q 30){a b:Q3}(R:au 3 eY u a)(F:au 3 eY v b)(P:J a<=1000000000)(fa:pz a=O)(fb:pz b=O)(hm:s.gE<=s.aL):ai Q 30 [u,v] s (.bool (qS a b)) s:=by
 have B:=R.lenS iC;have q:=F.lenS iC;have D:=R.gt;have A:=F.gt;refine ai.ofNZ atw (aM ?_);cases hn:aj ((J a:Nat):Int) ((J b:Nat):Int)with
 |false=>
  have g:qS a b=I:=by
   cases h:qS a b;rfl;rw[aei h]at hn;unfold aj at hn;simp at hn
  simp only[go_sem,seval,D,A,B,q,hn,g]
 |true=>
  have hl:J a=J b:=by
   have:=of_decide_eq_true hn;omega
  simp only[go_sem,seval,D,A,B,q,hn];refine aCv S R F hl P fa fb hm ?_ ?_ a b [] [] _ rfl rfl rfl rfl ?_ ?_ ?_;intro e g;simp only[go_sem,seval,g];intro e g h4;simp only[go_sem,seval,g,h4]
  all_goals simp only[sN,seval,bC]
  all_goals rfl
def SO:Sp
 |[u,v]=>(ff 3 Be u).bind λa=>(ff 3 Be v).bind λb=>bif aP (J a) 1000000000&&(pz a&&pz b)then X (.bool (qS a b))else Z
 |_=>Z
def Ng:dy:=[(28,tK)]
def Um:eh Ng:=.cons aqN .nil
def aCu:cW ag 30 SO:=by
 intro args x g G P w B D F;unfold SO at g;split at g;rename_i u v;simp only[ak]at g
 let⟨a,A,b,q,h⟩:=g
 let⟨hc,h⟩:=aZ h
 have h:=sI h;subst h;simp only[bg]at hc;have A:=ku (λ_ _ h=>IX h) A;have q:=ku (λ_ _ h=>IX h) q
 let⟨t1,a'⟩:=m6 FR A
 let⟨t2,b'⟩:=m6 FR q
 refine iQ Um (W:=[]) .nil (by simp only[dR,t1,t2,bZ]) (λR=>?_) G P w B D F;exact⟨_,_,aCr (Q:=QW Ng [] R) rfl R_ a' b' (gS hc.1) hc.2.1 hc.2.2 d_,⟨1,rfl⟩⟩;cases g
structure aK where
 op:Int
 id:ae
 other:ae
 node:ae
 x:Int
 y:Int
 key:ae
 value:ae
 refsV:aa
 gT:cf
 obj:Obj
def aK.cells(e:aK):az:=[ah e.op,.str e.id,.str e.other,.str e.node,ah e.x,ah e.y,.str e.key,.str e.value,e.refsV,.str e.obj.id,ah e.obj.Al,ah e.obj.x,ah e.obj.y,e.obj.refsV,e.obj.tagsV]
def aK.val(e:aK):aa:=.agg e.cells
structure aK.AL (e:aK):Prop where
 gT:au 1 aw e.refsV e.gT
 pr:bn e.refsV=true
 obj:e.obj.AL
 id:e.id.length<small
 other:e.other.length<small
 node:e.node.length<small
 key:e.key.length<small
 value:e.value.length<small
 reflen:e.gT.length<=1000000
 ref:∀r∈e.gT,r.length<small
def lu(Q:ay)(f:FuncId)(args:az)(s:St):Prop:=∃b:Bool,ai Q f args s (.bool b) s
variable{f:FuncId}
def lu.of[No Q f]{fn:Func}{B:SC}{t:Tmp}(P:ag.funcs[f]?=X fn)(S:fn.body.map dX=X B)(F:fn.ntmps=n)(D:fn.results.toList=[.tmp t])(h:W Q f B (vk n args) s λx A g=>(x=.normal\/x=.ret)/\∃b:Bool,ac A.env t=.bool b/\g=s):lu Q f args s:=by
 obtain⟨v,s',q,b,rfl,rfl⟩:=ai.ofNR (R:=λv s'=>∃b:Bool,v=.bool b/\s'=s) P S F D (h.mono λx fr g ⟨q,b,h2,V⟩=>⟨q,.bool b,by
  let⟨vs,q1,q2⟩:=adX (Q:=Q) (s:=g) h2 rfl
  rw[q1];exact congrArg X q2,b,rfl,V⟩)
 exact⟨b,q⟩
def axc(g:Q.spec 84=X jq)(q:No Q 185){v:ae}(B:J v<small)(s:St):ai Q 185 [.str v] s (.bool (!eA v)) s:=by
 have A:=xR B;refine ai.ofNZ asH (aM ?_);simp only[go_sem,seval,g,A]
def amZ(a b c d B A q g:ae):cP ag .eql 284 (.agg [.str a,.str b,.str c,.str d]) (.agg [.str B,.str A,.str q,.str g])=X (.bool ((a==B)&&((b==A)&&((c==q)&&(d==g))))):=by
 have h:cP ag .eql 284 (.agg [.str a,.str b,.str c,.str d]) (.agg [.str B,.str A,.str q,.str g])=((X (a==B)).bind λr=>bif r then(X (b==A)).bind λr=>bif r then(X (c==q)).bind λr=>bif r then(X (d==g)).bind λr=>bif r then X O else X I else X I else X I else X I).bind λr=>X (.bool r):=k_
 rw[h];cases a==B<;>cases b==A<;>cases c==q<;>cases d==g<;>rfl
def tW:Sp
 |[v]=>(ff 1 iV v).bind λl=>bif aP (J l) 1000000&&l.all (λx=>bq (J x) small)then X (.bool (l.all eA))else Z
 |_=>Z
variable{l:cf}
def RM(h:au 1 aw v l)(B:J l<=1000000)(A:∀x∈l,J x<small):tW [v]=X (.bool (l.all eA)):=by
 have q:l.all (λx=>bq (J x) small)=O:=fO.2 λx g=>bG (A x g);simp only[aac,tW,oI oo h,bG B,q]
variable{sv:aa}
section
variable{Q:ay}[Std Q]
def axi(B:Q.spec 84=X jq)(g:No Q 185)(q:No Q 135)(A:No Q 88)(P:No Q 118)(R:au 1 aw sv l)(V:J l<=1000000)(D:∀v∈l,J v<small)(s:St):ai Q 118 [sv] s (.bool (l.all eA)) s:=by
 have F:=R.cs;have e:(!l.any λv=> !eA v)=l.all eA:=by rw[List.all_eq_not_any_not]
 refine ai.ofNZ arX (aM ?_);simp only[go_sem,seval,F];refine aU.of (Gc q A R V g.s λv S=>axc B g (D v S) s) d_ ?_;simp only[go_sem,seval,e]
end
def T9:dy:=[(84,jq)]
def aga:eh T9:=.cons Hi .nil
def ace:cW ag 118 tW:=by
 intro args u g G h w q A B;unfold tW at g;split at g;simp only[ak]at g
 let⟨l,h1,g⟩:=g
 let⟨h2,g⟩:=aZ g
 simp only[bg,fO]at h2;have g:=sI g;subst g;have hi:=ku (λv a=>pg) h1
 let⟨ht,hi'⟩:=m6 pT hi
 refine iQ aga (W:=[]) .nil (by simp only[dR,ht,bZ]) (λD=>?_) G h w q A B;exact⟨_,_,axi (Q:=QW T9 [] D) rfl R_ R_ R_ R_ hi' (gS h2.1) (λv g=>gS (h2.2 v g)) s0,⟨1,rfl⟩⟩;cases g
def lu.k(h:lu Q f args s)(q:d<sz)(g:∀b,C ⟨e.set d (X (.bool b)),sz,lc⟩ s):aU Q f args d e sz lc s C:=by
 let⟨b,h⟩:=h
 exact aU.of h q (g b)
attribute[go_sem]PJ aqp P6 ap4 Zj apx
def adq(a b c d:ae):cP ag .neq 103 (.agg [.str a,.str b]) (.agg [.str c,.str d])=X (.bool !(bif a==c then bif b==d then O else I else I)):=by
 have h:cP ag .neq 103 (.agg [.str a,.str b]) (.agg [.str c,.str d])=((X (a==c)).bind λr=>bif r then(X (b==d)).bind λr=>bif r then X O else X I else X I).bind λr=>X (.bool !r):=k_
 rw[h];cases a==c<;>cases b==d<;>rfl
def ak3{r:cf}(hl:au 1 aw v l)(hu:au 1 aw u r)(D:J l=J r)(V:J l<small)(hm:s.gE<=s.aL)(hx:∀e,K (.exit 0) ⟨e,26,lc⟩ s)(hr:∀e,ac e 4=.bool I->K .ret ⟨e,26,lc⟩ s):
 ∀(n i:Nat)(e:ax),i+n=J l->ac e 0=v->ac e 1=u->ac e 12=an (J l)->ac e 13=an i->W Q 186 (.loop PK) ⟨e,26,lc⟩ s K:=by
 have a2:=aab;have S:=hl.gt;have R:=hu.gt;have lt:=iZ hm;intro n
 induction n with
 |zero=>
  intro i e h1 e0 e1 A g;have a1:i=J l:=h1;refine aF ?_;simp only[go_sem,seval,PK,A,g,a1,bJ];exact hx _
 |succ n ih=>
  intro i e h1 e0 e1 A g;have B:i<J l:=w_
  obtain⟨o,ho⟩:∃o,l[i]?=X o:=⟨_,dA B⟩;obtain⟨q,hq⟩:∃q,r[i]?=X q:=⟨_,dA (D▸B)⟩;have P:=λlc k=>hl.at bM.2.2.1 ho lc k;have F:=λlc k=>hu.at bM.2.2.1 hq lc k;have a0:=yy (n:=i) w_;refine aF ?_;simp only[go_sem,seval,PK,A,g,B];refine⟨hm,?_⟩;cases hb:o==q with
  |false=>
   simp only[go_sem,seval,e0,e1,g,S,R,P,F,aw,hb,lt];exact hr _ (by simp only[sN,seval])
  |true=>
   simp only[go_sem,seval,e0,e1,g,S,R,P,F,aw,hb,lt,a0];refine ih (i+1) _ w_ ?_ ?_ ?_ ?_<;>simp only[sN,seval,e0,e1,A]
def ak0{l r:wf}(hl:au 2 bW v l)(hu:au 2 bW u r)(D:J l=J r)(V:J l<small)(hm:s.gE<=s.aL)(hx:∀e,K (.exit 0) ⟨e,26,lc⟩ s)(hr:∀e,ac e 4=.bool I->K .ret ⟨e,26,lc⟩ s):
 ∀(n i:Nat)(e:ax),i+n=J l->ac e 0=v->ac e 1=u->ac e 12=an (J l)->ac e 13=an i->W Q 254 (.loop P7) ⟨e,26,lc⟩ s K:=by
 have a2:=aab;have S:=hl.gt;have R:=hu.gt;have lt:=iZ hm;intro n
 induction n with
 |zero=>
  intro i e h1 e0 e1 A g;have a1:i=J l:=h1;refine aF ?_;simp only[go_sem,seval,P7,A,g,a1,bJ];exact hx _
 |succ n ih=>
  intro i e h1 e0 e1 A g;have B:i<J l:=w_
  obtain⟨o,ho⟩:∃o,l[i]?=X o:=⟨_,dA B⟩;obtain⟨q,hq⟩:∃q,r[i]?=X q:=⟨_,dA (D▸B)⟩;have P:=λlc k=>hl.at kh.2.2.1 ho lc k;have F:=λlc k=>hu.at kh.2.2.1 hq lc k;have a0:=yy (n:=i) w_;refine aF ?_;simp only[go_sem,seval,P7,A,g,B];refine⟨hm,?_⟩;cases hb:(bif o.1==q.1 then bif o.2==q.2 then O else I else I)with
  |false=>
   simp only[go_sem,seval,e0,e1,g,S,R,P,F,bW,nq,adq,hb,lt];exact hr _ (by simp only[sN,seval])
  |true=>
   simp only[go_sem,seval,e0,e1,g,S,R,P,F,bW,nq,adq,hb,lt,a0];refine ih (i+1) _ w_ ?_ ?_ ?_ ?_<;>simp only[sN,seval,e0,e1,A]
def Wa(S:No Q 186){r:cf}(P:au 1 aw v l)(F:au 1 aw u r)(g:J l<small)(V:s.gE<=s.aL):lu Q 186 [v,u] s:=by
 have A:=P.lenS bM;have q:=F.lenS bM;have D:=P.gt;have B:=F.gt;have R:aj (J l:Int) (J r:Int)=(J l==J r):=zP _ _;refine lu.of JY.1 JY.2 JY.3 JY.4 (aM ?_);cases hb:J l==J r with
 |false=>
  simp only[go_sem,seval,D,B,A,q,R,hb];exact⟨_,rfl⟩
 |true=>
  simp only[go_sem,seval,D,B,A,q,R,hb];refine ak3 P F (by simpa using hb) g V (λe=>?_) (λe e4=>?_) (J l) 0 _ (dS _) ?_ ?_ ?_ ?_;simp only[go_sem,seval];exact⟨_,rfl⟩;simp only[go_sem,seval,e4];exact⟨_,rfl⟩
  all_goals first|(simp only[sN,seval];done)|(simp only[sN,seval];rfl)|rfl
def akZ(R:No Q 254){l r:wf}(P:au 2 bW v l)(F:au 2 bW u r)(g:J l<small)(V:s.gE<=s.aL):lu Q 254 [v,u] s:=by
 have A:=P.lenS kh;have q:=F.lenS kh;have D:=P.gt;have B:=F.gt;have S:aj (J l:Int) (J r:Int)=(J l==J r):=zP _ _;refine lu.of Kd.1 Kd.2 Kd.3 Kd.4 (aM ?_);cases hb:J l==J r with
 |false=>
  simp only[go_sem,seval,D,B,A,q,S,hb];exact⟨_,rfl⟩
 |true=>
  simp only[go_sem,seval,D,B,A,q,S,hb];refine ak0 P F (by simpa using hb) g V (λe=>?_) (λe e4=>?_) (J l) 0 _ (dS _) ?_ ?_ ?_ ?_;simp only[go_sem,seval];exact⟨_,rfl⟩;simp only[go_sem,seval,e4];exact⟨_,rfl⟩
  all_goals first|(simp only[sN,seval];done)|(simp only[sN,seval];rfl)|rfl
def aCt(B:No Q 186)(g:No Q 254)(F:No Q 187){q:Obj}(A:o.AL)(D:q.AL)(P:s.gE<=s.aL):lu Q 187 [o.val,q.val] s:=by
 have c1:=A.all;have R:=D.all;have V:=Wa B A.gT D.gT A.reflen P;have S:=akZ g A.uP D.uP A.taglen P;refine lu.of JZ.1 JZ.2 JZ.3 JZ.4 (aM ?_);cases h1:o.id==q.id<;>cases h2:aj o.Al q.Al<;>cases h3:(bif aj o.x q.x then bif aj o.y q.y then O else I else I)<;>simp only[go_sem,seval,Obj.val,Obj.cells,c1,R,h1,h2,h3,Lz]
 all_goals first|exact⟨_,rfl⟩|skip
 refine V.k d_ λb=>?_;cases b;simp only[go_sem,seval];exact⟨_,rfl⟩;simp only[go_sem,seval,c1,R];refine S.k d_ λb=>?_;simp only[go_sem,seval];exact⟨_,rfl⟩
set_option maxRecDepth 100000 in
def aCs(g:No Q 186)(q:No Q 254)(A:No Q 187)(S:No Q 119){a b:aK}(P:a.AL)(R:b.AL)(hm:s.gE<=s.aL):lu Q 119 [a.val,b.val] s:=by
 have B:=P.gT.cs;have rb:=R.gT.cs;have F:=P.obj.all;have D:=R.obj.all;have r1:=Wa g P.gT R.gT (by have:=P.reflen;have:small=9223372036854775808:=rfl;omega) hm;have V:=aCt g q A P.obj R.obj hm;simp only[Obj.val,Obj.cells]at V;refine lu.of JS.1 JS.2 JS.3 JS.4 (aM ?_);simp only[go_sem,seval,aK.val,aK.cells,B,rb,F,D];refine r1.k d_ λb1=>?_;cases b1;simp only[go_sem,seval,B,rb,F,D];exact⟨_,rfl⟩;simp only[go_sem,seval,B,rb,F,D];refine V.k d_ λb2=>?_;cases b2;simp only[go_sem,seval,B,rb,F,D];exact⟨_,rfl⟩;cases e3:aj a.op b.op<;>cases e4:((a.id==b.id)&&((a.other==b.other)&&((a.node==b.node)&&(a.key==b.key))))<;>cases e5:a.value==b.value<;>
 (simp only[go_sem,seval,B,rb,F,D,e3,e4,e5,amZ,Lz,dL];exact⟨_,rfl⟩)
variable{N:mm}{e0:aK}
def aAB(B:No Q 186)(g:No Q 254)(q:No Q 187)(A:No Q 119)(hm:s.gE<=s.aL){a:aK}(F:a.AL)(D:e0.AL){b:Bool}(h1:ac e 1=.Gt 1 1 0)(h3:ac e 3=.Gt 3 1 0)(V:ac e 4=.bool b)(g1:lc.gen 1=1)(g3:lc.gen 3=1)(R:lc.get 1 1=X e0.cells)(P:lc.get 3 1=X a.cells)(S:∀e' b,ac e' 2=.bool b->N ⟨e',132,lc⟩ s):
 WV Q 73 aaT ⟨e,132,lc⟩ s N:=by
 have run:=aCs B g q A F D hm;have r1:=D.gT.cs;have r3:=F.gT.cs;have o1:=D.obj.all;have o3:=F.obj.all;simp only[aK.val,aK.cells]at run R P;cases b;simp only[go_sem,seval,aaT,V];refine S _ I ?_;simp only[sN,seval];simp only[go_sem,seval,aaT,h1,h3,V,g1,g3,R,P,r1,r3,o1,o3];refine run.k d_ λb=>?_;simp only[go_sem,seval];refine S _ b ?_;simp only[sN,seval]
def t0:Obj:=⟨[],0,0,0,.Ge,.Ge,[],[]⟩
def BN:t0.AL:=⟨⟨.inl R_,.inl R_,d_,d_,(λ_ h=>by cases h),d_,λ_ h=>by cases h⟩,rfl,rfl⟩
set_option maxRecDepth 100000 in
set_option maxHeartbeats 4000000 in
def Ts(a6:Q.spec 43=X qN)(A:Q.spec 118=X tW)(a5:No Q 186)(a0:No Q 254)(a1:No Q 187)(a2:No Q 119)(a8:No Q 73)(q:e0.AL)(S:s.gE<=s.aL):lu Q 73 [e0.val] s:=by
 have F:=q.gT.cs;have rl:=q.gT.lenS bM;have P:=q.obj.all;have B:=iZ S;have one:∀{b:ae},J b<small->tW [.list 1 [.str b] .GT]=X (.bool ([b].all eA)):=λhb=>RM (.inr ⟨.GT,rfl⟩) (by simp) (λx hx=>by rw[kq]at hx;subst hx;exact hb);have R:=one q.id;have n2:=one q.key;have n3:=one q.other;have n4:tW [.list 1 [.str e0.node,.str e0.other] .GT]=X (.bool ([e0.node,e0.other].all eA)):=RM (.inr ⟨.GT,rfl⟩) (by simp) (λx hx=>by
  simp only[dD,nZ,or_false]at hx;rcases hx with rfl|rfl
  exact q.node;exact q.other)
 have n5:=RM q.gT q.reflen q.ref;have a3:=K8 q.obj;simp only[Obj.val,Obj.cells]at a3;have z:([]:ae).length<small:=d_
 have V:∀b:ae,F9 (.str b)=cz.none:=λ_=>rfl;have gr:F9 e0.refsV=cz.none:=by rcases q.gT with⟨h,_⟩|⟨_,h⟩<;>rw[h]<;>rfl
 have fin:∀{a:aK}{e:ax}{lc:Ag.Loc},a.AL->(h:ac e 1=.Gt 1 1 0/\ac e 3=.Gt 3 1 0/\lc.gen 1=1/\lc.gen 3=1/\lc.get 1 1=X e0.cells/\lc.get 3 1=X a.cells/\∃b,ac e 4=.bool b:=by
  simp only[sG,seval,aK.cells,t0];exact⟨trivial,trivial,trivial,trivial,trivial,trivial,_,rfl⟩)->WV Q 73 aaT ⟨e,132,lc⟩ s λfr s1=>WC Q 73 .ret fr s1 λx a7 s1=>(x=.normal\/x=.ret)/\∃b,ac a7.env 2=.bool b/\s1=s:=λ{a e lc} ga ⟨h1,h3,g1,g3,l1,l3,b,h4⟩=>aAB a5 a0 a1 a2 S ga q h1 h3 h4 g1 g3 l1 l3 λe b h=>by
  simp only[go_sem,seval,h];exact⟨_,rfl⟩
 have G:∀{o:Obj}{op x y:Int}{id D node a4 value:ae},o.AL->J id<small->J D<small->J node<small->J a4<small->J value<small->aK.AL ⟨op,id,D,node,x,y,a4,value,.Ge,[],o⟩:=λb c d e f g=>⟨.inl R_,rfl,b,c,d,e,f,g,fT _,λ_ h=>by cases h⟩;refine lu.of KJ.1 KJ.2 KJ.3 KJ.4 (aM ?_);cases e1:aj e0.op 1 with
 |true=>
  simp only[go_sem,seval,aK.val,aK.cells,F,P,A,R,e1,sB,rl,B,V,gr,a6,a3,S];exact fin (a:=⟨e0.op,[],[],[],0,0,[],[],.Ge,[],e0.obj⟩) (G q.obj z z z z z)
 |false=>
 cases e2:aj e0.op 2 with
 |true=>
  cases b1:[e0.id].all eA<;>cases c1:bT 0 (min e0.x e0.y)<;>
  (simp only[go_sem,seval,aK.val,aK.cells,F,P,A,R,e1,e2,b1,sB,rl,B,V,gr,c1,tf,rF,S];exact fin (a:=⟨e0.op,e0.id,[],[],e0.x,e0.y,[],[],.Ge,[],t0⟩) (G BN q.id z z z z))
 |false=>
 cases e3:aj e0.op 3 with
 |true=>
  cases b1:[e0.id].all eA<;>cases c1:[e0.key].all eA<;>
  (simp only[go_sem,seval,aK.val,aK.cells,F,P,A,R,e1,e2,e3,b1,sB,rl,B,V,gr,c1,n2,S];exact fin (a:=⟨e0.op,e0.id,[],[],0,0,e0.key,e0.value,.Ge,[],t0⟩) (G BN q.id z z q.key q.value))
 |false=>
 cases e4:aj e0.op 4 with
 |true=>
  cases b1:[e0.id].all eA<;>cases c1:aR 0 (J e0.gT:Nat)<;>cases c2:bT (J e0.gT:Nat) 2000<;>
  (simp only[go_sem,seval,aK.val,aK.cells,F,P,A,R,e1,e2,e3,e4,b1,sB,rl,B,V,gr,c1,c2,n5,S];exact fin (a:=⟨e0.op,e0.id,[],[],0,0,[],[],e0.refsV,e0.gT,t0⟩) ⟨q.gT,q.pr,BN,q.id,z,z,z,z,q.reflen,q.ref⟩)
 |false=>
 cases e5:aj e0.op 5 with
 |true=>
  simp only[go_sem,seval,aK.val,aK.cells,F,P,A,R,e1,e2,e3,e4,e5,sB];exact fin (a:=⟨e0.op,e0.id,[],[],0,0,[],[],.Ge,[],t0⟩) (G BN q.id z z z z)
 |false=>
 cases e6:aj e0.op 6 with
 |true=>
  cases b1:[e0.id].all eA<;>
  (simp only[go_sem,seval,aK.val,aK.cells,F,P,A,R,e1,e2,e3,e4,e5,e6,b1,sB,rl,B,V,gr,n4,S];exact fin (a:=⟨e0.op,e0.id,e0.other,e0.node,0,0,[],[],.Ge,[],t0⟩) (G BN q.id q.other q.node z z))
 |false=>
 cases e7:aj e0.op 7 with
 |true=>
  cases b1:[e0.id].all eA<;>
  (simp only[go_sem,seval,aK.val,aK.cells,F,P,A,R,e1,e2,e3,e4,e5,e6,e7,b1,sB,rl,B,V,gr,n3,S];exact fin (a:=⟨e0.op,e0.id,e0.other,[],0,0,[],[],.Ge,[],t0⟩) (G BN q.id q.other z z z))
 |false=>
 simp only[go_sem,seval,aK.val,aK.cells,F,P,A,R,e1,e2,e3,e4,e5,e6,e7,sB];exact⟨_,rfl⟩
structure CL (Q:ay):Prop where
 h75:Q.spec 43=some qN
 h269:Q.spec 118=some tW
 w70:No Q 186
 w373:No Q 254
 w279:No Q 187
variable{e:aK}
def axK(H:CL Q)(g:No Q 119)(q:No Q 73)(B:No Q 81)(A:e.AL)(P:s.gE<=s.aL):lu Q 81 [e.val] s:=by
 have D:=A.gT.cs;have F:=A.obj.all;have run:=Ts H.h75 H.h269 H.w70 H.w373 H.w279 g q A P;simp only[aK.val,aK.cells]at run;refine lu.of KL.1 KL.2 KL.3 KL.4 (aM ?_);simp only[go_sem,seval,aK.val,aK.cells,D,F];refine run.k d_ λb=>?_;simp only[go_sem,seval];exact⟨_,rfl⟩
variable{lv:aa}
abbrev MB:=List aK
def aFy(H:CL Q)(B:No Q 119)(R:No Q 73)(g:No Q 81)(F:No Q 133)(S:No Q 80)(a0:No Q 38){l:MB}(hl:au 15 aK.val lv l)(hg:∀e∈l,e.AL)(hm:s.gE<=s.aL):lu Q 38 [lv] s:=by
 have A:=hl.cs;have q:=hl.lenS nk;have hb:J l<=1000000->lu Q 80 [lv,.func (.func 81) [] []] s:=λV=>by
  let⟨v,s',h1,h⟩:=Xa aiU S aqY F nk hl (EK V) (λx _=>⟨(adO _ 0).trans rfl,rfl⟩) g.s (cap:=[]) (s:=s) (P:=λ_ s'=>s'=s) (D:=λs'=>s'=s) (λi x s' hi h=>by
   subst h
   let⟨b,hr⟩:=axK H B R g (hg x (cq hi)) hm
   exact⟨b,_,hr,λ_=>rfl,λ_=>rfl⟩) rfl
  rcases h with⟨rfl,rfl⟩|⟨rfl,rfl⟩<;>exact⟨_,h1⟩
 refine lu.of GK.1 GK.2 GK.3 GK.4 (aM ?_);cases c1:aR 0 (J l:Nat);simp only[go_sem,seval,A,q,c1];exact⟨_,rfl⟩;cases c2:bT (J l:Nat) 200;simp only[go_sem,seval,A,q,c1,c2];exact⟨_,rfl⟩;simp only[go_sem,seval,A,q,c1,c2];refine(hb (by have:=of_decide_eq_true c2;omega)).k d_ λb=>?_;simp only[go_sem,seval];exact⟨_,rfl⟩
def aF8(q:No Q 39)(g:e.AL)(s:St):∃ws:cf,ai Q 39 [e.val] s (.list 1 (ws.map aw) .GT) s/\J ws<=2:=by
 have A:=g.gT.cs;have B:=g.obj.all
 suffices h:∃v s',ai Q 39 [e.val] s v s'/\∃ws:cf,v=.list 1 (ws.map aw) .GT/\s'=s/\J ws<=2 by
  obtain⟨_,_,h,ws,rfl,rfl,D⟩:=h;exact⟨ws,h,D⟩
 refine ai.ofNRZ atD (aM ?_);cases e1:aj e.op 1<;>cases e6:aj e.op 6<;>cases e7:aj e.op 7<;>
 (simp only[go_sem,seval,aK.val,aK.cells,A,B,e1,e6,e7,sB];first|exact⟨_,rfl,[_],rfl,by simp⟩|exact⟨_,rfl,[_,_],rfl,by simp⟩)
variable{c m:Nat}
def CQ{t:Nat}{g:Bool}{z:aa}(F:eE ag t 1 b g z){l:Nat}(hi:i<l)(lc:Ag.Loc):gm ag lc t (.arr 1 m 0 l c) (an i)=X (.ptr m i):=by
 have h:=F.2.2.2.1 lc 1 m 0 l c (an i);have q:bq i l=O:=bG hi;rw[h,nP,aG,q];simp
structure uT (s:St) (bx r m c:Nat) (up:be):Prop where
 box:s.get [] bx=some (.cells [.arr 1 r 0 up.length c,.map m])
 row:s.get [] r=some (.cells (up.map λi=>an i))
 le:∀(i v:Nat),up[i]?=some v->v<=i
def ad6{up:be}{v:Nat}(h:up[i]?=X v):((up.map λi=>an i).drop i).head?=X (an v):=by
 rw[AV,ix,h];rfl
variable{bx:Nat}
def Tn(a1:No Q 42){r:Nat}{up:be}(S:uT s bx r m c up)(hi:i<J up):∃t,t<=i/\up[t]?=X t/\(up[i]?=X i->t=i)/\ai Q 42 [.ptr bx 0,an i] s (an t) s:=by
 have hb:=S.box;have hr:=S.row;have B:∀(d i:Nat),i<=d->i<J up->∃t,t<=i/\up[t]?=X t/\(up[i]?=X i->t=i)/\∀(e:ax)(K:hP),ac e 0=.ptr bx 0->ac e 1=an i->(∀e',ac e' 1=an t->K (.exit 0) ⟨e',22,[]⟩ s)->W Q 42 (.loop Ko) ⟨e,22,[]⟩ s K:=by
  intro d
  induction d with
  |zero=>
   intro i hd hi;obtain⟨v,q⟩:∃v,up[i]?=X v:=⟨_,dA hi⟩;have V:v=i:=by have:=S.le i v q;omega
   have P:=λlc=>CQ iO hi (m:=r) (c:=c) lc;have F:=ad6 q;subst V;refine⟨v,aC _,q,λ_=>rfl,λe K A g D=>?_⟩;refine aF ?_;simp only[go_sem,seval,Ko,A,g,hb,hr,P,F,DC];exact D _ (by simp only[sN,seval,g])
  |succ d ih=>
   intro i hd hi;obtain⟨v,q⟩:∃v,up[i]?=X v:=⟨_,dA hi⟩;have a2:=S.le i v q;have P:=λlc=>CQ iO hi (m:=r) (c:=c) lc;have F:=ad6 q;cases hq:aj v i;have a0:v≠i:=λh=>by rw[h,DC]at hq;cases hq
   let⟨t,ht,hr0,_,hk⟩:=ih v w_ w_
   refine⟨t,w_,hr0,λh=>absurd (sI (q.symm.trans h)) a0,λe K A g D=>?_⟩;refine aF ?_;simp only[go_sem,seval,Ko,A,g,hb,hr,P,F,hq];exact hk _ _ (by simp only[sN,seval,A]) (by simp only[sN,seval]) D;have R:v=i:=by
    have h:(v:Int)=i:=by simpa[aj]using hq
    omega
   refine⟨i,aC _,by rw[q,R],λ_=>rfl,λe K A g D=>?_⟩;refine aF ?_;simp only[go_sem,seval,Ko,A,g,hb,hr,P,F,hq];exact D _ (by simp only[sN,seval,g])
 let⟨t,ht,hr0,hr1,hk⟩:=B i i (aC _) hi
 refine⟨t,ht,hr0,hr1,?_⟩;obtain⟨v,s',g,rfl,rfl⟩:∃v s',ai Q 42 [.ptr bx 0,an i] s v s'/\v=an t/\s'=s:=by
  refine ai.ofNRZ atH (aM ?_);simp only[go_sem,seval];refine hk _ _ (by simp only[sN,seval]) (by simp only[sN,seval]) λe' g=>?_;simp only[go_sem,seval,g];exact⟨_,rfl,rfl⟩
 exact g
def aBY{up:be}(h:i<J up)(v:Nat):decide (i+1<=(up.map λi=>an i).length)=O/\(up.map λi=>an i).take i++aa.int .i64 v::(up.map λi=>an i).drop (i+1)=(up.set i v).map λi=>an i:=by
 rw[List.map_set,TH];simp[h];omega
def uT.ne{r:Nat}{up:be}(S:uT s bx r m c up):bx≠r:=λh=>by
 have g:=S.box;rw[h,S.row]at g;cases up<;>simp[an]at g
theorem uT.put{r:Nat}{up:be}(S:uT s bx r m c up){v:Nat}(g:v<=i):uT (s.put r (X (.cells ((up.set i v).map λi=>an i)))) bx r m c (up.set i v) where
 box:=by
  rw[oE,qb,S.box];have:(bx==r)=I:=by simpa using S.ne
  rw[this];rfl
 row:=by rw[oE];simp
 le:=λj w h=>by
  rw[Il]at h;split at h
  ·next h1=>
   subst h1;split at h;cases h;exact g;cases h
  exact S.le j w h
def arx(q:No Q 42)(B:No Q 40){r:Nat}{up:be}(S:uT s bx r m c up)(P:a<J up)(F:b<J up):∃g:be,J g=J up/\uT (s.put r (X (.cells (g.map λi=>an i)))) bx r m c g/\ai Q 40 [.ptr bx 0,an a,an b] s (.tup []) (s.put r (X (.cells (g.map λi=>an i)))):=by
 let⟨x,hx,_,_,rx⟩:=Tn q S P
 let⟨y,hy,_,_,ry⟩:=Tn q S F
 have V:=S.box;have R:=S.row;have A:max x y<J up:=w_
 have hi:=λlc=>CQ iO A (m:=r) (c:=c) lc;have D:=aBY A (min x y);have e1:max (x:Int) (y:Int)=((max x y:Nat):Int):=w_
 have e2:min (x:Int) (y:Int)=((min x y:Nat):Int):=w_
 refine⟨up.set (max x y) (min x y),by simp,S.put w_,?_⟩;obtain⟨v,s',g1,rfl,rfl⟩:∃v s',ai Q 40 [.ptr bx 0,an a,an b] s v s'/\v=.tup []/\s'=s.put r (X (.cells ((up.set (max x y) (min x y)).map λi=>an i))):=by
  refine ai.ofNRZ atF (aM ?_);simp only[go_sem,seval];refine aU.of rx d_ ?_;simp only[go_sem,seval];refine aU.of ry d_ ?_;simp only[go_sem,seval,V,R,rF,tf,e1,e2,hi,dh,dq,D];exact⟨_,rfl,rfl⟩
 exact g1
structure aW.OkS (x:aW):Prop where
 vals:au 1 aw x.valuesV x.values
 pv:bn x.valuesV=true
 area:x.area.length<small
 key:x.key.length<small
 ifK:x.ifK.length<small
 len:x.values.length<small
def aB8{l:vy}(h:au 8 aW.val v l)(q:∀x∈l,x.OkS):dW v=O/\au 8 aW.val (cx v) l:=by
 have g:pures (l.map aW.val)=O:=by
  rw[pures_all];intro v B;obtain⟨x,A,rfl⟩:=cy.1 B;simp only[aW.val,aW.cells,bn,pures,(q x A).pv,bZ]
 rcases h with⟨rfl,rfl⟩|⟨r,rfl⟩
 exact⟨rfl,.inl R_⟩;exact⟨by simpa[dW]using g,.inr (by
  simp only[cx,kF g];exact⟨_,rfl⟩)⟩
def EZ(l:ba)(rl:vy)(name:ae):Q3:=(zx (jb l name) rl).flatMap λL=>L.map λq=>(name,q)
theorem afn(l:ba)(rl:vy)(name:ae):nm l rl name=(EZ l rl name).map eY:=by
 unfold nm EZ;rw[List.map_flatMap];congr 1;funext L;rw[l9];rfl
def iW(l:ba)(views:cf)(rl:vy):Q3:=bif bm l then([]::views).flatMap (EZ l rl)else []
theorem Vo(l:ba)(views:cf)(rl:vy):tm l views rl=(iW l views rl).map eY:=by
 unfold tm iW;cases bm l;rfl;show([]::views).flatMap (nm l rl)=(([]::views).flatMap (EZ l rl)).map eY;rw[List.map_flatMap];congr 1
 grind [afn]
variable{l:ba}
def aja(h:bm l=O->J l<=900)(views:cf)(rl:vy):(iW l views rl).length<=(J views+1)*3000000:=by
 unfold iW;cases hv:bm l;exact fT _;have g:=Tt (rl:=rl) (h hv) ([]::views)
 simp_all [EZ,afn]
def vj:aa->Bool
 |.agg _=>I
 |.tup _=>I
 |.list _ xs _=>pures xs
 |v=>bn v
def Ju(h:vj v=O):dW v=O:=by
 cases v<;>first|exact h|(cases h;done)
def Jv(h:vj v=O):vj (cx v)=O:=by
 cases v with
 |list n g r=>
  have h:pures g=O:=h;simp only[cx,kF h];cases r<;>exact h
 |agg cs=>cases h
 |tup cs=>cases h
 |_=>rw[yu h];exact h
def pC(a b c d:aa):Bool:=vj a&&(vj b&&(vj c&&vj d))
def FW{a b c d:aa}(h:pC a b c d=O):dR [a,b,c,d]=O:=by
 simp only[pC,bg]at h;simp only[dR,Ju h.1,Ju h.2.1,Ju h.2.2.1,Ju h.2.2.2,bZ]
def Wz{a b c d:aa}(h:pC a b c d=O):pC (cx a) (cx b) (cx c) (cx d)=O:=by
 simp only[pC,bg]at h⊢;exact⟨Jv h.1,Jv h.2.1,Jv h.2.2.1,Jv h.2.2.2⟩
def amv{l:Q3}(h:∀p∈l,J p.2.2.1<=2):pz l=O:=by
 unfold pz;rw[fO];intro p g
 have:=h p g;exact dQ w_
variable{rl:vy}
def aje{L:o_}(A:L∈zx l rl){q:VQ}(g:q∈L):J q.2.1<=2:=by
 simp only[zx,dD,nZ,or_false]at A;rcases A with rfl|rfl|rfl|rfl|rfl
 obtain⟨o,_,rfl⟩:=cy.1 g;exact iy 1;obtain⟨k,_,rfl⟩:=cy.1 g;show(iL k).length<=2;unfold iL;cases k.1==k.2;exact aC 2;exact iy 1;rcases fJ.1 g with g|g
 obtain⟨o,_,rfl⟩:=cy.1 g;exact iy 1;obtain⟨o,_,rfl⟩:=cy.1 g;exact aC 2;rcases fJ.1 g with g|g
 obtain⟨o,_,rfl⟩:=cy.1 g;exact iy 1;obtain⟨o,_,rfl⟩:=cy.1 g;exact iy 1;obtain⟨o,_,rfl⟩:=cy.1 g;exact iy 1
def aFA{name:ae}(h:p∈EZ l rl name):J p.2.2.1<=2:=by
 let⟨L,hL,hp⟩:=uK.1 h
 obtain⟨q,g,rfl⟩:=cy.1 hp;exact aje hL g
def NS(h:p∈iW l views rl):J p.2.2.1<=2:=by
 unfold iW at h;cases hv:bm l;rw[hv]at h;cases h;rw[hv]at h
 let⟨n,_,hp⟩:=uK.1 h
 exact aFA hp
def aqL(a:cf):tJ a a=O:=by
 rw[aqK,aj0];rfl
structure CH (C l:ba):Prop where
 sub:C.Sublist l
 val:bm l=true
 at_:∀o∈C,∀r∈o.gT,cD r C=cD r l
def BO(g:bm l=O)(h:o∈l):cD o.id l=X o:=Ea (rQ g) h
namespace CH
variable{C l:ba}
def mem(P:CH C l)(h:o∈C):o∈l:=P.sub.subset h
def up(P:CH C l){r:ae}(h:cD r C=X o):cD r l=X o:=by
 obtain⟨g,rfl⟩:=oN h;exact BO P.val (P.mem g)
def Al(P:CH C l)(q:o∈C){r:ae}(g:r∈o.gT):m7 C r=m7 l r:=by
 unfold m7;rw[P.at_ o q r g]
def node(P:CH C l)(q:o∈C){r:ae}(g:r∈o.gT):dH C r=dH l r:=by
 unfold dH;rw[P.Al q g]
def pt(P:CH C l)(q:o∈C){r:ae}(g:r∈o.gT):eV C r=eV l r:=by
 unfold eV;rw[P.at_ o q r g]
end CH
theorem aDg{K:p0}{k:CK}:k∈qT K↔k∈K:=by
 grind [qT,we]
variable{Q:ay}[Std Q]
def rX(B:df)(l:cf):df:=l.foldl (λB k=>dp k (.bool O) B) B
def abg(l:cf):∀B,(rX B l).length<=J B+J l:=by
 induction l with
 |nil=>exact λB=>aC _
 |cons x l g=>
  intro B;have q:=g (dp x (.bool O) B);have A:(dp x (.bool O) B).length<=J B+1:=by
   rcases h:bR x B with _|u
   rw[rS h];simp;rw[Gj h];omega
  simp only[rX,List.foldl_cons,bP]at q⊢;omega
variable{l:cf}{p:Nat}
def aAn(hs:au 1 aw sv l)(hl:J l<=1000000){s0:St}(hp:s0.get [] p=X (.cells [.map a]))(S:p≠a):
 ∀(rest g:cf)(e:ax)(B:df)(s:St),l=g++rest->bf aa.str s a B->du a s0 s->(∀e s',bf aa.str s' a (rX B rest)->du a s0 s'->K (.exit 0) ⟨e,14,lc⟩ s')->ac e 1=.ptr p 0->ac e 5=sv->ac e 6=an (J l)->ac e 7=an (J g)->W Q 82 (.loop QZ) ⟨e,14,lc⟩ s K:=by
 intro rest;have a1:=hs.cs
 induction rest with
 |nil=>
  intro g e B s A hM q hK e1 e5 D e7;have V:=cL A;refine aF ?_;simp only[go_sem,seval,QZ,D,e7,V,bJ];exact hK _ _ hM q
 |cons x rest ih=>
  intro g e B s A hM q hK e1 e5 D e7
  let⟨hlt,hat⟩:=cR A
  have a0:=λlc k=>hs.at bM.2.2.1 hat lc k;have F:=cm (n:=J g) w_;have P:=lY gn D3 hM x (.bool O);have R:=(q.1 p S).trans hp;refine aF ?_;simp only[go_sem,seval,QZ,e1,e5,D,e7,hlt,a1,a0,R,P,aw,F];refine ih (g++[x]) _ _ _ (db A) rf (q.put _) hK ?_ ?_ ?_ ?_<;>simp only[sN,seval,e1,e5,D,sA]
def Sq(F:No Q 82)(g:au 1 aw sv l)(S:J l<=1000000)(P:s.get [] p=X (.cells [.map a]))(q:p≠a){B:df}(V:bf aa.str s a B)(R:s.gE<=s.aL):∃v s',ai Q 82 [sv,.ptr p 0] s v s'/\(v=.tup []/\bf aa.str s' a (rX B l)/\du a s s'):=by
 have D:=g.cs;have A:=g.lenS bM;refine ai.ofNRZ auY (aM ?_);simp only[go_sem,seval,D,A];refine aAn g S P q l [] _ B s rfl V (du.refl R) (λe s' h1 h2=>?_) ?_ ?_ ?_ ?_;simp only[go_sem,seval];exact⟨_,rfl,rfl,h1,h2⟩
 all_goals simp only[sN,seval,bC]
 all_goals rfl
def aK.ids(e:aK):cf:=[e.id,e.other,e.node,e.obj.id]++(e.gT++e.obj.gT)
def aEZ:ag.underlying 97=X (.map 9 4):=k_
def axg(hK:∀i,1000000<=Q.kmax i){it:Nat}{L:df}(b2:J L<1000000)(b1:∀p∈L,p.2=.bool O)(c1:it<lo)(c2:a<lo)(d1:a≠it){s0:St}{C:hP}(hx:∀e lc s ov (g:cf),g.Perm ((L.map (·.1)).filter λx=> !(x== []))->fW 1 s ov (g.map aw)->(∀k,k<lo->k≠it->s.get [] k=s0.get [] k)->lo<=s.aL->s.gE<=s.aL->(∀r,gh ov=X r->lo<=r)->ac e 5=ov->C (.exit 0) ⟨e,48,lc⟩ s):
 ∀(cc:Nat)(seen:be)(e:ax)(lc:Ag.Loc)(s:St)(ov:aa)(g:cf),cc+J seen=J L->ij aa.str s it a L seen->g=(seen.map (λb=>(L.getD b ([],.Ge)).1)).filter (λx=> !(x== []))->fW 1 s ov (g.map aw)->(∀k,k<lo->k≠it->s.get [] k=s0.get [] k)->lo<=s.aL->s.gE<=s.aL->(∀r,gh ov=X r->lo<=r)->ac e 5=ov->ac e 34=.ptr it 0->W Q 41 (.loop Kn) ⟨e,48,lc⟩ s C:=by
 intro cc
 induction cc with
 |zero=>
  intro seen e lc s ov g hc a9 D hO F V R q h5 B;rcases a9.aL Q.ch Q.kmax (λi=>by have:=hK i;omega)with⟨hp,hn⟩|⟨b,p,s1,hb,hnm,hlt,_⟩
  refine aF ?_;simp only[go_sem,seval,Kn,B,tF,hn,sB];refine hx _ _ s ov g ?_ hO F V R q (by simp only[sN,seval,h5]);rw[D];refine((hp.map _).filter _).trans ?_;have:(List.range (J L)).map (λb=>(L.getD b ([],.Ge)).1)=L.map (·.1):=by
   refine List.ext_getElem (by simp) λi h1 h2=>?_;have h2:i<J L:=by simpa using h2
   simp[l8,h2]
  rw[this];omega
 |succ cc ih=>
  intro seen e lc s ov g hc a9 D hO F V R q h5 B;rcases a9.aL Q.ch Q.kmax (λi=>by have:=hK i;omega)with⟨hp,hn⟩|⟨b,p,s1,hb,hnm,hlt,hn,ho,hi,hn1,hm1⟩
  have:=hp.length_eq;rw[CA]at this;omega
  ·have I1:=a9.go d1 hb hnm ho hi
   have a7:=ij.entry hi I1.hm hb;have P:s1.gE<=s1.aL:=by rw[hm1,hn1];exact cG s it Z R
   have b0:=hO.gt;have pc:p.2.gt=O:=by rw[b1 p (cq hb)];rfl
   have a8:fW 1 s1 ov (g.map aw):=hO.mono (λr hr=>ho r (by have:=q r hr;omega)) w_;have a0:J g<1000000:=by
    have:=jF (λx:ae=> !(x== [])) (seen.map (λb=>(L.getD b ([],.Ge)).1));rw[bh]at this;rw[D];exact Nat.lt_of_le_of_lt this w_
   refine aF ?_;cases he:p.1== []with
   |true=>
    simp only[go_sem,seval,Kn,h5,B,tF,hn,Du,a7,pc,sB,he];refine ih (seen++[b]) _ _ s1 ov g (by rw[bI];simp only[bP,bC];omega) I1 ?_ a8 (λk hk A=>by rw[ho k A];exact F k hk A) w_ P q ?_ ?_;rw[dj,Ik,<-D];have S:p.1=[]:=by simpa using he
    simp[l8,hb,S]
    all_goals simp only[sN,seval,h5,B]
   |false=>
    let⟨s3,a1,a2,a3,a4,a5,a6⟩:=CO (t:=25) bM.1 rfl d_ (aw p.1) (λy hy=>by
     obtain⟨x,_,rfl⟩:=cy.1 hy;rfl) (by rw[bh];exact a0) P a8
    simp only[aw]at a1;simp only[go_sem,seval,Kn,h5,B,tF,hn,Du,a7,pc,b0,a1,NN,sB,he];refine ih (seen++[b]) _ _ s3 (.arr 1 s1.aL 0 ((g.map aw).length+1) ((g.map aw).length+1)) (g++[p.1]) (by rw[bI];simp only[bP,bC];omega) ⟨?_,?_,I1.nd,I1.lt⟩ ?_ ?_ (λk hk A=>?_) w_ a5 (λr hr=>?_) ?_ ?_;rw[a6 it w_ (λe=>by have:=q it e;omega)];exact I1.hi;exact(a6 a w_ (λe=>by have:=q a e;omega)).trans I1.hm;have A:p.1≠[]:=λe=>by rw[e]at he;cases he
    rw[dj,Ik,<-D];simp[l8,hb,A];rw[dj];exact a2;rw[a6 k w_ (λe=>by have:=q k e;omega),ho k A];exact F k hk A;injection hr with hr
    omega
    all_goals simp only[sN,seval,B,bh]
theorem XW{k:ae}:∀{B:df}{p:ae×aa},p∈dp k v B->p.2=v\/p∈B:=by
 intro B
 induction B with
 |nil=>intro p h;simp[dp]at h;rw[h];exact .inl rfl
 |cons x B g=>
  intro p h;unfold dp at h
  grind
def avh(l:cf):∀{B:df},(∀p∈B,p.2=.bool O)->∀p∈rX B l,p.2=.bool O:=by
 induction l with
 |nil=>exact λh=>h
 |cons x l g=>exact λh=>g λp q=>(XW q).elim id (h p)
def BL(e:aK):cf:=ja (((rX [] e.ids).map (·.1)).filter λx=> !(x== []))
structure NmP (s s':St) (v:aa) (ws:cf):Prop where
 row:fW 1 s' v (ws.map aw)
 old:∀k,k<s.aL->s'.get [] k=s.get [] k
 nx:s.aL<=s'.aL
 mw:s'.gE<=s'.aL
 rl:∀r,gh v=some r->s.aL<=r
theorem acd(hK:∀i,1000000<=Q.kmax i)(b6:No Q 73)(q:No Q 82)(B:Q.spec 61=Z)(D:Q.specW 61=X uj)(b7:No Q 41)(ge:e.AL)(b8:J e.ids<1000000)(hm:s.gE<=s.aL){b:Bool}(run:ai Q 73 [e.val] s (.bool b) s):
 ∃v s',ai Q 41 [e.val] s v s'/\NmP s s' v (bif b then BL e else []):=by
 have r1:=ge.gT.cs;have o1:=ge.obj.all;simp only[aK.val,aK.cells]at run;have cn:aa.nilm.cells=[aa.nilm]:=rfl;have c5:J e.ids=4+(J e.gT+J e.obj.gT):=by simp[aK.ids];omega
 have a9:((s.new (.map [] 0)).new (.cells [.nilm])).get [] (s.aL+1)=X (.cells [.nilm]):=cr;obtain⟨z,hz⟩:=cw (((s.new (.map [] 0)).new (.cells [.nilm])).put (s.aL+1) (X (.cells [.map s.aL])));have zn:z.aL=s.aL+2:=by rw[<-hz];rfl
 have zp:z.get [] (s.aL+1)=X (.cells [.map s.aL]):=by rw[<-hz,aO,bS];rfl
 have zm:bf aa.str z s.aL []:=by
  show z.get [] s.aL=_;rw[<-hz,aO,bN.2 (by omega:s.aL≠s.aL+1),cF,cQ (by show s.aL<s.aL+1;omega),cr];rfl
 have zo:∀k,k<s.aL->z.get [] k=s.get [] k:=λk V=>by
  rw[<-hz,aO,bN.2 (by omega:k≠s.aL+1),cF,cQ (by show k<s.aL+1;omega),cQ V]
 have zw:z.gE<=z.aL:=by rw[<-hz];exact cG _ _ _ (by show s.gE<=s.aL+1+1;omega)
 have c1:=Sq q (sv:=.list 1 [.str e.id,.str e.other,.str e.node,.str e.obj.id] .GT) (l:=[e.id,e.other,e.node,e.obj.id]) (.inr ⟨.GT,rfl⟩) (by simp) zp w_ zm zw;refine ai.ofNRZ atG (aM ?_);simp only[go_sem,seval,aK.val,aK.cells,r1,o1];refine aU.of run d_ ?_;cases b with
 |false=>
  simp only[go_sem,seval];exact⟨_,rfl,.inl R_,λ_ _=>rfl,aC _,hm,λr hr=>by cases hr⟩
 |true=>
  simp only[go_sem,seval,jA,cn,dh,a9,dq,hz,r1,o1,sB];refine aU.ex c1 d_ ?_;rintro _ s2 ⟨rfl,m2,b2⟩;have p2:=(b2.old (s.aL+1) w_).trans zp;have c2:=Sq q ge.gT ge.reflen p2 w_ m2 b2.mw;simp only[go_sem,seval,r1,o1];refine aU.ex c2 d_ ?_;rintro _ s3 ⟨rfl,m3,b3⟩;have p3:=(b3.old (s.aL+1) w_).trans p2;have c3:=Sq q ge.obj.gT w_ p3 w_ m3 b3.mw;simp only[go_sem,seval,r1,o1];refine aU.ex c3 d_ ?_;rintro _ R ⟨rfl,m4,b4⟩;have p4:=(b4.old (s.aL+1) w_).trans p3;have n4:R.aL=s.aL+2:=by rw[b4.aL,b3.aL,b2.aL,zn]
  have o4:∀k,k<s.aL->R.get [] k=s.get [] k:=λk V=>by rw[b4.old k w_,b3.old k w_,b2.old k w_,zo k V]
  obtain⟨L,hL⟩:=cw (rX (rX (rX [] [e.id,e.other,e.node,e.obj.id]) e.gT) e.obj.gT);have a0:L=rX [] e.ids:=by
   rw[<-hL];simp only[rX,aK.ids,List.foldl_append]
  rw[hL]at m4;have a6:J L<1000000:=by
   have:=abg e.ids [];rw[a0];simp only[bC]at this;omega
  have b5:∀p∈L,p.2=.bool O:=by rw[a0];exact avh _ λ_ h=>by cases h
  have a3:=ij.new aEZ m4;have hI:=ij.begin m4 w_;obtain⟨u,hu⟩:=cw (R.new (.iter (X s.aL) (J L) [] (J L)));rw[hu]at a3 hI;have un:u.aL=s.aL+3:=by rw[<-hu];show R.aL+1=_;omega
  have uo:∀k,k<R.aL->u.get [] k=R.get [] k:=λk V=>by rw[<-hu,cQ V]
  have um:u.gE<=u.aL:=by rw[<-hu];exact co b4.mw
  simp only[go_sem,seval,p4,F7,a3];refine axg hK (it:=R.aL) (a:=s.aL) (lo:=s.aL+3) a6 b5 w_ w_ w_ (s0:=u) ?_ (J L) [] _ _ u .Ge [] (by simp) hI rfl (.inl R_) (λ_ _ _=>rfl) w_ um (λr hr=>by cases hr) ?_ ?_;intro e1 lc s5 ov g A hO b0 c0 F a2 h5;have a1:=hO.gt;have old:∀k,k<s.aL->s5.get [] k=s.get [] k:=λk V=>(b0 k w_ w_).trans ((uo k w_).trans (o4 k V));have c7:J g<1000000:=by
   have:=jF (λx:ae=> !(x== [])) (L.map (·.1));rw[bh]at this;rw[A.length_eq];exact Nat.lt_of_le_of_lt this a6
  have hS:ja g=BL e:=by rw[BL,<-a0];exact aDb A
  have S:∃w P,ai Q 61 [ov] s5 w P/\(w=.tup []/\fW 1 P ov ((BL e).map aw)/\(∀k,k<s.aL->P.get [] k=s.get [] k)/\s.aL<=P.aL/\P.gE<=P.aL):=by
   rcases hO with⟨rfl,h0⟩|⟨h0,k,rfl,a4,a8⟩
   have h0:=nX.1 h0;subst h0;exact⟨_,s5,ai.specW0 B (Std.H _) D rfl,rfl,.inl ⟨rfl,by rw[<-hS];rfl⟩,old,w_,F⟩;have c6:=a2 k rfl;have c4:(ja g).length=J g:=(Cj g).length_eq;have a5:bq (g.map aw).length 1000001=O:=bG (by rw[bh];omega);rw[qA]at a4;have a7:ee (s5.get []) (su (bif aA (g.map aw).length (g.map aw).length&&bq (g.map aw).length 1000001 then(rB (g.map aw)).bind λl=>X ((ja l).map aw)else Z))=X (.agg ((ja g).map aw)):=by
    rw[a5,Nat.beq_refl,bZ,cT,FB];rfl
   refine⟨_,_,ai.specW (n:=k) (cs':=(ja g).map aw) B (Std.H _) D rfl a4 a7,rfl,.inr ⟨λe=>?_,k,?_,?_,a8⟩,λj hj=>?_,?_,cG s5 k _ F⟩
   grind [bh]
   grind
   rw[aO,bS,hS,qA];rfl
   grind [aO]
   show s.aL<=s5.aL;omega
  simp only[go_sem,seval,h5,a1,B];refine aU.ex S d_ ?_;rintro w P ⟨rfl,b1,b2,b3,b4⟩;simp only[go_sem,seval,h5,a1];exact⟨_,rfl,b1,b2,b3,b4,λr hr=>by have:=a2 r hr;omega⟩
  all_goals simp only[sN,seval]
def Js:∀l:be,aq (l.map λi=>an i)=l.map λi=>an i
 |[]=>rfl
 |_::l=>congrArg _ (Js l)
structure Fw (s0 s:St) (bx m hi n:Nat) (v:aa) (up:be) (L:df):Prop where
 box:s.get [] bx=some (.cells [v,.map m])
 row:fW 1 s v (up.map λi=>an i)
 len:up.length=n
 le:∀(i u:Nat),up[i]?=some u->u<=i
 map:bf aa.str s m L
 val:∀p∈L,∃j:Nat,p.2=an j/\j<n
 rl:∀r,gh v=some r->s0.aL<=r/\r<hi
 old:∀k,k<s0.aL->s.get [] k=s0.get [] k
 hn:hi<=s.aL
 mw:s.gE<=s.aL
 b0:s0.aL<=bx/\bx<hi
 m0:s0.aL<=m/\m<hi
def UI(s0 s:St)(bx m hi n:Nat):Prop:=∃v up L,Fw s0 s bx m hi n v up L
variable{hi:Nat}
def Fw.sets{s0:St}{up:be}{L:df}(h:Fw s0 s bx m hi n v up L)(B:0<n):∃r,v=.arr 1 r 0 (J up) (J up)/\uT s bx r m (J up) up:=by
 rcases h.row with⟨_,A⟩|⟨_,k,g,q,_⟩
 have:=h.len;rw[nX.1 A]at this;simp at this;omega;rw[bh]at g;rw[Js]at q;exact⟨k,g,by rw[h.box,g],q,h.le⟩
def UI.join(q:No Q 42)(A:No Q 40){s0:St}(h:UI s0 s bx m hi n)(V:a<n)(R:b<n):∃s',ai Q 40 [.ptr bx 0,an a,an b] s (.tup []) s'/\UI s0 s' bx m hi n/\(∀k,hi<=k->s'.get [] k=s.get [] k)/\s'.aL=s.aL:=by
 let⟨v,up,L,h⟩:=h
 let⟨r,hv,S⟩:=h.sets w_
 let⟨r0,r1⟩:=h.rl r (by rw[hv];rfl)
 let⟨up',h1,S',run⟩:=arx q A S (a:=a) (b:=b) (by rw[h.len];exact V) (by rw[h.len];exact R)
 have P:=h.b0;have F:=h.m0;have B:m≠r:=λe=>by
  have g:s.get [] m=_:=h.map;rw[e,S.row]at g;cases g
 refine⟨_,run,⟨v,up',L,?_,.inr ⟨?_,r,?_,?_,by have:=h.hn;show r<s.aL;omega⟩,by rw[h1,h.len],S'.le,?_,h.val,h.rl,λk D=>?_,h.hn,cG _ _ _ h.mw,h.b0,h.m0⟩,λk D=>?_,rfl⟩;rw[S'.box,hv,h1];intro e;have g:=congrArg oY e;rw[bh,h1,h.len]at g;simp at g;omega;rw[hv,bh,h1];rw[Js];exact S'.row;show ll _ [] m=_;rw[aO,bN.2 B];exact h.map;rw[aO,bN.2 (by omega:k≠r)];exact h.old k D;rw[aO,bN.2 (by omega:k≠r)];rfl
variable{s':St}
def UI.mono{s0:St}(h:UI s0 s bx m hi n)(g:∀k,k<s.aL->s'.get [] k=s.get [] k)(B:s.aL<=s'.aL)(q:s'.gE<=s'.aL):UI s0 s' bx m hi n:=by
 let⟨v,up,L,h⟩:=h
 have R:=h.b0;have D:=h.m0;have P:=h.hn;exact⟨v,up,L,(g bx w_).trans h.box,h.row.mono (λr A=>g r (by have:=h.rl r A;omega)) B,h.len,h.le,(g m w_).trans h.map,h.val,h.rl,λk F=>(g k w_).trans (h.old k F),w_,q,h.b0,h.m0⟩
theorem UI.put{s0:St}(h:UI s0 s bx m hi n):∃L,bf aa.str s m L/\(∀p∈L,∃j:Nat,p.2=an j/\j<n)/\∀(x:ae)(i:Nat),i<n->UI s0 (s.put m (X (.map (cX aa.str 0 (dp x (an i) L)) (dp x (an i) L).length))) bx m hi n:=by
 let⟨v,up,L,h⟩:=h
 refine⟨L,h.map,h.val,λx i hi=>?_⟩;have A:s.get [] m=_:=h.map;have R:=h.b0;have F:=h.m0;have B:bx≠m:=λe=>by
  rw[<-e,h.box]at A;cases A
 refine⟨v,up,_,?_,h.row.mono (λr q=>?_) (aC _),h.len,h.le,rf,λp D=>?_,h.rl,λk P=>?_,h.hn,cG _ _ _ h.mw,h.b0,h.m0⟩;rw[aO,bN.2 B];exact h.box;have:r≠m:=λe=>by
  rcases h.row with⟨g,_⟩|⟨_,k,g,S,_⟩
  rw[g]at q;cases q;rw[g]at q;injection q with q
  rw[<-e,<-q,S]at A;cases A
 rw[aO,bN.2 this];rfl;rcases XW D with g|g
 exact⟨i,g,hi⟩;exact h.val p g;rw[aO,bN.2 (by omega:k≠m)];exact h.old k P
variable{x:ae}
theorem abO:∀{L:df},bR x L=X v->(x,v)∈L:=by
 intro L
 induction L with
 |nil=>intro h;cases h
 |cons p L g=>
  intro h;unfold bR at h
  grind
structure zf (e:ax) (lv:aa) (l:MB) (bx:Nat):Prop where
 h0:ac e 0=lv
 h3:ac e 3=.ptr bx 0
variable{l:MB}{ws:cf}
def aFl(a5:No Q 42)(a6:No Q 40)(a9:J ws<=2){s0:St}(a1:i<n)(hx:∀e s,UI s0 s bx m hi n->zf e lv l bx->ac e 26=lv->ac e 27=an (J l)->ac e 28=an i->K (.exit 2) ⟨e,137,lc⟩ s):
 ∀(rest g:cf)(e:ax)(s:St),ws=g++rest->UI s0 s bx m hi n->zf e lv l bx->ac e 26=lv->ac e 27=an (J l)->ac e 28=an i->ac e 4=an i->ac e 44=.list 1 (ws.map aw) .GT->ac e 45=an (J ws)->ac e 46=an (J g)->W Q 19 (.loop J2) ⟨e,137,lc⟩ s K:=by
 intro rest;have hs:au 1 aw (.list 1 (ws.map aw) .GT) ws:=.inr ⟨.GT,rfl⟩;have a3:=hs.cs
 induction rest with
 |nil=>
  intro g e s h1 V E R P F e4 D A B;have a8:=cL h1;refine aF ?_;simp only[go_sem,seval,J2,A,B,a8,bJ];refine hx _ _ V ⟨?_,?_⟩ ?_ ?_ ?_<;>simp only[sN,seval,E.h0,E.h3,R,P,F]
 |cons x rest ih=>
  intro g e s h1 V E R P F e4 D A B
  let⟨hlt,hat⟩:=cR h1
  have a2:=λlc k=>hs.at bM.2.2.1 hat lc k;have S:=cm (n:=J g) w_;have e3:=E.h3
  let⟨L,hM,hval,hput⟩:=V.put
  have q:=nM gn rZ uD hM x
  let⟨v,up,L2,U⟩:=id V
  have a4:=U.box;refine aF ?_;cases hq:bR x L with
  |none=>
   have a7:=lY gn rZ hM x (an i);have a0:=hput x i a1;rw[hq]at q;simp only[iu]at q;simp only[go_sem,seval,J2,e3,e4,D,A,B,hlt,a3,a2,aw,a4,q,a7,S];refine ih (g++[x]) _ _ (db h1) a0 ⟨?_,?_⟩ ?_ ?_ ?_ ?_ ?_ ?_ ?_<;>simp only[sN,seval,E.h0,E.h3,R,P,F,e4,D,A,sA]
  |some w=>
   let⟨j,hj,hjn⟩:=hval _ (abO hq)
   simp only at hj;subst hj
   let⟨s1,run,hu1,_⟩:=V.join a5 a6 a1 hjn
   rw[hq]at q;simp only[iu]at q;simp only[go_sem,seval,J2,e3,e4,D,A,B,hlt,a3,a2,aw,a4,q];refine aU.of run d_ ?_;simp only[go_sem,seval,B,S];refine ih (g++[x]) _ _ (db h1) hu1 ⟨?_,?_⟩ ?_ ?_ ?_ ?_ ?_ ?_ ?_<;>simp only[sN,seval,E.h0,E.h3,R,P,F,e4,D,A,sA]
def Fw.nrow{s0:St}{up:be}{L:df}(h:Fw s0 s bx m hi n v up L):gh v≠X m/\gh v≠X bx:=by
 have q:s.get [] m=_:=h.map;have A:=h.box;rcases h.row with⟨g,_⟩|⟨_,k,g,B,_⟩
 rw[g];exact⟨λe=>(by cases e),λe=>by cases e⟩;rw[g];refine⟨λe=>?_,λe=>?_⟩;injection e with e
 rw[<-e,B]at q;cases q;injection e with e
 rw[<-e,B,Js]at A;cases up<;>simp[an]at A
def UI.app{s0:St}(h:UI s0 s bx m hi n)(hn:n<1000000):∃v A q,s.get [] bx=X (.cells [v,.map m])/\v.gt=O/\v.cells=[v]/\cJ ag [] 26 v (.list 1 [an n] .GT) O s=X (A,q)/\A.gt=O/\A.cells=[A]/\q.get [] bx=X (.cells [v,.map m])/\UI s0 (q.put bx (X (.cells [A,.map m]))) bx m q.aL (n+1):=by
 let⟨v,up,L,h⟩:=h
 have hl:=h.len;have a7:=h.b0;have V:=h.m0;have a0:=h.hn
 let⟨n1,n2⟩:=h.nrow
 let⟨q,a1,a2,a3,a4,a5,a6⟩:=CO (t:=26) iO.1 rfl d_ (an n) (λy R=>by
  obtain⟨x,_,rfl⟩:=cy.1 R;rfl) (by rw[bh];omega) h.mw h.row
 have g1:q.get [] bx=X (.cells [v,.map m]):=(a6 bx w_ n2).trans h.box;have F:m≠bx:=λe=>by
  have P:s.get [] m=_:=h.map;rw[e,h.box]at P;cases P
 rw[bh]at a1 a2;refine⟨v,.arr 1 s.aL 0 (J up+1) (J up+1),q,h.box,h.row.gt,h.row.cells,a1,rfl,rfl,g1,.arr 1 s.aL 0 (J up+1) (J up+1),up++[n],L,?_,?_,by simp[hl],λi u g=>?_,?_,λp S=>?_,λr B=>?_,λk hk=>?_,aC _,cG _ _ _ a5,w_,w_⟩;rw[aO,bS];rfl;rw[dj];refine fW.mono a2 (λr B=>?_) (aC _);have B:s.aL=r:=sI B;rw[aO,bN.2 (by omega:r≠bx)];rfl;rw[List.getElem?_append]at g;split at g;exact h.le i u g;rw[List.getElem?_singleton]at g;split at g;injection g with g
 omega;cases g;show ll _ [] m=_;rw[aO,bN.2 F,cF,a6 m w_ n1];exact h.map
 let⟨j,h1,h2⟩:=h.val p S
 exact⟨j,h1,w_⟩;have B:s.aL=r:=sI B;omega;have D:gh v≠X k:=λe=>by have:=h.rl k e;omega
 rw[aO,bN.2 (by omega:k≠bx),cF,a6 k w_ D];exact h.old k hk
def aFm(R:No Q 42)(S:No Q 40)(V:No Q 39)(hl:au 15 aK.val lv l)(hg:∀e∈l,e.AL)(a3:J l<=1000000){s0:St}(hx:∀e lc s hi,UI s0 s bx m hi (J l)->zf e lv l bx->K (.exit 0) ⟨e,137,lc⟩ s):
 ∀(rest g:MB)(e:ax)(lc:Ag.Loc)(s:St)(hi:Nat),l=g++rest->UI s0 s bx m hi (J g)->zf e lv l bx->ac e 26=lv->ac e 27=an (J l)->ac e 28=an (J g)->W Q 19 (.loop PO) ⟨e,137,lc⟩ s K:=by
 intro rest;have a2:=hl.cs
 induction rest with
 |nil=>
  intro g e lc s hi P D E B A q;have F:=cL P;rw[F]at D;refine aF ?_;simp only[go_sem,seval,PO,A,q,F,bJ];refine hx _ _ _ _ D ⟨?_,?_⟩<;>simp only[sN,seval,E.h0,E.h3]
 |cons x rest ih=>
  intro g e lc s hi P D E B A q
  let⟨hlt,hat⟩:=cR P
  have a1:=λlc k=>hl.at nk.2.2.1 hat lc k;have a0:=cm (n:=J g) w_;have gx:=hg x (cq hat);have x1:=gx.gT.cs;have x2:=gx.obj.all;have e3:=E.h3
  let⟨v,v',s1,b1,b2,b3,b4,b5,b6,b7,hu1⟩:=D.app w_
  let⟨ws,hw,hwl⟩:=aF8 V gx (s1.put bx (X (.cells [v',.map m])))
  simp only[aK.val,aK.cells]at hw;refine aF ?_;simp only[go_sem,seval,PO,e3,B,A,q,hlt,a2,a1,aK.val,aK.cells,x1,x2,b1,b2,b3,b4,b5,b6,b7,dh,dq,sB];refine aU.of hw d_ ?_;simp only[go_sem,seval];refine aFl R S (hi:=s1.aL) (n:=J g+1) (i:=J g) (l:=l) (lv:=lv) hwl (iA _) (λe s D E B A q=>?_) ws [] _ _ rfl hu1 ⟨?_,?_⟩ ?_ ?_ ?_ ?_ ?_ ?_ ?_
  ·simp only[go_sem,seval,q,a0]
   refine ih (g++[x]) _ _ _ s1.aL (by rw[P];simp) (by simpa using D) ⟨?_,?_⟩ ?_ ?_ ?_
   all_goals simp only[sN,seval,E.h0,E.h3,B,A,sA]
  all_goals simp only[sN,seval,E.h0,E.h3,B,A,q,bh,bC]
  all_goals rfl
def avY(mk:aI)(n m o l c:Nat)(s:St):fN ag mk 25 (.arr n m o l c) s=X (an l):=k_
def Rn(mk:aI)(s:St):fN ag mk 25 .Ge s=X (an 0):=k_
def fW.len25{l:cf}(h:fW 1 s v (l.map aw))(mk:aI)(s':St):fN ag mk 25 v s'=X (an (J l)):=by
 rcases h with⟨rfl,g⟩|⟨_,k,rfl,_⟩
 rw[nX.1 g];exact Rn ..;rw[avY,bh]
def aDN{l:cf}(h:l[i]?=X x):((aq (l.map aw)).drop i).head?=X (aw x):=by
 rw[qA,AV,ix,h];rfl
def aFn(a3:No Q 42)(a4:No Q 40)(a7:J ws<=1000000){s0:St}(a6:i<n)(hv:∀r,gh v=X r->hi<=r)(hx:∀e s,UI s0 s bx m hi n->zf e lv l bx->ac e 72=lv->ac e 73=an (J l)->ac e 74=an i->K (.exit 6) ⟨e,137,lc⟩ s):
 ∀(rest g:cf)(e:ax)(s:St),ws=g++rest->UI s0 s bx m hi n->fW 1 s v (ws.map aw)->zf e lv l bx->ac e 72=lv->ac e 73=an (J l)->ac e 74=an i->ac e 10=an i->ac e 80=v->ac e 81=an (J ws)->ac e 82=an (J g)->W Q 19 (.loop J3) ⟨e,137,lc⟩ s K:=by
 intro rest
 induction rest with
 |nil=>
  intro g e s h1 S hO E R P F e4 B A D;have a5:=cL h1;refine aF ?_;simp only[go_sem,seval,J3,A,D,a5,bJ];refine hx _ _ S ⟨?_,?_⟩ ?_ ?_ ?_<;>simp only[sN,seval,E.h0,E.h3,R,P,F]
 |cons x rest ih=>
  intro g e s h1 S hO E R P F e4 B A D
  let⟨hlt,hat⟩:=cR h1
  obtain⟨k,hk,hg⟩:∃k,v=.arr 1 k 0 (J ws) (J ws)/\s.get [] k=X (.cells (aq (ws.map aw))):=by
   rcases hO with⟨_,h0⟩|⟨_,k,h2,h3,_⟩
   rw[nX.1 h0]at hlt;simp at hlt;rw[bh]at h2;exact⟨k,h2,h3⟩
  have hc:=hO.gt;have a0:=λlc=>CQ bM hlt (m:=k) (c:=J ws) lc;have a1:=aDN hat;have V:=cm (n:=J g) w_;have e3:=E.h3
  let⟨L,hM,hval,_⟩:=S.put
  have q:=nM gn rZ uD hM x
  let⟨v0,up,L2,U⟩:=id S
  have a2:=U.box;rw[hk]at B hc;refine aF ?_;cases hq:bR x L with
  |none=>
   rw[hq]at q;simp only[iu]at q;simp only[go_sem,seval,J3,e3,e4,B,A,D,hlt,hc,a0,hg,a1,aw,a2,q,V];refine ih (g++[x]) _ _ (db h1) S hO ⟨?_,?_⟩ ?_ ?_ ?_ ?_ ?_ ?_ ?_<;>simp only[sN,seval,E.h0,E.h3,R,P,F,e4,B,A,sA,hk]
  |some w=>
   let⟨j,hj,hjn⟩:=hval _ (abO hq)
   simp only at hj;subst hj
   let⟨s1,run,hu1,hfr,hnx⟩:=S.join a3 a4 a6 hjn
   rw[hq]at q;simp only[iu]at q;simp only[go_sem,seval,J3,e3,e4,B,A,D,hlt,hc,a0,hg,a1,aw,a2,q];refine aU.of run d_ ?_;simp only[go_sem,seval,D,V];refine ih (g++[x]) _ _ (db h1) hu1 (hO.mono (λr hr=>hfr r (hv r hr)) w_) ⟨?_,?_⟩ ?_ ?_ ?_ ?_ ?_ ?_ ?_<;>simp only[sN,seval,E.h0,E.h3,R,P,F,e4,B,A,sA,hk]
def aFp(hK:∀i,1000000<=Q.kmax i)(a3:No Q 42)(a5:No Q 40)(H:CL Q)(S:No Q 119)(D:No Q 73)(V:No Q 82)(a2:Q.spec 61=Z)(a0:Q.specW 61=X uj)(a4:No Q 41)(hl:au 15 aK.val lv l)(hg:∀e∈l,e.AL)(hid:∀e∈l,J e.ids<1000000)(b4:J l<=1000000){s0:St}(hn:J l<=n)(hx:∀e lc s hi,UI s0 s bx m hi n->zf e lv l bx->K (.exit 4) ⟨e,137,lc⟩ s):
 ∀(rest g:MB)(e:ax)(lc:Ag.Loc)(s:St)(hi:Nat),l=g++rest->UI s0 s bx m hi n->zf e lv l bx->ac e 72=lv->ac e 73=an (J l)->ac e 74=an (J g)->W Q 19 (.loop PP) ⟨e,137,lc⟩ s K:=by
 intro rest;have b3:=hl.cs
 induction rest with
 |nil=>
  intro g e lc s hi R P E B A q;have b1:=cL R;refine aF ?_;simp only[go_sem,seval,PP,A,q,b1,bJ];refine hx _ _ _ _ P ⟨?_,?_⟩<;>simp only[sN,seval,E.h0,E.h3]
 |cons x rest ih=>
  intro g e lc s hi R P E B A q
  let⟨hlt,hat⟩:=cR R
  have b2:=λlc k=>hl.at nk.2.2.1 hat lc k;have a6:=cm (n:=J g) w_;have F:=cq hat;have gx:=hg x F;have x1:=gx.gT.cs;have x2:=gx.obj.all;have a1:s.gE<=s.aL:=by let⟨_,_,_,U⟩:=P;exact U.mw
  let⟨b,rv⟩:=Ts H.h75 H.h269 H.w70 H.w373 H.w279 S D gx a1
  let⟨v,s1,run,⟨hO,ho,hnx,hmw1,hrl⟩⟩:=acd hK D V a2 a0 a4 gx (hid x F) a1 rv
  generalize hws:(bif b then BL x else [])=ws at hO;have a7:J ws<=1000000:=by
   rw[<-hws];cases b;exact fT _;have R:=abg x.ids [];have h2:=jF (λx:ae=> !(x== [])) ((rX [] x.ids).map (·.1));have h3:=hid x F;rw[cT,BL,(Cj _).length_eq];rw[bh]at h2;simp only[bC]at R;exact dg h2 w_
  have b0:=P.mono ho hnx hmw1;have b5:hi<=s.aL:=by let⟨_,_,_,U⟩:=P;exact U.hn
  have a9:=hO.gt;have a8:=hO.len25;simp only[aK.val,aK.cells]at run;refine aF ?_;simp only[go_sem,seval,PP,B,A,q,hlt,b3,b2,aK.val,aK.cells,x1,x2];refine aU.of run d_ ?_;simp only[go_sem,seval,a8,a9];refine aFn a3 a5 (v:=v) (ws:=ws) (hi:=hi) (n:=n) (i:=J g) (l:=l) (lv:=lv) a7 w_ (λr hr=>by have:=hrl r hr;omega) (λe s P E B A q=>?_) ws [] _ _ rfl b0 hO ⟨?_,?_⟩ ?_ ?_ ?_ ?_ ?_ ?_ ?_;simp only[go_sem,seval,q,a6];refine ih (g++[x]) _ _ _ hi (db R) P ⟨?_,?_⟩ ?_ ?_ ?_<;>simp only[sN,seval,E.h0,E.h3,B,A,sA]
  all_goals simp only[sN,seval,E.h0,E.h3,B,A,q,bC]
  all_goals rfl
def Wb(x y:Int):jh ag 8 3 (.int .i64 x) (.int .i64 y)=X (aj x y):=k_
def abh:wQ ag 3 (λn:Nat=>an n) where
 eq a b:=by
  rw[Wb];by_cases h:a=b;simp[aj,h];simp[aj,h];omega
 same a:=by simp[pG,sD,aj]
 gt _:=rfl
def abl(k:Nat):j0 ag 94 (an k)=X (3,3):=k_
def tot(us:aar):Nat:=(us.map oY).sum
abbrev V_:=List (be×Nat)
abbrev aaw:=be×Nat
def ae8:∀{U:V_}{p:Nat}{u:aaw}(_:U[p]?=X u)(i k:Nat),tot ((U.set p (u.1++[i],k)).map Prod.fst)=tot (U.map Prod.fst)+1
 |[],p,u,h,i,k=>by simp at h
 |w::U,0,u,h,i,k=>by
  have h:w=u:=by simpa using h
  subst h;simp only[tot,List.set_cons_zero,cZ,wE,bI,uJ];omega
 |w::U,p+1,u,h,i,k=>by
  have h:U[p]?=X u:=by simpa using h
  have g:=ae8 h i k;simp only[tot]at g;simp only[tot,List.set_cons_succ,cZ,wE,g];omega
def aEF(U:V_):tot ((U++[([],0)]).map Prod.fst)=tot (U.map Prod.fst):=by simp[tot]
def em(u:aaw):aa:=if u.1=[]then .Ge else .list 1 (u.1.map λi=>an i) (.own u.2)
def aiL(u:aaw):au 1 (λi:Nat=>an i) (em u) u.1:=by
 unfold em;split
 ·next h=>exact .inl ⟨rfl,h⟩
 exact .inr ⟨_,rfl⟩
def FF(u:aaw):(em u).cells=[em u]/\(em u).gt=O:=by
 unfold em;split<;>exact R_
def FV:∀U:V_,aq (U.map em)=U.map em
 |[]=>rfl
 |u::U=>by
  have h:=FV U;show(em u).cells++aq (U.map em)=_;rw[(FF u).1,h];rfl
structure oh (s:St) (v:aa) (U:V_) (lo:Nat):Prop where
 row:fW 1 s v (U.map em)
 tok:∀u∈U,u.1≠[]->s.get [] u.2=some .tok/\lo<=u.2/\u.2<s.aL
 inj:∀(i j:Nat)(a b:aaw),U[i]?=some a->U[j]?=some b->a.1≠[]->b.1≠[]->a.2=b.2->i=j
 rl:∀r,gh v=some r->lo<=r
variable{U:V_}
def oh.mono(h:oh s v U lo)(B:∀n,gh v=X n->s'.get [] n=s.get [] n)(A:∀u∈U,u.1≠[]->s'.get [] u.2=s.get [] u.2)(D:s.aL<=s'.aL):oh s' v U lo:=
 ⟨h.row.mono B D,λu g q=>by let⟨a,b,c⟩:=h.tok u g q;exact⟨(A u g q).trans a,b,w_⟩,h.inj,h.rl⟩
def oh.nil(h:oh s v U lo)(hn:J U<1000000)(a0:lo<=s.aL)(R:s.gE<=s.aL):∃F g,cJ ag [] 33 v (.list 1 [.Ge] .GT) O s=X (F,g)/\F=.arr 1 s.aL 0 (J U+1) (J U+1)/\oh g F (U++[([],0)]) lo/\g.aL=s.aL+1/\g.gE<=g.aL/\(∀k,k<lo->g.get [] k=s.get [] k):=by
 let⟨g,a1,a2,a3,a4,a5,a6⟩:=CO (t:=33) yf.1 rfl d_ .Ge (λy hy=>by
  obtain⟨x,_,rfl⟩:=cy.1 hy;rw[(FF x).1];rfl) (by rw[bh];exact hn) R h.row
 rw[bh]at a1 a2;refine⟨_,g,a1,rfl,⟨?_,λu A h0=>?_,λi j a b hi hj D V e=>?_,λr S=>?_⟩,a3,a5,λk hk=>a6 k w_ λe=>by have:=h.rl k e;omega⟩;rw[dj];exact a2;rcases fJ.1 A with A|A
 let⟨t1,t2,t3⟩:=h.tok u A h0
 have P:gh v≠X u.2:=λe=>by
  rcases h.row with⟨q,_⟩|⟨_,k,q,h2,_⟩
  rw[q]at e;cases e;rw[q]at e;injection e with e
  rw[<-e,h2]at t1;cases t1
 exact⟨(a6 _ t3 P).trans t1,t2,w_⟩;rw[kq]at A;subst A;exact absurd rfl h0;have B:∀{i:Nat}{a:aaw},(U++[([],0)])[i]?=X a->a.1≠[]->U[i]?=X a:=λ{i a} hi D=>by
  rcases iz i (J U)with q|q
  rwa [AQ q]at hi;rw[sQ q]at hi
  have:=kq.1 (cq hi);rw[this]at D;exact absurd rfl D
 exact h.inj i j a b (B hi D) (B hj V) D V e;injection S with S
 omega
def anp(s:St)(t k:Nat):((s.put t Z).new .tok).get [] k=bif k==s.aL then X .tok else bif k==t then Z else s.get [] k:=by
 rw[JF,oE];rfl
variable{u:aaw}
def oh.app(h:oh s v U lo)(hp:U[p]?=X u)(x:Nat)(b0:J u.1<1000000)(a8:lo<=s.aL)(a1:s.gE<=s.aL):
 ∃q R,v=.arr 1 R 0 (J U) (J U)/\cJ ag [] 26 (em u) (.list 1 [an x] .GT) I s=X (em (u.1++[x],s.aL),q)/\q.get [] R=X (.cells (U.map em))/\q.aL=s.aL+1/\(q.gE<=q.aL/\q.ci=s.ci)/\(∀k,k<lo->q.get [] k=s.get [] k)/\
  oh (q.put R (X (.cells ((U.set p (u.1++[x],s.aL)).map em)))) v (U.set p (u.1++[x],s.aL)) lo:=by
 have D:=cq hp;have B:p<J U:=by
  rcases iz p (J U)with P|P
  exact P;rw[sR P]at hp;cases hp
 obtain⟨R,hv,hg,hR⟩:∃R,v=.arr 1 R 0 (J U) (J U)/\s.get [] R=X (.cells (U.map em))/\R<s.aL:=by
  rcases h.row with⟨_,g⟩|⟨_,k,h2,h3,h4⟩
  rw[nX.1 g]at B;simp at B;rw[bh]at h2;rw[FV]at h3;exact⟨k,h2,h3,h4⟩
 have hr:eB (J u.1+1) 8=O:=ui w_ d_;obtain⟨q,ha,F,a6,a7⟩:∃q,cJ ag [] 26 (em u) (.list 1 [an x] .GT) I s=X (em (u.1++[x],s.aL),q)/\(∀k,q.get [] k=bif k==s.aL then X .tok else bif !(u.1.isEmpty)&&k==u.2 then Z else s.get [] k)/\q.aL=s.aL+1/\(q.gE<=q.aL/\q.ci=s.ci):=by
  by_cases g:u.1=[];refine⟨s.new .tok,?_,λk=>?_,rfl,co a1,rfl⟩;have hc:em u=.Ge:=by rw[em,iP g]
  have a0:em (u.1++[x],s.aL)=.list 1 [an x] (.own s.aL):=by rw[em,g];rfl
  rw[g]at hr;rw[hc,a0];simp only[aaa,cJ,iO.1,aG,cU,fy,iB,uJ];rw[show eB 1 8=O from hr];rfl;rw[JF,g];rfl
  let⟨t1,t2,t3⟩:=h.tok u D g
  refine⟨(s.put u.2 Z).new .tok,?_,λk=>?_,rfl,?_,rfl⟩;have hc:em u=.list 1 (u.1.map λi=>an i) (.own u.2):=by rw[em,iN g]
  have a0:em (u.1++[x],s.aL)=.list 1 (u.1.map (λi=>an i)++[an x]) (.own s.aL):=by
   rw[em,iN (by simp),dj];rfl
  rw[hc,a0];have a4:eB ((u.1.map λi=>an i).length+1) 8=O:=by rw[bh];exact hr
  simp only[aaa,cJ,iO.1,aG,cU,fy,t1,uJ,a4,bZ];rw[anp];have:u.1.isEmpty=I:=by cases hu:u.1 with|nil=>exact absurd hu g|cons _ _=>rfl
  rw[this];rfl
  have:=cG s u.2 Z a1;exact co this
 have a3:∀w∈U,w.1≠[]->R≠w.2:=λw hw g e=>by
  let⟨t1,_⟩:=h.tok w hw g
  rw[<-e,hg]at t1;cases t1
 have a9:q.get [] R=X (.cells (U.map em)):=by
  rw[F,bN.2 (by omega:R≠s.aL),cF];by_cases g:u.1=[];rw[g];exact hg;rw[bN.2 (a3 u D g),kU];exact hg
 have S:∀(i:Nat)(w:aaw),U[i]?=X w->w.1≠[]->i≠p->q.get [] w.2=X .tok:=λi w hi g a5=>by
  let⟨t1,t2,t3⟩:=h.tok w (cq hi) g
  rw[F,bN.2 (by omega:w.2≠s.aL),cF];by_cases P:u.1=[];rw[P];exact t1;rw[bN.2 (λe=>a5 (h.inj i p w u hi hp g P e)),kU];exact t1
 refine⟨q,R,hv,ha,a9,a6,a7,λk hk=>?_,⟨.inr ⟨?_,R,?_,?_,by show R<q.aL;omega⟩,λw hw g=>?_,λi j a b hi V ha hb e=>?_,h.rl⟩⟩;rw[F,bN.2 (by omega:k≠s.aL),cF];by_cases P:u.1=[];rw[P];rfl
 have:=h.tok u D P;rw[bN.2 (by omega:k≠u.2),kU];rfl;intro e
 have:=congrArg oY e;simp at this;rw[this]at B;simp at B;rw[hv,bh,qb];rw[aO,bS,FV];rfl
 let⟨i,hi,hi2⟩:=List.getElem_of_mem hw
 have A:(U.set p (u.1++[x],s.aL))[i]?=X w:=by rw[dA hi,hi2]
 rw[Il]at A;by_cases hip:p=i;rw[iP hip,iP B]at A;injection A with A
 rw[<-A];refine⟨?_,a8,by show s.aL<q.aL;omega⟩;rw[aO,bN.2 (by show s.aL≠R;omega),cF,F,bS];rfl;rw[iN hip]at A
 let⟨t1,t2,t3⟩:=h.tok w (cq A) g
 refine⟨?_,t2,by show w.2<q.aL;omega⟩;rw[aO,bN.2 (a3 w (cq A) g).symm,cF];exact S i w A g (λe=>hip e.symm);have a2:∀(i:Nat)(w:aaw),U[i]?=X w->w.1≠[]->w.2<s.aL:=λi w hi g=>(h.tok w (cq hi) g).2.2;rw[Il]at hi V;by_cases hip:p=i<;>by_cases hjp:p=j;omega;rw[iP hip,iP B]at hi;rw[iN hjp]at V;rw[<-sI hi]at e
 have:=a2 j b V hb;have e:s.aL=b.2:=e;exact absurd this (by rw[<-e];exact bJ _);rw[iN hip]at hi;rw[iP hjp,iP B]at V;rw[<-sI V]at e
 have:=a2 i a hi ha;have e:a.2=s.aL:=e;exact absurd this (by rw[e];exact bJ _);rw[iN hip]at hi;rw[iN hjp]at V;exact h.inj i j a b hi V ha hb e
abbrev S_:=List (Nat×aa)
structure mn (s0 s:St) (bx r m M lo:Nat) (up:be) (v:aa) (U:V_) (T:S_) (i j:Nat):Prop where
 sets:uT s bx r m up.length up
 mp:bf (λn:Nat=>an n) s M T
 rows:oh s v U lo
 rt:∀t,t<j->up[t]?=some t->∃p:Nat,bR t T=some (an p)/\p<U.length
 bd:∀u∈U,u.1.length<=i/\∀x∈u.1,x<up.length
 ul:U.length<=j
 old:∀k,k<s0.aL->s.get [] k=s0.get [] k
 lo0:s0.aL<=lo/\lo<=s.aL
 lts:bx<lo/\r<lo/\M<lo/\s0.aL<=M
 mw:s.gE<=s.aL
 tt:tot (U.map Prod.fst)=i
variable{T:S_}{M:Nat}
def mn.ne{s0:St}{r:Nat}{up:be}(h:mn s0 s bx r m M lo up v U T i j):bx≠M/\r≠M:=by
 have A:=h.sets.box;have q:=h.sets.row;have g:s.get [] M=_:=h.mp;exact⟨λe=>(by rw[e,g]at A;cases A),λe=>(by rw[e,g]at q;cases q)⟩
def mn.entry{s0:St}{r:Nat}{up:be}(h:mn s0 s bx r m M lo up v U T i i)(hi:i<1000000):∃g F A,g=s.put M (X (.map (cX (λn:Nat=>an n) 0 (dp i (an (J U)) T)) (dp i (an (J U)) T).length))/\cJ ag [] 33 v (.list 1 [.Ge] .GT) O g=X (A,F)/\A.gt=O/\A.cells=[A]/\mn s0 F bx r m M lo up A (U++[([],0)]) (dp i (an (J U)) T) i (i+1):=by
 let⟨n1,n2⟩:=h.ne
 let⟨l1,l2⟩:=h.lo0
 let⟨l3,l4,l5,l6⟩:=h.lts
 have a0:=h.ul;obtain⟨g,q⟩:∃g,g=s.put M (X (.map (cX (λn:Nat=>an n) 0 (dp i (an (J U)) T)) (dp i (an (J U)) T).length)):=⟨_,rfl⟩;have V:bf (λn:Nat=>an n) g M (dp i (an (J U)) T):=by rw[q];exact rf
 have D:∀k,k≠M->g.get [] k=s.get [] k:=λk P=>by rw[q,aO,bN.2 P];rfl
 have e1:g.aL=s.aL:=by rw[q];rfl
 have R:g.gE<=g.aL:=by rw[q];exact cG _ _ _ h.mw
 have S:oh g v U lo:=h.rows.mono (λn hn=>D n (by have:=h.rows.rl n hn;omega)) (λu B h0=>D _ (by have:=(h.rows.tok u B h0).2.1;omega)) w_
 let⟨A,F,a1,a2,a3,a4,a5,a6⟩:=S.nil w_ w_ R
 refine⟨g,F,A,q,a1,by rw[a2];rfl,by rw[a2];rfl,⟨(a6 bx l3).trans ((D bx n1).trans h.sets.box),(a6 r l4).trans ((D r n2).trans h.sets.row),h.sets.le⟩,(a6 M l5).trans V,a3,λt ht hr=>?_,λu B=>?_,?_,λk P=>?_,w_,h.lts,a5,by rw[aEF];exact h.tt⟩;rw[G7,bI,uJ];by_cases e:t=i;rw[iP e];exact⟨_,rfl,w_⟩;rw[iN e]
 let⟨p,h1,h2⟩:=h.rt t w_ hr
 exact⟨p,h1,w_⟩;rcases fJ.1 B with B|B
 exact h.bd u B;rw[kq.1 B];exact⟨fT _,λ_ h=>by cases h⟩;rw[bI,uJ];omega;rw[a6 k w_,D k w_];exact h.old k P
def mn.push{s0:St}{r:Nat}{up:be}(h:mn s0 s bx r m M lo up v U T i (i+1))(hi:i<J up)(hl:J up<=1000000)(F:U[p]?=X u):
 ∃q R,v=.arr 1 R 0 (J U) (J U)/\s.get [] R=X (.cells (U.map em))/\cJ ag [] 26 (em u) (.list 1 [an i] .GT) I s=X (em (u.1++[i],s.aL),q)/\q.get [] R=X (.cells (U.map em))/\(q.ci=s.ci/\s.aL<=q.aL/\q.gE<=q.aL)/\mn s0 (q.put R (X (.cells ((U.set p (u.1++[i],s.aL)).map em)))) bx r m M lo up v (U.set p (u.1++[i],s.aL)) T (i+1) (i+1):=by
 let⟨l1,l2⟩:=h.lo0
 let⟨l3,l4,l5,l6⟩:=h.lts
 have hb:=h.bd u (cq F)
 let⟨q,R,a1,a2,a3,a4,a5,a6,a7⟩:=h.rows.app F i w_ w_ h.mw
 have hR:lo<=R:=h.rows.rl R (by rw[a1];rfl);have g:∀k,k<lo->(q.put R (X (.cells ((U.set p (u.1++[i],s.aL)).map em)))).get [] k=s.get [] k:=λk P=>by
  rw[aO,bN.2 (by omega:k≠R)];exact a6 k P
 have D:s.get [] R=X (.cells (U.map em)):=by
  rcases h.rows.row with⟨B,_⟩|⟨_,k,V,S,_⟩
  rw[B]at a1;cases a1;rw[a1]at V;rw[FV,<-(aa.arr.inj V).2.1]at S;exact S
 refine⟨q,R,a1,D,a2,a3,⟨a5.2,w_,a5.1⟩,⟨(g bx l3).trans h.sets.box,(g r l4).trans h.sets.row,h.sets.le⟩,(g M l5).trans h.mp,a7,λt ht hr=>?_,λw hw=>?_,by rw[qb];exact h.ul,λk P=>(g k w_).trans (h.old k P),⟨l1,by show lo<=q.aL;omega⟩,h.lts,cG _ _ _ a5.1,by rw[ae8 F,h.tt]⟩;rw[qb];exact h.rt t ht hr;rcases MJ hw with B|B
 have:=h.bd w B;exact⟨w_,this.2⟩;rw[B];refine⟨by simp;omega,λx A=>?_⟩;rcases fJ.1 A with A|A
 exact hb.2 x A;rw[kq.1 A];exact hi
def avZ(mk:aI)(n m o l c:Nat)(s:St):fN ag mk 33 (.arr n m o l c) s=X (an l):=k_
def abE(mk:aI)(s:St):fN ag mk 33 .Ge s=X (an 0):=k_
def oh.len(h:oh s v U lo)(mk:aI)(s':St):fN ag mk 33 v s'=X (an (J U)):=by
 rcases h.row with⟨rfl,g⟩|⟨_,k,rfl,_⟩
 rw[nX.1 g];exact abE ..;rw[avZ,bh]
def mn.same{s0:St}{r:Nat}{up:be}(h:mn s0 s bx r m M lo up v U T i j)(g:∀k,s'.get [] k=s.get [] k)(A:s'.aL=s.aL)(q:s'.gE<=s'.aL):mn s0 s' bx r m M lo up v U T i j:=
 ⟨⟨(g _).trans h.sets.box,(g _).trans h.sets.row,h.sets.le⟩,(g _).trans h.mp,h.rows.mono (λn _=>g n) (λu _ _=>g _) w_,h.rt,h.bd,h.ul,λk B=>(g k).trans (h.old k B),by rw[A];exact h.lo0,h.lts,q,h.tt⟩
def adB{s0:St}{r:Nat}{up:be}{e:ax}{t:Nat}(h:mn s0 s bx r m M lo up v U T i (i+1))(hi:i<J up)(hl:J up<=1000000)(a0:bR t T=X (an p))(g:p<J U)(b3:ac e 16=v)(b0:ac e 17=.map M)(a9:ac e 18=an i)(a8:ac e 19=an t)(hK:∀A s' U',ac A 3=ac e 3->ac A 16=ac e 16->ac A 17=ac e 17->ac A 104=ac e 104->ac A 105=ac e 105->mn s0 s' bx r m M lo up v U' T (i+1) (i+1)->N ⟨A,137,lc⟩ s'):
 s.gE<=s.aL/\Ag.WX Q 19 0 [] GD asU ⟨e,137,lc⟩ s N:=by
 obtain⟨u,P⟩:∃u,U[p]?=X u:=⟨_,dA g⟩;have D:mn s0 s.top bx r m M lo up v U T i (i+1):=h.same (λ_=>rfl) rfl (aC _)
 let⟨s1,R,a1,a2,a3,a4,⟨a5,a5n,a5m⟩,h3⟩:=D.push hi hl P
 have B:=iZ h.mw;have a2:s.get [] R=X (.cells (U.map em)):=a2;have q:=r9 abh abl uD D.mp t;rw[a0]at q;simp only[yQ]at q;have a6:=λlc=>CQ yf g (m:=R) (c:=J U) lc;have F:=(FF u).2;have a7:((U.map em).drop p).head?=X (em u):=by rw[AV,ix,P];rfl
 let⟨q1,q2⟩:=FF (u.1++[i],s.aL)
 have b1:s1.ci=s.ci:=a5;have b2:s.aL<=s1.aL:=a5n;have fp:(xj (em u) (.list 1 [an i] .GT)).meets (.obj M)=I:=by
  unfold em;split;rfl
  ·next h0=>
   let⟨t1,_⟩:=h.rows.tok u (cq P) h0
   have hM:s.get [] M=_:=h.mp;show aA u.2 M=I;rw[cd];exact bN.2 λe=>by rw[e,hM]at t1;cases t1
 have S:(U.map em).take p++(em (u.1++[i],s.aL)::(U.map em).drop (p+1))=(U.set p (u.1++[i],s.aL)).map em:=by
  rw[List.map_set,TH,iP (by rw[bh];exact g)]
 have V:p+1<=(U.map em).length:=by rw[bh];exact g
 refine⟨h.mw,?_⟩;simp only[go_sem,GD,seval,b3,b0,a9,a8,a1,q,a6,a2,a7,F,B,a3,a4,q1,q2,b1,b2,fp,S,V,dS,List.cons_append,nz,dh,dq,sB];refine hK _ _ (U.set p (u.1++[i],s.aL)) ?_ ?_ ?_ ?_ ?_ (h3.same (λk=>?_) rfl (nL (nL h.mw b2) (aC _)))<;>first|(simp only[sN,seval];done)|skip
 rw[j6,aO,aO];rfl
def aFq(a1:No Q 42)(hn:n<=1000000){s0:St}{r:Nat}{up:be}(a8:J up=n)(hx:∀e lc s v U T,mn s0 s bx r m M lo up v U T n n->ac e 16=v->K (.exit 8) ⟨e,137,lc⟩ s):
 ∀(d i:Nat)(e:ax)(lc:Ag.Loc)(s:St)(v:aa)(U:V_)(T:S_),i+d=n->mn s0 s bx r m M lo up v U T i i->ac e 3=.ptr bx 0->ac e 16=v->ac e 17=.map M->ac e 104=an n->ac e 105=an i->W Q 19 (.loop PQ) ⟨e,137,lc⟩ s K:=by
 intro d
 induction d with
 |zero=>
  intro i e lc s v U T h1 h e3 R D B A;have a7:i=n:=w_
  subst a7;refine aF ?_;simp only[go_sem,seval,PQ,B,A,bJ];exact hx _ _ _ _ _ _ h (by simp only[sN,seval,R])
 |succ d ih=>
  intro i e lc s v U T h1 h e3 R D B A;have a6:i<n:=w_
  have S:=cm (n:=i) w_;have a3:=h.rows.row.gt;have a2:=h.rows.len
  let⟨t,ht,hr0,hr1,run⟩:=Tn a1 h.sets (i:=i) w_
  refine aF ?_;simp only[go_sem,seval,PQ,e3,B,A,a6];refine aU.of run d_ ?_;cases hq:aj t i with
  |true=>
   have a4:t=i:=by have:=of_decide_eq_true hq;omega
   subst a4
   let⟨s1,s2,v',hs1,c1,c2,c3,h2⟩:=h.entry w_
   have V:=lY abh abl h.mp t (an (J U));rw[<-hs1]at V;simp only[go_sem,seval,hq,R,D,a2,a3,V,c1,c2,c3,sB];refine adB h2 w_ w_ (p:=J U) (by rw[G7,iP rfl]) (by simp) ?_ ?_ ?_ ?_ (λe' s' U' f3 P F q g h3=>?_)<;>first|(simp only[sN,seval,D];done)|skip
   simp only[sN,seval]at f3 P F q g;simp only[go_sem,seval,g,A,S];refine ih (t+1) _ _ _ _ _ _ w_ h3 ?_ ?_ ?_ ?_ ?_<;>simp only[sN,seval,f3,P,F,q,e3,D,B]
  |false=>
   have a5:t≠i:=λe=>by rw[e,DC]at hq;cases hq
   have h2:mn s0 s bx r m M lo up v U T i (i+1):=⟨h.sets,h.mp,h.rows,λt' a9 a0=>by
    by_cases e:t'=i;subst e;exact absurd (hr1 a0) a5;exact h.rt t' w_ a0,h.bd,by have:=h.ul;omega,h.old,h.lo0,h.lts,h.mw,h.tt⟩
   let⟨p,hp1,hp2⟩:=h2.rt t w_ hr0
   simp only[go_sem,seval,hq];refine adB h2 w_ w_ hp1 hp2 ?_ ?_ ?_ ?_ (λe' s' U' f3 P F q g h3=>?_)<;>first|(simp only[sN,seval,R,D];done)|skip
   simp only[sN,seval]at f3 P F q g;simp only[go_sem,seval,g,A,S];refine ih (i+1) _ _ _ _ _ _ w_ h3 ?_ ?_ ?_ ?_ ?_<;>simp only[sN,seval,f3,P,F,q,e3,R,D,B]
end Go.Proofs.YtakkigoeiahlcaaGreat
set_option linter.unusedVariables false
set_option linter.unusedSimpArgs false
namespace Go.Proofs.YtakkigoeiahlcaaGreat
open Tryz
open Go Go.Proofs Go.Lib Go.RowKit Go.Shelf
def MY(fi tS fo sz:Nat):Prop:=∀(w:World)(b g n c i B q A:Nat),i<n->n+1<=c->n+1<=9223372036854775807->∀(R P:World)(V S:Value),
 (∀lb cb,(callFunc fo #[.slice (X ⟨B,q,Z⟩) 1 A,.slice (X ⟨b,g+(i+1)*sz,Z⟩) lb cb]).run ag w=.ok (.value (.bool I)) w)->
 (∀D F sc,(sP #[tS,tS] D #[.slice (X ⟨b,g+(i+1)*sz,Z⟩) (n-i) F,.slice (X ⟨b,g+i*sz,Z⟩) (n+1-i) sc]).run ag w.drew=.ok V R)->
 (∀D F,(sP #[tS,tS] D #[.slice (X ⟨b,g+i*sz,Z⟩) (n+1-i) F,.slice (X ⟨B,q,Z⟩) 1 A]).run ag R=.ok S P)->
 Calls ag fi #[.slice (X ⟨b,g,Z⟩) n c,.int .i64 i,.slice (X ⟨B,q,Z⟩) 1 A] w λe w'=>e=.returned (.slice (X ⟨b,g,Z⟩) (n+1) c)/\w'=P
def MW(fi tS sz:Nat):Prop:=∀(w:World)(b q n c i F g D N G:Nat),i<n->c=n->n+1<=9223372036854775807->n+1<=G->∀(R W1 P:World)(V S:Value),
 (∀A,(qV #[tS,3] A #[.slice (X ⟨b,q,Z⟩) i c,.int .i64 ((n:Int)+1-(i:Int))]).run ag w=.ok (.slice (X ⟨N,0,Z⟩) (n+1) G) R)->
 (∀A B,(sP #[tS,tS] A #[.slice (X ⟨N,i*sz,Z⟩) (n+1-i) B,.slice (X ⟨F,g,Z⟩) 1 D]).run ag R=.ok V W1)->
 (∀A B sc,(sP #[tS,tS] A #[.slice (X ⟨N,(i+1)*sz,Z⟩) (n-i) B,.slice (X ⟨b,q+i*sz,Z⟩) (n-i) sc]).run ag W1.drew=.ok S P)->
 Calls ag fi #[.slice (X ⟨b,q,Z⟩) n c,.int .i64 i,.slice (X ⟨F,g,Z⟩) 1 D] w λe w'=>e=.returned (.slice (X ⟨N,0,Z⟩) (n+1) G)/\w'=P
def MV(fi tS:Nat):Prop:=∀(w:World)(a:Option Addr)(n c A g q B:Nat)(D:Addr),(a=Z->n=0/\c=0)->n<=c->n+1<=9223372036854775807->∀(F:World),
 (qV #[tS,tS] tS #[.slice a n c,.slice (X ⟨A,g,Z⟩) 1 q]).run ag w=.ok (.slice (X D) (n+1) B) F->
 Calls ag fi #[.slice a n c,.int .i64 n,.slice (X ⟨A,g,Z⟩) 1 q] w λe P=>e=.returned (.slice (X D) (n+1) B)/\P=F
set_option maxHeartbeats 4000000 in
set_option maxRecDepth 100000 in
def X4:MY 129 22 206 6/\MY 195 45 258 2:=by
 constructor
 all_goals
  intro w b P n c i vb D vc hi A F W1 W2 x1 x2 B q g;have R:¬((i:Int)=(n:Int)):=w_
  have S:IntKind.i64.wrap ((i:Int)+1)=(i:Int)+1:=by rw[oW];omega
  have a4:(0:Int)<=(i:Int)+1:=w_
  have a0:i<=n:=w_
  have V:((i:Int)+1).toNat=i+1:=w_
  have a2:(i:Int)<=(n:Int)+1:=w_
  have a3:¬(c=i+1):=w_
  have a1:¬(c=i):=w_
  first|go_enter func129,Tryz.ntmps129|go_enter func195,Tryz.ntmps195
  go_wp2_with (simp only[B])
  go_region_law (refine step_copy_runI rfl _ _ _ _ rfl _ _ (by simp[Act.eval,Act.put]) (by simp[Act.eval,Act.put]) (q _ _ _) ?_)
  go_wp2_with (at_builtin;refine wpList_copy_runI _ rfl _ _ _ _ rfl _ _ rfl rfl (g _ _) ?_)
  go_ret
  exact⟨rfl,rfl⟩
set_option maxHeartbeats 4000000 in
set_option maxRecDepth 100000 in
def XZ:MW 129 22 6/\MW 195 45 2:=by
 constructor
 all_goals
  intro w b R n c i vb D vc N G hi g F a7 W0 W1 W2 x1 x2 B A q;subst g;have V:¬((i:Int)=(c:Int)):=w_
  have S:(c:Int)<(c:Int)+1:=w_
  have a0:IntKind.i64.wrap ((i:Int)+1)=(i:Int)+1:=by rw[oW];omega
  have a5:(0:Int)<=(i:Int)+1:=w_
  have a2:i<=c:=w_
  have a1:((i:Int)+1).toNat=i+1:=w_
  have a4:(i:Int)<=(c:Int):=w_
  have a6:¬(G=i):=w_
  have P:¬(G=i+1):=w_
  have a3:¬(c=i):=w_
  first|go_enter func129,Tryz.ntmps129|go_enter func195,Tryz.ntmps195
  go_wp2_with (first
   |(at_builtin;refine Lib.wpList_append_run _ rfl _ _ _ _ rfl _ _ rfl rfl _ _ (B _) ?_)
   |(at_builtin;refine wpList_copy_runI _ rfl _ _ _ _ rfl _ _ rfl rfl (A _ _) ?_))
  go_region_law (refine step_copy_runI rfl _ _ _ _ rfl _ _ (by simp[Act.eval,Act.put]) (by simp[Act.eval,Act.put]) (q _ _ _) ?_)
  go_wp2
  go_ret
  exact⟨rfl,rfl⟩
set_option maxHeartbeats 4000000 in
set_option maxRecDepth 100000 in
def XY:MV 129 22/\MV 195 45:=by
 constructor
 all_goals
  intro w a n c F q D R S B P A V g;cases a
  all_goals
   try obtain⟨rfl,rfl⟩:=B rfl
   first|go_enter func129,Tryz.ntmps129|go_enter func195,Tryz.ntmps195
   go_wp2_with (at_builtin;refine Lib.wpList_append_run _ rfl _ _ _ _ rfl _ _ rfl rfl _ _ g ?_)
   all_goals (go_wp2;go_ret;exact⟨rfl,rfl⟩)
open Go.Ag
variable{C:il}{et:TypeId}{w:World}
def LP{P:Program}{k:Nat}{dT V ty q:TypeId}{b o A F g B:Nat}{a:Addr}{cs:gy}(hu:P.underlying dT=X (.slice q))(S:(P.info? q).map (·.size)=X k)(hn:J cs=Nat.min g A*k)(D:∀j v,cs[j]?=X v->w.cell? (a.add j)=X v)(hb:w.heap[b]?=X (.cells C et (0,0)))(hf:o+J cs<=C.size)(h1:∀v∈cs,v.oneCell'=O):
 (sP #[dT,V] ty #[.slice (X ⟨b,o,Z⟩) A F,.slice (X a) g B]).run P w=.ok (goInt (Nat.min g A)) (cV w b (.cells (eW C o cs) et (0,0))):=by
 have hl:=run_loadCells_list (P:=P) w a cs D;have R:=HW (P:=P) b o et cs 0 w C hb (by simpa using hf) h1;rcases hq:P.info? q with _|i
 simp[hq]at S;have hi:i.size=k:=by simpa[hq]using S
 simp[sP,run_underlying hu,Builtin.lenOf,Builtin.firstCells,sizeOf,typeInfo,hq,hi,<-hn,hl,R]
def ad7{G:Gh}{b off:Nat}{cs:az}(P:w.heap[b]?=X (.cells C et (0,0)))(B:∀(i:Nat) v,cs[i]?=X v->v.scal=O/\∃x,C[off+i]?=X x/\VR G v x):
 ∃L:gy,J L=J cs/\(∀j,j<J cs->L[j]?=C[off+j]?)/\(∀v∈L,v.oneCell'=O)/\∀j v,L[j]?=X v->w.cell? ⟨b,off+j,Z⟩=X v:=by
 have F:J cs<=C.size-off\/cs=[]:=by
  rcases hz:J cs with _|n
  exact .inr (List.length_eq_zero_iff.1 hz)
  let⟨_,x,hx,_⟩:=B n _ (dA w_)
  have:=(Array.getElem?_eq_some_iff.1 hx).1;exact .inl w_
 have A:∀j,((C.toList.drop off).take (J cs))[j]?=if j<J cs then C[off+j]? else Z:=λj=>by
  rw[wC];split;rw[qZ,Array.getElem?_toList];rfl
 refine⟨(C.toList.drop off).take (J cs),?_,λj g=>by rw[A,iP g],λv D=>?_,λj v g=>?_⟩;have e:J C.toList=C.size:=rfl;rw[jG,kp,e];rcases F with h|h
 omega;subst h;simp
 let⟨j,g⟩:=rd.1 D
 rw[A]at g;split at g;rename_i q
 let⟨q1,x,q2,q3⟩:=B j _ (dA q)
 rw[q2]at g
 have:=sI g;subst this;exact q3.one q1;cases g;rw[A]at g;split at g;rw[kw P];exact g;cases g
def jy(sz i:Nat)(vs cs:az):az:=cs.take (i*sz)++(vs++cs.drop (i*sz))
def aiN{sz i n:Nat}{vs cs:az}(hi:i<=n)(A:J cs=n*sz)(g:J vs=sz)(j:Nat):(jy sz i vs cs)[j]?=if j<i*sz then cs[j]? else if j<i*sz+sz then vs[j-i*sz]? else cs[j-sz]? :=by
 have B:i*sz<=n*sz:=md _ hi;have q:(cs.take (i*sz)).length=i*sz:=by rw[jG];omega
 unfold jy;split;rename_i h;rw[AQ w_,wC,iP h];rename_i h;rw[sQ w_,q];split;rw[AQ w_];rw[sQ w_,qZ,g];congr 1;omega
theorem aAs(w:World)(x y:Go.Obj):cV (w.alloc x) w.heap.size y=w.alloc y:=by
 have e:(w.heap.push x).setIfInBounds w.heap.size y=w.heap.push y:=by
  apply Array.ext_getElem?;intro j;rw[Array.getElem?_setIfInBounds,MC,MC]
  grind
 unfold cV World.alloc;rw[e]
def aev{tE k:Nat}(g:(ag.info? tE).map (·.size)=X k)(w:World):(sizeOf tE).run ag w=.ok k w:=by
 rcases hq:ag.info? tE with _|i
 rw[hq]at g;cases g;have hi:i.size=k:=by simpa[hq]using g
 simp[sizeOf,typeInfo,hq,hi]
def MX(fo sz:Nat):Prop:=∀(w:World){q g b o A D F:Nat}{P C:il}{tA B:TypeId},q≠b->w.heap[q]?=X (.cells P tA (0,0))->w.heap[b]?=X (.cells C B (0,0))->C.size≠0->
 (callFunc fo #[.slice (X ⟨q,g,Z⟩) 1 A,.slice (X ⟨b,o,Z⟩) D F]).run ag w=.ok (.value (.bool I)) w
def arh:MX 206 6:=λw {D g b o B P V CV C tA F} q A R S=>by
 rw[run_callFunc_extern func206 k_ k_ k_ (e:=Extern.SlicesOverlaps.overlaps #[22,22] #[4]) k_,
  Lib.run_overlaps_apart w 22 4 47 Tryz.underlying22 6 (aev k_) ⟨D,g,Z⟩ ⟨b,o,Z⟩ 1 B P V q tA F CV.size C.size (by simp[World.shape?,A]) (by simp[World.shape?,R]) S (by simp[World.frozen?,A]) (by simp[World.frozen?,A])]
 rfl
def are:MX 258 2:=λw {D g b o B P V CV C tA F} q A R S=>by
 rw[run_callFunc_extern func258 k_ k_ k_ (e:=Extern.SlicesOverlaps.overlaps #[45,45] #[4]) k_,
  Lib.run_overlaps_apart w 45 4 103 Tryz.underlying45 2 (aev k_) ⟨D,g,Z⟩ ⟨b,o,Z⟩ 1 B P V q tA F CV.size C.size (by simp[World.shape?,A]) (by simp[World.shape?,R]) S (by simp[World.frozen?,A]) (by simp[World.frozen?,A])]
 rfl
structure Iz (fi tS tE fo sz bt:Nat) (z:aa):Prop where
 ent:Enters ag fi
 hu:ag.underlying tS=some (.slice tE)
 hs:(ag.info? tE).map (·.size)=some sz
 he:w8 ag tE=some ⟨sz,bt,true,z⟩
 sl:js ag tS=some ⟨sz,bt,true,z⟩
 sT:lM ag tS=true
 hb:bt<=88
 h0:0<sz
 over:MX fo sz
 shift:MY fi tS fo sz
 grow:MW fi tS sz
 last:MV fi tS
def arb:Iz 129 22 47 206 6 88 (.agg [.str [],.int .i64 0,.int .i64 0,.int .i64 0,.Ge,.Ge]):=
 ⟨Go.Proofs.enters_of func129 k_ rfl,Tryz.underlying22,k_,k_,k_,k_,d_,d_,arh,X4.1,XZ.1,XY.1⟩
def ard:Iz 195 45 103 258 2 32 (.agg [.str [],.str []]):=
 ⟨Go.Proofs.enters_of func195 k_ rfl,Tryz.underlying45,k_,k_,k_,k_,d_,d_,are,X4.2,XZ.2,XY.2⟩
variable{c1:Nat}{Y:Value}{x:aa}
section
variable{fi tS tE fo sz bt:Nat}{z:aa}(H:Iz fi tS tE fo sz bt z)
include H
variable{G:Gh}{h:aB aH}{w:World}
theorem arf{m k i len lcap q:Nat}{X_:Value}{cs vs:az}(wr:WR G h w)(hX:VR G (.arr sz m 0 len lcap) X_)(hY:VR G (.arr sz k 0 1 c1) Y)(hm:h.get m=X (.cells cs))(hk:h.get k=X (.cells vs))(e3:m≠k)(hi:i<len)(hl:len<=1000000)(b3:J cs=len*sz)(F:J vs=sz)(hq:G.at_ q=Z):
 Calls ag fi #[X_,.int .i64 i,Y] w λe w'=>∃y,e=.returned y/\∃G',WR G' ((h.set m Z).set q (X (.cells (jy sz i vs cs)))) w'/\ce G h w G' ((h.set m Z).set q (X (.cells (jy sz i vs cs)))) w' q (q+1)/\VR G' (.arr sz q 0 (len+1) (len+1)) y:=by
 cases hX with
 |arr b6 c6 hp f0 f2 d5 a6 d2=>
 rename_i a g cap dm
 let⟨ab,ao,asp⟩:=a
 simp only at c6;subst c6;rcases d5 with h0|⟨e1,e2⟩
 omega;simp only[o0]at e1 e2;subst e1;subst e2;cases hY with
 |arr c4 c0 yp e7 e9 c5 e8 f3=>
 rename_i a2 vd D dv
 let⟨vb,vo,vsp⟩:=a2
 simp only at c0;subst c0;rcases c5 with h0|⟨e1,e2⟩
 omega;simp only[o0]at e1 e2;subst e1;subst e2
 let⟨bd',hat',hsp',C,et,hC,hdC,hcs⟩:=wr.obj m _ hm
 rw[b6]at hat';cases hat'
 let⟨vd',yat',ysp',CV,ev,hV,hdV,hvs⟩:=wr.obj k _ hk
 rw[c4]at yat';cases yat';have e4:dm=C.size:=by rw[a6]at hdC;injection hdC
 subst e4;have c8:vd.block≠g.block:=λe=>e3 (wr.sep m k g vd (by rw[hm];simp) (by rw[hk];simp) b6 c4 e.symm)
 let⟨L,hLl,hLg,hL1,hLc⟩:=ad7 hC hcs
 let⟨V,hVl,hVg,hV1,hVc⟩:=ad7 hV hvs
 have x1:(i+1)*sz=i*sz+sz:=jW i sz;have x2:(len+1)*sz=len*sz+sz:=jW len sz;have x3:(len-i)*sz=len*sz-i*sz:=Nat.sub_mul len i sz;have x4:i*sz+sz<=len*sz:=by rw[<-x1];exact md _ hi
 have x5:=H.h0;have a3:(L.drop (i*sz)).length=(len-i)*sz:=by rw[kp,hLl,b3];omega
 simp only[o0]at d2;have a7:=aiN (i:=i) (n:=len) (vs:=vs) (cs:=cs) w_ b3 F;by_cases hfit:len+1<=cap
 ·
  have S:g.off+(i+1)*sz+(L.drop (i*sz)).length<=C.size:=by
   have:(len+1)*sz<=cap*sz:=md _ hfit;omega
  have R:g.off+i*sz+J V<=(eW C (g.off+(i+1)*sz) (L.drop (i*sz))).size:=by
   have:(len+1)*sz<=cap*sz:=md _ hfit;rw[afw];omega
  have d1:=iq hC;have b5:(cV w.drew g.block (.cells (eW C (g.off+(i+1)*sz) (L.drop (i*sz))) et (0,0))).heap[g.block]?=X (.cells (eW C (g.off+(i+1)*sz) (L.drop (i*sz))) et (0,0)):=by
   rw[iM _ _ _ _ (by simpa using d1),iP rfl]
  have b4:(cV w.drew g.block (.cells (eW C (g.off+(i+1)*sz) (L.drop (i*sz))) et (0,0))).heap[vd.block]?=X (.cells CV ev (0,0)):=by
   rw[iM _ _ _ _ (by simpa using d1),iN c8];exact hV
  refine(H.shift w g.block g.off len cap i vd.block vd.off D hi hfit w_ _ _ _ _ (λlb cb=>H.over w c8 hV hC w_)
   (λty dc sc=>LP (k:=sz) (w:=w.drew) (cs:=L.drop (i*sz)) H.hu H.hs (by rw[a3];simp only[Nat.min_def];split<;>omega) (λj v B=>?_) hC S λv hv=>hL1 v (oZ hv))
   λty dc=>LP (k:=sz) (cs:=V) H.hu H.hs (by rw[hVl,F];simp only[Nat.min_def];split<;>omega) (λj v B=>?_) b5 R hV1).mono ?_
  rw[qZ]at B
  have:=hLc _ _ B;rw[Addr.add_lit,sS];exact this;rw[Addr.add_lit,kw b4,<-kw hV];exact hVc j v B;rintro e w' ⟨rfl,rfl⟩;rw[Sr]
  let⟨c1,D⟩:=(wr.of_heap (w':=w.drew) rfl).rehome (n:=q) (ad:=⟨g.block,g.off,Z⟩) (C':=eW (eW C (g.off+(i+1)*sz) (L.drop (i*sz))) (g.off+i*sz) V) (cs:=jy sz i vs cs) hm b6 hq hC (by simp) hdC rfl rfl (λj u A=>by
   show _/\∃y,(eW (eW C (g.off+(i+1)*sz) (L.drop (i*sz))) (g.off+i*sz) V)[g.off+j]?=X y/\_;rw[AF _ _ _ _ R,AF _ _ _ _ S,hVl,F,a3];rw[a7]at A;by_cases j1:j<i*sz;rw[iP j1]at A;rw[iN w_,iN w_];exact hcs j u A;rw[iN j1]at A;by_cases j2:j<i*sz+sz;rw[iP j2]at A;rw[iP w_,show g.off+j-(g.off+i*sz)=j-i*sz from w_,hVg _ w_];exact hvs _ u A;rw[iN j2]at A;have j3:j-sz<J cs:=by
    rcases iz (j-sz) (J cs)with h|h
    exact h;rw[sR h]at A;cases A
   rw[iN w_,iP w_,qZ,show i*sz+(g.off+j-(g.off+(i+1)*sz))=j-sz from w_,hLg _ j3];exact hcs _ u A)
  refine⟨_,rfl,_,c1,⟨D.le,D.size,D.keepW,D.owns,D.names,D.cells,lB.trans (⟨rfl,rfl,aC _,λ_ _=>rfl,rfl,iy _⟩:lB w w.drew) D.quiet,D.ownsW⟩,?_⟩;exact .arr (b:=⟨g.block,g.off,Z⟩) (by simp[Gh.name]) rfl hp (aC _) hfit (.inr ⟨rfl,by simp⟩) (show G.dim g.block=X C.size from a6) (by simpa using d2)
 ·
  have e5:cap=len:=w_
  let⟨_,_,_,_,_,ti,zv,_,hi5,hz5,_,a8,a1⟩:=vf H.he
  have a1:ti.bytes=bt:=a1;have a8:zv.cells.size=sz:=a8;have b0:ti.size=sz:=by have:=H.hs;rw[hi5]at this;simpa using this
  obtain⟨K,hK⟩:∃K,K=len+1-i:=⟨_,rfl⟩;have b8:i+K=len+1:=w_
  have f5:((i+K)*2+1024)*bt<=2001026*88:=n7 w_ H.hb;have f6:K*bt<=((i+K)*2+1024)*bt:=md _ w_;have a0:eB (i+K) bt=O:=by unfold eB;exact bG w_
  have a9:(L.take (i*sz)).length=i*ti.size:=by rw[jG,hLl,b3,b0];omega
  have c7:=run_firstCells_some (P:=ag) w.drew ti.size i ⟨g.block,g.off,Z⟩ i cap (L.take (i*sz)) a9 (λj v B=>by
   rw[wC]at B;split at B;rw[Addr.add_lit];exact hLc j v B;cases B)
  have b7:=λty=>run_append_grow_zeros w tS 3 ty tE ti zv .i64 .i64 H.hu Tryz.underlying3 hi5 hz5 (X ⟨g.block,g.off,Z⟩) i cap (L.take (i*sz)) c7 K w_ w_ w_ w_ (by rw[a1];omega) (by
   have:=SF a0 (cap:=cap) w_;rw[a1];simpa using this)
  obtain⟨gc,b2⟩:∃gc,gc=grownCap w (i+K) cap tE:=⟨_,rfl⟩;have b1:len+1<=gc:=by rw[b2,<-b8];simp only[grownCap,Question.cut];omega
  obtain⟨R0,a4⟩:∃R0,R0=(L.take (i*sz)).toArray++AN zv.cells K++AN zv.cells (gc-(i+K)):=⟨_,rfl⟩;have d6:R0.size=gc*sz:=by
   have f1:i+K<=gc:=w_
   rw[a4,Ii,Ii,size_zeroCells,size_zeroCells,a8,Ir,a9,b0,<-Nat.add_mul,<-Nat.add_mul,show i+K+(gc-(i+K))=gc from w_]
  have d7:∀j,j<i*sz->R0[j]?=L[j]? :=λj B=>by
   have h1:j<(L.take (i*sz)).toArray.size:=by rw[Ir,a9,b0];exact B
   rw[a4,Array.append_assoc,Array.getElem?_append_left h1,List.getElem?_toArray,wC,iP B]
  rw[b8]at b2 a4;simp only[b8,<-b2,<-a4]at b7;have eK:((K:Nat):Int)=(len:Int)+1-(i:Int):=w_
  rw[eK]at b7;have f4:(len+1)*sz<=gc*sz:=md _ b1;have d4:(w.drew.alloc (.cells R0 tE)).heap[w.heap.size]?=X (.cells R0 tE (0,0)):=by rw[mU];exact iP rfl
  have S:i*sz+J V<=R0.size:=w_
  have R:(i+1)*sz+(L.drop (i*sz)).length<=(eW R0 (i*sz) V).size:=by rw[afw];omega
  have d0:=iq hC;have c9:=iq hV;have b4:(w.drew.alloc (.cells R0 tE)).heap[vd.block]?=X (.cells CV ev (0,0)):=by
   rw[mU,iN (show vd.block≠w.drew.heap.size from Nat.ne_of_lt c9)];exact hV
  have a5:w.heap.size<(w.drew.alloc (.cells R0 tE)).heap.size:=iq d4;have b5:(cV (w.drew.alloc (.cells R0 tE)) w.heap.size (.cells (eW R0 (i*sz) V) tE (0,0))).drew.heap[w.heap.size]?=X (.cells (eW R0 (i*sz) V) tE (0,0)):=by
   show(cV (w.drew.alloc (.cells R0 tE)) w.heap.size _).heap[w.heap.size]?=_;rw[iM _ _ _ _ a5,iP rfl]
  have e6:(cV (w.drew.alloc (.cells R0 tE)) w.heap.size (.cells (eW R0 (i*sz) V) tE (0,0))).drew.heap[g.block]?=X (.cells C et (0,0)):=by
   show(cV (w.drew.alloc (.cells R0 tE)) w.heap.size _).heap[g.block]?=_;rw[iM _ _ _ _ a5,iN w_];rw[mU,iN (show g.block≠w.drew.heap.size from Nat.ne_of_lt d0)];exact hC
  refine(H.grow w g.block g.off len cap i vd.block vd.off D w.heap.size gc hi e5 w_ b1 _ _ _ _ _ b7
   (λty dc=>LP (k:=sz) (cs:=V) H.hu H.hs (by rw[hVl,F];simp only[Nat.min_def];split<;>omega) (λj v B=>?_) d4 S hV1)
   λty dc sc=>LP (k:=sz) (cs:=L.drop (i*sz)) H.hu H.hs (by rw[a3];simp only[Nat.min_def];split<;>omega) (λj v B=>?_) b5 R λv hv=>hL1 v (oZ hv)).mono ?_
  rw[Addr.add_lit,kw b4,<-kw hV];exact hVc j v B;rw[qZ]at B
  have:=hLc _ _ B;rw[Addr.add_lit,sS,kw e6,<-kw hC];exact this;rintro e w' ⟨rfl,rfl⟩;have ew:cV (cV (w.drew.alloc (.cells R0 tE)) w.heap.size (.cells (eW R0 (i*sz) V) tE (0,0))).drew w.heap.size (.cells (eW (eW R0 (i*sz) V) ((i+1)*sz) (L.drop (i*sz))) tE (0,0))=w.drew.drew.alloc (.cells (eW (eW R0 (i*sz) V) ((i+1)*sz) (L.drop (i*sz))) tE (0,0)):=by
   show cV (cV (w.drew.drew.alloc _) w.drew.drew.heap.size _) w.drew.drew.heap.size _=_;rw[Sr,aAs]
  rw[ew]
  let⟨c1,D⟩:=((wr.killed m).of_heap (w':=w.drew.drew) rfl).boxed hq (eW (eW R0 (i*sz) V) ((i+1)*sz) (L.drop (i*sz))) tE (jy sz i vs cs) (λj u A=>by
   rw[AF _ _ _ _ R,AF _ _ _ _ S,hVl,F,a3];rw[a7]at A;by_cases j1:j<i*sz;rw[iP j1]at A;rw[iN w_,iN w_,d7 j j1,hLg _ w_];exact hcs j u A;rw[iN j1]at A;by_cases j2:j<i*sz+sz;rw[iP j2]at A;rw[iN w_,iP w_,hVg _ w_];exact hvs _ u A;rw[iN j2]at A;have j3:j-sz<J cs:=by
    rcases iz (j-sz) (J cs)with h|h
    exact h;rw[sR h]at A;cases A
   rw[iP w_,qZ,show i*sz+(j-(i+1)*sz)=j-sz from w_,hLg _ j3];exact hcs _ u A)
  have c3:=ce.after_kill (w:=w.drew.drew) D;refine⟨_,rfl,_,c1,⟨c3.le,c3.size,c3.keepW,c3.owns,c3.names,c3.cells,lB.trans (⟨rfl,rfl,aC _,λ_ _=>rfl,rfl,by show w.drawn<=w.drawn+1+1;omega⟩:lB w w.drew.drew) c3.quiet,c3.ownsW⟩,?_⟩;exact .arr (Gh.boxed_at G w.drew.drew q _) rfl hp (aC _) b1 (.inr R_) (Gh.boxed_dim G w.drew.drew q _) (by simp[d6])
theorem VZ{k:Nat}{s:St}{vs:az}(A:s.heap.get k=X (.cells vs))(g:J vs=sz):cU [] O sz (.arr sz k 0 1 c1) s=X [.agg vs]:=by
 have q:vs.take sz=vs:=nA w_;have B:vs.drop sz=[]:=yG w_;simp[cU,ll,dG,A,cut,chunk,q,B,g]
theorem X0{k q n:Nat}{X_:Value}{s':St}(wr:WR G h w)(hX:VR G x X_)(a3:X_=.slice Z 0 0/\n=0\/∃a g,X_=.slice (X a) n g/\n<=g)(hY:VR G (.arr sz k 0 1 c1) Y)(hn:n<=1000000)(he:cJ ag [] tS x (.arr sz k 0 1 c1) O ⟨h,q,0,0⟩=X (.arr sz q 0 (n+1) (n+1),s'))(a0:s'.aL=q+1)(hq:G.at_ q=Z):
 Calls ag fi #[X_,.int .i64 n,Y] w λe B=>∃y,e=.returned y/\∃A,WR A s'.heap B/\ce G h w A s'.heap B q (q+1)/\VR A (.arr sz q 0 (n+1) (n+1)) y:=by
 obtain⟨b1,B,A,hr,V,S,c3⟩:=ad9 (P:=ag) (t2:=tS) (ty:=tS) (G:=G) (w:=w) he H.sT hX hY wr (λj h1 h2=>by
  have h1:q<=j:=h1;have:j=q:=w_
  subst this;exact hq)
 have hZ:∃a c,b1=.slice (X a) (n+1) c:=by cases c3;exact⟨_,_,rfl⟩
 obtain⟨a',c',rfl⟩:=hZ;have S:ce G h w A s'.heap B q (q+1):=by rw[<-a0];exact S
 have a1:∃F D vc,Y=.slice (X ⟨F,D,Z⟩) 1 vc:=by
  cases hY with
  |arr a9 R yp a4 a6 a7 a5 a8=>
   rename_i a2 vd S dv;obtain⟨F,D,b0⟩:=a2;simp only at R;subst R;exact⟨F,D,_,rfl⟩
 obtain⟨F,D,vc,rfl⟩:=a1;rcases a3 with⟨rfl,rfl⟩|⟨a,g,rfl,hc⟩
 refine(H.last w Z 0 0 F D vc c' a' (λ_=>R_) (aC _) w_ B hr).mono ?_;rintro e w2 ⟨rfl,rfl⟩;exact⟨_,rfl,A,V,S,c3⟩;refine(H.last w (X a) n g F D vc c' a' (λh=>by cases h) hc w_ B hr).mono ?_;rintro e w2 ⟨rfl,rfl⟩;exact⟨_,rfl,A,V,S,c3⟩
omit H in
theorem WR.ext'{g:aB aH}(x:WR G h w)(e:∀n o,g.get n=X o->h.get n=X o):WR G g w where
 obj n o ho:=x.obj n o (e n o ho)
 sep n m a b hn hm:=by
  let⟨o,ho⟩:=TK.1 hn
  let⟨p,hp⟩:=TK.1 hm
  exact x.sep n m a b (by rw[e n o ho];simp) (by rw[e m p hp];simp)
 ro:=x.ro
 apart n ob a i v ho:=x.apart n ob a i v (e n ob ho)
 dim:=x.dim
 below:=x.below
omit H in
theorem ce.ext'{F:Gh}{h1 g:aB aH}{w':World}{lo hi:Nat}(x:ce G h w F h1 w' lo hi)(e:∀n o,g.get n=X o->h1.get n=X o):ce G h w F g w' lo hi:=
 ⟨x.le,x.size,x.keepW,λb A ⟨n,a,P,D,B⟩=>by
  let⟨o,q⟩:=TK.1 P
  exact x.owns b A ⟨n,a,by rw[e n o q];simp,D,B⟩,x.names,x.cells,x.quiet,λb A ⟨n,a,o,q,g,D,B⟩=>x.ownsW b A ⟨n,a,o,e n o q,g,D,B⟩⟩
end
def xz(sz i len:Nat)(cs:az):aH->Rd
 |.cells vs=>.ret (bif aA (J cs) (len*sz)&&aA (J vs) sz then X (.tup [.arr sz 0 0 (len+1) 0,.agg (jy sz i vs cs)])else Z)
 |_=>.ret Z
def pE(sz:Nat):az->UP
 |[.arr s1 m 0 len _,.int .i64 (.ofNat i),.arr s2 k 0 1 _]=>bif(aA s1 sz&&aA s2 sz)&&(!(aA m k)&&(aP i len&&aP len 1000000))then X (X (m,λcs=>.ask k (xz sz i len cs)))else Z
 |[.Ge,.int .i64 (.ofNat 0),.arr s2 k 0 1 _]=>bif aA s2 sz then X (X (k,λvs=>xz sz 0 0 [] (.cells vs)))else Z
 |[.list s1 [] .GT,.int .i64 (.ofNat 0),.arr s2 k 0 1 _]=>bif aA s1 sz&&aA s2 sz then X (X (k,λvs=>xz sz 0 0 [] (.cells vs)))else Z
 |_=>Z
def JM{sz i len:Nat}{cs:az}{o:aH}{g:U_}{v:aa}(e:ee g (xz sz i len cs o)=X v):∃vs,o=.cells vs/\J cs=len*sz/\J vs=sz/\v=.tup [.arr sz 0 0 (len+1) 0,.agg (jy sz i vs cs)]:=by
 cases o<;>first|(cases e;done)|skip
 rename_i vs
 let⟨h1,e⟩:=aZ e
 simp only[bg]at h1;exact⟨vs,rfl,gA h1.1,gA h1.2,(sI e).symm⟩
variable{y:Value}
section
variable{fi tS tE fo sz bt:Nat}{z:aa}(H:Iz fi tS tE fo sz bt z)
include H
variable{G:Gh}{h:aB aH}{w:World}
theorem X1{X_:Value}{k q:Nat}{vs:az}(wr:WR G h w)(S:VR G x X_)(F:X_=.slice Z 0 0/\0=0\/∃a g,X_=.slice (X a) 0 g/\0<=g)(hY:VR G (.arr sz k 0 1 c1) Y)(R:h.get k=X (.cells vs))(D:J vs=sz)(P:G.at_ q=Z)(he:∀s,fy [] ⟨sz,bt,O,z⟩ x [.agg vs] O s=X (.arr sz s.aL 0 1 1,s.new (.cells vs))):
 Calls ag fi #[X_,.int .i64 (0:Nat),Y] w λe B=>∃y,e=.returned y/\∃A,WR A ((h.set k Z).set q (X (.cells (jy sz 0 vs [])))) B/\ce G h w A ((h.set k Z).set q (X (.cells (jy sz 0 vs [])))) B q (q+1)/\VR A (.arr sz q 0 1 1) y:=by
 have ec:jy sz 0 vs []=vs:=by simp[jy]
 have V:k≠q:=λe=>by
  let⟨a,ha,_⟩:=wr.obj k _ R
  rw[e,P]at ha;cases ha
 have e:∀n o,((h.set k Z).set q (X (.cells vs))).get n=X o->(h.set q (X (.cells vs))).get n=X o:=λn o ho=>by grind [aB.get_set]
 rw[ec];refine(X0 H (n:=0) (s':=(⟨h,q,0,0⟩:St).new (.cells vs)) wr S F hY w_ (by simp only[cJ,H.sl,aG,VZ H (s:=⟨h,q,0,0⟩) R D,he]) rfl P).mono ?_;rintro r B ⟨y,rfl,A,h1,h2,h3⟩;exact⟨y,rfl,A,WR.ext' (h:=h.set q (X (.cells vs))) h1 e,ce.ext' (h1:=h.set q (X (.cells vs))) h2 e,h3⟩
omit H in
theorem ag5{m off n lc:Nat}(p:VR G (.arr sz m off n lc) y):∃a g,y=.slice (X a) n g/\n<=g:=by
 cases p;exact⟨_,_,rfl,w_⟩
omit H in
theorem avX{l:az}{r:gV}(p:VR G (.list sz l r) y):∃a g,y=.slice (X a) (J l) g/\J l<=g:=by
 cases p;exact⟨_,_,rfl,w_⟩
theorem XX(args:az)(xs:gy)(wr:WR G h w)(B:bL G args xs)(n:Nat)(g:az->Rd)(cs cs':az)(s3 a b len c q:Nat)(A:pE sz args=X (X (n,g)))(hn:h.get n=X (.cells cs))(hg:ee h.get (g cs)=X (.tup [.arr s3 a b len c,.agg cs']))(hq:G.at_ q=Z):
 kI ag fi ⟨xs⟩ w λy w'=>∃G',WR G' ((h.set n Z).set q (X (.cells cs'))) w'/\ce G h w G' ((h.set n Z).set q (X (.cells cs'))) w' q (q+1)/\VR G' (.arr s3 q 0 len len) y:=by
 refine .inr ⟨H.ent _ _,?_⟩;have a1:∀{n:Nat},n<=1000001->eB n bt=O:=λ{n} hn=>by
  have:(n*2+1024)*bt<=2001026*88:=n7 w_ H.hb;unfold eB;exact bG w_
 unfold pE at A;split at A
 ·rename_i s1 m l lc i s2 k c1
  let⟨h1,A⟩:=aZ A
  simp only[bg,ny]at h1
  let⟨⟨ha,P⟩,h1,h2,h3⟩:=h1
  have ha:=gA ha;have P:=gA P;subst ha;subst P;have h2:=gS h2;have h3:=gS h3;have a3:m≠k:=λe=>by rw[e]at h1;simp at h1
  injection A with A;injection A with A;injection A with R V
  subst R;subst V;simp only[ee,ak]at hg
  let⟨o,hk,hg⟩:=hg
  obtain⟨vs,rfl,a0,F,e⟩:=JM hg;injection e with e;injection e with e D;injection D with D;injection D with D;injection e with R V e3 e4 e5
  subst R;subst e4;subst D;cases B with
  |cons S B=>
  cases B with
  |cons pI B=>
  cases B with
  |cons pY B=>
  cases B;cases pI;rcases iz i l with hi|hi
  exact arf H wr S pY hn hk a3 hi h3 a0 F hq;have a4:i=l:=w_
  subst a4;have ec:∀z,J cs=i*z->jy z i vs cs=cs++vs:=λz hz=>by
   unfold jy;rw[nA w_,yG w_,jV]
  have a2:=ag5 S;rw[ec _ a0];exact X0 H (s':=((⟨h,q,0,0⟩:St).put m Z).new (.cells (cs++vs))) wr S (.inr a2) pY h3 (by
   have hr:eB (i+1) bt=O:=a1 w_;simp[cJ,H.sl,VZ H (s:=⟨h,q,0,0⟩) hk F,fy,ll,dG,hn,hr,a0,aq,nq,St.put]) rfl hq
 ·rename_i s2 k c1
  let⟨P,A⟩:=aZ A
  have P:=gA P;subst P;injection A with A;injection A with A;injection A with R V
  subst R;subst V
  let⟨vs,e0,_,F,e⟩:=JM hg
  cases e0;injection e with e;injection e with e D;injection D with D;injection D with D;injection e with R V e3 e4 e5
  subst R;subst e4;subst D;cases B with
  |cons S B=>
  cases B with
  |cons pI B=>
  cases B with
  |cons pY B=>
  cases B;cases pI;cases S;exact X1 H wr .Ge (.inl R_) pY hn F hq λs=>by simp[fy,iB,a1,aq,nq]
 ·rename_i s1 s2 k c1
  let⟨P,A⟩:=aZ A
  simp only[bg]at P;have ha:=gA P.1;have P:=gA P.2;subst ha;subst P;injection A with A;injection A with A;injection A with R V
  subst R;subst V
  let⟨vs,e0,_,F,e⟩:=JM hg
  cases e0;injection e with e;injection e with e D;injection D with D;injection D with D;injection e with R V e3 e4 e5
  subst R;subst e4;subst D;cases B with
  |cons S B=>
  cases B with
  |cons pI B=>
  cases B with
  |cons pY B=>
  cases B;cases pI;have a2:=avX S;exact X1 H wr S (.inr a2) pY hn F hq λs=>by simp[fy,iB,a1,aq,nq]
 cases A
end
def L7:js ag 22=X ⟨6,88,O,.agg [.str [],.int .i64 0,.int .i64 0,.int .i64 0,.Ge,.Ge]⟩:=k_
def L8:js ag 45=X ⟨2,32,O,.agg [.str [],.str []]⟩:=k_
end Go.Proofs.YtakkigoeiahlcaaGreat
namespace Go.Proofs.YtakkigoeiahlcaaGreat
open Tryz
open Go.Ag
variable{Q:ay}[Std Q]
variable{n:Nat}
def VU(h:n<9223372036854775808):ow ag 3 195 (an n)=X (.int .u64 (n:Nat)):=by
 have e:IntKind.u64.wrap (n:Int)=(n:Int):=by unfold IntKind.wrap;simp[IntKind.bits,IntKind.signed];omega
 have g:ow ag 3 195 (an n)=X (.int .u64 (IntKind.u64.wrap (n:Int))):=k_
 rw[g,e]
def VT(h:n<9223372036854775808):ow ag 195 3 (.int .u64 (n:Nat))=X (an n):=by
 have g:ow ag 195 3 (.int .u64 (n:Nat))=X (.int .i64 (IntKind.i64.wrap (n:Int))):=k_
 have e:IntKind.i64.wrap (n:Int)=(n:Int):=by rw[oW];omega
 rw[g,e]
def W9:cP ag .shr 195 (.int .u64 (n:Nat)) (.int .u64 1)=X (.int .u64 ((n / 2:Nat):Int)):=by
 have g:cP ag .shr 195 (.int .u64 (n:Nat)) (.int .u64 1)=X (.int .u64 ((n:Int).fdiv (2 ^ 1))):=by rfl
 rw[g];have e:(n:Int).fdiv (2 ^ 1)=((n / 2:Nat):Int):=by rw[Int.fdiv_eq_ediv_of_nonneg _ d_];omega
 rw[e]
variable{s:St}
def UV(g:Q.spec 192=X kL)(q:No Q 205){o:Obj}(go:o.AL)(id:ae):ai Q 205 [o.val,.str id] s (bu (cK o.id id)) s:=by
 have A:=go.all;refine ai.ofNZ as0 (aM ?_);simp only[go_sem,seval,Obj.val,Obj.cells,A,g,kL];rfl
structure Fo (ov:aa) (id:ae) (n lo hi:Nat) (e:ax):Prop where
 h0:ac e 0=ov
 h1:ac e 1=.str id
 h2:ac e 2=.func (.func 205) [] []
 h8:ac e 8=an n
 h9:ac e 9=an lo
 h10:ac e 10=an hi
variable{ov:aa}{e:ax}
def Fo.mv{id:ae}{lo hi lo' hi':Nat}{g:ax}(F:Fo ov id n lo hi e)(h:ac g 0=ac e 0/\ac g 1=ac e 1/\ac g 2=ac e 2/\ac g 8=ac e 8/\ac g 9=an lo'/\ac g 10=an hi'):Fo ov id n lo' hi' g:=
 ⟨h.1.trans F.h0,h.2.1.trans F.h1,h.2.2.1.trans F.h2,h.2.2.2.1.trans F.h8,h.2.2.2.2.1,h.2.2.2.2.2⟩
def j9(id:ae)(o:Obj):Bool:=aR (cK o.id id) 0
variable{lc:Ag.Loc}{K:hP}
def aii(S:Q.spec 192=X kL)(B:No Q 205){l:ba}(ho:au 6 Obj.val ov l)(hg:∀o∈l,o.AL)(a7:J l<=1000000){id:ae}(g:∀(a b:Nat)(o p:Obj),a<=b->l[a]?=X o->l[b]?=X p->j9 id p=O->j9 id o=O)(hx:∀p e,p<=J l->(∀(a:Nat) o,a<p->l[a]?=X o->j9 id o=O)->(∀(a:Nat) o,p<=a->l[a]?=X o->j9 id o=I)->Fo ov id (J l) p p e->K (.exit 0) ⟨e,49,lc⟩ s):
 ∀(d lo hi:Nat)(e:ax),hi-lo<=d->lo<=hi->hi<=J l->(∀(a:Nat) o,a<lo->l[a]?=X o->j9 id o=O)->(∀(a:Nat) o,hi<=a->l[a]?=X o->j9 id o=I)->Fo ov id (J l) lo hi e->W Q 204 (.loop PV) ⟨e,49,lc⟩ s K:=by
 intro d
 induction d with
 |zero=>
  intro lo hi e h1 h2 h3 ha hb F;have R:lo=hi:=w_
  subst R;have e9:=F.h9;have A:=F.h10;refine aF ?_;simp only[go_sem,seval,PV,e9,A,bJ];exact hx _ _ h3 ha hb (F.mv (by simp only[sN,seval,F.h9,F.h10,and_self]))
 |succ d ih=>
  intro lo hi e h1 h2 h3 ha hb F;have e0:=F.h0;have e1:=F.h1;have e2:=F.h2;have e9:=F.h9;have A:=F.h10;rcases iz lo hi with a3|a8
  obtain⟨m,hm⟩:=cw ((lo+hi) / 2);have a2:m<J l:=w_
  obtain⟨o,q⟩:∃o,l[m]?=X o:=⟨_,dA a2⟩;have go:=hg o (cq q);have a0:IntKind.i64.wrap ((lo:Int)+(hi:Int))=((lo+hi:Nat):Int):=by rw[oW];omega
  have a6:=VU (n:=lo+hi) w_;have hh:=W9 (n:=lo+hi);rw[hm]at hh;have a5:=VT (n:=m) w_;have a4:=λlc k=>ho.at ek.2.2.1 q lc k;have D:=UV S B go id (s:=s);simp only[Obj.val,Obj.cells]at D;have a1:IntKind.i64.wrap ((m:Int)+1)=((m+1:Nat):Int):=by rw[oW];omega
  refine aF ?_;simp only[go_sem,seval,PV,e0,e1,e2,e9,A,a3,a0,adm,a6,hh,a5,a4,Obj.val,Obj.cells,B.s];refine aU.of D d_ ?_;cases hd:j9 id o;have P:aR (cK o.id id) 0=I:=hd;simp only[go_sem,seval,bu,P];refine ih lo m _ w_ w_ w_ ha (λa V h4 h5=>by
   cases hq:j9 id V;rfl;rw[g m a o V h4 q h5 hq]at hd;cases hd) ?_
  exact F.mv (by simp only[sN,seval,e0,e1,e2,F.h8,e9,and_self]);have P:aR (cK o.id id) 0=O:=hd;simp only[go_sem,seval,bu,P,a1];refine ih (m+1) hi _ w_ w_ h3 (λa V h4 h5=>g a m V o w_ h5 q hd) hb ?_;exact F.mv (by simp only[sN,seval,e0,e1,e2,F.h8,A,and_self]);have R:lo=hi:=w_
  exact ih lo hi e w_ h2 h3 ha hb F
structure ze (l:ba) (id:ae) (p:Nat):Prop where
 le:p<=l.length
 lo:∀(a:Nat) o,a<p->l[a]?=some o->j9 id o=true
 hi:∀(a:Nat) o,p<=a->l[a]?=some o->j9 id o=false
def aFv(q:Q.spec 20=X gI)(A:No Q 203){l:ba}(B:au 6 Obj.val ov l)(P:∀o∈l,o.AL)(D:J l<small):ai Q 203 [.agg [ov]] s (.bool (!bm l)) s:=by
 have g:=B.cs;have F:=xP B P D;refine ai.ofNZ asY (aM ?_);simp only[go_sem,seval,g,q,F]
def aFu(B:Q.spec 20=X gI)(g:No Q 203)(q:No Q 261)(A:No Q 202){l:ba}(P:au 6 Obj.val ov l)(R:∀o∈l,o.AL)(F:J l<small):ai Q 202 [.list 1 [.agg [ov]] .GT,.func (.func 203) [] []] s (.bool (!bm l)) s:=by
 have h:=Gb aiT A aqX q (enc:=λx:aa=>.agg [x]) (l:=[ov]) (cap:=[]) aex (.inr ⟨.GT,rfl⟩) (show 1<small from d_) (λx _=>⟨(LC _ 0).trans rfl,rfl⟩) g.s (p:=λ_=> !bm l) (s:=s) λx D=>by
  rw[kq.1 D];exact aFv B g P R F
 cases hv:bm l<;>rw[hv]at h<;>exact h
def afh(D:Q.spec 20=X gI)(q:No Q 203)(g:No Q 261)(A:No Q 202)(P:No Q 126){l:ba}(F:au 6 Obj.val ov l)(S:∀o∈l,o.AL)(R:J l<small):ai Q 126 [.list 1 [.agg [ov]] .GT] s (.bool (bm l)) s:=by
 have B:=F.cs;refine ai.ofNZ ar4 (aM ?_);simp only[go_sem,seval,B];refine aU.of (aFu D q g A F S R) d_ ?_;cases hv:bm l<;>simp only[go_sem,seval]<;>rfl
def ajx(g:No Q 128):ai Q 128 [.Ge] s .Ge s:=by
 have q:cP ag .eql 22 .Ge .Ge=X (.bool O):=k_
 refine ai.ofNZ Pn (aM ?_);simp only[go_sem,seval,q]
def ajv(g:No Q 128){r:gV}:ai Q 128 [.list 6 [] r] s (.list 6 [] .GT) s:=by
 have q:cP ag .eql 22 (.list 6 [] r) .Ge=X (.bool I):=k_
 have A:cJ ag [] 22 (.list 6 [] .GT) (.list 6 [] r) O s=X (.list 6 [] .GT,s):=by
  simp only[aaa,cJ,L7,aG,cU,rT]
 refine ai.ofNZ Pn (aM ?_);simp only[go_sem,seval,q,A,sB]
def N4(q:No Q 128){o:Obj}{l:ba}{r:gV}(A:(o::l).length<=1000):ai Q 128 [.list 6 ((o::l).map Obj.val) r] s (.arr 6 s.aL 0 (o::l).length (o::l).length) (s.new (.cells (aq ((o::l).map Obj.val)))):=by
 have B:cP ag .eql 22 (.list 6 ((o::l).map Obj.val) r) .Ge=X (.bool I):=k_
 have D:cJ ag [] 22 (.list 6 [] .GT) (.list 6 ((o::l).map Obj.val) r) O s=X (.arr 6 s.aL 0 (o::l).length (o::l).length,s.new (.cells (aq ((o::l).map Obj.val)))):=by
  have g:eB ([]++(o::l).map Obj.val).length 88=O:=x9 (by simp only[nz,bh,bP]at A⊢;omega) d_;rw[cZ]at g⊢;simp only[aaa,cJ,L7,aG,cU,cF,fy,iB,g,nz];simp only[nz]at g;rw[g];simp
 refine ai.ofNZ Pn (aM ?_);simp only[go_sem,seval,B,D,sB]
noncomputable def QN(T:dy)(ch:dd):ay:= {P:=ag,hint:=DB,spec:=λf=>EW f T,ch:=ch,kmax:=λ_=>1000000,specW:=λf=>bif aA f 129 then X (pE 6)else bif aA f 195 then X (pE 2)else Z,anew:=λf=>aA f 129||aA f 195 }
instance(T:dy)(ch:dd):Std (QN T ch):=⟨rfl,rfl,λ_=>rfl⟩
variable{T:dy}
def TQ{ch:dd}{f:Nat}{sp:aax}(h:(QN T ch).specW f=X sp):(f=129/\sp=pE 6)\/(f=195/\sp=pE 2):=by
 have h:(bif aA f 129 then X (pE 6)else bif aA f 195 then X (pE 2)else Z)=X sp:=h;rcases fY h with⟨g,h⟩|⟨_,h⟩
 exact .inl ⟨gA g,(sI h).symm⟩
 let⟨g,h⟩:=aZ h
 exact .inr ⟨gA g,(sI h).symm⟩
variable{args:az}{sz:Nat}
def arc{w:lD}(h:pE sz args=X w):∃n g,w=X (n,g)/\∀(f:U_) cs l,ee f (g cs)≠X (.agg l):=by
 have q:∀{i len:Nat}{cs:az}{o:aH}{f:U_}{l:az},ee f (xz sz i len cs o)≠X (.agg l):=λe=>by
  let⟨_,_,_,_,e⟩:=JM e
  cases e
 unfold pE at h;split at h
 let⟨_,h⟩:=aZ h
 cases h;refine⟨_,_,rfl,λf cs l e=>?_⟩;simp only[ee,ak]at e
 let⟨o,_,e⟩:=e
 exact q e
 let⟨_,h⟩:=aZ h
 cases h;exact⟨_,_,rfl,λf cs l e=>q e⟩
 let⟨_,h⟩:=aZ h
 cases h;exact⟨_,_,rfl,λf cs l e=>q e⟩;cases h
theorem aoi(F:eh T):Ag.AL (QN T λ_=>0) where
 mixed:=RH
 spec f sp hsp args v hv G hp w xs wr hx:=F _ (Mr hsp) args v hv G hp w xs wr hx
 specH f sp h args v G hp w xs wr hx hv:=by cases h
 specW f sp h args G hp w xs wr hx:=by
  have key:∀{sz:Nat}{u:lD},pE sz args=X u->(u≠Z)/\∀n g,u=X (n,g)->∀(f:U_) cs l,ee f (g cs)≠X (.agg l):=λ{sz u} h1=>by
   let⟨n,g,e,h4⟩:=arc h1
   refine⟨λB=>(by rw[B]at e;cases e),λR S B=>?_⟩;rw[B]at e;injection e with e;injection e with P B
   subst P;subst B;exact h4
  rcases TQ h with⟨rfl,rfl⟩|⟨rfl,rfl⟩<;>exact⟨λh1=>absurd rfl (key h1).1,λn g cs A h1 h2 h3=>absurd h3 ((key h1).2 n g rfl _ _ _)⟩
 specN f sp h _ args G hp w xs wr hx n g cs A sz a b len c q h1 h2 h3 h4:=by
  rcases TQ h with⟨rfl,rfl⟩|⟨rfl,rfl⟩
  exact XX arb args xs wr hx n g cs A sz a b len c q h1 h2 h3 h4;exact XX ard args xs wr hx n g cs A sz a b len c q h1 h2 h3 h4
 names f fn D:=by
  have D:ag.funcs[f]?=X fn:=D
  grind [RN]
variable{f:FuncId}
def S9(hT:eh T){u:aa}(hp:dR args=O)(V:∀g,∃v s',ai (QN T g) f (di args) s0 v s'/\fF s'.heap v u)(G:Gh)(h:aB aH)(w:World)(xs:gy)(wr:WR G h w)(S:bL G args xs):
 kI ag f ⟨xs⟩ w λy R=>∃P,WR P h R/\ce G h w P h R 0 0/\VR P u y:=by
 let⟨N,hN⟩:=Wn (B:=1000000) w_ (λg n=>∃v s',(bX (QN T g) n).call f (di args) [] s0=X (v,s')/\fF s'.heap v u)
  (λg n m D ⟨v,s',A,q⟩=>⟨v,s',(mD (QN T g) D).call _ _ _ _ _ A,q⟩)
  (λg n ⟨v,s',A,q⟩=>⟨s'.ci,λF hc=>⟨v,s',(se (QN T λ_=>0) n).call f _ [] g s0 v s' A F hc,q⟩⟩)
  (λg _=>let⟨v,s',⟨n,A⟩,q⟩:=V g;⟨n,v,s',A,q⟩)
 exact Ta (Q:=QN T λ_=>0) (n:=N) (aoi hT) (λ_=>(by decide:0<1000000)) hp (λg hi=>hN g hi) G h w xs wr S
def Vk:∀(l:ba)(p:Nat),(aq (l.map Obj.val)).take (p*6)=aq ((l.take p).map Obj.val)
 |[],p=>by simp[aq]
 |o::l,0=>by simp[aq]
 |o::l,p+1=>by
  have h:(aq (l.map Obj.val)).take (p*6)=aq ((l.take p).map Obj.val):=Vk l p;have e:J o.val.cells=6:=rfl;rw[wH,cZ,cZ,aq,aq,<-h,List.take_append,e,nA w_,show(p+1)*6-6=p*6 from w_]
def Vi:∀(l:ba)(p:Nat),(aq (l.map Obj.val)).drop (p*6)=aq ((l.drop p).map Obj.val)
 |[],p=>by simp[aq]
 |o::l,0=>by simp
 |o::l,p+1=>by
  have h:(aq (l.map Obj.val)).drop (p*6)=aq ((l.drop p).map Obj.val):=Vi l p;have e:J o.val.cells=6:=rfl;rw[uI,cZ,aq,<-h,Ij,e,yG w_,nz,show(p+1)*6-6=p*6 from w_]
def aiP(x:Obj)(l:ba)(p:Nat):jy 6 p x.val.cells (aq (l.map Obj.val))=aq ((l.take p++x::l.drop p).map Obj.val):=by
 unfold jy;rw[Vk,Vi,dj,cZ,mY,aq]
def Mv{q:Obj}(h:dY q=O):q.id≠[]:=by
 unfold dY at h;cases hb:lK q;simp only[lK,wz,decide_eq_false_iff_not,Bool.not_eq_false']at hb;have g:=hb.1.1.1.2;intro e;rw[e]at g;cases g;rw[hb]at h;cases h
def Rx{id:ae}{o:Obj}:j9 id o=O↔gi o.id id=O:=by
 rw[<-ou];exact decide_eq_true_iff
def anl{id:ae}{o:Obj}(h:j9 id o=I)(g:o.id≠id):gi id o.id=O:=by
 rw[<-ou];have B:¬cK o.id id<0:=of_decide_eq_false h;have A:cK o.id id≠0:=λe=>g (rJ e);have q:=Bi o.id id;omega
def Hf{l:ba}(B:bm l=O)(id:ae)(a b:Nat)(o p:Obj)(P:a<=b)(A:l[a]?=X o)(g:l[b]?=X p)(h:j9 id p=O):j9 id o=O:=by
 simp only[bm,bg]at B;have R:=(xu l [] B.1).2;rcases iz a b with q|F
 have D:=MN.1 (yN.1 R) a b (ie.1 A).1 (ie.1 g).1 q;rw[(ie.1 A).2,(ie.1 g).2]at D;rw[Rx,<-ou]at h⊢;exact Bj ((ou _ _).2 D) h;have:a=b:=w_
 subst this;rw[A]at g
 have:=sI g;subst this;exact h
variable{p:Nat}
def ari{l:ba}{x:Obj}(F:bm l=O)(hx:dY x=O)(R:∀o∈l,o.id≠x.id)(V:ze l x.id p)(hl:J l<1000000):bm (l.take p++x::l.drop p)=O:=by
 simp only[bm,bg,dE]at F⊢
 let⟨h1,h2⟩:=xu l [] F.1
 have A:=sm l [] F.1;have D:gi [] x.id=O:=by
  rcases e:x.id with _|⟨c,r⟩
  exact absurd e (Mv hx);rw[<-ou];simp[cK]
 have ht:∀o∈l.take p,gi o.id x.id=O:=λo B=>by
  let⟨a,g⟩:=rd.1 B
  rw[wC]at g;split at g;exact Rx.1 (V.lo a o w_ g);cases g
 have hd:∀o∈l.drop p,gi x.id o.id=O:=λo B=>by
  let⟨a,g⟩:=rd.1 B
  rw[qZ]at g;exact anl (V.hi (p+a) o w_ g) (R o (oZ B))
 have hp:=yN.1 h2;refine⟨La _ [] (λq P=>?_) (λk hk=>?_) (yN.2 (List.pairwise_append.2 ⟨hp.sublist (List.take_sublist p l),List.pairwise_cons.2 ⟨hd,hp.sublist (List.drop_sublist p l)⟩,λa g b S=>?_⟩)),?_⟩;rcases fJ.1 P with h|h
 exact A q (wD h);rcases dD.1 h with rfl|h
 exact hx;exact A q (oZ h);obtain⟨q,P,rfl⟩:=cy.1 hk;rcases fJ.1 P with h|h
 exact h1 _ (List.mem_map_of_mem (wD h));rcases dD.1 h with rfl|h
 exact D;exact h1 _ (List.mem_map_of_mem (oZ h));rcases dD.1 S with rfl|S
 exact ht a g;rw[<-ou];exact Bj ((ou _ _).2 (ht a g)) ((ou _ _).2 (hd b S));rw[bI,bP,jG,kp]
 have:=V.le;omega
def dU(id:ae)(l:ba):Nat:=l.findIdx λo=> !j9 id o
def x7(l:ba)(x:Obj):ba:=l.take (dU x.id l)++x::l.drop (dU x.id l)
def ze.eq{l:ba}{id:ae}{q:Nat}(a:ze l id p)(b:ze l id q):p=q:=by
 have g:∀{p q:Nat},ze l id p->ze l id q->¬p<q:=λ{p q} a b h=>by
  have A:p<J l:=by have:=b.le;omega
  have e:=dA A;have B:=a.hi p _ (aC _) e;rw[b.lo p _ h e]at B;cases B
 have B:=g a b;have D:=g b a;omega
def Mf{l:ba}{id:ae}(hm:∀(a b:Nat)(o p:Obj),a<=b->l[a]?=X o->l[b]?=X p->j9 id p=O->j9 id o=O):ze l id (dU id l) where
 le:=List.findIdx_le_length
 lo a o ha hat:=by
  obtain⟨h1,rfl⟩:=ie.1 hat;have h2:=List.not_of_lt_findIdx ha;simpa using h2
 hi a o ha hat:=by
  cases e:j9 id o;rfl;have q:=(ie.1 hat).1;have g:dU id l<J l:=w_
  have h1:=hm _ a _ o ha (dA g) hat e;have h2:(!j9 id l[dU id l])=O:=List.findIdx_getElem (w:=g);rw[h1]at h2;cases h2
def Vs:∀l:ba,chunk (!aA 6 1) 6 (J l) (aq (l.map Obj.val))=X (l.map Obj.val)
 |[]=>rfl
 |o::l=>by
  have g:=Vs l;have A:aq ((o::l).map Obj.val)=.str o.id:: .int .i64 o.Al:: .int .i64 o.x:: .int .i64 o.y::o.refsV::o.tagsV::aq (l.map Obj.val):=rfl;rw[A];simp only[bP,cZ];show(bif(!aA 6 1)then _ else _)=_;have q:cut (.str o.id:: .int .i64 o.Al:: .int .i64 o.x:: .int .i64 o.y::o.refsV::o.tagsV::aq (l.map Obj.val)) 0 6=X o.cells:=rfl;rw[q];simp only[aG,uI,kG,g];rfl
def Jt:∀l:ba,(aq (l.map Obj.val)).length=J l*6
 |[]=>rfl
 |o::l=>by
  have g:=Jt l;show(o.cells++aq (l.map Obj.val)).length=_;rw[bI,g,bP];show 6+_=_;omega
def ajw(q:No Q 128)(B:Q.spec 129=Z)(D:Q.specW 129=X (pE 6))(F:Q.anew 129=O){l:ba}(ho:au 6 Obj.val ov l)(hl:J l<=1000)(x:Obj)(R:p<=J l)(s:St):
 ∃c P m V,ai Q 128 [ov] s c P/\c.cells=[c]/\c.gt=O/\ai Q 129 [c,an p,.arr 6 P.aL 0 1 1] (P.new (.cells x.cells)) (.arr 6 m 0 (J l+1) (J l+1)) V/\V.get [] m=X (.cells (aq ((l.take p++x::l.drop p).map Obj.val))):=by
 have S:jy 6 p x.cells (aq (l.map Obj.val))=_:=aiP x l p;rcases ho with⟨rfl,rfl⟩|⟨r,rfl⟩
 have A:p=0:=by simpa using R
 subst A;refine⟨.Ge,s,_,_,ajx q,rfl,rfl,ai.specN F B (Std.H _) D (n:=s.aL) (cs:=x.cells) (cs':=jy 6 0 x.cells []) rfl cr rfl,?_⟩;rw[<-S];exact cr;cases l with
 |nil=>
  have A:p=0:=by simpa using R
  subst A;refine⟨.list 6 [] .GT,s,_,_,ajv q,rfl,rfl,ai.specN F B (Std.H _) D (n:=s.aL) (cs:=x.cells) (cs':=jy 6 0 x.cells []) rfl cr rfl,?_⟩;rw[<-S];exact cr
 |cons o l=>
  refine⟨.arr 6 s.aL 0 (o::l).length (o::l).length,s.new (.cells (aq ((o::l).map Obj.val))),_,_,N4 q hl,rfl,rfl,ai.specN F B (Std.H _) D (n:=s.aL) (g:=λcs=>.ask (s.aL+1) (xz 6 p (o::l).length cs)) (cs:=aq ((o::l).map Obj.val)) (cs':=jy 6 p x.cells (aq ((o::l).map Obj.val))) (sz:=6) (a:=0) (b:=0) (len:=(o::l).length+1) (c:=0) ?_ ?_ ?_,?_⟩;have q1:aA s.aL (s.aL+1)=I:=by rw[cd];exact bN.2 w_
  have q2:aP p (o::l).length=O:=bG R;have q3:aP (o::l).length 1000000=O:=bG w_;show(bif(aA 6 6&&aA 6 6)&&(!(aA s.aL (s.aL+1))&&(aP p (o::l).length&&aP (o::l).length 1000000))then _ else _)=_;rw[q1,q2,q3];rfl;rw[ei,bN.2 (by show s.aL≠s.aL+1;omega)];exact cr;show(((s.new (.cells (aq ((o::l).map Obj.val)))).new (.cells x.cells)).get [] (s.new (.cells (aq ((o::l).map Obj.val)))).aL).bind (λv=>ee _ (xz 6 p (o::l).length (aq ((o::l).map Obj.val)) v))=_;rw[cr,aG];show(bif aA (aq ((o::l).map Obj.val)).length ((o::l).length*6)&&aA 6 6 then _ else _)=_;rw[Jt,cd,bS];rfl;rw[<-S];exact cr
def VF:cW ag 192 kL:=by
 refine mL agE λargs u h=>?_;unfold kL at h;split at h;cases h;exact⟨rfl,_,s0,ajP R_ R_ rfl _ _ s0,rfl,1,rfl⟩;cases h
def Nf:dy:=[(20,gI),(43,qN),(192,kL)]
def Uc:eh Nf:=.cons vB (.cons K9 (.cons VF .nil))
def adE(l:ba)(x:Obj):(x7 l x).length=J l+1:=by
 unfold x7;rw[bI,bP,jG,kp];omega
def adF{l:ba}{x o:Obj}(h:o∈x7 l x):o=x\/o∈l:=by
 rcases fJ.1 h with h|h
 exact .inr (wD h);rcases dD.1 h with h|h
 exact .inl h;exact .inr (oZ h)
def rY(l:ba):df:=l.map λo=>(o.id,ah o.Al)
def DT(k:ae):∀l:ba,bR k (rY l)=(cD k l).map λq=>ah q.Al
 |[]=>rfl
 |o::l=>by
  have g:=DT k l;simp only[rY]at g;simp only[rY,cZ,bR,cD,g];by_cases h:k=o.id;subst h;simp;have A:(k==o.id)=I:=bN.2 h;simp[h,A]
def sJ(Al:Int)(i:Nat):Int:=bif aj Al 4 then 2 else bif aj Al 5 then bif aj (i:Int) 1 then 1 else 2 else 1
def Ah(l:ba)(Al:Int)(i:Nat)(r:ae):Bool:=
 match cD r l with
 |some q=>aj q.Al (sJ Al i)
 |none=>I
def A8(l:ba)(Al:Int)(gT:cf):Prop:=∀(i:Nat)(r:ae),gT[i]?=X r->Ah l Al i r=O
def Fk(l:ba):Prop:=∀o∈l,A8 l o.Al o.gT
structure Up (s s':St):Prop where
 old:∀k,k<s.aL->s'.get [] k=s.get [] k
 nx:s.aL<=s'.aL
 mw:s'.gE<=s'.aL
def Up.refl(h:s.gE<=s.aL):Up s s:=⟨λ_ _=>rfl,aC _,h⟩
variable{t:St}
def Up.trans{u:St}(a:Up s t)(b:Up t u):Up s u:=⟨λk g=>(b.old k (fP g a.nx)).trans (a.old k g),dg a.nx b.nx,b.mw⟩
theorem Up.new(a:Up s t)(o:aH):Up s (t.new o):=⟨λk g=>by rw[cQ (fP g a.nx)];exact a.old k g,co a.nx,co a.mw⟩
variable{m:Nat}
theorem Up.put(a:Up s t)(h:s.aL<=m)(o:sh):Up s (t.put m o):=⟨λk g=>by rw[aO,bN.2 (by omega:k≠m)];exact a.old k g,a.nx,cG _ _ _ a.mw⟩
structure sU (s:St) (bx m:Nat) (ov:aa) (l:ba):Prop where
 box:s.get [] bx=some (.cells [ov,.map m])
 kin:bf aa.str s m (rY l)
 b0:bx<s.aL
 m0:m<s.aL
variable{bx:Nat}
def sU.up{s':St}{l:ba}(C:sU s bx m ov l)(u:Up s s'):sU s' bx m ov l:=⟨(u.old bx C.b0).trans C.box,(u.old m C.m0).trans C.kin,fP C.b0 u.nx,fP C.m0 u.nx⟩
def aFR(g:No Q 117)(k:Int)(i:Nat)(s:St):ai Q 117 [ah k,an i] s (ah (sJ k i)) s:=by
 refine ai.ofNZ arW (aM ?_);cases e1:aj k 4<;>cases e2:aj k 5<;>cases e3:aj (i:Int) 1<;>simp only[go_sem,seval,sJ,e1,e2,e3]
def aBr(S:No Q 117){l:ba}(C:sU s bx m ov l){o:Obj}(go:o.AL)(hl:J o.gT<=1000000)(g3:lc.gen 3=1)(l3:lc.get 3 1=X o.cells)(hx:∀e,A8 l o.Al o.gT->K (.exit 0) ⟨e,37,lc⟩ s)(hr:∀e a1,a1≠0->¬A8 l o.Al o.gT->ac e 4=ah a1->K .ret ⟨e,37,lc⟩ s):
 ∀(rest A:cf)(e:ax),o.gT=A++rest->(∀(i:Nat) r,i<J A->o.gT[i]?=X r->Ah l o.Al i r=O)->ac e 0=.ptr bx 0->ac e 3=.Gt 3 1 0->ac e 10=o.refsV->ac e 11=an (J o.gT)->ac e 12=an (J A)->W Q 72 (.loop KI) ⟨e,37,lc⟩ s K:=by
 intro rest;have a0:=go.gT.cs;have hb:=C.box;simp only[Obj.cells]at l3
 induction rest with
 |nil=>
  intro A e h1 hp e0 e3 P F D;have a4:=cL h1;refine aF ?_;simp only[go_sem,seval,KI,F,D,a4,bJ];exact hx _ λi r hi=>hp i r (by have:=(ie.1 hi).1;omega) hi
 |cons x rest ih=>
  intro A e h1 hp e0 e3 P F D
  let⟨hlt,hat⟩:=cR h1
  have V:=λlc k=>go.gT.at bM.2.2.1 hat lc k;have a3:=cm (n:=J A) w_;have B:=nM gn rZ uD C.kin x;rw[DT]at B;have run:=aFR S o.Al (J A) s;have a2:Ah l o.Al (J A) x=I->¬A8 l o.Al o.gT:=λh g=>by rw[g _ _ hat]at h;cases h
  refine aF ?_;cases hq:cD x l with
  |none=>
   rw[hq]at B;simp only[n8,iu]at B;simp only[go_sem,seval,KI,e0,e3,P,F,D,hlt,a0,V,aw,hb,B];exact hr _ 14 d_ (a2 (by simp[Ah,hq])) (by simp only[sN,seval])
  |some q=>
   rw[hq]at B;simp only[kV,iu]at B;simp only[go_sem,seval,KI,e0,e3,P,F,D,hlt,a0,V,aw,hb,B,g3,l3];refine aU.of run d_ ?_;cases hk:aj q.Al (sJ o.Al (J A))with
   |false=>
    simp only[go_sem,seval,hk];exact hr _ 13 d_ (a2 (by simp[Ah,hq,hk])) (by simp only[sN,seval])
   |true=>
    simp only[go_sem,seval,hk,D,a3];refine ih (A++[x]) _ (db h1) (λi r hi R=>?_) ?_ ?_ ?_ ?_ ?_;by_cases hip:i<J A;exact hp i r hip R;have:i=J A:=by simp at hi;omega
    subst this;rw[hat]at R;obtain rfl:=sI R;simp[Ah,hq,hk]
    all_goals simp only[sN,seval,e0,e3,P,F,sA]
def Sz(q:No Q 117)(F:No Q 72){l:ba}(C:sU s bx m ov l){o:Obj}(go:o.AL)(R:J o.gT<=1000000):∃g,ai Q 72 [.ptr bx 0,o.val] s (ah g) s/\(g=0↔A8 l o.Al o.gT):=by
 have P:=go.all;have A:=go.gT.lenS bM;obtain⟨v,s',D,g,rfl,rfl,B⟩:∃v s',ai Q 72 [.ptr bx 0,o.val] s v s'/\∃g,v=ah g/\s'=s/\(g=0↔A8 l o.Al o.gT):=by
  refine ai.ofNRZ auh (aM ?_);simp only[go_sem,seval,Obj.val,Obj.cells,P,A];refine aBr q C go R ?_ ?_ (λe h=>?_) (λe g D B S=>?_) o.gT [] _ rfl (λi r hi=>absurd hi (AW _)) ?_ ?_ ?_ ?_ ?_;rfl;rfl;simp only[go_sem,seval];exact⟨_,rfl,0,rfl,λ_=>h,λ_=>rfl⟩;simp only[go_sem,seval,S];exact⟨_,rfl,g,rfl,λh=>absurd h D,λh=>absurd h B⟩
  all_goals simp only[sN,seval,bC]
  all_goals rfl
 exact⟨g,D,B⟩
variable{lv:aa}
def aFx(B:No Q 38)(A:au 15 aK.val lv [])(s:St):ai Q 38 [lv] s (.bool I) s:=by
 have q:=A.cs;have g:=A.lenS nk;have e0:aR 0 0=I:=rfl;refine ai.ofNZ GK (aM ?_);simp only[go_sem,seval,q,g,Int.ofNat_zero,e0]
def aFo(hK:∀i,1000000<=Q.kmax i)(D:No Q 42)(V:No Q 40)(b1:No Q 39)(H:CL Q)(A:No Q 119)(B:No Q 73)(a2:No Q 82)(a3:No Q 81)(a1:No Q 133)(a4:No Q 80)(a0:No Q 38)(b6:No Q 19)(a8:Q.spec 61=Z)(a5:Q.specW 61=X uj)(a9:No Q 41){l:MB}(S:au 15 aK.val lv l)(hg:∀e∈l,e.AL)(hid:∀e∈l,J e.ids<1000000)(g:J l<=1000000)(P:s.gE<=s.aL):
 ∃v s',ai Q 19 [lv] s v s'/\(Up s s'/\∃U lo,oh s' v U lo/\s.aL<=lo/\(∀u∈U,J u.1<=J l/\∀x∈u.1,x<J l)/\J U<=J l/\tot (U.map Prod.fst)<=J l):=by
 have q:=S.cs;have R:=S.lenS nk;obtain⟨b,b2,hb⟩:∃b:Bool,ai Q 38 [lv] s (.bool b) s/\(b=O->0<J l):=by
  rcases l with _|⟨e,l⟩
  exact⟨I,aFx a0 S s,λh=>by cases h⟩
  let⟨b,h⟩:=aFy H A B a3 a1 a4 a0 S hg P
  exact⟨b,h,λ_=>Nat.succ_pos _⟩
 refine ai.ofNRZ asT (aM ?_);simp only[go_sem,seval,zS,q];refine aU.of b2 d_ ?_;cases b with
 |false=>
  simp only[go_sem,seval];exact⟨_,rfl,Up.refl P,[],s.aL,⟨.inl R_,λu h=>(by cases h),λi j a b h=>(by simp at h),λr h=>(by cases h)⟩,aC _,λu h=>(by cases h),fT _,fT _⟩
 |true=>
  have a7:=hb rfl
  let⟨u,hu,un,uw,uo,_,ub⟩:=vE (.map [] 0) (.cells [.Ge,.map s.aL]) P
  have um:bf aa.str u s.aL []:=by
   show u.get [] s.aL=_;rw[<-hu,cQ (by show s.aL<s.aL+1;omega),cr];rfl
  have hI:UI s u (s.aL+1) s.aL (s.aL+2) 0:=⟨.Ge,[],[],ub,.inl R_,rfl,λi v h=>(by simp at h),um,λp h=>(by cases h),λr h=>(by cases h),uo,w_,uw,w_,w_⟩;simp only[go_sem,seval,q,R,jA,NZ,dL,evc,hu];refine aFm D V b1 S hg g (s0:=s) (bx:=s.aL+1) (m:=s.aL) (λe lc s1 hi b4 E=>?_) l [] _ _ u _ rfl hI ⟨?_,?_⟩ ?_ ?_ ?_
  ·have E0:=E.h0
   simp only[go_sem,seval,E0,q,R];refine aFp hK D V H A B a2 a8 a5 a9 S hg hid g (s0:=s) (n:=J l) (aC _) (λe lc F b7 b3 E2=>?_) l [] _ _ s1 hi rfl b4 ⟨?_,?_⟩ ?_ ?_ ?_
   ·have E0:=E2.h0
    have E3:=E2.h3
    let⟨v,up,L,J_⟩:=b3
    let⟨r,hv,hS⟩:=J_.sets a7
    have hr:=J_.rl r (by rw[hv];rfl);have hn:=J_.hn;have b0:=J_.b0;have m0:=J_.m0;have a6:=J_.len;obtain⟨z,hz⟩:=cw (F.new (.map [] 0));have zg:∀k,k<F.aL->z.get [] k=F.get [] k:=λk hk=>by rw[<-hz];exact cQ hk
    have zn:z.aL=F.aL+1:=by rw[<-hz];rfl
    have hM:mn s z (s.aL+1) r s.aL F.aL (F.aL+1) up .Ge [] [] 0 0:=
     ⟨⟨(zg _ w_).trans hS.box,(zg _ w_).trans hS.row,hS.le⟩,by show z.get [] F.aL=_;rw[<-hz];exact cr,
       ⟨.inl R_,λu h=>(by cases h),λi j a b h=>(by simp at h),λr h=>(by cases h)⟩,λt ht=>absurd ht (AW _),λu h=>(by cases h),fT _,λk hk=>(zg k w_).trans (J_.old k hk),⟨w_,w_⟩,⟨w_,w_,w_,w_⟩,by rw[<-hz];exact co J_.mw,rfl⟩
    simp only[go_sem,seval,E0,q,R,jA,hz];refine aFq D (n:=J l) g a6 (λe lc s3 w U T h b5=>?_) (J l) 0 _ _ z .Ge [] [] w_ hM ?_ ?_ ?_ ?_ ?_;have wc:=h.rows.row.gt;simp only[go_sem,seval,b5,wc];have l0:=h.lo0;exact⟨_,rfl,⟨h.old,w_,h.mw⟩,U,_,h.rows,l0.1,λu hu=>⟨(h.bd u hu).1,λx hx=>by rw[<-a6];exact(h.bd u hu).2 x hx⟩,h.ul,by rw[h.tt];exact aC _⟩
    all_goals simp only[sN,seval,E3]
    all_goals rfl
   all_goals simp only[sN,seval,E0,E.h3,bC]
   all_goals rfl
  all_goals simp only[sN,seval,bC]
  all_goals rfl
structure qi {α:Type} (sz:Nat) (enc:α->aa):Prop where
 agg:∀x,enc x=.agg (enc x).cells
 len:∀x,(enc x).cells.length=sz
 pos:0<sz
section
variable{α:Type}{sz:Nat}{enc:α->aa}(E:qi sz enc)
include E
theorem qi.take:∀(l:List α)(p:Nat),(aq (l.map enc)).take (p*sz)=aq ((l.take p).map enc)
 |[],p=>by simp[aq]
 |x::l,0=>by simp[aq]
 |x::l,p+1=>by
  have g:=qi.take l p;have e:=E.len x;rw[wH,cZ,cZ,aq,aq,<-g,jW,List.take_append,e,nA w_,Nat.add_sub_cancel]
theorem qi.drop:∀(l:List α)(p:Nat),(aq (l.map enc)).drop (p*sz)=aq ((l.drop p).map enc)
 |[],p=>by simp[aq]
 |x::l,0=>by simp
 |x::l,p+1=>by
  have g:=qi.drop l p;have e:=E.len x;rw[uI,cZ,aq,<-g,jW,Ij,e,yG w_,nz,Nat.add_sub_cancel]
theorem qi.size:∀l:List α,(aq (l.map enc)).length=J l*sz
 |[]=>by simp[aq]
 |x::l=>by rw[cZ,aq,bI,E.len,qi.size l,bP,jW];omega
theorem qi.chunk:∀l:List α,chunk O sz (J l) (aq (l.map enc))=X (l.map enc)
 |[]=>rfl
 |x::l=>by
  have g:=qi.chunk l;have e:=E.len x;have A:cut (aq ((x::l).map enc)) 0 sz=X (enc x).cells:=by
   simp only[cut,kG,cZ,aq];rw[List.take_append,e,Nat.sub_self,wI,jV,nA w_,e,cd,bS];rfl
  have q:(aq ((x::l).map enc)).drop sz=aq (l.map enc):=by
   rw[cZ,aq,Ij,e,yG w_,Nat.sub_self,kG,nz]
  show(bif O then _ else _)=_;rw[cT,A,aG,q,g,aG,cZ,<-E.agg x]
end
def Ax{t e sz:TypeId}(q:ag.underlying t=X (.slice e))(A:cS ag e=X sz)(mk:aI)(m off len lcap:Nat)(lo hi g:sq)(env:ax)(s:St):eC ag mk t (.arr sz m off len lcap) lo hi g env s=(dI env hi len).bind λh=>(dI env lo 0).bind λl=>(dI env g lcap).bind λc=>bif aP l h&&aP h c&&aP c lcap&&(g.isNone||hi.isSome)then X (.arr sz m (off+l*sz) (h-l) (c-l))else Z:=by
 simp only[eC,q,aG,A,cd,bS,jo]
variable{α:Type}
def akN{enc:α->aa}(E:qi sz enc){l:List α}(q:s.get [] m=X (.cells (aq (l.map enc))))(B:p<=J l):cU [] O sz (.arr sz m (0+p*sz) (J l-p) (J l-p)) s=X ((l.drop p).map enc):=by
 have h:=E.chunk (l.drop p);rw[kp]at h;have A:cut (aq (l.map enc)) (0+p*sz) ((J l-p)*sz)=X (aq ((l.drop p).map enc)):=by
  have g:=E.size (l.drop p);rw[kp]at g;rw[dS,cut,E.drop,nA w_,g,cd,bS];rfl
 simp only[aaa,cU,q,aG,A,h]
variable{i:Nat}
def VW{b t:Nat}{enc:α->aa}{z:aa}(E:qi sz enc)(hs:js ag t=X ⟨sz,b,O,z⟩)(hb:b<=88){l:List α}(hm:s.get [] m=X (.cells (aq (l.map enc))))(hi:i<J l)(hl:J l<=1000000)(mu:Bool):
 ∃o F,cJ ag [] t (.arr sz m 0 i (J l)) (.arr sz m (0+(i+1)*sz) (J l-(i+1)) (J l-(i+1))) mu s=X (.arr sz m 0 (J l-1) (J l),bif o then s.put m (X (.cells (aq ((l.eraseIdx i).map enc)++F)))else s)/\(o=I->aq (l.map enc)=aq ((l.eraseIdx i).map enc)++F)/\J F=sz:=by
 have A:=akN E hm (p:=i+1) w_;have hx:l.drop i=l[i]::l.drop (i+1):=by rw[yF hi]
 have B:l.eraseIdx i=l.take i++l.drop (i+1):=List.eraseIdx_eq_take_drop_succ ..;have q:aq (l.map enc)=aq ((l.take i).map enc)++((enc l[i]).cells++aq ((l.drop (i+1)).map enc)):=by
  have h:=wF (i*sz) (aq (l.map enc));rw[E.take,E.drop,hx,cZ,aq]at h;exact h.symm
 have P:=E.size (l.take i);have V:=E.size (l.drop (i+1));have n0:=E.size l;have S:(l.take i).length=i:=by rw[jG];omega
 rw[S]at P;rcases hd:l.drop (i+1)with _|⟨y,r⟩
 have g:J l=i+1:=by have:=congrArg oY hd;rw[kp]at this;simp at this;omega
 refine⟨I,(enc l[i]).cells,?_,λ_=>?_,E.len _⟩;rw[hd]at A;simp only[aaf,cJ,hs,A,nY,rT,cF];rw[g];rfl;rw[q,B,hd];simp[aq];have g:(y::r).length=J l-(i+1):=by rw[<-hd,kp]
 have R:((y::r).map enc).length=J l-(i+1):=by rw[bh,g]
 rw[hd]at A V q B;have hr:eB (i+(J l-(i+1))) b=O:=x9 w_ hb;simp only[bP]at g;have h1:aA (0+i*sz) (aq (l.map enc)).length=I:=by
  rw[cd,n0];refine bN.2 λe=>?_;have D:=congrArg oY q;rw[n0,bI,bI,P,E.len,V]at D;simp only[bP,jW]at D;have h3:=E.pos;omega
 have D:aP (i+(J l-(i+1))) (J l)=O:=bG w_;have hf:i*sz+(aq ((y::r).map enc)).length+sz=(aq (l.map enc)).length:=by
  have D:=congrArg oY q;rw[bI,bI,P,E.len]at D;omega
 have h3:aP (0+i*sz+(aq ((y::r).map enc)).length) (aq (l.map enc)).length=O:=bG w_;refine⟨O,(aq (l.map enc)).drop (i*sz+(aq ((y::r).map enc)).length),?_,(λh=>by cases h),by rw[kp];omega⟩;simp only[cJ,hs,aG,A];rw[cZ];simp only[fy,hm,aG];rw[<-cZ,R,hr,cd,bS];simp only[aac,h1,cF,D,gR,h3];rw[dS,E.take,B,dj,mY,oX,show i+(J l-(i+1))=J l-1 from w_]
def On:qi 6 Obj.val:=⟨λ_=>rfl,λ_=>rfl,d_⟩
def qx:qi 2 bW:=⟨λ_=>rfl,λ_=>rfl,d_⟩
def gY(l:ba)(id:ae)(p:Nat):Bool:=
 match l[p]? with
 |some o=>o.id==id
 |none=>I
def XO(a b:ae):aj (cK a b) 0=(a==b):=by
 by_cases h:a=b;subst h;rw[Da,bS];rfl;rw[bN.2 h];exact dN λe=>h (rJ e)
def aic(A:Q.spec 192=X kL)(g:No Q 205)(a2:No Q 204){l:ba}(S:au 6 Obj.val ov l)(hg:∀o∈l,o.AL)(R:J l<=1000000){id:ae}(B:∀(a b:Nat)(o p:Obj),a<=b->l[a]?=X o->l[b]?=X p->j9 id p=O->j9 id o=O):
 ∃v s',ai Q 204 [ov,.str id,.func (.func 205) [] []] s v s'/\∃p,ze l id p/\s'=s/\v=.tup [an p,.bool (gY l id p)]:=by
 have a1:=S.cs;have V:=S.lenS ek;refine ai.ofNRZ asZ (aM ?_);simp only[go_sem,seval,V,a1];refine aii A g S hg R B (λp e h1 h2 h3 F=>?_) (J l) 0 (J l) _ w_ w_ (aC _) (λa o h=>absurd h (AW _)) (λa o h hq=>by rw[sR h]at hq;cases hq) ⟨by simp only[sN,seval],by simp only[sN,seval],by simp only[sN,seval],by simp only[sN,seval],by simp only[sN,seval];rfl,by simp only[sN,seval]⟩;have e0:=F.h0;have e1:=F.h1;have e2:=F.h2;have e8:=F.h8;have e9:=F.h9;rcases iz p (J l)with P|a3
 obtain⟨o,D⟩:∃o,l[p]?=X o:=⟨_,dA P⟩;have go:=hg o (cq D);have a0:=λlc k=>S.at ek.2.2.1 D lc k;have q:=UV A g go id (s:=s);have hf:gY l id p=(o.id==id):=by unfold gY;rw[D]
 simp only[Obj.val,Obj.cells]at q;simp only[go_sem,seval,e0,e1,e2,e8,e9,P,a0,Obj.val,Obj.cells,g.s];refine aU.of q d_ ?_;simp only[go_sem,seval,bu,XO];exact⟨_,rfl,p,⟨h1,h2,h3⟩,by rw[hf]⟩;have hp:p=J l:=w_
 subst hp;have hf:gY l id (J l)=I:=by unfold gY;rw[sR (aC _)]
 simp only[go_sem,seval,e0,e1,e2,e8,e9,bJ];exact⟨_,rfl,_,⟨h1,h2,h3⟩,by rw[hf]⟩
def UW(B:Q.spec 192=X kL)(g:No Q 205)(q:No Q 204)(a0:No Q 127){l:ba}(V:au 6 Obj.val ov l)(hg:∀o∈l,o.AL)(A:J l<=1000000)(R:bm l=O)(id:ae)(s:St):
 ai Q 127 [.agg [ov],.str id] s (.tup [an (dU id l),.bool (gY l id (dU id l))]) s:=by
 have F:=V.cs;obtain⟨v,s',S,p,hp,rfl,rfl⟩:=aic B g q V hg A (Hf R id) (s:=s);rw[hp.eq (Mf (Hf R id))]at S;have D:∃v P,ai Q 127 [.agg [ov],.str id] s' v P/\(v=.tup [an (dU id l),.bool (gY l id (dU id l))]/\P=s'):=by
  refine ai.ofNRZ ar5 (aM ?_);simp only[go_sem,seval,F];refine aU.of S d_ ?_;simp only[go_sem,seval];exact⟨_,rfl,rfl⟩
 obtain⟨_,_,h,rfl,rfl⟩:=D;exact h
def fI(l:ba)(x:Obj):ba:=bif gY l x.id (dU x.id l)then l.set (dU x.id l) x else x7 l x
def ax4{R:ba}:∀v∈R.map Obj.val,J v.cells=6:=λv g=>by
 obtain⟨x,_,rfl⟩:=cy.1 g;rfl
def axZ{R:ba}(h:s.get [] m=X (.cells (aq (R.map Obj.val))))(hi:i<J R)(x:Obj)(lc:Ag.Loc):ET lc s m (i*6) x.val (s.get [] m)=X (lc,s.put m (X (.cells (aq ((R.set i x).map Obj.val))))):=by
 rw[h,dq,ye ax4 (by simpa using hi) rfl];simp only[aG,List.map_set]
variable{c:Nat}
def aqG{l:Nat}(hi:i<l)(lc:Ag.Loc):gm ag lc 22 (.arr 6 m 0 l c) (an i)=X (.ptr m (i*6)):=by
 have h:=ek.2.2.2.1 lc 6 m 0 l c (an i);have g:bq i l=O:=bG hi;rw[h,nP,aG,g];simp
def aAo(b4:Q.spec 20=X gI)(V:Q.spec 43=X qN)(a9:Q.spec 192=X kL)(a8:Q.spec 129=Z)(b6:Q.specW 129=X (pE 6))(b7:Q.anew 129=O)(b8:No Q 75)(a2:No Q 205)(a3:No Q 204)(b0:No Q 127)(a4:No Q 203)(a1:No Q 261)(a5:No Q 202)(b1:No Q 126)(a0:No Q 128){l:ba}(ho:au 6 Obj.val ov l)(hg:∀q∈l,q.AL)(hl:J l<=1000){x:Obj}(gx:x.AL):
 ∃v s',ai Q 75 [.agg [ov],x.val] s v s'/\(((bm l&&dY x)=I/\v=.tup [.agg [.Ge],ah 1])\/((bm l&&dY x)=O/\∃m,v=.tup [.agg [.arr 6 m 0 (fI l x).length (fI l x).length],ah 0]/\s'.get [] m=X (.cells (aq ((fI l x).map Obj.val))))):=by
 have c0:=aab;have P:=ho.cs;have b2:=ho.lenS ek;have R:=gx.all;have g:=K8 gx;have b5:=λs=>afh b4 a4 a1 a5 b1 ho hg (by omega:J l<small) (s:=s);simp only[Obj.val,Obj.cells]at g;have a7:aj ((J l:Nat):Int) 1000000=I:=dN w_;refine ai.ofNRZ auU (aM ?_);simp only[go_sem,seval,P,Obj.val,Obj.cells,R,sB];refine aU.of (b5 _) d_ ?_;cases hv:bm l with
 |false=>
  simp only[go_sem,seval,dL];exact⟨_,rfl,.inl rfl⟩
 |true=>
  cases hx:dY x with
  |false=>
   rw[hx]at g;simp only[go_sem,seval,V,g,R,dL];exact⟨_,rfl,.inl rfl⟩
  |true=>
   rw[hx]at g;have F:=UW a9 a2 a3 b0 ho hg w_ hv x.id s;cases hf:gY l x.id (dU x.id l)with
   |false=>
    have B:fI l x=x7 l x:=by unfold fI;rw[hf];rfl
    rw[hf]at F;simp only[go_sem,seval,V,g,R];refine aU.of F d_ ?_;simp only[go_sem,seval,P,R]
    let⟨c,sc,m,s2,A,cc1,cc2,r81,hrow⟩:=ajw a0 a8 b6 b7 ho hl x (Mf (Hf hv x.id)).le s
    refine aU.of A d_ ?_;simp only[Obj.cells]at r81;simp only[go_sem,seval,P,b2,a7,cc1,cc2,R,a8,Obj.val,Obj.cells,sB];refine aU.of r81 d_ ?_;have D:(aa.arr 6 m 0 (J l+1) (J l+1)).cells=[.arr 6 m 0 (J l+1) (J l+1)]:=rfl;simp only[go_sem,seval,D];exact⟨_,rfl,.inr ⟨m,by rw[B,adE],by rw[hrow,B];rfl⟩⟩
   |true=>
    have S:dU x.id l<J l:=by
     rcases iz (dU x.id l) (J l)with h|h
     exact h;unfold gY at hf;rw[sR h]at hf;cases hf
    have B:fI l x=l.set (dU x.id l) x:=by unfold fI;rw[hf];rfl
    obtain⟨r,o,l2,e1,e2⟩:∃r o l2,ov=.list 6 ((o::l2).map Obj.val) r/\l=o::l2:=by
     rcases l with _|⟨o,l2⟩
     simp at S;rcases ho with⟨_,h⟩|⟨r,h⟩
     cases h;exact⟨r,o,l2,h,rfl⟩
    have A:=N4 a0 (r:=r) (by rw[<-e2];exact hl) (s:=s) (Q:=Q);rw[<-e1,<-e2]at A;obtain⟨z,hz⟩:=cw (s.new (.cells (aq (l.map Obj.val))));have zg:z.get [] s.aL=X (.cells (aq (l.map Obj.val))):=by rw[<-hz];exact cr
    rw[hz]at A;have a6:=λlc=>axZ zg S x lc;have b3:=λlc=>aqG S (m:=s.aL) (c:=J l) lc;simp only[Obj.val,Obj.cells]at a6;rw[hf]at F;have D:(aa.arr 6 s.aL 0 (J l) (J l)).cells=[.arr 6 s.aL 0 (J l) (J l)]:=rfl;simp only[go_sem,seval,V,g,R];refine aU.of F d_ ?_;simp only[go_sem,seval,P,R];refine aU.of A d_ ?_;simp only[go_sem,seval,D,b3,R,dh,a6,Obj.val,Obj.cells,sB];refine⟨_,rfl,.inr ⟨s.aL,by rw[B,qb],?_⟩⟩;rw[B,aO,bS];rfl
def Ml:cS ag 47=X 6:=k_
def ajy(mu:Bool)(s:St)(m n c:Nat)(cs:az)(h:s.get [] m=X (.cells cs))(D:J cs=n*6+6):fZ ag [] .clear [22] mu [.arr 6 m (0+n*6) 1 c] s=X (.tup [],s.put m (X (.cells (cs.take (n*6)++[.str [],ah 0,ah 0,ah 0,.Ge,.Ge])))):=by
 have B:aP (n*6+6) (J cs)=O:=bG w_;have A:cs.drop (n*6+6)=[]:=yG w_;have q:aA 1 0=I:=rfl;have g:((1:Nat)==0)=I:=rfl;simp only[aaa,g,fZ,H5,aG,rH,q,cF,L7,h,fD,nq,jV,gR,bP,bC,dS,cN,B,A]
def akp(a3:No Q 130){l:ba}(a2:s.gE<=s.aL)(hm:s.get [] m=X (.cells (aq (l.map Obj.val))))(hi:i<J l)(hl:J l<=1000):
 ∃v s',ai Q 130 [.arr 6 m 0 (J l) (J l),an i,an (i+1)] s v s'/\∃q,v=.arr 6 m 0 (J l-1) (J l)/\s'.get [] m=X (.cells (aq ((l.eraseIdx i).map Obj.val)++q)):=by
 have q1:∀env s,ac env 9=an i->ac env 10=an (i+1)->ac env 12=an (J l)->eC ag [] 22 (.arr 6 m 0 (J l) (J l)) (X (.tmp 9)) (X (.tmp 10)) (X (.tmp 12)) env s=X (.arr 6 m (0+i*6) (i+1-i) (J l-i)):=λenv s a b c=>by
  have P:aP i (i+1)=O:=bG (iy i);have F:aP (i+1) (J l)=O:=bG hi;have g:aP (J l) (J l)=O:=bG (aC _);rw[Ax H5 Ml,kR (x:=.tmp 9) (by rw[ey,a]),kR (x:=.tmp 10) (by rw[ey,b]),kR (x:=.tmp 12) (by rw[ey,c])];simp only[aac,P,F,g,Option.isSome_some,Bool.or_true]
 have q3:∀env s,ac env 21=an i->eC ag [] 22 (.arr 6 m 0 (J l) (J l)) Z (X (.tmp 21)) Z env s=X (.arr 6 m 0 i (J l)):=λenv s a=>by
  have P:aP 0 i=O:=bG (fT i);have F:aP i (J l)=O:=bG (Nat.le_of_lt hi);have g:aP (J l) (J l)=O:=bG (aC _);rw[Ax H5 Ml,kR (by rw[ey,a])];simp only[aac,dI,P,F,g,Fh,uG,Nat.zero_mul,o0,Nat.sub_zero]
 have q4:∀env s,ac env 24=an (i+1)->eC ag [] 22 (.arr 6 m 0 (J l) (J l)) (X (.tmp 24)) Z Z env s=X (.arr 6 m (0+(i+1)*6) (J l-(i+1)) (J l-(i+1))):=λenv s a=>by
  have F:aP (i+1) (J l)=O:=bG hi;have g:aP (J l) (J l)=O:=bG (aC _);rw[Ax H5 Ml,kR (x:=.tmp 24) (by rw[ey,a])];simp only[aac,dI,F,g,Fh,uG]
 have q5:∀env s,ac env 29=an (J l-1)->ac env 30=an (J l)->eC ag [] 22 (.arr 6 m 0 (J l-1) (J l)) (X (.tmp 29)) (X (.tmp 30)) Z env s=X (.arr 6 m (0+(J l-1)*6) 1 1):=λenv s a b=>by
  have P:aP (J l-1) (J l)=O:=bG (Nat.sub_le _ _);have g:aP (J l) (J l)=O:=bG (aC _);have e4:J l-(J l-1)=1:=w_
  rw[Ax H5 Ml,kR (x:=.tmp 29) (by rw[ey,a]),kR (x:=.tmp 30) (by rw[ey,b])];simp only[aac,dI,P,g,Fh,uG,e4]
 have ln:∀mk s n c,fN ag mk 22 (.arr 6 m 0 n c) s=X (an n):=λmk s n c=>k_
 have a1:aj (i:Int) ((i+1:Nat):Int)=I:=dN w_;have A:s.top.get [] m=X (.cells (aq (l.map Obj.val))):=hm
 let⟨o,q,ha,ho,hz⟩:=VW On L7 d_ A hi w_ I
 obtain⟨u,R⟩:=cw ((bif o then s.top.put m (X (.cells (aq ((l.eraseIdx i).map Obj.val)++q)))else s.top));have ug:(s.GE u).get [] m=X (.cells (aq ((l.eraseIdx i).map Obj.val)++q)):=by
  rw[j6,<-R];cases o;rw[cF,A,ho rfl];rw[cT,aO,bS];rfl
 rw[R,dS]at ha;have S:s.aL<=u.aL:=by rw[<-R];cases o<;>exact aC _
 have V:u.ci=s.ci:=by rw[<-R];cases o<;>rfl
 have B:(aq ((l.eraseIdx i).map Obj.val)++q).length=(J l-1)*6+6:=by
  rw[bI,On.size,Fc hi,hz]
 have D:=λmu=>ajy mu (s.GE u) m (J l-1) 1 _ ug B;have a0:(aq ((l.eraseIdx i).map Obj.val)++q).take ((J l-1)*6)=aq ((l.eraseIdx i).map Obj.val):=by
  rw[It (by rw[On.size,Fc hi])]
 simp only[a0,dS]at D;refine ai.ofNRZ ar6 (aM ?_);simp only[go_sem,seval,ln,q1,a1,q3,q4,ha,S,V,q5,D,a2];refine⟨_,rfl,[.str [],ah 0,ah 0,ah 0,.Ge,.Ge],rfl,?_⟩;rw[aO,bS];rfl
def lJ(l:ba)(id:ae):ba:=l.eraseIdx (dU id l)
def FX{l:ba}{id:ae}(h:gY l id p=O):p<J l:=by
 rcases iz p (J l)with g|g
 exact g;unfold gY at h;rw[sR g]at h;cases h
def akF(b0:Q.spec 20=X gI)(a3:Q.spec 192=X kL)(F:No Q 130)(b2:No Q 76)(R:No Q 205)(S:No Q 204)(a5:No Q 127)(V:No Q 203)(P:No Q 261)(a0:No Q 202)(a6:No Q 126)(a4:No Q 128){l:ba}(ho:au 6 Obj.val ov l)(hg:∀q∈l,q.AL)(hl:J l<=1000)(id:ae)(a8:s.gE<=s.aL):
 ∃v s',ai Q 76 [.agg [ov],.str id] s v s'/\(((bm l&&gY l id (dU id l))=I/\v=.tup [.agg [.Ge],ah (bif bm l then 11 else 1)])\/((bm l&&gY l id (dU id l))=O/\∃m zs,v=.tup [.agg [.arr 6 m 0 (J l-1) (J l)],ah 0]/\s'.get [] m=X (.cells (aq ((lJ l id).map Obj.val)++zs)))):=by
 have b3:=aab;have A:=ho.cs;have b1:=λs=>afh b0 V P a0 a6 ho hg (by omega:J l<small) (s:=s);refine ai.ofNRZ auV (aM ?_);simp only[go_sem,seval,A,sB];refine aU.of (b1 _) d_ ?_;cases hv:bm l with
 |false=>
  simp only[go_sem,seval,dL];exact⟨_,rfl,.inl rfl⟩
 |true=>
  have g:=UW a3 R S a5 ho hg w_ hv id s;cases hf:gY l id (dU id l)with
  |false=>
   rw[hf]at g;simp only[go_sem,seval,A];refine aU.of g d_ ?_;simp only[go_sem,seval,dL];exact⟨_,rfl,.inl rfl⟩
  |true=>
   have a2:=FX hf;obtain⟨r,o,l2,e1,e2⟩:∃r o l2,ov=.list 6 ((o::l2).map Obj.val) r/\l=o::l2:=by
    rcases l with _|⟨o,l2⟩
    simp at a2;rcases ho with⟨_,h⟩|⟨r,h⟩
    cases h;exact⟨r,o,l2,h,rfl⟩
   have D:=N4 a4 (r:=r) (by rw[<-e2];exact hl) (s:=s) (Q:=Q);rw[<-e1,<-e2]at D;obtain⟨z,hz⟩:=cw (s.new (.cells (aq (l.map Obj.val))));have zg:z.get [] s.aL=X (.cells (aq (l.map Obj.val))):=by rw[<-hz];exact cr
   have zw:z.gE<=z.aL:=by rw[<-hz];exact co a8
   rw[hz]at D;obtain⟨v,s2,a1,zs,rfl,a9⟩:=akp F zw zg a2 hl;have a7:=cm (n:=dU id l) w_;have B:∀n c,(aa.arr 6 s.aL 0 n c).cells=[.arr 6 s.aL 0 n c]:=λ_ _=>rfl;rw[hf]at g;simp only[go_sem,seval,A];refine aU.of g d_ ?_;simp only[go_sem,seval,A];refine aU.of D d_ ?_;simp only[go_sem,seval,B,a7];refine aU.of a1 d_ ?_;simp only[go_sem,seval,B,dL];exact⟨_,rfl,.inr ⟨s.aL,zs,rfl,a9⟩⟩
variable{h:aB aH}
def WH{l:ba}{zs:az}(B:∀o∈l,o.AL)(A:h.get m=X (.cells (aq (l.map Obj.val)++zs))):fF h (.tup [.agg [.arr 6 m 0 (J l) c],ah 0]) (.tup [.agg [.list 6 (l.map Obj.val) .no],ah 0]):=by
 let⟨k,e⟩:=Jx (h:=h) (k:=4) (xs:=l.map Obj.val) (ys:=l.map Obj.val) (rN λv g=>by
  obtain⟨o,q,rfl⟩:=cy.1 g;exact WK h (B o q) 0)
 have P:b9 h (k+1) (.arr 6 m 0 (J l) c)=X (.list 6 (l.map Obj.val) .no):=by
  show(match h.get m with
   |some (.cells cs)=>(cut cs 0 (J l*6)).bind λc=>(da (b9 h k) c).bind λR=>(chunk (!aA 6 1) 6 (J l) R).bind λxs=>X (aa.list 6 xs .no)
   |_=>Z)=_
  rw[A];have D:cut (aq (l.map Obj.val)++zs) 0 (J l*6)=X (aq (l.map Obj.val)):=by
   simp only[aaa,cut,kG,It (Jt l),Jt]
  simp only[D,aG,e,Vs]
 have F:b9 h (k+2) (.agg [.arr 6 m 0 (J l) c])=X (.agg [.list 6 (l.map Obj.val) .no]):=by
  show(da (b9 h (k+1)) [_]).bind _=_;simp only[da,P,aG]
 refine⟨k+3,?_⟩;show(da (b9 h (k+2)) [_,_]).bind _=_;simp only[da,F,aG];rfl
noncomputable def Eb(l:ba):aa:=.tup [.agg [.list 6 (l.map Obj.val) .no],ah 0]
noncomputable def Di(e:Int):aa:=.tup [.agg [.Ge],ah e]
noncomputable def B7:Sp
 |[m,u]=>(kY m).bind λl=>(uW u).bind λx=>bif decide (J l<=1000)then X (bif bm l&&dY x then Eb (fI l x)else Di 1)else Z
 |_=>Z
noncomputable def Dg:Sp
 |[m,.str id]=>(kY m).bind λl=>bif decide (J l<=1000)then X (bif bm l&&gY l id (dU id l)then Eb (lJ l id)else Di (bif bm l then 11 else 1))else Z
 |_=>Z
def adG{l:ba}{x o:Obj}(h:o∈fI l x):o=x\/o∈l:=by
 unfold fI at h;cases hf:gY l x.id (dU x.id l);rw[hf]at h;exact adF h;rw[hf]at h;exact(MJ h).symm
def aAr:cW ag 75 B7:=by
 intro args u g G h w D F P;unfold B7 at g;split at g;rename_i a b;simp only[ak]at g
 let⟨l,h1,x,h2,g⟩:=g
 let⟨h3,g⟩:=aZ g
 simp only[dE]at h3;have g:=sI g;subst g;obtain⟨v,rfl,S,B,hs⟩:=qr h1;obtain⟨rfl,q⟩:=IP h2
 let⟨ht,v',A,hl'⟩:=pJ S B
 have A:di [.agg [v],x.val]=[.agg [v'],x.val]:=by simp only[di,A,yu q.pure]
 refine S9 Uc (args:=[.agg [v],x.val]) (by simp only[dR,ht,Tp q.pure,bZ]) (λV=>?_) G h w D F P;rw[A]
 let⟨y,s',hr,hq⟩:=aAo (Q:=QN Nf V) rfl rfl rfl rfl rfl rfl R_ R_ R_ R_ R_ R_ R_ R_ R_ hl' B h3 q (s:=s0)
 refine⟨_,_,hr,?_⟩;rcases hq with⟨e,rfl⟩|⟨e,m,rfl,hrow⟩
 rw[e];exact⟨3,rfl⟩;rw[e,cT];exact WH (zs:=[]) (λo R=>by
  rcases adG R with rfl|h
  exact q;exact B o h) (by rw[jV];exact hrow)
 cases g
def akH:cW ag 76 Dg:=by
 intro args u g G h w D F P;unfold Dg at g;split at g;rename_i a id;simp only[ak]at g
 let⟨l,h1,g⟩:=g
 let⟨h3,g⟩:=aZ g
 simp only[dE]at h3;have g:=sI g;subst g;obtain⟨v,rfl,S,B,hs⟩:=qr h1
 let⟨ht,v',q,hl'⟩:=pJ S B
 have q:di [.agg [v],.str id]=[.agg [v'],.str id]:=by rw[di,q];rfl
 refine S9 Uc (args:=[.agg [v],.str id]) (by rw[dR,ht];rfl) (λV=>?_) G h w D F P;rw[q]
 let⟨y,s',hr,hq⟩:=akF (Q:=QN Nf V) rfl rfl R_ R_ R_ R_ R_ R_ R_ R_ R_ R_ hl' B h3 id (s:=s0) (aC _)
 refine⟨_,_,hr,?_⟩;rcases hq with⟨e,rfl⟩|⟨e,m,zs,rfl,hrow⟩
 rw[e];exact⟨3,rfl⟩;rw[e,cT];have A:(lJ l id).length=J l-1:=Fc (FX (by simp only[bg]at e;exact e.2))
 have:=WH (h:=s'.heap) (c:=J l) (zs:=zs) (λo R=>B o (List.mem_of_mem_eraseIdx R)) hrow;rw[show(l.eraseIdx (dU id l)).length=J l-1 from A]at this;exact this;cases g
def Dq{l:ba}{id:ae}(h:gY l id p=O):∃o,l[p]?=X o/\o.id=id:=by
 unfold gY at h;split at h
 ·next o ho=>exact⟨o,ho,by simpa using h⟩
 cases h
def OL{l:ba}(D:bm l=O){id:ae}(h:gY l id (dU id l)=I):∀o∈l,o.id≠id:=by
 intro o R e;have S:=Mf (Hf D id)
 let⟨a,ha⟩:=rd.1 R
 have B:j9 id o=I:=by unfold j9;rw[e,Da];rfl
 have A:dU id l<=a:=by
  rcases iz a (dU id l)with g|g
  rw[S.lo a o g ha]at B;cases B;exact g
 rcases iz (dU id l) a with g|g
 simp only[bm,bg]at D;have V:=(xu l [] D.1).2;have F:=(ie.1 ha).1;have q:dU id l<J l:=w_
 have P:=MN.1 (yN.1 V) _ a q F g;rw[(ie.1 ha).2,e]at P
 have:=Rx.2 P;rw[S.hi _ _ (aC _) (dA q)]at this;cases this;have A:dU id l=a:=w_
 rw[A]at h;unfold gY at h;rw[ha]at h;simp[e]at h
def acs{l:ba}(q:(l.map Obj.id).Nodup){a b:Nat}{o:Obj}(B:l[a]?=X o)(A:l[b]?=X o):a=b:=by
 let⟨h1,h2⟩:=ie.1 B
 let⟨h3,h4⟩:=ie.1 A
 have g:=MN.1 (yN.1 q);rcases Nat.lt_trichotomy a b with h|h|h
 exact absurd (by rw[h2,h4]) (g a b h1 h3 h);exact h;exact absurd (by rw[h2,h4]) (g b a h3 h1 h)
def xt{l:ba}(g:bm l=O){o q:Obj}(D:o∈l)(B:q∈l)(h:o.id=q.id):o=q:=by
 have A:=BO g D;rw[h,BO g B]at A;exact(sI A).symm
def z7{l:ba}(D:bm l=O)(x y:Obj):y∈fI l x↔y=x\/(y∈l/\y.id≠x.id):=by
 unfold fI;cases hf:gY l x.id (dU x.id l)with
 |false=>
  have h:=OL D hf;have e:y∈x7 l x↔y=x\/y∈l:=by
   refine⟨adF,λh=>?_⟩;unfold x7;rcases h with h|h
   exact fJ.2 (.inr (dD.2 (.inl h)));rw[<-wF (dU x.id l) l]at h;rcases fJ.1 h with h|h
   exact fJ.2 (.inl h);exact fJ.2 (.inr (dD.2 (.inr h)))
  rw[cF,e];exact⟨λg=>g.imp id λg=>⟨g,h y g⟩,λg=>g.imp id And.left⟩
 |true=>
  let⟨o,ho,hid⟩:=Dq hf
  have P:=FX hf;have F:=cq ho;rw[cT,rd];constructor
  ·rintro⟨a,A⟩
   rw[Il]at A;split at A;exact .inl (sI A).symm
   ·next q=>
    have B:=cq A;refine .inr ⟨B,λe=>q ?_⟩;have R:=xt D B F (e.trans hid.symm);subst R;exact acs (rQ D) ho A
  rintro(rfl|⟨B,q⟩);exact⟨_,by rw[List.getElem?_set_self P]⟩
  let⟨a,A⟩:=rd.1 B
  refine⟨a,?_⟩;rw[List.getElem?_set_ne,A];intro e;rw[<-e,ho]at A;rw[<-sI A]at q;exact q hid
def KT{l:ba}(D:bm l=O){id:ae}(F:gY l id (dU id l)=O)(y:Obj):y∈lJ l id↔y∈l/\y.id≠id:=by
 let⟨o,ho,hid⟩:=Dq F
 have B:=cq ho;unfold lJ;rw[List.mem_eraseIdx_iff_getElem?];constructor;rintro⟨a,g,q⟩;have A:=cq q;refine⟨A,λe=>g ?_⟩;have P:=xt D A B (e.trans hid.symm);subst P;exact acs (rQ D) q ho;rintro⟨A,g⟩
 let⟨a,q⟩:=rd.1 A
 refine⟨a,λe=>g ?_,q⟩;rw[e,ho]at q;rw[<-sI q];exact hid
def LI{l:ba}{o:Obj}(h:l[p]?=X o):dK l=dK (l.take p)+J o.gT+dK (l.drop (p+1)):=by
 let⟨h1,h2⟩:=ie.1 h
 have e:=wF p l;rw[yF h1,h2]at e
 conv=>lhs;rw[<-e]
 simp only[dK,dj,cZ,List.sum_append,wE];omega
def SA(a b:ba):dK (a++b)=dK a+dK b:=by simp only[dK,dj,List.sum_append]
def Er{l:ba}(B:bm l=O)(x:Obj):(fI l x).length<=J l+1/\dK (fI l x)<=dK l+J x.gT/\∀o∈l,o.id=x.id->dK (fI l x)+J o.gT=dK l+J x.gT:=by
 unfold fI;cases hf:gY l x.id (dU x.id l);have h:=OL B hf;have e:dK (x7 l x)=dK l+J x.gT:=by
  have V:dK l=dK (l.take (dU x.id l))+dK (l.drop (dU x.id l)):=by rw[<-SA,wF]
  have S:dK (x::l.drop (dU x.id l))=J x.gT+dK (l.drop (dU x.id l)):=by simp only[dK,cZ,wE]
  unfold x7;rw[SA,S,V];omega
 rw[cF,adE,e];exact⟨aC _,aC _,λo g e=>absurd e (h o g)⟩
 let⟨o,g,hid⟩:=Dq hf
 have A:=FX hf;have h1:=LI g;have R:=LI (l:=l.set (dU x.id l) x) (p:=dU x.id l) (by rw[List.getElem?_set_self A]);have P:(l.set (dU x.id l) x).take (dU x.id l)=l.take (dU x.id l):=List.take_set_of_le (aC _);have F:(l.set (dU x.id l) x).drop (dU x.id l+1)=l.drop (dU x.id l+1):=List.drop_set_of_lt (iA _);rw[P,F]at R;rw[cT,qb];refine⟨iy _,w_,λq D e=>?_⟩
 have:=xt B D (cq g) (e.trans hid.symm);subst this;omega
def adR{l:ba}{id:ae}(g:bm l=O)(B:gY l id (dU id l)=O):(lJ l id).length<=J l/\∀o∈l,o.id=id->dK (lJ l id)+J o.gT=dK l:=by
 let⟨o,ho,hid⟩:=Dq B
 have D:=LI ho;refine⟨List.length_eraseIdx_le ..,λq A e=>?_⟩
 have:=xt g A (cq ho) (e.trans hid.symm);subst this;unfold lJ;rw[List.eraseIdx_eq_take_drop_succ,SA];omega
def afk{l:ba}(h1:∀q∈l,dY q=O)(D:(l.map (·.id)).Pairwise (λa b=>gi a b=O))(A:J l<=1000000):bm l=O:=by
 simp only[bm,bg,dE];refine⟨La _ [] h1 (λk B=>?_) D,A⟩;obtain⟨q,g,rfl⟩:=cy.1 B;rcases e:q.id with _|⟨c,r⟩
 exact absurd e (Mv (h1 q g));rw[<-ou];simp[cK]
def EX{l:ba}{x:Obj}(A:bm l=O)(B:dY x=O)(F:J l<=1000):bm (fI l x)=O:=by
 unfold fI;cases hf:gY l x.id (dU x.id l)with
 |false=>exact ari A B (OL A hf) (Mf (Hf A x.id)) w_
 |true=>
  let⟨o,ho,hid⟩:=Dq hf
  have g:=A;simp only[bm,bg]at g;rw[cT];refine afk (λq D=>?_) ?_ (by rw[qb];omega);rcases MJ D with h|rfl
  exact sm l [] g.1 q h;exact B
  ·have e:(l.set (dU x.id l) x).map (·.id)=l.map (·.id):=by
    rw[List.map_set];refine List.ext_getElem? λi=>?_;rw[Il];split
    ·next h=>
     subst h;rw[ix,ho];simp[FX hf,hid]
    rfl
   rw[e];exact(xu l [] g.1).2
def afj{l:ba}(B:bm l=O)(id:ae):bm (lJ l id)=O:=by
 have g:=B;simp only[bm,bg,dE]at g;have A:(lJ l id).Sublist l:=List.eraseIdx_sublist ..;exact afk (λq D=>sm l [] g.1 q (A.subset D)) ((xu l [] g.1).2.sublist (A.map _)) (dg A.length_le g.2)
def wO(l:ba):Prop:=∀o∈l,∀(i:Nat)(r:ae),o.gT[i]?=X r->∃q∈l,q.id=r/\q.Al=sJ o.Al i
def LG{l:ba}(A:bm l=O){k:Int}{r:ae}:Ah l k i r=O↔∃q∈l,q.id=r/\q.Al=sJ k i:=by
 unfold Ah;rcases e:cD r l with _|q
 refine⟨λh=>(by cases h),λ⟨q,B,g,_⟩=>?_⟩;rw[<-g,BO A B]at e;cases e
 let⟨g,h2⟩:=oN e
 refine⟨λh=>⟨q,g,h2,of_decide_eq_true h⟩,λ⟨p,D,P,F⟩=>?_⟩;rw[<-P,BO A D]at e;rw[<-sI e];exact dQ F
def VA{l:ba}(q:bm l=O):Fk l↔wO l:=
 ⟨λh o g i r hi=>(LG q).1 (h o g i r hi),λh o g i r hi=>(LG q).2 (h o g i r hi)⟩
def I7{l:ba}(F:bm l=O)(h:wO l){x:Obj}(R:∀o∈l,o.id=x.id->o.Al=x.Al)(P:∀(i:Nat)(r:ae),x.gT[i]?=X r->∃q∈l,q.id=r/\q.Al=sJ x.Al i):wO (fI l x):=by
 intro y D i r hi;have B:∀q∈l,∃g∈fI l x,g.id=q.id/\g.Al=q.Al:=λq A=>by
  by_cases e:q.id=x.id;exact⟨x,(z7 F x x).2 (.inl rfl),e.symm,(R q A e).symm⟩;exact⟨q,(z7 F x q).2 (.inr ⟨A,e⟩),rfl,rfl⟩
 have S:∃q∈l,q.id=r/\q.Al=sJ y.Al i:=by
  rcases(z7 F x y).1 D with rfl|⟨D,_⟩
  exact P i r hi;exact h y D i r hi
 let⟨q,A,h2,h3⟩:=S
 let⟨g,hq',h4,h5⟩:=B q A
 exact⟨g,hq',h4.trans h2,h5.trans h3⟩
def Vy{l:ba}(A:bm l=O)(h:wO l){id:ae}(B:gY l id (dU id l)=O)(D:∀o∈l,o.id≠id->∀r∈o.gT,r≠id):wO (lJ l id):=by
 intro y g i r hi
 let⟨g,hne⟩:=(KT A B y).1 g
 let⟨q,hq,h2,h3⟩:=h y g i r hi
 exact⟨q,(KT A B q).2 ⟨hq,by rw[h2];exact D y g hne r (cq hi)⟩,h2,h3⟩
theorem aya{l:ba}(ho:au 6 Obj.val ov l)(hg:∀o∈l,o.AL)(hl:J l<=1000000)(a1:(l.map Obj.id).Nodup){s0:St}(hb:s0.get [] bx=X (.cells [ov,.map m]))(a8:bx≠m)(hx:∀e lc s,ac e 3=.ptr bx 0->ac e 1=.Gt 1 1 0->lc.gen 1=1->lc.get 1 1=X [ov]->du m s0 s->bf aa.str s m (rY l)->K (.exit 0) ⟨e,44,lc⟩ s):
 ∀(rest g:ba)(e:ax)(lc:Ag.Loc)(s:St),l=g++rest->du m s0 s->bf aa.str s m (rY g)->
  ac e 3=.ptr bx 0->ac e 1=.Gt 1 1 0->lc.gen 1=1->lc.get 1 1=X [ov]->ac e 16=ov->ac e 17=an (J l)->ac e 18=an (J g)->W Q 35 (.loop Qi) ⟨e,44,lc⟩ s K:=by
 intro rest;have a6:=ho.cs
 induction rest with
 |nil=>
  intro g e lc s D q hm h3 r1 g1 l1 R B A;have a4:=cL D;have V:g=l:=by rw[D];simp
  refine aF ?_;simp only[go_sem,seval,Qi,B,A,a4,bJ];exact hx _ _ _ (by simp only[sN,seval,h3]) (by simp only[sN,seval,r1]) g1 l1 q (by rw[<-V];exact hm)
 |cons o rest ih=>
  intro g e lc s D q hm h3 r1 g1 l1 R B A
  let⟨hlt,hat⟩:=cR D
  have rc:=(hg o (cq hat)).all;have a5:=λlc k=>ho.at ek.2.2.1 hat lc k;have S:=cm (n:=J g) w_;have a0:bR o.id (rY g)=Z:=by
   rw[D,dj]at a1;rw[DT,BP];rfl
   grind
  have a7:s.get [] bx=X (.cells [ov,.map m]):=(q.old bx a8).trans hb;have a3:bf aa.str s.top m (rY g):=hm;have F:=lY gn rZ a3 o.id (ah o.Al);have P:dp o.id (ah o.Al) (rY g)=rY (g++[o]):=by
   rw[rS a0];unfold rY;rw[dj];rfl
  rw[P]at F;have a2:=q.mw;refine aF ?_;simp only[go_sem,seval,Qi,h3,R,B,A,hlt,a6,a5,Obj.val,Obj.cells,rc,S,a7,F,a2];refine ih (g++[o]) _ _ _ (db D) (q.putT _) ?_ ?_ ?_ ?_ ?_ ?_ ?_ ?_;show ll _ [] m=_;rw[j6,aO,bS];rfl
  all_goals simp_all [sL]
def ayb(R:No Q 117)(S:No Q 72){l:ba}(C:sU s bx m ov l)(ho:au 6 Obj.val ov l)(hg:∀o∈l,o.AL)(hl:J l<=1000000)(hr:∀o∈l,J o.gT<=1000000)(hx:∀e lc,Fk l->ac e 3=.ptr bx 0->K (.exit 2) ⟨e,44,lc⟩ s)(hn:∀e lc,¬Fk l->ac e 2=.nilp->K .ret ⟨e,44,lc⟩ s):
 ∀(rest A:ba)(e:ax)(lc:Ag.Loc),l=A++rest->(∀o∈A,A8 l o.Al o.gT)->ac e 3=.ptr bx 0->ac e 32=ov->ac e 33=an (J l)->ac e 34=an (J A)->W Q 35 (.loop Qj) ⟨e,44,lc⟩ s K:=by
 intro rest;have a4:=ho.cs
 induction rest with
 |nil=>
  intro A e lc V hp h3 P F D;have a2:=cL V;have a1:A=l:=by rw[V];simp
  refine aF ?_;simp only[go_sem,seval,Qj,F,D,a2,bJ];exact hx _ _ (by rw[a1]at hp;exact hp) (by simp only[sN,seval,h3])
 |cons o rest ih=>
  intro A e lc V hp h3 P F D
  let⟨hlt,hat⟩:=cR V
  have B:=cq hat;have rc:=(hg o B).all;have a3:=λlc k=>ho.at ek.2.2.1 hat lc k;have a0:=cm (n:=J A) w_
  let⟨err,run,hif⟩:=Sz R S C (hg o B) (hr o B)
  simp only[Obj.val,Obj.cells]at run;refine aF ?_;simp only[go_sem,seval,Qj,h3,P,F,D,hlt,a4,a3,Obj.val,Obj.cells,rc];refine aU.of run d_ ?_;cases he:aj err 0 with
  |false=>
   simp only[go_sem,seval,he];refine hn _ _ (λg=>?_) (by simp only[sN,seval])
   have:=hif.2 (g o B);rw[this]at he;cases he
  |true=>
   simp only[go_sem,seval,he,D,a0];refine ih (A++[o]) _ _ (db V) (λq hq=>?_) ?_ ?_ ?_ ?_;rcases fJ.1 hq with h|h
   exact hp q h;rw[kq]at h;subst h;exact hif.1 (of_decide_eq_true he)
   all_goals simp only[sN,seval,h3,P,F,sA]
def acG(R:Q.spec 20=X gI)(B:No Q 117)(D:No Q 72)(a0:No Q 35){l:ba}(F:au 6 Obj.val ov l)(hg:∀o∈l,o.AL)(hl:J l<=1000000)(hr:∀o∈l,J o.gT<=1000000)(hm:s.gE<=s.aL):
 ∃v s',ai Q 35 [.agg [ov]] s v s'/\(Up s s'/\((v=.nilp/\¬(bm l=O/\Fk l))\/∃bx m,v=.ptr bx 0/\sU s' bx m ov l/\bm l=O/\Fk l)):=by
 have a1:=aab;have A:=F.cs;have P:=F.lenS ek;have g:=xP F hg w_;refine ai.ofNRZ atB (aM ?_);cases hv:bm l with
 |false=>
  rw[hv]at g;simp only[go_sem,seval,A,R,g];exact⟨_,rfl,Up.refl hm,.inl ⟨rfl,λh=>by cases h.1⟩⟩
 |true=>
  rw[hv]at g
  let⟨u,hu,un,uw,uo,_,ub⟩:=vE (.map [] 0) (.cells [ov,.map s.aL]) hm
  have um:bf aa.str u s.aL (rY []):=by
   show u.get [] s.aL=_;rw[<-hu,cQ (by show s.aL<s.aL+1;omega),cr];rfl
  simp only[go_sem,seval,A,P,R,g,jA,NZ,dL,evc,hu];refine aya F hg hl (rQ hv) ub w_ (λe lc V S r1 g1 l1 q hM=>?_) l [] _ _ u rfl (du.refl uw) um ?_ ?_ ?_ ?_ ?_ ?_ ?_
  ·have sn:V.aL=s.aL+2:=q.aL.trans un
   have C:sU V (s.aL+1) s.aL ov l:=⟨(q.old _ w_).trans ub,hM,w_,w_⟩;have U:Up s V:=⟨λk hk=>(q.old k w_).trans (uo k hk),w_,q.mw⟩;simp only[go_sem,seval,S,r1,g1,l1,A,P];refine ayb B D C F hg hl hr (λe lc h S=>?_) (λe lc h h2=>?_) l [] _ _ rfl (λo h=>by cases h) ?_ ?_ ?_ ?_;simp only[go_sem,seval,S];exact⟨_,rfl,U,.inr ⟨_,_,rfl,C,h⟩⟩;simp only[go_sem,seval,h2];exact⟨_,rfl,U,.inl ⟨rfl,h⟩⟩
   all_goals simp only[sN,seval,S,bC]
   all_goals rfl
  all_goals first|rfl|(simp only[sN,seval,bC]<;>rfl)
def HO{k:Nat}:∀{l:ba},(∀o∈l,J o.gT<=k)->dK l<=J l*k
 |[],_=>fT _
 |a::l,h=>by
  have A:=h a List.mem_cons_self;have q:=HO (k:=k) (l:=l) λo g=>h o (List.mem_cons_of_mem _ g);unfold dK at q⊢;simp only[cZ,wE,bP,jW];omega
def acN{l:ba}(h1:J l<=40)(q:∀o∈l,J o.gT<=12):pK l=O:=by
 unfold pK;cases hv:bm l;rfl;have A:=HO q;have g:Jo l=O:=Jp.2 ⟨hv,w_,w_⟩;rw[g];rfl
def aeD:p0->p0
 |[]=>[]
 |[k]=>[k]
 |K=>qT K
def aDf:∀K,aeD K=qT K
 |[]=>(qY (aeE [])).symm
 |[k]=>by
   show [k]=qT [k];have g:(qT [k]).Perm [k]:=by
    unfold qT;exact(we _ _ _).map _
   exact(List.perm_singleton.1 g).symm
 |_::_::_=>rfl
def NF(l:ba):o_:=(aeD (uY l)).map λk=>(2,iL k,O)
def ah4(l:ba):NF l=zq l:=by unfold NF zq;rw[aDf]
def Mw(l:ba)(rl:vy)(name:ae):az:=[B9 (jb l name),NF (jb l name),D6 (jb l name),D8 (jb l name),Ev (jb l name) rl].flatMap λL=>L.map (hJ name)
def aFB(l:ba)(rl:vy)(name:ae):Mw l rl name=nm l rl name:=by unfold Mw nm zx;rw[ah4]
def NT(l:ba)(views:cf)(rl:vy):az:=bif bm l then([]::views).flatMap (Mw l rl)else []
def ajc(l:ba)(views:cf)(rl:vy):NT l views rl=tm l views rl:=by
 have:Mw l rl=nm l rl:=funext λn=>aFB l rl n;unfold NT tm;rw[this]
def NV:Sp
 |[m,.agg [a,b,c,d,vv,rv]]=>(kY m).bind λl=>(ff 1 iV vv).bind λviews=>(rz rv).bind λrl=>bif pK l&&(decide (J views<=200)&&dR [a,b,c,d])then X (fG 3 (NT l views rl))else Z
 |_=>Z
def ajd:NV=lI:=by
 funext l;unfold NV lI;split;simp only[ajc];rename_i h
 first|rfl|(split;rename_i m a b c d vv rv;exact absurd rfl (h m a b c d vv rv);rfl)
def ak4(g:No Q 256){id:ae}(A:s.get [] c=X (.cells [.str id])){o:Obj}(go:o.AL):ai Q 256 [o.val,.ptr c 0] s (.bool (o.id==id)) s:=by
 have q:=go.all;refine ai.ofNZ atj (aM ?_);simp only[go_sem,seval,A,Obj.val,Obj.cells,q]
def amD(R:No Q 188)(A:No Q 255)(g:No Q 256){l:ba}(B:au 6 Obj.val ov l)(hg:∀o∈l,o.AL)(q:J l<=1000000)(id:ae):
 ∃v s',ai Q 188 [.agg [ov],.str id] s v s'/\v=bu (io (λo:Obj=>o.id==id) l 0):=by
 have D:=B.cs;have V:=B.lenS ek;obtain⟨z,F⟩:=cw (s.new (.cells [.str id]));have P:z.get [] s.aL=X (.cells [.str id]):=by rw[<-F];exact cr
 have h:ai Q 255 [ov,.func (.func 256) [] [.ptr s.aL 0]] z (bu (io (λo:Obj=>o.id==id) l 0)) z:=XJ XQ A ek B (EK q) (λx _=>⟨(Sw _ 0).trans rfl,rfl⟩) g.s λx S=>ak4 g P (hg x S);refine ai.ofNRZ asI (aM ?_);simp only[go_sem,seval,D,F];refine aU.of h d_ ?_;simp only[go_sem,seval,bu];exact⟨_,rfl,rfl⟩
variable{rl:vy}{views:cf}{rv:aa}
def arp(a5:Q.spec 7=X lI)(P:Q.spec 20=X gI)(a8:No Q 9){l:ba}(ho:au 6 Obj.val ov l)(hg:∀o∈l,o.AL)(B:J l<small)(a4:pK l=O){w0 V S R vv:aa}(hV:au 1 aw vv views)(a1:J views<=200)(D:au 8 aW.val rv rl)(ok:∀x∈rl,x.Ok)(a3:J rl<=1000000)(a2:dR [w0,V,S,R]=O):
 ∃v s',ai Q 9 [.agg [ov],.agg [w0,V,S,R,vv,rv]] s v s'/\v=.bool (bm l&&aj (((iW l views rl).length:Nat):Int) 0):=by
 have F:=ho.cs;have q:=hV.cs;have A:=D.cs;have g:=xP ho hg B;have a0:lI [.agg [ov],.agg [w0,V,S,R,vv,rv]]=X (fG 3 ((iW l views rl).map eY)):=by
  rw[<-Vo];exact Vp (rp ho hg B) (oI oo hV) (Bd D ok a3) a4 a1 a2
 have ia:=BM 3 eY (iW l views rl);have a7:=ia.gt;have a6:=ia.lenS iC;refine ai.ofNRZ ave (aM ?_);cases hv:bm l;rw[hv]at g;simp only[go_sem,seval,F,q,A,P,g,sB];exact⟨_,rfl,rfl⟩;rw[hv]at g;simp only[go_sem,seval,F,q,A,P,g,a5,a0,a7,a6,sB];exact⟨_,rfl,rfl⟩
def Bp:Sp
 |[m,.str id]=>(kY m).bind λl=>bif decide (J l<=1000000)then X (bu (io (λo:Obj=>o.id==id) l 0))else Z
 |_=>Z
def amB{l:ba}(q:au 6 Obj.val ov l)(B:∀o∈l,o.AL)(A:J l<=1000000)(id:ae):Bp [.agg [ov],.str id]=X (bu (io (λo:Obj=>o.id==id) l 0)):=by
 have g:=aab;simp only[aaf,Bp,rp q B w_,dQ A]
def amC:cW ag 188 Bp:=by
 intro args x g G h w D F P;unfold Bp at g;split at g;rename_i m id;simp only[ak]at g
 let⟨l,A,g⟩:=g
 let⟨h3,g⟩:=aZ g
 simp only[dE]at h3;have g:=sI g;subst g;obtain⟨v,rfl,A,B,V⟩:=qr A
 let⟨ht,v',q,hl'⟩:=pJ A B
 have q:di [.agg [v],.str id]=[.agg [v'],.str id]:=by simp only[di,q];rfl
 refine iQ (T:=[]) (W:=[]) .nil .nil (args:=[.agg [v],.str id]) (by show(dW (.agg [v])&&(dW (.str id)&&O))=O;rw[ht];rfl) (λS=>?_) G h w D F P;rw[q];obtain⟨y,s',R,rfl⟩:=amD (Q:=QW [] [] S) R_ R_ R_ hl' B h3 id (s:=s0);exact⟨_,_,R,⟨1,rfl⟩⟩;cases g
def T7:dy:=[(7,lI),(20,gI)]
def af7:eh T7:=.cons NW (.cons vB .nil)
def xC:Sp
 |[m,.agg [a,b,c,d,vv,rv]]=>(kY m).bind λl=>(ff 1 iV vv).bind λviews=>(rz rv).bind λrl=>bif pK l&&(decide (J views<=200)&&pC a b c d)then X (.bool (bm l&&aj (((iW l views rl).length:Nat):Int) 0))else Z
 |_=>Z
theorem X7{m vv a b c d:aa}{l:ba}(A:kY m=X l)(g:ff 1 iV vv=X views)(q:rz rv=X rl)(h1:pK l=O)(D:J views<=200)(B:pC a b c d=O):xC [m,.agg [a,b,c,d,vv,rv]]=X (.bool (bm l&&aj (((iW l views rl).length:Nat):Int) 0)):=by
 grind [xC]
variable{v:aa}
def aF2{vv a b c d:aa}{l:ba}(B:au 6 Obj.val v l)(D:∀o∈l,o.AL)(R:au 1 aw vv views)(q:au 8 aW.val rv rl)(A:∀x∈rl,x.Ok)(P:pC a b c d=O):
 dW (.agg [v])=O/\dW (.agg [a,b,c,d,vv,rv])=O/\∃g,cx (.agg [v])=.agg [g]/\au 6 Obj.val g l/\cx (.agg [a,b,c,d,vv,rv])=.agg [cx a,cx b,cx c,cx d,cx vv,cx rv]/\au 1 aw (cx vv) views/\au 8 aW.val (cx rv) rl/\pC (cx a) (cx b) (cx c) (cx d)=O:=by
 let⟨ht,g,hw,hl'⟩:=pJ B D
 let⟨ht2,hrl'⟩:=LO q A
 let⟨ht3,hvw'⟩:=m6 pT R
 have F:=FW P
 simp_all [dR,Wz,dW,cx,di]
def arq:cW ag 9 xC:=by
 intro args u g G h w D F P;unfold xC at g;split at g;rename_i m a b c d vv rv;simp only[ak]at g
 let⟨l,A,views,q,rl,hrl,g⟩:=g
 let⟨hf,g⟩:=aZ g
 have g:=sI g;subst g;simp only[bg,dE]at hf
 let⟨hf1,hf2,hf3⟩:=hf
 obtain⟨v,rfl,A,B,S⟩:=qr A
 let⟨hrl,ok,hle⟩:=IQ hrl
 have q:=ku (λ_ _ h=>pg h) q
 let⟨t1,t2,v',e1,hl',e2,hvw',hrl',hf'⟩:=aF2 A B q hrl ok hf3
 refine iQ af7 (W:=[]) .nil (args:=[.agg [v],.agg [a,b,c,d,vv,rv]]) (by simp only[dR,t1,t2,bZ]) (λch=>?_) G h w D F P;have R:di [.agg [v],.agg [a,b,c,d,vv,rv]]=[cx (.agg [v]),cx (.agg [a,b,c,d,vv,rv])]:=rfl;rw[R,e1,e2];obtain⟨y,s',V,rfl⟩:=arp (Q:=QW T7 [] ch) rfl rfl R_ hl' B S hf1 hvw' hf2 hrl' ok hle (FW hf') (s:=s0);exact⟨_,_,V,⟨1,rfl⟩⟩;cases g
def ana{k:ae}:∀{l:ba}{o:Obj}{i:Nat},cD k l=X o->∃p:Nat,io (λo:Obj=>o.id==k) l i=((i+p:Nat):Int)/\l[p]?=X o:=by
 intro l
 induction l with
 |nil=>intro o i h;cases h
 |cons q l g=>
  intro o i h;by_cases hk:q.id=k;subst hk;simp only[cD,bS,cT,aQ]at h;subst h;exact⟨0,by simp[io],rfl⟩;have B:(q.id==k)=I:=bN.2 hk;have A:(k==q.id)=I:=bN.2 λe=>hk e.symm;simp only[cD,A,cF]at h
  let⟨p,h3,h4⟩:=g (i:=i+1) h
  refine⟨p+1,?_,h4⟩;simp only[io,B,cF,h3];omega
def WW(P:Q.spec 188=X Bp)(R:No Q 120){l:ba}(C:sU s bx m ov l)(B:s.gE<=s.aL)(A:au 6 Obj.val ov l)(S:∀o∈l,o.AL)(hl:J l<=1000000){id:ae}{o:Obj}(h:cD id l=X o):∃s',ai Q 120 [.ptr bx 0,.str id] s o.val s'/\Up s s':=by
 have F:=A.cs;have hb:=C.box;have q:=amB A S hl id
 let⟨p,hp,hat⟩:=ana (i:=0) h
 rw[dS]at hp;rw[hp]at q;have D:=λlc k=>A.at ek.2.2.1 hat lc k;have V:=(S o (cq hat)).all
 suffices g:∃v s',ai Q 120 [.ptr bx 0,.str id] s v s'/\(v=o.val/\Up s s') by
  obtain⟨_,s',h1,rfl,h2⟩:=g;exact⟨s',h1,h2⟩
 refine ai.ofNRZ arY (aM ?_);simp only[go_sem,seval];refine⟨B,?_⟩;simp only[go_sem,seval,hb,F,P,q,bu,D,Obj.val,Obj.cells,V];exact⟨_,rfl,rfl,by rw[iZ B];exact Up.refl B⟩
variable{b:cf}{ys:aa}
def aBm(g:Q.spec 51=X lf)(D:No Q 198)(F:au 1 aw ys b)(B:J b<=1000000)(P:s.get [] c=X (.cells [ys]))(x:ae):ai Q 198 [.str x,.ptr c 0] s (.bool (b.contains x)) s:=by
 have A:=F.cs;have q:=FK F B x;refine ai.ofNZ asS (aM ?_);simp only[go_sem,seval,P,A,g,q]
def vT(g:Bool)(ids:cf)(o:Obj):Bool:=(!g||bT 4 o.Al)&&o.gT.any λx=>ids.contains x
def aBl(F:Q.spec 51=X lf)(B:No Q 135)(D:No Q 88)(q:No Q 198)(V:No Q 197)(hb:au 1 aw ys b)(S:J b<=1000000){d:Nat}{g:Bool}(R:s.get [] d=X (.cells [.bool g]))(hc:s.get [] c=X (.cells [ys])){o:Obj}(go:o.AL)(hr:J o.gT<=1000000):
 ai Q 197 [o.val,.ptr d 0,.ptr c 0] s (.bool (vT g b o)) s:=by
 have P:=go.all;have A:=Gc B D go.gT hr q.s (s:=s) (cap:=[.ptr c 0]) (p:=λx=>b.contains x) λx _=>aBm F q hb S hc x;refine ai.ofNZ asR (aM ?_);unfold vT;cases g;simp only[go_sem,seval,Obj.val,Obj.cells,P,R];refine aU.of A d_ ?_;simp only[go_sem,seval];cases e1:bT 4 o.Al;simp only[go_sem,seval,Obj.val,Obj.cells,P,R,e1];simp only[go_sem,seval,Obj.val,Obj.cells,P,R,e1];refine aU.of A d_ ?_;simp only[go_sem,seval]
def Sx(R:Q.spec 51=X lf)(D:No Q 135)(F:No Q 88)(A:No Q 198)(q:No Q 197)(V:No Q 255)(B:No Q 196)(a3:No Q 123){l:ba}(C:sU s bx m ov l)(hm:s.gE<=s.aL)(ho:au 6 Obj.val ov l)(hg:∀o∈l,o.AL)(hl:J l<=1000000)(hr:∀o∈l,J o.gT<=1000000)(hb:au 1 aw ys b)(a2:J b<=1000000)(g:Bool):
 ∃v s',ai Q 123 [.ptr bx 0,.bool g,ys] s v s'/\(v=.bool (l.any (vT g b))/\Up s s'):=by
 have a1:=ho.cs;have a0:=hb.cs;have a4:=ho.lenS ek;obtain⟨z,S⟩:=cw ((s.new (.cells [.bool g])).new (.cells [ys]));have U:Up s z:=by rw[<-S];exact((Up.refl hm).new _).new _
 have Cz:=(C.up U).box;have zd:z.get [] s.aL=X (.cells [.bool g]):=by rw[<-S,cQ (by show s.aL<s.aL+1;omega)];exact cr
 have zc:z.get [] (s.aL+1)=X (.cells [ys]):=by rw[<-S];exact cr
 have P:ai Q 196 [ov,.func (.func 197) [] [.ptr s.aL 0,.ptr (s.aL+1) 0]] z (.bool (l.any (vT g b))) z:=Gb aiW B XQ V ek ho (EK hl) (λx _=>⟨(Sw _ 0).trans rfl,rfl⟩) q.s (p:=vT g b) λx hx=>aBl R D F A q hb a2 zd zc (hg x hx) (hr x hx);refine ai.ofNRZ ar1 (aM ?_);simp only[go_sem,seval,a0,S,Cz,a1];refine aU.of P d_ ?_;simp only[go_sem,seval];exact⟨_,rfl,rfl,U⟩
def ak9(xs:az)(r:gV):cP ag .eql 25 (.list 1 xs r) .Ge=X (.bool I):=k_
def ajt(A:No Q 200){r:gV}{ids:cf}(g:ids≠[])(D:J ids<=1000000)(F:(aa.list 1 (ids.map aw) r).gt=O)(B:s.gE<=s.aL):
 ∃v s',ai Q 200 [.list 1 (ids.map aw) r] s v s'/\(bU 1 s.aL s' v (ids.map aw)/\s.aL<=s'.aL/\s'.gE<=s'.aL):=by
 have R:cJ ag [] 25 (.list 1 [] .GT) (.list 1 (ids.map aw) r) I s=X (.list 1 (ids.map aw) (.own s.aL),s.new .tok):=by
  obtain⟨x,ids,rfl⟩:=List.exists_cons_of_ne_nil g;have q:eB ([]++(x::ids).map aw).length 16=O:=x9 (by simp only[nz,bh,bP]at D⊢;omega) d_;rw[cZ]at q⊢;simp only[aaa,cJ,bM,aG,cU,cF,fy,iB,q,nz];simp only[nz]at q;rw[q];rfl
 have P:=ak9 (ids.map aw) r;refine ai.ofNRZ asV (aM ?_);simp only[go_sem,seval,F,P,R,sB];refine⟨_,rfl,.inr ⟨by simpa using g,s.aL,rfl,by rw[ei,bS];rfl,aC _,iA _⟩,co B⟩
def am3{lo:Nat}{xs:cf}(q:bU 1 lo s v (xs.map aw)):fF h v (fG 1 (xs.map aw)):=
 ⟨4,Bs q λv g=>by
   obtain⟨x,_,rfl⟩:=cy.1 g;rfl⟩
def WO{α:Type}(p:α->Bool):∀(l:List α)(i:Nat),io p l i= -1\/∃k:Nat,io p l i=((i+k:Nat):Int)/\k<J l
 |[],_=>.inl rfl
 |x::l,i=>by
  simp only[io];cases p x;rcases WO p l (i+1)with h|⟨k,h,g⟩
  exact .inl h;exact .inr ⟨k+1,by rw[cF,h];congr 1;omega,Nat.succ_lt_succ g⟩;exact .inr ⟨0,rfl,Nat.succ_pos _⟩
variable{l:cf}{sv:aa}
def aqR(B:No Q 97)(g:au 1 aw sv l)(P:J l<=1000000)(x:ae)(s:St):ai Q 97 [sv,.str x] s (bu (io (λy=>x==y) l 0)) s:=by
 have A:=g.cs;have q:=g.lenS bM;refine ai.ofNZ aa9 (aM ?_);simp only[go_sem,seval,q,A];refine XI P (λi y D=>⟨_,λlc=>g.at bM.2.2.1 D lc _,λlc=>by simp only[go_sem,aw,nq]⟩) (x:=x) (r:=io (λy=>x==y) l 0) ?_ ?_ l [] _ rfl rfl (by simp only[sG,seval]) (by simp only[sG,seval]) (by simp only[sG,seval]) (by simp only[sN,seval];rfl);intro e F;simp only[go_sem,seval,F];rfl;intro e R;simp only[go_sem,seval,R];rfl
def aq9(R:Q.spec 51=X lf)(B:No Q 97)(a5:No Q 199)(S:au 1 aw sv l)(hl:J l<=1000000)(x:ae)(s:St):∃v s',ai Q 199 [sv,.str x] s v s'/\(s'=s/\(v=ah (-1)\/∃p:Nat,v=an p/\0<p/\p+1<J l)):=by
 have g:=S.cs;have P:=S.lenS bM;have run:=aqR B S hl x s;rcases WO (λy=>x==y) l 0 with h|⟨p,h,hp⟩
 rw[h]at run;have A:bT (-1) 0=O:=rfl;refine ai.ofNRZ Zu (aM ?_);simp only[go_sem,seval,g];refine aU.of run d_ ?_;simp only[go_sem,seval,bu,A];exact⟨_,rfl,.inl rfl⟩;rw[h,dS]at run;have F:IntKind.i64.wrap ((J l:Int)-1)=(J l:Int)-1:=by rw[oW];omega
 have a1:=cm (n:=p) w_;refine ai.ofNRZ Zu (aM ?_);cases A:bT (p:Int) 0;have a3:0<p:=by
  have:¬(p:Int)<=0:=of_decide_eq_false A;omega
 cases e2:aj (p:Int) ((J l:Int)-1);have a2:p+1<J l:=by
  have:¬(p:Int)=(J l:Int)-1:=of_decide_eq_false e2;omega
 let⟨V,sa,hV,_⟩:=L9 Mu (by kernel_rfl:cS ag 9=X 1) S (lo:=p+1) (hi:=J l) w_ (aC _)
 have a0:∀env s,ac env 21=an (p+1)->eC ag [] 25 sv (X (.tmp 21)) Z Z env s=X V:=λenv s q=>sa env s _ _ rfl (kR (by rw[ey,q]));have a4:=hV.cs;have D:=FK hV (by rw[kp,jG];omega) x;simp only[go_sem,seval,g];refine aU.of run d_ ?_;simp only[go_sem,seval,bu,A,e2,g,P,F,a1,a0,a4,R,D];cases ((l.take (J l)).drop (p+1)).contains x;simp only[go_sem,seval];exact⟨_,rfl,.inr ⟨p,rfl,a3,a2⟩⟩;simp only[go_sem,seval];exact⟨_,rfl,.inl rfl⟩;simp only[go_sem,seval,g];refine aU.of run d_ ?_;simp only[go_sem,seval,bu,A,e2,g,P,F];exact⟨_,rfl,.inl rfl⟩;simp only[go_sem,seval,g];refine aU.of run d_ ?_;simp only[go_sem,seval,bu,A];exact⟨_,rfl,.inl rfl⟩
def C8:Sp
 |[v]=>(ff 1 iV v).bind λl=>bif !l.isEmpty&&decide (J l<=1000000)then X (fG 1 (l.map aw))else Z
 |_=>Z
def Vz(h:au 1 aw v l)(g:l≠[])(A:J l<=1000000):C8 [v]=X (fG 1 (l.map aw)):=by
 have q:l.isEmpty=I:=by cases l with|nil=>exact absurd rfl g|cons=>rfl
 simp only[aac,C8,oI oo h,q,Bool.not_false,dQ A]
def aju:cW ag 200 C8:=by
 intro args u g G h w A B D;unfold C8 at g;split at g;simp only[ak]at g
 let⟨l,h1,g⟩:=g
 let⟨h2,g⟩:=aZ g
 simp only[bg,dE,ny]at h2;have g:=sI g;subst g;have q:l≠[]:=λe=>by rw[e]at h2;cases h2.1
 have hi:=ku (λv a=>pg) h1
 let⟨ht,hi'⟩:=m6 pT hi
 refine iQ (T:=[]) .nil (W:=[]) .nil (by simp only[dR,ht,bZ]) (λP=>?_) G h w A B D;rcases hi' with⟨_,e⟩|⟨r,e⟩
 exact absurd e q
 let⟨y,s',hr,hq,_⟩:=ajt (Q:=QW [] [] P) R_ (r:=r) q h2.2 rfl (s:=s0) (aC _)
 refine⟨y,s',by rw[di,di,e];exact hr,?_⟩;rcases hq with⟨_,F⟩|⟨_,k,rfl,_⟩
 exact absurd (nX.1 F) q;exact am3 (h:=s'.heap) (lo:=0) (s:=s') (.inr ⟨by simpa using q,k,rfl, ‹_›⟩);cases g
def aoj{K:Nat}(q:0<K)(g:K<=1000000)(mu:Bool)(s:St):fZ ag [] .append [25,3] mu [.Ge,an K] s=X (.arr 1 s.aL 0 K K,s.new (.cells (fD [.str []] K))):=by
 have P:lM ag 3=I:=k_
 have F:Gl ag 3=O:=k_
 have D:bq 0 K=O:=bG q;have B:aP K 1000000=O:=bG g;have A:eB K 16=O:=x9 w_ d_;simp only[aac,fZ,P,F,cF,Bu,an,bM.1,D,B,A,nq]
def aiI(mu:Bool)(s:St):fZ ag [] .cap [25] mu [.Ge] s=X (.int .i64 0,s):=k_
def aCY{x:Operand}(mk:aI)(h:ev e x=X (an 0))(s:St):eC ag mk 25 .Ge Z (X x) Z e s=X .Ge:=by
 have g:eC ag mk 25 .Ge Z (X x) Z e s=(dI e (X x) 0).bind λh=>(X 0).bind λl=>(X 0).bind λm=>bif aA h 0&&aA l 0&&aA m 0&&(O||O)then X .Ge else Z:=k_
 rw[g,kR h];rfl
def aHR(mk:aI)(s:St):fN ag mk 25 .Ge s=X (an 0):=k_
def aok(g:No Q 260){K:Nat}(P:0<K)(F:K<=1000000)(s:St):ai Q 260 [.Ge,an K] s (.arr 1 s.aL 0 0 K) (s.new (.cells (fD [.str []] K))):=by
 have S:aR (K:Int) 0=I:=dN w_;have R:aR 0 (K:Int)=O:=dQ w_;have A:IntKind.i64.wrap 0=0:=rfl;have q:IntKind.i64.wrap (K:Int)=(K:Int):=by rw[oW];omega
 have D:∀env s,ac env 19=.int .i64 0->eC ag [] 25 .Ge Z (X (.tmp 19)) Z env s=X .Ge:=λenv s h=>aCY [] (by rw[ey,h];rfl) s;have B:∀env s m,(ac env 24=.int .i64 0\/ac env 24=an 0)->eC ag [] 25 (.arr 1 m 0 K K) Z (X (.tmp 24)) Z env s=X (.arr 1 m 0 0 K):=λenv s m h=>by
  rw[L5,kR (n:=0) (by rw[ey];rcases h with h|h<;>rw[h]<;>rfl)];rfl
 refine ai.ofNZ atm (aM ?_);simp only[go_sem,seval,S,R,A,q,Int.sub_zero,Int.sub_self,aiI,aHR,aoj P F,D,B]
def vS(cs:az)(p:Nat)(l:az):az:=cs.take p++(l++cs.drop (p+J l))
def UE{K:Nat}{cs:az}(q:s.get [] m=X (.cells cs))(V:J cs=K)(B:au 1 aw v l)(A:p+J l<=K)(hK:K<=1000000)(mu:Bool):
 ∃s',cJ ag [] 25 (.arr 1 m 0 p K) v mu s=X (.arr 1 m 0 (p+J l) K,s')/\s'.get [] m=X (.cells (vS cs p (l.map aw)))/\s'.aL=s.aL:=by
 rcases B with⟨rfl,rfl⟩|⟨r,rfl⟩
 refine⟨s,?_,?_,rfl⟩;simp only[aaf,cJ,bM.1,cU,rT,bC,o0];rw[q,vS];simp;rcases l with _|⟨x,l⟩
 refine⟨s,?_,?_,rfl⟩;simp only[aaa,cJ,bM.1,aG,cU,rT,bC,o0,nY];rw[q,vS];simp;have g:((x::l).map aw).length=(x::l).length:=bh ..;have D:eB (p+((x::l).map aw).length) 16=O:=x9 (by rw[g];omega) d_;have R:aA (0+p*1) (J cs)=I:=by rw[cd];simp only[bP]at A;exact bN.2 w_
 have P:aP (p+((x::l).map aw).length) K=O:=bG (by rw[g];exact A);have F:aP (0+p*1+(aq ((x::l).map aw)).length) (J cs)=O:=bG (by rw[qA,g];omega);refine⟨s.put m (X (.cells (vS cs p ((x::l).map aw)))),?_,by rw[aO,bS];rfl,rfl⟩;have e:cJ ag [] 25 (.arr 1 m 0 p K) (.list 1 ((x::l).map aw) r) mu s=fy [] ⟨1,16,I,.str []⟩ (.arr 1 m 0 p K) ((x::l).map aw) mu s:=by
  simp only[aaa,cJ,bM.1,aG,cU,cZ]
 rw[e];have S:aA 1 1=O:=rfl;simp only[aac,fy,q,D,R,P,cF,gR,F,S];simp only[vS,qA,g,dS,Nat.mul_one]
def Yd(q g:aa)(lc:Ag.Loc):gm ag lc 345 (.list 1 [q,g] .GT) (.int .i64 0)=X (.ro q.cells)/\gm ag lc 345 (.list 1 [q,g] .GT) (.int .i64 1)=X (.ro g.cells):=⟨k_,k_⟩
def abD(q g:aa)(mk:aI)(s:St):fN ag mk 345 (.list 1 [q,g] .GT) s=X (.int .i64 2):=k_
def aj9(g:No Q 260)(V:No Q 201){A q:aa}{a:cf}(R:au 1 aw A a)(P:au 1 aw q b)(h0:0<J a+J b)(S:J a+J b<=1000000)(s:St):
 ∃v s',ai Q 201 [.list 1 [A,q] .GT] s v s'/\∃m,v=.arr 1 m 0 (J a+J b) (J a+J b)/\s'.get [] m=X (.cells ((a++b).map aw)):=by
 let⟨ac1,ac2⟩:=R.cs
 let⟨bc1,bc2⟩:=P.cs
 have al:=R.lenS bM;have bl:=P.lenS bM;have D:=λlc=>(Yd A q lc).1;have B:=λlc=>(Yd A q lc).2;rw[ac2]at D;rw[bc2]at B;have q1:aR 0 2=O:=rfl;have q2:aR 1 2=O:=rfl;have q3:aR 2 2=I:=rfl;have w1:IntKind.i64.wrap 1=1:=rfl;have w2:IntKind.i64.wrap 2=2:=rfl;have i2:(1:Int)+1=2:=rfl;have wa:IntKind.i64.wrap ((J a:Int))=(J a:Int):=by rw[oW];omega
 have wb:IntKind.i64.wrap ((J a:Int)+(J b:Int))=((J a+J b:Nat):Int):=by rw[oW];omega
 have n1:aR (J a:Int) 0=I:=dN w_;have n2:aR ((J a+J b:Nat):Int) 0=I:=dN w_;have cl:(aa.list 1 [A,q] .GT).gt=O:=rfl;have hg:=aok g h0 S s (Q:=Q);obtain⟨z,hz⟩:=cw (s.new (.cells (fD [.str []] (J a+J b))));have zg:z.get [] s.aL=X (.cells (fD [.str []] (J a+J b))):=by rw[<-hz];exact cr
 have rl:∀n:Nat,(fD [.str []] n:az).length=n:=λn=>by
  induction n with
  |zero=>rfl
  |succ n ih=>simp only[aag,fD,ih];omega
 rw[hz]at hg
 let⟨s1,a1,g1,_⟩:=UE (mu:=I) zg (rl _) R (p:=0) w_ S
 have l1:(vS (fD [.str []] (J a+J b)) 0 (a.map aw)).length=J a+J b:=by
  simp only[vS,bI,jG,kp,bh,rl];omega
 rw[dS]at a1
 let⟨s2,a2,g2,_⟩:=UE (mu:=I) g1 l1 P (p:=J a) (aC _) S
 have F:vS (vS (fD [.str []] (J a+J b)) 0 (a.map aw)) (J a) (b.map aw)=(a++b).map aw:=by
  have e1:(fD [.str []] (J a+J b):az).drop (J a+J b)=[]:=yG (by rw[rl];omega);simp only[vS,wI,nz,dS,bh];rw[It (by simp),Ij,bh,List.drop_drop,yG (by simp),dj];rw[show J a+(J a+J b-J a)=J a+J b from w_,e1];simp
 rw[F]at g2;refine ai.ofNRZ asW (aM ?_);simp only[go_sem,seval,cl,abD];refine aF ?_;simp only[go_sem,seval,PS,q1,D,ac1,ac2,al,Int.zero_add,wa,n1,w1];refine aF ?_;simp only[go_sem,seval,PS,q2,B,bc1,bc2,bl,wb,n2,i2,w2];refine aF ?_;simp only[go_sem,seval,PS,q3];refine aU.of hg d_ ?_;simp only[go_sem,seval,cl,abD];refine aF ?_;simp only[go_sem,seval,PT,q1,D,ac1,ac2,a1,w1];refine aF ?_;simp only[go_sem,seval,PT,q2,B,bc1,bc2,a2,i2,w2];refine aF ?_;simp only[go_sem,seval,PT,q3];exact⟨_,rfl,s.aL,rfl,g2⟩
def Vt{sz:Nat}:∀cs:az,chunk I sz (J cs) cs=X cs
 |[]=>rfl
 |c::cs=>by
  show(chunk I sz (J cs) cs).bind (λr=>X (c::r))=_;rw[Vt cs];rfl
def akm(cs:az)(h:n=J cs):cut cs 0 n=X cs:=by
 subst h;unfold cut;simp only[kG,Iu,Hj,cT]
def WG{H:aB aH}{w k:Nat}{cs cs':az}(D:H.get n=X (.cells cs))(B:J cs=w)(q:da (b9 H k) cs=X cs'):b9 H (k+1) (.arr 1 n 0 w w)=X (.list 1 cs' .no):=by
 have g:=Jz q;show(match H.get n with
  |some (.cells cs)=>(cut cs 0 (w*1)).bind λc=>(da (b9 H k) c).bind λF=>(chunk (!aA 1 1) 1 w F).bind λA=>X (aa.list 1 A .no)
  |_=>Z)=_
 rw[D];simp only;rw[akm cs w_,aG,q,aG,<-B,<-g];show(chunk I 1 (J cs') cs').bind _=_;rw[Vt];rfl
def Dc:Sp
 |[.list 1 [va,vb] .GT]=>(uX va).bind λa=>(uX vb).bind λb=>bif decide (0<J a+J b)&&decide (J a+J b<=1000000)then X (fG 1 ((a++b).map aw))else Z
 |_=>Z
def aka{q g:aa}{a:cf}(D:au 1 aw q a)(B:au 1 aw g b)(pa:bn q=O)(A:bn g=O)(P:0<J a+J b)(F:J a+J b<=1000000):Dc [.list 1 [q,g] .GT]=X (fG 1 ((a++b).map aw)):=by
 simp only[aac,Dc,CT D pa,CT B A,dQ P,dQ F]
def akb:cW ag 201 Dc:=by
 intro args u g G h w q A B;unfold Dc at g;split at g;simp only[ak]at g
 let⟨a,h1,b,h2,g⟩:=g
 let⟨h3,g⟩:=aZ g
 simp only[bg,dE]at h3;have g:=sI g;subst g
 let⟨hi1,hp1⟩:=IT h1
 let⟨hi2,hp2⟩:=IT h2
 refine iQ (T:=[]) .nil (W:=[]) .nil (by simp only[dR,dW,pures,hp1,hp2,bZ]) (λP=>?_) G h w q A B;obtain⟨v,s',D,m,rfl,F⟩:=aj9 (Q:=QW [] [] P) R_ R_ hi1 hi2 h3.1 h3.2 s0;refine⟨_,s',by simpa only[di,cx,yu hp1,yu hp2]using D,2,?_⟩;have e:=WG (k:=1) (w:=J a+J b) F (by simp) (rN λv g=>by
  obtain⟨p,_,rfl⟩:=cy.1 g;rfl)
 rw[e];rcases hab:(a++b)with _|⟨x,l⟩
 have:=congrArg oY hab;rw[bI,bC]at this;omega;rfl;cases g
structure yX (l:ba) (x:Obj):Prop where
 good:x.AL
 Al:∀o∈l,o.id=x.id->o.Al=x.Al
 ref:∀(i:Nat)(r:ae),x.gT[i]?=some r->∃q∈l,q.id=r/\q.Al=sJ x.Al i
inductive qh (l:ba):ba->ae->Prop where
 |one {x:Obj}:yX l x->(x.gT.length<=20\/∃o∈l,o.id=x.id/\x.gT.length<=o.gT.length)->qh l [x] []
 |two {x y o:Obj}:yX l x->yX l y->x.Al=y.Al->o∈l->o.id=x.id->x.gT.length+y.gT.length<=o.gT.length+1->qh l [x,y] []
 |drop {d:ae}:d≠[]->(∀y∈l,∀r∈y.gT,r≠d)->qh l [] d
 |join {x o p:Obj}:yX l x->o∈l->p∈l->o.id=x.id->o.id≠p.id->p.id≠[]->x.gT.length<=o.gT.length+p.gT.length->(∀y,y=x\/y∈l->y.id≠p.id->∀r∈y.gT,r≠p.id)->qh l [x] p.id
def Fi(Q:ay)(f:FuncId)(args:az)(s:St)(l:ba):Prop:=
 ∃v s',ai Q f args s v s'/\(Up s s'/\∃q put d g,v=.agg [q,.str d,ah g]/\au 6 Obj.val q put/\(g=0->qh l put d))
def Fi.k{Q:ay}{l:ba}(h:Fi Q f args s l){d:Tmp}{C:mm}(D:d<sz)(B:∀s' q put A g,Up s s'->au 6 Obj.val q put->(g=0->qh l put A)->C ⟨e.set d (X (.agg [q,.str A,ah g])),sz,lc⟩ s'):aU Q f args d e sz lc s C:=by
 obtain⟨v,s',R,u,q,put,A,g,rfl,P,F⟩:=h;exact aU.of R D (B s' q put A g u P F)
def Pb(l:cf):au 1 aw (fG 1 (l.map aw)) l:=by
 rcases l with _|⟨x,l⟩
 exact .inl R_;exact .inr ⟨.no,rfl⟩
def Sn(l:cf):bn (fG 1 (l.map aw))=O:=by
 rcases l with _|⟨x,l⟩
 rfl;simp only[cZ,fG,bn,Bool.and_true];exact Go.Ag.pures_all.2 λv g=>by
  rcases dD.1 g with rfl|g
  rfl;obtain⟨y,_,rfl⟩:=cy.1 g;rfl
def Obj.withR(o:Obj)(rv:aa)(rs:cf):Obj:= {o with refsV:=rv,gT:=rs }
variable{o:Obj}
def Obj.AL.withR(g:o.AL){rs:cf}(h:au 1 aw rv rs)(A:bn rv=O)(B:J rs<small)(q:∀r∈rs,J r<small):(o.withR rv rs).AL:=
 ⟨⟨h,g.uP,g.id,B,q,g.taglen,g.key⟩,A,g.pt⟩
structure Nb (Q:ay):Prop where
 h32:Q.spec 188=some Bp
 h75:Q.spec 43=some qN
 h130:Q.spec 51=some lf
 h154:Q.spec 200=some C8
 h372:Q.spec 201=some Dc
 w223:No Q 97
 w371:No Q 199
 w261:No Q 135
 w167:No Q 88
 w370:No Q 198
 w369:No Q 197
 w76:No Q 255
 w368:No Q 196
 w275:No Q 123
 w272:No Q 120
 w276:No Q 124
 w277:No Q 125
structure rj (s:St) (bx m:Nat) (ov:aa) (l:ba):Prop where
 at_:sU s bx m ov l
 mw:s.gE<=s.aL
 isL:au 6 Obj.val ov l
 good:∀o∈l,o.AL
 valid:bm l=true
 clo:wO l
 len:l.length<=900
 gT:dK l<=900
variable{l:ba}
def Ai(h:o∈l):J o.gT<=dK l:=by
 let⟨i,hi⟩:=rd.1 h
 have:=LI hi;omega
def rj.up{s':St}(M:rj s bx m ov l)(u:Up s s'):rj s' bx m ov l:=⟨M.at_.up u,u.mw,M.isL,M.good,M.valid,M.clo,M.len,M.gT⟩
def X6{enc:α->aa}{l:List α}(h:au n enc v l):OV v=.none:=by
 rcases h with⟨rfl,_⟩|⟨_,rfl⟩<;>rfl
variable{e:aK}
def aDt(T:Nb Q)(M:rj s bx m ov l)(ge:e.AL)(D:o∈l)(hk:o.Al=2):Fi Q 124 [.ptr bx 0,e.val,o.val] s l:=by
 have a8:=aab;have go:=M.good o D;have a6:=T.w276;have a5:=T.w371;have a7:=T.w275;have rc:=go.all;have ec:=ge.gT.cs;have R:=ge.obj.all;have hb:=M.at_.box;have a9:=Ai D;have b0:=M.gT;have A:=M.mw;have g:=nM gn rZ uD (s:=s.top) M.at_.kin e.other;rw[DT]at g;have gs:∀b:ae,F9 (.str b)=cz.none:=λ_=>rfl;refine ai.ofNRZ ar2 (aM ?_);simp only[go_sem,seval,aK.val,aK.cells,Obj.val,Obj.cells,rc,ec,R,dL];refine⟨A,?_⟩;cases S:cD e.other l with
 |some q=>
  rw[S]at g;simp only[kV,iu]at g;simp only[go_sem,seval,hb,g,rc,ec,R,dL];exact⟨_,rfl,Up.refl A,_,[],_,_,rfl,.inl R_,λh=>by cases h⟩
 |none=>
  rw[S]at g;simp only[n8,iu]at g;obtain⟨v,s1,F,rfl,hp⟩:=aq9 T.h130 T.w223 T.w371 go.gT w_ e.node s;simp only[go_sem,seval,hb,g,rc,ec,R];refine aU.of F d_ ?_;rcases hp with rfl|⟨p,rfl,b2,b1⟩
  have e1:aR (-1) 0=O:=rfl;simp only[go_sem,seval,e1,dL];exact⟨_,rfl,Up.refl A,_,[],_,_,rfl,.inl R_,λh=>by cases h⟩;have e1:aR (p:Int) 0=I:=dN w_;obtain⟨_,s2,P,rfl,u⟩:=Sx T.h130 T.w261 T.w167 T.w370 T.w369 T.w76 T.w368 T.w275 M.at_ A M.isL M.good (by have:=M.len;omega) (λq S=>by have:=Ai S;omega) (ys:=.list 1 [.str e.id] .GT) (b:=[e.id]) (.inr ⟨.GT,rfl⟩) (by simp) O;have M2:=M.up u;simp only[go_sem,seval,e1,ec,R,sB];refine aU.of P d_ ?_;cases hrf:l.any (vT O [e.id])
  let⟨V1,sa,hV1,_⟩:=L9 Mu (by kernel_rfl:cS ag 9=X 1) go.gT (lo:=p) (hi:=J o.gT) w_ (aC _)
  let⟨V2,sb,hV2,_⟩:=L9 Mu (by kernel_rfl:cS ag 9=X 1) go.gT (lo:=0) (hi:=p+1) w_ w_
  have a1:∀env s,ac env 43=an p->eC ag [] 25 o.refsV (X (.tmp 43)) Z Z env s=X V1:=λenv s q=>sa env s _ _ rfl (kR (by rw[ey,q]));have a0:∀env s,ac env 52=an (p+1)->eC ag [] 25 o.refsV Z (X (.tmp 52)) Z env s=X V2:=λenv s q=>sb env s _ _ (kR (by rw[ey,q])) rfl;rw[Iu]at hV1;rw[kG]at hV2;have c1:=Vz hV1 (by intro h;have:=congrArg oY h;rw[kp,bC]at this;omega) (by rw[kp];omega);have c2:=Vz hV2 (by intro h;have:=congrArg oY h;rw[jG,bC]at this;omega) (by rw[jG];omega);have v1:=hV1.cs;have v2:=hV2.cs;have i1:=Pb (o.gT.drop p);have i2:=Pb (o.gT.take (p+1));have n1:=i1.cs;have n2:=i2.cs;have a3:=cm (n:=p) w_;have a4:=X6 go.gT;have a2:s2.GE s2.top=s2:=iZ u.mw;have fm:(cz.loc 10).meets .none=I:=rfl;have V:=T.h154;simp only[go_sem,seval,rc,ec,R,a1,v1,V,c1,n1,gs,a4,fm,a2,a3,a0,v2,c2,n2,u.mw,sB];refine⟨_,rfl,u,_,[o.withR (fG 1 ((o.gT.take (p+1)).map aw)) (o.gT.take (p+1)),⟨e.other,2,0,0,fG 1 ((o.gT.drop p).map aw),o.tagsV,o.gT.drop p,o.uP⟩],_,_,rfl,.inr ⟨.GT,rfl⟩,λ_=>.two (o:=o) ⟨?_,?_,?_⟩ ⟨?_,?_,?_⟩ hk D rfl ?_⟩;exact go.withR i2 (Sn _) (by rw[jG];omega) λr hr=>go.ref r (wD hr);exact λq' B e'=>by rw[xt M.valid B D e'];rfl
  intro i r hi;have hi:(o.gT.take (p+1))[i]?=X r:=hi;rw[wC]at hi;split at hi;exact M.clo o D i r hi;cases hi;exact⟨⟨i1,go.uP,ge.other,by rw[kp];omega,λr hr=>go.ref r (oZ hr),go.taglen,go.key⟩,Sn _,go.pt⟩;intro q' B e';have h:=BO M.valid B;rw[show q'.id=e.other from e',S]at h;cases h;intro i r hi;have hi:(o.gT.drop p)[i]?=X r:=hi;rw[qZ]at hi
  let⟨q,h1,h2,h3⟩:=M.clo o D _ r hi
  rw[hk]at h3;exact⟨q,h1,h2,h3⟩;show(o.gT.take (p+1)).length+(o.gT.drop p).length<=_;rw[jG,kp];omega;simp only[go_sem,seval,dL];exact⟨_,rfl,u,_,[],_,_,rfl,.inl R_,λh=>by cases h⟩
def abr(g:dY o=O)(q:o.Al=2):2<=J o.gT:=by
 unfold dY at g;cases hb:lK o;simp only[lK,wz,decide_eq_false_iff_not]at hb;have h:=hb.1.2;rw[q]at h;have e:xL 2=2:=d_
 omega;rw[hb]at g;cases g
def arw(T:Nb Q)(M:rj s bx m ov l)(ge:e.AL){p:Obj}(S:o∈l)(hk:o.Al=2)(hid:o.id=e.id)(hp:cD e.other l=X p):Fi Q 125 [.ptr bx 0,e.val,o.val] s l:=by
 have b4:=aab;have go:=M.good o S
 let⟨hpl,hpi⟩:=oN hp
 have V:=M.good p hpl;have rc:=go.all;have pc:=V.all;have ec:=ge.gT.cs;have oc:=ge.obj.all;have b6:=Ai S;have b5:=Ai hpl;have b7:=M.gT;have a9:=M.mw;have b1:=T.w277;have b3:=T.w272;have b2:=T.w275;have A:=M.valid;simp only[bm,bg]at A;have c0:=abr (sm l [] A.1 o S) hk
 let⟨s1,r272,u1⟩:=WW T.h32 T.w272 M.at_ a9 M.isL M.good (by have:=M.len;omega) hp
 have M1:=M.up u1;have P:=go.gT.lenS bM;have F:=V.gT.lenS bM;simp only[Obj.val,Obj.cells]at r272;refine ai.ofNRZ ar3 (aM ?_);simp only[go_sem,seval,aK.val,aK.cells,Obj.val,Obj.cells,rc,ec,oc,dL];refine aU.of r272 d_ ?_;cases c1:aj p.Al 2;simp only[go_sem,seval,rc,pc,ec,oc,c1,dL];exact⟨_,rfl,u1,_,[],_,_,rfl,.inl R_,λh=>by cases h⟩;have B:p.Al=2:=of_decide_eq_true c1;have b8:=abr (sm l [] A.1 p hpl) B;have a1:IntKind.i64.wrap ((J o.gT:Int)-1)=((J o.gT-1:Nat):Int):=by rw[oW];omega
 obtain⟨a,ha⟩:∃a,o.gT[J o.gT-1]?=X a:=⟨_,dA w_⟩;obtain⟨b,hb⟩:∃b,p.gT[0]?=X b:=⟨_,dA w_⟩;have ia:=λlc k=>go.gT.at bM.2.2.1 ha lc k;have ib:∀lc,gm ag lc 25 p.refsV (.int .i64 0)=X (.ro [.str b]):=λlc=>V.gT.at bM.2.2.1 hb lc .i64;cases c2:e.id==e.other;cases c3:a==b;simp only[go_sem,seval,rc,pc,ec,oc,c1,c2,P,F,a1,ia,ib,aw,c3,dL,u1.mw];exact⟨_,rfl,u1,_,[],_,_,rfl,.inl R_,λh=>by cases h⟩;obtain⟨_,s2,a0,rfl,u2⟩:=Sx T.h130 T.w261 T.w167 T.w370 T.w369 T.w76 T.w368 T.w275 M1.at_ M1.mw M.isL M.good (by have:=M.len;omega) (λq hq=>by have:=Ai hq;omega) (ys:=.list 1 [.str e.id,.str e.other] .GT) (b:=[e.id,e.other]) (.inr ⟨.GT,rfl⟩) (by simp) O;have u:=u1.trans u2;simp only[go_sem,seval,rc,pc,ec,oc,c1,c2,P,F,a1,ia,ib,aw,c3,u1.mw,sB];refine aU.of a0 d_ ?_;cases hrf:l.any (vT O [e.id,e.other]);have a6:IntKind.i64.wrap ((J o.gT:Int)+(J p.gT:Int))=(J o.gT:Int)+(J p.gT:Int):=by rw[oW];omega
 have a5:IntKind.i64.wrap ((J o.gT:Int)+(J p.gT:Int)-1)=(J o.gT:Int)+(J p.gT:Int)-1:=by rw[oW];omega
 have c4:aR 2000 ((J o.gT:Int)+(J p.gT:Int)-1)=I:=dN w_
 let⟨V1,sa,hV1,hp1⟩:=L9 Mu (by kernel_rfl:cS ag 9=X 1) V.gT (lo:=1) (hi:=J p.gT) w_ (aC _)
 have a3:∀env s,eC ag [] 25 p.refsV (X (.const (.int .i64 1))) Z Z env s=X V1:=λenv s=>sa env s _ _ rfl rfl;rw[Iu]at hV1;have cc:=aka go.gT hV1 go.pr (hp1 V.pr) w_ (by rw[kp];omega);have v1:=hV1.cs;have i1:=Pb (o.gT++p.gT.drop 1);have n1:=i1.cs;have a2:=T.h372;have gs:∀b:ae,F9 (.str b)=cz.none:=λ_=>rfl;have b0:=X6 V.gT;have a4:s2.GE s2.top=s2:=iZ u.mw;have fm:∀t,(cz.loc t).meets .none=I:=λ_=>rfl;simp only[go_sem,seval,rc,pc,ec,oc,P,F,a6,a5,c4,a3,v1,a2,cc,n1,gs,b0,fm,a4,sB,u.mw];rw[<-hpi];have a8:o.id≠p.id:=by
  rw[hid,hpi];intro h;rw[h,bS]at c2;cases c2
 refine⟨_,rfl,u,_,[o.withR (fG 1 ((o.gT++p.gT.drop 1).map aw)) (o.gT++p.gT.drop 1)],_,_,rfl,.inr ⟨.GT,rfl⟩,λ_=>.join (o:=o) ⟨?_,?_,?_⟩ S hpl rfl a8 (Mv (sm l [] A.1 p hpl)) ?_ ?_⟩;refine go.withR i1 (Sn _) (by rw[bI,kp];omega) λr g=>?_;rcases fJ.1 g with g|g
 exact go.ref r g;exact V.ref r (oZ g);exact λq' a7 D=>by rw[xt M.valid a7 S D];rfl
 intro i r hi;have g:r∈o.gT++p.gT.drop 1:=cq hi;show∃q∈l,q.id=r/\q.Al=sJ o.Al i;rw[hk];rcases fJ.1 g with g|g
 let⟨j,hj⟩:=rd.1 g
 have:=M.clo o S j r hj;rw[hk]at this;exact this
 let⟨j,hj⟩:=rd.1 (oZ g)
 have:=M.clo p hpl j r hj;rw[B]at this;exact this;show(o.gT++p.gT.drop 1).length<=_;rw[bI,kp];omega
 ·
  have R:∀y∈l,y.Al≠4->y.Al≠5->∀r∈y.gT,r≠p.id:=λy hy h4 h5 r g D=>by
   let⟨j,hj⟩:=rd.1 g
   let⟨q,hq,h6,h7⟩:=M.clo y hy j r hj
   have:=xt M.valid hq hpl (h6.trans D);subst this;have w:sJ y.Al j=1:=by
    unfold sJ;rw[show aj y.Al 4=I from dN h4,show aj y.Al 5=I from dN h5];rfl
   rw[w,B]at h7;cases h7
  intro y hy _ r g D;rcases hy with rfl|hy
  have g:r∈o.gT++p.gT.drop 1:=g;rcases fJ.1 g with g|g
  exact R o S (by rw[hk];decide) (by rw[hk];decide) r g D;exact R p hpl (by rw[B];decide) (by rw[B];decide) r (oZ g) D;by_cases h4:y.Al<4;exact R y hy w_ w_ r g D;have h:=List.any_eq_false.1 hrf y hy;refine h ?_;simp only[vT,Bool.not_true,Bool.false_or,bg,List.any_eq_true];refine⟨dQ w_,r,g,?_⟩;rw[D,hpi];simp
 simp only[go_sem,seval,dL];exact⟨_,rfl,u,_,[],_,_,rfl,.inl R_,λh=>by cases h⟩;simp only[go_sem,seval,rc,pc,ec,oc,c1,c2,dL,u1.mw];exact⟨_,rfl,u1,_,[],_,_,rfl,.inl R_,λh=>by cases h⟩
def GZ:wQ ag 3 ah where
 eq a b:=by
  rw[Wb];rfl
 same a:=by simp[pG,sD,aj]
 gt _:=rfl
def G3(k:Int):j0 ag 217 (ah k)=X (3,26):=k_
variable{l:q_}
def aqS(hl:au 1 ah v l)(a0:J l<=1000000){k r:Int}(hx:∀e,r= -1->K (.exit 0) ⟨e,19,lc⟩ s)(hr:∀e,ac e 4=ah r->K .ret ⟨e,19,lc⟩ s):
 ∀(rest g:q_)(e:ax),l=g++rest->r=io (λx=>aj k x) rest (J g)->ac e 0=v->ac e 1=ah k->ac e 7=an (J l)->ac e 8=an (J g)->W Q 189 (.loop J0) ⟨e,19,lc⟩ s K:=by
 intro rest;have B:=hl.cs
 induction rest with
 |nil=>
  intro g e F q e0 R D P;have V:=cL F;refine aF ?_;simp only[go_sem,seval,J0,D,P,V,bJ];exact hx _ q
 |cons x rest ih=>
  intro g e F q e0 R D P
  let⟨hlt,hat⟩:=cR F
  have A:=λlc k=>hl.at iO.2.2.1 hat lc k;have S:=cm (n:=J g) w_;refine aF ?_;cases hd:aj k x with
  |true=>
   simp only[io,hd,cT]at q;subst q;simp only[go_sem,seval,J0,e0,R,D,P,hlt,B,A,hd];exact hr _ (by simp only[sN,seval])
  |false=>
   simp only[io,hd,cF]at q;simp only[go_sem,seval,J0,e0,R,D,P,hlt,B,A,hd,S];refine ih (g++[x]) _ (db F) (by rw[q];simp) ?_ ?_ ?_ ?_
   all_goals simp only[sN,seval,e0,R,D,sA]
def aj8(D:No Q 189)(F:No Q 121)(B:au 1 ah v l)(g:J l<=1000000)(k:Int)(s:St):ai Q 121 [v,ah k] s (.bool (l.any λx=>aj k x)) s:=by
 have q:=B.cs;have A:=B.lenS iO;have S:ai Q 189 [v,ah k] s (ah (io (λx=>aj k x) l 0)) s:=by
  refine ai.ofNZ asJ (aM ?_);simp only[go_sem,seval,A,q];refine aqS B g (k:=k) (r:=io (λx=>aj k x) l 0) ?_ ?_ l [] _ rfl rfl ?_ ?_ ?_ ?_;intro e P;simp only[go_sem,seval,P];intro e R;simp only[go_sem,seval,R]
  all_goals simp only[sN,seval,bC]
  all_goals rfl
 refine ai.ofNZ arZ (aM ?_);simp only[go_sem,seval,q];refine aU.of S d_ ?_;simp only[go_sem,seval,JC]
def xf(l:q_):aa:=.list 1 (l.map ah) .GT
def Jq:List (Int×aa):=[(2,xf [1]),(4,xf [2,3,4]),(6,xf [2]),(7,xf [2])]
def tx(op Al:Int):Bool:=bif aj op 2 then aj Al 1 else bif aj op 4 then aj Al 2||(aj Al 3||aj Al 4)else bif aj op 6 then aj Al 2 else bif aj op 7 then aj Al 2 else O
def amG(op:Int):(∃l,bR op Jq=X (xf l)/\J l<=3/\∀k,(l.any λx=>aj k x)=tx op k)\/(bR op Jq=Z/\∀k,tx op k=O):=by
 by_cases h2:op=2;subst h2;exact .inl ⟨[1],rfl,d_,λk=>by simp[tx,aj]⟩;by_cases h4:op=4;subst h4;exact .inl ⟨[2,3,4],rfl,d_,λk=>by simp[tx,aj]⟩;by_cases h6:op=6;subst h6;exact .inl ⟨[2],rfl,d_,λk=>by simp[tx,aj]⟩;by_cases h7:op=7;subst h7;exact .inl ⟨[2],rfl,d_,λk=>by simp[tx,aj]⟩;refine .inr ⟨by simp[Jq,bR,h2,h4,h6,h7],λk=>by simp[tx,aj,h2,h4,h6,h7]⟩
