/- Lemmas for ValidParts. -/
import Derived.Test.YtnnppcoplinajaaGreatB9
import Derived.Test.YtnnppcoplinajaaGreatB13
import Derived.Test.YtnnppcoplinajaaGreatB8
import Derived.Test.YtnnppcoplinajaaGreatB10
import Derived.ProofKit
set_option linter.all false
open Bool renaming and_eq_true→bm,and_false→gh,and_self→bW,eq_iff_iff→xj,false_and→dA,false_eq_true→zt,false_or→hZ,not_false→kp,not_true→jp,or_eq_false_iff→vE,or_eq_true→vF,true_and→en,true_or→gZ
open List renaming all_cons→jq,all_eq_true→fu,append_assoc→lV,append_nil→nD,contains_cons→Gu,contains_iff_mem→DI,drop_succ_cons→xz,drop_zero→mR,drop→bK,eq_nil_of_length_eq_zero→tZ,filter_cons_of_neg→Bi,filter_cons_of_pos→DK,filter_cons→Gy,flatMap_cons→Bj,getD_eq_getElem?_getD→kU,getElem?_append_right→t6,getElem?_cons_succ→iJ,getElem?_cons_zero→gi,getElem?_eq_getElem→fE,getElem?_eq_none→DL,getElem?_eq_some_iff→nF,getElem?_map→iw,getElem?_of_mem→t7,length_append→cD,length_cons→dM,length_filter_le→kE,length_map→bP,length_nil→cV,length_range→DM,length_replicate→DN,map_append→eE,map_congr_left→Bl,map_cons→eA,map_map→ll,map_nil→t8,mem_append_left→sB,mem_append_right→Bm,mem_append→jb,mem_cons_of_mem→fW,mem_cons_self→gF,mem_cons→dl,mem_filterMap→GD,mem_filter→kV,mem_flatMap→kW,mem_map→cx,mem_of_getElem?→dB,mem_singleton→qX,nil_append→Bn,not_mem_nil→vH,of_mem_zip→GF,replicate_succ→Ku,replicate→gG,take_succ_cons→vI,take_zero→vJ,take→cM
open List.cons renaming injEq→lW
open Nat renaming beq→aK,ble_eq_true_of_le→cE,ble→bn,blt→bh,eq_zero_or_pos→Bq,le_of_ble_eq_true→fF,le_refl→bk,le_succ_of_le→bU,le_succ→jV,le_trans→eG,lt_irrefl→cq,lt_or_ge→nG,lt_succ_self→kF,mul_le_mul→qZ,mul_one→xI,reduceAdd→bG,reduceBEq→ai,reduceDiv→dY,reduceEqDiff→dU,reduceLT→ay,reduceLeDiff→cy,reduceMod→dC,reduceMul→dw,reducePow→dD,reduceSub→dG,succ_mul→mS,zero_add→eH,zero_le→jW
open Option renaming bind_eq_some_iff→aj,bind_some→bg,map_none→sD,map_some→jI,none_or→zF
open Option.some renaming injEq→aH
open Go.Proofs.Tryz renaming prog→ah
open Go.Ag.W renaming drawX→gK,loopC→bq,loopE→lz
open Go.Ag.WC renaming sound→bT
namespace Go.Proofs.YtnnppcoplinajaaGreat
open Go.Ag
variable{Q:aD}[Std Q]
def ky(l:List Obj)(x:aG)(o:Obj):Bool:=Mj x o&&(!uV x o&&((x.area== [])||nZ l o.id x.area))
def cA(x:aG)(o:Obj):Bool:= !(an x.uP 0)&& !(an x.uP o.uP)
def cB(x:aG)(o:Obj):Bool:= !(x.ifK== [])&& !(gz x.ifK o.gT==some x.ifV)
def ahq(x:aG)(o:Obj):Mj x o=(!cA x o&& !cB x o):=by
 unfold Mj cA cB;cases an x.uP 0<;>cases an x.uP o.uP<;>cases x.ifK== []<;>cases gz x.ifK o.gT==some x.ifV<;>rfl
variable{l:List Obj}{v:aa}
def amr(h:ax 6 Obj.val v l)(z: ∀o∈l,o.Al)(t:mp l=true)(id area:ae):tm [.agg [v],.str id,.str area]=some (.bool (nZ l id area)):=by
 have y:l.length<small:=by
  have:=(oM.1 t).len;have w:=i6;omega
 simp only[dW,tm,vR h z y,t]
def V4(g:Option ae): ∃v b,yg g= .tup [.str v,.bool b]/\((∃w,g=some w/\v=w/\b=true)\/(g=none/\v=[]/\b=false)):=by
 cases g with
 |none=>exact⟨_,_,rfl,.inr ⟨rfl,rfl,rfl⟩⟩
 |some v=>exact⟨_,_,rfl,.inl ⟨v,rfl,rfl,rfl⟩⟩
def avI(a b:ae):(some a==some b)=(a==b):=rfl
variable{lc:Ag.Loc}{N:Fr->St->Prop}{xb:Nat}{o:Obj}{s:St}{e:aw}
def atX{x:aG}(t:ac e 1= .ptr xb 0)(z:ac e 3= .Ge 3 1 0)(A:lc.get 3 1=some o.cells)(g3:lc.gen 3=1)(w:s.get [] xb=some (.cells x.cells))(y: ∀h,ac h 19= .bool (cA x o)->ac h 1= .ptr xb 0->ac h 2=ac e 2->ac h 3= .Ge 3 1 0->N ⟨h,84,lc⟩ s):WV Q 298 uS ⟨e,84,lc⟩ s N:=by
 unfold cA at y;simp only[aG.cells] at w;simp only[Obj.cells] at A;cases hz:an x.uP 0 with
 |true=>
  simp only[go_sem,seval,uS,tt,uT,t,w,aP,aQ,hz];refine y _ ?_ ?_ ?_ ?_
  all_goals simp only[sN,seval,t,z,hz,jp,dA]
 |false=>
  simp only[go_sem,seval,uS,tt,uT,t,z,A,g3,w,aP,aQ,hz];refine y _ ?_ ?_ ?_ ?_
  all_goals simp only[sN,seval,t,z,hz,kp,en]
def atZ{x:aG}(h:ac e 1= .ptr xb 0)(F:ac e 3= .Ge 3 1 0)(D:(∃v,gz x.ifK o.gT=some v/\ac e 5= .str v/\ac e 6= .bool true)\/(gz x.ifK o.gT=none/\ac e 5= .str []/\ac e 6= .bool false))(w:s.get [] xb=some (.cells x.cells))(y: ∀t,ac t 43= .bool (cB x o)->ac t 1= .ptr xb 0->ac t 2=ac e 2->ac t 3= .Ge 3 1 0->N ⟨t,84,lc⟩ s):WV Q 298 uT ⟨e,84,lc⟩ s N:=by
 unfold cB at y;simp only[aG.cells] at w;cases hz:x.ifK== [] with
 |true=>
  simp only[go_sem,seval,uS,tt,uT,h,w,aP,aQ,hz];refine y _ ?_ ?_ ?_ ?_
  all_goals simp only[sN,seval,h,F,hz,jp,dA]
 |false=>
  rcases D with⟨v,z,E,A⟩|⟨z,E,A⟩
  ·simp only[go_sem,seval,uS,tt,uT,h,E,A,w,aP,aQ,hz]
   refine y _ ?_ ?_ ?_ ?_
   all_goals simp only[sN,seval,h,F,hz,z,avI,kp,en]
  ·simp only[go_sem,seval,uS,tt,uT,h,E,A,w,aP,aQ,hz]
   refine y _ ?_ ?_ ?_ ?_
   all_goals simp only[sN,seval,h,F,hz,z,kp,en]
   all_goals rfl
variable{mb:Nat}{ov:aa}
def atY(h:Q.spec 299=some tm)(D:ax 6 Obj.val ov l)(I: ∀o∈l,o.Al)(J:mp l=true){x:aG}{k:Bool}(E:ac e 1= .ptr xb 0)(O:ac e 2= .ptr mb 0)(M:ac e 3= .Ge 3 1 0)(A:lc.get 3 1=some o.cells)(g3:lc.gen 3=1)(z:ac e 9= .bool k)(t:s.get [] xb=some (.cells x.cells))(G:s.get [] mb=some (.cells [ov]))(y: ∀F,ac F 4= .bool (!k&&((x.area== [])||nZ l o.id x.area))->N ⟨F,84,lc⟩ s):WV Q 298 tt ⟨e,84,lc⟩ s N:=by
 simp only[aG.cells] at t;simp only[Obj.cells] at A;have w:=D.ge;have q:=amr D I J o.id x.area;cases k with
 |true=>
  simp only[go_sem,seval,uS,tt,uT,z];refine y _ ?_;simp only[iV,ai,cT,jp,dA]
 |false=>
  cases hz:x.area== [] with
  |true=>
   simp only[go_sem,seval,uS,tt,uT,E,z,t,aP,aQ,hz];refine y _ ?_;simp only[iV,ai,cT,hz,kp,en,gZ]
  |false=>
   simp only[go_sem,seval,uS,tt,uT,E,O,M,A,g3,z,t,G,aP,aQ,FX,hz,w,h,q];refine y _ ?_;simp only[iV,ai,cT,hz,kp,en,hZ]
def afU(h:Q.spec 214=some mq)(a4:Q.spec 130=some pm)(a0:Q.spec 299=some tm)(a8:No Q 298)(ho:ax 6 Obj.val ov l)(hg: ∀o∈l,o.Al)(hf:mp l=true){x:aG}(ok:x.Ok)(go:o.Al)(ht:o.gT.length<=1000000)(hx:s.get [] xb=some (.cells x.cells))(hm:s.get [] mb=some (.cells [ov])):aq Q 298 [o.val,.ptr xb 0,.ptr mb 0] s (.bool (ky l x o)) s:=by
 have S:=go.all;have vc:=ok.vals.ge;have q1:=Nd go.gT ht x.ifK;have V:=Nd go.gT ht x.key;have M:=ahq x o;have l1:Ag.Loc.get (Ag.Loc.set [] 3 1 o.cells) 3 1=some o.cells:=rfl;have I:Ag.Loc.gen (Ag.Loc.set [] 3 1 o.cells) 3=1:=rfl;obtain⟨lc,J⟩:=bZ (Ag.Loc.set [] 3 1 o.cells);rw[J] at l1 I;have y:=l1;simp only[Obj.cells] at J y;have z:=hx;simp only[aG.cells] at z;refine aq.ofNZ aou (bT ?_);simp only[go_sem,seval,Obj.val,Obj.cells,S,J];refine atX (x:=x) (o:=o) ?_ ?_ l1 I hx ?_;simp only[sN,seval];simp only[sN,seval];intro O G a1 a2 a3;simp only[sN,seval] at a2;cases bA:cA x o with
 |true=>
  have hb:ky l x o=false:=by unfold ky;rw[M,bA];rfl
  rw[bA] at G;simp only[go_sem,seval,G,hb]
 |false=>
  rw[bA] at G;obtain⟨v5,b6,a6,a7⟩:=V4 (gz x.ifK o.gT);rw[a6] at q1;simp only[go_sem,seval,G,a1,a3,y,I,z,aP,aQ,S,h,q1,ew,gi,iJ];refine atZ (x:=x) (o:=o) ?_ ?_ ?_ hx ?_;simp only[sN,seval,a1];simp only[sN,seval,a3];rcases a7 with⟨w,O,rfl,rfl⟩|⟨O,rfl,rfl⟩
  exact .inl ⟨_,O,by simp only[sN,seval],by simp only[sN,seval]⟩;exact .inr ⟨O,by simp only[sN,seval],by simp only[sN,seval]⟩;intro e2 t D R A;simp only[sN,seval,a2] at R;cases bB:cB x o with
  |true=>
   have hb:ky l x o=false:=by unfold ky;rw[M,bB,jp,gh];rfl
   rw[bB] at t;simp only[go_sem,seval,t,hb]
  |false=>
   rw[bB] at t;have fin: ∀T,ac T 1= .ptr xb 0->ac T 2= .ptr mb 0->ac T 3= .Ge 3 1 0-> ∀k,k=uV x o->ac T 9= .bool k-> ∀N:Fr->St->Prop,(∀e2,ac e2 4= .bool (ky l x o)->N ⟨e2,84,lc⟩ s)->WV Q 298 tt ⟨T,84,lc⟩ s N:=fun T D R A k E c9 N hN=>by
    refine atY a0 ho hg hf D R A l1 I c9 hx hm fun e2 F=>hN e2 ?_;rw[F,E];unfold ky;rw[M,bA,bB];rfl
   obtain⟨v7,b8,a5,Z⟩:=V4 (gz x.key o.gT);rw[a5] at V;have Y:(gz x.key o.gT).isNone= !b8/\(gz x.key o.gT).isSome=b8:=by
    rcases Z with⟨w,O,rfl,rfl⟩|⟨O,rfl,rfl⟩<;>rw[O]<;>exact⟨rfl,rfl⟩
   cases e3:an x.op 3 with
   |true=>
    have E:(!b8)=uV x o:=by unfold uV;rw[e3,cT,Y.1]
    simp only[go_sem,seval,t,D,A,y,I,z,aP,aQ,S,h,V,ew,e3,gi,iJ];refine fin _ ?_ ?_ ?_ _ E ?_ _ ?_
    any_goals simp only[sN,seval,D,R,A]
    intro e4 F;simp only[go_sem,seval,F]
   |false=>
    cases e2':an x.op 2 with
    |false=>
     have E:b8=uV x o:=by unfold uV;rw[e3,e2',cF,cF,Y.2]
     simp only[go_sem,seval,t,D,A,y,I,z,aP,aQ,S,h,V,ew,e3,e2',gi,iJ];refine fin _ ?_ ?_ ?_ _ E ?_ _ ?_
     any_goals simp only[sN,seval,D,R,A]
     intro e4 F;simp only[go_sem,seval,F]
    |true=>
     rcases Z with⟨w,f1,rfl,rfl⟩|⟨f1,rfl,rfl⟩
     ·have E:x.values.contains v7=uV x o:=by unfold uV;rw[e3,e2',cF,cT,f1]
      have q3:=Mi ok.vals ok.len v7;simp only[go_sem,seval,t,D,A,y,I,z,aP,aQ,S,vc,h,V,ew,e3,e2',a4,q3,gi,iJ];refine fin _ ?_ ?_ ?_ _ E ?_ _ ?_
      any_goals simp only[sN,seval,D,R,A]
      intro e4 F;simp only[go_sem,seval,F]
     ·have E:true=uV x o:=by unfold uV;rw[e3,e2',cF,cT,f1]
      simp only[go_sem,seval,t,D,A,y,I,z,aP,aQ,S,h,V,ew,e3,e2',gi,iJ];refine fin _ ?_ ?_ ?_ _ E ?_ _ ?_
      any_goals simp only[sN,seval,D,R,A]
      intro e4 F;simp only[go_sem,seval,F]
def oL(f:Nat×ae):aa:=.agg [aM f.1,.str f.2]
def Hq(l:List Obj)(k:Nat)(x:aG):List (Nat×ae):=(l.filter (ky l x)).map fun o=>(k,o.id)
def pq(l:List Obj):Nat->List aG->List (Nat×ae)
 |_,[]=>[]
 |k,x::r=>Hq l k x++pq l (k+1) r
def MX(l:List Obj): ∀(r:List aG) (k:Nat),(pq l k r).length<=r.length*l.length
 | [],_=>jW _
 |x::r,k=>by
  have:=MX l r (k+1);have h:=kE (ky l x) l;simp only[pq,Hq,cD,bP,dM,mS];omega
def afT(t:No Q 217)(A:ax 6 Obj.val ov l){x:aG}(w:x.Ok)(s:St):aq Q 217 [.agg [ov],x.val] s (.func (.func 298) [] [.ptr (s.aL+1) 0,.ptr s.aL 0]) ((s.new (.cells [ov])).new (.cells x.cells)):=by
 have h:=A.cs;have y:=w.vals.ge;have vs:=w.vals.scal;have z:(s.new (.cells [ov])).aL=s.aL+1:=rfl;refine aq.ofNZ anx (bT ?_);simp only[go_sem,seval,h,aG.val,aG.cells,y,vs,z,bj,bc,aX,aZ,evc]
variable{K:Ex->Fr->St->Prop}{lo:Nat}{rv:aa}
def ai8(b3:Q.spec 214=some mq)(b4:Q.spec 130=some pm)(b2:Q.spec 299=some tm)(V:No Q 298)(ho:ax 6 Obj.val ov l)(hg: ∀o∈l,o.Al)(hf:mp l=true)(ht: ∀o∈l,o.gT.length<=1000000){x:aG}(ok:x.Ok){k nr:Nat}{bse:List (Nat×ae)}(c4:bse.length+l.length<=900000){s0:St}(Z:s0.get [] xb=some (.cells x.cells))(a9:s0.get [] mb=some (.cells [ov]))(xl:xb<s0.aL)(ml:mb<s0.aL)(hx: ∀e lc s E,cP 2 lo s E ((bse++Hq l k x).map oL)->oz s0 s->lo<=s.aL->(∀k,k<lo->s.get [] k=s0.get [] k)->ac e 1=rv->ac e 2= .Ge 2 1 0->lc.get 2 1=some [ov]->lc.gen 2=1->ac e 5=E->ac e 19=rv->ac e 20=aM nr->ac e 21=aM k->K (.exit 2) ⟨e,49,lc⟩ s):
 ∀(w h:List Obj) (e:aw) (lc:Ag.Loc) (s:St) (E:aa),l=h++w->cP 2 lo s E ((bse++(h.filter (ky l x)).map fun o=>(k,o.id)).map oL)->oz s0 s->lo<=s.aL->(∀k,k<lo->s.get [] k=s0.get [] k)->ac e 1=rv->ac e 2= .Ge 2 1 0->lc.get 2 1=some [ov]->lc.gen 2=1->ac e 5=E->ac e 6=aM k->ac e 8= .func (.func 298) [] [.ptr xb 0,.ptr mb 0]->ac e 19=rv->ac e 20=aM nr->ac e 21=aM k->ac e 30=ov->ac e 31=aM l.length->ac e 32=aM h.length->W Q 124 (.loop Nz) ⟨e,49,lc⟩ s K:=by
 intro w
 induction w with
 |nil=>
  intro h e lc s E S T D F G r1 r2 l2 g2 h5 h6 h8 O M J I A z;have c1:h.length=l.length:=by rw[S];simp
  have b7:h=l:=by rw[S];simp
  refine bq ?_;simp only[go_sem,seval,Nz,A,z,c1,cq];rw[b7] at T;refine hx _ _ _ E T D F G ?_ ?_ l2 g2 ?_ ?_ ?_ ?_
  all_goals simp only[sN,seval,r1,r2,h5,O,M,J]
 |cons o w ih=>
  intro h e lc s E S T D F G r1 r2 l2 g2 h5 h6 h8 O M J I A z;have c0:h.length<l.length:=by rw[S];simp
  have b1:l[h.length]? =some o:=by rw[S];simp
  have a8:=dB b1;have go:=hg o a8;have rc:=go.all;have c2:=fun lc k=>ho.at fD.2.2.1 b1 lc k;have c3:l.length<=900:=(oM.1 hf).len;have a0:=dg (n:=h.length) (by omega);have b6:=(D.old xb xl (by rw[Z];simp)).trans Z;have b8:=(D.old mb ml (by rw[a9];simp)).trans a9;have R:=afU b3 b4 b2 V ho hg hf ok go (ht o a8) (s:=s) b6 b8;simp only[Obj.val,Obj.cells] at R;have Y:=T.ge;have b0:(bse++(h.filter (ky l x)).map fun o=>(k,o.id)).length<=900000:=by
   rw[cD,bP]
   have:=kE (ky l x) h;omega
  refine bq ?_;simp only[go_sem,seval,Nz,h8,I,A,z,c0,c2,Obj.val,Obj.cells,rc];refine ct.of R (by decide) ?_;cases hb:ky l x o with
  |false=>
   simp only[go_sem,seval,z,a0];refine ih (h++[o]) _ _ s E (by rw[S];simp) (by rw[pn hb];exact T) D F G ?_ ?_ ?_ ?_ ?_ ?_ ?_ ?_ ?_ ?_ ?_ ?_ ?_
   all_goals simp only[sL,seval,r1,r2,l2,g2,h5,h6,h8,O,M,J,I,A,sA]
  |true=>
   obtain⟨b5,s1,a1,a2,a3,a4,a5,a6,a7⟩:=Bx (t:=184) J2.1 rfl (by decide) (s:=s) (y:=.list 2 [oL (k,o.id)] .GE) (x:=oL (k,o.id)) T (by simp only[fH,em]) (by rw[bP];exact b0) F D.mw;simp only[oL] at a1;simp only[go_sem,seval,h5,h6,Y,bj,bc,aX,aZ,evc];simp only[go_sem,seval,h5,z,a0,Y,a1,a3,bj,bc,aX,aZ,evc];refine ih (h++[o]) _ _ s1 b5 (by rw[S];simp) (by
    have e:(bse++((h++[o]).filter (ky l x)).map fun o=>(k,o.id)).map oL=(bse++(h.filter (ky l x)).map fun o=>(k,o.id)).map oL++[oL (k,o.id)]:=by rw[uJ hb];simp
    rw[e];exact a2) (D.app a4 a5 a6) (by omega) (fun k D=>(a7 k D).trans (G k D)) ?_ ?_ ?_ ?_ ?_ ?_ ?_ ?_ ?_ ?_ ?_ ?_ ?_
   all_goals simp only[sL,seval,r1,r2,l2,g2,h6,h8,O,M,J,I,A,sA]
def ajm(a1:Q.spec 214=some mq)(a2:Q.spec 130=some pm)(a0:Q.spec 299=some tm)(R:No Q 298)(S:No Q 217)(ho:ax 6 Obj.val ov l)(hg: ∀o∈l,o.Al)(hf:mp l=true)(ht: ∀o∈l,o.gT.length<=1000000){rl:List aG}(a6:ax 8 aG.val rv rl)(ok: ∀x∈rl,x.Ok)(a5:rl.length<=200){s9:St}(hx: ∀e lc s D,cP 2 lo s D ((pq l 0 rl).map oL)->s.gt<=s.aL->lo<=s.aL->(∀k,k<lo->s.get [] k=s9.get [] k)->ac e 5=D->K (.exit 0) ⟨e,49,lc⟩ s):
 ∀(y t:List aG) (e:aw) (lc:Ag.Loc) (s:St) (D:aa) (w:List (Nat×ae)),rl=t++y->w++pq l t.length y=pq l 0 rl->cP 2 lo s D (w.map oL)->lo<=s.aL->s.gt<=s.aL->(∀k,k<lo->s.get [] k=s9.get [] k)->ac e 1=rv->ac e 2= .Ge 2 1 0->lc.get 2 1=some [ov]->lc.gen 2=1->ac e 5=D->ac e 19=rv->ac e 20=aM rl.length->ac e 21=aM t.length->W Q 124 (.loop NA) ⟨e,49,lc⟩ s K:=by
 have b0:l.length<=900:=(oM.1 hf).len;have c7:(pq l 0 rl).length<=200*900:=eG (MX l rl 0) (qZ a5 b0);have Y:=ho.ge;have a9:=ho.lenS fD;intro y
 induction y with
 |nil=>
  intro t e lc s D w h1 O hO V I h9 r1 r2 l2 g2 h5 J G F;have b1:t.length=rl.length:=by rw[h1];simp
  refine bq ?_;simp only[go_sem,seval,NA,G,F,b1,cq];have O:w=pq l 0 rl:=by rw[<-O];exact(nD w).symm
  subst O;exact hx _ _ _ D hO I V h9 (by simp only[sN,seval,h5])
 |cons x y ih=>
  intro t e lc s D w h1 O hO V I h9 r1 r2 l2 g2 h5 J G F;have a8:t.length<rl.length:=by rw[h1];simp
  have Z:rl[t.length]? =some x:=by rw[h1];simp
  have E:=ok x (dB Z);have vc:=E.vals.ge;have vs:=E.vals.scal;have b3:=fun lc k=>a6.at pS.2.2.1 Z lc k;have a4:=dg (n:=t.length) (by omega);have b4:w.length+l.length<=900000:=by
   have:=congrArg List.length O;rw[cD] at this;omega
  have A:=afT S ho E s;obtain⟨z,M⟩:=bZ ((s.new (.cells [ov])).new (.cells x.cells));have nn:(s.new (.cells [ov])).aL=s.aL+1:=rfl;have zn:z.aL=s.aL+2:=by rw[<-M];rfl
  have zo: ∀k,k<s.aL->z.get [] k=s.get [] k:=fun k hk=>by rw[<-M,ck (by omega),ck hk]
  have zm:z.gt<=z.aL:=by rw[<-M];exact bU (bU I)
  have z0:z.get [] s.aL=some (.cells [ov]):=by rw[<-M,ck (by omega)];exact cG
  have z1:z.get [] (s.aL+1)=some (.cells x.cells):=by rw[<-M,<-nn];exact cG
  rw[M] at A;simp only[aG.val,aG.cells] at A;have b6:cP 2 lo z D ((w++(([]:List Obj).filter (ky l x)).map fun o=>(t.length,o.id)).map oL):=by
   have e:(w++(([]:List Obj).filter (ky l x)).map fun o=>(t.length,o.id))=w:=by simp
   rw[e];rcases hO with h|⟨q1,k,q2,q3,q4,q5⟩
   exact .inl h;exact .inr ⟨q1,k,q2,(zo k q5).trans q3,q4,by omega⟩
  refine bq ?_;simp only[go_sem,seval,NA,r2,l2,g2,J,G,F,a8,b3,aG.val,aG.cells,vc,vs,Y];refine ct.of A (by decide) ?_;simp only[go_sem,seval,r2,l2,g2,a9,Y];refine ai8 a1 a2 a0 R ho hg hf ht E (rv:=rv) (xb:=s.aL+1) (mb:=s.aL) (lo:=lo) (k:=t.length) (nr:=rl.length) (bse:=w) b4 (s0:=z) z1 z0 (by omega) (by omega) ?_ l [] _ _ z D rfl b6 (.refl zm) (by omega) (fun _ _=>rfl) ?_ ?_ ?_ ?_ ?_ ?_ ?_ ?_ ?_ ?_ ?_ ?_ ?_
  ·intro e1 c6 s1 a3 b5 b2 T a7 c1 c2 b7 b8 c5 c4 c3 c0
   simp only[go_sem,seval,c0,a4];refine ih (t++[x]) _ _ s1 a3 (w++Hq l t.length x) (by rw[h1];simp) ?_ b5 T b2.mw (fun k hk=>(a7 k hk).trans ((zo k (by omega)).trans (h9 k hk))) ?_ ?_ ?_ ?_ ?_ ?_ ?_ ?_;rw[<-O,lV,cD];rfl
   all_goals simp only[sL,seval,c1,c2,b7,b8,c5,c4,c3,sA]
  all_goals simp only[sL,seval,r1,r2,l2,g2,h5,J,G,F,cV]
  all_goals rfl
def aiY(t:Q.spec 216=some AW)(a0:Q.spec 31=some jh)(F:Q.spec 214=some mq)(G:Q.spec 130=some pm)(E:Q.spec 299=some tm)(w:No Q 298)(y:No Q 217)(a1:No Q 124)(J:ax 6 Obj.val ov l)(hg: ∀o∈l,o.Al)(Z:mp l=true)(ht: ∀o∈l,o.gT.length<=1000000){rl:List aG}(h:ax 8 aG.val rv rl)(ok: ∀x∈rl,x.Ok)(R:rl.length<=1000000)(hm:s.gt<=s.aL):
 ∃v z,aq Q 124 [.agg [ov],rv] s v z/\(ax 2 oL v (bif ol rl then pq l 0 rl else [])/\z.gt<=z.aL/\s.aL<=z.aL/\ ∀k,k<s.aL->z.get [] k=s.get [] k):=by
 have a2:=i6;have a3:l.length<=900:=(oM.1 Z).len;have hv:cZ l=true:=(oM.1 Z).valid;have D:=J.cs;have a4:=Ch J;have A:=h.ge;have O:=h.lenS pS;have I:=auW h ok R;have q2:=AA J hg (by omega);rw[hv] at q2;refine aq.ofNRZ amB (bT ?_);cases hr:ol rl with
 |false=>
  rw[hr] at I;simp only[go_sem,seval,D,A,t,I];exact⟨_,rfl,.inl ⟨rfl,rfl⟩,hm,fun _ _=>trivial⟩
 |true=>
  have S:rl.length<=200:=by
   unfold ol at hr;simp only[bm,dE] at hr;exact hr.1
  rw[hr] at I;simp only[go_sem,seval,D,A,O,t,I,a0,q2];refine ajm F G E w y J hg Z ht h ok S (lo:=s.aL) (s9:=s) ?_ rl [] _ _ s .AL [] rfl rfl (.inl ⟨rfl,rfl⟩) (bk _) hm (fun _ _=>rfl) ?_ ?_ ?_ ?_ ?_ ?_ ?_ ?_;intro e lc s1 tv hO V Y T h5;have M:=hO.ge;simp only[go_sem,seval,h5,M];exact⟨_,rfl,hO.isL,V,Y,T⟩
  all_goals simp only[aW,nQ,ai,bG,cV]
  all_goals rfl
def xS(l:List Obj)(rl:List aG)(o:Obj):Bool:=ol rl&&rl.any fun x=>x.strict&&ky l x o
def JT(l:List Obj)(rl:List aG):List aa:=(l.filter (xS l rl)).map fun o=>eL 7 [o.id]
def zj(l:List Obj)(rl:List aG):aa:=io 3 (JT l rl)
theorem Ja{l:List Obj}{f:Nat×ae}: ∀ {r:List aG} {k:Nat},f∈pq l k r↔ ∃j x,f.1=k+j/\r[j]? =some x/\ ∃o∈l,o.id=f.2/\ky l x o=true
 | [],k=>by simp[pq]
 |x::r,k=>by
  rw[pq,jb,Ja (r:=r)];constructor;rintro(h|⟨j,y,z,t,w⟩);obtain⟨o,E,rfl⟩:=cx.1 h
  grind
  exact⟨j+1,y,by omega,by simpa using t,w⟩;rintro⟨j,y,z,t,o,w,D,A⟩;cases j with
  |zero=>
   simp only[gi,aH] at t;subst t;refine .inl (cx.2 ⟨o,kV.2 ⟨w,A⟩,?_⟩);rw[D];exact Prod.ext z.symm rfl
  |succ j=>grind
def Gj(rl:List aG)(i:Nat):Bool:=match rl[i]? with|some x=>x.strict|none=>false
def wy(rl:List aG)(h:List (Nat×ae))(k:ae):Bool:=h.any fun f=>Gj rl f.1&&f.2==k
theorem afr(h:(l.map Obj.id).Nodup){rl:List aG}(y:o∈l):wy rl (bif ol rl then pq l 0 rl else []) o.id=xS l rl o:=by
 unfold wy xS;cases ol rl with
 |false=>rfl
 |true=>
  rw[cT,en,xj];simp only[List.any_eq_true,bm,bE];constructor;rintro⟨f,F,t,w⟩;obtain⟨j,x,A,I,q,E,G,M⟩:=Ja.1 F;rw[eH] at A;unfold Gj at t;rw[A,I] at t;have J:q=o:=by
   have a:=CR h E;have b:=CR h y;rw[G,w,b] at a;exact(sI a).symm
  grind
  rintro⟨x,D,t,w⟩;obtain⟨j,z⟩:=t7 D;refine⟨(j,o.id),Ja.2 ⟨j,x,by simp,z,o,y,rfl,w⟩,?_,rfl⟩;unfold Gj;rw[z];exact t
variable{a:Nat}
theorem at4{fv:aa}{rl:List aG}(I:ax 8 aG.val rv rl)(ok: ∀x∈rl,x.Ok){w:List (Nat×ae)}(a1:ax 2 oL fv w)(a5:w.length<=900000)(a2: ∀f∈w,f.1<rl.length){s0:St}(hx: ∀e lc s B,ac e 2= .Ge 2 1 0->lc.get 2 1=some [ov]->lc.gen 2=1->ac e 5= .map a->dn a s0 s->bJ aa.str s a B->(∀k,(cu k B).getD (.bool false)= .bool (wy rl w k))->K (.exit 0) ⟨e,50,lc⟩ s):
 ∀(t h:List (Nat×ae)) (e:aw) (lc:Ag.Loc) (s:St) (B:List (ae×aa)),w=h++t->dn a s0 s->bJ aa.str s a B->(∀k,(cu k B).getD (.bool false)= .bool (wy rl h k))->
  ac e 1=rv->ac e 2= .Ge 2 1 0->lc.get 2 1=some [ov]->lc.gen 2=1->ac e 5= .map a->ac e 14=fv->ac e 15=aM w.length->ac e 16=aM h.length->W Q 57 (.loop IP) ⟨e,50,lc⟩ s K:=by
 intro t
 induction t with
 |nil=>
  intro h e lc s B D S T hB V r2 l2 g2 h5 A z y;have a0:h.length=w.length:=by rw[D];simp
  have Z:h=w:=by rw[D];simp
  refine bq ?_;simp only[go_sem,seval,IP,z,y,a0,cq];rw[Z] at hB;exact hx _ _ _ B (by simp only[sN,seval,r2]) l2 g2 (by simp only[sN,seval,h5]) S T hB
 |cons f t ih=>
  intro h e lc s B D S T hB V r2 l2 g2 h5 A z y;have J:h.length<w.length:=by rw[D];simp
  have R:w[h.length]? =some f:=by rw[D];simp
  have O:=fun lc k=>a1.at J2.2.2.1 R lc k;have G:=dg (n:=h.length) (by omega);obtain⟨x,F⟩: ∃x,rl[f.1]? =some x:=⟨_,fE (a2 f (dB R))⟩;have M:=fun lc k=>I.at pS.2.2.1 F lc k;have E:=I.ge;have a4:Gj rl f.1=x.strict:=by unfold Gj;rw[F]
  have a3: ∀k,wy rl (h++[f]) k=(wy rl h k||(x.strict&&f.2==k)):=fun k=>by
   simp_all [wy]
  cases hst:x.strict with
  |false=>
   refine bq ?_;simp only[go_sem,seval,IP,oL,V,A,z,y,J,O,M,G,E,aG.val,aG.cells,hst];refine ih (h++[f]) _ _ s B (by rw[D];simp) S T (fun k=>by grind) ?_ ?_ ?_ ?_ ?_ ?_ ?_ ?_
   all_goals simp_all [sL]
  |true=>
   have Y:=vz im wN T f.2 (.bool true);refine bq ?_;simp only[go_sem,seval,IP,oL,V,h5,A,z,y,J,O,M,G,E,aG.val,aG.cells,hst,Y];refine ih (h++[f]) _ _ _ (ee f.2 (.bool true) B) (by rw[D];simp) (S.put _) bJ.put (fun k=>?_) ?_ ?_ ?_ ?_ ?_ ?_ ?_ ?_
   grind [Pn]
   all_goals simp_all [sL]
variable{B:List (ae×aa)}
theorem auL(ho:ax 6 Obj.val ov l)(hl:l.length<=900000){g:ae->Bool}(al:a<lo){s0:St}(hM:bJ aa.str s0 a B)(hB: ∀k,(cu k B).getD (.bool false)= .bool (g k))(hx: ∀e lc s E,cP 3 lo s E ((l.filter fun o=>g o.id).map fun o=>eL 7 [o.id])->ac e 8=E->K (.exit 2) ⟨e,50,lc⟩ s):
 ∀(w h:List Obj) (e:aw) (lc:Ag.Loc) (s:St) (E:aa),l=h++w->cP 3 lo s E ((h.filter fun o=>g o.id).map fun o=>eL 7 [o.id])->(∀k,k<lo->s.get [] k=s0.get [] k)->lo<=s.aL->s.gt<=s.aL->ac e 5= .map a->ac e 8=E->ac e 31=ov->ac e 32=aM l.length->ac e 33=aM h.length->W Q 57 (.loop IQ) ⟨e,50,lc⟩ s K:=by
 intro w
 induction w with
 |nil=>
  intro h e lc s E M V F J I Z Y G D A;have a9:h.length=l.length:=by rw[M];simp
  have a8:h=l:=by rw[M];simp
  refine bq ?_;simp only[go_sem,seval,IQ,D,A,a9,cq];rw[a8] at V;exact hx _ _ _ E V (by simp only[sN,seval,Y])
 |cons o w ih=>
  intro h e lc s E M V F J I Z Y G D A;have S:h.length<l.length:=by rw[M];simp
  have b0:l[h.length]? =some o:=by rw[M];simp
  have T:=fun lc k=>ho.at fD.2.2.1 b0 lc k;have R:=dg (n:=h.length) (by omega);have b1:bJ aa.str s a B:=(F a al).trans hM;have z:=qC im wN DE b1 o.id;rw[hB] at z;have O:=V.ge;cases hg:g o.id with
  |false=>
   rw[hg] at z;refine bq ?_;simp only[go_sem,seval,IQ,Z,G,D,A,S,T,R,Obj.val,Obj.cells,z];refine ih (h++[o]) _ _ s E (by rw[M];simp) (by grind) F J I ?_ ?_ ?_ ?_ ?_
   all_goals simp_all [sN]
  |true=>
   rw[hg] at z;obtain⟨a0,s1,a1,a2,a3,a4,a5,a6,a7⟩:=Bx (t:=35) jn.1 rfl (by decide) (s:=s) (y:=.list 3 [eL 7 [o.id]] .GE) (x:=eL 7 [o.id]) V (by simp only[fH,em]) (by
    grind) J I
   simp only[eL,eA,t8,aA] at a1;refine bq ?_;simp only[go_sem,seval,IQ,aA,Z,Y,G,D,A,S,T,Obj.val,Obj.cells,z,O,bj,bc,aX,aZ,evc];simp only[go_sem,seval,aA,Y,A,R,O,a1,a3,bj,bc,aX,aZ,evc];refine ih (h++[o]) _ _ s1 a0 (by rw[M];simp) (by grind) (fun k hk=>(a7 k hk).trans (F k hk)) (by omega) a5 ?_ ?_ ?_ ?_ ?_
   all_goals simp only[sN,seval,Z,G,D,sA]
theorem agH(M:Q.spec 216=some AW)(a9:Q.spec 31=some jh)(O:Q.spec 214=some mq)(R:Q.spec 130=some pm)(J:Q.spec 299=some tm)(D:No Q 298)(E:No Q 217)(F:No Q 124)(b2:No Q 57)(A:ax 6 Obj.val ov l)(hg: ∀o∈l,o.Al)(hf:mp l=true)(ht: ∀o∈l,o.gT.length<=1000000){rl:List aG}(w:ax 8 aG.val rv rl)(ok: ∀x∈rl,x.Ok)(a2:rl.length<=1000000)(hm:s.gt<=s.aL):
 ∃v s',aq Q 57 [.agg [ov],rv] s v s'/\gm s'.heap v (zj l rl):=by
 have a6:l.length<=900:=(oM.1 hf).len;have a4:=qA (oM.1 hf).valid;have I:=A.cs;have a5:=A.lenS fD;have a0:=w.ge;obtain⟨S,y⟩:=bZ ((bif ol rl then pq l 0 rl else []));have a7:S.length<=900000:=by
  rw[<-y];cases hr:ol rl with
  |false=>simp
  |true=>
   have a3:rl.length<=200:=by
    unfold ol at hr;simp only[bm,dE] at hr;exact hr.1
   have:=eG (MX l rl 0) (qZ a3 a6);rw[cT];omega
 have a8: ∀f∈S,f.1<rl.length:=fun f h=>by
  grind [Ja]
 obtain⟨z,V⟩:=bZ (s.new (.map [] 0));have zn:z.aL=s.aL+1:=by rw[<-V];rfl
 have zm:z.gt<=z.aL:=by rw[<-V];exact bU hm
 have za:bJ aa.str z s.aL []:=by rw[<-V];exact cG
 have T:=aiY M a9 O R J D E F A hg hf ht w ok a2 zm;refine aq.ofNRZ apo (bT ?_);simp only[go_sem,seval,I,a0,mz,V,bj,bc,aX,aZ,evc];refine ct.ex T (by decide) ?_;rintro fv s1 ⟨t,m1,n1,o1⟩;rw[y] at t;have b1:=t.ge;have b0:=t.lenS J2;have a1:bJ aa.str s1 s.aL []:=(o1 _ (by omega)).trans za;simp only[go_sem,seval,b1,b0];refine at4 w ok t a7 a8 (a:=s.aL) (s0:=s1) (ov:=ov) ?_ S [] _ _ s1 [] rfl (.refl m1) a1 (fun k=>rfl) ?_ ?_ ?_ ?_ ?_ ?_ ?_ ?_
 ·intro e lc Z B r2 l2 g2 h5 hb hM hB
  have n2:=hb.aL;simp only[go_sem,seval,r2,l2,g2,I,a5];refine auL A (by omega) (g:=wy rl S) (a:=s.aL) (lo:=Z.aL) (by omega) (s0:=Z) hM hB ?_ l [] _ _ Z .AL rfl (.inl ⟨rfl,rfl⟩) (fun _ _=>rfl) (bk _) hb.mw ?_ ?_ ?_ ?_ ?_;intro e3 b3 s3 tv hO h8;have Y:=hO.ge;have G:(l.filter fun o=>wy rl S o.id)=l.filter (xS l rl):=List.filter_congr fun o A=>by rw[<-y];exact afr a4 A
  rw[G] at hO;simp only[go_sem,seval,h8,Y];refine⟨_,rfl,4,B7 hO fun v hv=>?_⟩;obtain⟨i,_,rfl⟩:=cx.1 hv;exact Et _ _ _
  all_goals simp_all [sN]
 all_goals simp only[aW,nQ,ai,bG,cV]
 all_goals rfl
def S4:dp:=[(216,AW),(31,jh),(214,mq),(130,pm),(299,tm)]
def aez:du S4:=.cons auX (.cons wI (.cons V0 (.cons Vc (.cons ams .nil))))
theorem awK(h:cZ l=true): ∀o∈l,o.gT.length<=1000000:=fun o t=>by
 grind [cZ,PU,lR]
def yX:Sp
 | [v,r]=>(lG v).bind fun l=>(vV r).bind fun rl=>bif mp l then some (zj l rl) else none
 |_=>none
def auU:cQ ah 57 yX:=by
 intro args u t G h w xs R T;unfold yX at t;split at t;rename_i Z r;simp only[aj] at t;obtain⟨l,I,rl,y,t⟩:=t;obtain⟨O,t⟩:=aY t;have t:=sI t;subst t;obtain⟨v,rfl,I,M,hs⟩:=rj I;obtain⟨y,J,E⟩:=Ln y;obtain⟨V,S,A,F⟩:=qK I M;obtain⟨D,z⟩:=QL y J;have A:dz [.agg [v],r]=[.agg [S],cW r]:=by simp only[dz,A]
 refine jo aez (W:=[]) .nil (args:=[.agg [v],r]) (by simp only[ei,V,D,bW]) (fun Y=>?_) G h w xs R T;rw[A];exact agH (Q:=QW S4 [] Y) rfl rfl rfl rfl rfl ⟨rfl,rfl⟩ ⟨rfl,rfl⟩ ⟨rfl,rfl⟩ ⟨rfl,rfl⟩ F M O (awK (oM.1 O).valid) z J E (by decide);cases t
def sa(o:Obj):ae×Bool:=match gz y8 o.gT with|some v=>(v,jA v)|none=>([],false)
def aaU(h:gz y8 o.gT=none):sa o=([],false):=by unfold sa;rw[h]
def aaV{v:ae}(h:gz y8 o.gT=some v):sa o=(v,jA v):=by unfold sa;rw[h]
def amn(name:ae)(o:Obj):yu name o=(!(sa o).2||(sa o).1==name):=by
 unfold yu adp;cases h:gz y8 o.gT with
 |none=>rw[aaU h];rfl
 |some v=>
  rw[aaV h];simp only[bg];cases jA v<;>simp
def ac7: ∀ {l:List fO} {last:ae},tU last l=true-> ∀ {k v:ae},gz k l=some v->v.length<=200
 | [],_,_,_,_,hq=>by cases hq
 |t::r,last,h,k,v,hq=>by
  simp only[tU] at h;cases hb:pX last t with
  |true=>rw[hb] at h;cases h
  |false=>
   rw[hb] at h;simp only[gz] at hq;cases hk:t.1==k with
   |true=>
    rw[hk] at hq;simp only[cT,aH] at hq;subst hq;simp only[pX,vE,decide_eq_false_iff_not,Nat.not_lt] at hb;exact hb.2
   |false=>
    rw[hk] at hq;exact ac7 (l:=r) (last:=t.1) h hq
def awH{l:List fO}(h:lR l=true){k v:ae}(t:gz k l=some v):v.length<=200:=by
 unfold lR at h;simp only[bm] at h;exact ac7 h.1 t
def awE{l:List fO}(h:lR l=true):l.length<=1000000:=by
 unfold lR at h;simp only[bm,dE] at h;omega
def atC(t:Q.spec 214=some mq)(y:Q.spec 163=some kO)(E:No Q 159)(go:o.Al)(G:lR o.gT=true)(s:St):aq Q 159 [o.val] s (.tup [.str (sa o).1,.bool (sa o).2]) s:=by
 have F:=go.all;have J:=i6;have w:mq [o.tagsV,.str [118,105,101,119]]=some (yg (gz y8 o.gT)):=Nd go.gT (awE G) y8;have A: ∃v z,aq Q 159 [o.val] s v z/\(v= .tup [.str (sa o).1,.bool (sa o).2]/\z=s):=by
  refine aq.ofNRZ anh (bT ?_);cases hq:gz y8 o.gT with
  |none=>
   rw[hq] at w;simp only[yg] at w;have D:=aaU hq;simp only[go_sem,seval,Obj.val,Obj.cells,F,t,w,D];exact⟨_,rfl,rfl⟩
  |some v=>
   rw[hq] at w;simp only[yg] at w;have I:=AC (s:=v) (by have:=awH G hq;omega);have D:=aaV hq;simp only[go_sem,seval,Obj.val,Obj.cells,F,t,w,y,I,D];exact⟨_,rfl,rfl⟩
 obtain⟨v,z,h,rfl,rfl⟩:=A;exact h
variable{nb:Nat}
def ase(h:No Q 73){name:ae}(t:s.get [] nb=some (.cells [.str name]))(v:ae)(d:Bool):aq Q 73 [.str v,.bool d,.ptr nb 0] s (.bool (!d||v==name)) s:=by
 refine aq.ofNZ apI (bT ?_);cases d with
 |false=>simp only[go_sem,seval,kp,gZ]
 |true=>simp only[go_sem,seval,t,aP,aQ,jp,hZ]
variable{wb:Nat}
def ar2(w:Q.spec 214=some mq)(y:Q.spec 163=some kO)(t:No Q 159)(z:No Q 73)(E:No Q 158)(go:o.Al)(I:lR o.gT=true){name:ae}(A:s.gt<=s.aL)(G:s.get [] wb=some (.cells [.func (.func 73) [] [.ptr nb 0]]))(J:s.get [] nb=some (.cells [.str name])):aq Q 158 [o.val,.ptr wb 0] s (.bool (yu name o)) s:=by
 have F:=go.all;have h:=atC w y t go I s.top;have D:=ase z (s:=s.top) J (sa o).1 (sa o).2;simp only[Obj.val,Obj.cells] at h;refine aq.ofNZ ang ?_;refine WE.sound ?_;simp only[go_sem,seval,Obj.val,Obj.cells,F];refine gK A ?_;simp only[go_sem,H0,seval,aP,G,aQ,F];refine jY.quiet h (by decide) (by simp[eh,mL]) ?_;simp only[go_sem,H0,seval];refine jY.quiet D (by decide) (by simp[eh,mL]) ?_;simp only[go_sem,H0,seval,amn]
def aiX(a0:Q.spec 214=some mq)(a8:Q.spec 163=some kO)(M:No Q 159)(a9:No Q 73)(O:No Q 158)(ho:ax 6 Obj.val ov l)(hg: ∀o∈l,o.Al)(ht: ∀o∈l,lR o.gT=true)(hl:l.length<=900000){name:ae}{s0:St}(hw:s0.get [] wb=some (.cells [.func (.func 73) [] [.ptr nb 0]]))(hn:s0.get [] nb=some (.cells [.str name]))(wl:wb<lo)(nl:nb<lo)(hx: ∀e lc s E,cP 6 lo s E ((gJ l name).map Obj.val)->s.gt<=s.aL->lo<=s.aL->(∀k,k<lo->s.get [] k=s0.get [] k)->ac e 5=E->K (.exit 0) ⟨e,23,lc⟩ s):
 ∀(w h:List Obj) (e:aw) (lc:Ag.Loc) (s:St) (E:aa),l=h++w->cP 6 lo s E ((gJ h name).map Obj.val)->(∀k,k<lo->s.get [] k=s0.get [] k)->lo<=s.aL->s.gt<=s.aL->ac e 1= .func (.func 158) [] [.ptr wb 0]->ac e 5=E->ac e 8=ov->ac e 9=aM l.length->ac e 10=aM h.length->W Q 157 (.loop NV) ⟨e,23,lc⟩ s K:=by
 intro w
 induction w with
 |nil=>
  intro h e lc s E I J z F A r1 Z h8 Y D;have b3:h.length=l.length:=by rw[I];simp
  have b1:h=l:=by rw[I];simp
  refine bq ?_;simp only[go_sem,seval,NV,Y,D,b3,cq];rw[b1] at J;exact hx _ _ _ E J A F z (by simp only[sN,seval,Z])
 |cons o w ih=>
  intro h e lc s E I J z F A r1 Z h8 Y D;have b2:h.length<l.length:=by rw[I];simp
  have V:l[h.length]? =some o:=by rw[I];simp
  have T:=dB V;have go:=hg o T;have rc:=go.all;have b4:=fun lc k=>ho.at fD.2.2.1 V lc k;have S:=dg (n:=h.length) (by omega);have G:=ar2 a0 a8 M a9 O go (ht o T) (s:=s) A ((z wb wl).trans hw) ((z nb nl).trans hn);simp only[Obj.val,Obj.cells] at G;have R:=J.ge;refine bq ?_;simp only[go_sem,seval,NV,r1,h8,Y,D,b2,b4,Obj.val,Obj.cells,rc];refine ct.of G (by decide) ?_;cases hb:yu name o with
  |false=>
   simp only[go_sem,seval,D,S];refine ih (h++[o]) _ _ s E (by rw[I];simp) (by unfold gJ;rw[pn hb];exact J) z F A ?_ ?_ ?_ ?_ ?_
   all_goals simp only[sN,seval,r1,Z,h8,Y,sA]
  |true=>
   obtain⟨b0,s1,a1,a2,a3,a4,a5,a6,a7⟩:=Bx (t:=22) fD.1 rfl (by decide) (s:=s) (y:=.list 6 [o.val] .GE) (x:=o.val) J (by simp only[fH,em]) (by
    rw[bP]
    have:=kE (yu name) h;unfold gJ;omega) F A
   simp only[Obj.val,Obj.cells] at a1;simp only[go_sem,seval,Z,R,rc,bj,bc,aX,aZ,evc];simp only[go_sem,seval,Z,D,S,R,a1,a3,rc,bj,bc,aX,aZ,evc];refine ih (h++[o]) _ _ s1 b0 (by rw[I];simp) (by
    have e:gJ (h++[o]) name=gJ h name++[o]:=by
     show List.filter (yu name) _=List.filter (yu name) _++_;exact uJ hb
    rw[e,eE];exact a2) (fun k hk=>(a7 k hk).trans (z k hk)) (by omega) a5 ?_ ?_ ?_ ?_ ?_
   all_goals simp only[sN,seval,r1,h8,Y,sA]
def aiV(y:Q.spec 214=some mq)(z:Q.spec 163=some kO)(t:No Q 159)(A:No Q 73)(w:No Q 158)(J:No Q 157)(E:ax 6 Obj.val ov l)(hg: ∀o∈l,o.Al)(Z: ∀o∈l,lR o.gT=true)(hl:l.length<=900000){name:ae}(F:s.gt<=s.aL)(Y:s.get [] wb=some (.cells [.func (.func 73) [] [.ptr nb 0]]))(hn:s.get [] nb=some (.cells [.str name]))(O:wb<s.aL)(S:nb<s.aL):
 ∃v h,aq Q 157 [ov,.func (.func 158) [] [.ptr wb 0]] s v h/\(cP 6 s.aL h v ((gJ l name).map Obj.val)/\h.gt<=h.aL/\s.aL<=h.aL/\ ∀k,k<s.aL->h.get [] k=s.get [] k):=by
 have I:=E.ge;have G:=E.lenS fD;refine aq.ofNRZ anf (bT ?_);simp only[go_sem,seval,I,G,zW];refine aiX y z t A w E hg Z hl (lo:=s.aL) (name:=name) (s0:=s) Y hn O S ?_ l [] _ _ s .AL rfl (.inl ⟨rfl,rfl⟩) (fun _ _=>rfl) (bk _) F ?_ ?_ ?_ ?_ ?_;intro e lc s1 tv M V T R h5;have D:=M.ge;simp only[go_sem,seval,h5,D];exact⟨_,rfl,M,V,T,R⟩
 all_goals simp only[sN,seval,cV]
 all_goals rfl
def tI(l:List Obj)(name:ae):List Obj:=bif cZ l then gJ l name else []
def qJ(l:List Obj):aa:=io 6 (l.map Obj.val)
def aaa: ∀l:List Obj,ax 6 Obj.val (qJ l) l
 | []=>.inl ⟨rfl,rfl⟩
 |_::_=>.inr ⟨_,rfl⟩
def Dz(l:List Obj)(name:ae):(gJ l name).Sublist l:=List.filter_sublist
def asi(l:List Obj)(name:ae):(tI l name).Sublist l:=by
 unfold tI;cases cZ l with
 |false=>exact List.nil_sublist _
 |true=>exact Dz l name
def VT{h:aC aJ}(z:cP 6 lo s ov (l.map Obj.val))(y: ∀o∈l,o.Al):gm h (.agg [ov]) (.agg [qJ l]):=by
 have e:=B7 (h:=h) z (k:=4) fun v t=>by
  obtain⟨o,w,rfl⟩:=cx.1 t;exact ajo h (y o w) 0
 refine⟨6,?_⟩;show(dq (cC h 5) [ov]).bind (fun r=>some (aa.agg r))=_;simp only[dq,e,bg];rfl
def ar9(A:Q.spec 31=some jh)(D:Q.spec 214=some mq)(E:Q.spec 163=some kO)(h:No Q 159)(G:No Q 73)(t:No Q 158)(w:No Q 157)(S:No Q 72)(y:ax 6 Obj.val ov l)(O: ∀o∈l,o.Al)(hl:l.length<=900000){name:ae}(J:s.gt<=s.aL)(hn:s.get [] nb=some (.cells [.str name]))(V:nb<s.aL):
 ∃v M,aq Q 72 [.agg [ov],.func (.func 73) [] [.ptr nb 0]] s v M/\cP 6 (s.aL+1) M v ((tI l name).map Obj.val):=by
 have Z:=i6;have z:=y.cs;have F:=AA y O (by omega);refine aq.ofNRZ apH (bT ?_);cases hv:cZ l with
 |false=>
  rw[hv] at F;simp only[go_sem,seval,z,zW,BH,A,F];exact⟨_,rfl,.inl ⟨rfl,by unfold tI;rw[hv];rfl⟩⟩
 |true=>
  rw[hv] at F;have nn:(s.new (.cells [.func (.func 73) [] [.ptr nb 0]])).aL=s.aL+1:=rfl;have I:(s.new (.cells [.func (.func 73) [] [.ptr nb 0]])).get [] nb=some (.cells [.str name]):=by rw[ck V];exact hn
  have Y: ∀o∈l,lR o.gT=true:=fun o y=>by
   simp only[cZ,bm] at hv;exact PU l [] hv.1 o y
  simp only[go_sem,seval,z,zW,BH,A,F];refine ct.ex (aiV D E h G t w y O Y hl (wb:=s.aL) (nb:=nb) (name:=name) (s:=s.new (.cells [.func (.func 73) [] [.ptr nb 0]])) (bU J) cG I (by omega) (by omega)) (by decide) ?_;rintro v s1 ⟨R,m1,n1,o1⟩;have T:=R.ge;simp only[go_sem,seval,T];have e:tI l name=gJ l name:=by unfold tI;rw[hv];rfl
  rw[e];exact⟨_,rfl,R⟩
def asd(J:Q.spec 31=some jh)(y:Q.spec 214=some mq)(z:Q.spec 163=some kO)(h:No Q 159)(D:No Q 73)(t:No Q 158)(w:No Q 157)(E:No Q 72)(R:No Q 28)(A:ax 6 Obj.val ov l)(O: ∀o∈l,o.Al)(T:l.length<=900000)(name:ae)(F:s.gt<=s.aL):
 ∃v M,aq Q 28 [.agg [ov],.str name] s v M/\gm M.heap v (.agg [qJ (tI l name)]):=by
 have G:=A.cs;refine aq.ofNRZ aoq (bT ?_);simp only[go_sem,seval,G,bj,bc,aX,aZ,evc];refine ct.ex (ar9 J y z h D t w E A O T (nb:=s.aL) (name:=name) (s:=s.new (.cells [.str name])) (bU F) cG (kF _)) (by decide) ?_;rintro v V I;have S:=I.ge;have vs:v.cells=[v]:=by rcases I with⟨rfl,_⟩|⟨_,k,rfl,_⟩<;>rfl
 simp only[go_sem,seval,S,vs,bj,bc,aX,aZ,evc];exact⟨_,rfl,VT I fun o A=>O o ((asi l name).subset A)⟩
def ST:dp:=[(31,jh),(214,mq),(163,kO)]
def aes:du ST:=.cons wI (.cons V0 (.cons PF .nil))
def Ba:Sp
 | [v,.str name]=>(lG v).bind fun l=>bif decide (l.length<=900000) then some (.agg [qJ (tI l name)]) else none
 |_=>none
def axy(h:ax 6 Obj.val v l)(y: ∀o∈l,o.Al)(w:l.length<=900000)(name:ae):Ba [.agg [v],.str name]=some (.agg [qJ (tI l name)]):=by
 have t:=i6;simp only[dW,Ba,vR h y (by omega),w,dT]
def axz:cQ ah 28 Ba:=by
 intro args u t G h w xs F J;unfold Ba at t;split at t;rename_i R name;simp only[aj] at t;obtain⟨l,A,t⟩:=t;obtain⟨E,t⟩:=aY t;simp only[dE] at E;have t:=sI t;subst t;obtain⟨v,rfl,A,D,S⟩:=rj A;obtain⟨M,I,y,z⟩:=qK A D;have y:dz [.agg [v],.str name]=[.agg [I],.str name]:=by simp only[dz,y];rfl
 refine jo aes (W:=[]) .nil (args:=[.agg [v],.str name]) (by show(dL (.agg [v])&&_)=true;rw[M];rfl) (fun O=>?_) G h w xs F J;rw[y];exact asd (Q:=QW ST [] O) rfl rfl rfl ⟨rfl,rfl⟩ ⟨rfl,rfl⟩ ⟨rfl,rfl⟩ ⟨rfl,rfl⟩ ⟨rfl,rfl⟩ ⟨rfl,rfl⟩ z D E name (by decide);cases t
def qS(l:List Obj):Nat:=(l.map fun o=>o.gE.length).sum
structure vO (l:List Obj):Prop where
 valid:cZ l=true
 len:l.length<=900
 gE:qS l<=999
def Hr(l:List Obj):Bool:=cZ l&&(decide (l.length<=900)&&decide (qS l<=999))
def VD:Hr l=true↔vO l:=by
 unfold Hr;simp only[bm,dE];exact⟨fun⟨a,b,c⟩=>⟨a,b,c⟩,fun⟨a,b,c⟩=>⟨a,b,c⟩⟩
def aup{r:List Obj}(h:r.Sublist l):qS r<=qS l:=by
 induction h with
 |slnil=>exact bk _
 |cons a _ t=>simp only[qS,eA,List.sum_cons] at t ⊢;omega
 |cons_cons a _ t=>simp only[qS,eA,List.sum_cons] at t ⊢;omega
def abN: ∀ {l:List Obj} {o:Obj},o∈l->o.gE.length<=qS l
 |a::l,o,h=>by
  simp only[qS,eA,List.sum_cons];rcases dl.1 h with rfl|h
  omega
  have:=abN h;unfold qS at this;omega
def Y6(l:List Obj): ∀r:List Obj,(r.flatMap (fR l)).length<=qS r
 | []=>bk _
 |o::r=>by
  rw[Bj,cD];have t:=Y5 l o;have h:=Y6 l r;simp only[qS,eA,List.sum_cons] at h ⊢;omega
def Pq{r:List Obj}(h:cZ l=true)(t:r.Sublist l):cZ r=true:=by
 simp only[cZ,bm,dE] at h ⊢;obtain⟨A,z⟩:=EB l [] h.1;exact⟨aab r [] (fun q w=>Jo l [] h.1 q (t.subset w)) (fun k y=>A k ((t.map _).subset y)) (z.sublist (t.map _)),eG t.length_le h.2⟩
def vO.sub{r:List Obj}(h:vO l)(t:r.Sublist l):vO r:=⟨Pq h.valid t,eG t.length_le h.len,eG (aup t) h.gE⟩
def vO.fine(h:vO l):Sq l:=by
 refine⟨h.valid,h.len,fun o t=>eG (abN t) h.gE,?_⟩;unfold eU;rw[(Dp _).length_eq];have z:=aaW l;have y:=Y6 l l;have w:=h.gE;omega
def LM(P:Program)(mk:aI)(t h:TypeId)(w:Bool)(x y:aa)(s:St):je P mk .copy [t,h] w [x,y] s=rz P mk t x y s:=rfl
def ax4(t:Array Operand)(h:Array TypeId):gQ (.call ⟨.builtin .copy,t,h⟩)=1:=rfl
def aka(h:Tmp->Nat)(d:Option Tmp)(e:aw)(w:Array Operand)(t:Array TypeId):bD h d e (.call ⟨.builtin .copy,w,t⟩)= .all:=rfl
variable{f:FuncId}{sz:Nat}{d:Option Tmp}{g:SG}{mk:aI}
def Qa{Q:aD}(t h:TypeId)(x:Operand):cw Q f ⟨d,.convert t h x,g⟩ mk ⟨e,sz,lc⟩ s=(evc e x).bind fun a=>eX (uB Q.P t h a) lc s:=rfl
def Qc{Q:aD}(t:TypeId)(l c:Operand):cw Q f ⟨d,.makeSlice t l c,g⟩ mk ⟨e,sz,lc⟩ s=(ev e l).bind fun l=>(ev e c).bind fun c=>f8 (n9 Q.P t l c (aK (oN (Q.hint f) d) 2) s) lc:=rfl
def I4(mk:aI)(sz m o l c:Nat)(s:St):iG ah mk 26 (.arr sz m o l c) s=some (aM l):=by kernel_rfl
theorem ZI(l c:aa)(h:Bool)(s:St):n9 ah 26 l c h s=(dr l).bind fun l=>(dr c).bind fun c=>bif bn l c&&bn (c*8) 1099511627776&&bn c 1099511627776 then
 bif aK l 0&& !h then some (.list 1 [] (.own s.aL),s.new .tok)
 else some (.arr 1 s.aL 0 l l,s.new (.cells (aX [ag 0] l)))
 else none:=by kernel_rfl
variable{j m n:Nat}{x:Operand}
def avA(y:j<=n)(w:ev e x=some (aM j))(mk:aI)(s:St):iZ ah mk 26 (.arr 1 m 0 n n) (some x) none none e s=some (.arr 1 m j (n-j) (n-j)):=by
 have z: ∀(lo t:Option Operand),iZ ah mk 26 (.arr 1 m 0 n n) lo t none e s=(eV e t n).bind fun h=>(eV e lo 0).bind fun l=>bif aK 1 1&&bn l h&&bn h n&&true then some (.arr 1 m (0+l*1) (h-l) (n-l)) else none:=by intro lo t;kernel_rfl
 have D:bn j n=true:=cE y;have A:bn n n=true:=cE (bk _);rw[z,PH,PJ,w];show(bif aK 1 1&&bn j n&&bn n n&&true then some (aa.arr 1 m (0+j*1) (n-j) (n-j)) else none)=_;rw[D,A,eH,xI];rfl
def avz(y:j<=n)(w:ev e x=some (aM j))(mk:aI)(s:St):iZ ah mk 26 (.arr 1 m 0 n n) none (some x) none e s=some (.arr 1 m 0 j n):=by
 have z: ∀(lo t:Option Operand),iZ ah mk 26 (.arr 1 m 0 n n) lo t none e s=(eV e t n).bind fun h=>(eV e lo 0).bind fun l=>bif aK 1 1&&bn l h&&bn h n&&true then some (.arr 1 m (0+l*1) (h-l) (n-l)) else none:=by intro lo t;kernel_rfl
 have D:bn j n=true:=cE y;have A:bn 0 j=true:=cE (jW _);rw[z,PH,PJ,w];show(bif aK 1 1&&bn 0 j&&bn j n&&true then some (aa.arr 1 m (0+0*1) (j-0) (n-0)) else none)=_;rw[D,A];rfl
def RH(f:Nat->Bool)(h:(List.range 1000).all f=true)(t:n<1000):f n=true:=fu.1 h n (List.mem_range.2 t)
def adj(h:n<1000):IntKind.u64.wrap (n:Int)=n:=by
 have:=RH (fun n=>an (IntKind.u64.wrap (n:Int)) n) (by kernel_rfl) h;exact of_decide_eq_true this
def axa(t:n<1000):dI ah .and 389 (.int .u64 (n:Int)) (.int .u64 4294967295)=some (.int .u64 (n:Int)):=by
 have:=RH (fun n=>an (IntKind.u64.wrap (((BitVec.ofInt IntKind.u64.bits (n:Int)) &&& (BitVec.ofInt IntKind.u64.bits 4294967295)).toNat:Nat)) n) (by kernel_rfl) t;have h:IntKind.u64.wrap (((BitVec.ofInt IntKind.u64.bits (n:Int)) &&& (BitVec.ofInt IntKind.u64.bits 4294967295)).toNat:Nat)=(n:Int):=of_decide_eq_true this;show some (aa.int .u64 (IntKind.u64.wrap _))=_;rw[h]
def axl(t:n<1000):dI ah .shr 389 (.int .u64 (n:Int)) (.int .u64 32)=some (.int .u64 0):=by
 have:=RH (fun n=>an ((n:Int).fdiv (2 ^ (min (32:Int).toNat IntKind.u64.bits))) 0) (by kernel_rfl) t;have h:((n:Int).fdiv (2 ^ (min (32:Int).toNat IntKind.u64.bits)))=0:=of_decide_eq_true this;show some (aa.int .u64 ((n:Int).fdiv _))=_;rw[h]
def axk(h:n<1000):dI ah .mul 389 (.int .u64 1) (.int .u64 (n:Int))=some (.int .u64 (n:Int)):=by
 show some (aa.int .u64 (IntKind.u64.wrap (1*(n:Int))))=_;rw[Int.one_mul,adj h]
def axj(n:Nat):dI ah .mul 389 (.int .u64 0) (.int .u64 (n:Int))=some (.int .u64 0):=by
 show some (aa.int .u64 (IntKind.u64.wrap (0*(n:Int))))=_;rw[Int.zero_mul];rfl
def axb:dI ah .and 389 (.int .u64 1) (.int .u64 4294967295)=some (.int .u64 1):=by kernel_rfl
def axc:dI ah .shr 389 (.int .u64 1) (.int .u64 32)=some (.int .u64 0):=by kernel_rfl
def axd:dI ah .add 389 (.int .u64 0) (.int .u64 0)=some (.int .u64 0):=by kernel_rfl
def axe:dI ah .and 389 (.int .u64 0) (.int .u64 4294967295)=some (.int .u64 0):=by kernel_rfl
def axf:dI ah .shr 389 (.int .u64 0) (.int .u64 32)=some (.int .u64 0):=by kernel_rfl
def axg:dI ah .mul 389 (.int .u64 1) (.int .u64 0)=some (.int .u64 0):=by kernel_rfl
def axh:dI ah .mul 389 (.int .u64 0) (.int .u64 0)=some (.int .u64 0):=by kernel_rfl
def adi:dI ah .gtr 294 (.int .u64 0) (.int .u64 0)=some (.bool false):=by kernel_rfl
theorem axi(h:n<1000):dI ah .gtr 294 (.int .u64 (n:Int)) (.int .u64 9223372036854775807)=some (.bool false):=by
 show some (aa.bool (aV 9223372036854775807 (n:Int)))=_
 grind [aV]
def axm:uB ah 3 294 (ag 1)=some (.int .u64 1):=by kernel_rfl
def axo(h:n<1000):uB ah 3 294 (ag (n:Int))=some (.int .u64 (n:Int)):=by
 have:uB ah 3 294 (ag (n:Int))=some (.int .u64 (IntKind.u64.wrap (n:Int))):=by kernel_rfl
 rw[this,adj h]
theorem axn(h:n<1000):uB ah 294 3 (.int .u64 (n:Int))=some (ag (n:Int)):=by
 have:uB ah 294 3 (.int .u64 (n:Int))=some (ag (IntKind.i64.wrap (n:Int))):=by kernel_rfl
 grind [jE]
def kg(k:Int)(j n:Nat):List aa:=gG j (ag k)++gG (n-j) (ag 0)
theorem VI(k:Int): ∀n,aF (gG n (ag k))=gG n (ag k)
 |0=>rfl
 |n+1=>by rw[Ku,aF,VI k n];rfl
theorem UJ(k:Int): ∀n,aZ false 1 n (gG n (ag k))=some (gG n (ag k))
 |0=>rfl
 |n+1=>by
  rw[Ku];show(aZ false 1 n (gG n (ag k))).bind _=_;rw[UJ k n];rfl
theorem abR: ∀n,aX [ag 0] n=gG n (ag 0)
 |0=>rfl
 |n+1=>by rw[aX,abR n,Ku];rfl
variable{k:Int}
def ahw{r:nL}(w:0<n)(y:s.get [] m=some (.cells (gG n (ag 0)))):rz ah [] 26 (.arr 1 m 0 n n) (.list 1 [ag k] r) s=some (ag ((1:Nat):Int),s.put m (some (.cells (kg k 1 n)))):=by
 obtain⟨n,rfl⟩: ∃j,n=j+1:=⟨n-1,by omega⟩;have t:eM (gG (n+1) (ag 0)) 0 [ag k]=some (kg k 1 (n+1)):=by
  have h:bn (0+ [ag k].length) (gG (n+1) (ag 0)).length=true:=cE (by simp);unfold eM;rw[h];rfl
 have e:cM (n+1) [ag k]=[ag k]:=by simp
 have f:aF [ag k]=[ag k]:=rfl
 simp_all [rz,kT,em]
theorem ahx(D:j<=n)(E:s.get [] m=some (.cells (kg k j n))):rz ah [] 26 (.arr 1 m j (n-j) (n-j)) (.arr 1 m 0 j n) s=some (ag ((min (n-j) j:Nat):Int),s.put m (some (.cells (kg k (j+min (n-j) j) n)))):=by
 have G:cut (kg k j n) 0 (j*1)=some (gG j (ag k)):=by
  have e:((kg k j n).drop 0).take (j*1)=gG j (ag k):=by simp[kg]
  have b:aK (gG j (ag k)).length (j*1)=true:=by rw[DN,xI,iU];simp
  show(bif aK (((kg k j n).drop 0).take (j*1)).length (j*1) then some (((kg k j n).drop 0).take (j*1)) else none)=_;rw[e,b];rfl
 have F:(gG j (ag k)).take (n-j)=gG (min (n-j) j) (ag k):=List.take_replicate;have A:eM (kg k j n) j (gG (min (n-j) j) (ag k))=some (kg k (j+min (n-j) j) n):=by
  have h:min (n-j) j<=n-j:=Nat.min_le_left _ _;generalize min (n-j) j=w at h ⊢;have z:bn (j+(gG w (ag k)).length) (kg k j n).length=true:=cE (by simp[kg];omega);unfold eM;rw[z,cT];congr 1;have y:(kg k j n).take j=gG j (ag k):=by simp[kg]
  have t:(kg k j n).drop (j+(gG w (ag k)).length)=gG (n-(j+w)) (ag 0):=by
   simp[kg,List.drop_append];omega
  rw[y,t,<-lV];unfold kg;rw[List.replicate_append_replicate]
 grind [rz,kT,em,iU,UJ,VI,DN]
structure ui (s:St) (v:aa) (L:List Int):Prop where
 ge:v.ge=true
 len: ∀mk s',iG ah mk 26 v s'=some (aM L.length)
 cell: ∀ {i:Nat} {k:Int},L[i]? =some k-> ∃p,p.ge=true/\(∀lc,ii ah lc 26 v (aM i)=some p)/\ ∀lc,lM ah [] 3 p lc s=some (ag k)
def ui.ofList(s:St)(L:List Int)(r:nL):ui s (.list 1 (L.map bO) r) L:=by
 have h:ax 1 bO (.list 1 (L.map bO) r) L:=.inr ⟨r,rfl⟩;refine⟨rfl,h.lenS kT,fun {i k} t=>⟨.ro [ag k],rfl,fun lc=>h.at kT.2.2.1 t lc .i64,fun lc=>?_⟩⟩;rw[I6,jl];rfl
theorem ui.ofRow(A:s.get [] m=some (.cells (kg k n n))):ui s (.arr 1 m 0 n n) (gG n k):=by
 refine⟨rfl,fun mk z=>by rw[I4,DN],fun {i x} h=>?_⟩;have y:i<n:=by
  have:=(nF.1 h).1;rwa [DN] at this
 have w:k=x:=by
  obtain⟨D,t⟩:=nF.1 h;rw[List.getElem_replicate] at t;exact t
 subst w;refine⟨.ptr m (0+i*1),rfl,fun lc=>?_,fun lc=>?_⟩
 grind [bh,cE,kT,pE,iU]
 grind [aP,aQ,jl,kg]
theorem auB(Y:n<1000){s0:St}(z: ∀e lc s,ac e 7= .arr 1 m 0 n n->s.get [] m=some (.cells (kg k n n))->dn m s0 s->K (.exit 0) ⟨e,48,lc⟩ s):
 ∀(f j:Nat) (e:aw) (lc:Ag.Loc) (s:St),n-j<=f->0<j->j<=n->s.get [] m=some (.cells (kg k j n))->dn m s0 s->ac e 7= .arr 1 m 0 n n->ac e 8=aM j->W Q 218 (.loop EO) ⟨e,48,lc⟩ s K:=by
 intro f
 induction f with
 |zero=>
  intro j e lc s T R h I G w y;have t:j=n:=by omega
  subst t;refine lz ?_;simp only[go_sem,cM,bK,ai,ay,bG,dw,dG,dU,cy,dD,dC,reduceCtorEq,dY,EO,w,y,I4,cq]
  simp_all [sN]
 |succ f O=>
  intro j e lc s T R h I G w y;rcases nG j n with E|S
  ·have F:s.top.get [] m=some (.cells (kg k j n)):=I
   have V:=ahx (m:=m) (n:=n) (j:=j) (k:=k) (s:=s.top) h F;have D:=G.mw;have A:IntKind.i64.wrap (((j:Nat):Int)+((min (n-j) j:Nat):Int))=((j+min (n-j) j:Nat):Int):=by
    rw[jE (by omega) (by omega)];omega
   have M:=fun(e:aw) (x:Operand) (z:ev e x=some (aM j)) (mk:aI) (s:St)=>avA (m:=m) h z mk s;have J:=fun(e:aw) (x:Operand) (z:ev e x=some (aM j)) (mk:aI) (s:St)=>avz (m:=m) h z mk s;refine lz ?_;simp only[go_sem,cM,bK,ai,ay,bG,dw,dG,dU,cy,dD,dC,reduceCtorEq,dY,EO,w,y,I4,E];refine gK D ?_;simp only[go_sem,Xv,cM,bK,ai,ay,bG,dw,dG,dU,cy,dD,dC,reduceCtorEq,dY,w,y,M,J,LM,ax4,aka,hG,V,A,dI,HI];refine O (j+min (n-j) j) _ _ _ (by omega) (by omega) (by omega) ?_ (G.putT _) ?_ ?_
   grind [lL,aR]
   all_goals simp only[sN,ai,bG,w]
  have t:j=n:=by omega
  subst t;refine lz ?_;simp only[go_sem,cM,bK,ai,ay,bG,dw,dG,dU,cy,dD,dC,reduceCtorEq,dY,EO,w,y,I4,cq]
  simp_all [sN]
def arm(z:No Q 408)(y:n<1000)(s:St):aq Q 408 [.int .u64 1,.int .u64 (n:Int)] s (.tup [.int .u64 0,.int .u64 (n:Int)]) s:=by
 have F:=axa y;have E:=axl y;have D:=axk y;have A:=axj n;have w: ∃v t,aq Q 408 [.int .u64 1,.int .u64 (n:Int)] s v t/\(v= .tup [.int .u64 0,.int .u64 (n:Int)]/\t=s):=by
  refine aq.ofNRZ ao9 (bT ?_);simp only[go_sem,cM,bK,ai,ay,bG,dw,dG,dU,cy,dD,dC,reduceCtorEq,dY,F,E,D,A,axb,axc,axd,axe,axf,axg,axh];exact⟨_,rfl,rfl⟩
 obtain⟨v,t,h,rfl,rfl⟩:=w;exact h
def arl(z:No Q 300)(t:No Q 408)(A:n<1000)(s:St):aq Q 300 [.int .u64 1,.int .u64 (n:Int)] s (.tup [.int .u64 0,.int .u64 (n:Int)]) s:=by
 have y: ∃v w,aq Q 300 [.int .u64 1,.int .u64 (n:Int)] s v w/\(v= .tup [.int .u64 0,.int .u64 (n:Int)]/\w=s):=by
  refine aq.ofNRZ aoz (bT ?_);simp only[go_sem,cM,bK,ai,ay,bG,dw,dG,dU,cy,dD,dC,reduceCtorEq,dY];refine ct.of (arm t A s) (by decide) ?_;simp only[go_sem,cM,bK,ai,ay,bG,dw,dG,dU,cy,dD,dC,reduceCtorEq,dY];exact⟨_,rfl,rfl⟩
 obtain⟨v,w,h,rfl,rfl⟩:=y;exact h
theorem abQ(y:No Q 300)(w:No Q 408)(O:No Q 218)(A:n<1000)(k:Int)(r:nL)(R:s.gt<=s.aL):
 ∃v h,aq Q 218 [.list 1 [ag k] r,aM n] s v h/\(ui h v (gG n k)/\h.aL=s.aL+1/\h.gt<=h.aL/\ ∀i,i<s.aL->h.get [] i=s.get [] i):=by
 have V: ∀mk h,iG ah mk 26 (.list 1 [ag k] r) h=some (ag 1):=fun mk h=>by rw[kT.2.2.2.2.2];rfl
 have z:aV ((n:Nat):Int) 0=false:=by
  unfold aV;rw[dN];omega
 have e1:=axo A;have T:=axn A;have S:=axi A;have b1:bn n n=true:=cE (bk _);have b2:bn (n*8) 1099511627776=true:=cE (by omega);have b3:bn n 1099511627776=true:=cE (by omega);have bb:(bn n n&&bn (n*8) 1099511627776&&bn n 1099511627776)=true:=by rw[b1,b2,b3];rfl
 refine aq.ofNRZ anz (bT ?_);simp only[go_sem,cM,bK,ai,ay,bG,dw,dG,dU,cy,dD,dC,reduceCtorEq,dY,Qa,Qc,V,z,axm,e1];refine ct.of (arl y w A s) (by decide) ?_;rcases Bq n with D|D
 subst D;have E: ∀s,n9 ah 26 (ag ((0:Nat):Int)) (ag ((0:Nat):Int)) false s=some (.list 1 [] (.own s.aL),s.new .tok):=fun s=>by rw[ZI];rfl
 have M: ∀k r t s,rz ah [] 26 (.list 1 [] t) (.list 1 [ag k] r) s=some (ag 0,s):=fun k r t s=>by
  simp only[fH,rz,kT,bg,em]
 have Y: ∀mk t h,iG ah mk 26 (.list 1 [] t) h=some (ag 0):=fun mk t h=>by rw[kT.2.2.2.2.2];rfl
 simp only[go_sem,cM,bK,ai,ay,bG,dw,dG,dU,cy,dD,dC,reduceCtorEq,dY,Qa,Qc,adi,T,S,E,LM,M];refine lz ?_;have I:aV (0:Int) ((0:Nat):Int)=false:=rfl;have G:aV (0:Int) 0=false:=rfl;simp only[go_sem,cM,bK,ai,ay,bG,dw,dG,dU,cy,dD,dC,reduceCtorEq,dY,EO,Y,I,G];refine⟨_,rfl,ui.ofList _ [] _,bU R,fun i F=>ck F⟩
 ·have E: ∀s,n9 ah 26 (ag ((n:Nat):Int)) (ag ((n:Nat):Int)) false s=some (.arr 1 s.aL 0 n n,s.new (.cells (gG n (ag 0)))):=fun s=>by
   grind [iU,ZI,pE,abR]
  have M:=ahw (s:=s.new (.cells (gG n (ag 0)))) (m:=s.aL) (k:=k) (r:=r) D cG;simp only[go_sem,cM,bK,ai,ay,bG,dw,dG,dU,cy,dD,dC,reduceCtorEq,dY,Qa,Qc,adi,T,S,E,LM,hG,M];refine auB (m:=s.aL) (k:=k) A (s0:=s.new (.cells (gG n (ag 0)))) ?_ (n-1) 1 _ _ _ (bk _) Nat.one_pos D ?_ ((dn.refl (bU R)).put _) ?_ ?_;intro e lc s1 h7 Z J;simp only[go_sem,cM,bK,ai,ay,bG,dw,dG,dU,cy,dD,dC,reduceCtorEq,dY,h7,hG];exact⟨_,rfl,ui.ofRow Z,J.aL,J.mw,fun i F=>(J.old i (by omega)).trans (ck F)⟩
  all_goals simp_all [aR,sN]
def ari(e:aw)(x:Operand)(s:St):mz ah 100 e (some x) s=(ev e x).bind fun
 | .int _ _=>some (.map s.aL,s.new (.map [] 0))
 |_=>none:=by kernel_rfl
def vB(o:Obj):List Int:=(List.range o.gE.length).map (kj o.uP)
def axG(h:an o.uP 5=false):vB o=gG o.gE.length (bif an o.uP 4 then 2 else 1):=by
 unfold vB;have e: ∀i,kj o.uP i=bif an o.uP 4 then 2 else 1:=fun i=>by
  unfold kj;rw[h,dA,Bool.or_false]
 rw[Bl (g:=fun _=>bif an o.uP 4 then(2:Int) else 1) fun i _=>e i,List.map_const',DM]
def axH(h:an o.uP 5=true)(t:o.gE.length=3):vB o=[2,1,2]:=by
 have e:o.uP=5:=of_decide_eq_true h;unfold vB;rw[t,e];decide
variable{b:Nat}
def ar3(ho:ax 6 Obj.val ov l)(hg: ∀o∈l,o.Al)(hl:l.length<=1000000)(E:(l.map Obj.id).Nodup){s0:St}(hx: ∀e lc s,ac e 3= .map b->dn b s0 s->bJ aa.str s b (ji l)->K (.exit 0) ⟨e,23,lc⟩ s):
 ∀(t h:List Obj) (e:aw) (lc:Ag.Loc) (s:St),l=h++t->dn b s0 s->bJ aa.str s b (ji h)->ac e 3= .map b->ac e 11=ov->ac e 12=aM l.length->ac e 13=aM h.length->W Q 65 (.loop O4) ⟨e,23,lc⟩ s K:=by
 intro t
 induction t with
 |nil=>
  intro h e lc s D Y R I A w z;have T:h.length=l.length:=by rw[D];simp
  have M:h=l:=by rw[D];simp
  refine bq ?_;simp only[go_sem,seval,O4,w,z,T,cq];exact hx _ _ _ (by simp only[sN,seval,I]) Y (by rw[<-M];exact R)
 |cons o t ih=>
  intro h e lc s D Y R I A w z;have S:h.length<l.length:=by rw[D];simp
  have G:l[h.length]? =some o:=by rw[D];simp
  have go:=hg o (dB G);have Z:=go.all;have V:=fun lc k=>ho.at fD.2.2.1 G lc k;have J:=dg (n:=h.length) (by omega);have O:cu o.id (ji h)=none:=by
   rw[yF,yJ,sD];intro hc;rw[D,eE] at E;exact(List.nodup_append.1 E).2.2 _ hc o.id (by simp) rfl
  have y:=vz im uZ R o.id o.val;have F:ee o.id o.val (ji h)=ji (h++[o]):=by
   rw[uR O];unfold ji;rw[eE];rfl
  rw[F] at y;simp only[Obj.val,Obj.cells] at y;refine bq ?_;simp only[go_sem,seval,O4,I,A,w,z,S,V,J,Obj.val,Obj.cells,Z,y];refine ih (h++[o]) _ _ _ (by rw[D];simp) (Y.put _) bJ.put ?_ ?_ ?_ ?_
  all_goals simp only[sL,seval,I,A,w,sA]
def Z5(O:No Q 65)(w:ax 6 Obj.val ov l)(T: ∀o∈l,o.Al)(S:l.length<=1000000)(y:(l.map Obj.id).Nodup)(R:s.gt<=s.aL):
 ∃v h,aq Q 65 [.agg [ov]] s v h/\(v= .map s.aL/\bJ aa.str h s.aL (ji l)/\h.aL=s.aL+1/\h.gt<=h.aL/\ ∀i,i<s.aL->h.get [] i=s.get [] i):=by
 have E:=w.cs;have A:=w.lenS fD;obtain⟨z,t⟩:=bZ (s.new (.map [] 0));have I:z.aL=s.aL+1:=by rw[<-t];rfl
 have J:z.gt<=z.aL:=by rw[<-t];exact bU R
 have M:bJ aa.str z s.aL (ji []):=by rw[<-t];exact cG
 have G: ∀i,i<s.aL->z.get [] i=s.get [] i:=fun i D=>by rw[<-t];exact ck D
 refine aq.ofNRZ apy (bT ?_);simp only[go_sem,seval,E,A,ari,t];refine ar3 w T S y (b:=s.aL) (s0:=z) ?_ l [] _ _ z rfl (.refl J) M ?_ ?_ ?_ ?_;intro e lc Z Y F V;simp only[go_sem,seval,Y];exact⟨_,rfl,rfl,V,by rw[F.aL];exact I,F.mw,fun i D=>(F.old i (by omega)).trans (G i D)⟩
 all_goals simp only[aW,nQ,ai,bG,cV]
 all_goals rfl
def axF(t:No Q 300)(h:No Q 408)(w:No Q 218)(J:No Q 125)(go:o.Al)(M:o.gE.length<1000)(S:an o.uP 5=true->o.gE.length=3)(I:s.gt<=s.aL):
 ∃v y,aq Q 125 [o.val] s v y/\(ui y v (vB o)/\s.aL<=y.aL/\y.gt<=y.aL/\ ∀i,i<s.aL->y.get [] i=s.get [] i):=by
 have E:=go.all;have z:=go.gE.lenS co;refine aq.ofNRZ amC (bT ?_);cases e5:an o.uP 5 with
 |true=>
  simp only[go_sem,seval,Obj.val,Obj.cells,E,e5,bj,bc,aX,aZ,evc];rw[axH e5 (S e5)];exact⟨_,rfl,ui.ofList s [2,1,2] _,I,fun _ _=>trivial⟩
 |false=>
  rw[axG e5];cases e4:an o.uP 4 with
  |true=>
   simp only[go_sem,seval,Obj.val,Obj.cells,E,z,e5,e4,bj,bc,aX,aZ,evc];refine ct.ex (abQ t h w M 2 .GE I) (by decide) ?_;rintro v O ⟨A,R,G,F⟩;have D:=A.ge;simp only[go_sem,seval,D];exact⟨_,rfl,A,by omega,G,F⟩
  |false=>
   simp only[go_sem,seval,Obj.val,Obj.cells,E,z,e5,e4,bj,bc,aX,aZ,evc];refine ct.ex (abQ t h w M 1 .GE I) (by decide) ?_;rintro v O ⟨A,R,G,F⟩;have D:=A.ge;simp only[go_sem,seval,D];exact⟨_,rfl,A,by omega,G,F⟩
def Cu(l:List Obj)(k:Int):Nat->List ae->Bool
 |_,[]=>true
 |i,r::rest=>an (mZ l r) (kj k i)&&Cu l k (i+1) rest
def Y1(l:List Obj)(k:Int): ∀(rs:List ae) (i:Nat),(((List.range' i rs.length).zip rs).all fun p=>an (mZ l p.2) (kj k p.1))=Cu l k i rs
 | [],_=>rfl
 |r::rs,i=>by
  rw[dM,List.range'_succ,List.zip_cons_cons,jq,Y1 l k rs (i+1)];rfl
def auo(l:List Obj)(o:Obj):FY l o=Cu l o.uP 0 o.gE:=by
 rw[<-Y1];unfold FY;rw[List.range_eq_range']
def oD(l:List Obj)(o:Obj):Bool:= !FY l o
def QC(l:List Obj):List aa:=(l.filter (oD l)).map fun o=>eL 1 [o.id]
def Gm(l:List Obj):aa:=io 3 (QC l)
def apT(l:List Obj)(r:ae):wt ah 52 (((cj r l).map Obj.val).getD (.agg [(.str []),(ag (0)),(ag (0)),(ag (0)),.AL,.AL])) 1=some (ag (mZ l r)):=by
 unfold mZ;cases cj r l with
 |none=>rw[sD,Option.getD_none,Eo,jl];rfl
 |some q=>
  rw[jI,Option.getD_some];show wt ah 52 (.agg q.cells) 1=_;rw[Eo,jl];rfl
def apS(l:List Obj)(r:ae):((((cj r l).map Obj.val).getD (.agg [(.str []),(ag (0)),(ag (0)),(ag (0)),.AL,.AL]))).ge=true:=by
 cases cj r l<;>rfl
structure cz (a g6:Nat) (c6:List aa) (ov:aa) (n i:Nat) (e:aw) (lc:Ag.Loc):Prop where
 h3:ac e 3= .map a
 h6:ac e 6= .Ge 6 g6 0
 q6:lc.gen 6=g6
 l6:lc.get 6 g6=some c6
 h12:ac e 12=ov
 h13:ac e 13=aM n
 h14:ac e 14=aM i
variable{i:Nat}
def aul{g6:Nat}(hM:bJ aa.str s a (ji l))(T:s.gt<=s.aL)(V:lo<=s.aL)(go:o.Al)(hr:o.gE.length<1000){wv:aa}(hw:ui s wv (vB o)){tv:aa}{J:List aa}(hO:cP 3 lo s tv J)(b1:J.length<=900000)(hx: ∀e lc M A,cP 3 lo M A (J++(bif oD l o then [eL 1 [o.id]] else []))->M.gt<=M.aL->lo<=M.aL->(∀k,k<lo->M.get [] k=s.get [] k)->ac e 4=A->cz a g6 o.cells ov n i e lc->K (.exit 2) ⟨e,46,lc⟩ M):
 ∀(w h:List ae) (e:aw) (lc:Ag.Loc),o.gE=h++w->FY l o=Cu l o.uP h.length w->ac e 4=tv->ac e 19=wv->ac e 20=aM o.gE.length->ac e 21=aM h.length->cz a g6 o.cells ov n i e lc->W Q 58 (.loop IT) ⟨e,46,lc⟩ s K:=by
 intro w
 induction w with
 |nil=>
  intro h e lc h1 h2 Z G z E F;have a9:h.length=o.gE.length:=by rw[h1];simp
  have hb:oD l o=false:=by unfold oD;rw[h2];rfl
  refine bq ?_;simp only[go_sem,seval,IT,z,E,a9,cq];refine hx _ _ _ tv (by rw[hb,cF,nD];exact hO) T V (fun _ _=>rfl) ?_ ⟨?_,?_,F.q6,F.l6,?_,?_,?_⟩
  all_goals simp only[sN,seval,Z,F.h3,F.h6,F.h12,F.h13,F.h14]
 |cons r w ih=>
  intro h e lc h1 h2 Z G z E F;have I:h.length<o.gE.length:=by rw[h1];simp
  have b0:o.gE[h.length]? =some r:=by rw[h1];simp
  have a8:(vB o)[h.length]? =some (kj o.uP h.length):=by
   unfold vB;rw[iw,List.getElem?_range I];rfl
  obtain⟨p,pc,S,R⟩:=hw.cell a8;have Y:=fun lc k=>go.gE.at co.2.2.1 b0 lc k;have a0:=dg (n:=h.length) (by omega);have D:=qC im uZ Bg hM r;rw[yF] at D;have kf:=apT l r;have kc:=apS l r;obtain⟨q,hq⟩:=bZ (((cj r l).map Obj.val).getD (.agg [(.str []),(ag (0)),(ag (0)),(ag (0)),.AL,.AL]));rw[hq] at D kf kc;have wc:=hw.ge;have O:=hO.ge;have rc:=go.gE.ge;have e3:=F.h3;have e6:=F.h6;have eg:=F.q6;have el:=F.l6;simp only[Obj.cells] at el;cases hk:an (mZ l r) (kj o.uP h.length) with
  |true=>
   refine bq ?_;simp only[go_sem,seval,IT,aA,e3,e6,eg,el,G,z,E,I,Y,S,R,pc,wc,rc,D,kc,kf,hk,a0];refine ih (h++[r]) _ _ (by rw[h1];simp) (by rw[h2,Cu,hk,en,cD];rfl) ?_ ?_ ?_ ?_ ⟨?_,?_,F.q6,F.l6,?_,?_,?_⟩
   all_goals simp only[sL,seval,Z,G,z,F.h3,F.h6,F.h12,F.h13,F.h14,sA]
  |false=>
   have hb:oD l o=true:=by unfold oD;rw[h2,Cu,hk,dA];rfl
   obtain⟨A,s1,a1,a2,a3,a4,a5,a6,a7⟩:=Bx (t:=35) jn.1 rfl (by decide) (s:=s) (y:=.list 3 [eL 1 [o.id]] .GE) (x:=eL 1 [o.id]) hO (by simp only[fH,em]) b1 V T;simp only[eL,eA,t8,aA] at a1;refine bq ?_;simp only[go_sem,seval,IT,aA,Z,e3,e6,eg,el,G,z,E,I,Y,S,R,pc,wc,rc,D,kc,kf,hk,O,bj,bc,aX,aZ,evc];simp only[go_sem,seval,aA,Z,O,e6,eg,el,rc,a1,a3,bj,bc,aX,aZ,evc];refine hx _ _ s1 A (by rw[hb];exact a2) a5 (by omega) a7 ?_ ⟨?_,?_,F.q6,F.l6,?_,?_,?_⟩
   all_goals simp only[sL,seval,F.h3,F.h6,F.h12,F.h13,F.h14]
def aur(S:No Q 300)(R:No Q 408)(T:No Q 218)(V:No Q 125)(ho:ax 6 Obj.val ov l)(hg: ∀o∈l,o.Al)(hl:l.length<=900)(hr: ∀o∈l,o.gE.length<1000)(h5: ∀o∈l,an o.uP 5=true->o.gE.length=3)(al:a<lo){s0:St}(hM:bJ aa.str s0 a (ji l))(hx: ∀e lc s y,cP 3 lo s y (QC l)->ac e 4=y->K (.exit 0) ⟨e,46,lc⟩ s):
 ∀(w t:List Obj) (e:aw) (lc:Ag.Loc) (s:St) (y:aa),l=t++w->cP 3 lo s y ((t.filter (oD l)).map fun o=>eL 1 [o.id])->(∀k,k<lo->s.get [] k=s0.get [] k)->lo<=s.aL->s.gt<=s.aL->ac e 3= .map a->ac e 4=y->ac e 12=ov->ac e 13=aM l.length->ac e 14=aM t.length->W Q 58 (.loop OT) ⟨e,46,lc⟩ s K:=by
 intro w
 induction w with
 |nil=>
  intro t e lc s y O hO J a5 Y h3 h4 M G E;have a6:t.length=l.length:=by rw[O];simp
  have a3:t=l:=by rw[O];simp
  refine bq ?_;simp only[go_sem,seval,OT,G,E,a6,cq];rw[a3] at hO;exact hx _ _ _ y hO (by simp only[sN,seval,h4])
 |cons o w ih=>
  intro t e lc s y O hO J a5 Y h3 h4 M G E;have a4:t.length<l.length:=by rw[O];simp
  have Z:l[t.length]? =some o:=by rw[O];simp
  have z:=dB Z;have go:=hg o z;have rc:=go.all;have a7:=fun lc k=>ho.at fD.2.2.1 Z lc k;have a1:=dg (n:=t.length) (by omega);have a2:(vB o).length=o.gE.length:=by unfold vB;rw[bP,DM]
  have I:=axF S R T V go (hr o z) (h5 o z) (s:=s) Y;simp only[Obj.val,Obj.cells] at I;refine bq ?_;simp only[go_sem,seval,OT,M,G,E,a4,a7,Obj.val,Obj.cells,rc];refine ct.ex I (by decide) ?_;rintro wv s1 ⟨A,n1,m1,o1⟩;have wc:=A.ge;have wl:=A.len;have b0:bJ aa.str s1 a (ji l):=(o1 a (by omega)).trans ((J a al).trans hM);have a9:cP 3 lo s1 y ((t.filter (oD l)).map fun o=>eL 1 [o.id]):=by
   rcases hO with h|⟨q1,k,q2,q3,q4,q5⟩
   exact .inl h;exact .inr ⟨q1,k,q2,(o1 k q5).trans q3,q4,by omega⟩
  have a8:((t.filter (oD l)).map fun o=>eL 1 [o.id]).length<=900000:=by
   rw[bP]
   have:=kE (oD l) t;omega
  simp only[go_sem,seval,wc,wl,a2];refine aul b0 m1 (by omega) go (hr o z) A a9 a8 (ov:=ov) (n:=l.length) (i:=t.length) (g6:=lc.gen 6+1) ?_ o.gE [] _ _ rfl (auo l o) ?_ ?_ ?_ ?_ ⟨?_,?_,?_,?_,?_,?_,?_⟩
  ·intro e2 b2 s2 a0 D m2 l2 o2 c4 F
   have b1:=F.h14;simp only[go_sem,seval,b1,a1];refine ih (t++[o]) _ _ s2 a0 (by rw[O];simp) ?_ (fun k hk=>(o2 k hk).trans ((o1 k (by omega)).trans (J k hk))) l2 m2 ?_ ?_ ?_ ?_ ?_;cases hb:oD l o with
   |false=>
    rw[hb,cF,nD] at D;rw[pn hb];exact D
   |true=>
    rw[hb,cT] at D;rw[uJ hb,eE];exact D
   all_goals simp only[sN,seval,c4,F.h3,F.h12,F.h13,sA]
  all_goals simp only[sL,seval,h3,h4,M,G,E,cV]
  all_goals rfl
def aum(w:No Q 300)(t:No Q 408)(y:No Q 218)(z:No Q 125)(E:No Q 65)(V:No Q 58)(h:ax 6 Obj.val ov l)(R: ∀o∈l,o.Al)(hl:l.length<=900)(Z: ∀o∈l,o.gE.length<=999)(A:cZ l=true)(hm:s.gt<=s.aL):
 ∃v O,aq Q 58 [.agg [ov]] s v O/\gm O.heap v (Gm l):=by
 have D:=h.cs;have J:=h.lenS fD;have h5: ∀o∈l,an o.uP 5=true->o.gE.length=3:=fun o I T=>by
  simp only[cZ,bm] at A;obtain⟨_,_,M⟩:=ar7.1 (Jo l [] A.1 o I);have e1:an o.uP 1=false:=by
   have:o.uP=5:=of_decide_eq_true T;rw[this];rfl
  rw[e1,T] at M;simp only[cF,cT,bm,bE] at M;exact M.1
 refine aq.ofNRZ apq (bT ?_);simp only[go_sem,seval,D];refine ct.ex (Z5 E h R (by omega) (qA A) hm) (by decide) ?_;rintro v G ⟨rfl,hM,n1,Y,o1⟩;simp only[go_sem,seval,D,J];refine aur w t y z h R hl (fun o h=>by have:=Z o h;omega) h5 (a:=s.aL) (lo:=G.aL) (by omega) (s0:=G) hM ?_ l [] _ _ G .AL rfl (.inl ⟨rfl,rfl⟩) (fun _ _=>rfl) (bk _) Y ?_ ?_ ?_ ?_ ?_;intro e lc s2 tv S h4;have F:=S.ge;simp only[go_sem,seval,h4,F];refine⟨_,rfl,4,B7 S fun v A=>?_⟩;obtain⟨i,_,rfl⟩:=cx.1 A;exact Et _ _ _
 all_goals simp only[aW,nQ,ai,bG,cV]
 all_goals rfl
def C8:Sp
 | [v]=>(lG v).bind fun l=>bif mp l then some (Gm l) else none
 |_=>none
def auq:cQ ah 58 C8:=by
 intro args u t G h w xs F J;unfold C8 at t;split at t;simp only[aj] at t;obtain⟨l,D,t⟩:=t;obtain⟨y,t⟩:=aY t;have t:=sI t;subst t;obtain⟨v,rfl,D,E,R⟩:=rj D;obtain⟨M,I,z,A⟩:=qK D E;have z:dz [.agg [v]]=[.agg [I]]:=by simp only[dz,z]
 have y:=oM.1 y;refine jo (T:=[]) (W:=[]) .nil .nil (args:=[.agg [v]]) (by simp only[ei,M,bW]) (fun O=>?_) G h w xs F J;rw[z];exact aum (Q:=QW [] [] O) ⟨rfl,rfl⟩ ⟨rfl,rfl⟩ ⟨rfl,rfl⟩ ⟨rfl,rfl⟩ ⟨rfl,rfl⟩ ⟨rfl,rfl⟩ A E y.len y.gE y.valid (by decide);cases t
def xV.run{Q:aD}{d:Tmp}{s1:St}{C:Fr->St->Prop}{g:FuncId}{args:List aa}(t:aq Q g args s v s1)(w:d<sz)(h:C ⟨e.set d (some v),sz,lc⟩ s1):xV Q d e sz lc s C g args (Q.spec g):=by
 cases hs:Q.spec g with
 |none=>exact⟨v,s1,t,w,h⟩
 |some sp=>
  obtain⟨z,y⟩:=aq.sp_inv hs t;subst y;exact⟨v,lc,s1,by rw[z];rfl,w,h⟩
def QH(t:n<=1000000000)(h:b<=88):iY n b=true:=by
 unfold iY;apply cE;have:(n*2+1024)*b<=2000001024*88:=qZ (by omega) h;omega
variable{xs:List aa}
def TE{t:TypeId}{E:EI}(T:lQ ah t=some E)(V:E.n=sz)(S:E.b<=88){y x:aa}(h:cP sz lo s ov xs)(J:em [] E.g E.n y s=some [x])(O:xs.length<=900000000)(F:lo<=s.aL)(M:s.gt<=s.aL):
 ∃w z,fB ah [] t ov y false s=some (w,z)/\cP sz lo z w (xs++[x])/\w.cells=[w]/\z.aL=s.aL+1/\z.gt<=z.aL/\(∀n,n<s.aL->s.get [] n≠some .tok->z.get [] n=s.get [] n)/\(∀n,n<lo->z.get [] n=s.get [] n):=by
 subst V;rcases h with⟨rfl,rfl⟩|⟨D,k,rfl,R,Z,Y⟩
 have G:iY [x].length E.b=true:=QH (by simp) S;refine⟨.list E.n [x] (.own s.aL),s.new .tok,?_,.inr ⟨by simp,s.aL,rfl,by rw[eT,bS];rfl,F,kF _⟩,rfl,rfl,bU M,fun n A _=>?_,fun n A=>?_⟩;simp only[dW,fB,T,J,jM,kB,G,cF];rw[eT,bN.2 (by omega)];rfl;rw[eT,bN.2 (by omega)];rfl;have G:iY (xs.length+ [x].length) E.b=true:=QH (by simp;omega) S;refine⟨.list E.n (xs++[x]) (.own s.aL),(s.put k none).new .tok,?_,.inr ⟨by simp,s.aL,rfl,by rw[eT,mA,bS];rfl,F,kF _⟩,rfl,rfl,bU (cR s k none M),fun n A I=>?_,fun n A=>?_⟩;simp only[fH,fB,T,bg,J,jM,R,G,bW];have D:n≠k:=fun e=>I (by rw[e];exact R);rw[eT,mA,bN.2 (by omega),cF,aR,bN.2 D];rfl;rw[eT,mA,bN.2 (by omega),cF,aR,bN.2 (by omega)];rfl
abbrev VQ:=Int×List ae×Bool
def nA:Bool->nL
 |true=>.no
 |false=>.GE
def gg(name:ae)(q:VQ):aa:=.agg [.str name,ag q.1,.list 1 (q.2.1.map aA) (nA q.2.2)]
variable{α:Type}
def AD(n:Nat)(enc:α->aa): ∀l:List α,ax n enc (io n (l.map enc)) l
 | []=>.inl ⟨rfl,rfl⟩
 |_::_=>.inr ⟨_,rfl⟩
def ajq(h:aC aJ)(name:ae)(q:VQ):cC h 3 (gg name q)=some (gg name q):=by
 have e:cC h 2 (.list 1 (q.2.1.map aA) (nA q.2.2))=some (.list 1 (q.2.1.map aA) (nA q.2.2)):=Hx h (by rw[AO];cases q.2.2<;>rfl) fun v t=>by
  obtain⟨x,_,rfl⟩:=cx.1 t;rfl
 show(dq (cC h 2) [.str name,ag q.1,.list 1 (q.2.1.map aA) (nA q.2.2)]).bind (fun r=>some (aa.agg r))=_;rw[yd fun v t=>?_];rfl;simp only[dl,vH,or_false] at t;rcases t with rfl|rfl|rfl
 rfl;rfl;exact e
variable{views:List ae}{vv:aa}
def arp(A:ax 1 aA vv views)(y:views.length<=1000000)(t:s.gt<=s.aL):
 ∃nv h,fB ah [] 25 (.list 1 [.str []] .GE) vv false s=some (nv,h)/\ax 1 aA nv ([]::views)/\s.aL<=h.aL/\h.gt<=h.aL/\ ∀i,i<s.aL->h.get [] i=s.get [] i:=by
 rcases A with⟨rfl,rfl⟩|⟨r,rfl⟩
 exact⟨.list 1 ([([]:ae)].map aA) .GE,s,by simp only[dW,fB,co,em,Ap];rfl,.inr ⟨_,rfl⟩,bk _,t,fun _ _=>rfl⟩;cases views with
 |nil=>exact⟨.list 1 ([([]:ae)].map aA) .GE,s,by simp only[fH,fB,co,bg,em,t8,Ap];rfl,.inr ⟨_,rfl⟩,bk _,t,fun _ _=>rfl⟩
 |cons x views=>
  have w:iY ([aa.str []]++(x::views).map aA).length 16=true:=QH (by simp only[fh,cD,bP] at y ⊢;omega) (by decide);refine⟨.list 1 ([aa.str []]++(x::views).map aA) (.own s.aL),s.new .tok,?_,.inr ⟨_,rfl⟩,jV _,bU t,fun i z=>ck z⟩;rw[eA] at w ⊢;simp only[fH,fB,co,bg,em,cF,jM,kB,w]
def fV(c:FuncId×List aa):aa:=.func (.func c.1) [] c.2
structure GL (g10:Nat) (ov mv nv cv:aa) (nn i nc j:Nat) (name:ae) (e:aw) (lc:Ag.Loc):Prop where
 h2:ac e 2= .Ge 2 1 0
 g2:lc.gen 2=1
 l2:lc.get 2 1=some [ov]
 h6:ac e 6=cv
 h9:ac e 9= .str name
 h10:ac e 10= .Ge 10 g10 0
 q10:lc.gen 10=g10
 l10:lc.get 10 g10=some [mv]
 h24:ac e 24=nv
 h25:ac e 25=aM nn
 h26:ac e 26=aM i
 h33:ac e 33=cv
 h34:ac e 34=aM nc
 h35:ac e 35=aM j
variable{bse:List aa}{g10:Nat}{cv mv nv:aa}
def axD{name:ae}{L:List VQ}(hV:ax 3 (gg []) vv L)(b1:bse.length+L.length<=900000000){nn nc:Nat}{s0:St}(hx: ∀e lc s D,cP 3 lo s D (bse++L.map (gg name))->oz s0 s->lo<=s.aL->(∀k,k<lo->s.get [] k=s0.get [] k)->ac e 7=D->GL g10 ov mv nv cv nn i nc j name e lc->K (.exit 4) ⟨e,57,lc⟩ s):
 ∀(w h:List VQ) (e:aw) (lc:Ag.Loc) (s:St) (D:aa),L=h++w->cP 3 lo s D (bse++h.map (gg name))->oz s0 s->lo<=s.aL->(∀k,k<lo->s.get [] k=s0.get [] k)->ac e 7=D->ac e 41=vv->ac e 42=aM L.length->ac e 43=aM h.length->GL g10 ov mv nv cv nn i nc j name e lc->W Q 18 (.loop NY) ⟨e,57,lc⟩ s K:=by
 intro w
 induction w with
 |nil=>
  intro h e lc s D J R S G E T I A z F;have a8:h.length=L.length:=by rw[J];simp
  have Z:h=L:=by rw[J];simp
  refine bq ?_;simp only[go_sem,seval,NY,A,z,a8,cq];rw[Z] at R;refine hx _ _ _ D R S G E ?_ ⟨?_,F.g2,F.l2,?_,?_,?_,F.q10,F.l10,?_,?_,?_,?_,?_,?_⟩
  all_goals simp only[sN,seval,T,F.h2,F.h6,F.h9,F.h10,F.h24,F.h25,F.h26,F.h33,F.h34,F.h35]
 |cons q w ih=>
  intro h e lc s D J R S G E T I A z F;have a0:h.length<L.length:=by rw[J];simp
  have b0:L[h.length]? =some q:=by rw[J];simp
  have a9:=fun lc k=>hV.at jn.2.2.1 b0 lc k;have Y:=dg (n:=h.length) (by omega);have M:=R.ge;have e9:=F.h9;obtain⟨V,s1,a1,a2,a3,a4,a5,a6,a7⟩:=TE (t:=35) jn.1 rfl (by decide) (s:=s) (y:=.list 3 [gg name q] .GE) (x:=gg name q) R (by simp only[fH,em]) (by rw[cD,bP];omega) G S.mw;simp only[gg] at a1;refine bq ?_;simp only[go_sem,seval,NY,gg,e9,T,I,A,z,a0,a9,M,bj,bc,aX,aZ,evc];simp only[go_sem,seval,gg,T,z,Y,M,a1,a3,bj,bc,aX,aZ,evc];refine ih (h++[q]) _ _ s1 V (by rw[J];simp) (by rw[eE,<-lV];exact a2) (S.app a4 a5 a6) (by omega) (fun k O=>(a7 k O).trans (E k O)) ?_ ?_ ?_ ?_ ⟨?_,?_,?_,?_,?_,?_,?_,?_,?_,?_,?_,?_,?_,?_⟩
  all_goals simp only[sL,seval,I,A,F.h2,F.g2,F.l2,F.h6,F.h9,F.h10,F.q10,F.l10,F.h24,F.h25,F.h26,F.h33,F.h34,F.h35,sA]
def pK(name:ae)(cs:List ((FuncId×List aa)×List VQ)):List aa:=cs.flatMap fun c=>c.2.map (gg name)
def atB(name:ae)(cs:List ((FuncId×List aa)×List VQ))(c:(FuncId×List aa)×List VQ):pK name (cs++[c])=pK name cs++c.2.map (gg name):=by
 unfold pK;rw[List.flatMap_append,Bj,List.flatMap_nil,nD]
variable{wc:List aa}{rb:Nat}
def agP{name:ae}{cs:List ((FuncId×List aa)×List VQ)}(hC:ax 1 fV cv (cs.map (·.1)))(b3:cs.length<=1000)(Y:rb<lo)(mc:mv.ge=true)(ms:mv.cells=[mv]){s0:St}(Z:s0.get [] rb=some (.cells wc))(hc: ∀c∈cs, ∀s:St,s.get [] rb=some (.cells wc)-> ∃v,aq Q c.1.1 (.agg [mv]::c.1.2) s v s/\ax 3 (gg []) v c.2)(a5:bse.length+(pK name cs).length<=900000000){nn:Nat}(hx: ∀e lc s w,cP 3 lo s w (bse++pK name cs)->lo<=s.aL->s.gt<=s.aL->(∀k,k<lo->s.get [] k=s0.get [] k)->ac e 7=w->GL g10 ov mv nv cv nn i cs.length cs.length name e lc->K (.exit 2) ⟨e,57,lc⟩ s):
 ∀(t h:List ((FuncId×List aa)×List VQ)) (e:aw) (lc:Ag.Loc) (s:St) (w:aa),cs=h++t->cP 3 lo s w (bse++pK name h)->lo<=s.aL->s.gt<=s.aL->(∀k,k<lo->s.get [] k=s0.get [] k)->ac e 7=w->GL g10 ov mv nv cv nn i cs.length h.length name e lc->W Q 18 (.loop NZ) ⟨e,57,lc⟩ s K:=by
 intro t
 induction t with
 |nil=>
  intro h e lc s w z R D A y h7 F;have J:h.length=cs.length:=by rw[z];simp
  have a0:h=cs:=by rw[z];simp
  have G:=F.h34;have E:=F.h35;refine bq ?_;simp only[go_sem,seval,NZ,G,E,J,cq];rw[a0] at R;refine hx _ _ _ w R D A y ?_ ⟨?_,F.g2,F.l2,?_,?_,?_,F.q10,F.l10,?_,?_,?_,?_,?_,?_⟩
  all_goals simp only[sN,seval,h7,J,F.h2,F.h6,F.h9,F.h10,F.h24,F.h25,F.h26,F.h33,F.h34,F.h35]
 |cons c t ih=>
  intro h e lc s w z R D A y h7 F;have a1:h.length<cs.length:=by rw[z];simp
  have a6:(cs.map (·.1))[h.length]? =some c.1:=by rw[z];simp
  have a4:c∈cs:=by rw[z];simp
  have a3:=fun lc k=>hC.at Dj.2.2.1 a6 lc k;have T:=dg (n:=h.length) (by omega);have a8:=F.h33;have G:=F.h34;have E:=F.h35;have a9:=F.h10;have eg:=F.q10;have el:=F.l10;have b0:=hC.ge;obtain⟨v,I,V⟩:=hc c a4 s ((y rb Y).trans Z);have vc:=V.ge;have vl:=V.lenS jn;have O:(bse++pK name h).length+c.2.length<=900000000:=by
   have:pK name cs=(pK name h++c.2.map (gg name))++pK name t:=by
    rw[z];unfold pK;rw[List.flatMap_append,Bj,lV]
   rw[this,cD,cD,bP] at a5;rw[cD];omega
  refine bq ?_;simp only[go_sem,seval,NZ,fV,a8,G,E,a9,eg,el,a1,a3,b0,mc,ms,zW,BH];refine xV.run I (by decide) ?_;simp only[go_sem,seval,vc,vl];refine axD (name:=name) V (lo:=lo) (bse:=bse++pK name h) O (s0:=s) (g10:=g10) (ov:=ov) (mv:=mv) (nv:=nv) (cv:=cv) (nn:=nn) (i:=i) (nc:=cs.length) (j:=h.length) ?_ c.2 [] _ _ s w rfl (by rw[t8,nD];exact R) (.refl A) D (fun _ _=>rfl) ?_ ?_ ?_ ?_ ⟨?_,F.g2,F.l2,?_,?_,?_,F.q10,F.l10,?_,?_,?_,?_,?_,?_⟩
  ·intro e2 b2 s2 S a7 a2 l2 o2 c7 F2
   have b1:=F2.h35;simp only[go_sem,seval,b1,T];refine ih (h++[c]) _ _ s2 S (by rw[z];simp) (by rw[atB,<-lV];exact a7) l2 a2.mw (fun k M=>(o2 k M).trans (y k M)) ?_ ⟨?_,F2.g2,F2.l2,?_,?_,?_,F2.q10,F2.l10,?_,?_,?_,?_,?_,?_⟩
   all_goals simp only[sN,seval,c7,F2.h2,F2.h6,F2.h9,F2.h10,F2.h24,F2.h25,F2.h26,F2.h33,F2.h34,sA]
  all_goals simp only[sN,seval,h7,F.h2,F.h6,F.h9,F.h10,F.h24,F.h25,F.h26,F.h33,F.h34,F.h35,cV]
  all_goals rfl
def AR(l:List Obj):List VQ:=(l.filter (oD l)).map fun o=>(1,[o.id],false)
def ut(l:List Obj):List VQ:=(oY (ph l)).map fun k=>(2,iI k,true)
def CM(l:List Obj):List VQ:=(v6 l).map (fun i=>(3,[i],false))++((nu (jd l)).filter (z7 l)).map fun q=>(4,[q.1,q.2],false)
def CO(l:List Obj):List VQ:=(l.filter (lI l)).map (fun o=>(5,[o.id],false))++(l.filter (kx l)).map fun o=>(6,[o.id],false)
def Dc(l:List Obj)(rl:List aG):List VQ:=(l.filter (xS l rl)).map fun o=>(7,[o.id],false)
def auk(l:List Obj):Gm l=io 3 ((AR l).map (gg [])):=by unfold Gm QC AR;rw[ll];rfl
def afQ(l:List Obj):Bb l=io 3 ((ut l).map (gg [])):=by unfold Bb ut;rw[ll];rfl
def arF(l:List Obj):DA l=io 3 ((CM l).map (gg [])):=by unfold DA u4 CM;rw[eE,ll,ll];rfl
def arJ(l:List Obj):Gl l=io 3 ((CO l).map (gg [])):=by unfold Gl ZR CO;rw[eE,ll,ll];rfl
def auS(l:List Obj)(rl:List aG):zj l rl=io 3 ((Dc l rl).map (gg [])):=by unfold zj JT Dc;rw[ll];rfl
def ru(l:List Obj)(rl:List aG):List (List VQ):=[AR l,ut l,CM l,CO l,Dc l rl]
def UI(rb:Nat):List (FuncId×List aa):=[(58,[]),(59,[]),(60,[]),(61,[]),(56,[.ptr rb 0])]
def BI(l:List Obj)(rl:List aG)(rb:Nat):List ((FuncId×List aa)×List VQ):=[((58,[]),AR l),((59,[]),ut l),((60,[]),CM l),((61,[]),CO l),((56,[.ptr rb 0]),Dc l rl)]
def lU(l:List Obj)(rl:List aG)(name:ae):List aa:=(ru (gJ l name) rl).flatMap fun L=>L.map (gg name)
theorem aaT(l:List Obj)(rl:List aG)(rb:Nat)(name:ae):pK name (BI (gJ l name) rl rb)=lU l rl name:=rfl
def sV(l:List Obj)(views:List ae)(rl:List aG):List aa:=bif cZ l then([]::views).flatMap (lU l rl) else []
def Rb(K:List CK):(oY K).length=K.length:=by
 unfold oY;rw[bP,(vq _ _ _).length_eq,bP]
theorem adq{rl:List aG}{name:ae}(h:l.length<=900):(lU l rl name).length<=3000000:=by
 have t:(gJ l name).length<=900:=eG (Dz l name).length_le h;generalize hL:gJ l name=L at t;have y:L.length*L.length<=900*900:=qZ t t;have E:(AR L).length<=L.length:=by unfold AR;rw[bP];exact kE _ _
 have D:(ut L).length<=L.length*L.length:=by unfold ut;rw[bP,Rb];exact TS L
 have A:(v6 L).length<=L.length:=by unfold v6;rw[bP];exact kE _ _
 have w:(jd L).length<=L.length:=by unfold jd;rw[bP];exact kE _ _
 have z:(jd L).length*(jd L).length<=900*900:=qZ (eG w t) (eG w t)
 grind [Qf,CM,bP,CO,Dc,lU,ru]
def RJ{l:List Obj}{rl:List aG}(h:l.length<=900): ∀N:List ae,(N.flatMap (lU l rl)).length<=N.length*3000000
 | []=>jW _
 |n::N=>by
  rw[Bj,cD,dM,mS];have w:=adq (rl:=rl) (name:=n) h;have t:=RJ (rl:=rl) h N;omega
def axA(t: ∀o∈l,o.Al)(name:ae): ∀o∈gJ l name,o.Al:=fun o h=>t o ((Dz l name).subset h)
def Z9(l:List Obj):(qJ l).ge=true/\(qJ l).cells=[qJ l]:=by cases l<;>exact⟨rfl,rfl⟩
def ZT(n:Nat)(l:List aa):(io n l).ge=true:=by cases l<;>rfl
theorem VF(h:mp l=true):l.length<small:=by
 have:=(oM.1 h).len
 grind [small]
variable{w0 w1 w2 w3:aa}
def auR(D:Q.spec 57=some yX)(h:No Q 56){L:List Obj}(F:ax 6 Obj.val mv L)(O: ∀o∈L,o.Al)(G:mp L=true)(M:s.get [] rb=some (.cells [w0,w1,w2,w3,vv,rv])){rl:List aG}(t:ax 8 aG.val rv rl)(J: ∀x∈rl,x.Ok)(z:rl.length<=1000000):aq Q 56 [.agg [mv],.ptr rb 0] s (zj L rl) s:=by
 have A:=F.cs;have y:=t.ge;have E:yX [.agg [mv],rv]=some (zj L rl):=by
  simp only[dW,yX,vR F O (VF G),Lp t J z,G]
 have I:=ZT 3 (JT L rl);refine aq.ofW (by rw[Std.P];exact IL.1) IL.2 IL.3 IL.4 h.s (ZT 3 (JT L rl)) ?_ (Std.H 56) h.w;refine bT ?_;unfold zj at E ⊢;simp only[go_sem,seval,A,y,M,aP,aQ,D,E,I]
def agQ(F:Q.spec 58=some C8)(E:Q.spec 59=some BE)(D:Q.spec 60=some CN)(A:Q.spec 61=some CP)(G:Q.spec 57=some yX)(w:No Q 56){L:List Obj}(I:ax 6 Obj.val mv L)(J: ∀o∈L,o.Al)(h:mp L=true){rl:List aG}(y:ax 8 aG.val rv rl)(O: ∀x∈rl,x.Ok)(z:rl.length<=1000000):
 ∀c∈BI L rl rb, ∀s:St,s.get [] rb=some (.cells [w0,w1,w2,w3,vv,rv])-> ∃v,aq Q c.1.1 (.agg [mv]::c.1.2) s v s/\ax 3 (gg []) v c.2:=by
 have t:=vR I J (VF h);intro c M s R;simp only[BI,dl,vH,or_false] at M;rcases M with rfl|rfl|rfl|rfl|rfl
 exact⟨Gm L,aq.sp F (by simp only[dW,C8,t,h]),by rw[auk];exact AD _ _ _⟩;exact⟨Bb L,aq.sp E (by simp only[dW,BE,t,h]),by rw[afQ];exact AD _ _ _⟩;exact⟨DA L,aq.sp D (by simp only[dW,CN,t,h]),by rw[arF];exact AD _ _ _⟩;exact⟨Gl L,aq.sp A (by simp only[dW,CP,t,h]),by rw[arJ];exact AD _ _ _⟩;exact⟨zj L rl,auR G w I J h R y O z,by rw[auS];exact AD _ _ _⟩
theorem axB(a6:Q.spec 28=some Ba)(ho:ax 6 Obj.val ov l)(hg: ∀o∈l,o.Al)(J:vO l){rl:List aG}(Y:rb<lo){N:List ae}(hN:ax 1 aA nv N)(b2:N.length<=201)(hC:ax 1 fV cv (UI rb)){s0:St}(Z:s0.get [] rb=some (.cells wc))(hc: ∀name, ∀c∈BI (gJ l name) rl rb, ∀s:St,s.get [] rb=some (.cells wc)-> ∃v,aq Q c.1.1 (.agg [qJ (gJ l name)]::c.1.2) s v s/\ax 3 (gg []) v c.2)(hx: ∀e lc s w,cP 3 lo s w (N.flatMap (lU l rl))->ac e 7=w->K (.exit 0) ⟨e,57,lc⟩ s):
 ∀(t h:List ae) (e:aw) (lc:Ag.Loc) (s:St) (w:aa),N=h++t->cP 3 lo s w (h.flatMap (lU l rl))->lo<=s.aL->s.gt<=s.aL->(∀k,k<lo->s.get [] k=s0.get [] k)->ac e 2= .Ge 2 1 0->lc.gen 2=1->lc.get 2 1=some [ov]->ac e 6=cv->ac e 7=w->ac e 24=nv->ac e 25=aM N.length->ac e 26=aM h.length->W Q 18 (.loop N3) ⟨e,57,lc⟩ s K:=by
 intro t
 induction t with
 |nil=>
  intro h e lc s w D hO I G E O g2 S h6 h7 A z y;have a2:h.length=N.length:=by rw[D];simp
  have a0:h=N:=by rw[D];simp
  refine bq ?_;simp only[go_sem,seval,N3,z,y,a2,cq];rw[a0] at hO;exact hx _ _ _ w hO (by simp only[sN,seval,h7])
 |cons name t ih=>
  intro h e lc s w D hO I G E O g2 S h6 h7 A z y;have a1:h.length<N.length:=by rw[D];simp
  have a5:N[h.length]? =some name:=by rw[D];simp
  have a3:=fun lc k=>hN.at co.2.2.1 a5 lc k;have T:=dg (n:=h.length) (by omega);have a4:=ho.ge;have q1:=axy ho hg (by have:=J.len;omega) name;have eo:tI l name=gJ l name:=by unfold tI;rw[J.valid];rfl
  rw[eo] at q1;obtain⟨mc,ms⟩:=Z9 (gJ l name);have a8:=hC.ge;have a7: ∀mk s',iG ah mk 98 cv s'=some (ag ((5:Nat):Int)):=hC.lenS Dj;have V:(h.flatMap (lU l rl)).length+(lU l rl name).length<=900000000:=by
   have a:=RJ (rl:=rl) J.len h;have b:=adq (rl:=rl) (name:=name) J.len;have c:h.length*3000000<=200*3000000:=Nat.mul_le_mul_right _ (by omega);omega
  refine bq ?_;simp only[go_sem,seval,N3,aA,O,g2,S,h6,A,z,y,a1,a3,a4,a6,q1,mc,ms,a8,a7];refine agP (name:=name) (cs:=BI (gJ l name) rl rb) hC (by show 5<=1000;decide) (lo:=lo) (rb:=rb) (wc:=wc) Y (ov:=ov) (mv:=qJ (gJ l name)) (nv:=nv) mc ms (s0:=s0) Z (hc name) (bse:=h.flatMap (lU l rl)) (by rw[aaT];exact V) (g10:=lc.gen 10+1) (nn:=N.length) (i:=h.length) ?_ (BI (gJ l name) rl rb) [] _ _ s w rfl (by simp_all [pK]) I G E ?_ ⟨?_,?_,?_,?_,?_,?_,?_,?_,?_,?_,?_,?_,?_,?_⟩
  ·intro e2 b0 s2 M b1 R m2 o2 c7 F
   have a9:=F.h26;simp only[go_sem,seval,a9,T];refine ih (h++[name]) _ _ s2 M (by rw[D];simp) ?_ R m2 o2 ?_ F.g2 F.l2 ?_ ?_ ?_ ?_ ?_
   grind [aaT]
   all_goals simp only[sN,seval,c7,F.h2,F.h6,F.h24,F.h25,sA]
  all_goals simp only[sL,seval,O,g2,S,h6,h7,A,z,y,cV]
  all_goals rfl
def agG(y:Q.spec 31=some jh)(a4:Q.spec 28=some Ba)(a2:Q.spec 58=some C8)(a1:Q.spec 59=some BE)(a0:Q.spec 60=some CN)(Z:Q.spec 61=some CP)(a3:Q.spec 57=some yX)(E:No Q 56)(a6:No Q 18)(T:ax 6 Obj.val ov l)(V: ∀o∈l,o.Al)(O:l.length<small)(hw:cZ l=true->vO l)(hV:ax 1 aA vv views)(a7:views.length<=200){rl:List aG}(R:ax 8 aG.val rv rl)(ok: ∀x∈rl,x.Ok)(S:rl.length<=1000000)(hm:s.gt<=s.aL):
 ∃v A,aq Q 18 [.agg [ov],.agg [w0,w1,w2,w3,vv,rv]] s v A/\gm A.heap v (io 3 (sV l views rl)):=by
 have w:=T.cs;have F:=hV.ge;have D:=AA T V O;obtain⟨z,h⟩:=bZ (s.new (.cells [w0,w1,w2,w3,vv,rv]));have zg:z.get [] s.aL=some (.cells [w0,w1,w2,w3,vv,rv]):=by rw[<-h];exact cG
 have zm:z.gt<=z.aL:=by rw[<-h];exact bU hm
 have zn:z.aL=s.aL+1:=by rw[<-h];rfl
 refine aq.ofNRZ anu (bT ?_);cases hmv:cZ l with
 |false=>
  rw[hmv] at D;simp only[go_sem,seval,w,h,y,D];refine⟨_,rfl,?_⟩;have:sV l views rl=[]:=by unfold sV;rw[hmv];rfl
  rw[this];exact⟨1,rfl⟩
 |true=>
  rw[hmv] at D;have W:=hw hmv;obtain⟨nv,I,b1,Y,b3,b4,b5⟩:=arp hV (by omega) zm;have M:=Y.ge;have J:=Y.lenS co;have hC:ax 1 fV (.list 1 [.func (.func 58) [] [],.func (.func 59) [] [],.func (.func 60) [] [],.func (.func 61) [] [],.func (.func 56) [] [.ptr s.aL 0]] .GE) (UI s.aL):=.inr ⟨.GE,rfl⟩;have a5:(aa.nilf).cells=[.nilf]:=rfl;simp only[go_sem,seval,a5,w,h,y,D,zW,BH,zg,aP,aQ,F,b1,M,J,Dj,bj,bc,aX,aZ,evc];refine axB a4 T V W (rl:=rl) (rb:=s.aL) (lo:=I.aL) (by omega) (wc:=[w0,w1,w2,w3,vv,rv]) Y (by rw[dM];omega) hC (s0:=I) ((b5 _ (by omega)).trans zg) (fun name c hc A hr=>agQ a2 a1 a0 Z a3 E (aaa _) (axA V name) (oM.2 (W.sub (Dz l name)).fine) R ok S c hc A hr) ?_ ([]::views) [] _ _ I .AL rfl (.inl ⟨rfl,rfl⟩) (bk _) b4 (fun _ _=>rfl) ?_ ?_ ?_ ?_ ?_ ?_ ?_ ?_;intro e lc s3 tv hO h7;have G:=hO.ge;simp only[go_sem,seval,h7,G];have e:sV l views rl=([]::views).flatMap (lU l rl):=by unfold sV;rw[hmv];rfl
  rw[e];refine⟨_,rfl,4,B7 hO fun v t=>?_⟩;obtain⟨name,_,t⟩:=kW.1 t;obtain⟨L,_,t⟩:=kW.1 t;obtain⟨q,_,rfl⟩:=cx.1 t;exact ajq _ _ _
  all_goals simp only[aW,nQ,ai,bG,cV]
  all_goals rfl
def SI:dp:=[(31,jh),(28,Ba),(58,C8),(59,BE),(60,CN),(61,CP),(57,yX)]
def aeh:du SI:=.cons wI (.cons axz (.cons auq (.cons afR (.cons arH (.cons arI (.cons auU .nil))))))
def yL(l:List Obj):Bool:= !cZ l||Hr l
def uv:Sp
 | [m,.agg [a,b,c,d,vv,rv]]=>(lG m).bind fun l=>(ek 1 iL vv).bind fun views=>(vV rv).bind fun rl=>bif yL l&&(decide (views.length<=200)&&ei [a,b,c,d]) then some (io 3 (sV l views rl)) else none
 |_=>none
variable{c d:aa}
def UG{m a b:aa}{rl:List aG}(w:lG m=some l)(h:ek 1 iL vv=some views)(t:vV rv=some rl)(A:yL l=true)(z:views.length<=200)(y:ei [a,b,c,d]=true):uv [m,.agg [a,b,c,d,vv,rv]]=some (io 3 (sV l views rl)):=by
 simp only[dW,uv,w,h,t,A,z,y,dT,bW]
def UH:cQ ah 18 uv:=by
 intro args u t G h w xs wr hx;unfold uv at t;split at t;rename_i m a b c d vv rv;simp only[aj] at t;obtain⟨l,T,views,z,rl,A,t⟩:=t;obtain⟨hf,t⟩:=aY t;have t:=sI t;subst t;simp only[bm,dE] at hf;obtain⟨D,V,y⟩:=hf;obtain⟨v,rfl,T,Z,hs⟩:=rj T;obtain⟨A,Y,R⟩:=Ln A;have z:=jN (fun _ _ h=>pf h) z;obtain⟨ht,v',I,S⟩:=qK T Z;obtain⟨M,F⟩:=QL A Y;obtain⟨J,E⟩:=n7 tS z;have I:dz [.agg [v],.agg [a,b,c,d,vv,rv]]=[.agg [v'],.agg [cW a,cW b,cW c,cW d,cW vv,cW rv]]:=by simp only[dz,cW,I];rw[<-I];simp only[cW,dz]
 have O:cZ l=true->vO l:=fun e=>by
  unfold yL at D;rw[e] at D;exact VD.1 (by simpa using D)
 simp only[ei,bm] at y;refine jo aeh (W:=[]) .nil (args:=[.agg [v],.agg [a,b,c,d,vv,rv]]) (by
  have:dL (.agg [a,b,c,d,vv,rv])=true:=by
   simp only[dL,ei,y.1,y.2.1,y.2.2.1,y.2.2.2.1,M,J,bW]
  simp only[ei,ht,this,bW]) (fun ch=>?_) G h w xs wr hx
 rw[I];exact agG (Q:=QW SI [] ch) rfl rfl rfl rfl rfl rfl rfl ⟨rfl,rfl⟩ ⟨rfl,rfl⟩ S Z hs O E V F Y R (by decide);cases t
abbrev VE:=ae×VQ
def fQ(p:VE):aa:=gg p.1 p.2
def zT:aa->Option VE
 | .agg [.str n,.int .i64 k,.list 1 xs .no]=>(hJ iL xs).bind fun l=>some (n,k,l,true)
 | .agg [.str n,.int .i64 k,.list 1 xs .GE]=>(hJ iL xs).bind fun l=>some (n,k,l,false)
 |_=>none
def TQ(p:VE):zT (fQ p)=some p:=by
 obtain⟨n,k,l,b⟩:=p;have h:=yH pg l;cases b with
 |true=>show(hJ iL (l.map aA)).bind _=_;rw[h];rfl
 |false=>show(hJ iL (l.map aA)).bind _=_;rw[h];rfl
variable{p:VE}
def G6(h:zT v=some p):v=fQ p:=by
 unfold zT at h;split at h;simp only[aj,aH] at h;obtain⟨l,t,rfl⟩:=h
 have:=Fq (fun _ _ h=>pf h) t;rw[this];rfl;simp only[aj,aH] at h;obtain⟨l,t,rfl⟩:=h
 have:=Fq (fun _ _ h=>pf h) t;rw[this];rfl;cases h
def Ek(p:VE):bH (fQ p)=true:=by
 obtain⟨n,k,l,b⟩:=p;have h:bH (.list 1 (l.map aA) (nA b))=true:=by rw[AO];cases b<;>rfl
 show(true&&(true&&(bH (.list 1 (l.map aA) (nA b))&&true)))=true;rw[h];rfl
def kJ(p q:VE):Bool:=p.1==q.1&&(an p.2.1 q.2.1&&tj p.2.2.1 q.2.2.1)
def qT:List VE->List VE->Bool
 | [],[]=>true
 |p::a,q::b=>kJ p q&&qT a b
 |_,_=>false
def aca: ∀ {a b:List VE},qT a b=true->a.length=b.length
 | [],[],_=>rfl
 | [],_::_,h=>by cases h
 |_::_,[],h=>by cases h
 |p::a,q::b,h=>by
  simp only[qT,bm] at h;rw[dM,dM,aca h.2]
def qw(l:List VE):Bool:=l.all fun p=>decide (p.2.2.1.length<=1000000)
variable{a:List VE}{u:aa}
def avd(M:Q.spec 35=some tk){b:List VE}(ha:ax 3 fQ u a)(hb:ax 3 fQ v b)(hl:a.length=b.length)(a5:a.length<=1000000000)(fa:qw a=true)(fb:qw b=true)(Z:s.gt<=s.aL)(hx: ∀e,qT a b=true->K (.exit 0) ⟨e,55,lc⟩ s)(hr: ∀e,qT a b=false->ac e 4= .bool false->K .ret ⟨e,55,lc⟩ s):
 ∀(F rb pa D:List VE) (e:aw),a=pa++F->b=D++rb->pa.length=D.length->qT a b=qT F rb->ac e 0=u->ac e 1=v->ac e 5=aM pa.length->W Q 17 (.loop Cm) ⟨e,55,lc⟩ s K:=by
 intro F;have y:=ha.lenS jn;have h:=ha.ge;have A:=hb.ge
 induction F with
 |nil=>
  intro rb pa D e R O h3 h4 t G w;have a4:pa.length=a.length:=by rw[R];simp
  have a3:rb=[]:=by
   have:b.length=D.length+rb.length:=by rw[O];simp
   exact tZ (by omega)
  subst a3;refine bq ?_;simp only[go_sem,seval,Cm,t,w,h,y,a4,cq];exact hx _ h4
 |cons p F ih=>
  intro rb pa D e R O h3 h4 t G w;have z:pa.length<a.length:=by rw[R];simp
  cases rb with
  |nil=>
   exfalso;have:b.length=D.length:=by rw[O];simp
   omega
  |cons q rb=>
   have J:a[pa.length]? =some p:=by rw[R];simp
   have I:b[pa.length]? =some q:=by rw[O,h3];simp
   have V:=fun lc k=>ha.at jn.2.2.1 J lc k;have T:=fun lc k=>hb.at jn.2.2.1 I lc k;have a0:=dg (n:=pa.length) (by omega);have f1:p.2.2.1.length<=1000000:=by
    have:=fu.1 fa p (dB J);simpa using this
   have f2:q.2.2.1.length<=1000000:=by
    have:=fu.1 fb q (dB I);simpa using this
   have S:tk [.list 1 (p.2.2.1.map aA) (nA p.2.2.2),.list 1 (q.2.2.1.map aA) (nA q.2.2.2)]=some (.bool (tj p.2.2.1 q.2.2.1)):=by
    have a1:=BA (v:=.list 1 (p.2.2.1.map aA) (nA p.2.2.2)) (.inr ⟨_,rfl⟩) (by rw[AO];cases p.2.2.2<;>rfl);have a2:=BA (v:=.list 1 (q.2.2.1.map aA) (nA q.2.2.2)) (.inr ⟨_,rfl⟩) (by rw[AO];cases q.2.2.2<;>rfl);have b1:bn p.2.2.1.length 1000000=true:=cE f1;have b2:bn q.2.2.1.length 1000000=true:=cE f2;simp only[dW,tk,a1,a2,b1,b2,bW]
   have Y:qT a b=(kJ p q&&qT F rb):=h4;refine lz ?_;cases e1:p.1==q.1 with
   |false=>
    have E:kJ p q=false:=by unfold kJ;rw[e1];rfl
    simp only[go_sem,seval,Cm,t,w,h,y,z];refine gK Z ?_;simp only[go_sem,Av,seval,t,G,w,h,A,V,T,fQ,gg,e1];exact hr _ (by rw[Y,E,dA]) (by simp only[sN,seval])
   |true=>
    cases e2:an p.2.1 q.2.1 with
    |false=>
     have E:kJ p q=false:=by unfold kJ;rw[e1,e2];rfl
     simp only[go_sem,seval,Cm,t,w,h,y,z];refine gK Z ?_;simp only[go_sem,Av,seval,t,G,w,h,A,V,T,fQ,gg,e1,e2];exact hr _ (by rw[Y,E,dA]) (by simp only[sN,seval])
    |true=>
     cases e3:tj p.2.2.1 q.2.2.1 with
     |false=>
      have E:kJ p q=false:=by unfold kJ;rw[e1,e2,e3];rfl
      rw[e3] at S;simp only[go_sem,seval,Cm,t,w,h,y,z];refine gK Z ?_;simp only[go_sem,Av,seval,t,G,w,h,A,V,T,fQ,gg,e1,e2];simp only[go_sem,Av,seval,M,S];exact hr _ (by rw[Y,E,dA]) (by simp only[sN,seval])
     |true=>
      have E:kJ p q=true:=by unfold kJ;rw[e1,e2,e3];rfl
      rw[e3] at S;simp only[go_sem,seval,Cm,t,w,h,y,z];refine gK Z ?_;simp only[go_sem,Av,seval,t,G,w,h,A,V,T,fQ,gg,e1,e2];simp only[go_sem,Av,seval,M,S,w,a0];refine ih rb (pa++[p]) (D++[q]) _ (by rw[R];simp) (by rw[O];simp) (by simp[h3]) (by rw[Y,E,en]) ?_ ?_ ?_
      all_goals simp only[sN,seval,t,G,sA]
def avb(G:Q.spec 35=some tk)(I:No Q 17){b:List VE}(F:ax 3 fQ u a)(D:ax 3 fQ v b)(E:a.length<=1000000000)(S:qw a=true)(R:qw b=true)(J:s.gt<=s.aL):aq Q 17 [u,v] s (.bool (qT a b)) s:=by
 have z:=F.lenS jn;have w:=D.lenS jn;have A:=F.ge;have y:=D.ge;refine aq.ofNZ ant (bT ?_);cases hn:an ((a.length:Nat):Int) ((b.length:Nat):Int) with
 |false=>
  have t:qT a b=false:=by
   cases h:qT a b with
   |false=>rfl
   |true=>
    rw[aca h] at hn;unfold an at hn;simp at hn
  simp only[go_sem,seval,A,y,z,w,hn,t]
 |true=>
  have M:a.length=b.length:=by
   have:=of_decide_eq_true hn;omega
  simp only[go_sem,seval,A,y,z,w,hn];refine avd G F D M E S R J ?_ ?_ a b [] [] _ rfl rfl rfl rfl ?_ ?_ ?_;intro e t;simp only[go_sem,seval,t];intro e t O;simp only[go_sem,seval,t,O]
  all_goals simp only[sN,seval,cV]
  all_goals rfl
def QR:Sp
 | [u,v]=>(ek 3 zT u).bind fun a=>(ek 3 zT v).bind fun b=>bif bn a.length 1000000000&&(qw a&&qw b) then some (.bool (qT a b)) else none
 |_=>none
def KU:dp:=[(35,tk)]
def S7:du KU:=.cons al4 .nil
def avc:cQ ah 17 QR:=by
 intro D x t G M w xs E J;unfold QR at t;split at t;rename_i u v;simp only[aj] at t;obtain⟨a,A,b,z,h⟩:=t;obtain⟨y,h⟩:=aY h;have h:=sI h;subst h;simp only[bm] at y;have A:=jN (fun _ _ h=>G6 h) A;have z:=jN (fun _ _ h=>G6 h) z;obtain⟨I,S⟩:=n7 Ek A;obtain⟨F,R⟩:=n7 Ek z;refine jo S7 (W:=[]) .nil (by simp only[ei,I,F,bW]) (fun O=>?_) G M w xs E J;exact⟨_,_,avb (Q:=QW KU [] O) rfl ⟨rfl,rfl⟩ S R (fF y.1) y.2.1 y.2.2 (by decide),⟨1,rfl⟩⟩;cases t
structure aG.OkS (x:aG):Prop where
 vals:ax 1 aA x.valuesV x.values
 pv:bH x.valuesV=true
 area:x.area.length<small
 key:x.key.length<small
 ifK:x.ifK.length<small
 len:x.values.length<small
def xQ:aa->Option aG
 | .agg [.bool st,.str a,.int .i64 k,.str ik,.str iv,.int .i64 op,.str key,vv]=>(ek 1 iL vv).bind fun vs=>bif bH vv&&(bh a.length small&&(bh key.length small&&(bh ik.length small&&bh vs.length small))) then some ⟨st,a,k,ik,iv,op,key,vv,vs⟩ else none
 |_=>none
variable{x:aG}
def TJ(h:xQ v=some x):v=x.val/\x.OkS:=by
 unfold xQ at h;split at h;simp only[aj] at h;obtain⟨vs,w,h⟩:=h;obtain⟨t,h⟩:=aY h;injection h with h;subst h
 simp only[bm] at t;exact⟨rfl,jN (fun _ _ h=>pf h) w,t.1,fF t.2.1,fF t.2.2.1,fF t.2.2.2.1,fF t.2.2.2.2⟩;cases h
def afj(h:x.OkS):xQ x.val=some x:=by
 have t:=pA pg h.vals;have A:bh x.area.length small=true:=cE h.area;have z:bh x.key.length small=true:=cE h.key;have y:bh x.ifK.length small=true:=cE h.ifK;have w:bh x.values.length small=true:=cE h.len;simp only[dW,xQ,aG.val,aG.cells,t,h.pv,A,z,y,w,bW]
def Zq: ∀ {xs:List aa} {l:List aG},hJ xQ xs=some l-> ∀x∈l,x.OkS
 | [],l,h=>by simp only[hJ,aH] at h;subst h;intro o w;cases w
 |x::xs,l,h=>by
  simp only[hJ,aj,aH] at h;obtain⟨a,A,r,z,rfl⟩:=h;intro y t;rcases dl.1 t with rfl|t
  exact(TJ A).2;exact Zq z y t
def Zs: ∀ {l:List aG},(∀x∈l,x.OkS)->hJ xQ (l.map aG.val)=some l
 | [],_=>rfl
 |x::l,h=>by
  simp only[eA,hJ,afj (h x gF),bg,Zs (l:=l) fun y t=>h y (fW _ t)]
def zR(v:aa):Option (List aG):=(ek 8 xQ v).bind fun l=>bif bh l.length small then some l else none
variable{l:List aG}
def TL(h:zR v=some l):ax 8 aG.val v l/\(∀x∈l,x.OkS)/\l.length<small:=by
 unfold zR at h;simp only[aj] at h;obtain⟨z,t,h⟩:=h;obtain⟨y,h⟩:=aY h;injection h with h;subst h
 refine⟨jN (fun v a h=>(TJ h).1) t,?_,fF y⟩;unfold ek at t;split at t;injection t with t;subst t;intro o w;cases w
 obtain⟨_,t⟩:=aY t;exact Zq t;cases t
def TM(h:ax 8 aG.val v l)(t: ∀x∈l,x.OkS)(w:l.length<small):zR v=some l:=by
 have y:ek 8 xQ v=some l:=by
  rcases h with⟨rfl,rfl⟩|⟨r,rfl⟩
  rfl;simp only[fH,ek,Zs t]
 have b:bh l.length small=true:=cE w;simp only[dW,zR,y,b]
def QK(h:ax 8 aG.val v l)(w: ∀x∈l,x.OkS):dL v=true/\ax 8 aG.val (cW v) l:=by
 have t:pures (l.map aG.val)=true:=by
  rw[AP];intro v z;obtain⟨x,y,rfl⟩:=cx.1 z;simp only[aG.val,aG.cells,bH,pures,(w x y).pv,bW]
 rcases h with⟨rfl,rfl⟩|⟨r,rfl⟩
 exact⟨rfl,.inl ⟨rfl,rfl⟩⟩;exact⟨by simpa[dL] using t,.inr (by
  simp only[cW,kC t];exact⟨_,rfl⟩)⟩
def F3(x:aG):Int:=IntKind.i64.wrap (IntKind.i64.wrap (IntKind.i64.wrap ((x.area.length:Nat)+(x.key.length:Nat):Int)+(x.ifK.length:Nat))+(x.ifV.length:Nat))
def v9(v:ae):Bool:=aV 300 ((v.length:Nat):Int)
def w8(x:aG):Bool:=aV 300 (F3 x)||aV 65 ((x.values.length:Nat):Int)
def se(x:aG):Bool:= !w8 x&&x.values.all fun v=> !v9 v
def uI(l:List aG)(n:Int):Bool:=l.all se&&bV ((l.length:Nat):Int) n
def ajt(Z:ax 8 aG.val rv l)(hi:l[i]? =some x)(M:x.OkS){n:Int}(hx: ∀e,(x.values.all fun v=> !v9 v)=true->ac e 0=rv->ac e 1=ag n->ac e 5=aM i->K (.exit 2) ⟨e,76,lc⟩ s)(hr: ∀e,(x.values.all fun v=> !v9 v)=false->ac e 4= .bool false->K .ret ⟨e,76,lc⟩ s):
 ∀(t h:List ae) (e:aw),x.values=h++t->(x.values.all fun v=> !v9 v)=(t.all fun v=> !v9 v)->ac e 0=rv->ac e 1=ag n->ac e 5=aM i->ac e 6=aM h.length->W Q 55 (.loop IK) ⟨e,76,lc⟩ s K:=by
 intro t;have a1:=i6;have a0:=M.len;have y:=M.vals.lenS co;have z:=M.vals.ge;have A:=Z.ge;have D:=fun lc k=>Z.at pS.2.2.1 hi lc k
 induction t with
 |nil=>
  intro h e J R E S F O;have V:h.length=x.values.length:=by rw[J];simp
  refine bq ?_;simp only[go_sem,seval,IK,E,F,O,A,D,aG.val,aG.cells,z,y,V,cq];refine hx _ R ?_ ?_ ?_
  all_goals simp only[sN,seval,E,S,F]
 |cons v t ih=>
  intro h e J R E S F O;have G:h.length<x.values.length:=by rw[J];simp
  have Y:x.values[h.length]? =some v:=by rw[J];simp
  have I:=fun lc k=>M.vals.at co.2.2.1 Y lc k;have T:IntKind.i64.wrap (((h.length:Nat):Int)+1)=((h.length+1:Nat):Int):=by rw[jE (by omega) (by omega)];omega
  refine bq ?_;cases hb:v9 v with
  |true=>
   have w:=hb;unfold v9 at w;simp only[go_sem,seval,IK,E,F,O,A,D,I,aG.val,aG.cells,aA,z,y,G,uW,w];exact hr _ (by rw[R,jq,hb];rfl) (by simp only[sN,seval])
  |false=>
   have w:=hb;unfold v9 at w;simp only[go_sem,seval,IK,E,F,O,A,D,I,aG.val,aG.cells,aA,z,y,G,uW,w,T];refine ih (h++[v]) _ (by rw[J];simp) (by rw[R,jq,hb];rfl) ?_ ?_ ?_ ?_
   all_goals simp only[sN,seval,E,S,F,sA]
def ajn(V:ax 8 aG.val rv l)(a1: ∀x∈l,x.OkS)(a3:l.length<small){n:Int}(hm:s.gt<=s.aL)(hx: ∀e,l.all se=true->ac e 0=rv->ac e 1=ag n->K (.exit 0) ⟨e,76,lc⟩ s)(hr: ∀e,l.all se=false->ac e 4= .bool false->K .ret ⟨e,76,lc⟩ s):
 ∀(w h:List aG) (e:aw),l=h++w->l.all se=w.all se->ac e 0=rv->ac e 1=ag n->ac e 5=aM h.length->W Q 55 (.loop Ff) ⟨e,76,lc⟩ s K:=by
 intro w;have hs:=i6;have t:=V.ge;have F:=V.lenS pS
 induction w with
 |nil=>
  intro h e S R y Y D;have a2:h.length=l.length:=by rw[S];simp
  refine lz ?_;simp only[go_sem,seval,Ff,y,D,t,F,a2,cq];refine hx _ R ?_ ?_
  all_goals simp only[sN,seval,y,Y]
 |cons x w ih=>
  intro h e S R y Y D;have G:h.length<l.length:=by rw[S];simp
  have J:l[h.length]? =some x:=by rw[S];simp
  have Z:=a1 x (dB J);have O:=Z.vals.ge;have M:=Z.vals.lenS co;have z:=fun lc k=>V.at pS.2.2.1 J lc k;have a0:IntKind.i64.wrap (((h.length:Nat):Int)+1)=((h.length+1:Nat):Int):=by rw[jE (by omega) (by omega)];omega
  have T:w8 x=true->l.all se=false:=fun I=>by
   rw[R,jq];have:se x=false:=by unfold se;rw[I];rfl
   rw[this,dA]
  cases E:aV 300 (F3 x) with
  |true=>
   have I:w8 x=true:=by unfold w8;rw[E,gZ]
   unfold F3 at E;refine lz ?_;simp only[go_sem,seval,Ff,y,D,t,F,G];refine gK hm ?_;simp only[go_sem,Cr,seval,y,D,t,z,aG.val,aG.cells,uW,E];exact hr _ (T I) (by simp only[sN,seval])
  |false=>
   cases e2:aV 65 ((x.values.length:Nat):Int) with
   |true=>
    have I:w8 x=true:=by unfold w8;rw[E,e2];rfl
    unfold F3 at E;refine lz ?_;simp only[go_sem,seval,Ff,y,D,t,F,G];refine gK hm ?_;simp only[go_sem,Cr,seval,y,D,t,z,aG.val,aG.cells,uW,E];simp only[go_sem,Cr,seval,y,D,t,z,aG.val,aG.cells,O,M,e2];exact hr _ (T I) (by simp only[sN,seval])
   |false=>
    have I:w8 x=false:=by unfold w8;rw[E,e2];rfl
    have hf:se x=(x.values.all fun v=> !v9 v):=by unfold se;rw[I];rfl
    unfold F3 at E;refine lz ?_;simp only[go_sem,seval,Ff,y,D,t,F,G];refine gK hm ?_;simp only[go_sem,Cr,seval,y,D,t,z,aG.val,aG.cells,uW,E];simp only[go_sem,Cr,seval,y,D,t,z,aG.val,aG.cells,O,M,e2];refine ajt V J Z (n:=n) ?_ ?_ x.values [] _ rfl rfl ?_ ?_ ?_ ?_
    ·intro E A c0 c1 c5
     simp only[go_sem,seval,c5,a0];refine ih (h++[x]) _ (by rw[S];simp) (by rw[R,jq,hf,A,en]) ?_ ?_ ?_
     all_goals simp only[sN,seval,c0,c1,sA]
    intro E A c4;exact hr _ (by rw[R,jq,hf,A,dA]) c4
    all_goals simp only[sN,seval,y,Y,D,cV]
    all_goals rfl
def aiL(E:No Q 55)(A:ax 8 aG.val rv l)(z: ∀x∈l,x.OkS)(y:l.length<small)(n:Int)(I:s.gt<=s.aL):aq Q 55 [rv,ag n] s (.bool (uI l n)) s:=by
 have t:=A.ge;have w:=A.lenS pS;refine aq.ofNZ apn (bT ?_);simp only[go_sem,seval,t];refine ajn A z y (n:=n) I ?_ ?_ l [] _ rfl rfl ?_ ?_ ?_;intro e h G F;have D:uI l n=bV ((l.length:Nat):Int) n:=by unfold uI;rw[h];rfl
 simp only[go_sem,seval,G,F,t,w,D];intro e h J;have D:uI l n=false:=by unfold uI;rw[h];rfl
 simp only[go_sem,seval,J,D]
 all_goals simp only[sN,seval,cV]
 all_goals rfl
def B0:Sp
 | [v,.int .i64 n]=>(zR v).bind fun l=>some (.bool (uI l n))
 |_=>none
def aiH(h:ax 8 aG.val v l)(t: ∀x∈l,x.OkS)(w:l.length<small)(n:Int):B0 [v,ag n]=some (.bool (uI l n)):=by
 simp only[B0,TM h t w,bg]
def aiI:cQ ah 55 B0:=by
 intro args u t G F w xs A D;unfold B0 at t;split at t;rename_i v n;simp only[aj] at t;obtain⟨l,M,h⟩:=t;have h:=sI h;subst h;obtain⟨E,z,y⟩:=TL M;obtain⟨J,I⟩:=QK E z;refine jo (T:=[]) (W:=[]) .nil .nil (args:=[v,ag n]) (by show(dL v&&_)=true;rw[J];rfl) (fun O=>?_) G F w xs A D;exact⟨_,_,aiL (Q:=QW [] [] O) ⟨rfl,rfl⟩ I z y n (by decide),⟨1,rfl⟩⟩;cases t
def xT(v:ae):Bool:=aV 60 ((v.length:Nat):Int)
def ws(l:List Obj)(views:List ae)(rl:List aG)(n:Int):Bool:=(views.all fun v=> !xT v)&&(rB l n&&(bV ((views.length:Nat):Int) 3&&uI rl 5))
def sm(l:List Obj)(rl:List aG)(name:ae):List VE:=(ru (gJ l name) rl).flatMap fun L=>L.map fun q=>(name,q)
def ado(l:List Obj)(rl:List aG)(name:ae):lU l rl name=(sm l rl name).map fQ:=by
 unfold lU sm;rw[List.map_flatMap];congr 1;funext L;rw[ll];rfl
def kI(l:List Obj)(views:List ae)(rl:List aG):List VE:=bif cZ l then([]::views).flatMap (sm l rl) else []
def UF(l:List Obj)(views:List ae)(rl:List aG):sV l views rl=(kI l views rl).map fQ:=by
 unfold sV kI;cases cZ l with
 |false=>rfl
 |true=>
  show([]::views).flatMap (lU l rl)=(([]::views).flatMap (sm l rl)).map fQ;rw[List.map_flatMap];congr 1;funext name;exact ado l rl name
variable{l:List Obj}
def UE(h:cZ l=true->l.length<=900)(views:List ae)(rl:List aG):(kI l views rl).length<=(views.length+1)*3000000:=by
 unfold kI;cases hv:cZ l with
 |false=>exact jW _
 |true=>
  have w:=RJ (rl:=rl) (h hv) ([]::views);have t:(([]::views).flatMap (sm l rl)).length=(([]::views).flatMap (lU l rl)).length:=by
   have:([]::views).flatMap (lU l rl)=(([]::views).flatMap (sm l rl)).map fQ:=by
    rw[List.map_flatMap];congr 1;funext name;exact ado l rl name
   rw[this,bP]
  show(([]::views).flatMap (sm l rl)).length<=_;rw[t];simpa using w
def aiQ(V:ax 1 aA vv views)(a0:views.length<small){mv:aa}{n:Int}(O:lc.get 4 1=some [w0,w1,w2,w3,vv,rv])(Y:lc.gen 4=1)(hx: ∀e,(views.all fun v=> !xT v)=true->ac e 2=ag n->ac e 3= .Ge 3 1 0->ac e 4= .Ge 4 1 0->K (.exit 0) ⟨e,36,lc⟩ s)(hr: ∀e,(views.all fun v=> !xT v)=false->ac e 6= .bool false->K .ret ⟨e,36,lc⟩ s):
 ∀(t h:List ae) (e:aw),views=h++t->(views.all fun v=> !xT v)=(t.all fun v=> !xT v)->ac e 2=ag n->ac e 3= .Ge 3 1 0->ac e 4= .Ge 4 1 0->ac e 7=aM h.length->W Q 16 (.loop H6) ⟨e,36,lc⟩ s K:=by
 intro t;have hs:=i6;have z:=V.ge;have y:=V.lenS co
 induction t with
 |nil=>
  intro h e F I M J A G;have S:h.length=views.length:=by rw[F];simp
  refine bq ?_;simp only[go_sem,seval,H6,A,O,Y,G,z,y,S,cq];refine hx _ I ?_ ?_ ?_
  all_goals simp only[sN,seval,M,J,A]
 |cons v t Z=>
  intro h e F I M J A G;have D:h.length<views.length:=by rw[F];simp
  have T:views[h.length]? =some v:=by rw[F];simp
  have E:=fun lc k=>V.at co.2.2.1 T lc k;have R:IntKind.i64.wrap (((h.length:Nat):Int)+1)=((h.length+1:Nat):Int):=by rw[jE (by omega) (by omega)];omega
  refine bq ?_;cases hb:xT v with
  |true=>
   have w:=hb;unfold xT at w;simp only[go_sem,seval,H6,aA,A,O,Y,G,z,y,D,E,uW,w];exact hr _ (by rw[I,jq,hb];rfl) (by simp only[sN,seval])
  |false=>
   have w:=hb;unfold xT at w;simp only[go_sem,seval,H6,aA,A,O,Y,G,z,y,D,E,uW,w,R];refine Z (h++[v]) _ (by rw[F];simp) (by rw[I,jq,hb];rfl) ?_ ?_ ?_ ?_
   all_goals simp only[sN,seval,M,J,A,sA]
variable{rl:List aG}
def aiG(y:Q.spec 33=some B4)(Y:Q.spec 55=some B0)(a0:No Q 16)(ho:ax 6 Obj.val ov l)(hg: ∀o∈l,o.Al)(R:l.length<small)(V:ax 1 aA vv views)(O:views.length<small)(E:ax 8 aG.val rv rl)(ok: ∀x∈rl,x.OkS)(S:rl.length<small)(n:Int)(s:St):aq Q 16 [.agg [ov],.agg [w0,w1,w2,w3,vv,rv],ag n] s (.bool (ws l views rl n)) s:=by
 have w:=ho.cs;have A:=V.ge;have z:=V.lenS co;have F:=E.ge;have D:=aiN ho hg R n;have q2:=aiH E ok S 5;obtain⟨lc,h⟩:=bZ (Ag.Loc.set (Ag.Loc.set [] 3 1 [ov]) 4 1 [w0,w1,w2,w3,vv,rv]);have J:lc.get 4 1=some [w0,w1,w2,w3,vv,rv]:=by rw[<-h];rfl
 have Z:lc.gen 4=1:=by rw[<-h];rfl
 have M:lc.get 3 1=some [ov]:=by rw[<-h];rfl
 have g3:lc.gen 3=1:=by rw[<-h];rfl
 refine aq.ofNZ ans (bT ?_);simp only[go_sem,seval,w,h];refine aiQ V O (mv:=ov) (n:=n) J Z ?_ ?_ views [] _ rfl rfl ?_ ?_ ?_ ?_;intro e t I G r4;have T:ws l views rl n=(rB l n&&(bV ((views.length:Nat):Int) 3&&uI rl 5)):=by unfold ws;rw[t,en]
 rw[T];cases e1:rB l n with
 |false=>
  rw[e1] at D;simp only[go_sem,seval,I,G,M,g3,w,y,D,dA]
 |true=>
  rw[e1] at D;cases e2:bV ((views.length:Nat):Int) 3 with
  |false=>
   simp only[go_sem,seval,I,G,r4,M,g3,J,Z,w,A,z,y,D,e2,dA,gh]
  |true=>
   simp only[go_sem,seval,I,G,r4,M,g3,J,Z,w,A,z,F,y,D,e2,Y,q2,en]
 intro e t h6;have T:ws l views rl n=false:=by unfold ws;rw[t,dA]
 simp only[go_sem,seval,h6,T]
 all_goals simp only[sG,seval,cV]
 all_goals rfl
def B3:Sp
 | [m,.agg [a,b,c,d,vv,rv],.int .i64 n]=>(lG m).bind fun l=>(ek 1 iL vv).bind fun views=>(zR rv).bind fun rl=>bif bh views.length small&&ei [a,b,c,d] then some (.bool (ws l views rl n)) else none
 |_=>none
def SK:dp:=[(33,B4),(55,B0)]
def aej:du SK:=.cons aiO (.cons aiI .nil)
def aiJ{m a b:aa}(w:lG m=some l)(h:ek 1 iL vv=some views)(t:zR rv=some rl)(z:views.length<small)(y:ei [a,b,c,d]=true)(n:Int):B3 [m,.agg [a,b,c,d,vv,rv],ag n]=some (.bool (ws l views rl n)):=by
 have q:bh views.length small=true:=cE z;simp only[dW,B3,w,h,t,q,y,bW]
def aiK:cQ ah 16 B3:=by
 intro args u t G h w xs Z hx;unfold B3 at t;split at t;rename_i m a b c d vv rv n;simp only[aj] at t;obtain⟨l,R,views,z,rl,A,t⟩:=t;obtain⟨Y,t⟩:=aY t;have t:=sI t;subst t;simp only[bm] at Y;obtain⟨S,y⟩:=Y;obtain⟨v,rfl,R,V,hs⟩:=rj R;obtain⟨A,T,M⟩:=TL A;have z:=jN (fun _ _ h=>pf h) z;obtain⟨ht,v',F,O⟩:=qK R V;obtain⟨J,E⟩:=QK A T;obtain⟨I,D⟩:=n7 tS z;have F:dz [.agg [v],.agg [a,b,c,d,vv,rv],ag n]=[.agg [v'],.agg [cW a,cW b,cW c,cW d,cW vv,cW rv],ag n]:=by simp only[dz,cW,F];rw[<-F];simp only[cW,dz]
 simp only[ei,bm] at y;refine jo aej (W:=[]) .nil (args:=[.agg [v],.agg [a,b,c,d,vv,rv],ag n]) (by
  have:dL (.agg [a,b,c,d,vv,rv])=true:=by
   simp only[dL,ei,y.1,y.2.1,y.2.2.1,y.2.2.2.1,J,I,bW]
  show(dL (.agg [v])&&(dL (.agg [a,b,c,d,vv,rv])&&_))=true;rw[ht,this];rfl) (fun ch=>?_) G h w xs Z hx
 rw[F];exact⟨_,_,aiG (Q:=QW SK [] ch) rfl rfl ⟨rfl,rfl⟩ O V hs D (fF S) E T M n _,⟨1,rfl⟩⟩;cases t
def sZ:aa->Bool
 | .agg _=>false
 | .tup _=>false
 | .list _ xs _=>pures xs
 |v=>bH v
def Ht(h:sZ v=true):dL v=true:=by
 cases v<;>first|exact h|(cases h;done)
def Hu(h:sZ v=true):sZ (cW v)=true:=by
 cases v with
 |list n xs r=>
  have h:pures xs=true:=h;simp only[cW,kC h];cases r<;>exact h
 |agg cs=>cases h
 |tup cs=>cases h
 |_=>rw[Gn h];exact h
def uL(a b c d:aa):Bool:=sZ a&&(sZ b&&(sZ c&&sZ d))
def Hv{a b:aa}(h:uL a b c d=true):ei [a,b,c,d]=true:=by
 simp only[uL,bm] at h;simp only[ei,Ht h.1,Ht h.2.1,Ht h.2.2.1,Ht h.2.2.2,bW]
def ai5{a b:aa}(h:uL a b c d=true):uL (cW a) (cW b) (cW c) (cW d)=true:=by
 simp only[uL,bm] at h ⊢;exact⟨Hu h.1,Hu h.2.1,Hu h.2.2.1,Hu h.2.2.2⟩
def aiM{l:List VE}(h: ∀p∈l,p.2.2.1.length<=2):qw l=true:=by
 unfold qw;rw[fu];intro p t
 have:=h p t;exact dQ (by omega)
variable{q:VQ}
def agN{L:List VQ}(t:L∈ru l rl)(h:q∈L):q.2.1.length<=2:=by
 simp only[ru,dl,vH,or_false] at t;rcases t with rfl|rfl|rfl|rfl|rfl
 obtain⟨o,_,rfl⟩:=cx.1 h;exact jV 1;obtain⟨k,_,rfl⟩:=cx.1 h;show(iI k).length<=2;unfold iI;cases k.1==k.2;exact bk 2;exact jV 1;rcases jb.1 h with h|h
 obtain⟨o,_,rfl⟩:=cx.1 h;exact jV 1;obtain⟨o,_,rfl⟩:=cx.1 h;exact bk 2;rcases jb.1 h with h|h
 obtain⟨o,_,rfl⟩:=cx.1 h;exact jV 1;obtain⟨o,_,rfl⟩:=cx.1 h;exact jV 1;obtain⟨o,_,rfl⟩:=cx.1 h;exact jV 1
def axv{name:ae}(h:p∈sm l rl name):p.2.2.1.length<=2:=by
 obtain⟨L,y,w⟩:=kW.1 h;obtain⟨q,t,rfl⟩:=cx.1 w;exact agN y t
def UD(h:p∈kI l views rl):p.2.2.1.length<=2:=by
 unfold kI at h;cases hv:cZ l with
 |false=>rw[hv] at h;cases h
 |true=>
  rw[hv] at h;obtain⟨n,_,t⟩:=kW.1 h;exact axv t
def al2(a:List ae):tj a a=true:=by
 rw[al1,ahk];rfl
def agO(rl:List aG):ru [] rl=[[],[],[],[],[]]:=by
 have h:oY (ph [])=[]:=by
  have e:ph []=[]:=by kernel_rfl
  have:=Rb (ph []);rw[e] at this ⊢;exact tZ this
 have t:ut []=[]:=by unfold ut;rw[h];rfl
 unfold ru;rw[t];rfl
def axw(rl:List aG)(name:ae):sm [] rl name=[]:=by
 have:gJ [] name=[]:=rfl;unfold sm;rw[this,agO];rfl
structure eN (C l:List Obj):Prop where
 sub:C.Sublist l
 val:cZ l=true
 at_: ∀o∈C, ∀r∈o.gE,cj r C=cj r l
def GW{α:Type}{p q:α->Bool}: ∀ {l:List α},(∀x∈l,p x=q x)->l.all p=l.all q
 | [],_=>rfl
 |a::l,h=>by rw[jq,jq,h a gF,GW fun x t=>h x (fW _ t)]
def CQ(t:cZ l=true)(h:o∈l):cj o.id l=some o:=CR (qA t) h
def Jm{p:Obj->Bool}{r:ae}: ∀ {l:List Obj},(l.map Obj.id).Nodup->cj r (l.filter p)=(cj r l).bind fun q=>bif p q then some q else none
 | [],_=>rfl
 |a::l,nd=>by
  have w:=List.nodup_cons.1 nd;have y:=Jm (p:=p) (r:=r) (l:=l) w.2;cases e:r==a.id with
  |true=>
   have t:cj r (a::l)=some a:=by simp only[cj,e,cT]
   have A:cj r (l.filter p)=none:=yJ fun h=>by
    obtain⟨q,z,D⟩:=cx.1 h;exact w.1 (by rw[<-eq_of_beq e,<-D];exact List.mem_map_of_mem (kV.1 z).1)
   rw[t,bg];cases hp:p a with
   |true=>rw[DK hp];simp only[cj,e,cT]
   |false=>rw[Bi (by simp[hp]),A];rfl
  |false=>
   have t:cj r (a::l)=cj r l:=by simp only[cj,e,cF]
   rw[t,<-y];cases hp:p a with
   |true=>rw[DK hp];simp only[cj,e,cF]
   |false=>rw[Bi (by simp[hp])]
namespace eN
variable{C l:List Obj}
def valC(P:eN C l):cZ C=true:=Pq P.val P.sub
def mem(P:eN C l)(h:o∈C):o∈l:=P.sub.subset h
def up(P:eN C l){r:ae}(h:cj r C=some o):cj r l=some o:=by
 obtain⟨t,rfl⟩:=mB h;exact CQ P.val (P.mem t)
def uP(P:eN C l)(t:o∈C){r:ae}(h:r∈o.gE):mZ C r=mZ l r:=by
 unfold mZ;rw[P.at_ o t r h]
def node(P:eN C l)(t:o∈C){r:ae}(h:r∈o.gE):di C r=di l r:=by
 unfold di;rw[P.uP t h]
def pt(P:eN C l)(t:o∈C){r:ae}(h:r∈o.gE):dS C r=dS l r:=by
 unfold dS;rw[P.at_ o t r h]
def nodes(P:eN C l)(t:o∈C):o.gE.all (di C)=o.gE.all (di l):=GW fun _ h=>P.node t h
def view(P:eN C l)(name:ae):eN (gJ C name) (gJ l name) where
 sub:=P.sub.filter _
 val:=Pq P.val (Dz l name)
 at_ o ho r hr:=by
  unfold gJ;rw[Jm (qA P.valC),Jm (qA P.val),P.at_ o ((Dz C name).subset ho) r hr]
def badRef_eq(P:eN C l)(t:o∈C):oD C o=oD l o:=by
 unfold oD FY;congr 1;exact GW fun p h=>by rw[P.uP t (GF h).2]
def lines_eq(P:eN C l)(h:o∈C):fR C o=fR l o:=by
 unfold fR tD;rw[P.nodes h]
def ring_eq(P:eN C l)(h:o∈C):tP C o=tP l o:=by
 unfold tP;rw[P.nodes h,Bl fun r t=>P.pt h t]
def proper_eq(P:eN C l)(h:o∈C):pL C o=pL l o:=by
 unfold pL;rw[P.ring_eq h]
def isProper_eq(P:eN C l)(h:o∈C):mt C o=mt l o:=by
 unfold mt;rw[P.proper_eq h]
def badRing_eq(P:eN C l)(h:o∈C):md C o=md l o:=by
 unfold md;rw[P.ring_eq h]
def properAt_eq(P:eN C l)(h:o∈C):mF C o.id=mF l o.id:=by
 unfold mF;rw[CQ P.valC h,CQ P.val (P.mem h),bg,bg,P.proper_eq h]
def properAt_up(P:eN C l){k:ae}{r:List Pt}(h:mF C k=some r):mF l k=some r:=by
 unfold mF at h;cases e:cj k C with
 |none=>rw[e] at h;cases h
 |some o=>
  obtain⟨t,rfl⟩:=mB e;rw[<-P.properAt_eq t];unfold mF;rw[e];rw[e] at h;exact h
def areas_sub(P:eN C l):(jd C).Sublist (jd l):=by
 unfold jd;rw[List.filter_congr fun o h=>P.isProper_eq h];exact(P.sub.filter _).map _
def crossMs_eq(P:eN C l){q:ae×ae}(z:q.1∈jd C)(y:q.2∈jd C):z7 C q=z7 l q:=by
 have h: ∀ {k:ae},k∈jd C->AU C k=AU l k:=fun {k} w=>by
  obtain⟨o,t,rfl⟩:=cx.1 w;unfold AU;rw[P.properAt_eq (kV.1 t).1]
 unfold z7;rw[h z,h y]
def way_eq(P:eN C l){r:ae}(h:cj r C=cj r l):i9 C r=i9 l r:=by
 unfold i9;rw[<-h];cases e:cj r C with
 |none=>rfl
 |some q=>
  rw[bg,bg,P.nodes (mB e).1]
def sound_eq(P:eN C l)(t:o∈C):pU C o=pU l o:=by
 unfold pU;exact GW fun p h=>by rw[P.node t (GF h).2,P.way_eq (P.at_ o t _ (GF h).2)]
def conn_eq(P:eN C l)(t:o∈C):x5 C o=x5 l o:=by
 unfold x5;rw[Bl fun r h=>by rw[P.way_eq (P.at_ o t r h)]]
def no_empty{l:List Obj}(t:cZ l=true):cj [] l=none:=yJ fun h=>by
 simp only[cZ,bm] at t;have w:=(EB l [] t.1).1 [] h;exact absurd w (by decide)
def ref_eq(P:eN C l)(h:o∈C)(i:Nat):cj (o.gE.getD i []) C=cj (o.gE.getD i []) l:=by
 rw[kU];cases e:o.gE[i]? with
 |none=>rw[Option.getD_none,no_empty P.valC,no_empty P.val]
 |some r=>exact P.at_ o h r (dB e)
def turn_eq(P:eN C l)(h:o∈C):zf C o=zf l o:=by
 unfold zf;rw[P.way_eq (P.ref_eq h 0),P.way_eq (P.ref_eq h 2)]
def badRoute_eq(P:eN C l)(h:o∈C):lI C o=lI l o:=by
 unfold lI;rw[P.sound_eq h,P.conn_eq h]
def badTurn_eq(P:eN C l)(h:o∈C):kx C o=kx l o:=by
 unfold kx;rw[P.sound_eq h,P.turn_eq h]
def refSeq_eq(P:eN C l){f g:Obj->List (Pt×Bool)}(t: ∀q∈C,f q=g q){k:Int}: ∀ {rs:List ae} {i:Nat},(∀r∈rs,cj r C=cj r l)->pM C f k i rs=pM l g k i rs
 | [],_,_=>rfl
 |r::rs,i,h=>by
  have z:=h r gF;have w:=refSeq_eq P t (k:=k) (rs:=rs) (i:=i+1) fun x y=>h x (fW _ y);unfold pM;rw[<-z,w];cases e:cj r C with
  |none=>rfl
  |some q=>simp only[t q (mB e).1]
def seq_eq(P:eN C l): ∀(n:Nat) {o:Obj},o∈C->oU C n o=oU l n o
 |0,_,_=>rfl
 |n+1,o,ho=>by
  unfold oU;rw[P.refSeq_eq (g:=oU l n) (fun q h=>P.seq_eq n h) (P.at_ o ho)]
def inside_up(P:eN C l)(t:o∈C){area:ae}(h:nZ C o.id area=true):nZ l o.id area=true:=by
 unfold nZ at h ⊢;rw[CQ P.valC t] at h;rw[CQ P.val (P.mem t)];cases e:mF C area with
 |none=>rw[e] at h;cases h
 |some r=>
  rw[e] at h;rw[P.properAt_up e];simp only at h ⊢;rw[<-P.seq_eq 3 t];exact h
def broken_up(P:eN C l)(t:o∈C)(h:ky C x o=true):ky l x o=true:=by
 unfold ky at h ⊢;simp only[bm,vF] at h ⊢;exact⟨h.1,h.2.1,h.2.2.imp id (P.inside_up t)⟩
def badRule_up(P:eN C l)(w:o∈C)(h:xS C rl o=true):xS l rl o=true:=by
 unfold xS at h ⊢;simp only[bm,List.any_eq_true] at h ⊢;obtain⟨A,x,t,z,y⟩:=h;exact⟨A,x,t,z,P.broken_up w y⟩
end eN
def Bv(h:List CK×(CK->List ae)):Prop:= ∀k y,y∈h.2 k->k∈h.1
structure zG (st st':List CK×(CK->List ae)):Prop where
 keys: ∀k,k∈st.1->k∈st'.1
 own: ∀k y,y∈st.2 k->y∈st'.2 k
def zG.trans{a b c:List CK×(CK->List ae)}(h:zG a b)(k:zG b c):zG a c:=⟨fun x w=>k.keys x (h.keys x w),fun x y t=>k.own x y (h.own x y t)⟩
def ae1(id:ae)(j:CK)(t:List CK×(CK->List ae))(I:Bv t):Bv (fA id t j)/\zG t (fA id t j)/\j∈(fA id t j).1/\id∈(fA id t j).2 j:=by
 unfold fA;cases e:(t.2 j).contains id with
 |true=>
  have h:id∈t.2 j:=DI.1 e;exact⟨I,⟨fun _ h=>h,fun _ _ h=>h⟩,I j id h,h⟩
 |false=>
  refine⟨fun k y w=>?_,⟨fun k z=>nf.2 (.inr z),fun k y w=>?_⟩,nf.2 (.inl rfl),?_⟩;by_cases z:k=j;exact nf.2 (.inl z);have w:y∈jT t.2 j (t.2 j++[id]) k:=w;rw[jU _ _ z] at w;exact nf.2 (.inr (I k y w));show y∈jT t.2 j (t.2 j++[id]) k;by_cases z:k=j;subst z;rw[oo];exact sB _ w;rw[jU _ _ z];exact w;show id∈jT t.2 j (t.2 j++[id]) j;rw[oo];simp
def acj(id:ae): ∀(w:List CK) (t:List CK×(CK->List ae)),Bv t->Bv (w.foldl (fA id) t)/\zG t (w.foldl (fA id) t)/\ ∀k∈w,k∈(w.foldl (fA id) t).1/\id∈(w.foldl (fA id) t).2 k
 | [],_,I=>⟨I,⟨fun _ h=>h,fun _ _ h=>h⟩,fun _ h=>by cases h⟩
 |j::w,t,I=>by
  obtain⟨J,G,F,E⟩:=ae1 id j t I;obtain⟨D,z,A⟩:=acj id w (fA id t j) J;refine⟨D,G.trans z,fun k y=>?_⟩;rcases dl.1 y with rfl|y
  exact⟨z.keys _ F,z.own _ _ E⟩;exact A k y
def Z6(l:List Obj): ∀(os:List Obj) (t:List CK×(CK->List ae)),Bv t->Bv (os.foldl (fo l) t)/\zG t (os.foldl (fo l) t)/\ ∀o∈os, ∀k∈fR l o,k∈(os.foldl (fo l) t).1/\o.id∈(os.foldl (fo l) t).2 k
 | [],_,I=>⟨I,⟨fun _ h=>h,fun _ _ h=>h⟩,fun _ h=>by cases h⟩
 |o::os,t,I=>by
  obtain⟨G,F,A⟩:=acj o.id (fR l o) t I;obtain⟨E,z,D⟩:=Z6 l os (fo l t o) G;refine⟨E,F.trans z,fun q w k y=>?_⟩;rcases dl.1 w with rfl|w
  exact⟨z.keys _ (A k y).1,z.own _ _ (A k y).2⟩;exact D q w k y
def aaY(l:List Obj): ∀o∈l, ∀k∈fR l o,k∈(eJ l).1/\o.id∈(eJ l).2 k:=(Z6 l l ([],fun _=>[]) fun _ _ h=>by cases h).2.2
variable{k:CK}
def ZA:k∈eU l↔ ∃o∈l,k∈fR l o:=by
 unfold eU;rw[(Dp _).mem_iff];exact⟨aaX,fun⟨o,h,t⟩=>(aaY l o h k t).1⟩
def ZE{y:ae}:y∈(eJ l).2 k↔ ∃o∈l,y=o.id/\k∈fR l o:=
 ⟨P8,fun⟨o,h,e,t⟩=>e▸(aaY l o h k t).2⟩
def atI{l r:List α}(h:l.Sublist r):(nu l).Sublist (nu r):=by
 induction h with
 |slnil=>exact .slnil
 |cons a _ t=>exact t.trans (List.sublist_append_right _ _)
 |cons_cons a h t=>exact(h.map _).append t
def abo{α:Type}{a b:α}(t:a≠b): ∀ {K:List α},a∈K->b∈K->(a,b)∈nu K\/(b,a)∈nu K
 | [],h,_=>by cases h
 |c::K,h1,h2=>by
  rcases dl.1 h1 with A|z
  rcases dl.1 h2 with y|w
  exact(t (A.trans y.symm)).elim;exact .inl (sB _ (cx.2 ⟨b,w,by rw[A]⟩));rcases dl.1 h2 with y|w
  exact .inr (sB _ (cx.2 ⟨a,z,by rw[y]⟩));exact(abo t z w).imp (Bm _) (Bm _)
def Ny(f:CK->bI){y:cL}: ∀ {K:List CK} {j:Nat},y∈ij j (K.map f)↔ ∃(i:Nat) (b:CK),K[i]? =some b/\y=(((j+i:Nat):Int),f b)
 | [],j=>by simp[ij]
 |c::K,j=>by
  rw[eA,ij,dl,Ny f (K:=K)];constructor;rintro(rfl|⟨i,b,h,rfl⟩);exact⟨0,c,rfl,rfl⟩;exact⟨i+1,b,h,by rw[show j+1+i=j+(i+1) by omega]⟩;rintro⟨i,b,h,rfl⟩;cases i with
  |zero=>exact .inl (by have h:=sI h;rw[h];rfl)
  |succ i=>exact .inr ⟨i,b,h,by rw[show j+1+i=j+(i+1) by omega]⟩
def Zy(f:CK->bI)(d:CK)(R:CK->CK->Int->Prop): ∀(K t:List CK),(∃x∈iW fM (ij t.length (K.map f)),R ((t++K).getD x.1.toNat d) ((t++K).getD x.2.1.toNat d) x.2.2)↔ ∃p∈nu K, ¬gX (f p.1) (f p.2)=0/\R p.1 p.2 (gX (f p.1) (f p.2))
 | [],t=>by simp[ij,iW,nu]
 |c::K,t=>by
  have F:=Zy f d R K (t++[c]);rw[cD,dM,cV,eH,lV,List.cons_append,Bn] at F;have one: ∀i b,K[i]? =some b-> ∀x,fM (((t.length:Nat):Int),f c) (((t.length+1+i:Nat):Int),f b)=some x↔ ¬gX (f c) (f b)=0/\x=(((t.length:Nat):Int),((t.length+1+i:Nat):Int),gX (f c) (f b)):=fun i b _ x=>by
   have T:min ((t.length:Nat):Int) ((t.length+1+i:Nat):Int)=((t.length:Nat):Int):=by omega
   have S:max ((t.length:Nat):Int) ((t.length+1+i:Nat):Int)=((t.length+1+i:Nat):Int):=by omega
   unfold fM;simp only[T,S];cases h:an (gX (f c) (f b)) 0 with
   |true=>
    have:gX (f c) (f b)=0:=by simpa[an] using h
    simp[this]
   |false=>
    have: ¬gX (f c) (f b)=0:=by simpa[an] using h
    simp only[cF,aH,this,not_false_eq_true,tA];exact eq_comm
  have M:(t++c::K).getD t.length d=c:=by simp[kU]
  have J: ∀i b,K[i]? =some b->(t++c::K).getD (t.length+1+i) d=b:=fun i b h=>by
   rw[kU,t6 (by omega),show t.length+1+i-t.length=i+1 by omega,iJ,h];rfl
  rw[eA,ij,iW,nu];constructor;rintro⟨x,w,A⟩;rcases jb.1 w with w|w
  obtain⟨y,O,G⟩:=GD.1 w;obtain⟨i,b,D,rfl⟩:=(Ny f).1 O;obtain⟨E,rfl⟩:=(one i b D x).1 G;simp only[Int.toNat_natCast,M,J i b D] at A;exact⟨(c,b),sB _ (cx.2 ⟨b,dB D,rfl⟩),E,A⟩;obtain⟨p,z,h⟩:=F.1 ⟨x,w,A⟩;exact⟨p,Bm _ z,h⟩;rintro⟨p,z,E,A⟩;rcases jb.1 z with z|z
  obtain⟨b,D,rfl⟩:=cx.1 z;obtain⟨i,I⟩:=t7 D;refine⟨_,sB _ (GD.2 ⟨_,(Ny f).2 ⟨i,b,I,rfl⟩,(one i b I _).2 ⟨E,rfl⟩⟩),?_⟩;simp only[Int.toNat_natCast,M,J i b I];exact A;obtain⟨x,w,h⟩:=F.2 ⟨p,z,E,A⟩;exact⟨x,Bm _ w,h⟩
theorem avy(a b:CK)(k:Int):kS a b k=kS b a k:=by
 have t:sU a b=sU b a:=by
  rw[xj,D9,D9];exact eq_comm
 have h:zX a b=zX b a:=by
  rw[xj];simp only[zX,vF,DI,dl,vH,or_false]
  grind
 unfold kS;rw[t,h]
def Zz:k∈zZ l↔ ∃a b,a∈eU l/\b∈eU l/\ ¬gX (jm l a) (jm l b)=0/\kS a b (gX (jm l a) (jm l b))=false/\ ∃u∈(eJ l).2 a, ∃y∈(eJ l).2 b,k=ey u y:=by
 have h:=Zy (jm l) ([],[]) (fun a b z=>kS a b z=false/\ ∃u∈(eJ l).2 a, ∃y∈(eJ l).2 b,k=ey u y) (eU l) [];rw[Bn] at h;unfold zZ;rw[kW];refine Iff.trans ?_ (h.trans ?_);refine exists_congr fun x=>and_congr_right fun _=>?_;simp only;cases kS ((eU l).getD x.1.toNat ([],[])) ((eU l).getD x.2.1.toNat ([],[])) x.2.2 with
 |true=>simp
 |false=>
  simp only[tA,cF,kW,cx];exact⟨fun⟨u,A,y,w,e⟩=>⟨u,A,y,w,e.symm⟩,fun⟨u,A,y,w,e⟩=>⟨u,A,y,w,e.symm⟩⟩
 constructor;rintro⟨p,D,E,t⟩;exact⟨p.1,p.2,(Fv D).1,(Fv D).2,E,t⟩;rintro⟨a,b,I,G,E,t,u,A,y,w,e⟩;have F:a≠b:=fun e=>by
  rw[e] at t;unfold kS at t;rw[(D9 b b).2 rfl] at t;cases t
 rcases abo F I G with D|D
 exact⟨_,D,E,t,u,A,y,w,e⟩;refine⟨_,D,?_,?_,y,w,u,A,e.trans (YP _ _)⟩;simp only;rw[Pr];exact E;simp only;rw[Pr,avy];exact t
def acA{K:List CK}:k∈oY K↔k∈K:=by
 have h:(oY K).Perm K:=by
  unfold oY;refine((vq jQ dV (K.map fun k=>(k,0))).map (·.1)).trans ?_;rw[ll];exact .of_eq (List.map_id K)
 exact h.mem_iff
def aqe(h:k∈fR l o):k.1∈o.gE/\k.2∈o.gE:=by
 unfold fR at h;cases e:tD l o with
 |false=>rw[e] at h;cases h
 |true=>rw[e] at h;exact QX h
variable{x:ae}
namespace eN
variable{C l:List Obj}
def key_up(P:eN C l){a:CK}(h:a∈eU C):a∈eU l/\dS C a.1=dS l a.1/\dS C a.2=dS l a.2:=by
 obtain⟨o,t,w⟩:=ZA.1 h;have y:=aqe w;rw[P.lines_eq t] at w;exact⟨ZA.2 ⟨o,P.mem t,w⟩,P.pt t y.1,P.pt t y.2⟩
def own_up(P:eN C l){a:CK}{u:ae}(h:u∈(eJ C).2 a):u∈(eJ l).2 a:=by
 obtain⟨o,t,e,w⟩:=ZE.1 h;rw[P.lines_eq t] at w;exact ZE.2 ⟨o,P.mem t,e,w⟩
def ends_up(P:eN C l)(h:x∈uE C):x∈uE l/\dS C x=dS l x:=by
 obtain⟨a,w,t⟩:=kW.1 h;obtain⟨A,z,y⟩:=P.key_up w;refine⟨kW.2 ⟨a,A,t⟩,?_⟩;simp only[dl,vH,or_false] at t;rcases t with rfl|rfl
 exact z;exact y
def badB_up(P:eN C l)(h:k∈ph C):k∈ph l:=by
 rcases Fu.1 h with h|h
 obtain⟨x,y,I,t,w,M,rfl⟩:=Jc.1 h;obtain⟨G,F⟩:=P.ends_up I;obtain⟨E,D⟩:=P.ends_up t;exact Fu.2 (.inl (Jc.2 ⟨x,y,G,E,w,by rw[<-F,<-D];exact M,rfl⟩));obtain⟨a,b,R,O,A,z,u,J,y,t,e⟩:=Zz.1 h;obtain⟨a1,a2,a3⟩:=P.key_up R;obtain⟨Z,Y,V⟩:=P.key_up O;have T:jm C a=jm l a:=by unfold jm;rw[a2,a3]
 have S:jm C b=jm l b:=by unfold jm;rw[Y,V]
 rw[T,S] at A z;exact Fu.2 (.inr (Zz.2 ⟨a,b,a1,Z,A,z,u,P.own_up J,y,P.own_up t,e⟩))
def chk_up(P:eN C l)(h:q∈(ru C rl).flatten):q∈(ru l rl).flatten:=by
 simp only[ru,List.flatten_cons,List.flatten_nil,nD,jb] at h ⊢;rcases h with h|h|h|h|h
 refine .inl ?_;obtain⟨o,y,rfl⟩:=cx.1 h;obtain⟨t,w⟩:=kV.1 y;exact cx.2 ⟨o,kV.2 ⟨P.mem t,by rw[<-P.badRef_eq t];exact w⟩,rfl⟩;refine .inr (.inl ?_);obtain⟨k,D,rfl⟩:=cx.1 h;exact cx.2 ⟨k,acA.2 (P.badB_up (acA.1 D)),rfl⟩;refine .inr (.inr (.inl ?_));rcases jb.1 h with h|h
 refine sB _ ?_;obtain⟨i,E,rfl⟩:=cx.1 h;obtain⟨o,y,rfl⟩:=cx.1 E;obtain⟨t,w⟩:=kV.1 y;exact cx.2 ⟨o.id,cx.2 ⟨o,kV.2 ⟨P.mem t,by rw[<-P.badRing_eq t];exact w⟩,rfl⟩,rfl⟩;refine Bm _ ?_;obtain⟨p,A,rfl⟩:=cx.1 h;obtain⟨t,w⟩:=kV.1 A;have z:=Fv t;exact cx.2 ⟨p,kV.2 ⟨(atI P.areas_sub).subset t,by rw[<-P.crossMs_eq z.1 z.2];exact w⟩,rfl⟩;refine .inr (.inr (.inr (.inl ?_)));rcases jb.1 h with h|h
 refine sB _ ?_;obtain⟨o,y,rfl⟩:=cx.1 h;obtain⟨t,w⟩:=kV.1 y;exact cx.2 ⟨o,kV.2 ⟨P.mem t,by rw[<-P.badRoute_eq t];exact w⟩,rfl⟩;refine Bm _ ?_;obtain⟨o,y,rfl⟩:=cx.1 h;obtain⟨t,w⟩:=kV.1 y;exact cx.2 ⟨o,kV.2 ⟨P.mem t,by rw[<-P.badTurn_eq t];exact w⟩,rfl⟩;refine .inr (.inr (.inr (.inr ?_)));obtain⟨o,y,rfl⟩:=cx.1 h;obtain⟨t,w⟩:=kV.1 y;exact cx.2 ⟨o,kV.2 ⟨P.mem t,P.badRule_up t w⟩,rfl⟩
def mem_viewE{l:List Obj}{name:ae}:p∈sm l rl name↔p.1=name/\p.2∈(ru (gJ l name) rl).flatten:=by
 unfold sm;constructor;intro h;obtain⟨L,w,y⟩:=kW.1 h;obtain⟨q,t,rfl⟩:=cx.1 y;exact⟨rfl,List.mem_flatten.2 ⟨L,w,t⟩⟩;rintro⟨rfl,h⟩;obtain⟨L,w,t⟩:=List.mem_flatten.1 h;exact kW.2 ⟨L,w,cx.2 ⟨p.2,t,rfl⟩⟩
def check_up(P:eN C l)(h:p∈kI C views rl):p∈kI l views rl:=by
 unfold kI at h ⊢;rw[P.valC] at h;rw[P.val];obtain⟨n,w,t⟩:=kW.1 h;obtain⟨z,y⟩:=mem_viewE.1 t;exact kW.2 ⟨n,w,mem_viewE.2 ⟨z,(P.view n).chk_up y⟩⟩
end eN
variable{Q:aD}[Std Q]
def sd(l:List Obj)(x:ae):List ae:=(AE (cj x l)).gE
inductive nK (l:List Obj) (ids:List ae):ae->Prop
 |base {x:ae}:x∈ids->nK l ids x
 |step {x r:ae}:nK l ids x->r∈sd l x->nK l ids r
variable{ids:List ae}
def nK.sub{t:List ae}(h: ∀x∈ids,nK l t x)(y:nK l ids x):nK l t x:=by
 induction y with
 |base A=>exact h _ A
 |step _ z w=>exact .step w z
def D0(pin pof pad:Nat):aa:=.func (.func 66) [] [.ptr pin 0,.ptr pof 0,.ptr pad 0]
structure sE (s:St) (pin pof pad mi mo:Nat) (l:List Obj) (B:List (ae×aa)) (seen:List ae):Prop where
 hin:s.get [] pin=some (.cells [.map mi])
 hof:s.get [] pof=some (.cells [.map mo])
 had:s.get [] pad=some (.cells [D0 pin pof pad])
 hB:bJ aa.str s mi B
 hS: ∀k,(cu k B).getD (.bool false)= .bool (seen.contains k)
 hM:bJ aa.str s mo (ji l)
 d1:pin≠mi
 d2:pof≠mi
 d3:pad≠mi
 d4:mo≠mi
variable{seen:List ae}{mi mo pad pin pof:Nat}
def sE.after(A:sE s pin pof pad mi mo l B seen)(id:ae):sE (s.put mi (some (.map (cX aa.str 0 (ee id (.bool true) B)) (ee id (.bool true) B).length))) pin pof pad mi mo l (ee id (.bool true) B) (id::seen) where
 hin:=by rw[aR,bN.2 A.d1];exact A.hin
 hof:=by rw[aR,bN.2 A.d2];exact A.hof
 had:=by rw[aR,bN.2 A.d3];exact A.had
 hB:=bJ.put
 hS k:=by
  rw[Pn,Gu];by_cases e:k=id;subst e;rw[iP rfl,bS];rfl;rw[iN e,bN.2 e,hZ];exact A.hS k
 hM:=by
  have h:=A.hM;unfold bJ at h ⊢;rw[aR,bN.2 A.d4];exact h
 d1:=A.d1
 d2:=A.d2
 d3:=A.d3
 d4:=A.d4
def tC(U seen:List ae):Nat:=(U.filter fun x=> !seen.contains x).length
def Y2(U:List ae){a b:List ae}(h: ∀x∈a,x∈b):tC U b<=tC U a:=by
 induction U with
 |nil=>exact bk _
 |cons u U t=>
  unfold tC at t ⊢;simp only[Gy];cases h1:a.contains u with
  |true=>
   have:b.contains u=true:=by rw[DI] at h1 ⊢;exact h u h1
   simp only[this,jp,zt,if_false];exact t
  |false=>
   cases b.contains u with
   |true=>simp only[jp,zt,if_false,kp,if_true,dM];omega
   |false=>simp only[kp,if_true,dM];omega
def ap5(U:List ae){k:ae}(z:k∈U)(D:seen.contains k=false):tC U (k::seen)<tC U seen:=by
 induction U with
 |nil=>cases z
 |cons u U y=>
  have E:=Y2 U (a:=seen) (b:=k::seen) fun x A=>fW _ A;unfold tC at y E ⊢;simp only[Gy];by_cases hu:u=k;subst hu;have w:(u::seen).contains u=true:=by rw[DI];exact gF
  simp only[w,D,jp,zt,if_false,kp,if_true,dM];omega;have w:(k::seen).contains u=seen.contains u:=by rw[Gu,bN.2 hu,hZ]
  have t:k∈U:=by
   rcases dl.1 z with h|h
   exact absurd h.symm hu;exact h
  have:=y t;rw[w];cases seen.contains u with
  |true=>simp only[jp,zt,if_false];exact this
  |false=>simp only[kp,if_true,dM];omega
structure Kw (l:List Obj) (seen:List ae) (ids seen':List ae):Prop where
 sub: ∀x∈seen,x∈seen'
 self: ∀x∈ids,x∈seen'
 reach: ∀x∈seen',x∈seen\/nK l ids x
 closed: ∀x∈seen',x∈seen\/ ∀r∈sd l x,r∈seen'
def Sd(Q:aD)(pin pof pad mi mo:Nat)(l:List Obj)(s:St)(seen:List ae)(id:ae):Prop:=
 ∃v t,aq Q 66 [.str id,.ptr pin 0,.ptr pof 0,.ptr pad 0] s v t/\(v= .tup []/\dn mi s t/\ ∃w h,sE t pin pof pad mi mo l w h/\Kw l seen [id] h)
def ar4(h: ∀o∈l,o.Al)(id:ae):(AE (cj id l)).Al:=by
 cases e:cj id l with
 |none=>exact aym
 |some o=>exact h o (mB e).1
variable{U:List ae}
def aeY(a7:Q.spec 66=none)(go:o.Al){id:ae}(hid:sd l id=o.gE)(hU: ∀r∈o.gE,r∈U)(a4:tC U (id::seen)<n)(IH: ∀s B seen id,sE s pin pof pad mi mo l B seen->id∈U->tC U seen<n->s.gt<=s.aL->Sd Q pin pof pad mi mo l s seen id){s0:St}(A: ∀e lc s B' E,sE s pin pof pad mi mo l B' E->dn mi s0 s->Kw l seen [id] E->K (.exit 0) ⟨e,25,lc⟩ s):
 ∀(D w:List ae) (e:aw) (lc:Ag.Loc) (s1:St) (B1:List (ae×aa)) (t:List ae),o.gE=w++D->sE s1 pin pof pad mi mo l B1 t->dn mi s0 s1->(∀x∈id::seen,x∈t)->(∀x∈t,x∈seen\/nK l [id] x)->(∀x∈t,x∈seen\/x=id\/ ∀r∈sd l x,r∈t)->(∀r∈w,r∈t)->
  ac e 3= .ptr pad 0->ac e 15=o.refsV->ac e 16=aM o.gE.length->ac e 17=aM w.length->W Q 66 (.loop O6) ⟨e,25,lc⟩ s1 K:=by
 intro D;have a9:=go.reflen;have a8:=i6
 induction D with
 |nil=>
  intro w e lc s1 B1 t S A1 hb z M T O h3 R G F;have a3:w.length=o.gE.length:=by rw[S];simp
  refine bq ?_;simp only[go_sem,seval,O6,G,F,a3,cq];refine A _ _ _ B1 t A1 hb ⟨fun x A=>z x (fW _ A),fun x A=>by rw[qX.1 A];exact z id gF,M,fun x A=>?_⟩;rcases T x A with h|rfl|h
  exact .inl h;refine .inr fun r Y=>O r ?_;rw[hid,S] at Y;simpa using Y;exact .inr h
 |cons r D ih=>
  intro w e lc s1 B1 t S A1 hb z M T O h3 R G F;have a1:w.length<o.gE.length:=by rw[S];simp
  have a6:o.gE[w.length]? =some r:=by rw[S];simp
  have I:r∈o.gE:=by rw[S];simp
  have a5:=fun lc k=>go.gE.at co.2.2.1 a6 lc k;have a0:IntKind.i64.wrap (((w.length:Nat):Int)+1)=((w.length+1:Nat):Int):=by rw[jE (by omega) (by omega)];omega
  have Z:=A1.had;simp only[D0] at Z;obtain⟨v,s2,Y,rfl,b2,B2,J,a2,V⟩:=IH s1 B1 t r A1 (hU r I) (Nat.lt_of_le_of_lt (Y2 U z) a4) hb.mw;refine bq ?_;simp only[go_sem,seval,O6,h3,R,G,F,a1,a5,aA,Z,aP,aQ,a7];refine ct.of Y (by decide) ?_;simp only[go_sem,seval,F,a0];refine ih (w++[r]) _ _ s2 B2 J (by rw[S];simp) a2 (hb.trans b2) (fun x A=>V.sub x (z x A)) ?_ ?_ ?_ ?_ ?_ ?_ ?_;intro x A;rcases V.reach x A with h|h
  exact M x h;refine .inr (h.sub fun y hy=>?_);rw[qX.1 hy];exact .step (.base (qX.2 rfl)) (by rw[hid];exact I);intro x A;rcases V.closed x A with h|h
  rcases T x h with h|h|h
  exact .inl h;exact .inr (.inl h);exact .inr (.inr fun r Y=>V.sub r (h r Y));exact .inr (.inr h);intro x A;rcases jb.1 A with h|h
  exact V.sub x (O x h);exact V.self x h
  all_goals simp only[sN,seval,h3,R,G,sA]
def aeZ(M:No Q 66)(hg: ∀o∈l,o.Al)(hU: ∀x, ∀r∈sd l x,r∈U): ∀(n:Nat) (s:St) (B:List (ae×aa)) (seen:List ae) (id:ae),sE s pin pof pad mi mo l B seen->id∈U->tC U seen<n->s.gt<=s.aL->Sd Q pin pof pad mi mo l s seen id:=by
 intro n
 induction n with
 |zero=>intro s B seen id _ _ h;omega
 |succ n O=>
  intro s B seen id A hid a1 I;have t:=qC im wN DE A.hB id;rw[A.hS] at t;have J:=A.hin;have a0:=A.hof;refine aq.ofNRZ apz (bT ?_);cases hs:seen.contains id with
  |true=>
   rw[hs] at t;simp only[go_sem,seval,J,aP,aQ,t];have R:id∈seen:=DI.1 hs;exact⟨_,rfl,rfl,.refl I,B,seen,A,fun _ h=>h,fun x E=>by rw[qX.1 E];exact R,fun _ h=>.inl h,fun _ h=>.inl h⟩
  |false=>
   rw[hs] at t;have F:=vz im wN A.hB id (.bool true);have A1:=A.after id;have V:dn mi s (s.put mi (some (.map (cX aa.str 0 (ee id (.bool true) B)) (ee id (.bool true) B).length))):=(dn.refl I).put _;generalize s.put mi (some (.map (cX aa.str 0 (ee id (.bool true) B)) (ee id (.bool true) B).length))=w at F A1 V;have D:=qC im uZ Bg A1.hM id;have e:(cu id (ji l)).getD (.agg [(.str []),(ag (0)),(ag (0)),(ag (0)),.AL,.AL])=(AE (cj id l)).val:=by
    rw[yF];cases cj id l<;>rfl
   rw[e] at D;have go:=ar4 hg id;have y:sd l id=(AE (cj id l)).gE:=rfl;have T:tC U (id::seen)<n:=by have:=ap5 U hid hs;omega
   generalize AE (cj id l)=o at D go y;have Y:=go.all;have S:=go.gE.lenS co;have G:=A1.hof;simp only[go_sem,seval,J,G,aP,aQ,t,F,D,Obj.val,Obj.cells,Y,S];refine aeY M.s go y (fun r hr=>hU id r (by rw[y];exact hr)) T (fun s B seen id A hi hl R=>O s B seen id A hi hl R) (s0:=w) ?_ o.gE [] _ _ w _ (id::seen) rfl A1 (.refl V.mw) (fun _ h=>h) ?_ ?_ (fun _ h=>by cases h) ?_ ?_ ?_ ?_;intro e lc s2 B' z A2 b2 Z;simp only[go_sem,seval];exact⟨_,rfl,rfl,V.trans b2,B',z,A2,Z⟩;intro x E;rcases dl.1 E with rfl|h
   exact .inr (.base (qX.2 rfl));exact .inl h;intro x E;rcases dl.1 E with rfl|h
   exact .inr (.inl rfl);exact .inl h
   all_goals simp only[aW,nQ,ai,bG]
   all_goals rfl
noncomputable def iB(l:List Obj)(ids:List ae):List Obj:=by classical exact bif cZ l then l.filter (fun o=>decide (nK l ids o.id)) else []
def L6(l:List Obj)(ids:List ae):(iB l ids).Sublist l:=by
 unfold iB;cases cZ l with
 |true=>exact List.filter_sublist
 |false=>exact List.nil_sublist _
def aq9(h:cZ l=true):o∈iB l ids↔o∈l/\nK l ids o.id:=by
 classical
 unfold iB;rw[h,cT,kV];exact and_congr_right fun _=>decide_eq_true_iff
def aun(t:cZ l=true)(h:o∈l):sd l o.id=o.gE:=by
 unfold sd AE;rw[CQ t h];rfl
def agV(h:cZ l=true)(ids:List ae):eN (iB l ids) l where
 sub:=L6 l ids
 val:=h
 at_ o ho r hr:=by
  obtain⟨t,h2⟩:=(aq9 h).1 ho;have h3:nK l ids r:=.step h2 (by rw[aun h t];exact hr);have e:iB l ids=l.filter (fun o=>by classical exact decide (nK l ids o.id)):=by
   unfold iB;rw[h];rfl
  rw[e,Jm (qA h)];cases e2:cj r l with
  |none=>rfl
  |some q=>
   have:nK l ids q.id:=by rw[(mB e2).2];exact h3
   simp[this]
variable{iv:aa}
def agT(T:No Q 66)(hg: ∀o∈l,o.Al)(hi:ax 1 aA iv ids)(a7:ids.length<small)(hU: ∀x, ∀r∈sd l x,r∈U)(hI: ∀x∈ids,x∈U){s0:St}(z: ∀e lc s B' D,sE s pin pof pad mi mo l B' D->dn mi s0 s->Kw l [] ids D->ac e 2= .Ge 2 1 0->lc.gen 2=1->lc.get 2 1=some [ov]->ac e 4= .Ge 4 1 0->lc.gen 4=1->lc.get 4 1=some [.AL]->ac e 6= .ptr pin 0->K (.exit 0) ⟨e,50,lc⟩ s):
 ∀(w t:List ae) (e:aw) (lc:Ag.Loc) (s:St) (B:List (ae×aa)) (seen:List ae),ids=t++w->sE s pin pof pad mi mo l B seen->dn mi s0 s->(∀x∈seen,nK l ids x)->(∀x∈seen, ∀r∈sd l x,r∈seen)->(∀x∈t,x∈seen)->
  ac e 2= .Ge 2 1 0->lc.gen 2=1->lc.get 2 1=some [ov]->ac e 4= .Ge 4 1 0->lc.gen 4=1->lc.get 4 1=some [.AL]->ac e 6= .ptr pin 0->ac e 7= .ptr pad 0->ac e 21=iv->ac e 22=aM ids.length->ac e 23=aM t.length->W Q 21 (.loop N6) ⟨e,50,lc⟩ s K:=by
 intro w;have a6:=i6
 induction w with
 |nil=>
  intro t e lc s B seen M A S V cl Y h2 g2 l2 h4 g4 Z h6 h7 J F E;have a3:t.length=ids.length:=by rw[M];simp
  refine bq ?_;simp only[go_sem,seval,N6,F,E,a3,cq];refine z _ _ _ B seen A S ⟨(fun _ h=>by cases h),fun x z=>Y x (by rw[M] at z;simpa using z),fun x z=>.inr (V x z),fun x z=>.inr (cl x z)⟩ ?_ g2 l2 ?_ g4 Z ?_
  all_goals simp only[sN,seval,h2,h4,h6]
 |cons r w ih=>
  intro t e lc s B seen M A S V cl Y h2 g2 l2 h4 g4 Z h6 h7 J F E;have a1:t.length<ids.length:=by rw[M];simp
  have a5:ids[t.length]? =some r:=by rw[M];simp
  have G:r∈ids:=by rw[M];simp
  have a4:=fun lc k=>hi.at co.2.2.1 a5 lc k;have a0:IntKind.i64.wrap (((t.length:Nat):Int)+1)=((t.length+1:Nat):Int):=by rw[jE (by omega) (by omega)];omega
  have R:=A.had;simp only[D0] at R;obtain⟨v,s2,hr,rfl,b2,B2,I,a2,O⟩:=aeZ T hg hU (tC U seen+1) s B seen r A (hI r G) (kF _) S.mw;refine bq ?_;simp only[go_sem,seval,N6,h7,J,F,E,a1,a4,aA,R,aP,aQ];refine ct.of hr (by decide) ?_;simp only[go_sem,seval,E,a0];refine ih (t++[r]) _ _ s2 B2 I (by rw[M];simp) a2 (S.trans b2) ?_ ?_ ?_ ?_ g2 l2 ?_ g4 Z ?_ ?_ ?_ ?_ ?_;intro x z;rcases O.reach x z with h|h
  exact V x h;exact h.sub fun y hy=>.base (by rw[qX.1 hy];exact G);intro x z;rcases O.closed x z with h|h
  exact fun r hr=>O.sub r (cl x h r hr);exact h;intro x z;rcases jb.1 z with h|h
  exact O.sub x (Y x h);exact O.self x h
  all_goals simp only[sN,seval,h2,h4,h6,h7,J,F,sA]
def agU(ho:ax 6 Obj.val ov l)(hg: ∀o∈l,o.Al)(hl:l.length<=900000){n10:Nat}{s0:St}(hin:s0.get [] pin=some (.cells [.map mi]))(hB:bJ aa.str s0 mi B)(hS: ∀k,(cu k B).getD (.bool false)= .bool (seen.contains k))(pl:pin<lo)(ml:mi<lo)(hx: ∀e lc s bv,cP 6 lo s bv ((l.filter fun o=>seen.contains o.id).map Obj.val)->s.gt<=s.aL->ac e 4= .Ge 4 1 0->lc.gen 4=1->lc.get 4 1=some [.AL]->ac e 10= .Ge 10 n10 0->lc.gen 10=n10->lc.get 10 n10=some [bv]->K (.exit 2) ⟨e,50,lc⟩ s):
 ∀(w h:List Obj) (e:aw) (lc:Ag.Loc) (s:St) (bv:aa),l=h++w->cP 6 lo s bv ((h.filter fun o=>seen.contains o.id).map Obj.val)->(∀k,k<lo->s.get [] k=s0.get [] k)->lo<=s.aL->s.gt<=s.aL->
  ac e 4= .Ge 4 1 0->lc.gen 4=1->lc.get 4 1=some [.AL]->ac e 6= .ptr pin 0->ac e 10= .Ge 10 n10 0->lc.gen 10=n10->lc.get 10 n10=some [bv]->ac e 32=ov->ac e 33=aM l.length->ac e 34=aM h.length->W Q 21 (.loop H9) ⟨e,50,lc⟩ s K:=by
 intro w
 induction w with
 |nil=>
  intro h e lc s bv S R F O J h4 g4 l4 h6 D g10 z I A G;have b3:h.length=l.length:=by rw[S];simp
  have b2:h=l:=by rw[S];simp
  refine bq ?_;simp only[go_sem,seval,H9,A,G,b3,cq];rw[b2] at R;refine hx _ _ _ bv R J ?_ g4 l4 ?_ g10 z
  all_goals simp only[sN,seval,h4,D]
 |cons o w ih=>
  intro h e lc s bv S R F O J h4 g4 l4 h6 D g10 z I A G;have Y:h.length<l.length:=by rw[S];simp
  have a0:l[h.length]? =some o:=by rw[S];simp
  have go:=hg o (dB a0);have rc:=go.all;have Z:=fun lc k=>ho.at fD.2.2.1 a0 lc k;have V:=dg (n:=h.length) (by omega);have M:s.get [] pin=some (.cells [.map mi]):=(F pin pl).trans hin;have b4:bJ aa.str s mi B:=(F mi ml).trans hB;have E:=qC im wN DE b4 o.id;rw[hS] at E;have b1:=R.ge;have a9:bv.cells=[bv]:=by rcases R with⟨rfl,_⟩|⟨_,k,rfl,_⟩<;>rfl
  cases hs:seen.contains o.id with
  |false=>
   rw[hs] at E;refine bq ?_;simp only[go_sem,seval,H9,h6,I,A,G,Y,Z,Obj.val,Obj.cells,rc,M,aP,aQ,E,V];refine ih (h++[o]) _ _ s bv (by rw[S];simp) (by rw[pn (f:=fun o:Obj=>seen.contains o.id) hs];exact R) F O J ?_ ?_ ?_ ?_ ?_ ?_ ?_ ?_ ?_ ?_
   all_goals simp only[sL,seval,h4,g4,l4,h6,D,g10,z,I,A,sA]
  |true=>
   rw[hs] at E;obtain⟨T,s1,a1,a2,a3,a4,a5,a6,a7⟩:=TE (t:=22) fD.1 rfl (by decide) (s:=s) (y:=.list 6 [o.val] .GE) (x:=o.val) R (by simp only[fH,em]) (by
    rw[bP]
    have:=kE (fun o=>seen.contains o.id) h;omega) O J
   have b0:=a2.ge;have a8:T.cells=[T]:=by rcases a2 with⟨rfl,_⟩|⟨_,k,rfl,_⟩<;>rfl
   simp only[Obj.val,Obj.cells] at a1;refine bq ?_;simp only[go_sem,seval,H9,h6,D,g10,z,I,A,G,Y,Z,Obj.val,Obj.cells,rc,M,aP,aQ,E,b1,a9,bj,bc,aX,aZ,evc];simp only[go_sem,seval,Obj.val,Obj.cells,D,g10,z,G,rc,b1,a9,b0,a8,a1,a3,V,bj,bc,aX,aZ,evc];refine ih (h++[o]) _ _ s1 T (by rw[S];simp) (by rw[uJ (f:=fun o:Obj=>seen.contains o.id) hs,eE];exact a2) (fun k hk=>(a7 k hk).trans (F k hk)) (by omega) a5 ?_ ?_ ?_ ?_ ?_ ?_ ?_ ?_ ?_ ?_
   all_goals simp only[sL,seval,h4,g4,l4,h6,D,g10,z,I,A,sA]
def agW(O:Q.spec 31=some jh)(a0:No Q 65)(Z:No Q 66)(b1:No Q 21)(F:ax 6 Obj.val ov l)(Y: ∀o∈l,o.Al)(hl:l.length<=900000)(hi:ax 1 aA iv ids)(a7:ids.length<small)(hm:s.gt<=s.aL):
 ∃v s',aq Q 21 [.agg [ov],iv] s v s'/\ ∃G lo,v= .agg [G]/\cP 6 lo s' G ((iB l ids).map Obj.val):=by
 have b2:=i6;have t:=F.cs;have M:=Ch F;have a5:=hi.ge;have a6:=F.lenS fD;have a4:=hi.lenS co;have T:=AA F Y (by omega);refine aq.ofNRZ anB (bT ?_);cases hv:cZ l with
 |false=>
  rw[hv] at T;simp only[go_sem,seval,t,M,O,T,bj,bc,aX,aZ,evc];have e:iB l ids=[]:=by unfold iB;rw[hv];rfl
  exact⟨_,rfl,_,0,rfl,.inl ⟨rfl,by rw[e];rfl⟩⟩
 |true=>
  rw[hv] at T;simp only[go_sem,seval,t,M,O,T];refine ct.ex (Z5 a0 F Y (by omega) (qA hv) hm) (by decide) ?_;rintro v s1 ⟨rfl,M1,n1,m1,o1⟩;have box: ∀(z:St) (a b:aa),z.gt<=z.aL-> ∃y,(z.new (.cells [a])).put z.aL (some (.cells [b]))=y/\y.aL=z.aL+1/\y.gt<=y.aL/\(∀k,k<z.aL->y.get [] k=z.get [] k)/\y.get [] z.aL=some (.cells [b]):=fun z a b hz=>
   ⟨_,rfl,rfl,cR _ _ _ (bU hz),fun k hk=>by rw[aR,bN.2 (by omega:k≠z.aL),cF,ck hk],by rw[aR,bS];rfl⟩
  have a8: ∀(z:St) (a:aa),(z.new (.cells [a])).get [] z.aL=some (.cells [a]):=fun z a=>cG;obtain⟨D,e2,n2,m2,o2,k2⟩:=box s1 .nilm (.map s.aL) m1;obtain⟨w,R⟩:=bZ (D.new (.map [] 0));have n3:w.aL=D.aL+1:=by rw[<-R];rfl
  have m3:w.gt<=w.aL:=by rw[<-R];exact bU m2
  have o3: ∀k,k<D.aL->w.get [] k=D.get [] k:=fun k hk=>by rw[<-R];exact ck hk
  have k3:bJ aa.str w D.aL ([]:List (ae×aa)):=by rw[<-R];exact cG
  obtain⟨I,e4,n4,m4,o4,k4⟩:=box w .nilm (.map D.aL) m3;obtain⟨s5,e5,n5,m5,V,k5⟩:=box I .nilf (D0 w.aL s1.aL I.aL) m4;simp only[D0] at e5;have nn:(I.new (.cells [.nilf])).aL=I.aL+1:=rfl;have A:sE s5 w.aL s1.aL I.aL D.aL s.aL l [] []:=by
   refine⟨?_,?_,k5,?_,fun _=>rfl,?_,by omega,by omega,by omega,by omega⟩;rw[V _ (by omega)];exact k4;rw[V _ (by omega),o4 _ (by omega),o3 _ (by omega)];exact k2;exact(V _ (by omega)).trans ((o4 _ (by omega)).trans k3);exact(V _ (by omega)).trans ((o4 _ (by omega)).trans ((o3 _ (by omega)).trans ((o2 _ (by omega)).trans M1)))
  have hU: ∀x, ∀r∈sd l x,r∈ids++l.flatMap Obj.gE:=fun x r J=>by
   unfold sd AE at J;cases e:cj x l with
   |none=>rw[e] at J;cases J
   |some o=>rw[e] at J;exact Bm _ (kW.2 ⟨o,(mB e).1,J⟩)
  have cm:aa.nilm.cells=[.nilm]:=rfl;have cf:aa.nilf.cells=[.nilf]:=rfl;simp only[go_sem,seval,t,a5,a4,mz,uu,BH,pD,cm,cf,cO,a8,cS,e2,R,e4,nn,e5];refine agT Z Y hi a7 hU (fun x hx=>sB _ hx) (ov:=ov) (s0:=s5) ?_ ids [] _ _ s5 [] [] rfl A (.refl m5) (fun _ h=>by cases h) (fun _ h=>by cases h) (fun _ h=>by cases h) ?_ ?_ ?_ ?_ ?_ ?_ ?_ ?_ ?_ ?_ ?_
  ·intro e lc S B seen A6 b6 r6 h2 g2 l2 h4 g4 l4 h6
   have E: ∀x,seen.contains x=true↔nK l ids x:=fun x=>by
    rw[DI];constructor;intro h;rcases r6.reach x h with h|h
    cases h;exact h;intro h
    induction h with
    |base h=>exact r6.self _ h
    |step _ h ih=>
     rcases r6.closed _ ih with h'|h'
     cases h';exact h' _ h
   have hf:iB l ids=l.filter fun o=>seen.contains o.id:=by
    classical
    unfold iB;rw[hv,cT];refine List.filter_congr fun o _=>?_;rw[xj];exact decide_eq_true_iff.trans (E o.id).symm
   have n6:=b6.aL;simp only[go_sem,seval,h2,g2,l2,t,a6];refine agU F Y hl A6.hin A6.hB A6.hS (lo:=S.aL) (n10:=lc.gen 10+1) (s0:=S) (by omega) (by omega) ?_ l [] _ _ S .AL rfl (.inl ⟨rfl,rfl⟩) (fun _ _=>rfl) (bk _) b6.mw ?_ ?_ ?_ ?_ ?_ ?_ ?_ ?_ ?_ ?_;intro e lc s7 G hO m7 q4 r4 t4 a3 a2 a1;have b0:=hO.ge;have a9:G.cells=[G]:=by rcases hO with⟨rfl,_⟩|⟨_,k,rfl,_⟩<;>rfl
   simp only[go_sem,seval,q4,r4,t4,a3,a2,a1,b0,a9];exact⟨_,rfl,G,S.aL,rfl,by rw[hf];exact hO⟩
   all_goals simp only[sG,seval,h2,g2,l2,h4,g4,l4,h6,cV]
   all_goals rfl
  all_goals simp only[sG,seval,cV]
  all_goals rfl
def SJ:dp:=[(31,jh)]
def aei:du SJ:=.cons wI .nil
noncomputable def BL:Sp
 | [m,u]=>(lG m).bind fun l=>(ek 1 iL u).bind fun ids=>bif decide (l.length<=900000)&&bh ids.length small then some (.agg [qJ (iB l ids)]) else none
 |_=>none
def agR(y:ax 6 Obj.val ov l)(D: ∀o∈l,o.Al)(z:l.length<=900000)(A:ax 1 aA iv ids)(h:ids.length<small):BL [.agg [ov],iv]=some (.agg [qJ (iB l ids)]):=by
 have w:=i6;have t:bh ids.length small=true:=cE h;simp only[dW,BL,vR y D (by omega),pA pg A,dQ z,t,bW]
def agS:cQ ah 21 BL:=by
 intro args x t G h w xs J O;unfold BL at t;split at t;rename_i a b;simp only[aj] at t;obtain⟨l,h1,ids,h2,t⟩:=t;obtain⟨I,t⟩:=aY t;simp only[bm,dE] at I;have t:=sI t;subst t;obtain⟨v,rfl,V,F,hs⟩:=rj h1;have Y:=jN (fun v a=>pf) h2;obtain⟨R,M,z,D⟩:=qK V F;obtain⟨A,E⟩:=n7 tS Y;have z:dz [.agg [v],b]=[.agg [M],cW b]:=by simp only[dz,z]
 refine jo aei (W:=[]) .nil (args:=[.agg [v],b]) (by simp only[ei,R,A,bW]) (fun ch=>?_) G h w xs J O;rw[z];obtain⟨y,s',S,bv,lo,rfl,Z⟩:=agW (Q:=QW SJ [] ch) rfl ⟨rfl,rfl⟩ ⟨rfl,rfl⟩ ⟨rfl,rfl⟩ D F I.1 E (fF I.2) (s:=s0) (by decide);exact⟨_,_,S,VT Z fun o T=>F o ((L6 l ids).subset T)⟩;cases t
def th(a:List VE)(q:VE):Bool:=a.any fun p=>kJ p q
variable{q:VE}
def akw(J:Q.spec 35=some tk)(Z:ax 3 fQ u a)(a0:a.length<=1000000000)(fa:qw a=true)(fq:q.2.2.1.length<=1000000)(T:s.gt<=s.aL){n3:Nat}(g3:lc.gen 3=n3)(O:lc.get 3 n3=some [.str q.1,ag q.2.1,.list 1 (q.2.2.1.map aA) (nA q.2.2.2)])(hx: ∀e,th a q=false->K (.exit 0) ⟨e,40,lc⟩ s)(hr: ∀e,th a q=true->ac e 4= .bool true->K .ret ⟨e,40,lc⟩ s):
 ∀(G pa:List VE) (e:aw),a=pa++G->th a q=th G q->ac e 0=u->ac e 3= .Ge 3 n3 0->ac e 5=aM pa.length->W Q 27 (.loop Co) ⟨e,40,lc⟩ s K:=by
 intro G;have y:=Z.lenS jn;have h:=Z.ge
 induction G with
 |nil=>
  intro pa e F h4 t A w;have Y:pa.length=a.length:=by rw[F];simp
  refine bq ?_;simp only[go_sem,seval,Co,t,w,h,y,Y,cq];exact hx _ h4
 |cons p G V=>
  intro pa e F h4 t A w;have z:pa.length<a.length:=by rw[F];simp
  have I:a[pa.length]? =some p:=by rw[F];simp
  have R:=fun lc k=>Z.at jn.2.2.1 I lc k;have D:=dg (n:=pa.length) (by omega);have f1:p.2.2.1.length<=1000000:=by
   have:=fu.1 fa p (dB I);simpa using this
  have M:tk [.list 1 (p.2.2.1.map aA) (nA p.2.2.2),.list 1 (q.2.2.1.map aA) (nA q.2.2.2)]=some (.bool (tj p.2.2.1 q.2.2.1)):=by
   have a1:=BA (v:=.list 1 (p.2.2.1.map aA) (nA p.2.2.2)) (.inr ⟨_,rfl⟩) (by rw[AO];cases p.2.2.2<;>rfl);have a2:=BA (v:=.list 1 (q.2.2.1.map aA) (nA q.2.2.2)) (.inr ⟨_,rfl⟩) (by rw[AO];cases q.2.2.2<;>rfl);have b1:bn p.2.2.1.length 1000000=true:=cE f1;have b2:bn q.2.2.1.length 1000000=true:=cE fq;simp only[dW,tk,a1,a2,b1,b2,bW]
  have S:th a q=(kJ p q||th G q):=h4;refine lz ?_;cases e1:p.1==q.1 with
  |false=>
   have E:kJ p q=false:=by unfold kJ;rw[e1];rfl
   simp only[go_sem,seval,Co,t,w,h,y,z];refine gK T ?_;simp only[go_sem,Ax,seval,t,A,g3,O,w,h,R,fQ,gg,e1];simp only[go_sem,seval,w,D];refine V (pa++[p]) _ (by rw[F];simp) (by rw[S,E,hZ]) ?_ ?_ ?_
   all_goals simp only[sN,seval,t,A,sA]
  |true=>
   cases e2:an p.2.1 q.2.1 with
   |false=>
    have E:kJ p q=false:=by unfold kJ;rw[e1,e2];rfl
    simp only[go_sem,seval,Co,t,w,h,y,z];refine gK T ?_;simp only[go_sem,Ax,seval,t,A,g3,O,w,h,R,fQ,gg,e1,e2];simp only[go_sem,seval,w,D];refine V (pa++[p]) _ (by rw[F];simp) (by rw[S,E,hZ]) ?_ ?_ ?_
    all_goals simp only[sN,seval,t,A,sA]
   |true=>
    cases e3:tj p.2.2.1 q.2.2.1 with
    |false=>
     have E:kJ p q=false:=by unfold kJ;rw[e1,e2,e3];rfl
     rw[e3] at M;simp only[go_sem,seval,Co,t,w,h,y,z];refine gK T ?_;simp only[go_sem,Ax,seval,t,A,g3,O,w,h,R,fQ,gg,e1,e2];simp only[go_sem,Ax,seval,J,M];simp only[go_sem,seval,w,D];refine V (pa++[p]) _ (by rw[F];simp) (by rw[S,E,hZ]) ?_ ?_ ?_
     all_goals simp only[sN,seval,t,A,sA]
    |true=>
     have E:kJ p q=true:=by unfold kJ;rw[e1,e2,e3];rfl
     rw[e3] at M;simp only[go_sem,seval,Co,t,w,h,y,z];refine gK T ?_;simp only[go_sem,Ax,seval,t,A,g3,O,w,h,R,fQ,gg,e1,e2];simp only[go_sem,Ax,seval,J,M];exact hr _ (by rw[S,E,gZ]) (by simp only[sN,seval])
def akr(y:Q.spec 35=some tk)(D:No Q 27)(w:ax 3 fQ u a)(t:a.length<=1000000000)(J:qw a=true)(I:q.2.2.1.length<=1000000)(F:s.gt<=s.aL):aq Q 27 [u,fQ q] s (.bool (th a q)) s:=by
 have z:=w.lenS jn;have A:=w.ge;have E:(aa.list 1 (q.2.2.1.map aA) (nA q.2.2.2)).ge=true:=by cases q.2.2.2<;>rfl
 refine aq.ofNZ aoo (bT ?_);simp only[go_sem,seval,A,z,fQ,gg,E];refine akw y w t J I F (n3:=1) ?_ ?_ ?_ ?_ a [] _ rfl rfl ?_ ?_ ?_;simp only[sG,seval];simp only[sG,seval];intro e h;simp only[go_sem,seval,h];intro e h G;simp only[go_sem,seval,h,G]
 all_goals simp only[sN,seval,cV]
 all_goals rfl
def Ah:Sp
 | [u,v]=>(ek 3 zT u).bind fun a=>(zT v).bind fun q=>bif bn a.length 1000000000&&(qw a&&decide (q.2.2.1.length<=1000000)) then some (.bool (th a q)) else none
 |_=>none
def akt(w:ax 3 fQ u a)(t:a.length<=1000000000)(z:qw a=true)(y:q.2.2.1.length<=1000000):Ah [u,fQ q]=some (.bool (th a q)):=by
 have h:bn a.length 1000000000=true:=cE t;simp only[dW,Ah,pA TQ w,TQ,h,z,dQ y,bW]
def aku:cQ ah 27 Ah:=by
 intro args x t G J w xs D F;unfold Ah at t;split at t;rename_i u v;simp only[aj] at t;obtain⟨a,A,q,z,h⟩:=t;obtain⟨y,h⟩:=aY h;have h:=sI h;subst h;simp only[bm,dE] at y;have A:=jN (fun _ _ h=>G6 h) A;have z:=G6 z;subst z;obtain⟨E,O⟩:=n7 Ek A;have I:dz [u,fQ q]=[cW u,fQ q]:=by simp only[dz,Gn (Ek q)]
 refine jo S7 (W:=[]) .nil (args:=[u,fQ q]) (by simp only[ei,E,adb (Ek q),bW]) (fun M=>?_) G J w xs D F;rw[I];exact⟨_,_,akr (Q:=QW KU [] M) rfl ⟨rfl,rfl⟩ O (fF y.1) y.2.1 y.2.2 (s:=s0) (by decide),⟨1,rfl⟩⟩;cases t
def akv(h:q∈a):th a q=true:=by
 unfold th;rw[List.any_eq_true];refine⟨q,h,?_⟩;have t:an q.2.1 q.2.1=true:=ED _;simp only[kJ,bS,t,al2,bW]
def Z8: ∀ {l:List Obj},oV l=true-> ∀o∈l,wS o=false
 | [],_,o,h=>by cases h
 |a::l,h,o,t=>by
  simp only[oV] at h;cases e1:wS a with
  |true=>rw[e1] at h;cases h
  |false=>
   rw[e1] at h;rcases dl.1 t with rfl|t
   exact e1;have h:(bif vg a.gE then bif vt a.gT then oV l else false else false)=true:=h;cases e2:vg a.gE with
   |false=>rw[e2] at h;cases h
   |true=>
    rw[e2] at h;cases e3:vt a.gT with
    |false=>rw[e3] at h;cases h
    |true=>rw[e3] at h;exact Z8 h o t
def aiP(h:rB l (n:Int)=true):l.length<=n/\ ∀o∈l,o.gE.length<=12/\o.gT.length<=20:=by
 unfold rB at h;cases e:aV (n:Int) ((l.length:Nat):Int) with
 |true=>rw[e] at h;cases h
 |false=>
  rw[e] at h;refine⟨?_,fun o t=>?_⟩;unfold aV at e
  have:=of_decide_eq_false e;omega
  have:=Z8 h o t;unfold wS at this;simp only[vE,decide_eq_false_iff_not,Nat.not_lt] at this;exact⟨this.1.1,this.1.2⟩
def abM{k:Nat}: ∀ {l:List Obj},(∀o∈l,o.gE.length<=k)->qS l<=l.length*k
 | [],_=>jW _
 |a::l,h=>by
  have y:=h a gF;have w:=abM (k:=k) (l:=l) fun o t=>h o (fW _ t);unfold qS at w ⊢;simp only[eA,List.sum_cons,dM,mS];omega
def aaj(y:l.length<=40)(t: ∀o∈l,o.gE.length<=12):yL l=true:=by
 unfold yL;cases hv:cZ l with
 |false=>rfl
 |true=>
  have w:=abM t;have h:Hr l=true:=VD.2 ⟨hv,by omega,by omega⟩;rw[h];rfl
def auY(h:rl.all se=true)(z: ∀x∈rl,x.OkS): ∀x∈rl,x.Ok:=fun x w=>by
 have t:=fu.1 h x w;have o:=z x w;unfold se w8 at t;simp only[bm,Bool.not_eq_true',vE] at t;have y:=t.1.2;unfold aV at y;have A:=of_decide_eq_false y;exact⟨o.vals,o.pv,o.area,o.key,o.ifK,by omega⟩
def Ey:Sp
 | []=>some (.bool true)
 |_=>none
def acz:List CK->List CK
 | []=>[]
 | [k]=>[k]
 |K=>oY K
def avO: ∀K,acz K=oY K
 | []=>(tZ (Rb [])).symm
 | [k]=>by
   show [k]=oY [k];have h:(oY [k]).Perm [k]:=by
    unfold oY;exact(vq _ _ _).map _
   exact(List.perm_singleton.1 h).symm
 |_::_::_=>rfl
def LO(l:List Obj):List VQ:=(acz (ph l)).map fun k=>(2,iI k,true)
def afP(l:List Obj):LO l=ut l:=by unfold LO ut;rw[avO]
def Kh(l:List Obj)(rl:List aG)(name:ae):List aa:=[AR (gJ l name),LO (gJ l name),CM (gJ l name),CO (gJ l name),Dc (gJ l name) rl].flatMap fun L=>L.map (gg name)
def axx(l:List Obj)(rl:List aG)(name:ae):Kh l rl name=lU l rl name:=by unfold Kh lU ru;rw[afP]
def L2(l:List Obj)(views:List ae)(rl:List aG):List aa:=bif cZ l then([]::views).flatMap (Kh l rl) else []
def agL(l:List Obj)(views:List ae)(rl:List aG):L2 l views rl=sV l views rl:=by
 have:Kh l rl=lU l rl:=funext fun n=>axx l rl n;unfold L2 sV;rw[this]
def L3:Sp
 | [m,.agg [a,b,c,d,vv,rv]]=>(lG m).bind fun l=>(ek 1 iL vv).bind fun views=>(vV rv).bind fun rl=>bif yL l&&(decide (views.length<=200)&&ei [a,b,c,d]) then some (io 3 (L2 l views rl)) else none
 |_=>none
def agM:L3=uv:=by
 funext l;unfold L3 uv;split;simp only[agL];rename_i h
 first|rfl|(split;rename_i m a b c d vv rv;exact absurd rfl (h m a b c d vv rv);rfl)
def SA:dp:=[(18,L3),(17,QR),(31,jh)]
def aec:du SA:=.cons (agM▸UH) (.cons avc (.cons wI .nil))
def aky:nV SA 200 15 []=some (.bool true,0):=by kernel_rfl
def akz:cQ ah 15 Ey:=by
 intro y u t G h w xs z A;unfold Ey at t;split at t;injection t with t;subst t
 exact pW aec aky (args':=[]) rfl rfl G h w xs z A;cases t
def ap0(l:List Obj)(views:List ae)(rl:List aG)(ids:List ae): ∀p∈kI (iB l ids) views rl,p∈kI l views rl:=fun p t=>by
 cases hv:cZ l with
 |true=>exact(agV hv ids).check_up t
 |false=>
  have e:iB l ids=[]:=by unfold iB;rw[hv];rfl
  rw[e] at t;exfalso;unfold kI at t;obtain⟨n,_,h⟩:=kW.1 t;rw[axw] at h;cases h
structure Sr (av cv:aa) (e:aw):Prop where
 h7:ac e 7= .bool true
 h8:ac e 8=av
 h9:ac e 9=cv
def atK(T:Q.spec 27=some Ah){av:aa}{A C:List VE}(S:ax 3 fQ av A)(R:ax 3 fQ cv C)(al:A.length<=1000000000)(cl:C.length<=1000000000)(fa:qw A=true)(fc: ∀p∈C,p.2.2.1.length<=1000000)(z: ∀p∈C,p∈A)(hx: ∀e,Sr av cv e->K (.exit 0) ⟨e,44,lc⟩ s):
 ∀(t h:List VE) (e:aw),C=h++t->ac e 10=aM h.length->Sr av cv e->W Q 4 (.loop OS) ⟨e,44,lc⟩ s K:=by
 intro t;have a0:=S.lenS jn;have Y:=S.ge;have G:=R.lenS jn;have I:=R.ge
 induction t with
 |nil=>
  intro h e E y F;have O:h.length=C.length:=by rw[E];simp
  have V:=F.h9;refine bq ?_;simp only[go_sem,seval,OS,V,y,I,G,O,cq];refine hx _ ⟨?_,?_,?_⟩
  all_goals simp only[sN,seval,F.h7,F.h8,F.h9]
 |cons p t ih=>
  intro h e E y F;have M:h.length<C.length:=by rw[E];simp
  have D:C[h.length]? =some p:=by rw[E];simp
  have Z:=dB D;have i1:=fun lc k=>R.at jn.2.2.1 D lc k;have J:=dg (n:=h.length) (by omega);have e8:=F.h8;have V:=F.h9;have pc:(aa.list 1 (p.2.2.1.map aA) (nA p.2.2.2)).ge=true:=by cases p.2.2.2<;>rfl
  have w:=akt S al fa (fc p Z);rw[akv (z p Z)] at w;simp only[fQ,gg] at w;refine bq ?_;simp only[go_sem,seval,OS,e8,V,y,Y,I,G,M,i1,fQ,gg,pc,T,w,J];refine ih (h++[p]) _ (by rw[E];simp) ?_ ⟨?_,?_,?_⟩
  all_goals simp only[sN,seval,F.h7,F.h8,F.h9,sA]
def apZ(T:Q.spec 15=some Ey)(S:Q.spec 16=some B3)(a2:Q.spec 18=some uv)(b3:Q.spec 21=some BL)(b2:Q.spec 27=some Ah)(w4:No Q 4)(G:ax 6 Obj.val ov l)(hg: ∀o∈l,o.Al)(a8:l.length<small)(t:uL w0 w1 w2 w3=true)(hV:ax 1 aA vv views)(a7:views.length<small)(R:ax 8 aG.val rv rl)(Z: ∀x∈rl,x.OkS)(a9:rl.length<small)(hi:ax 1 aA iv ids)(b0:ids.length<small)(hm:s.gt<=s.aL):
 ∃v s',aq Q 4 [.agg [ov],.agg [w0,w1,w2,w3,vv,rv],iv] s v s'/\v= .bool true:=by
 have c5:=i6;have J:=G.cs;have z:=hV.ge;have A:=R.ge;have E:=hi.ge;have O:=hi.lenS co;have c3:w0.ge=true/\w1.ge=true/\w2.ge=true/\w3.ge=true:=by
  simp only[uL,bm] at t;have D: ∀ {v:aa},sZ v=true->v.ge=true:=fun {v} h=>by cases v<;>first|rfl|cases h
  exact⟨D t.1,D t.2.1,D t.2.2.1,D t.2.2.2⟩
 have am:=vR G hg a8;have V:=pA pg hV;have qh:Ey []=some (.bool true):=rfl;have w:=aiJ am V (TM R Z a9) a7 (Hv t) 24;refine aq.ofNRZ apm ?_;cases hf:ws l views rl 24 with
 |false=>
  rw[hf] at w;refine bT ?_;simp only[go_sem,seval,J,z,A,E,O,T,qh,S,w];exact⟨_,rfl,rfl⟩
 |true=>
  rw[hf] at w;cases hn:aV 30 ((ids.length:Nat):Int) with
  |true=>
   refine bT ?_;simp only[go_sem,seval,J,z,A,E,O,T,qh,S,w,hn];exact⟨_,rfl,rfl⟩
  |false=>
   unfold ws at hf;simp only[bm] at hf;obtain⟨_,b1,a1,I⟩:=hf;obtain⟨c0,M⟩:=aiP (n:=24) b1;have c4:views.length<=3:=by
    unfold bV at a1
    have:=of_decide_eq_true a1;omega
   unfold uI at I;simp only[bm] at I;have ok:=auY I.1 Z;have c6:rl.length<=5:=by
    have h:=I.2;unfold bV at h
    have:=of_decide_eq_true h;omega
   have ar:=Lp R ok (by omega);have a5:yL l=true:=aaj (by omega) fun o G=>(M o G).1;have y:=L6 l ids;have a6:yL (iB l ids)=true:=aaj (by have:=y.length_le;omega) fun o G=>(M o (y.subset G)).1;have a4:uv [.agg [ov],.agg [w0,w1,w2,w3,vv,rv]]=some (io 3 ((kI l views rl).map fQ)):=by
    rw[<-UF];exact UG am V ar a5 (by omega) (Hv t)
   have a3:=agR G hg (by omega) hi b0;have b7:=vR (aaa (iB l ids)) (fun o G=>hg o (y.subset G)) (by have:=y.length_le;omega);have Y:uv [.agg [qJ (iB l ids)],.agg [w0,w1,w2,w3,vv,rv]]=some (io 3 ((kI (iB l ids) views rl).map fQ)):=by
    rw[<-UF];exact UG b7 V ar a6 (by omega) (Hv t)
   have c1:(kI l views rl).length<=12000000:=by
    have:=UE (fun _=>by omega:cZ l=true->l.length<=900) views rl;omega
   have c2:(kI (iB l ids) views rl).length<=12000000:=by
    have:=UE (fun _=>by have:=y.length_le;omega:cZ (iB l ids)=true->(iB l ids).length<=900) views rl;omega
   have ia:=AD 3 fQ (kI l views rl);have ic:=AD 3 fQ (kI (iB l ids) views rl);have b8:=ia.ge;have b6:=ic.ge;have a0:=Z9 (iB l ids);have b4:=aiM (l:=kI l views rl) fun p hp=>UD hp;have b5: ∀p∈kI (iB l ids) views rl,p.2.2.1.length<=1000000:=fun p hp=>by
    have:=UD hp;omega
   refine WE.sound ?_;simp only[go_sem,seval,J,z,A,E,O,T,qh,S,w,hn,a2,a4,b8];refine gK hm ?_;simp only[go_sem,YH,seval,J,z,A,E,b3,a3,a0.1,a0.2,a2,Y,b6];refine atK b2 ia ic (by omega) (by omega) b4 b5 (ap0 l views rl ids) ?_ (kI (iB l ids) views rl) [] _ rfl ?_ ⟨?_,?_,?_⟩;intro e F;have e7:=F.h7;simp only[go_sem,seval,e7];exact⟨_,rfl,rfl⟩
   all_goals simp only[sN,seval,cV]
   all_goals rfl
def LT4:dp:=[(15,Ey),(16,B3),(18,uv),(27,Ah)]
noncomputable def Ss:dp:=(21,BL)::LT4
def ad7:du Ss:=.cons agS (.cons akz (.cons aiK (.cons UH (.cons aku .nil))))
def apY{x:aa}(hl:ax 6 Obj.val x l)(hg: ∀o∈l,o.Al)(hs:l.length<small)(E:uL w0 w1 w2 w3=true)(hV:ax 1 aA vv views)(I:views.length<small)(R:ax 8 aG.val rv rl)(y: ∀x∈rl,x.OkS)(S:rl.length<small)(hi:ax 1 aA u ids)(V:ids.length<small)(G:Gh)(h:aC aJ)(w:World)(xs:List Value)(wr:WR G h w)(hx:bR G [.agg [x],.agg [w0,w1,w2,w3,vv,rv],u] xs):
 lZ ah 4 ⟨xs⟩ w fun r w'=> ∃G',WR G' h w'/\cJ G h w G' h w' 0 0/\VR G' (.bool true) r:=by
 obtain⟨ht,x',F,T⟩:=qK hl hg;obtain⟨O,D⟩:=QK R y;obtain⟨M,z⟩:=n7 tS hV;obtain⟨J,Y⟩:=n7 tS hi;have Z:=ai5 E;have F:dz [.agg [x],.agg [w0,w1,w2,w3,vv,rv],u]=[.agg [x'],.agg [cW w0,cW w1,cW w2,cW w3,cW vv,cW rv],cW u]:=by simp only[dz,cW,F];rw[<-F];simp only[cW,dz]
 have t:=Hv E;simp only[ei,bm] at t;refine jo ad7 (W:=[]) .nil (args:=[.agg [x],.agg [w0,w1,w2,w3,vv,rv],u]) (by
  have:dL (.agg [w0,w1,w2,w3,vv,rv])=true:=by
   simp only[dL,ei,t.1,t.2.1,t.2.2.1,t.2.2.2.1,O,M,bW]
  show(dL (.agg [x])&&(dL (.agg [w0,w1,w2,w3,vv,rv])&&(dL u&&_)))=true;rw[ht,this,J];rfl) (fun ch=>?_) G h w xs wr hx
 rw[F];obtain⟨v,s',A,rfl⟩:=apZ (Q:=QW Ss [] ch) rfl rfl rfl rfl rfl ⟨rfl,rfl⟩ T hg hs Z z I D y S Y V (s:=s0) (by decide);exact⟨_,_,A,⟨1,rfl⟩⟩
def JY:Value->Option aa
 | .bool b=>some (.bool b)
 | .int k n=>some (.int k n)
 | .string s=>some (.str s.data.toList)
 | .slice none 0 0=>some .AL
 |_=>none
variable{x:Value}
def ave{G:Gh}(h:JY x=some v):v.scal=true/\VR G v x:=by
 unfold JY at h;split at h;injection h with h;subst h;exact⟨rfl,.bool _⟩
 injection h with h;subst h;exact⟨rfl,.int _ _⟩
 injection h with h;subst h;exact⟨rfl,.str _⟩
 injection h with h;subst h;exact⟨rfl,.AL⟩
 cases h
def lJ(W:World)(b o:Nat):Option aa:=(W.cell? ⟨b,o,none⟩).bind JY
open Classical in
noncomputable def pick(P:aa->Prop):Option aa:=if h: ∃v,P v then some (Classical.choose h) else none
variable{P:aa->Prop}
def Qi(h:pick P=some v):P v:=by
 unfold pick at h;split at h;rename_i e;injection h with h;subst h
 exact Classical.choose_spec e;cases h
def Qh(h:P v): ∃u,pick P=some u/\P u:=by
 have e: ∃v,P v:=⟨v,h⟩;exact⟨Classical.choose e,by unfold pick;rw[dif_pos e],Classical.choose_spec e⟩
def sM(W:World)(x:Value)(v:aa):Prop:= ∃(a:Addr) (len t:Nat) (h:List ae),x= .slice (some a) len t/\v= .list 1 (h.map aA) .no/\(t=0\/a.spot=none)/\h.length=len/\len<=t/\len<small/\(∀s∈h,s.length<small)/\
 ∀(i:Nat) (s:ae),h[i]? =some s->W.cell? ⟨a.block,a.off+i,none⟩=some (.string ⟨⟨s⟩⟩)
def zM(W:World)(x:Value)(v:aa):Prop:= ∃(a:Addr) (len h:Nat) (w:List fO),x= .slice (some a) len h/\v= .list 2 (w.map ki) .no/\(h=0\/a.spot=none)/\w.length=len/\len<=h/\len<small/\(∀t∈w,t.1.length<small/\t.2.length<small)/\
 ∀(i:Nat) (t:fO),w[i]? =some t->W.cell? ⟨a.block,a.off+(i*2+0),none⟩=some (.string ⟨⟨t.1⟩⟩)/\W.cell? ⟨a.block,a.off+(i*2+1),none⟩=some (.string ⟨⟨t.2⟩⟩)
noncomputable def Dk(W:World)(b o:Nat):Option aa:=
 (W.cell? ⟨b,o,none⟩).bind fun x=>match W.cell? ⟨b,o-1,none⟩ with
  |some (.int _ _)=>pick (sM W x)
  |some (.slice _ _ _)=>pick (zM W x)
  |some (.string _)=>pick (sM W x)
  |_=>none
noncomputable def jf(W:World):Gh where
 at_ _:=none
 dim _:=none
 ro b o:=(lJ W b o).or (Dk W b o)
def yh{W:World}{o:Nat}{s:ae}(h:W.cell? ⟨b,o,none⟩=some (.string ⟨⟨s⟩⟩)):(jf W).ro b o=some (.str s):=by
 show(lJ W b o).or _=_;have:lJ W b o=some (.str s):=by
  simp only[lJ,h,bg];rfl
 rw[this];rfl
def QD{W:World}(h:sM W x v):VR (jf W) v x:=by
 obtain⟨d,len,G,t,rfl,rfl,A,F,E,_,_,z⟩:=h;rw[<-F] at E ⊢;have D:(t.map aA).length=t.length:=by simp
 rw[<-D];refine .list A Nat.one_pos ?_ (by rw[D];exact E) ?_ trivial;intro y w;obtain⟨s,_,rfl⟩:=cx.1 w;rfl;intro i y w;rw[Ac,iw] at w;cases e:t[i]? with
 |none=>rw[e] at w;cases w
 |some s=>
  rw[e] at w;simp only[jI,aH] at w;subst w;exact yh (z i s e)
def Z2: ∀ {l:List aa} {i:Nat} {v:aa},l[i]? =some v->ng l i=v
 | [],_,_,h=>by simp at h
 |_::_,0,_,h=>by simpa[ng] using h
 |_::l,i+1,v,h=>Z2 (l:=l) (i:=i) (by simpa using h)
def Hs(w: ∀x∈xs,x.cells.length=sz){y:aa}(h:(aF xs)[i]? =some y): ∃v,xs[i / sz]? =some v/\v.cells[i % sz]? =some y/\i=i / sz*sz+i % sz:=by
 have z:i<(aF xs).length:=by
  rcases nG i (aF xs).length with E|E
  exact E;rw[DL E] at h;cases h
 rw[nW w] at z;have t:0<sz:=by
  rcases Bq sz with F|F
  subst F;omega;exact F
 have A:i / sz<xs.length:=(Nat.div_lt_iff_lt_mul t).2 z;have G:i % sz<sz:=Nat.mod_lt _ t;have e:i=i / sz*sz+i % sz:=by rw[Nat.mul_comm];exact(Nat.div_add_mod i sz).symm
 have D:=VH w A G;rw[<-e,h] at D;refine⟨xs[i / sz],fE A,?_,e⟩;rw[Z2 (fE A)] at D;exact D.symm
def awI{W:World}(h:zM W x v):VR (jf W) v x:=by
 obtain⟨d,len,S,G,rfl,rfl,J,R,O,_,_,z⟩:=h;rw[<-R] at O ⊢;have M:(G.map ki).length=G.length:=by simp
 have E: ∀y∈G.map ki,y.cells.length=2:=by
  intro y I;obtain⟨s,_,rfl⟩:=cx.1 I;rfl
 rw[<-M];refine .list J (Nat.succ_pos 1) E (by rw[M];exact O) ?_ trivial;intro i y I;obtain⟨u,D,A,F⟩:=Hs E I;rw[iw] at D;cases e:G[i / 2]? with
 |none=>rw[e] at D;cases D
 |some t=>
  rw[e] at D;simp only[jI,aH] at D;subst D;obtain⟨V,T⟩:=z _ t e;have w:i % 2=0\/i % 2=1:=by omega
  rcases w with w|w
  rw[w] at A F;simp only[ki,aa.cells,gi,aH] at A;subst A;rw[F];exact yh V;rw[w] at A F;simp only[ki,aa.cells,iJ,gi,aH] at A;subst A;rw[F];exact yh T
def ajL(W:World):WR (jf W) .nil W where
 obj m o h:=by cases h
 sep m k x y h:=absurd rfl h
 ro b o v h:=by
  have h:(lJ W b o).or (Dk W b o)=some v:=h;cases e:lJ W b o with
  |some u=>
   rw[e] at h;simp only[Option.some_or,aH] at h;subst h;unfold lJ at e;rw[aj] at e;obtain⟨x,t,h2⟩:=e;obtain⟨h3,h4⟩:=ave (G:=jf W) h2;exact⟨h3,x,t,h4⟩
  |none=>
   rw[e] at h;simp only[zF] at h;unfold Dk at h;rw[aj] at h;obtain⟨x,t,h2⟩:=h;split at h2;have h2:=Qi h2;have hs:v.scal=true:=by obtain⟨_,_,_,_,_,rfl,_⟩:=h2;rfl
   exact⟨hs,x,t,QD h2⟩;have h2:=Qi h2;have hs:v.scal=true:=by obtain⟨_,_,_,_,_,rfl,_⟩:=h2;rfl
   exact⟨hs,x,t,awI h2⟩;have h2:=Qi h2;have hs:v.scal=true:=by obtain⟨_,_,_,_,_,rfl,_⟩:=h2;rfl
   exact⟨hs,x,t,QD h2⟩;cases h2
 apart m ob x i v h:=by cases h
 dim b d h:=by cases h
 below m x h:=by cases h
variable{a:Addr}{ps:List MemPlace}{fuel:Nat}{e:TypeId}{v:Value}
section
variable{H:Type}{enc:TypeId×Value->H}{W:World}{held:Bool}
def A8:ah.underlying 3=some (.int .i64):=by kernel_rfl
def G8:ah.cellsOf 9=1:=by kernel_rfl
def BF:ah.cellsOf 3=1:=by kernel_rfl
def LR:ah.cellsOf 25=1:=by kernel_rfl
def af4:ah.cellsOf 50=1:=by kernel_rfl
def Us:ah.cellsOf 49=2:=by kernel_rfl
def G7:ah.cellsOf 92=2:=by kernel_rfl
def LS:ah.cellsOf 52=6:=by kernel_rfl
def Ur:ah.cellsOf 24=1:=by kernel_rfl
def Uq:ah.cellsOf 22=1:=by kernel_rfl
def Dy:ah.underlying 9=some .string:=by kernel_rfl
def aw9:ah.underlying 50=some (.slice 92):=by kernel_rfl
def aw4:ah.underlying 22=some (.slice 52):=by kernel_rfl
def Rj(h:W.cell? a=some v):a.spot=none:=by
 unfold World.cell? at h;split at h;split at h;cases h;rename_i t;cases e:a.spot with
 |none=>rfl
 |some _=>rw[e] at t;simp at t
 cases h
def Tv(h:a.spot=none)(i:Nat):a.add i=⟨a.block,a.off+i,none⟩:=by
 obtain⟨b,o,sp⟩:=a;simp only at h;subst h;exact oC b o i
def Fs(h:n<=maxLen):n<small:=by
 have w:maxLen=9223372036854775807:=by decide
 have t:=i6;omega
def Dt{s:ByteArray}(h:s.size<=maxLen):s.data.toList.length<small:=by
 have e:s.data.toList.length=s.size:=Array.length_toList;rw[e];exact Fs h
def ap6{l:List α}(h:l.length=1): ∃a,l=[a]:=by
 match l,h with
 | [a],_=>exact⟨a,rfl⟩
def Y3{l:List α}(h:l.length=2): ∃a b,l=[a,b]:=by
 match l,h with
 | [a,b],_=>exact⟨a,b,rfl⟩
def ap7{l:List α}(h:l.length=5): ∃a b c d e,l=[a,b,c,d,e]:=by
 match l,h with
 | [a,b,c,d,e],_=>exact⟨a,b,c,d,e,rfl⟩
def Pe{l:List α}(h:l.length=6): ∃a b c d e f,l=[a,b,c,d,e,f]:=by
 match l,h with
 | [a,b,c,d,e,f],_=>exact⟨a,b,c,d,e,f,rfl⟩
def P3{cs:List Value}{x:DataW H×List MemPlace}(h:DataW.trod enc ah W 0 (fun _=>true) held fuel 25 cs=some x): ∃v,cs=[v]/\(v= .slice none 0 0\/ ∃u,sM W v u):=by
 rcases Go.ChangeShapes.open_strings aw5 Dy G8 h with⟨rfl,_⟩|⟨a,len,z,A,rfl,_,G,O,y,_,t,D⟩
 exact⟨_,rfl,.inl rfl⟩;simp only[if_true] at y;refine⟨_,rfl,.inr ⟨_,a,len,z,(A.take len).map (fun s=>s.data.toList),rfl,rfl,?_,?_,G,Fs (eG G O),?_,?_⟩⟩;rcases Bq z with J|J
 exact .inl J;refine .inr (Rj (W:=W) (v:=.string (A.getD 0 ByteArray.empty)) ?_)
 have:=t 0 (by omega);exact this;rw[bP,List.length_take,y];omega;intro s M;obtain⟨b,R,rfl⟩:=cx.1 M
 have:=D b (List.mem_of_mem_take R);exact Dt this;intro i s w;rw[iw] at w;cases e:(A.take len)[i]? with
 |none=>rw[e] at w;cases w
 |some b=>
  rw[e] at w;simp only[jI,aH] at w;subst w;rw[List.getElem?_take] at e;split at e;have F:=(nF.1 e).1;have I:=t i F;have E:a.spot=none:=Rj (W:=W) (v:=.string (A.getD 0 ByteArray.empty)) (t 0 (by omega));rw[Tv E,kU,e] at I;exact I;cases e
def adf{cs:List Value}{x:DataW H×List MemPlace}(h:DataW.trod enc ah W 0 (fun _=>true) held fuel 92 cs=some x): ∃k v:ae,cs=[.string ⟨⟨k⟩⟩,.string ⟨⟨v⟩⟩]/\k.length<small/\v.length<small:=by
 obtain⟨G,F,n,_,t,y,w⟩:=Go.ChangeShapes.trod_struct2 Tryz.underlying92 h;rw[G7] at t;obtain⟨a,b,rfl⟩:=Y3 t;rw[G8] at y w;obtain⟨s,A,_,D⟩:=DataW.trod_string Dy y;obtain⟨r,z,_,E⟩:=DataW.trod_string Dy w;simp only[mR,vI,vJ,lW,aT] at A;simp only[xz,mR,vI,vJ,lW,aT] at z;subst A;subst z;exact⟨s.data.toList,r.data.toList,rfl,Dt D,Dt E⟩
def awZ{cs:List Value}{x:DataW H×List MemPlace}(h:DataW.trod enc ah W 0 (fun _=>true) held fuel 49 cs=some x): ∃k v:Int,cs=[.int .i64 k,.int .i64 v]:=by
 obtain⟨E,D,n,_,t,y,w⟩:=Go.ChangeShapes.trod_struct2 Tryz.underlying49 h;rw[Us] at t;obtain⟨a,b,rfl⟩:=Y3 t;rw[BF] at y w;obtain⟨s,A,_,_⟩:=DataW.trod_int A8 y;obtain⟨r,z,_,_⟩:=DataW.trod_int A8 w;simp only[mR,vI,vJ,lW,aT] at A;simp only[xz,mR,vI,vJ,lW,aT] at z;subst A;subst z;exact⟨s,r,rfl⟩
def Fk{α:Type}{P:Nat->α->Prop}: ∀(n:Nat),(∀i,i<n-> ∃o,P i o)-> ∃l:List α,l.length=n/\ ∀(i:Nat) o,l[i]? =some o->P i o
 |0,_=>⟨[],rfl,fun i o h=>by simp at h⟩
 |n+1,h=>by
  obtain⟨l,A,z⟩:=Fk n fun i w=>h i (by omega);obtain⟨o,y⟩:=h n (by omega);refine⟨l++[o],by simp[A],fun i p t=>?_⟩;rcases nG i l.length with w|w
  rw[List.getElem?_append_left w] at t;exact z i p t;rw[t6 w] at t;have:i-l.length=0:=by
   rcases Bq (i-l.length) with h|h
   exact h;rw[DL (by simp;omega)] at t;cases t
  rw[this] at t;simp only[gi,aH] at t;subst t;have:i=n:=by omega
  subst this;exact y
def Hj{c:Nat}{t:List (DataW H×List MemPlace)}(F:ah.cellsOf e=c)(E:i<t.length)(z:a.spot=none)(h:(W.cells? 0 (a.add (i*ah.cellsOf e)) (ah.cellsOf e)).bind (DataW.trod enc ah W 0 (fun _=>true) held n e)=t[i]?):
 ∃cs y,DataW.trod enc ah W 0 (fun _=>true) held n e cs=some y/\cs.length=c/\ ∀j,j<c->W.cell? ⟨a.block,a.off+(i*c+j),none⟩=cs[j]? :=by
 rw[F,fE E,aj] at h;obtain⟨cs,I,G⟩:=h;obtain⟨_,A,w⟩:=World.cells?_some I;refine⟨cs,_,G,A,fun j D=>?_⟩;rw[<-w j D,Tv z,oC,Nat.add_assoc]
def J3{len cap:Nat}{t w:List (DataW H×List MemPlace)}(D:0<ah.cellsOf e)(I:t.length=len)(M:len<=cap)(G: ∀i,i<len->(W.cells? 0 (a.add (i*ah.cellsOf e)) (ah.cellsOf e)).bind (DataW.trod enc ah W 0 (fun _=>true) held n e)=t[i]?)(F:w.length=cap-len/\ ∀j,j<cap-len->(W.cells? 0 (a.add ((len+j)*ah.cellsOf e)) (ah.cellsOf e)).bind (DataW.trod enc ah W 0 (fun _=>true) held n e)=w[j]?):cap=0\/a.spot=none:=by
 rcases Bq cap with J|J
 exact .inl J;refine .inr ?_;have A: ∀o:Option (DataW H×List MemPlace),o.isSome=true->(W.cells? 0 (a.add (0*ah.cellsOf e)) (ah.cellsOf e)).bind (DataW.trod enc ah W 0 (fun _=>true) held n e)=o->a.spot=none:=by
  intro o R h;cases o with
  |none=>cases R
  |some y=>
   rw[aj] at h;obtain⟨cs,E,_⟩:=h;obtain⟨_,S,z⟩:=World.cells?_some E
   have:=z 0 D;rw[Nat.zero_mul] at this;have O:(a.add 0).add 0=a:=rfl;rw[O,fE (by omega)] at this;exact Rj this
 rcases Bq len with E|E
 have:=F.2 0 (by omega);rw[E] at this;refine A _ ?_ this;rw[fE (by omega)];rfl;refine A _ ?_ (G 0 E);rw[fE (by omega)];rfl
def atr{cs:List Value}{x:DataW H×List MemPlace}(h:DataW.trod enc ah W 0 (fun _=>true) held fuel 50 cs=some x): ∃v,cs=[v]/\(v= .slice none 0 0\/ ∃u,zM W v u):=by
 rcases DataW.trod_slice aw9 h with⟨rfl,_⟩|⟨a,len,I,G,M,n,_,rfl,_,_,F,Z,z,D,E,_⟩
 exact⟨_,rfl,.inl rfl⟩;have w:=J3 (by rw[G7];omega) z F D (E rfl);obtain⟨gT,S,J⟩:=Fk (P:=fun i (t:fO)=>(t.1.length<small/\t.2.length<small)/\W.cell? ⟨a.block,a.off+(i*2+0),none⟩=some (.string ⟨⟨t.1⟩⟩)/\W.cell? ⟨a.block,a.off+(i*2+1),none⟩=some (.string ⟨⟨t.2⟩⟩)) len fun i A=>by
  have Y:a.spot=none:=by
   rcases w with R|R
   omega;exact R
  obtain⟨cs,y,T,q2,O⟩:=Hj G7 (by omega) Y (D i A);obtain⟨k,v,rfl,hk⟩:=adf T;exact⟨(k,v),hk,O 0 (by omega),O 1 (by omega)⟩
 refine⟨_,rfl,.inr ⟨_,a,len,I,gT,rfl,rfl,w,S,F,Fs (eG F Z),?_,fun i t A=>(J i t A).2⟩⟩;intro t V;obtain⟨i,A⟩:=t7 V;exact(J i t A).1
def ato{cs:List Value}{x:DataW H×List MemPlace}(h:DataW.trod enc ah W 0 (fun _=>true) held fuel 52 cs=some x):
 ∃(id:ae) (k A z:Int) (rv y:Value),cs=[.string ⟨⟨id⟩⟩,.int .i64 k,.int .i64 A,.int .i64 z,rv,y]/\id.length<small/\(rv= .slice none 0 0\/ ∃u,sM W rv u)/\(y= .slice none 0 0\/ ∃u,zM W y u):=by
 obtain⟨xs,n,_,_,D,t,w⟩:=DataW.trod_struct Tryz.underlying52 h;rw[LS] at D;obtain⟨a,b,c,d,e,f,rfl⟩:=Pe D;obtain⟨y0,y1,Z,Y,V,rfl⟩:=ap7 (l:=xs) t;have J:DataW.trod enc ah W 0 (fun _=>true) held n 9 (([a,b,c,d,e,f].drop 0).take (ah.cellsOf 9))=some y0:=w 0 _ rfl;have I:DataW.trod enc ah W 0 (fun _=>true) held n 3 (([a,b,c,d,e,f].drop 1).take (ah.cellsOf 3))=some y1:=w 1 _ rfl;have G:DataW.trod enc ah W 0 (fun _=>true) held n 49 (([a,b,c,d,e,f].drop 2).take (ah.cellsOf 49))=some Z:=w 2 _ rfl;have F:DataW.trod enc ah W 0 (fun _=>true) held n 25 (([a,b,c,d,e,f].drop 4).take (ah.cellsOf 25))=some Y:=w 3 _ rfl;have E:DataW.trod enc ah W 0 (fun _=>true) held n 50 (([a,b,c,d,e,f].drop 5).take (ah.cellsOf 50))=some V:=w 4 _ rfl;rw[G8] at J;rw[BF] at I;rw[Us] at G;rw[LR] at F;rw[af4] at E;obtain⟨s,T,_,hs⟩:=DataW.trod_string Dy J;obtain⟨k,S,_,_⟩:=DataW.trod_int A8 I;obtain⟨A,z,R⟩:=awZ G;obtain⟨rv,O,hr⟩:=P3 F;obtain⟨y,M,ht⟩:=atr E;simp only[mR,xz,vI,vJ,lW,aT] at T S R O M;obtain⟨rfl,rfl⟩:=R;subst T;subst S;subst O;subst M;exact⟨s.data.toList,k,A,z,_,_,rfl,Dt hs,hr,ht⟩
def QE{v:aa}(h:sM W x v): ∃t:List ae,ax 1 aA v t/\t.length<small/\(∀s∈t,s.length<small)/\bH v=true:=by
 obtain⟨_,_,_,t,_,rfl,_,y,_,z,w,_⟩:=h;refine⟨t,.inr ⟨_,rfl⟩,by omega,w,?_⟩;simp only[bH,vf tS t,bW]
def awJ{v:aa}(h:zM W x v): ∃w:List fO,ax 2 ki v w/\w.length<small/\(∀t∈w,t.1.length<small/\t.2.length<small)/\bH v=true:=by
 obtain⟨_,_,_,w,_,rfl,_,z,_,A,y,_⟩:=h;refine⟨w,.inr ⟨_,rfl⟩,by omega,y,?_⟩;simp only[bH,vf RC w,bW]
def uN{o:Nat}{v:aa}(h:W.cell? ⟨b,o,none⟩=some x)(t:JY x=some v):(jf W).ro b o=some v:=by
 show(lJ W b o).or _=_;have:lJ W b o=some v:=by simp only[lJ,h,bg,t]
 rw[this];rfl
def ajI{k:IntKind}{z:Int}(w:W.cell? ⟨a.block,a.off+(i*6+3),none⟩=some (.int k z))(h:W.cell? ⟨a.block,a.off+(i*6+4),none⟩=some x)(t:sM W x u): ∃v,(jf W).ro a.block (a.off+(i*6+4))=some v/\sM W x v:=by
 obtain⟨v,A,y⟩:=Qh t;refine⟨v,?_,y⟩;show(lJ W _ _).or _=_;have e:lJ W a.block (a.off+(i*6+4))=none:=by
  obtain⟨d,len,E,_,rfl,_⟩:=t;simp only[lJ,h,bg];rfl
 have D:a.off+(i*6+4)-1=a.off+(i*6+3):=by omega
 rw[e,zF,Dk,h,D,w];exact A
def ajJ{y:Option Addr}{p q:Nat}(w:W.cell? ⟨a.block,a.off+(i*6+4),none⟩=some (.slice y p q))(h:W.cell? ⟨a.block,a.off+(i*6+5),none⟩=some x)(t:zM W x u): ∃v,(jf W).ro a.block (a.off+(i*6+5))=some v/\zM W x v:=by
 obtain⟨v,A,z⟩:=Qh t;refine⟨v,?_,z⟩;show(lJ W _ _).or _=_;have e:lJ W a.block (a.off+(i*6+5))=none:=by
  obtain⟨d,len,E,_,rfl,_⟩:=t;simp only[lJ,h,bg];rfl
 have D:a.off+(i*6+5)-1=a.off+(i*6+4):=by omega
 rw[e,zF,Dk,h,D,w];exact A
def aaM{cs:List Value}{x:DataW H×List MemPlace}(h:DataW.trod enc ah W 0 (fun _=>true) held fuel 22 cs=some x):
 ∃(val:Value) (v:aa) (l:List Obj),cs=[val]/\VR (jf W) v val/\v.scal=true/\ax 6 Obj.val v l/\(∀o∈l,o.Al)/\l.length<small/\(∀o∈l, ∀t∈o.gT,t.2.length<small)/\dL v=true:=by
 rcases DataW.trod_slice aw4 h with⟨rfl,_⟩|⟨a,len,a0,a4,a5,n,_,rfl,_,_,hl,hm,V,Z,a1,_⟩
 refine⟨_,.AL,[],rfl,.AL,rfl,.inl ⟨rfl,rfl⟩,(fun o D=>by cases D),by decide,(fun o D=>by cases D),rfl⟩;have A:=J3 (by rw[LS];omega) V hl Z (a1 rfl);obtain⟨l,t1,t2⟩:=Fk (P:=fun i (o:Obj)=>(o.Al/\ ∀t∈o.gT,t.2.length<small)/\ ∀(j:Nat) v,o.cells[j]? =some v->(jf W).ro a.block (a.off+(i*6+j))=some v) len fun i Y=>by
  have O:a.spot=none:=by
   rcases A with h0|h0
   omega;exact h0
  obtain⟨cs,y,q1,q2,F⟩:=Hj LS (by omega) O (Z i Y);obtain⟨id,k,px,py,rv,tv,rfl,hid,hr,J⟩:=ato q1;have p0:=F 0 (by omega);have p1:=F 1 (by omega);have p2:=F 2 (by omega);have p3:=F 3 (by omega);have p4:=F 4 (by omega);have p5:=F 5 (by omega);simp only[gi,iJ] at p0 p1 p2 p3 p4 p5;have R: ∃(v:aa) (w:List ae),(jf W).ro a.block (a.off+(i*6+4))=some v/\ax 1 aA v w/\w.length<small/\(∀s∈w,s.length<small)/\bH v=true:=by
   rcases hr with rfl|⟨u,I⟩
   exact⟨.AL,[],uN p4 rfl,.inl ⟨rfl,rfl⟩,by decide,(fun s O=>by cases O),rfl⟩;obtain⟨v,g1,g2⟩:=ajI p3 p4 I;obtain⟨w,g3⟩:=QE g2;exact⟨v,w,g1,g3⟩
  have a2: ∃y p q,rv= .slice y p q:=by
   rcases hr with rfl|⟨u,I⟩
   exact⟨_,_,_,rfl⟩;obtain⟨d,len,a0,_,rfl,_⟩:=I;exact⟨_,_,_,rfl⟩
  have T: ∃(v:aa) (E:List fO),(jf W).ro a.block (a.off+(i*6+5))=some v/\ax 2 ki v E/\E.length<small/\(∀s∈E,s.1.length<small/\s.2.length<small)/\bH v=true:=by
   rcases J with rfl|⟨u,I⟩
   exact⟨.AL,[],uN p5 rfl,.inl ⟨rfl,rfl⟩,by decide,(fun s O=>by cases O),rfl⟩;obtain⟨y,p,q,rfl⟩:=a2;obtain⟨v,g1,g2⟩:=ajJ p4 p5 I;obtain⟨E,g3⟩:=awJ g2;exact⟨v,E,g1,g3⟩
  obtain⟨rV,w,r1,r2,r3,r4,r5⟩:=R;obtain⟨tV,E,s1,s2,s3,s4,s5⟩:=T;refine⟨⟨id,k,px,py,rV,tV,w,E⟩,⟨⟨⟨r2,s2,hid,r3,r4,s3,fun t J=>(s4 t J).1⟩,r5,s5⟩,fun t J=>(s4 t J).2⟩,?_⟩;intro j v z
  match j,z with
  |0,z=>simp only[Obj.cells,gi,aH] at z;subst z;exact yh p0
  |1,z=>simp only[Obj.cells,iJ,gi,aH] at z;subst z;exact uN p1 rfl
  |2,z=>simp only[Obj.cells,iJ,gi,aH] at z;subst z;exact uN p2 rfl
  |3,z=>simp only[Obj.cells,iJ,gi,aH] at z;subst z;exact uN p3 rfl
  |4,z=>simp only[Obj.cells,iJ,gi,aH] at z;subst z;exact r1
  |5,z=>simp only[Obj.cells,iJ,gi,aH] at z;subst z;exact s1
  |j+6,z=>simp[Obj.cells] at z
 have hg: ∀o∈l,o.Al:=fun o D=>by
  obtain⟨i,Y⟩:=t7 D;exact(t2 i o Y).1.1
 have a3: ∀o∈l, ∀t∈o.gT,t.2.length<small:=fun o D=>by
  obtain⟨i,Y⟩:=t7 D;exact(t2 i o Y).1.2
 refine⟨_,.list 6 (l.map Obj.val) .no,l,rfl,?_,rfl,.inr ⟨_,rfl⟩,hg,by rw[t1];exact Fs (eG hl hm),a3,by simpa[dL] using JJ hg⟩;have S:(l.map Obj.val).length=len:=by simp[t1]
 have M: ∀y∈l.map Obj.val,y.cells.length=6:=by
  intro y hy;obtain⟨o,_,rfl⟩:=cx.1 hy;rfl
 have:VR (jf W) (.list 6 (l.map Obj.val) .no) (.slice (some a) (l.map Obj.val).length a0):=by
  refine .list A (by omega) M (by rw[S];exact hl) ?_ trivial;intro i y hy;obtain⟨u,G,h2,h3⟩:=Hs M hy;rw[iw] at G;cases e:l[i / 6]? with
  |none=>rw[e] at G;cases G
  |some o=>
   rw[e] at G;simp only[jI,aH] at G;subst G;rw[h3];exact(t2 _ o e).2 _ _ h2
 rw[S] at this;exact this
def afZ:ah.cellsOf 26=1:=by kernel_rfl
def af0:ah.cellsOf 27=1:=by kernel_rfl
def af3:ah.cellsOf 29=6:=by kernel_rfl
def c_4:ah.cellsOf 4=1:=by kernel_rfl
def LU:ah.cellsOf 94=8:=by kernel_rfl
def aw6:ah.underlying 26=some (.slice 3):=by kernel_rfl
def aw7:ah.underlying 27=some (.slice 94):=by kernel_rfl
def aw8:ah.underlying 4=some .bool:=by kernel_rfl
def ap9{l:List α}(h:l.length=8): ∃a b c d e f g k,l=[a,b,c,d,e,f,g,k]:=by
 match l,h with
 | [a,b,c,d,e,f,g,k],_=>exact⟨a,b,c,d,e,f,g,k,rfl⟩
def ap8{l:List α}(h:l.length=7): ∃a b c d e f g,l=[a,b,c,d,e,f,g]:=by
 match l,h with
 | [a,b,c,d,e,f,g],_=>exact⟨a,b,c,d,e,f,g,rfl⟩
def P4{cs:List Value}{x:DataW H×List MemPlace}(h:DataW.trod enc ah W 0 (fun _=>true) held fuel 25 cs=some x):
 ∃(val:Value) (v:aa) (l:List ae),cs=[val]/\VR (jf W) v val/\v.scal=true/\ax 1 aA v l/\l.length<small/\sZ v=true:=by
 obtain⟨val,e,A⟩:=P3 h;rcases A with rfl|⟨u,y⟩
 exact⟨_,.AL,[],e,.AL,rfl,.inl ⟨rfl,rfl⟩,by decide,rfl⟩;obtain⟨w,E,D,G,F⟩:=QE y;have z:=QD y;refine⟨_,u,w,e,z,?_,E,D,?_⟩;obtain⟨_,_,_,_,_,rfl,_⟩:=y;rfl;obtain⟨_,_,_,t,_,rfl,_⟩:=y;exact vf tS t
def atm{cs:List Value}{x:DataW H×List MemPlace}(h:DataW.trod enc ah W 0 (fun _=>true) held fuel 26 cs=some x):
 ∃(val:Value) (v:aa),cs=[val]/\VR (jf W) v val/\v.scal=true/\sZ v=true:=by
 rcases DataW.trod_slice aw6 h with⟨rfl,_⟩|⟨a,len,O,M,R,n,_,rfl,_,_,T,hm,D,E,G,_⟩
 exact⟨_,.AL,rfl,.AL,rfl,rfl⟩;have t:=J3 (by rw[BF];omega) D T E (G rfl);obtain⟨l,Z,Y⟩:=Fk (P:=fun i (k:Int)=>(jf W).ro a.block (a.off+i)=some (.int .i64 k)) len fun i I=>by
  have hs:a.spot=none:=by
   rcases t with V|V
   omega;exact V
  obtain⟨cs,y,q1,q2,q3⟩:=Hj BF (by omega) hs (E i I);obtain⟨k,e1,_,_⟩:=DataW.trod_int A8 q1;subst e1;have S:=q3 0 (by omega);simp only[gi,xI,Nat.add_zero] at S;exact⟨k,uN S rfl⟩
 have hp: ∀k:Int,bH (aa.int .i64 k)=true:=fun _=>rfl;refine⟨_,.list 1 (l.map (aa.int .i64)) .no,rfl,?_,rfl,vf hp l⟩;have A:(l.map (aa.int .i64)).length=len:=by simp[Z]
 have z: ∀y∈l.map (aa.int .i64),y.cells.length=1:=by
  intro y F;obtain⟨o,_,rfl⟩:=cx.1 F;rfl
 have:VR (jf W) (.list 1 (l.map (aa.int .i64)) .no) (.slice (some a) (l.map (aa.int .i64)).length O):=by
  refine .list t (by omega) z (by rw[A];exact T) ?_ trivial;intro i y F;obtain⟨u,w,J,h3⟩:=Hs z F;rw[iw] at w;cases e:l[i / 1]? with
  |none=>rw[e] at w;cases w
  |some o=>
   rw[e] at w;simp only[jI,aH] at w;subst w;have I:i % 1=0:=Nat.mod_one i;rw[I] at J;simp only[aa.cells,gi,aH] at J;subst J;rw[Nat.div_one] at e;exact Y _ o e
 rw[A] at this;exact this
def atp{cs:List Value}{x:DataW H×List MemPlace}(h:DataW.trod enc ah W 0 (fun _=>true) held fuel 94 cs=some x):
 ∃(st:Bool) (ar:ae) (k:Int) (D iv:ae) (op:Int) (key:ae) (vv:Value),cs=[.bool st,.string ⟨⟨ar⟩⟩,.int .i64 k,.string ⟨⟨D⟩⟩,.string ⟨⟨iv⟩⟩,.int .i64 op,.string ⟨⟨key⟩⟩,vv]/\ar.length<small/\D.length<small/\key.length<small/\(vv= .slice none 0 0\/ ∃u,sM W vv u):=by
 obtain⟨xs,n,_,_,E,w,t⟩:=DataW.trod_struct Tryz.underlying94 h;rw[LU] at E;obtain⟨a,b,c,d,e,f,g,k,rfl⟩:=ap9 E;obtain⟨y0,y1,y2,y3,y4,y5,y6,rfl⟩:=ap8 (l:=xs) w;have R:DataW.trod enc ah W 0 (fun _=>true) held n 4 (([a,b,c,d,e,f,g,k].drop 0).take (ah.cellsOf 4))=some y0:=t 0 _ rfl;have O:DataW.trod enc ah W 0 (fun _=>true) held n 9 (([a,b,c,d,e,f,g,k].drop 1).take (ah.cellsOf 9))=some y1:=t 1 _ rfl;have M:DataW.trod enc ah W 0 (fun _=>true) held n 3 (([a,b,c,d,e,f,g,k].drop 2).take (ah.cellsOf 3))=some y2:=t 2 _ rfl;have J:DataW.trod enc ah W 0 (fun _=>true) held n 92 (([a,b,c,d,e,f,g,k].drop 3).take (ah.cellsOf 92))=some y3:=t 3 _ rfl;have I:DataW.trod enc ah W 0 (fun _=>true) held n 3 (([a,b,c,d,e,f,g,k].drop 5).take (ah.cellsOf 3))=some y4:=t 4 _ rfl;have G:DataW.trod enc ah W 0 (fun _=>true) held n 9 (([a,b,c,d,e,f,g,k].drop 6).take (ah.cellsOf 9))=some y5:=t 5 _ rfl;have F:DataW.trod enc ah W 0 (fun _=>true) held n 25 (([a,b,c,d,e,f,g,k].drop 7).take (ah.cellsOf 25))=some y6:=t 6 _ rfl;rw[c_4] at R;rw[G8] at O G;rw[BF] at M I;rw[G7] at J;rw[LR] at F;obtain⟨b0,e0,_⟩:=DataW.trod_bool aw8 R;obtain⟨s1,e1,_,z⟩:=DataW.trod_string Dy O;obtain⟨k2,Z,_,_⟩:=DataW.trod_int A8 M;obtain⟨k3,v3,Y,A,_⟩:=adf J;obtain⟨k4,V,_,_⟩:=DataW.trod_int A8 I;obtain⟨s5,T,_,y⟩:=DataW.trod_string Dy G;obtain⟨rv,S,hr⟩:=P3 F;simp only[mR,xz,vI,vJ,lW,aT] at e0 e1 Z Y V T S;obtain⟨rfl,rfl⟩:=Y;subst e0;subst e1;subst Z;subst V;subst T;subst S;exact⟨b0,s1.data.toList,k2,k3,v3,k4,s5.data.toList,_,rfl,Dt z,A,Dt y,hr⟩
def ajK{z:ByteArray}(w:W.cell? ⟨a.block,a.off+(i*8+6),none⟩=some (.string z))(h:W.cell? ⟨a.block,a.off+(i*8+7),none⟩=some x)(t:sM W x u): ∃v,(jf W).ro a.block (a.off+(i*8+7))=some v/\sM W x v:=by
 obtain⟨v,A,y⟩:=Qh t;refine⟨v,?_,y⟩;show(lJ W _ _).or _=_;have e:lJ W a.block (a.off+(i*8+7))=none:=by
  obtain⟨d,len,E,_,rfl,_⟩:=t;simp only[lJ,h,bg];rfl
 have D:a.off+(i*8+7)-1=a.off+(i*8+6):=by omega
 rw[e,zF,Dk,h,D,w];exact A
def atq{cs:List Value}{x:DataW H×List MemPlace}(h:DataW.trod enc ah W 0 (fun _=>true) held fuel 27 cs=some x):
 ∃(val:Value) (v:aa) (l:List aG),cs=[val]/\VR (jf W) v val/\v.scal=true/\ax 8 aG.val v l/\(∀o∈l,o.OkS)/\l.length<small:=by
 rcases DataW.trod_slice aw7 h with⟨rfl,_⟩|⟨a,len,a1,a0,a2,n,_,rfl,_,_,Z,hm,G,I,T,_⟩
 refine⟨_,.AL,[],rfl,.AL,rfl,.inl ⟨rfl,rfl⟩,(fun o Y=>by cases Y),by decide⟩;have z:=J3 (by rw[LU];omega) G Z I (T rfl);obtain⟨l,t1,t2⟩:=Fk (P:=fun i (o:aG)=>o.OkS/\ ∀(j:Nat) v,o.cells[j]? =some v->(jf W).ro a.block (a.off+(i*8+j))=some v) len fun i hi=>by
  have V:a.spot=none:=by
   rcases z with h0|h0
   omega;exact h0
  obtain⟨cs,y,q1,q2,A⟩:=Hj LU (by omega) V (I i hi);obtain⟨st,ar,k,ik,iv,op,O,rv,rfl,D,h2,h3,hr⟩:=atp q1;have p0:=A 0 (by omega);have p1:=A 1 (by omega);have p2:=A 2 (by omega);have p3:=A 3 (by omega);have p4:=A 4 (by omega);have p5:=A 5 (by omega);have M:=A 6 (by omega);have J:=A 7 (by omega);simp only[gi,iJ] at p0 p1 p2 p3 p4 p5 M J;have R: ∃(v:aa) (w:List ae),(jf W).ro a.block (a.off+(i*8+7))=some v/\ax 1 aA v w/\w.length<small/\(∀s∈w,s.length<small)/\bH v=true:=by
   rcases hr with rfl|⟨u,hu⟩
   exact⟨.AL,[],uN J rfl,.inl ⟨rfl,rfl⟩,by decide,(fun s V=>by cases V),rfl⟩;obtain⟨v,g1,g2⟩:=ajK M J hu;obtain⟨w,g3⟩:=QE g2;exact⟨v,w,g1,g3⟩
  obtain⟨rV,w,r1,r2,r3,r4,r5⟩:=R;refine⟨⟨st,ar,k,ik,iv,op,O,rV,w⟩,⟨r2,r5,D,h3,h2,r3⟩,?_⟩;intro j v t
  match j,t with
  |0,t=>simp only[aG.cells,gi,aH] at t;subst t;exact uN p0 rfl
  |1,t=>simp only[aG.cells,iJ,gi,aH] at t;subst t;exact yh p1
  |2,t=>simp only[aG.cells,iJ,gi,aH] at t;subst t;exact uN p2 rfl
  |3,t=>simp only[aG.cells,iJ,gi,aH] at t;subst t;exact yh p3
  |4,t=>simp only[aG.cells,iJ,gi,aH] at t;subst t;exact yh p4
  |5,t=>simp only[aG.cells,iJ,gi,aH] at t;subst t;exact uN p5 rfl
  |6,t=>simp only[aG.cells,iJ,gi,aH] at t;subst t;exact yh M
  |7,t=>simp only[aG.cells,iJ,gi,aH] at t;subst t;exact r1
  |j+8,t=>simp[aG.cells] at t
 have hg: ∀o∈l,o.OkS:=fun o Y=>by
  obtain⟨i,hi⟩:=t7 Y;exact(t2 i o hi).1
 refine⟨_,.list 8 (l.map aG.val) .no,l,rfl,?_,rfl,.inr ⟨_,rfl⟩,hg,by rw[t1];exact Fs (eG Z hm)⟩;have F:(l.map aG.val).length=len:=by simp[t1]
 have E: ∀y∈l.map aG.val,y.cells.length=8:=by
  intro y S;obtain⟨o,_,rfl⟩:=cx.1 S;rfl
 have:VR (jf W) (.list 8 (l.map aG.val) .no) (.slice (some a) (l.map aG.val).length a1):=by
  refine .list z (by omega) E (by rw[F];exact Z) ?_ trivial;intro i y S;obtain⟨u,D,h2,h3⟩:=Hs E S;rw[iw] at D;cases e:l[i / 8]? with
  |none=>rw[e] at D;cases D
  |some o=>
   rw[e] at D;simp only[jI,aH] at D;subst D;rw[h3];exact(t2 _ o e).2 _ _ h2
 rw[F] at this;exact this
def atn{d:DataW H}(D: ∃cs,v= .agg cs)(h:DataW.Trod enc ah W 0 (fun _=>true) held 24 v d ps):
 ∃(x:aa) (l:List Obj),VR (jf W) (.agg [x]) v/\ax 6 Obj.val x l/\(∀o∈l,o.Al)/\l.length<small/\(∀o∈l, ∀t∈o.gT,t.2.length<small):=by
 obtain⟨fuel,h⟩:=h;obtain⟨cs,rfl⟩:=D;obtain⟨R,n,_,y,A⟩:=Go.ChangeShapes.trod_struct1 Tryz.underlying24 h;rw[Uq] at A;have z:(Value.agg cs).cells.toList=cs.toList:=rfl;rw[z] at A y;rw[Ur] at y;obtain⟨val,x,l,e,M,w,J,I,G,F,_⟩:=aaM A;have E:cs= #[val]:=by
  obtain⟨O⟩:=cs;obtain⟨c,rfl⟩:=ap6 (l:=O) y;simp only[mR,vI,vJ,lW,aT] at e;subst e;rfl
 subst E;refine⟨x,l,.agg ?_ (.cons M .nil),J,I,G,F⟩;simp only[de,jq,w,List.all_nil,bW]
def att{d:DataW H}(hv: ∃cs,v= .agg cs)(h:DataW.Trod enc ah W 0 (fun _=>true) held 29 v d ps):
 ∃(w0 w1 w2 w3 vv rv:aa) (views:List ae) (rl:List aG),VR (jf W) (.agg [w0,w1,w2,w3,vv,rv]) v/\uL w0 w1 w2 w3=true/\ax 1 aA vv views/\views.length<small/\ax 8 aG.val rv rl/\(∀x∈rl,x.OkS)/\rl.length<small:=by
 obtain⟨fuel,h⟩:=h;obtain⟨cs,rfl⟩:=hv;obtain⟨xs,n,_,_,y,w,t⟩:=DataW.trod_struct Tryz.underlying29 h;have A:(Value.agg cs).cells.toList=cs.toList:=rfl;rw[A] at y t;rw[af3] at y;obtain⟨cl⟩:=cs;have y:cl.length=6:=y;obtain⟨a,b,c,d,e,f,rfl⟩:=Pe y;obtain⟨y0,y1,y2,y3,y4,y5,rfl⟩:=Pe (l:=xs) w;have z:DataW.trod enc ah W 0 (fun _=>true) held n 24 (([a,b,c,d,e,f].drop 0).take (ah.cellsOf 24))=some y0:=t 0 _ rfl;have T:DataW.trod enc ah W 0 (fun _=>true) held n 25 (([a,b,c,d,e,f].drop 1).take (ah.cellsOf 25))=some y1:=t 1 _ rfl;have S:DataW.trod enc ah W 0 (fun _=>true) held n 26 (([a,b,c,d,e,f].drop 2).take (ah.cellsOf 26))=some y2:=t 2 _ rfl;have R:DataW.trod enc ah W 0 (fun _=>true) held n 3 (([a,b,c,d,e,f].drop 3).take (ah.cellsOf 3))=some y3:=t 3 _ rfl;have O:DataW.trod enc ah W 0 (fun _=>true) held n 25 (([a,b,c,d,e,f].drop 4).take (ah.cellsOf 25))=some y4:=t 4 _ rfl;have M:DataW.trod enc ah W 0 (fun _=>true) held n 27 (([a,b,c,d,e,f].drop 5).take (ah.cellsOf 27))=some y5:=t 5 _ rfl;rw[Ur] at z;rw[LR] at T O;rw[afZ] at S;rw[BF] at R;rw[af0] at M;obtain⟨z0,n0,_,a0,z⟩:=Go.ChangeShapes.trod_struct1 Tryz.underlying24 z;rw[Uq] at z;obtain⟨I,J,l0,e0,r0,s0,i0,g0,_,_,_⟩:=aaM z;obtain⟨G,v1,l1,e1,r1,s1,i1,_,f1⟩:=P4 T;obtain⟨F,v2,e2,r2,s2,f2⟩:=atm S;obtain⟨k3,Z,_,_⟩:=DataW.trod_int A8 R;obtain⟨E,v4,l4,Y,r4,s4,i4,n4,_⟩:=P4 O;obtain⟨D,v5,l5,V,r5,s5,i5,g5,n5⟩:=atq M;simp only[mR,xz,vI,vJ,lW,aT] at e0 e1 e2 Z Y V;subst e0;subst e1;subst e2;subst Z;subst Y;subst V;have f0:sZ J=true:=by
  rcases i0 with⟨rfl,_⟩|⟨r,rfl⟩
  rfl;exact JJ g0
 refine⟨J,v1,v2,.int .i64 k3,v4,v5,l4,l5,.agg ?_ (.cons r0 (.cons r1 (.cons r2 (.cons (.int _ _) (.cons r4 (.cons r5 .nil)))))),?_,i4,n4,i5,g5,n5⟩;simp only[de,jq,s0,s1,s2,s4,s5,List.all_nil,bW];rfl;simp only[uL,f0,f1,f2,en];rfl
def atl{d:DataW H}(t:v.cells.toList=[v])(h:DataW.Trod enc ah W 0 (fun _=>true) held 25 v d ps):
 ∃(u:aa) (l:List ae),VR (jf W) u v/\ax 1 aA u l/\l.length<small:=by
 obtain⟨fuel,h⟩:=h;rw[t] at h;obtain⟨val,u,l,e,w,_,z,y,_⟩:=P4 h;injection e with e
 subst e;exact⟨u,l,w,z,y⟩
end
