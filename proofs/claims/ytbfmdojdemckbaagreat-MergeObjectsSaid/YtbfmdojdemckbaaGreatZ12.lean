/- MergeObjects: the plain law, the walk; its arguments as values. -/
import Derived.Test.YtbfmdojdemckbaaGreatHd
import Derived.ProofKit
namespace Go.Proofs.YtbfmdojdemckbaaGreat
open _root_.Bool renaming and_self→gK,and_true→dB,false_or→jz,not_false→ff,not_true→dP,or_true→nJ,true_or→mN
open _root_.List renaming cons_append→cq,drop_succ_cons→gl,drop_zero→l9,drop→aR,getElem?_cons_succ→jI,getElem?_cons_zero→fe,getElem?_eq_getElem→jf,getElem?_eq_none→jg,getElem?_map→sS,getElem?_of_mem→A2,length_cons→aK,length_map→ep,length_nil→aQ,nil_append→bT,take_succ_cons→eP,take_zero→wt,take→bA
open _root_.List.cons renaming injEq→mQ
open _root_.Nat renaming eq_zero_or_pos→sV,le_trans→fX,reduceAdd→bt,reduceBEq→ae,reduceLT→ar,reduceLeDiff→bR,zero_add→aM,zero_lt_succ→gL
open Operand renaming tmp→aa
open _root_.Option renaming bind_eq_some_iff→aF,bind_some→ak,getD_some→nM,map_some→qr,none_or→rl
open _root_.Option.some renaming injEq→a7
open Go.Ag
theorem UD (c:Cf):uy (de c)=some c:=rfl
def uJ:Sp
 | [v,.str a,.str b]=>bif bM v then(gN 2 uy v).bind fun l=>bif Nat.ble l.length 1000000 then some (.bool (l.any (gZ a b))) else none else none
 |_=>none
theorem Hb {v:ai} {l:List Cf} (h:bu 2 de v l) (hp:bM v=true) (hs:l.length≤1000000) (a b:ax):uJ [v,.str a,.str b]=some (.bool (l.any (gZ a b))):=by
 have h1:Nat.ble l.length 1000000=true:=Nat.ble_eq_true_of_le hs
 simp only [uJ,hp,cT,jE UD h,ak,h1]
theorem VY:eD Tryz.prog 17 uJ:=by
 intro args x hv G h w xs wr hx
 unfold uJ at hv
 split at hv
 ·rename_i v a b
  obtain⟨hp,hv⟩:=bW hv
  simp only [aF] at hv
  obtain⟨l,h1,hv⟩:=hv
  obtain⟨hs,hv⟩:=bW hv
  injection hv with hv;subst hv
  have hl:=iX (fun v a=>Bv) h1
  have hpp:pures [v,.str a,.str b]=true:=by simp only [pures,hp];rfl
  exact gJ (Q:=QT []) (gD .nil) (fun _=>gL 1) (args:=[v,.str a,.str b]) (v:=.bool (l.any (gZ a b))) (s':=s0) (kB hpp) (by rw [iw hpp];exact V0 (sp:=fun f=>eY f []) rfl hl (Nat.le_of_ble_eq_true hs) a b s0) rfl ⟨1,rfl⟩ G h w xs wr hx
 ·cases hv
theorem ajK: ∀l:List Cf,bM (fS 2 (l.map de))=true
 | []=>rfl
 |a::l=>by
  have h: ∀l:List Cf,pures (l.map de)=true:=by
   intro l
   induction l with
   |nil=>rfl
   |cons a l ih=>
    show(bM (de a)&&pures (l.map de))=true
    rw [ih];rfl
  show(pures ((a::l).map de)&&true)=true
  rw [h];rfl
theorem xI {p q:Option Obj}:cN p q=true↔(p=none∧q=none)∨ ∃a b,p=some a∧q=some b∧a.Eqv b:=by
 cases p<;>cases q<;>simp [cN,E3]
theorem TK {a b:Obj} (h:a.Eqv b):b.Eqv a:=⟨h.id.symm,h.kind.symm,h.x.symm,h.y.symm,h.refs.symm,h.tags.symm⟩
theorem TL {a b c:Obj} (h:a.Eqv b) (g:b.Eqv c):a.Eqv c:=⟨g.id.trans h.id,g.kind.trans h.kind,g.x.trans h.x,g.y.trans h.y,g.refs.trans h.refs,g.tags.trans h.tags⟩
theorem vE (p:Option Obj):cN p p=true:=by
 rw [xI]
 cases p with
 |none=>exact .inl ⟨rfl,rfl⟩
 |some a=>exact .inr ⟨a,a,rfl,rfl,.rfl⟩
theorem ajo {p q:Option Obj} (h:cN p q=true):cN q p=true:=by
 rw [xI] at h ⊢
 rcases h with⟨h1,h2⟩|⟨a,b,h1,h2,h3⟩
 ·exact .inl ⟨h2,h1⟩
 ·exact .inr ⟨b,a,h2,h1,TK h3⟩
theorem ajp {p q r:Option Obj} (h:cN p q=true) (g:cN q r=true):cN p r=true:=by
 rw [xI] at h g ⊢
 rcases h with⟨rfl,rfl⟩|⟨a,b,rfl,rfl,h3⟩
 ·rcases g with⟨_,rfl⟩|⟨a,b,h1,_⟩
  ·exact .inl ⟨rfl,rfl⟩
  ·cases h1
 ·rcases g with⟨h1,_⟩|⟨c,d,h1,rfl,h4⟩
  ·cases h1
  ·have h1:=Option.some.inj h1
   subst h1
   exact .inr ⟨a,d,rfl,rfl,TL h3 h4⟩
theorem Ew {p q:Option Obj}:jt p q=p∨jt p q=q:=by
 cases p with
 |none=>exact .inr rfl
 |some a=>
  cases q with
  |none=>exact .inl rfl
  |some b=>
   simp only [jt]
   cases du (qz b a) 0 with
   |true=>exact .inr rfl
   |false=>exact .inl rfl
theorem aik {k:ax} {pb po pt:Option Obj} (hb: ∀o,pb=some o→o.id=k) (ho: ∀o,po=some o→o.id=k) (ht: ∀o,pt=some o→o.id=k): ∀q,hG pb po pt=some q→q.id=k:=by
 have hl: ∀q,jt po pt=some q→q.id=k:=fun q h=>by
  rcases Ew (p:=po) (q:=pt) with e|e
  ·rw [e] at h;exact ho q h
  ·rw [e] at h;exact ht q h
 intro q h
 unfold hG at h
 cases h1:cN po pt||cN pt pb with
 |true=>rw [h1] at h;exact ho q h
 |false=>
  rw [h1] at h
  cases h2:cN po pb with
  |true=>rw [h2] at h;exact ht q h
  |false=>
   rw [h2] at h
   simp only [cF] at h
   split at h
   ·rename_i b o t
    cases h3:bL o.kind b.kind&&bL t.kind b.kind with
    |true=>
     rw [h3] at h
     have h:=Option.some.inj h
     rw [←h]
     have hid:(nu b o t).id=b.id:=by
      unfold nu
      cases lq b o t<;>rfl
     exact hid.trans (hb b rfl)
    |false=>rw [h3] at h;exact hl q h
   ·exact hl q h
theorem alM {b o t:List Obj} {k:ax} {q:Obj} (h:fv b o t k=some q):q.id=k:=by
 unfold fv at h
 cases hm:fW b o t k with
 |some q'=>
  rw [hm] at h
  have h:=Option.some.inj h
  rw [←h]
  exact aik (fun _ h=>(ku h).2) (fun _ h=>(ku h).2) (fun _ h=>(ku h).2) q' hm
 |none=>
  rw [hm] at h
  simp only [iM] at h
  cases hb:aX k b with
  |some q'=>
   rw [hb] at h
   have h:=Option.some.inj h
   rw [←h]
   exact(ku hb).2
  |none=>
   rw [hb] at h
   rcases Ew (p:=aX k o) (q:=aX k t) with e|e
   ·have h:jt (aX k o) (aX k t)=some q:=h
    rw [e] at h;exact(ku h).2
   ·have h:jt (aX k o) (aX k t)=some q:=h
    rw [e] at h;exact(ku h).2
theorem iz.some {b o t:List Obj} {k:ax} (h:iz b o t k): ∃q,fv b o t k=some q:=by
 rcases h with h|h
 ·obtain⟨q,hq⟩:=Option.isSome_iff_exists.1 h
  exact⟨q,by simp only [fv,hq]⟩
 ·obtain⟨q,hq⟩:=Option.isSome_iff_exists.1 h.no.2
  exact⟨q,by simp only [fv,h.no.1,hq]⟩
theorem aju {b o t:List Obj} {k:ax} (h:iz b o t k):(mz b o t k).id=k:=by
 obtain⟨q,hq⟩:=h.some
 simp only [mz,hq,nM]
 exact alM hq
theorem RH {f:ax→Obj} {k:ax}: ∀ {ks:List ax},(∀j∈ks,(f j).id=j)→(k∈ks→aX k (ks.map f)=some (f k))∧(k ∉ ks→aX k (ks.map f)=none)
 | [],_=>⟨fun h=>(by cases h),fun _=>rfl⟩
 |a::ks,h=>by
  obtain⟨h1,h2⟩:=RH (f:=f) (k:=k) (ks:=ks) fun j hj=>h j (by simp [hj])
  have ha:=h a (by simp)
  simp only [List.map_cons,aX,ha]
  cases hk:k==a with
  |true=>
   have:=eq_of_beq hk
   subst this
   exact⟨fun _=>rfl,fun hn=>absurd (List.mem_cons_self) hn⟩
  |false=>
   have hne:k≠a:=beq_eq_false_iff_ne.1 hk
   exact⟨fun hm=>h1 ((List.mem_cons.1 hm).resolve_left hne),fun hn=>h2 fun hm=>hn (List.mem_cons_of_mem _ hm)⟩
theorem xE {b o t:List Obj} {k:ax}:(iz b o t k→aX k (gd b o t)=fv b o t k)∧(¬iz b o t k→aX k (gd b o t)=none):=by
 have hmem: ∀j,j∈fq (oz b o t)↔iz b o t j:=fun j=>(l5 _).mem_iff.trans EF
 have h:=RH (f:=mz b o t) (k:=k) (ks:=fq (oz b o t)) fun j hj=>aju ((hmem j).1 hj)
 refine⟨fun hi=>?_,fun hn=>h.2 fun hm=>hn ((hmem k).1 hm)⟩
 obtain⟨q,hq⟩:=hi.some
 have h1:aX k (gd b o t)=some (mz b o t k):=h.1 ((hmem k).2 hi)
 rw [h1,hq]
 simp only [mz,hq,nM]
theorem Tc {id:ax} {c:Cf}: ∀ {ks:List ax},c∈lw id ks []→c.1=id
 | [],h=>by cases h
 |k::ks,h=>by
  have h1:lw id (k::ks) []=lw id ks (dC (id,lu k) []):=rfl
  rw [h1,vn,o7] at h
  rcases h with(rfl|h)|h
  ·rfl
  ·cases h
  ·exact Tc h
theorem Xd {b o t:Obj} {c:Cf} (h:c∈oV b o t []):c.1=b.id:=by
 unfold oV at h
 rw [vn,ED] at h
 rcases h with(h|h)|h
 ·unfold jP at h
  cases hr:lq b o t with
  |none=>
   rw [hr] at h
   rcases o7.1 h with rfl|h
   ·rfl
   ·cases h
  |some _=>rw [hr] at h;cases h
 ·unfold lK at h
  cases hp:p9 (b.x,b.y) (o.x,o.y) (t.x,t.y) with
  |true=>
   rw [hp] at h
   have h:c∈dC (b.id,AA) []:=h
   rcases o7.1 h with rfl|h
   ·rfl
   ·cases h
  |false=>rw [hp] at h;cases h
 ·exact Tc h
theorem Vt {b o t:List Obj} {k:ax} {c:Cf} (h:c∈js b o t k):c.1=k:=by
 have h1:c∈dC (k,fK) []→c.1=k:=fun h=>by
  rcases o7.1 h with rfl|h
  ·rfl
  ·cases h
 unfold js gf at h
 cases h2:cN (aX k o) (aX k t)||cN (aX k t) (aX k b) with
 |true=>rw [h2] at h;cases h
 |false=>
  rw [h2] at h
  cases h3:cN (aX k o) (aX k b) with
  |true=>rw [h3] at h;cases h
  |false=>
   rw [h3] at h
   simp only [cF] at h
   split at h
   ·rename_i q1 q2 q3 e1 e2 e3
    cases h4:bL q2.kind q1.kind&&bL q3.kind q1.kind with
    |true=>rw [h4] at h;exact(Xd h).trans (ku e1).2
    |false=>rw [h4] at h;exact h1 h
   ·exact h1 h
theorem Rp {b o t:List Obj} {c:Cf}:c∈ml b o t↔(∃k,c∈js b o t k)∨ ∃k,Reach b o t k∧c=(k,fK):=(sF _).mem_iff.trans Rq
theorem Hc {b o t:List Obj} {id:ax} (h1:js b o t id=[]) (h2: ¬Reach b o t id) (what:ax):(ml b o t).any (gZ id what)=false:=by
 rw [List.any_eq_false]
 intro c hc hh
 simp only [gZ,Bool.and_eq_true] at hh
 have hid:=eq_of_beq hh.1
 rcases Rp.1 hc with⟨k,hk⟩|⟨k,hk,rfl⟩
 ·have:=Vt hk
  rw [hid] at this
  subst this
  rw [h1] at hk;cases hk
 ·have hid:k=id:=hid
  subst hid
  exact h2 hk
def sE (b o t:List Obj) (id:ax):Option Obj:=bif cN (aX id o) (aX id b) then aX id t else aX id o
theorem akI {b o t:List Obj} {id:ax} (h:(cN (aX id o) (aX id b)||(cN (aX id t) (aX id b)||cN (aX id o) (aX id t)))=true):cN (fW b o t id) (sE b o t id)=true∧js b o t id=[]:=by
 unfold fW hG js gf sE
 cases h1:cN (aX id o) (aX id t) with
 |true=>
  simp only [mN,cT]
  refine⟨?_,trivial⟩
  cases h2:cN (aX id o) (aX id b) with
  |true=>exact h1
  |false=>exact vE _
 |false=>
  cases h3:cN (aX id t) (aX id b) with
  |true=>
   simp only [jz,cT]
   refine⟨?_,trivial⟩
   cases h2:cN (aX id o) (aX id b) with
   |true=>rw [ajp h2 (ajo h3)] at h1;cases h1
   |false=>exact vE _
  |false=>
   rw [h1,h3] at h
   simp only [Bool.or_false] at h
   rw [h]
   simp only [Bool.or_self,cF,cT]
   exact⟨vE _,trivial⟩
theorem ajn {p q:Option Obj} (h:cN p q=true):p.isSome=q.isSome:=by
 rcases xI.1 h with⟨rfl,rfl⟩|⟨a,b,rfl,rfl,_⟩<;>rfl
theorem RT {p q:Option Obj} (h:cN p q=true):kx (hJ p) (hJ q)=true:=by
 rcases xI.1 h with⟨rfl,rfl⟩|⟨a,b,rfl,rfl,he⟩
 ·exact(E3 _ _).2 .rfl
 ·exact(E3 _ _).2 he
section
variable {b o t:List Obj} {id:ax}
theorem ahc (h:(aX id (gd b o t)).isSome=true):(aX id b).isSome=true∨(aX id o).isSome=true∨(aX id t).isSome=true:=by
 have hi:iz b o t id:=Classical.byContradiction fun hc=>by rw [xE.2 hc] at h;cases h
 have hn:=hi.name
 simp only [dW,List.mem_append] at hn
 have key: ∀ {l:List Obj},id∈l.map (·.id)→(aX id l).isSome=true:=fun {l} hm=>by
  have:=vz.2 hm
  cases ho:aX id l with
  |none=>exact absurd ho this
  |some q=>rfl
 rcases hn with h|h|h
 ·exact .inl (key h)
 ·exact .inr (.inl (key h))
 ·exact .inr (.inr (key h))
theorem aha (h1:cN (aX id o) (aX id b)=false) (h2:cN (aX id t) (aX id b)=false) (h3:cN (aX id o) (aX id t)=false):(aX id (gd b o t)).isSome=true:=by
 have hl:(jt (aX id o) (aX id t)).isSome=true:=by
  cases ho:aX id o with
  |none=>
   cases ht:aX id t with
   |none=>rw [ho,ht] at h3;cases h3
   |some q=>rfl
  |some q=>
   cases ht:aX id t with
   |none=>rfl
   |some q'=>
    simp only [jt]
    cases du (qz q' q) 0<;>rfl
 have hm:(fW b o t id).isSome=true:=by
  unfold fW hG
  rw [h1,h2,h3]
  simp only [Bool.or_self,cF]
  split
  ·rename_i q1 q2 q3 e1 e2 e3
   cases bL q2.kind q1.kind&&bL q3.kind q1.kind with
   |true=>rfl
   |false=>exact hl
  ·exact hl
 have hi:iz b o t id:=.inl hm
 rw [xE.1 hi]
 obtain⟨q,hq⟩:=hi.some
 rw [hq];rfl
theorem ahf (h:(cN (aX id o) (aX id b)||(cN (aX id t) (aX id b)||cN (aX id o) (aX id t)))=true):
 ((sE b o t id).isSome=true∨(aX id (gd b o t)).isSome=false→(aX id (gd b o t)).isSome=(sE b o t id).isSome∧kx (hJ (aX id (gd b o t))) (hJ (sE b o t id))=true∧(ml b o t).any (gZ id [])=false)∧
 ((sE b o t id).isSome=false→(aX id (gd b o t)).isSome=true→(ml b o t).any (gZ id fK)=true∧(cN (aX id (gd b o t)) (aX id b)||(cN (aX id (gd b o t)) (aX id o)||cN (aX id (gd b o t)) (aX id t)))=true):=by
 obtain⟨hm,hc⟩:=akI h
 have hs:=ajn hm
 cases hk:fW b o t id with
 |some q=>
  have hi:iz b o t id:=.inl (by rw [hk];rfl)
  have hM:aX id (gd b o t)=some q:=by rw [xE.1 hi];simp only [fv,hk]
  have hnr: ¬Reach b o t id:=fun hr=>by rw [hr.no.1] at hk;cases hk
  rw [hk] at hm hs
  refine⟨fun _=>⟨by rw [hM,hs],by rw [hM];exact RT hm,Hc hc hnr []⟩,fun hz=>?_⟩
  rw [hz] at hs;cases hs
 |none=>
  rw [hk] at hs
  by_cases hr:Reach b o t id
  ·have hi:iz b o t id:=.inr hr
   have hM:aX id (gd b o t)=iM b o t id:=by rw [xE.1 hi];simp only [fv,hk]
   have hsome:=hr.no.2
   refine⟨fun hx=>?_,fun _ _=>⟨?_,?_⟩⟩
   ·rcases hx with hx|hx
    ·rw [←hs] at hx;cases hx
    ·rw [hM,hsome] at hx;cases hx
   ·rw [List.any_eq_true]
    refine⟨(id,fK),Rp.2 (.inr ⟨id,hr,rfl⟩),?_⟩
    simp [gZ]
   ·rw [hM]
    unfold iM
    cases hb:aX id b with
    |some q=>rw [vE];rfl
    |none=>
     simp only
     rcases Ew (p:=aX id o) (q:=aX id t) with e|e
     ·rw [e,vE,mN,nJ]
     ·rw [e,vE (aX id t),nJ,nJ]
  ·have hni: ¬iz b o t id:=fun hi=>hi.elim (fun h=>by rw [hk] at h;cases h) hr
   have hM:=xE.2 hni
   refine⟨fun _=>⟨by rw [hM,←hs],?_,Hc hc hr []⟩,fun _ hx=>?_⟩
   ·rw [hM]
    rw [hk] at hm
    exact RT hm
   ·rw [hM] at hx;cases hx
end
theorem aij {pb po pt:Option Obj} (gb: ∀o,pb=some o→o.Good) (go: ∀o,po=some o→o.Good) (gt: ∀o,pt=some o→o.Good) (vb:jQ pb) (vo:jQ po) (vt:jQ pt): ∀q,hG pb po pt=some q→q.Good:=by
 intro q h
 have hl:=QN go gt
 unfold hG at h
 cases h1:cN po pt||cN pt pb with
 |true=>rw [h1] at h;exact go q h
 |false=>
  rw [h1] at h
  cases h2:cN po pb with
  |true=>rw [h2] at h;exact gt q h
  |false=>
   rw [h2] at h
   simp only [cF] at h
   split at h
   ·rename_i b o t
    cases h3:bL o.kind b.kind&&bL t.kind b.kind with
    |true=>
     rw [h3] at h
     have h:=Option.some.inj h
     rw [←h]
     exact Hx (gb b rfl) (go o rfl) (gt t rfl) (vb b rfl) (vo o rfl) (vt t rfl)
    |false=>rw [h3] at h;exact hl q h
   ·exact hl q h
theorem mZ.ga {b o t:List Obj} (h:mZ b o t) (k:ax):(∀q,aX k b=some q→q.Good)∧(∀q,aX k o=some q→q.Good)∧(∀q,aX k t=some q→q.Good):=⟨fun q hq=>h.gb q (ku hq).1,fun q hq=>h.go q (ku hq).1,fun q hq=>h.gt q (ku hq).1⟩
theorem alK {b o t:List Obj} (h:mZ b o t) {k:ax} {q:Obj} (hq:fv b o t k=some q):q.Good:=by
 obtain⟨g1,g2,g3⟩:=h.ga k
 unfold fv at hq
 cases hm:fW b o t k with
 |some q'=>
  rw [hm] at hq
  have hq:=Option.some.inj hq
  rw [←hq]
  exact aij g1 g2 g3 (qQ h.vb k) (qQ h.vo k) (qQ h.vt k) q' hm
 |none=>
  rw [hm] at hq
  simp only [iM] at hq
  cases hb:aX k b with
  |some q'=>rw [hb] at hq;have hq:=Option.some.inj hq;rw [←hq];exact g1 q' hb
  |none=>rw [hb] at hq;exact QN g2 g3 q hq
theorem Rr {b o t:List Obj} (h:mZ b o t): ∀q∈gd b o t,q.Good:=by
 intro q hq
 obtain⟨k,hk,rfl⟩:=List.mem_map.1 hq
 have hi:iz b o t k:=EF.1 ((l5 _).mem_iff.1 hk)
 obtain⟨q,hq⟩:=hi.some
 simp only [mz,hq,nM]
 exact alK h hq
theorem Rt {b o t:List Obj} (h:mZ b o t):(gd b o t).length≤900:=by
 have h1:=ajv b o t
 have h2:(dW b o t).length=b.length+(o.length+t.length):=by simp [dW]
 have h3:=(l5 (oz b o t)).length_eq
 have:=h.lb
 have:=h.lo
 have:=h.lt
 unfold gd
 rw [ep];omega
theorem V3 {b o t:List Obj} (h:mZ b o t):(ml b o t).length≤1000000:=by
 have h1:=Hd (qQ h.vb) (qQ h.vo) (qQ h.vt)
 have h2:(dW b o t).length=b.length+(o.length+t.length):=by simp [dW]
 have h3:=(sF (qA b o t)).length_eq
 have:=h.lb
 have:=h.lo
 have:=h.lt
 unfold ml
 omega
structure L5 (sp:FuncId→Option (List ai→Option ai)):Prop where
 h9:sp 9=some og
 h13:sp 13=some qO
 h14:sp 14=some rO
 h15:sp 15=some vU
 h16:sp 16=some ow
 h17:sp 17=some uJ
 h7:sp 7=some yS
 h8:sp 8=some uU
section
variable {sp:FuncId→Option (List ai→Option ai)} (hS:L5 sp)
include hS
theorem ahb {m a:List Obj} {b o t:List Obj} {cs:List Cf} {mv sv vb vo vt cv:ai} {id:ax} (hm:bu 6 Obj.val mv m) (ha:bu 6 Obj.val sv a) (hb:bu 6 Obj.val vb b) (ho:bu 6 Obj.val vo o) (ht:bu 6 Obj.val vt t) (hcv:bu 2 de cv cs) (pcv:bM cv=true) (lcs:cs.length≤1000000)
 (gm: ∀q∈m,q.Good) (ga: ∀q∈a,q.Good) (gb: ∀q∈b,q.Good) (go: ∀q∈o,q.Good) (gt: ∀q∈t,q.Good) (sm:m.length<small) (sa:a.length<small) (sb:b.length<small) (so:o.length<small) (st:t.length<small)
 (P1:(aX id a).isSome=true∨(aX id m).isSome=false→(aX id m).isSome=(aX id a).isSome∧kx (hJ (aX id m)) (hJ (aX id a))=true∧cs.any (gZ id [])=false)
 (P2:(aX id a).isSome=false→(aX id m).isSome=true→cs.any (gZ id fK)=true∧(cN (aX id m) (aX id b)||(cN (aX id m) (aX id o)||cN (aX id m) (aX id t)))=true)
 {e:bc} {lc:Ag.Loc} {s:St} (e3:aq e 3= .str id) (e4:aq e 4= .lref 4 1 0) (e5:aq e 5= .lref 5 1 0) (e6:aq e 6= .lref 6 1 0) (e9:aq e 9= .bool true) (e10:aq e 10= .lref 10 1 0) (e11:aq e 11=cv) (e12:aq e 12= .lref 12 1 0) (e13:aq e 13= .bool (aX id m).isSome) (e20:aq e 20= .lref 20 1 0)
 (_g4:lc.gen 4=1) (_g5:lc.gen 5=1) (_g6:lc.gen 6=1) (_g10:lc.gen 10=1) (g12:lc.gen 12=1) (_g20:lc.gen 20=1) (g21:lc.gen 21=0) (b4:lc.get 4 1=some [vb]) (b5:lc.get 5 1=some [vo]) (b6:lc.get 6 1=some [vt]) (b10:lc.get 10 1=some [mv]) (b12:lc.get 12 1=some (hJ (aX id m)).cells) (b20:lc.get 20 1=some [sv]):
 W (QS sp) 5 (.seq (.region rR) (.seq (.seq (.region rS) (.cond (aa 133) (.seq (.region qL) .ret) .skip)) (.seq (.region rT) .ret))) ⟨e,175,lc⟩ s fun x fr s'=>s'=s∧x= .ret∧aq fr.env 8= .bool true:=by
 have fa:=tz ha ga sa id
 rw [CD] at fa
 have gM:(hJ (aX id m)).Good:=z6 fun o ho=>gm o (ku ho).1
 have gA:(hJ (aX id a)).Good:=z6 fun o ho=>ga o (ku ho).1
 have hos:=E7 gM gA
 have s1:=qY hm gm sm hb gb sb id
 have s2:=qY hm gm sm ho go so id
 have s3:=qY hm gm sm ht gt st id
 have c0:=Hb hcv pcv lcs id []
 have c1:=Hb hcv pcv lcs id fK
 simp only [Obj.val,Obj.cells,fK] at hos fa b12 c1
 have ccv:=hcv.clean
 have cm:=hm.clean
 have cs':=ha.clean
 have cb:=hb.clean
 have co:=ho.clean
 have ct:=ht.clean
 refine W.sreg ?_
 unfold rR
 simp only [az,aA,dH,aB,dI,ah,bI,gQ,aE,aJ,fH,bf,dJ,ii,dc,db,aj,aC,be,bh,eM,bU,aw,bH,di,fU,ak,cu,bZ,cT,cF,aP,bX,dt,aK,aQ,cut,cI,bA,aR,bT,cq,bS,tA,aM,ae,ar,bt,bR,dB,aU,cP,bQ,dT,gj,nG,nF,e20,b20,e3,Zh,hS.h14,fa,gu,fe,jI]
 have first:(aX id a).isSome=true∨(aX id m).isSome=false→ ∀e1:bc, ∀lc1:Ag.Loc,aq e1 9= .bool true→aq e1 13= .bool (aX id m).isSome→aq e1 22= .bool (aX id a).isSome→aq e1 12= .lref 12 1 0→aq e1 21= .lref 21 1 0→aq e1 11=cv→aq e1 3= .str id→lc1.gen 12=1→lc1.gen 21=1→lc1.get 12 1=some [.str (hJ (aX id m)).id,.int .i64 (hJ (aX id m)).kind,.int .i64 (hJ (aX id m)).x,.int .i64 (hJ (aX id m)).y,(hJ (aX id m)).refsV,(hJ (aX id m)).tagsV]→lc1.get 21 1=some [.str (hJ (aX id a)).id,.int .i64 (hJ (aX id a)).kind,.int .i64 (hJ (aX id a)).x,.int .i64 (hJ (aX id a)).y,(hJ (aX id a)).refsV,(hJ (aX id a)).tagsV]→
  W (QS sp) 5 (.seq (.region qL) .ret) ⟨e1,175,lc1⟩ s fun x fr s'=>s'=s∧x= .ret∧aq fr.env 8= .bool true:=by
  intro h e1 lc1 f9 f13 f22 f12 f21 f11 f3 C7 k21 d12 d21
  obtain⟨q1,q2,q3⟩:=P1 h
  rw [q2] at hos
  rw [q3] at c0
  rw [q1] at f13
  refine W.sreg ?_
  unfold qL
  simp only [az,aA,cJ,aB,dz,eA,ah,aE,aJ,cw,bf,aW,eW,dc,db,aj,aI,aC,be,bh,bJ,hQ,bU,cx,dy,aw,eZ,ak,ei,cu,bZ,cT,cF,aP,dt,aK,aQ,cut,bA,aR,ff,bS,tA,aM,ae,ar,bt,aU,BB,f9,f13,f22,f12,f21,f11,f3,d12,d21,l0,hS.h16,hos,hS.h17,c0,ccv]
  exact W.ret ⟨rfl,rfl,by simp only [ah,ae,cT,cF]⟩
 refine W.seq (W.seq (W.reg ?_))
 unfold rS
 cases hA:(aX id a).isSome with
 |true=>
  simp only [az,aA,cJ,aB,ee,iG,ah,aE,cw,aj,aI,bJ,cx,dy,aw,ak,cT,cF,bS,tA,ae,ar,aN]
  refine W.cond (t:=true) (by simp only [aj,ah,ae,cT,cF]) ?_
  refine W.mono (first (.inl hA) _ _ ?_ ?_ ?_ ?_ ?_ ?_ ?_ ?_ ?_ ?_ ?_) ?_
  all_goals first
   |(simp only [ah,cz,bI,ae,cT,cF,bS,g21,aM,e9,e13,hA,e12,e11,e3,g12,b12];done)
   |skip
  rintro x fr s' ⟨rfl,rfl,h⟩
  exact⟨rfl,rfl,h⟩
 |false=>
  cases hM:(aX id m).isSome with
  |false=>
   simp only [az,aA,cJ,aB,dz,e7,ah,aE,cw,eW,aj,aI,aC,bJ,cx,dv,aw,eZ,ak,ei,cT,cF,ff,bS,tA,ae,ar,e13,hM,aN]
   refine W.cond (t:=true) (by simp only [aj,ah,ae,cT,cF]) ?_
   refine W.mono (first (.inr hM) _ _ ?_ ?_ ?_ ?_ ?_ ?_ ?_ ?_ ?_ ?_ ?_) ?_
   all_goals first
    |(simp only [ah,cz,bI,ae,cT,cF,bS,g21,aM,e9,e13,hA,e12,e11,e3,g12,b12];done)
    |skip
   rintro x fr s' ⟨rfl,rfl,h⟩
   exact⟨rfl,rfl,h⟩
  |true=>
   obtain⟨q1,q2⟩:=P2 hA hM
   have q1:cs.any (gZ id [111,98,106,101,99,116])=true:=q1
   rw [q1] at c1
   simp only [az,aA,cJ,aB,dz,e7,ah,aE,cw,eW,aj,aI,aC,bJ,cx,dv,aw,eZ,ak,ei,cT,cF,dP,bS,tA,ae,ar,e13,hM,aN]
   refine W.cond (t:=false) (by simp only [aj,ah,ae,cT,cF]) (W.skip ?_)
   simp only [aN]
   refine W.sreg ?_
   unfold rT
   cases x1:cN (aX id m) (aX id b) with
   |true=>
    rw [x1] at s1
    simp only [az,aA,cJ,aB,dz,ee,eA,iG,ah,bI,aE,aJ,cw,bf,dc,db,aj,aI,aC,be,bh,bJ,hQ,bU,cx,dy,aw,ak,cu,bZ,cT,cF,aP,dt,aK,aQ,cut,bA,aR,bS,tA,aM,ae,ar,aU,gj,e9,e11,e3,e10,e4,b10,b4,ccv,hS.h17,c1,hS.h15,s1]
    exact W.ret ⟨rfl,rfl,by simp only [ah,ae,cT,cF]⟩
   |false=>
    rw [x1] at s1
    cases x2:cN (aX id m) (aX id o) with
    |true=>
     rw [x2] at s2
     simp only [az,aA,cJ,aB,dz,ee,eA,iG,e7,ah,bI,aE,aJ,cw,bf,dc,db,aj,aI,aC,be,bh,bJ,hQ,bU,cx,dy,dv,aw,ak,cu,bZ,cT,cF,aP,dt,aK,aQ,cut,bA,aR,bS,tA,aM,ae,ar,aU,gj,e9,e11,e3,e10,e4,e5,b10,b4,b5,ccv,hS.h17,c1,hS.h15,s1,s2]
     exact W.ret ⟨rfl,rfl,by simp only [ah,ae,cT,cF]⟩
    |false=>
     rw [x2] at s2
     rw [x1,x2] at q2
     simp only [jz] at q2
     rw [q2] at s3
     simp only [az,aA,cJ,aB,dz,eA,e7,ah,bI,aE,aJ,cw,bf,dc,db,aj,aI,aC,be,bh,bJ,hQ,bU,cx,dy,dv,aw,ak,cu,bZ,cT,cF,aP,dt,aK,aQ,cut,bA,aR,bS,tA,aM,ae,ar,aU,gj,e9,e11,e3,e10,e4,e5,e6,b10,b4,b5,b6,ccv,hS.h17,c1,hS.h15,s1,s2,s3]
     exact W.ret ⟨rfl,rfl,by simp only [ah,ae,cT,cF]⟩
end
section
variable {sp:FuncId→Option (List ai→Option ai)} (hS:L5 sp)
include hS
theorem ahd {b o t:List Obj} {mv vb vo vt cv:ai} {id:ax} (hi:mZ b o t) (hm:bu 6 Obj.val mv (gd b o t)) (hb:bu 6 Obj.val vb b) (ho:bu 6 Obj.val vo o) (ht:bu 6 Obj.val vt t) (hcv:bu 2 de cv (ml b o t)) (pcv:bM cv=true)
 {e:bc} {lc:Ag.Loc} {s:St} (e3:aq e 3= .str id) (e4:aq e 4= .lref 4 1 0) (e5:aq e 5= .lref 5 1 0) (e6:aq e 6= .lref 6 1 0) (e9:aq e 9= .bool true) (e10:aq e 10= .lref 10 1 0) (e11:aq e 11=cv) (e12:aq e 12= .lref 12 1 0) (e13:aq e 13= .bool (aX id (gd b o t)).isSome)
 (e15:aq e 15= .bool (aX id b).isSome) (e17:aq e 17= .bool (aX id o).isSome) (e19:aq e 19= .bool (aX id t).isSome)
 (g4:lc.gen 4=1) (g5:lc.gen 5=1) (g6:lc.gen 6=1) (g10:lc.gen 10=1) (g12:lc.gen 12=1) (g20:lc.gen 20=0) (g21:lc.gen 21=0) (b4:lc.get 4 1=some [vb]) (b5:lc.get 5 1=some [vo]) (b6:lc.get 6 1=some [vt]) (b10:lc.get 10 1=some [mv]) (b12:lc.get 12 1=some (hJ (aX id (gd b o t))).cells):
 W (QS sp) 5 (.seq (.seq (.region DP) (.cond (aa 93) (.seq (.region DM) .ret) .skip)) (.seq (.region xg) (.seq (.seq (.region xh) (.cond (aa 98) (.region xi) .skip)) (.seq (.seq (.region ve) (.cond (aa 118) (.seq (.region vf) .ret) .skip)) (.seq (.region rR) (.seq (.seq (.region rS) (.cond (aa 133) (.seq (.region qL) .ret) .skip)) (.seq (.region rT) .ret))))))) ⟨e,175,lc⟩ s fun x fr s'=>s'=s∧x= .ret∧aq fr.env 8= .bool true:=by
 have hsm:small=9223372036854775808:=rfl
 have lb:=hi.lb
 have lo:=hi.lo
 have lt:=hi.lt
 have lm:=Rt hi
 have gm:=Rr hi
 have s1:=qY ho hi.go (by omega) hb hi.gb (by omega) id
 have s2:=qY ht hi.gt (by omega) hb hi.gb (by omega) id
 have s3:=qY ho hi.go (by omega) ht hi.gt (by omega) id
 have cb:=hb.clean
 have co:=ho.clean
 have ct:=ht.clean
 have cells: ∀ {v:ai} {l:List Obj},bu 6 Obj.val v l→v.cells=[v]:=fun h=>by rcases h with⟨rfl,_⟩|⟨r,rfl⟩<;>rfl
 have last: ∀(e':bc) (lc':Ag.Loc) (sv:ai),bu 6 Obj.val sv (bif cN (aX id o) (aX id b) then t else o)→aq e' 3= .str id→aq e' 4= .lref 4 1 0→aq e' 5= .lref 5 1 0→aq e' 6= .lref 6 1 0→aq e' 9= .bool true→aq e' 10= .lref 10 1 0→aq e' 11=cv→aq e' 12= .lref 12 1 0→aq e' 13= .bool (aX id (gd b o t)).isSome→aq e' 20= .lref 20 1 0→
  lc'.gen 4=1→lc'.gen 5=1→lc'.gen 6=1→lc'.gen 10=1→lc'.gen 12=1→lc'.gen 20=1→lc'.gen 21=0→lc'.get 4 1=some [vb]→lc'.get 5 1=some [vo]→lc'.get 6 1=some [vt]→lc'.get 10 1=some [mv]→lc'.get 12 1=some (hJ (aX id (gd b o t))).cells→lc'.get 20 1=some [sv]→
  W (QS sp) 5 (.seq (.seq (.region ve) (.cond (aa 118) (.seq (.region vf) .ret) .skip)) (.seq (.region rR) (.seq (.seq (.region rS) (.cond (aa 133) (.seq (.region qL) .ret) .skip)) (.seq (.region rT) .ret)))) ⟨e',175,lc'⟩ s fun x fr s'=>s'=s∧x= .ret∧aq fr.env 8= .bool true:=by
  intro e' lc' sv hsv f3 f4 f5 f6 f9 f10 f11 f12 f13 f20 k4 k5 k6 yW C7 k20 k21 d4 d5 d6 d10 d12 d20
  have hsideL:aX id (bif cN (aX id o) (aX id b) then t else o)=sE b o t id:=by
   unfold sE
   cases cN (aX id o) (aX id b)<;>rfl
  have gs: ∀q∈(bif cN (aX id o) (aX id b) then t else o),q.Good:=by
   cases cN (aX id o) (aX id b) with
   |true=>exact hi.gt
   |false=>exact hi.go
  have ls:(bif cN (aX id o) (aX id b) then t else o).length<small:=by
   cases cN (aX id o) (aX id b) with
   |true=>show t.length<small;omega
   |false=>show o.length<small;omega
  have go_: ∀(e2:bc),(cN (aX id o) (aX id b)||(cN (aX id t) (aX id b)||cN (aX id o) (aX id t)))=true→aq e2 3= .str id→aq e2 4= .lref 4 1 0→aq e2 5= .lref 5 1 0→aq e2 6= .lref 6 1 0→aq e2 9= .bool true→aq e2 10= .lref 10 1 0→aq e2 11=cv→aq e2 12= .lref 12 1 0→aq e2 13= .bool (aX id (gd b o t)).isSome→aq e2 20= .lref 20 1 0→
   W (QS sp) 5 (.seq (.region rR) (.seq (.seq (.region rS) (.cond (aa 133) (.seq (.region qL) .ret) .skip)) (.seq (.region rT) .ret))) ⟨e2,175,lc'⟩ s fun x fr s'=>s'=s∧x= .ret∧aq fr.env 8= .bool true:=by
   intro e2 hany q3 q4 q5 q6 q9 q10 q11 q12 q13 q20
   obtain⟨P1,P2⟩:=ahf hany
   rw [←hsideL] at P1 P2
   exact ahb hS hm hsv hb ho ht hcv pcv (V3 hi) gm gs hi.gb hi.go hi.gt (by omega) ls (by omega) (by omega) (by omega) P1 P2 q3 q4 q5 q6 q9 q10 q11 q12 q13 q20 k4 k5 k6 yW C7 k20 k21 d4 d5 d6 d10 d12 d20
  refine W.seq (W.seq (W.reg ?_))
  unfold ve
  cases x1:cN (aX id o) (aX id b) with
  |true=>
   rw [x1] at s1
   simp only [az,aA,cJ,aB,ee,ia,ah,aE,cw,bf,eW,dc,db,aj,aI,aC,be,bh,bJ,bU,cx,dv,aw,eZ,ak,ei,cu,bZ,cT,cF,aP,dt,aK,aQ,cut,bA,aR,dP,bS,tA,aM,ae,ar,aU,gj,f3,f4,f5,d4,d5,hS.h15,s1,aN]
   refine W.cond (t:=false) (by simp only [aj,ah,ae,cT,cF]) (W.skip ?_)
   simp only [aN]
   refine go_ _ (by rw [x1];rfl) ?_ ?_ ?_ ?_ ?_ ?_ ?_ ?_ ?_ ?_
   all_goals simp only [ah,ae,cF,f3,f4,f5,f6,f9,f10,f11,f12,f13,f20]
  |false=>
   rw [x1] at s1
   cases x2:cN (aX id t) (aX id b) with
   |true=>
    rw [x2] at s2
    simp only [az,aA,cJ,aB,dz,ee,eA,ia,ah,aE,cw,bf,eW,dc,db,aj,aI,aC,be,bh,bJ,bU,cx,dy,dv,aw,eZ,ak,ei,cu,bZ,cT,cF,aP,dt,aK,aQ,cut,bA,aR,dP,ff,bS,tA,aM,ae,ar,aU,gj,f3,f4,f5,f6,d4,d5,d6,hS.h15,s1,s2,aN]
    refine W.cond (t:=false) (by simp only [aj,ah,ae,cT,cF]) (W.skip ?_)
    simp only [aN]
    refine go_ _ (by rw [x2,mN,nJ]) ?_ ?_ ?_ ?_ ?_ ?_ ?_ ?_ ?_ ?_
    all_goals simp only [ah,ae,cF,f3,f4,f5,f6,f9,f10,f11,f12,f13,f20]
   |false=>
    rw [x2] at s2
    cases x3:cN (aX id o) (aX id t) with
    |true=>
     rw [x3] at s3
     simp only [az,aA,cJ,aB,dz,eA,ah,aE,cw,bf,eW,dc,db,aj,aI,aC,be,bh,bJ,bU,cx,dy,aw,eZ,ak,ei,cu,bZ,cT,cF,aP,dt,aK,aQ,cut,bA,aR,dP,ff,bS,tA,aM,ae,ar,aU,gj,f3,f4,f5,f6,d4,d5,d6,hS.h15,s1,s2,s3,aN]
     refine W.cond (t:=false) (by simp only [aj,ah,ae,cT,cF]) (W.skip ?_)
     simp only [aN]
     refine go_ _ (by rw [x3,nJ,nJ]) ?_ ?_ ?_ ?_ ?_ ?_ ?_ ?_ ?_ ?_
     all_goals simp only [ah,ae,cF,f3,f4,f5,f6,f9,f10,f11,f12,f13,f20]
    |false=>
     rw [x3] at s3
     have hM:=aha x1 x2 x3
     rw [hM] at f13
     simp only [az,aA,cJ,aB,dz,eA,ah,aE,cw,bf,eW,dc,db,aj,aI,aC,be,bh,bJ,bU,cx,dy,aw,eZ,ak,ei,cu,bZ,cT,cF,aP,dt,aK,aQ,cut,bA,aR,ff,bS,tA,aM,ae,ar,aU,gj,f3,f4,f5,f6,d4,d5,d6,hS.h15,s1,s2,s3,aN]
     refine W.cond (t:=true) (by simp only [aj,ah,ae,cT,cF]) (W.sreg ?_)
     unfold vf
     simp only [az,aA,cJ,aB,dz,eA,ah,aE,aJ,cw,aj,aI,bJ,cx,dy,aw,ak,cT,cF,bS,tA,ae,ar,f9,f13]
     exact W.ret ⟨rfl,rfl,by simp only [ah,ae,cT,cF]⟩
 have cont: ∀(e':bc),aq e' 3= .str id→aq e' 4= .lref 4 1 0→aq e' 5= .lref 5 1 0→aq e' 6= .lref 6 1 0→aq e' 9= .bool true→aq e' 10= .lref 10 1 0→aq e' 11=cv→aq e' 12= .lref 12 1 0→aq e' 13= .bool (aX id (gd b o t)).isSome→
  W (QS sp) 5 (.seq (.region xg) (.seq (.seq (.region xh) (.cond (aa 98) (.region xi) .skip)) (.seq (.seq (.region ve) (.cond (aa 118) (.seq (.region vf) .ret) .skip)) (.seq (.region rR) (.seq (.seq (.region rS) (.cond (aa 133) (.seq (.region qL) .ret) .skip)) (.seq (.region rT) .ret)))))) ⟨e',175,lc⟩ s fun x fr s'=>s'=s∧x= .ret∧aq fr.env 8= .bool true:=by
  intro e' f3 f4 f5 f6 f9 f10 f11 f12 f13
  refine W.sreg ?_
  unfold xg
  simp only [az,aA,dH,aB,dI,ah,bI,gQ,fH,bf,dJ,aj,aC,eM,bU,aw,bH,di,fU,ak,bZ,cT,cF,aP,bX,aK,aQ,cut,cI,bA,aR,bT,cq,bS,tA,aM,ae,ar,bR,dB,aU,cP,bQ,dT,gj,AW,AJ,f5,b5,g20,Zg]
  refine W.seq (W.seq (W.reg ?_))
  unfold xh
  cases x1:cN (aX id o) (aX id b) with
  |true=>
   rw [x1] at s1 last
   simp only [az,aA,aB,ah,bI,aE,bf,dc,db,aj,aC,be,bh,bU,aw,ak,cu,bZ,cT,cF,aP,dt,aK,aQ,cut,bA,aR,bS,tA,aM,ae,ar,aU,gj,f3,f4,f5,b4,b5,hS.h15,s1,aN]
   refine W.cond (t:=true) (by simp only [aj,ah,ae,cT,cF]) (W.reg ?_)
   unfold xi
   simp only [az,aA,dH,aB,dI,ah,bI,gQ,bf,dJ,aj,aC,bU,aw,di,fU,ak,bZ,cT,cF,aP,aK,aQ,cut,cI,bA,aR,bT,cq,bS,tA,aM,ae,ar,bR,dB,aU,cP,bQ,dT,gj,AJ,f6,b6,aN]
   refine last _ _ vt ht ?_ ?_ ?_ ?_ ?_ ?_ ?_ ?_ ?_ ?_ ?_ ?_ ?_ ?_ ?_ ?_ ?_ ?_ ?_ ?_ ?_ ?_ ?_
   all_goals simp only [ah,cz,bI,ae,cT,cF,bS,f3,f4,f5,f6,f9,f10,f11,f12,f13,g4,g5,g6,g10,g12,g20,g21,b4,b5,b6,b10,b12]
  |false=>
   rw [x1] at s1 last
   simp only [az,aA,aB,ah,bI,aE,bf,dc,db,aj,aC,be,bh,bU,aw,ak,cu,bZ,cT,cF,aP,dt,aK,aQ,cut,bA,aR,bS,tA,aM,ae,ar,aU,gj,f3,f4,f5,b4,b5,hS.h15,s1,aN]
   refine W.cond (t:=false) (by simp only [aj,ah,ae,cT,cF]) (W.skip ?_)
   simp only [aN]
   refine last _ _ vo ho ?_ ?_ ?_ ?_ ?_ ?_ ?_ ?_ ?_ ?_ ?_ ?_ ?_ ?_ ?_ ?_ ?_ ?_ ?_ ?_ ?_ ?_ ?_
   all_goals simp only [ah,cz,bI,ae,cT,cF,bS,f3,f4,f5,f6,f9,f10,f11,f12,f13,g4,g5,g6,g10,g12,g20,g21,b4,b5,b6,b10,b12]
 refine W.seq (W.seq (W.reg ?_))
 unfold DP
 have goon: ∀e':bc,aq e' 93= .bool false→aq e' 3=aq e 3→aq e' 4=aq e 4→aq e' 5=aq e 5→aq e' 6=aq e 6→aq e' 9=aq e 9→aq e' 10=aq e 10→aq e' 11=aq e 11→aq e' 12=aq e 12→aq e' 13=aq e 13→ ∀KK:Ex→Fr→St→Prop,(W (QS sp) 5 (.seq (.region xg) (.seq (.seq (.region xh) (.cond (aa 98) (.region xi) .skip)) (.seq (.seq (.region ve) (.cond (aa 118) (.seq (.region vf) .ret) .skip)) (.seq (.region rR) (.seq (.seq (.region rS) (.cond (aa 133) (.seq (.region qL) .ret) .skip)) (.seq (.region rT) .ret)))))) ⟨e',175,lc⟩ s (fun x fr s'=>s'=s∧x= .ret∧aq fr.env 8= .bool true)→KK .normal ⟨e',175,lc⟩ s)→W (QS sp) 5 (.cond (aa 93) (.seq (.region DM) .ret) .skip) ⟨e',175,lc⟩ s KK:=by
  intro e' h93 f3 f4 f5 f6 f9 f10 f11 f12 f13 KK hk
  exact W.cond (t:=false) (by rw [aj,h93]) (W.skip (hk (cont e' (f3.trans e3) (f4.trans e4) (f5.trans e5) (f6.trans e6) (f9.trans e9) (f10.trans e10) (f11.trans e11) (f12.trans e12) (f13.trans e13))))
 cases hM:(aX id (gd b o t)).isSome with
 |false=>
  rw [hM] at e13
  simp only [az,aA,cJ,aB,ee,ia,ah,aE,cw,aj,aI,bJ,cx,dv,aw,ak,cT,cF,bS,tA,ae,ar,e13,aN]
  refine goon _ ?_ ?_ ?_ ?_ ?_ ?_ ?_ ?_ ?_ ?_ _ (fun h=>h)
  all_goals simp only [ah,ae,cT,cF]
 |true=>
  rw [hM] at e13
  cases hB:(aX id b).isSome with
  |true=>
   rw [hB] at e15
   simp only [az,aA,cJ,aB,dz,ee,eA,ia,ah,aE,cw,eW,aj,aI,aC,bJ,cx,dy,dv,aw,eZ,ak,ei,cT,cF,dP,bS,tA,ae,ar,e13,e15,aN]
   refine goon _ ?_ ?_ ?_ ?_ ?_ ?_ ?_ ?_ ?_ ?_ _ (fun h=>h)
   all_goals simp only [ah,ae,cT,cF]
  |false=>
   rw [hB] at e15
   cases hO:(aX id o).isSome with
   |true=>
    rw [hO] at e17
    simp only [az,aA,cJ,aB,dz,ee,eA,ia,ah,aE,cw,eW,aj,aI,aC,bJ,cx,dy,dv,aw,eZ,ak,ei,cT,cF,dP,ff,bS,tA,ae,ar,e13,e15,e17,aN]
    refine goon _ ?_ ?_ ?_ ?_ ?_ ?_ ?_ ?_ ?_ ?_ _ (fun h=>h)
    all_goals simp only [ah,ae,cT,cF]
   |false=>
    rw [hO] at e17
    have hT:(aX id t).isSome=true:=by
     rcases ahc hM with h|h|h
     ·rw [hB] at h;cases h
     ·rw [hO] at h;cases h
     ·exact h
    rw [hT] at e19
    simp only [az,aA,cJ,aB,dz,eA,ah,aE,cw,eW,aj,aI,aC,bJ,cx,dy,aw,eZ,ak,ei,cT,cF,dP,ff,bS,tA,ae,ar,e13,e15,e17,e19,aN]
    refine goon _ ?_ ?_ ?_ ?_ ?_ ?_ ?_ ?_ ?_ ?_ _ (fun h=>h)
    all_goals simp only [ah,ae,cT,cF]
theorem ahe (h5:sp 5=none) {vb vo vt:ai} {b o t:List Obj} {id:ax} (hb:bu 6 Obj.val vb b) (ho:bu 6 Obj.val vo o) (ht:bu 6 Obj.val vt t) (gb: ∀q∈b,q.Good) (go: ∀q∈o,q.Good) (gt: ∀q∈t,q.Good) (sb:b.length<small) (so:o.length<small) (st:t.length<small) (s:St):
 br (QS sp) 5 [.agg [vb],.agg [vo],.agg [vt],.str id] s (.bool true) s:=by
 have cb:=hb.clean
 have co:=ho.clean
 have ct:=ht.clean
 have hhd:yS []=some (.bool true):=rfl
 have hfew:=W5 hb ho ht gb go gt sb so st
 have v1:=vk hb gb sb
 have v2:=vk ho go so
 have v3:=vk ht gt st
 refine br.of2 afu aft afw afv h5 ?_
 unfold k5
 refine W.sreg ?_
 unfold OB
 simp only [dg,cM,az,aA,aB,ah,dx,cz,aJ,ja,aj,aI,aC,eM,aw,bH,di,ak,bZ,cT,cF,bX,aK,aQ,bS,tA,aM,ae,ar,bt,bR,bQ,dT,Zi,Zj,Zk,ofValue,fk]
 refine W.sreg ?_
 unfold OC
 simp only [az,aA,aB,ah,aJ,dc,db,aj,be,aw,ak,cT,cF,dt,bS,tA,ae,ar,hS.h7,hhd]
 have done: ∀(e':bc) (lc':Ag.Loc) (KK:Ex→Fr→St→Prop),aq e' 48= .bool true→aq e' 9= .bool true→(∀e2,aq e2 8= .bool true→KK .ret ⟨e2,175,lc'⟩ s)→W (QS sp) 5 (.cond (aa 48) (.seq (.region DN) .ret) .skip) ⟨e',175,lc'⟩ s KK:=by
  intro e' lc' KK h48 h9 hk
  refine W.cond (t:=true) (by simp only [aj,h48]) (W.sreg ?_)
  unfold DN
  simp only [az,aA,aB,ah,aE,aJ,aj,aw,cT,bS,tA,ar,h9]
  exact W.ret (hk _ (by simp only [ah,ae,cT,cF]))
 refine W.seq (W.seq (W.reg ?_))
 unfold OD
 cases h1:qF b o t with
 |false=>
  rw [h1] at hfew
  simp only [az,aA,cJ,aB,ee,iG,ah,bI,aE,cw,bf,eW,dc,db,aj,aI,aC,be,bh,bJ,bU,cx,dy,aw,eZ,ak,ei,bZ,cT,cF,aP,dt,aK,aQ,cut,bA,aR,ff,bS,tA,aM,ae,ar,aU,gj,hS.h8,hfew,aN]
  exact done _ _ _ (by simp only [ah,ae,cT,cF]) (by simp only [ah,ae,cT,cF]) (fun e2 h8=>⟨rfl,.inr rfl,cp h8 rfl⟩)
 |true=>
 rw [h1] at hfew
 cases h2:j4 b with
 |false=>
  rw [h2] at v1
  simp only [az,aA,cJ,aB,dz,ee,iG,e7,ah,bI,aE,cw,bf,eW,dc,db,aj,aI,aC,be,bh,bJ,bU,cx,dy,dv,aw,eZ,ak,ei,bZ,cT,cF,aP,dt,aK,aQ,cut,bA,aR,dP,ff,bS,tA,aM,ae,ar,aU,gj,hS.h8,hfew,hS.h13,v1,aN]
  exact done _ _ _ (by simp only [ah,ae,cT,cF]) (by simp only [ah,ae,cT,cF]) (fun e2 h8=>⟨rfl,.inr rfl,cp h8 rfl⟩)
 |true=>
 rw [h2] at v1
 cases h3:j4 o with
 |false=>
  rw [h3] at v2
  simp only [az,aA,cJ,aB,dz,ee,iG,e7,ah,bI,aE,cw,bf,eW,dc,db,aj,aI,aC,be,bh,bJ,bU,cx,dy,dv,aw,eZ,ak,ei,bZ,cT,cF,aP,dt,aK,aQ,cut,bA,aR,dP,ff,bS,tA,aM,ae,ar,aU,gj,hS.h8,hfew,hS.h13,v1,v2,aN]
  exact done _ _ _ (by simp only [ah,ae,cT,cF]) (by simp only [ah,ae,cT,cF]) (fun e2 h8=>⟨rfl,.inr rfl,cp h8 rfl⟩)
 |true=>
 rw [h3] at v2
 cases h4:j4 t with
 |false=>
  rw [h4] at v3
  simp only [az,aA,cJ,aB,dz,ee,iG,e7,ah,bI,aE,cw,bf,eW,dc,db,aj,aI,aC,be,bh,bJ,bU,cx,dy,dv,aw,eZ,ak,ei,bZ,cT,cF,aP,dt,aK,aQ,cut,bA,aR,dP,ff,bS,tA,aM,ae,ar,aU,gj,hS.h8,hfew,hS.h13,v1,v2,v3,aN]
  exact done _ _ _ (by simp only [ah,ae,cT,cF]) (by simp only [ah,ae,cT,cF]) (fun e2 h8=>⟨rfl,.inr rfl,cp h8 rfl⟩)
 |true=>
 rw [h4] at v3
 have hl9: ∀s',gG Tryz.prog [] 9 (.str id) s'=some (.int .i64 (id.length:Nat)):=fun s'=>qM _ _ _
 have hgt:du 60 ((id.length:Nat):Int)=decide (60<id.length):=cZ 60 id.length
 by_cases h60:60<id.length
 ·simp only [az,aA,cJ,aB,dz,e7,ah,bI,aE,cw,bf,aW,eW,cL,dc,db,aj,aI,aC,be,bh,bJ,bo,bU,cx,dv,aw,cd,lL,eZ,da,bH,ak,ei,aZ,cu,bZ,cT,cF,aP,bX,dt,aK,aQ,cut,bA,aR,dP,bS,tA,aM,ae,ar,aU,dT,gj,H5,hS.h8,hfew,hS.h13,v1,v2,v3,hl9,hgt,h60,aN]
  exact done _ _ _ (by simp only [ah,ae,cT,cF]) (by simp only [ah,ae,cT,cF]) (fun e2 h8=>⟨rfl,.inr rfl,cp h8 rfl⟩)
 ·simp only [az,aA,cJ,aB,dz,e7,ah,bI,aE,cw,bf,aW,eW,cL,dc,db,aj,aI,aC,be,bh,bJ,bo,bU,cx,dv,aw,cd,lL,eZ,da,bH,ak,ei,aZ,cu,bZ,cT,cF,aP,bX,dt,aK,aQ,cut,bA,aR,dP,bS,tA,aM,ae,ar,aU,decide_false,gj,H5,hS.h8,hfew,hS.h13,v1,v2,v3,hl9,hgt,h60,aN]
  refine W.cond (t:=false) (by simp only [aj,ah,ae,cT,cF]) (W.skip ?_)
  simp only [aN]
  have hfb:jY b 20=true∧jY o 20=true∧jY t 20=true:=by
   unfold qF at h1
   cases e1:jY b 20 with
   |false=>rw [e1] at h1;cases h1
   |true=>
    rw [e1] at h1
    cases e2:jY o 20 with
    |false=>rw [e2] at h1;cases h1
    |true=>rw [e2] at h1;exact⟨rfl,rfl,h1⟩
  have lb:=Ce hfb.1
  have lo:=Ce hfb.2.1
  have lt:=Ce hfb.2.2
  have hi:mZ b o t:=⟨h2,h3,h4,gb,go,gt,by omega,by omega,by omega⟩
  have hmg:=ail hb ho ht hi
  have hm:bu 6 Obj.val (fS 6 ((gd b o t).map Obj.val)) (gd b o t):=vw _
  have hcv:bu 2 de (fS 2 ((ml b o t).map de)) (ml b o t):=vw _
  have gm:=Rr hi
  have lm:=Rt hi
  have hsm:small=9223372036854775808:=rfl
  have cm:=hm.clean
  have ccv:=hcv.clean
  have cem:(fS 6 ((gd b o t).map Obj.val)).cells=[fS 6 ((gd b o t).map Obj.val)]:=by rcases hm with⟨h,_⟩|⟨r,h⟩<;>rw [h]<;>rfl
  have fm:=tz hm gm (by omega) id
  have f1:=tz hb gb sb id
  have f2:=tz ho go so id
  have f3:=tz ht gt st id
  rw [CD] at fm f1 f2 f3
  simp only [Obj.val,Obj.cells] at fm f1 f2 f3
  have s1:=qY ho go so hb gb sb id
  have s2:=qY ht gt st hb gb sb id
  have s3:=qY ho go so ht gt st id
  simp only [tS] at hmg
  generalize hmv:fS 6 ((gd b o t).map Obj.val)=mv at*
  generalize hcv':fS 2 ((ml b o t).map de)=cv at*
  refine W.sreg ?_
  unfold OE
  simp only [az,aA,dH,aB,dI,ah,dx,cz,bI,gQ,aE,aJ,fH,bf,dJ,ii,dc,db,aj,aC,be,bh,eM,bU,aw,bH,di,fU,ak,bZ,cT,cF,aP,bX,dt,aK,aQ,cut,cI,bA,aR,bT,cq,bS,tA,aM,ae,ar,bR,dB,aU,cP,bQ,dT,gj,AW,AJ,Zb,hS.h9,hmg,gu,fe,jI]
  refine W.sreg ?_
  unfold OG
  simp only [az,aA,dH,aB,dI,ah,dx,cz,bI,gQ,aE,aJ,fH,bf,dJ,ii,dc,db,aj,aC,be,bh,eM,bU,aw,bH,di,fU,ak,cu,bZ,cT,cF,aP,bX,dt,aK,aQ,cut,cI,bA,aR,bT,cq,bS,tA,aM,ae,ar,bt,bR,dB,aU,cP,bQ,dT,gj,nG,nF,Zc,hS.h14,fm,gu,fe,jI]
  refine W.sreg ?_
  unfold OH
  simp only [az,aA,dH,aB,dI,ah,dx,cz,bI,gQ,aE,aJ,fH,bf,dJ,ii,dc,db,aj,aC,be,bh,eM,bU,aw,bH,di,fU,ak,cu,bZ,cT,cF,aP,bX,dt,aK,aQ,cut,cI,bA,aR,bT,cq,bS,tA,aM,ae,ar,bt,bR,dB,aU,cP,bQ,dT,gj,nG,nF,Zd,hS.h14,f1,gu,fe,jI]
  refine W.sreg ?_
  unfold OI
  simp only [az,aA,dH,aB,dI,ah,dx,cz,bI,gQ,aE,aJ,fH,bf,dJ,ii,dc,db,aj,aC,be,bh,eM,bU,aw,bH,di,fU,ak,cu,bZ,cT,cF,aP,bX,dt,aK,aQ,cut,cI,bA,aR,bT,cq,bS,tA,aM,ae,ar,bt,bR,dB,aU,cP,bQ,dT,gj,nG,nF,Ze,hS.h14,f2,gu,fe,jI]
  refine W.sreg ?_
  unfold OJ
  simp only [az,aA,dH,aB,dI,ah,dx,cz,bI,gQ,aE,aJ,fH,bf,dJ,ii,dc,db,aj,aC,be,bh,eM,bU,aw,bH,di,fU,ak,cu,bZ,cT,cF,aP,bX,dt,aK,aQ,cut,cI,bA,aR,bT,cq,bS,tA,aM,ae,ar,bt,bR,dB,aU,cP,bQ,dT,gj,nG,nF,Zf,hS.h14,f3,gu,fe,jI]
  have pcv:bM cv=true:=by rw [←hcv'];exact ajK _
  refine W.mono (ahd (id:=id) hS hi hm hb ho ht hcv pcv ?_ ?_ ?_ ?_ ?_ ?_ ?_ ?_ ?_ ?_ ?_ ?_ ?_ ?_ ?_ ?_ ?_ ?_ ?_ ?_ ?_ ?_ ?_ ?_) ?_
  all_goals first
   |(simp only [ah,cz,bI,dx,ae,cT,cF,bS,Obj.cells];done)
   |skip
  rintro x fr s' ⟨rfl,rfl,h8⟩
  exact⟨rfl,.inr rfl,cp h8 rfl⟩
end
noncomputable def yk:eE:=[(7,yS),(8,uU),(13,qO),(9,og),(14,rO),(15,vU),(16,ow),(17,uJ)]
theorem TS:fV yk:=.cons XY (.cons W6 (.cons EB (.cons xz (.cons HV (.cons akx (.cons Ah (.cons VY .nil)))))))
theorem TT:L5 (fun f=>eY f yk):=⟨rfl,rfl,rfl,rfl,rfl,rfl,rfl,rfl⟩
theorem ag9 {x y z:ai} {b o t:List Obj} (hb:bu 6 Obj.val x b) (ho:bu 6 Obj.val y o) (ht:bu 6 Obj.val z t) (gb: ∀q∈b,q.Good) (go: ∀q∈o,q.Good) (gt: ∀q∈t,q.Good) (sb:b.length<small) (so:o.length<small) (st:t.length<small) (id:ax) (G:Gh) (h:bq bE) (w:World) (xs:List Value) (wr:WR G h w) (hx:cg G [.agg [x],.agg [y],.agg [z],.str id] xs):
 kb Tryz.prog 5 ⟨xs⟩ w fun r w'=> ∃G',WR G' h w'∧dh G h w G' h w' 0 0∧VR G' (.bool true) r:=by
 obtain⟨t1,x',w1,hb'⟩:=lZ hb gb
 obtain⟨t2,y',w2,ho'⟩:=lZ ho go
 obtain⟨t3,z',w3,ht'⟩:=lZ ht gt
 have hw:dU [.agg [x],.agg [y],.agg [z],.str id]=[.agg [x'],.agg [y'],.agg [z'],.str id]:=by simp only [dU,w1,w2,w3];rfl
 exact gJ (Q:=QT yk) (gD TS) (fun _=>gL 1) (args:=[.agg [x],.agg [y],.agg [z],.str id]) (v:=.bool true) (s':=s0) (by simp only [jy,t1,t2,t3];rfl) (by rw [hw];exact ahe (sp:=fun f=>eY f yk) TT rfl hb' ho' ht' gb go gt sb so st s0) rfl ⟨1,rfl⟩ G h w xs wr hx
def AB:Value→Option ai
 | .bool b=>some (.bool b)
 | .int k n=>some (.int k n)
 | .string s=>some (.str s.data.toList)
 | .slice none 0 0=>some .nils
 |_=>none
theorem akX (s:ByteArray):(⟨⟨s.data.toList⟩⟩:ByteArray)=s:=rfl
theorem akz {G:Gh} {x:Value} {v:ai} (h:AB x=some v):v.scal=true∧VR G v x:=by
 unfold AB at h
 split at h
 ·injection h with h;subst h;exact⟨rfl,.bool _⟩
 ·injection h with h;subst h;exact⟨rfl,.int _ _⟩
 ·injection h with h;subst h;exact⟨rfl,.str _⟩
 ·injection h with h;subst h;exact⟨rfl,.nils⟩
 ·cases h
def lg (W:World) (b o:Nat):Option ai:=(W.cell? ⟨b,o,none⟩).bind AB
open Classical in
noncomputable def pick (P:ai→Prop):Option ai:=if h: ∃v,P v then some (Classical.choose h) else none
theorem RZ {P:ai→Prop} {v:ai} (h:pick P=some v):P v:=by
 unfold pick at h
 split at h
 ·rename_i e
  injection h with h;subst h
  exact Classical.choose_spec e
 ·cases h
theorem RY {P:ai→Prop} {v:ai} (h:P v): ∃u,pick P=some u∧P u:=by
 have e: ∃v,P v:=⟨v,h⟩
 exact⟨Classical.choose e,by unfold pick;rw [dif_pos e],Classical.choose_spec e⟩
def sZ (W:World) (x:Value) (v:ai):Prop:= ∃(a:Addr) (len cap:Nat) (strs:List ax),x= .slice (some a) len cap∧v= .list 1 (strs.map bp) .no∧(cap=0∨a.spot=none)∧strs.length=len∧len≤cap∧len<small∧(∀s∈strs,s.length<small)∧
 ∀(i:Nat) (s:ax),strs[i]? =some s→W.cell? ⟨a.block,a.off+i,none⟩=some (.string ⟨⟨s⟩⟩)
def s8 (W:World) (x:Value) (v:ai):Prop:= ∃(a:Addr) (len cap:Nat) (tags:List cH),x= .slice (some a) len cap∧v= .list 2 (tags.map ek) .no∧(cap=0∨a.spot=none)∧tags.length=len∧len≤cap∧len<small∧(∀t∈tags,t.1.length<small)∧
 ∀(i:Nat) (t:cH),tags[i]? =some t→W.cell? ⟨a.block,a.off+(i*2+0),none⟩=some (.string ⟨⟨t.1⟩⟩)∧W.cell? ⟨a.block,a.off+(i*2+1),none⟩=some (.string ⟨⟨t.2⟩⟩)
noncomputable def xW (W:World) (b o:Nat):Option ai:=
 (W.cell? ⟨b,o,none⟩).bind fun x=>match W.cell? ⟨b,o-1,none⟩ with
  |some (.int _ _)=>pick (sZ W x)
  |some (.slice _ _ _)=>pick (s8 W x)
  |_=>none
noncomputable def kI (W:World):Gh where
 at_ _:=none
 dim _:=none
 ro b o:=(lg W b o).or (xW W b o)
theorem yR {W:World} {b o:Nat} {s:ax} (h:W.cell? ⟨b,o,none⟩=some (.string ⟨⟨s⟩⟩)):(kI W).ro b o=some (.str s):=by
 show(lg W b o).or _=_
 have:lg W b o=some (.str s):=by
  simp only [lg,h,ak];rfl
 rw [this];rfl
theorem aj3 {W:World} {x:Value} {v:ai} (h:sZ W x v):VR (kI W) v x:=by
 obtain⟨d,len,cap,strs,rfl,rfl,hsp,hl,hc,_,_,hcell⟩:=h
 rw [←hl] at hc ⊢
 have hm:(strs.map bp).length=strs.length:=by simp
 rw [←hm]
 refine .list hsp Nat.one_pos ?_ (by rw [hm];exact hc) ?_ trivial
 ·intro y hy
  obtain⟨s,_,rfl⟩:=List.mem_map.1 hy
  rfl
 ·intro i y hy
  rw [uX,sS] at hy
  cases e:strs[i]? with
  |none=>rw [e] at hy;cases hy
  |some s=>
   rw [e] at hy
   simp only [qr,a7] at hy
   subst hy
   exact yR (hcell i s e)
theorem RF: ∀ {l:List ai} {i:Nat} {v:ai},l[i]? =some v→iu l i=v
 | [],_,_,h=>by simp at h
 |_::_,0,_,h=>by simpa [iu] using h
 |_::l,i+1,v,h=>RF (l:=l) (i:=i) (by simpa using h)
theorem HI {sz:Nat} {xs:List ai} (hsz: ∀x∈xs,x.cells.length=sz) {i:Nat} {y:ai} (h:(bO xs)[i]? =some y): ∃v,xs[i / sz]? =some v∧v.cells[i % sz]? =some y∧i=i / sz*sz+i % sz:=by
 have hlt:i<(bO xs).length:=by
  rcases Nat.lt_or_ge i (bO xs).length with h1|h1
  ·exact h1
  ·rw [jg h1] at h;cases h
 rw [ki hsz] at hlt
 have hpos:0<sz:=by
  rcases sV sz with h0|h0
  ·subst h0;omega
  ·exact h0
 have hj:i / sz<xs.length:=(Nat.div_lt_iff_lt_mul hpos).2 hlt
 have hi:i % sz<sz:=Nat.mod_lt _ hpos
 have e:i=i / sz*sz+i % sz:=by rw [Nat.mul_comm];exact(Nat.div_add_mod i sz).symm
 have hg:=HJ hsz hj hi
 rw [←e,h] at hg
 refine⟨xs[i / sz],jf hj,?_,e⟩
 rw [RF (jf hj)] at hg
 exact hg.symm
theorem alq {W:World} {x:Value} {v:ai} (h:s8 W x v):VR (kI W) v x:=by
 obtain⟨d,len,cap,tags,rfl,rfl,hsp,hl,hc,_,_,hcell⟩:=h
 rw [←hl] at hc ⊢
 have hm:(tags.map ek).length=tags.length:=by simp
 have hsz: ∀y∈tags.map ek,y.cells.length=2:=by
  intro y hy
  obtain⟨s,_,rfl⟩:=List.mem_map.1 hy
  rfl
 rw [←hm]
 refine .list hsp (Nat.succ_pos 1) hsz (by rw [hm];exact hc) ?_ trivial
 intro i y hy
 obtain⟨u,h1,h2,h3⟩:=HI hsz hy
 rw [sS] at h1
 cases e:tags[i / 2]? with
 |none=>rw [e] at h1;cases h1
 |some t=>
  rw [e] at h1
  simp only [qr,a7] at h1
  subst h1
  obtain⟨c0,c1⟩:=hcell _ t e
  have hm2:i % 2=0∨i % 2=1:=by omega
  rcases hm2 with hm2|hm2
  ·rw [hm2] at h2 h3
   simp only [ek,ai.cells,fe,a7] at h2
   subst h2
   rw [h3]
   exact yR c0
  ·rw [hm2] at h2 h3
   simp only [ek,ai.cells,jI,fe,a7] at h2
   subst h2
   rw [h3]
   exact yR c1
theorem XQ (W:World):WR (kI W) .nil W where
 obj m o h:=by cases h
 sep m k x y h:=absurd rfl h
 ro b o v h:=by
  have h:(lg W b o).or (xW W b o)=some v:=h
  cases e:lg W b o with
  |some u=>
   rw [e] at h
   simp only [Option.some_or,a7] at h
   subst h
   unfold lg at e
   rw [aF] at e
   obtain⟨x,h1,h2⟩:=e
   obtain⟨h3,h4⟩:=akz (G:=kI W) h2
   exact⟨h3,x,h1,h4⟩
  |none=>
   rw [e] at h
   simp only [rl] at h
   unfold xW at h
   rw [aF] at h
   obtain⟨x,h1,h2⟩:=h
   split at h2
   ·have h2:=RZ h2
    have hs:v.scal=true:=by obtain⟨_,_,_,_,_,rfl,_⟩:=h2;rfl
    exact⟨hs,x,h1,aj3 h2⟩
   ·have h2:=RZ h2
    have hs:v.scal=true:=by obtain⟨_,_,_,_,_,rfl,_⟩:=h2;rfl
    exact⟨hs,x,h1,alq h2⟩
   ·cases h2
 apart m ob x i v h:=by cases h
 dim b d h:=by cases h
 below m x h:=by cases h
section
variable {H:Type} {enc:TypeId×Value→H} {W:World} {held:Bool}
theorem FK:Tryz.prog.underlying 3=some (.int .i64):=by kernel_rfl
theorem BG:Tryz.prog.cellsOf 9=1:=by kernel_rfl
theorem GJ:Tryz.prog.cellsOf 3=1:=by kernel_rfl
theorem Vh:Tryz.prog.cellsOf 37=1:=by kernel_rfl
theorem Vi:Tryz.prog.cellsOf 38=1:=by kernel_rfl
theorem GK:Tryz.prog.cellsOf 36=2:=by kernel_rfl
theorem BF:Tryz.prog.cellsOf 51=2:=by kernel_rfl
theorem BE:Tryz.prog.cellsOf 40=6:=by kernel_rfl
theorem Vg:Tryz.prog.cellsOf 24=1:=by kernel_rfl
theorem Vf:Tryz.prog.cellsOf 22=1:=by kernel_rfl
theorem AO:Tryz.prog.underlying 9=some .string:=by kernel_rfl
theorem alD:Tryz.prog.underlying 38=some (.slice 51):=by kernel_rfl
theorem alC:Tryz.prog.underlying 22=some (.slice 40):=by kernel_rfl
theorem Fz {a:Addr} {v:Value} (h:W.cell? a=some v):a.spot=none:=by
 unfold World.cell? at h
 split at h
 ·split at h
  ·cases h
  ·rename_i hs
   cases e:a.spot with
   |none=>rfl
   |some _=>rw [e] at hs;simp at hs
 ·cases h
theorem Gq {a:Addr} (h:a.spot=none) (i:Nat):a.add i=⟨a.block,a.off+i,none⟩:=by
 obtain⟨b,o,sp⟩:=a
 simp only at h;subst h
 exact lH b o i
theorem zS {n:Nat} (h:n≤maxLen):n<small:=by
 have h1:maxLen=9223372036854775807:=by decide
 have h2:small=9223372036854775808:=rfl
 omega
theorem FE {s:ByteArray} (h:s.size≤maxLen):s.data.toList.length<small:=by
 have e:s.data.toList.length=s.size:=Array.length_toList
 rw [e];exact zS h
theorem ahi {α:Type} {l:List α} (h:l.length=1): ∃a,l=[a]:=by
 match l,h with
 | [a],_=>exact⟨a,rfl⟩
theorem QL {α:Type} {l:List α} (h:l.length=2): ∃a b,l=[a,b]:=by
 match l,h with
 | [a,b],_=>exact⟨a,b,rfl⟩
theorem ahj {α:Type} {l:List α} (h:l.length=5): ∃a b c d e,l=[a,b,c,d,e]:=by
 match l,h with
 | [a,b,c,d,e],_=>exact⟨a,b,c,d,e,rfl⟩
theorem ahk {α:Type} {l:List α} (h:l.length=6): ∃a b c d e f,l=[a,b,c,d,e,f]:=by
 match l,h with
 | [a,b,c,d,e,f],_=>exact⟨a,b,c,d,e,f,rfl⟩
theorem aji {fuel:Nat} {cs:List Value} {x:DataW H×List MemPlace} (h:DataW.trod enc Tryz.prog W 0 (fun _=>true) held fuel 37 cs=some x): ∃v,cs=[v]∧(v= .slice none 0 0∨ ∃u,sZ W v u):=by
 rcases Go.ChangeShapes.open_strings xY AO BG h with⟨rfl,_⟩|⟨a,len,cap,ss,rfl,_,hl,hm,hss,_,hcell,hsz⟩
 ·exact⟨_,rfl,.inl rfl⟩
 ·simp only [if_true] at hss
  refine⟨_,rfl,.inr ⟨_,a,len,cap,(ss.take len).map (fun s=>s.data.toList),rfl,rfl,?_,?_,hl,zS (fX hl hm),?_,?_⟩⟩
  ·rcases sV cap with h0|h0
   ·exact .inl h0
   ·refine .inr (Fz (W:=W) (v:=.string (ss.getD 0 ByteArray.empty)) ?_)
    have:=hcell 0 (by omega)
    exact this
  ·rw [ep,List.length_take,hss];omega
  ·intro s hs
   obtain⟨b,hb,rfl⟩:=List.mem_map.1 hs
   have:=hsz b (List.mem_of_mem_take hb)
   exact FE this
  ·intro i s hi
   rw [sS] at hi
   cases e:(ss.take len)[i]? with
   |none=>rw [e] at hi;cases hi
   |some b=>
    rw [e] at hi
    simp only [qr,a7] at hi
    subst hi
    rw [List.getElem?_take] at e
    split at e
    ·have hlt:=(List.getElem?_eq_some_iff.1 e).1
     have hc:=hcell i hlt
     have hsp:a.spot=none:=Fz (W:=W) (v:=.string (ss.getD 0 ByteArray.empty)) (hcell 0 (by omega))
     rw [Gq hsp,List.getD_eq_getElem?_getD,e] at hc
     exact hc
    ·cases e
theorem alB {fuel:Nat} {cs:List Value} {x:DataW H×List MemPlace} (h:DataW.trod enc Tryz.prog W 0 (fun _=>true) held fuel 51 cs=some x): ∃k v:ax,cs=[.string ⟨⟨k⟩⟩,.string ⟨⟨v⟩⟩]∧k.length<small:=by
 obtain⟨y0,y1,n,_,hl,h0,h1⟩:=Go.ChangeShapes.trod_struct2 Tryz.underlying51 h
 rw [BF] at hl
 obtain⟨a,b,rfl⟩:=QL hl
 rw [BG] at h0 h1
 obtain⟨s,e0,_,hs⟩:=DataW.trod_string AO h0
 obtain⟨r,e1,_,hr⟩:=DataW.trod_string AO h1
 simp only [l9,eP,wt,mQ,and_true] at e0
 simp only [gl,l9,eP,wt,mQ,and_true] at e1
 subst e0;subst e1
 exact⟨s.data.toList,r.data.toList,rfl,FE hs⟩
theorem alA {fuel:Nat} {cs:List Value} {x:DataW H×List MemPlace} (h:DataW.trod enc Tryz.prog W 0 (fun _=>true) held fuel 36 cs=some x): ∃k v:Int,cs=[.int .i64 k,.int .i64 v]:=by
 obtain⟨y0,y1,n,_,hl,h0,h1⟩:=Go.ChangeShapes.trod_struct2 Tryz.underlying36 h
 rw [GK] at hl
 obtain⟨a,b,rfl⟩:=QL hl
 rw [GJ] at h0 h1
 obtain⟨s,e0,_,_⟩:=DataW.trod_int FK h0
 obtain⟨r,e1,_,_⟩:=DataW.trod_int FK h1
 simp only [l9,eP,wt,mQ,and_true] at e0
 simp only [gl,l9,eP,wt,mQ,and_true] at e1
 subst e0;subst e1
 exact⟨s,r,rfl⟩
theorem Ez {α:Type} {P:Nat→α→Prop}: ∀(n:Nat),(∀i,i<n→ ∃o,P i o)→ ∃l:List α,l.length=n∧ ∀(i:Nat) o,l[i]? =some o→P i o
 |0,_=>⟨[],rfl,fun i o h=>by simp at h⟩
 |n+1,h=>by
  obtain⟨l,h1,h2⟩:=Ez n fun i hi=>h i (by omega)
  obtain⟨o,ho⟩:=h n (by omega)
  refine⟨l++[o],by simp [h1],fun i p hp=>?_⟩
  rcases Nat.lt_or_ge i l.length with hi|hi
  ·rw [List.getElem?_append_left hi] at hp
   exact h2 i p hp
  ·rw [List.getElem?_append_right hi] at hp
   have:i-l.length=0:=by
    rcases sV (i-l.length) with h|h
    ·exact h
    ·rw [jg (by simp;omega)] at hp;cases hp
   rw [this] at hp
   simp only [fe,a7] at hp
   subst hp
   have:i=n:=by omega
   subst this;exact ho
theorem Hk {e:TypeId} {c n i:Nat} {a:Addr} {elems:List (DataW H×List MemPlace)} (hc:Tryz.prog.cellsOf e=c) (hi:i<elems.length) (hsp:a.spot=none)
 (h:(W.cells? 0 (a.add (i*Tryz.prog.cellsOf e)) (Tryz.prog.cellsOf e)).bind (DataW.trod enc Tryz.prog W 0 (fun _=>true) held n e)=elems[i]?):
 ∃cs y,DataW.trod enc Tryz.prog W 0 (fun _=>true) held n e cs=some y∧cs.length=c∧ ∀j,j<c→W.cell? ⟨a.block,a.off+(i*c+j),none⟩=cs[j]? :=by
 rw [hc,jf hi,aF] at h
 obtain⟨cs,h1,h2⟩:=h
 obtain⟨_,hl,hcell⟩:=World.cells?_some h1
 refine⟨cs,_,h2,hl,fun j hj=>?_⟩
 rw [←hcell j hj,Gq hsp,lH,Nat.add_assoc]
theorem SK {e:TypeId} {n len cap:Nat} {a:Addr} {elems rest:List (DataW H×List MemPlace)} (hpos:0<Tryz.prog.cellsOf e) (hlen:elems.length=len) (_hle:len≤cap)
 (hel: ∀i,i<len→(W.cells? 0 (a.add (i*Tryz.prog.cellsOf e)) (Tryz.prog.cellsOf e)).bind (DataW.trod enc Tryz.prog W 0 (fun _=>true) held n e)=elems[i]?)
 (hsp:rest.length=cap-len∧ ∀j,j<cap-len→(W.cells? 0 (a.add ((len+j)*Tryz.prog.cellsOf e)) (Tryz.prog.cellsOf e)).bind (DataW.trod enc Tryz.prog W 0 (fun _=>true) held n e)=rest[j]?):cap=0∨a.spot=none:=by
 rcases sV cap with h0|h0
 ·exact .inl h0
 ·refine .inr ?_
  have key: ∀o:Option (DataW H×List MemPlace),o.isSome=true→(W.cells? 0 (a.add (0*Tryz.prog.cellsOf e)) (Tryz.prog.cellsOf e)).bind (DataW.trod enc Tryz.prog W 0 (fun _=>true) held n e)=o→a.spot=none:=by
   intro o ho h
   cases o with
   |none=>cases ho
   |some y=>
    rw [aF] at h
    obtain⟨cs,h1,_⟩:=h
    obtain⟨_,hl,hcell⟩:=World.cells?_some h1
    have:=hcell 0 hpos
    rw [Nat.zero_mul] at this
    have hx:(a.add 0).add 0=a:=rfl
    rw [hx,jf (by omega)] at this
    exact Fz this
  rcases sV len with h1|h1
  ·have:=hsp.2 0 (by omega)
   rw [h1] at this
   refine key _ ?_ this
   rw [jf (by omega)];rfl
  ·refine key _ ?_ (hel 0 h1)
   rw [jf (by omega)];rfl
theorem ajj {fuel:Nat} {cs:List Value} {x:DataW H×List MemPlace} (h:DataW.trod enc Tryz.prog W 0 (fun _=>true) held fuel 38 cs=some x): ∃v,cs=[v]∧(v= .slice none 0 0∨ ∃u,s8 W v u):=by
 rcases DataW.trod_slice alD h with⟨rfl,_⟩|⟨a,len,cap,elems,rest,n,_,rfl,_,_,hl,hm,hlen,hel,hsp,_⟩
 ·exact⟨_,rfl,.inl rfl⟩
 ·have hspot:=SK (by rw [BF];omega) hlen hl hel (hsp rfl)
  obtain⟨tags,t1,t2⟩:=Ez (P:=fun i (t:cH)=>t.1.length<small∧W.cell? ⟨a.block,a.off+(i*2+0),none⟩=some (.string ⟨⟨t.1⟩⟩)∧W.cell? ⟨a.block,a.off+(i*2+1),none⟩=some (.string ⟨⟨t.2⟩⟩)) len fun i hi=>by
   have hs:a.spot=none:=by
    rcases hspot with h0|h0
    ·omega
    ·exact h0
   obtain⟨cs,y,q1,q2,q3⟩:=Hk BF (by omega) hs (hel i hi)
   obtain⟨k,v,rfl,hk⟩:=alB q1
   exact⟨(k,v),hk,q3 0 (by omega),q3 1 (by omega)⟩
  refine⟨_,rfl,.inr ⟨_,a,len,cap,tags,rfl,rfl,hspot,t1,hl,zS (fX hl hm),?_,fun i t hi=>(t2 i t hi).2⟩⟩
  intro t ht
  obtain⟨i,hi⟩:=A2 ht
  exact(t2 i t hi).1
theorem ajg {fuel:Nat} {cs:List Value} {x:DataW H×List MemPlace} (h:DataW.trod enc Tryz.prog W 0 (fun _=>true) held fuel 40 cs=some x):
 ∃(id:ax) (k px py:Int) (rv tv:Value),cs=[.string ⟨⟨id⟩⟩,.int .i64 k,.int .i64 px,.int .i64 py,rv,tv]∧id.length<small∧(rv= .slice none 0 0∨ ∃u,sZ W rv u)∧(tv= .slice none 0 0∨ ∃u,s8 W tv u):=by
 obtain⟨xs,n,_,_,hl,hlen,hf⟩:=DataW.trod_struct Tryz.underlying40 h
 rw [BE] at hl
 obtain⟨a,b,c,d,e,f,rfl⟩:=ahk hl
 obtain⟨y0,y1,y2,y3,y4,rfl⟩:=ahj (l:=xs) hlen
 have h0:DataW.trod enc Tryz.prog W 0 (fun _=>true) held n 9 (([a,b,c,d,e,f].drop 0).take (Tryz.prog.cellsOf 9))=some y0:=hf 0 _ rfl
 have h1:DataW.trod enc Tryz.prog W 0 (fun _=>true) held n 3 (([a,b,c,d,e,f].drop 1).take (Tryz.prog.cellsOf 3))=some y1:=hf 1 _ rfl
 have h2:DataW.trod enc Tryz.prog W 0 (fun _=>true) held n 36 (([a,b,c,d,e,f].drop 2).take (Tryz.prog.cellsOf 36))=some y2:=hf 2 _ rfl
 have h3:DataW.trod enc Tryz.prog W 0 (fun _=>true) held n 37 (([a,b,c,d,e,f].drop 4).take (Tryz.prog.cellsOf 37))=some y3:=hf 3 _ rfl
 have h4:DataW.trod enc Tryz.prog W 0 (fun _=>true) held n 38 (([a,b,c,d,e,f].drop 5).take (Tryz.prog.cellsOf 38))=some y4:=hf 4 _ rfl
 rw [BG] at h0
 rw [GJ] at h1
 rw [GK] at h2
 rw [Vh] at h3
 rw [Vi] at h4
 obtain⟨s,e0,_,hs⟩:=DataW.trod_string AO h0
 obtain⟨k,e1,_,_⟩:=DataW.trod_int FK h1
 obtain⟨px,py,e2⟩:=alA h2
 obtain⟨rv,e3,hr⟩:=aji h3
 obtain⟨tv,e4,ht⟩:=ajj h4
 simp only [l9,gl,eP,wt,mQ,and_true] at e0 e1 e2 e3 e4
 obtain⟨rfl,rfl⟩:=e2
 subst e0;subst e1;subst e3;subst e4
 exact⟨s.data.toList,k,px,py,_,_,rfl,FE hs,hr,ht⟩
theorem aj4 {x:Value} {v:ai} (h:sZ W x v): ∃strs:List ax,bu 1 bp v strs∧strs.length<small∧(∀s∈strs,s.length<small)∧bM v=true:=by
 obtain⟨_,_,_,strs,_,rfl,_,hl,_,h1,h2,_⟩:=h
 refine⟨strs,.inr ⟨_,rfl⟩,by omega,h2,?_⟩
 simp only [bM,xK SZ strs,gK]
theorem alr {x:Value} {v:ai} (h:s8 W x v): ∃tags:List cH,bu 2 ek v tags∧tags.length<small∧(∀t∈tags,t.1.length<small)∧bM v=true:=by
 obtain⟨_,_,_,tags,_,rfl,_,hl,_,h1,h2,_⟩:=h
 refine⟨tags,.inr ⟨_,rfl⟩,by omega,h2,?_⟩
 simp only [bM,xK Ta tags,gK]
theorem wY {b o:Nat} {x:Value} {v:ai} (h:W.cell? ⟨b,o,none⟩=some x) (hs:AB x=some v):(kI W).ro b o=some v:=by
 show(lg W b o).or _=_
 have:lg W b o=some v:=by simp only [lg,h,ak,hs]
 rw [this];rfl
theorem XO {a:Addr} {i:Nat} {x:Value} {u:ai} {k:IntKind} {z:Int} (hp:W.cell? ⟨a.block,a.off+(i*6+3),none⟩=some (.int k z)) (h:W.cell? ⟨a.block,a.off+(i*6+4),none⟩=some x) (hu:sZ W x u): ∃v,(kI W).ro a.block (a.off+(i*6+4))=some v∧sZ W x v:=by
 obtain⟨v,h1,h2⟩:=RY hu
 refine⟨v,?_,h2⟩
 show(lg W _ _).or _=_
 have e:lg W a.block (a.off+(i*6+4))=none:=by
  obtain⟨d,len,cap,_,rfl,_⟩:=hu
  simp only [lg,h,ak];rfl
 have e2:a.off+(i*6+4)-1=a.off+(i*6+3):=by omega
 rw [e,rl,xW,h,e2,hp]
 exact h1
theorem XP {a:Addr} {i:Nat} {x:Value} {u:ai} {y:Option Addr} {p q:Nat} (hp:W.cell? ⟨a.block,a.off+(i*6+4),none⟩=some (.slice y p q)) (h:W.cell? ⟨a.block,a.off+(i*6+5),none⟩=some x) (hu:s8 W x u): ∃v,(kI W).ro a.block (a.off+(i*6+5))=some v∧s8 W x v:=by
 obtain⟨v,h1,h2⟩:=RY hu
 refine⟨v,?_,h2⟩
 show(lg W _ _).or _=_
 have e:lg W a.block (a.off+(i*6+5))=none:=by
  obtain⟨d,len,cap,_,rfl,_⟩:=hu
  simp only [lg,h,ak];rfl
 have e2:a.off+(i*6+5)-1=a.off+(i*6+4):=by omega
 rw [e,rl,xW,h,e2,hp]
 exact h1
theorem ajh {fuel:Nat} {cs:List Value} {x:DataW H×List MemPlace} (h:DataW.trod enc Tryz.prog W 0 (fun _=>true) held fuel 22 cs=some x):
 ∃(val:Value) (v:ai) (l:List Obj),cs=[val]∧VR (kI W) v val∧v.scal=true∧bu 6 Obj.val v l∧(∀o∈l,o.Good)∧l.length<small:=by
 rcases DataW.trod_slice alC h with⟨rfl,_⟩|⟨a,len,cap,elems,rest,n,_,rfl,_,_,hl,hm,hlen,hel,hsp,_⟩
 ·refine⟨_,.nils,[],rfl,.nils,rfl,.inl ⟨rfl,rfl⟩,(fun o ho=>by cases ho),by decide⟩
 ·have hspot:=SK (by rw [BE];omega) hlen hl hel (hsp rfl)
  obtain⟨l,t1,t2⟩:=Ez (P:=fun i (o:Obj)=>o.Good∧ ∀(j:Nat) v,o.cells[j]? =some v→(kI W).ro a.block (a.off+(i*6+j))=some v) len fun i hi=>by
   have hs:a.spot=none:=by
    rcases hspot with h0|h0
    ·omega
    ·exact h0
   obtain⟨cs,y,q1,q2,q3⟩:=Hk BE (by omega) hs (hel i hi)
   obtain⟨id,k,px,py,rv,tv,rfl,hid,hr,ht⟩:=ajg q1
   have p0:=q3 0 (by omega)
   have p1:=q3 1 (by omega)
   have p2:=q3 2 (by omega)
   have p3:=q3 3 (by omega)
   have p4:=q3 4 (by omega)
   have p5:=q3 5 (by omega)
   simp only [fe,jI] at p0 p1 p2 p3 p4 p5
   have R: ∃(v:ai) (strs:List ax),(kI W).ro a.block (a.off+(i*6+4))=some v∧bu 1 bp v strs∧strs.length<small∧(∀s∈strs,s.length<small)∧bM v=true:=by
    rcases hr with rfl|⟨u,hu⟩
    ·exact⟨.nils,[],wY p4 rfl,.inl ⟨rfl,rfl⟩,by decide,(fun s hs=>by cases hs),rfl⟩
    ·obtain⟨v,g1,g2⟩:=XO p3 p4 hu
     obtain⟨strs,g3⟩:=aj4 g2
     exact⟨v,strs,g1,g3⟩
   have hsl: ∃y p q,rv= .slice y p q:=by
    rcases hr with rfl|⟨u,hu⟩
    ·exact⟨_,_,_,rfl⟩
    ·obtain⟨d,len,cap,_,rfl,_⟩:=hu;exact⟨_,_,_,rfl⟩
   have T: ∃(v:ai) (tags:List cH),(kI W).ro a.block (a.off+(i*6+5))=some v∧bu 2 ek v tags∧tags.length<small∧(∀s∈tags,s.1.length<small)∧bM v=true:=by
    rcases ht with rfl|⟨u,hu⟩
    ·exact⟨.nils,[],wY p5 rfl,.inl ⟨rfl,rfl⟩,by decide,(fun s hs=>by cases hs),rfl⟩
    ·obtain⟨y,p,q,rfl⟩:=hsl
     obtain⟨v,g1,g2⟩:=XP p4 p5 hu
     obtain⟨tags,g3⟩:=alr g2
     exact⟨v,tags,g1,g3⟩
   obtain⟨rV,strs,r1,r2,r3,r4,r5⟩:=R
   obtain⟨tV,tags,s1,s2,s3,s4,s5⟩:=T
   refine⟨⟨id,k,px,py,rV,tV,strs,tags⟩,⟨⟨r2,s2,hid,r3,r4,s3,s4⟩,r5,s5⟩,?_⟩
   intro j v hv
   match j,hv with
   |0,hv=>simp only [Obj.cells,fe,a7] at hv;subst hv;exact yR p0
   |1,hv=>simp only [Obj.cells,jI,fe,a7] at hv;subst hv;exact wY p1 rfl
   |2,hv=>simp only [Obj.cells,jI,fe,a7] at hv;subst hv;exact wY p2 rfl
   |3,hv=>simp only [Obj.cells,jI,fe,a7] at hv;subst hv;exact wY p3 rfl
   |4,hv=>simp only [Obj.cells,jI,fe,a7] at hv;subst hv;exact r1
   |5,hv=>simp only [Obj.cells,jI,fe,a7] at hv;subst hv;exact s1
   |j+6,hv=>simp [Obj.cells] at hv
  have hg: ∀o∈l,o.Good:=fun o ho=>by
   obtain⟨i,hi⟩:=A2 ho
   exact(t2 i o hi).1
  refine⟨_,.list 6 (l.map Obj.val) .no,l,rfl,?_,rfl,.inr ⟨_,rfl⟩,hg,by rw [t1];exact zS (fX hl hm)⟩
  have hm2:(l.map Obj.val).length=len:=by simp [t1]
  have hsz: ∀y∈l.map Obj.val,y.cells.length=6:=by
   intro y hy
   obtain⟨o,_,rfl⟩:=List.mem_map.1 hy
   rfl
  have:VR (kI W) (.list 6 (l.map Obj.val) .no) (.slice (some a) (l.map Obj.val).length cap):=by
   refine .list hspot (by omega) hsz (by rw [hm2];exact hl) ?_ trivial
   intro i y hy
   obtain⟨u,h1,h2,h3⟩:=HI hsz hy
   rw [sS] at h1
   cases e:l[i / 6]? with
   |none=>rw [e] at h1;cases h1
   |some o=>
    rw [e] at h1
    simp only [qr,a7] at h1
    subst h1
    rw [h3]
    exact(t2 _ o e).2 _ _ h2
  rw [hm2] at this
  exact this
theorem E5 {v:Value} {d:DataW H} {ps:List MemPlace} (hv: ∃cs,v= .agg cs) (h:DataW.Trod enc Tryz.prog W 0 (fun _=>true) held 24 v d ps):
 ∃(x:ai) (l:List Obj),VR (kI W) (.agg [x]) v∧bu 6 Obj.val x l∧(∀o∈l,o.Good)∧l.length<small:=by
 obtain⟨fuel,h⟩:=h
 obtain⟨cs,rfl⟩:=hv
 obtain⟨y0,n,_,hl,h0⟩:=Go.ChangeShapes.trod_struct1 Tryz.underlying24 h
 rw [Vf] at h0
 have hcs:(Value.agg cs).cells.toList=cs.toList:=rfl
 rw [hcs] at h0 hl
 rw [Vg] at hl
 obtain⟨val,x,l,e,h1,hsc,h2,h3,h4⟩:=ajh h0
 have hc:cs= #[val]:=by
  obtain⟨cl⟩:=cs
  obtain⟨c,rfl⟩:=ahi (l:=cl) hl
  simp only [l9,eP,wt,mQ,and_true] at e
  subst e;rfl
 subst hc
 refine⟨x,l,.agg ?_ (.cons h1 .nil),h2,h3,h4⟩
 simp only [dG,List.all_cons,hsc,List.all_nil,gK]
end
end Go.Proofs.YtbfmdojdemckbaaGreat
