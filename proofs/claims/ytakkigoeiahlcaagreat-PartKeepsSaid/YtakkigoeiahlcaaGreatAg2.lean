/- Lemmas for PartKeeps. -/
import Derived.Test.YtakkigoeiahlcaaGreatAg1
import Derived.Orders
import Derived.Scope
import Derived.LoopN
import Derived.OrdersIn
import Derived.LoopNIn
import Derived.RangeFuncRecord
import Derived.Attr
import Derived.KernelRfl
set_option linter.all false
open Option renaming some→X,none→Z,bind_eq_some_iff→ak,bind_some→aG,getD_some→yQ,map_none→n8,map_some→kV
open Bool renaming true→O,false→I,and_eq_true→bg,false_eq_true→E6,not_eq_true'→ny,or_eq_true→AJ,or_false→yC
open List renaming length→J,all_eq_true→fO,getElem?_of_mem→Cy,getElem?_toArray→MH,map_cons→cZ,mem_cons→dD,size_toArray→Ir,cons_append→uH,getElem?_cons_succ→Cx,getElem?_cons_zero→AR,getElem?_eq_getElem→dA,length_append→bI,length_cons→bP,length_nil→bC,mem_cons_self→gz,mem_range→yL,nodup_cons→Fe
open Array renaming ext'→pV,getD_eq_getD_getElem?→uE,getElem?_eq_getElem→sM,getElem?_replicate→TG,getElem?_setIfInBounds→MD
open Classical renaming byContradiction→wA
open Go.Ag.cz renaming meets→qX
open List.cons renaming injEq→mR
open Go.Ag.bD renaming none→wJ
open Nat renaming beq→aA,ble_eq_true_of_le→bG,ble→aP,blt→bq,eq_of_beq_eq_true→gA,le_max_left→wK,le_max_right→uL,le_of_lt→wL,le_refl→aC,le_succ→iy,le_trans→dg,lt_of_lt_of_le→fP,lt_or_ge→iz,zero_add→dS,zero_le→fT,le_succ_of_le→co
open Option.some renaming injEq→aQ
open Prod.mk renaming injEq→bk
open Go.Result renaming andThen_ok→mg
open Go.Ag.St renaming get→ll
namespace Go.Ag
section
variable{mk:aI}{α β γ δ:Type}
def cC.none:cC (α:=α) mk (λ_ _=>.none):=by intro ch s v s' h;cases h
def cC.opt(x:Option β){k:β->(dd)->St->Option (α×St)}(p:∀b,x=X b->cC mk (k b)):cC mk (λch s=>x.bind λb=>k b ch s):=by
 rcases x with _|b
 intro ch s v s' h;cases h;exact p b rfl
def cC.ret(a:α):cC mk (λ_ s=>X (a,s)):=by
 intro ch s v s' h;simp only[aQ,bk]at h;obtain⟨rfl,rfl⟩:=h;exact⟨.refl mk _,λp s2 _ x=>⟨s2,rfl,.refl x⟩⟩
def bD.ret(a:α)(b:β):bD mk (λ_ s=>X (a,b,s)):=by
 intro ch s v l s' h;simp only[aQ,bk]at h;obtain⟨rfl,rfl,rfl⟩:=h;exact⟨.refl mk _,λp s2 _ x=>⟨s2,rfl,.refl x⟩⟩
theorem cC.then3{x:(dd)->St->Option (α×St)}{k:α->(dd)->St->Option (β×γ×St)}(U:cC mk x)(V:∀a,bD mk (k a)):bD mk (λch s=>(x ch s).bind λr=>k r.1 ch r.2):=by
 intro ch s v l s' h;simp only[ak]at h;obtain⟨⟨a,s1⟩,h1,Y⟩:=h;obtain⟨z,e1⟩:=U ch s a s1 h1;obtain⟨q,e2⟩:=V a ch s1 v l s' Y;refine⟨z.trans q,λp s2 E y=>?_⟩;obtain⟨s2',q1,C⟩:=e1 p s2 (λi hi=>E i (fP hi q.ci)) y;obtain⟨s2'',q3,T⟩:=e2 p s2' E (C.sees y z);exact⟨s2'',by grind,C.trans z q T⟩
theorem bD.then1{x:(dd)->St->Option (α×β×St)}{k:α->β->(dd)->St->Option (γ×St)}(U:bD mk x)(V:∀a b,cC mk (k a b)):cC mk (λch s=>(x ch s).bind λr=>k r.1 r.2.1 ch r.2.2):=by
 intro ch s v s' h;simp only[ak]at h;obtain⟨⟨a,b,s1⟩,h1,Y⟩:=h;obtain⟨z,e1⟩:=U ch s a b s1 h1;obtain⟨q,e2⟩:=V a b ch s1 v s' Y;refine⟨z.trans q,λp s2 E y=>?_⟩;obtain⟨s2',q1,C⟩:=e1 p s2 (λi hi=>E i (fP hi q.ci)) y;obtain⟨s2'',q3,T⟩:=e2 p s2' E (C.sees y z);exact⟨s2'',by grind,C.trans z q T⟩
theorem bD.then3{x:(dd)->St->Option (α×β×St)}{k:α->β->(dd)->St->Option (γ×δ×St)}(U:bD mk x)(V:∀a b,bD mk (k a b)):bD mk (λch s=>(x ch s).bind λr=>k r.1 r.2.1 ch r.2.2):=by
 intro ch s v l s' h;simp only[ak]at h;obtain⟨⟨a,b,s1⟩,h1,Y⟩:=h;obtain⟨z,e1⟩:=U ch s a b s1 h1;obtain⟨q,e2⟩:=V a b ch s1 v l s' Y;refine⟨z.trans q,λp s2 E y=>?_⟩;obtain⟨s2',q1,C⟩:=e1 p s2 (λi hi=>E i (fP hi q.ci)) y;obtain⟨s2'',q3,T⟩:=e2 p s2' E (C.sees y z);exact⟨s2'',by grind,C.trans z q T⟩
end
variable{α β:Type}{mk:aI}
theorem bD.weaken{p:aI}(hm:∀n,dG mk n=O->dG p n=O){x:(dd)->St->Option (α×β×St)}(hx:bD p x):bD mk x:=by
 have E:∀n,dG p n=I->dG mk n=I:=λn h=>by
  grind
 have T:∀{s s':St}{n:Nat},mT p s s' n->mT mk s s' n:=λt=>t.imp (λt=>⟨E _ t.1,t.2⟩) id;intro ch s a b s' h;obtain⟨g,e⟩:=hx ch s a b s' h;refine⟨⟨g.aL,g.ci,g.gE,λn h=>g.frame n (λt=>h (T t)),g.noted⟩,λC s2 hc y=>?_⟩;obtain⟨s2',Y,z⟩:=e C s2 hc ⟨y.aL,y.gE,y.ci,λn o hn ho=>y.get n o (E n hn) ho⟩;refine⟨s2',Y,⟨z.aL,z.gE,z.ci,λn t=>?_,λn t=>z.outside n (λq=>t (T q))⟩⟩;by_cases q:mT p s s' n;exact z.inside n q;rw[z.outside n q,g.frame n q];rcases t with⟨V,U⟩|t
 rcases h:s.heap.get n with _|o
 exact absurd h U;exact y.get n o V h;exact absurd (.inr t) q
variable{rs:i_}{bi n:Nat}
theorem Xg(h:dG mk n=O):dG (kP bi rs mk) n=O:=by
 induction rs with
 |nil=>exact h
 |cons r rs p=>
  grind [kP,dG]
def ay.at(Q:ay)(ch:dd):ay:= {Q with ch:=ch }
theorem Ey{mk:aI}{s s2:St}(y:iU mk s s2):∀(x:Rd)(v:aa),ee (s.get mk) x=X v->ee (s2.get mk) x=X v
 |.ret _,_,h=>h
 |.ask n k,v,h=>by
   simp only[ee,ak]at h⊢;obtain⟨o,h1,p⟩:=h;exact⟨o,y.look h1,Ey y (k o) v p⟩
theorem awt(mk:aI)(x:Rd):cC mk (λ_ s=>(ee (s.get mk) x).bind λv=>X (v,s)):=by
 intro ch s v s' h;simp only[ak,aQ,bk]at h;obtain⟨u,h1,rfl,rfl⟩:=h;exact⟨.refl mk _,λp s2 _ y=>⟨s2,by grind [Ey],.refl y⟩⟩
structure MT (r:(dd)->oe):Prop where
 ops:∀f all mk l fr,cC mk (λch s=>(r ch).ops f all mk l fr s)
 draw:∀f all bs mk rs i l fr,cC mk (λch s=>(r ch).draw f all bs mk rs i l fr s)
 code:∀f c mk fr,bD mk (λch s=>(r ch).code f c mk fr s)
 call:∀f args mk,cC mk (λch s=>(r ch).call f args mk s)
def awk{k:aH->(dd)->St->Option (α×aH×St)}(U:∀o,bD mk (k o)):
 cC mk (λch s=>(s.get mk n).bind λo=>(k o ch (s.put n Z)).bind λx=>X (x.1,x.2.2.put n (X x.2.1))):=by
 intro ch s v s' h;simp only[ak,aQ,bk]at h;obtain⟨o,h1,⟨u,p,C⟩,Y,rfl,rfl⟩:=h;obtain⟨g,e⟩:=U o ch (s.put n Z) u p C Y;refine⟨g.hide h1 p,λz s2 V y=>?_⟩;obtain⟨q,T,E⟩:=e z (s2.put n Z) V ((fX.put y h1 Z).sees y (fQ.put h1 Z));exact⟨q.put n (X p),by simp only[y.look h1,aG,T],E.hide y h1 p⟩
section
variable{Q:ay}{r:(dd)->oe}(hr:MT r)
include hr
theorem awA(n:Nat)(args:az)(mk:aI):cC mk (λch s=>mQ (r ch) n args mk s):=by
 unfold mQ;refine awk λo=>?_;unfold Ct;split;rename_i f env size p a b;cases p.all (λt=>bq t size);exact wJ;simp only[cT];refine bD.bind _ λq _=>?_;refine bD.then3 (k:=λx fr ch s=>AG (r ch) f env size p a b mk (x,fr,s)) (hr.code f a mk _) λx fr=>?_;cases x with
 |normal=>
  refine bD.then3 (k:=λx fr _ s=>Cs f env size p a b (x,fr,s)) (hr.code f b mk _) λx fr=>?_;cases x<;>exact bD.ret _ _
 |exit i=>exact wJ
 |ret=>exact wJ
 exact wJ
theorem G6(f:FuncId)(o:Oper)(mk:aI)(fr:Fr):bD mk (λch s=>fC (Q.at ch) (r ch) f o mk fr s):=by
 unfold fC;split;split;exact abJ _ _ _ _;rename_i c _ _ _;cases oK fr.env c;unfold pk;exact bD.bind _ λg _=>cC.then3 (hr.call g.1 g.2 mk) λv=>bD.ret v fr.loc;unfold sK;exact bD.bind _ λg _=>cC.then3 (awA hr g.1 g.2 mk) λv=>bD.ret v fr.loc;exact av8 _ _ _ _ _
theorem awr(f:FuncId)(all:nt)(mk:aI)(l:CE)(fr:Fr):cC mk (λch s=>mG (Q.at ch) (r ch) f all mk l fr s):=by
 unfold mG;split;exact cC.ret fr;rename_i o p;cases fw all fr.env o;exact cC.opt _ λfr' _=>hr.ops f all mk p fr';exact bD.then1 (G6 hr f o mk fr) λv l=>cC.opt (d8 fr o.dst v l) λfr' _=>hr.ops f all mk p fr'
theorem awh(f:FuncId)(all:nt)(bs:be)(mk:aI)(rs:i_)(i:Nat)(l:CE)(fr:Fr):cC mk (λch s=>mr (Q.at ch) (r ch) f all bs mk rs i l fr s):=by
 unfold mr;split;exact cC.ret fr;rename_i o E;cases fw all fr.env o;exact cC.opt _ λfr' _=>hr.draw f all bs.tail mk rs (i+1) E fr';intro ch s v s' h;simp only[cT,ak]at h;obtain⟨⟨u,l,s1⟩,h1,h⟩:=h;replace h:=aZ h;obtain⟨hc,h⟩:=h;simp only[ak]at h;obtain⟨fr',a1,h⟩:=h;have hl:=bD.weaken (λn hn=>Xg (bi:=bs.headD 0) (rs:=rs) hn) (G6 (Q:=Q) hr f o (kP (bs.headD 0) rs mk) fr);obtain⟨Y,e1⟩:=hl ch ⟨s.heap,s.aL,s.aL,s.ci⟩ u l s1 h1;obtain⟨g2,e2⟩:=hr.draw _ _ _ _ _ _ _ _ ch (s.GE s1) v s' h;have U:(bif aP s.gE s1.gE then s.gE else s1.gE)<=s.gE/\(bif aP s.gE s1.gE then s.gE else s1.gE)<=s1.gE:=by
  cases e:aP s.gE s1.gE
  grind [tX]
  simp_all
 have z:fQ mk s (s.GE s1):=⟨Y.aL,Y.ci,U.1,Y.frame,λn hn a0=>dg U.2 (Y.noted n hn a0)⟩;refine⟨z.trans g2,λC s2 V y=>?_⟩;obtain⟨p,q1,q⟩:=e1 C ⟨s2.heap,s2.aL,s2.aL,s2.ci⟩ (λj hj=>V j (fP hj g2.ci)) ⟨y.aL,y.aL,y.ci,y.get⟩;have T:fX mk s (s.GE s1) s2 (s2.GE p):=⟨q.aL,by show(bif aP s2.gE p.gE then s2.gE else p.gE)=(bif aP s.gE s1.gE then s.gE else s1.gE);rw[y.gE,q.gE],q.ci,q.inside,q.outside⟩;obtain⟨s2',q3,q4⟩:=e2 C (s2.GE p) V (T.sees y z);refine⟨s2',?_,T.trans z g2 q4⟩;simp only[cT];rw[y.aL,y.ci]at q1⊢;simp only[q1,aG,q.gE,q.ci,q.aL];have a2:(xg (bs.headD 0) (bK ((Q.at C).hint f) o.dst fr.env o.op) (s1.gE.blt s.aL||isStore o.op) rs&&s.ci.beq s1.ci)=O:=hc;rw[a2];simp only[cT];rw[a1];exact q3
theorem awf(f:FuncId)(c:Code)(mk:aI)(fr:Fr):bD mk (λch s=>zC (Q.at ch) (r ch) f c mk fr s):=by
 have C:∀(x:Ex)(fr:Fr)(b:Code),bD mk (λch s=>pP (r ch) f b mk (x,fr,s)):=by
  intro x fr b;cases x with
  |normal=>exact hr.code f b mk fr
  |exit i=>exact bD.ret _ _
  |ret=>exact bD.ret _ _
 cases c<;>simp only[zC]<;>first
  |exact wJ
  |exact bD.ret _ _
  |exact bD.then3 (hr.code f _ mk fr) λx fr=>C x fr _
  |exact hr.code f _ mk fr
  |skip
 ·
  rename_i id ops T;unfold LJ;cases T;exact cC.then3 (k:=λfr _ s=>X (Ex.normal,fr,s)) (hr.ops f ops mk ops.toList fr) λfr=>bD.ret _ _;simp only[cT];cases nD ops 0 ops.toList (Region.before ops).toList;exact wJ;exact cC.then3 (k:=λfr _ s=>X (Ex.normal,fr,s)) (hr.draw f ops _ mk [] 0 ops.toList fr) λfr=>bD.ret _ _
 ·
  rename_i x a b;refine bD.bind _ λv _=>?_;unfold Dd;split;exact hr.code f _ mk fr;exact hr.code f _ mk fr;exact wJ
 ·
  rename_i id b;refine bD.then3 (k:=λx fr _ s=>X (qt id (x,fr,s))) (hr.code f b mk fr) λx fr=>?_;cases x with
  |normal=>exact bD.ret _ _
  |ret=>exact bD.ret _ _
  |exit i=>
   simp only[qt];cases aA i id<;>simp_all [bD.ret]
 ·
  rename_i g ps a b;refine bD.bind _ λv _=>?_;unfold x8;split;rename_i h first z _
  show bD mk (λch s=>bif tH Q.P h&&(fr.env.all jC&&(dM a&&dM b))then _ else Z);cases tH Q.P h&&(fr.env.all jC&&(dM a&&dM b));exact wJ;simp only[cT];intro ch s x fr' s' h';simp only[ak]at h';obtain⟨⟨v,s1⟩,h1,h2⟩:=h';simp only[B8,ak]at h2;obtain⟨o,h3,q⟩:=h2;obtain⟨U,e1⟩:=hr.call h _ mk ch _ v s1 h1;have E:=fQ.new mk s (.loop f fr.env fr.size ps.toList a b Z);cases o with
  |loop f' a1 V a2 a' b' p=>
   simp only[aQ,bk]at q;obtain⟨rfl,rfl,rfl⟩:=q;have g2:=fQ.put h3 (mk:=mk) Z;refine⟨(E.trans U).trans g2,λa0 s2 hc y=>?_⟩;have s0:=fX.new y (.loop f fr.env fr.size ps.toList a b Z);obtain⟨Y,q1,q2⟩:=e1 a0 _ hc (s0.sees y E);have hn:s2.aL=s.aL:=y.aL;have y1:=q2.sees (s0.sees y E) U;refine⟨Y.put s.aL Z,?_,(s0.trans E U q2).trans (E.trans U) g2 (.put y1 h3 Z)⟩;simp only[hn,q1,aG,B8,y1.look h3]
  |cells _=>cases q
  |tok=>cases q
  |map _ _=>cases q
  |iter _ _ _ _=>cases q
  |fix _=>cases q
  exact wJ
omit hr in
theorem abK(mk:aI)(fr:Fr)(l:List ResultVar):RO mk (λs=>jm Q mk fr s l):=by
 intro s s2 b h hl
 induction l generalizing b with
 |nil=>exact h
 |cons x l y=>
  simp only[jm,ak]at h⊢;obtain⟨v,q,vs,p,h⟩:=h;refine⟨v,?_,vs,y vs p,h⟩;cases x with
  |tmp t=>exact q
  |cell a t=>exact ad4 t _ fr.loc s s2 v q hl
theorem awd(f:FuncId)(args:az)(mk:aI):cC mk (λch s=>je (Q.at ch) (r ch) f args mk s):=by
 unfold je;show cC mk (λch s=>match Q.spec f with
  |some sp=>(sp args).bind λv=>X (v,s)
  |none=>match Q.specH f with
   |some sp=>(ee (s.get mk) (sp args)).bind λv=>X (v,s)
   |none=>match(Q.specW f).bind λsp=>sp args with
   |some p=>xY (Q.anew f) mk s p
   |none=>(Q.P.funcs[f]?).bind λfn=>fn.body.bind λc=>
    ((r ch).code f c mk ⟨qO 0 args,bif aP (J args) fn.ntmps then fn.ntmps else J args,[]⟩ s).bind (qy (Q.at ch) fn mk))
 cases Q.spec f with
 |some sp=>exact cC.pureOpt _
 |none=>
  cases Q.specH f with
  |some sp=>exact awt mk (sp args)
  |none=>
  cases (Q.specW f).bind λsp=>sp args with
  |some p=>
   cases p with
   |none=>exact cC.ret _
   |some p=>
   refine cC.of_any (f:=λs=>(s.get mk p.1).bind (Am (Q.anew f) mk s p)) ?_;intro s a s' h;simp only[ak]at h;obtain⟨o,h1,h⟩:=h;cases o<;>simp only[Am,ak,reduceCtorEq]at h;obtain⟨v,C,h⟩:=h;unfold Ba at h;split at h;simp only[aQ,bk]at h;obtain⟨rfl,rfl⟩:=h;exact .inr (.inr (.inl ⟨p.1,_,_,h1,rfl,λs2 y=>by simp only[y.look h1,aG,Am,Ey y _ _ C,Ba]⟩));obtain⟨E,h⟩:=aZ h;simp only[aQ,bk]at h;obtain⟨rfl,rfl⟩:=h;exact .inr (.inr (.inr ⟨p.1,_,Z,_,h1,rfl,λs2 y=>by simp only[y.look h1,aG,Am,Ey y _ _ C,Ba,E,cT,y.aL]⟩));cases h
  |none=>
  refine cC.opt _ λfn _=>cC.opt _ λc _=>?_;refine bD.then1 (k:=λx fr ch s=>qy (Q.at ch) fn mk (x,fr,s)) (hr.code f c mk _) λx fr=>?_;have fin:cC mk (λ(ch:dd) s=>(jm (Q.at ch) mk fr s fn.results.toList).bind λvs=>X (nh vs,s)):=by
   intro ch s v s' h;simp only[ak]at h;obtain⟨vs,q,h⟩:=h;simp only[aQ,bk]at h;obtain⟨rfl,rfl⟩:=h;refine⟨.refl mk _,λz s2 _ y=>⟨s2,?_,.refl y⟩⟩
   have:=abK (Q:=Q.at ch) mk fr fn.results.toList s s2 vs q (λn o U=>y.look U);have:jm (Q.at z) mk fr s2 fn.results.toList=X vs:=by
    rw[<-this];clear q this;generalize fn.results.toList=l
    induction l with
    |nil=>rfl
    |cons x l T=>simp only[jm,T];cases x<;>rfl
   simp[this]
  cases x with
  |normal=>exact fin
  |ret=>exact fin
  |exit i=>exact cC.none
end
def lO(Q:ay):∀n:Nat,MT (λch=>bX (Q.at ch) n)
 |0=>⟨λ_ _ _ _ _=>cC.none,λ_ _ _ _ _ _ _ _=>cC.none,λ_ _ _ _=>wJ,λ_ _ _=>cC.none⟩
 |n+1=>⟨λf all mk l fr=>awr (lO Q n) f all mk l fr,λf all bs mk rs i l fr=>awh (lO Q n) f all bs mk rs i l fr,
  λf c mk fr=>awf (lO Q n) f c mk fr,λf args mk=>awd (lO Q n) f args mk⟩
def gj{α:Type}(x:(dd)->St->Option (α×St)):Prop:=
 ∀ch s a s',x ch s=X (a,s')->∀p,(∀i,i<s'.ci->p i=ch i)->x p s=X (a,s')
def fK{α β:Type}(x:(dd)->St->Option (α×β×St)):Prop:=
 ∀ch s a b s',x ch s=X (a,b,s')->∀p,(∀i,i<s'.ci->p i=ch i)->x p s=X (a,b,s')
def gj.const(f:St->Option (α×St)):gj (λ_ s=>f s):=λ_ _ _ _ h _ _=>h
def fK.const(f:St->Option (α×β×St)):fK (λ_ s=>f s):=λ_ _ _ _ _ h _ _=>h
section
variable{mk:aI}{α β γ δ:Type}
def gj.opt(x:Option β){k:β->(dd)->St->Option (α×St)}(p:∀b,x=X b->gj (k b)):gj (λch s=>x.bind λb=>k b ch s):=by
 rcases x with _|b
 intro ch s v s' h;cases h;exact p b rfl
def fK.opt(x:Option β){k:β->(dd)->St->Option (α×γ×St)}(p:∀b,x=X b->fK (k b)):fK (λch s=>x.bind λb=>k b ch s):=by
 rcases x with _|b
 intro ch s v l s' h;cases h;exact p b rfl
def gj.then3{x:(dd)->St->Option (α×St)}{k:α->(dd)->St->Option (β×γ×St)}(z:gj x)(C:∀a,fK (k a))(E:∀a,bD mk (k a)):fK (λch s=>(x ch s).bind λr=>k r.1 ch r.2):=by
 intro ch s v l s' h p q;simp only[ak]at h⊢;obtain⟨⟨a,s1⟩,h1,y⟩:=h;exact⟨(a,s1),z ch s a s1 h1 p (λi hi=>q i (fP hi ((E a ch s1 v l s' y).1.ci))),C a ch s1 v l s' y p q⟩
def fK.then1{x:(dd)->St->Option (α×β×St)}{k:α->β->(dd)->St->Option (γ×St)}(z:fK x)(C:∀a b,gj (k a b))(E:∀a b,cC mk (k a b)):gj (λch s=>(x ch s).bind λr=>k r.1 r.2.1 ch r.2.2):=by
 intro ch s v s' h p q;simp only[ak]at h⊢;obtain⟨⟨a,b,s1⟩,h1,y⟩:=h;exact⟨(a,b,s1),z ch s a b s1 h1 p (λi hi=>q i (fP hi ((E a b ch s1 v s' y).1.ci))),C a b ch s1 v s' y p q⟩
def fK.then3{x:(dd)->St->Option (α×β×St)}{k:α->β->(dd)->St->Option (γ×δ×St)}(z:fK x)(C:∀a b,fK (k a b))(E:∀a b,bD mk (k a b)):fK (λch s=>(x ch s).bind λr=>k r.1 r.2.1 ch r.2.2):=by
 intro ch s v l s' h p q;simp only[ak]at h⊢;obtain⟨⟨a,b,s1⟩,h1,y⟩:=h;exact⟨(a,b,s1),z ch s a b s1 h1 p (λi hi=>q i (fP hi ((E a b ch s1 v l s' y).1.ci))),C a b ch s1 v l s' y p q⟩
end
theorem ai2(mk:aI)(kmax:dd)(it:aa)(p:Bool):gj (λch s=>oM mk ch kmax it p s):=by
 intro ch s u s' h a0 hc;obtain⟨_,e⟩:=abI (mk:=mk) kmax it p ch s u s' h;simp only[oM]at h⊢;split at h;rename_i n;simp only[ak]at h⊢;obtain⟨ob,T,h⟩:=h;refine⟨ob,T,?_⟩;split at h;exact h;rename_i m C y q;cases p;simp only[cF,ak]at h⊢;obtain⟨E,z,h⟩:=h;refine⟨E,z,?_⟩;split at h;rename_i Y V;replace h:=fY h;rcases h with⟨_,h⟩|⟨U,h⟩
 cases h;simp only[U,cF];generalize lW y Y=UL at h⊢;unfold tY at h⊢;split at h<;>grind;cases h;cases h;cases h;cases h
variable{P:Program}
theorem aiY(mk:aI)(kmax:dd)(hint:vx)(dst:ir)(op:Op)(fr:Fr):fK (λch s=>lF P mk ch kmax hint dst op fr s):=by
 cases op<;>simp only[lF]<;>first
  |exact fK.const _
  |skip
 rename_i z p;refine fK.opt _ λx _=>?_;intro ch s v l s' h q C;simp only[gu,ak]at h⊢;obtain⟨⟨y,s1⟩,h1,h⟩:=h;refine⟨(y,s1),ai2 mk kmax x p ch s y s1 h1 q ?_,h⟩
 grind
structure TL (r:(dd)->oe):Prop where
 ops:∀f all mk l fr,gj (λch s=>(r ch).ops f all mk l fr s)
 draw:∀f all bs mk rs i l fr,gj (λch s=>(r ch).draw f all bs mk rs i l fr s)
 code:∀f c mk fr,fK (λch s=>(r ch).code f c mk fr s)
 call:∀f args mk,gj (λch s=>(r ch).call f args mk s)
section
variable{Q:ay}{r:(dd)->oe}(hl:MT r)(hr:TL r)
include hl hr
theorem ai4(n:Nat)(args:az)(mk:aI):gj (λch s=>mQ (r ch) n args mk s):=by
 intro ch s v s' h y U;simp only[mQ,ak,aQ,bk]at h⊢;obtain⟨o,h1,⟨u,o',Y⟩,p,rfl,rfl⟩:=h;refine⟨o,h1,(u,o',Y),?_,rfl,rfl⟩;have U:∀i,i<Y.ci->y i=ch i:=U;unfold Ct at p⊢;split at p
 ·obtain⟨hb,p⟩:=aZ p
  simp only[hb,cT,ak]at p⊢;obtain⟨z,h3,⟨x,fr,T⟩,h4,V⟩:=p;refine⟨z,h3,(x,fr,T),?_,?_⟩
  all_goals cases x with
   |exit i=>cases V
   |ret=>cases V
   |normal=>
    simp only[AG,ak]at V⊢;obtain⟨⟨C,q,E⟩,h6,h7⟩:=V;have e5:E=Y:=by cases C<;>(grind [Cs])
    subst e5;have g2:=(hl.code _ _ mk _ ch T C q E h6).1
    first
     |exact hr.code _ _ mk _ ch _ _ fr T h4 y (λi hi=>U i (fP hi g2.ci))
     |exact⟨(C,q,E),hr.code _ _ mk _ ch T C q E h6 y U,h7⟩
 cases p
theorem FH(f:FuncId)(o:Oper)(mk:aI)(fr:Fr):fK (λch s=>fC (Q.at ch) (r ch) f o mk fr s):=by
 have _:=hl;unfold fC;split
 ·split
  exact λch s a b s' h p _=>h
  ·rename_i c _ _ _
   cases oK fr.env c
   case' true=>
    unfold sK;exact fK.opt _ λg _=>gj.then3 (mk:=mk) (k:=λv _ s=>X (v,fr.loc,s)) (ai4 hl hr g.1 g.2 mk) (λv=>fK.const _) λv=>bD.ret v fr.loc
   unfold pk;exact fK.opt _ λg _=>gj.then3 (mk:=mk) (k:=λv _ s=>X (v,fr.loc,s)) (hr.call g.1 g.2 mk) (λv=>fK.const _) λv=>bD.ret v fr.loc
 exact aiY _ _ _ _ _ _
theorem ai3(f:FuncId)(all:nt)(mk:aI)(l:CE)(fr:Fr):gj (λch s=>mG (Q.at ch) (r ch) f all mk l fr s):=by
 unfold mG;split;exact gj.const _;rename_i o p;cases fw all fr.env o;exact gj.opt _ λfr' _=>hr.ops f all mk p fr';exact fK.then1 (mk:=mk) (k:=λv l ch s=>(d8 fr o.dst v l).bind λfr'=>(r ch).ops f all mk p fr' s) (FH hl hr f o mk fr) (λv l=>gj.opt _ λfr' _=>hr.ops f all mk p fr') λv l=>cC.opt _ λfr' _=>hl.ops f all mk p fr'
theorem ai1(f:FuncId)(all:nt)(bs:be)(mk:aI)(rs:i_)(i:Nat)(l:CE)(fr:Fr):gj (λch s=>mr (Q.at ch) (r ch) f all bs mk rs i l fr s):=by
 unfold mr;split;exact gj.const _;rename_i o y;cases fw all fr.env o;exact gj.opt _ λfr' _=>hr.draw f all bs.tail mk rs (i+1) y fr';intro ch s v s' h q E;simp only[cT,ak]at h⊢;obtain⟨⟨u,l,s1⟩,h1,h⟩:=h;replace h:=aZ h;obtain⟨p,h⟩:=h;simp only[ak]at h;obtain⟨fr',z,h⟩:=h;have U:=(hl.draw _ _ _ _ _ _ _ _ ch (s.GE s1) v s' h).1;refine⟨(u,l,s1),FH (Q:=Q) hl hr f o _ fr ch _ u l s1 h1 q (λj T=>E j (fP T U.ci)),?_⟩;have C:(xg (bs.headD 0) (bK ((Q.at q).hint f) o.dst fr.env o.op) (s1.gE.blt s.aL||isStore o.op) rs&&s.ci.beq s1.ci)=O:=p;simp only[C,cT,z,aG];exact hr.draw _ _ _ _ _ _ _ _ ch (s.GE s1) v s' h q E
theorem ai0(f:FuncId)(c:Code)(mk:aI)(fr:Fr):fK (λch s=>zC (Q.at ch) (r ch) f c mk fr s):=by
 have q:∀(x:Ex)(fr:Fr)(b:Code),fK (λch s=>pP (r ch) f b mk (x,fr,s))/\bD mk (λch s=>pP (r ch) f b mk (x,fr,s)):=by
  intro x fr b;cases x with
  |normal=>exact⟨hr.code f b mk fr,hl.code f b mk fr⟩
  |exit i=>exact⟨fK.const _,bD.ret _ _⟩
  |ret=>exact⟨fK.const _,bD.ret _ _⟩
 cases c<;>simp only[zC]<;>first
  |exact fK.const _
  |exact fK.then3 (mk:=mk) (hr.code f _ mk fr) (λx fr=>(q x fr _).1) (λx fr=>(q x fr _).2)
  |exact hr.code f _ mk fr
  |skip
 rename_i id ops C;unfold LJ;cases C;exact gj.then3 (mk:=mk) (k:=λfr _ s=>X (Ex.normal,fr,s)) (hr.ops f ops mk ops.toList fr) (λ_=>fK.const _) λ_=>bD.ret _ _;simp only[cT];cases nD ops 0 ops.toList (Region.before ops).toList;exact fK.const _;exact gj.then3 (mk:=mk) (k:=λfr _ s=>X (Ex.normal,fr,s)) (hr.draw f ops _ mk [] 0 ops.toList fr) (λ_=>fK.const _) λ_=>bD.ret _ _;rename_i x a b;refine fK.opt _ λv _=>?_;unfold Dd;split;exact hr.code f _ mk fr;exact hr.code f _ mk fr;exact fK.const _;rename_i id b;intro ch s x fr' s' h y U;simp only[ak]at h⊢;obtain⟨⟨E,fr1,s1⟩,h1,h⟩:=h;refine⟨(E,fr1,s1),hr.code f b mk fr ch s E fr1 s1 h1 y ?_,h⟩;have:s1=s':=by
  simp only[aQ]at h;cases E with
  |normal=>grind [qt]
  |ret=>grind [qt]
  |exit i=>
   grind [qt]
 rw[this];exact U;rename_i g ps a b;refine fK.opt _ λv _=>?_;unfold x8;split;rename_i h first z _
 show fK (λch s=>bif tH Q.P h&&(fr.env.all jC&&(dM a&&dM b))then _ else Z);cases tH Q.P h&&(fr.env.all jC&&(dM a&&dM b));exact fK.const _;simp only[cT];intro ch s x fr' s' h' y U;simp only[ak]at h'⊢;obtain⟨⟨v,s1⟩,h1,Y⟩:=h';refine⟨(v,s1),?_,Y⟩;have:s1.ci=s'.ci:=by
  simp only[B8,ak]at Y;obtain⟨o,_,V⟩:=Y;cases o with
  |loop f' a0 T a1 a' b' p=>
   simp only[aQ,bk]at V;rw[<-V.2.2];rfl
  |_=>cases V
 exact hr.call h _ mk ch _ v s1 h1 y (by rw[this];exact U);exact fK.const _
omit hl in
theorem aiZ(f:FuncId)(args:az)(mk:aI):gj (λch s=>je (Q.at ch) (r ch) f args mk s):=by
 unfold je;show gj (λch s=>match Q.spec f with
  |some sp=>(sp args).bind λv=>X (v,s)
  |none=>match Q.specH f with
   |some sp=>(ee (s.get mk) (sp args)).bind λv=>X (v,s)
   |none=>match(Q.specW f).bind λsp=>sp args with
   |some p=>xY (Q.anew f) mk s p
   |none=>(Q.P.funcs[f]?).bind λfn=>fn.body.bind λc=>
    ((r ch).code f c mk ⟨qO 0 args,bif aP (J args) fn.ntmps then fn.ntmps else J args,[]⟩ s).bind (qy (Q.at ch) fn mk))
 cases Q.spec f with
 |some sp=>exact gj.const _
 |none=>
  cases Q.specH f with
  |some sp=>exact gj.const _
  |none=>
  cases (Q.specW f).bind λsp=>sp args with
  |some p=>exact gj.const _
  |none=>
  refine gj.opt _ λfn _=>gj.opt _ λc _=>?_;intro ch s v s' h q E;simp only[ak]at h⊢;obtain⟨⟨y,fr1,s1⟩,h1,h⟩:=h;have z:∀l,jm (Q.at q) mk fr1 s1 l=jm (Q.at ch) mk fr1 s1 l:=by
   intro l
   induction l with
   |nil=>rfl
   |cons x l C=>simp only[jm,C];cases x<;>rfl
  have:s1=s'/\qy (Q.at q) fn mk (y,fr1,s1)=X (v,s'):=by
   cases y with
   |exit i=>cases h
   |normal=>
    grind [qy,ak]
   |ret=>
    grind [qy,ak]
  exact⟨(y,fr1,s1),hr.code f c mk _ ch s y fr1 s1 h1 q (by rw[this.1];exact E),this.2⟩
end
def se(Q:ay):∀n:Nat,TL (λch=>bX (Q.at ch) n)
 |0=>⟨λ_ _ _ _ _=>gj.const _,λ_ _ _ _ _ _ _ _=>gj.const _,λ_ _ _ _=>fK.const _,λ_ _ _=>gj.const _⟩
 |n+1=>⟨λf all mk l fr=>ai3 (lO Q n) (se Q n) f all mk l fr,λf all bs mk rs i l fr=>ai1 (lO Q n) (se Q n) f all bs mk rs i l fr,
  λf c mk fr=>ai0 (lO Q n) (se Q n) f c mk fr,λf args mk=>aiZ (se Q n) f args mk⟩
variable{fr':Fr}{B':dd}{dst:ir}{x:Value}{w':World}{h:aB aH}
section
variable{P:Program}{mk:aI}{ch:dd}{kmax:dd}{hint:vx}{G:Gh}{s s':St}{B:dd}{fr:Fr}{a:Act}{w:World}{o:Oper}{v:aa}{loc':Loc}
theorem ag0(wr:WR G s.heap w)(fx:cu G s.heap B fr a.tmps w)(C:lF P mk ch kmax hint o.dst o.op fr s=X (v,loc',s'))(E:∀n,s.aL<=n->n<s'.aL->G.at_ n=Z)(U:∀x b T,o.op=.next x b->evc fr.env x=X T->2<=ka mk T s->ch s.ci % ka mk T s=(w.tape w.drawn (.mapNext (ka mk T s))) % ka mk T s):
 fR P G s.heap w B fr.loc s.aL s'.aL a o v loc' s'.heap:=by
 cases hop:o.op<;>rw[hop]at C<;>simp only[lF]at C
 case move x=>replace C:=kS C;grind [ay9]
 case assign x=>replace C:=kS C;grind [ayP]
 case pick c p q=>replace C:=kS C;grind [azc]
 case alloc e=>exact ayO hop wr fx C E
 case box e x=>exact ayR hop wr fx C E
 case build t parts=>replace C:=kS C;grind [ayS]
 case buildSlice t len parts=>exact ayT hop wr fx C E
 case load t x=>exact ay3 hop wr fx C
 case store t x z=>exact azf hop wr fx C
 case nilCheck x=>
  simp only[qP,ak]at C;obtain⟨u,V,C⟩:=C;replace C:=kS C
  grind [azb]
 case binOp op t x y yt=>exact ayQ hop wr fx C
 case unOp op t x=>exact azg hop wr fx C
 case convert src dst x=>exact ayV hop wr fx C
 case makeFunc fn first captured=>replace C:=kS C;grind [ay5]
 case makeMap t r=>exact ay6 hop wr fx C E
 case makeSlice t l c=>exact ay7 hop wr fx C E
 case slice t x lo hi mx=>exact aze hop wr fx C
 case fieldAddr t x f=>exact ay0 hop wr fx C
 case field t x f=>exact ayZ hop wr fx C
 case indexAddr t x i=>exact ay2 hop wr fx C
 case index t x i=>exact ay1 hop wr fx C
 case lookup t x i ok=>exact ay4 hop wr fx C
 case mapUpdate t m k x=>exact ac9 (.inl hop) wr fx C
 case insert t m k x=>exact ac9 (.inr hop) wr fx C
 case mapEntry t m k=>exact ay8 hop wr fx C
 case entryStore t m st x=>exact ayX hop wr fx C
 case range t x=>exact azd hop wr fx C E
 case next it isString=>
  grind [ak,aza]
 case entry it=>exact ayW hop wr fx C
 case extract x i=>exact ayY hop wr fx C
 all_goals grind [ayU]
theorem getD_set(tmps:il)(d t:Nat)(x:Value)(p:d<tmps.size):(tmps.setIfInBounds d x).getD t undef=if t=d then x else tmps.getD t undef:=by
 simp only[uE,MD]
 grind
theorem cu.put{G G':Gh}{h':aB aH}{B:dd}{fr:Fr}{a:Act}{w:World}{v:aa}{loc':Loc}(fx:cu G h B fr a.tmps w)(q:d8 fr dst v loc'=X fr')(hl:ql G' h' B' loc' w')(C:LV G' loc' B' v x)(p:∀u y,LV G fr.loc B u y->LV G' loc' B' u y):cu G' h' B' fr' (a.put dst x).tmps w':=by
 unfold d8 at q;rcases dst with _|d
 cases q;exact⟨fx.size,λt=>p _ _ (fx.env t),hl⟩;replace q:=aZ q;obtain⟨z,q⟩:=q;cases q;have z:=pj z;refine⟨by simp[Act.put,fx.size],λt=>?_,hl⟩;show LV G' loc' B' (ac (fr.env.set d (X v)) t) ((a.tmps.setIfInBounds d x).getD t undef);rw[getD_set _ _ _ _ (by rw[fx.size];exact z)];unfold ac;rw[aB.get_set];by_cases e:t=d;rw[iP e,iP e];exact C;rw[iN e,iN e];exact p _ _ (fx.env t)
theorem cu.wanted{G:Gh}{B:dd}{fr:Fr}{a:Act}{w:World}(fx:cu G h B fr a.tmps w)(ops:nt)(o:Oper):Region.wanted o (yielded ops a.tmps)=fw ops fr.env o:=by
 unfold Region.wanted fw;rcases hg:o.guard with _|g
 rfl;obtain⟨j,q⟩:=g;simp only[yielded];rcases hd:(ops[j]?).bind (·.dst)with _|d
 simp;simp only[aG];have hl:=fx.env d;have p:∀b,a.tmps[d]?=X (.bool b)↔a.tmps.getD d undef=.bool b:=by
  intro b;simp only[uE];rcases hx:a.tmps[d]? with _|x
  simp[undef];simp
 cases hn:ac fr.env d with
 |bool b=>
  rw[hn]at hl;have hl:VR G (.bool b) (a.tmps.getD d undef):=hl;have:a.tmps[d]?=X (.bool b):=by
   rw[p];generalize a.tmps.getD d undef=x at hl;cases hl;rfl
  simp[this]
 |Gt t g y=>
  rw[hn]at hl;obtain⟨_,⟨C,z⟩,_⟩:=hl
  grind
 |_=>
  rw[hn]at hl;have hl:VR G _ (a.tmps.getD d undef):=hl;rcases hx:a.tmps[d]? with _|x
  simp;have e:a.tmps.getD d undef=x:=by simp[uE,hx]
  rw[e]at hl;cases hl<;>simp
end
variable{j:Nat}{D:tB}
section
variable{α:Type}
open Classical in
noncomputable def mix(X_:Nat->α)(D:tB):Nat->α
 |0=>X_ 0
 |k+1=>if D k/\X_ (k+1)≠X_ k then X_ (k+1)else mix X_ D k
theorem RD{X_:Nat->α}{D:tB}{j:Nat}:∀{n:Nat},j<=n->(∀k,j<=k->k<n->D k->X_ (k+1)=X_ k)->mix X_ D n=mix X_ D j
 |0,h,_=>by grind
 |n+1,h,hk=>by
  by_cases e:j=n+1;rw[e];rw[mix,iN (λx=>x.2 (hk n w_ w_ x.1))];exact RD w_ λk h1 p=>hk k h1 w_
theorem RF{X_:Nat->α}{D:tB}:∀{j:Nat},(∀i,i<j->X_ (i+1)≠X_ i->D i)->mix X_ D j=X_ j
 |0,_=>rfl
 |j+1,h=>by
  rw[mix];split;rfl;rename_i p;rw[RF λi hi=>h i w_]
  grind
def ab8{X_:Nat->α}(p:j<=n)(q:∀i,i<j->X_ (i+1)≠X_ i->D i)(y:∀k,j<=k->k<n->D k->X_ (k+1)=X_ k):mix X_ D n=X_ j:=
 (RD p y).trans (RF q)
theorem He{X_:Nat->α}{D p:tB}:∀{n:Nat},(∀k,k<n->X_ (k+1)≠X_ k->(D k↔p k))->mix X_ D n=mix X_ p n
 |0,_=>rfl
 |n+1,h=>by
  rw[mix,mix,He λk q=>h k w_]
  grind
def D1{X_:Nat->α}(h:X_ (j+1)=X_ j):mix X_ (λk=>D k\/k=j) n=mix X_ D n:=
 He λq _ p=>⟨λx=>x.elim id λe=>absurd (e▸h) p,.inl⟩
theorem aw4{X_:Nat->α}(C:j<n)(E:∀i,i<j->X_ (i+1)≠X_ i->D i)(y:∀k,j<k->k<n->D k->X_ (k+1)=X_ k):
 mix X_ (λk=>D k\/k=j) n=X_ (j+1):=
 ab8 (j:=j+1) w_ (λi hi p=>by
  grind) λk h1 z q=>y k w_ z (q.resolve_right w_)
theorem RE{X_:Nat->α}(h:∀k,k<n->D k):mix X_ D n=X_ n:=RF λi hi _=>h i hi
theorem RG{X_:Nat->α}(h:∀k,k<n->¬D k):mix X_ D n=X_ 0:=
 (RD (fT n) λk _ p q=>absurd q (h k p))
end
inductive o8 (ops:nt):Nat->Nat->Prop
 |one {j:Nat} {o:Oper} {e:Edge}:ops[j]?=some o->e∈o.after->Region.binds .any e=true->o8 ops e.on j
 |more {i j:Nat} {o:Oper} {e:Edge}:ops[j]?=some o->e∈o.after->Region.binds .any e=true->o8 ops i e.on->o8 ops i j
variable{ops:nt}{i:Nat}
theorem o8.closed(C:∀j o,D j->ops[j]?=X o->∀e∈o.after,Region.binds .any e=O->D e.on)(h:o8 ops i j):D j->D i:=by
 induction h with
 |one p q y=>exact λz=>C _ _ z p _ q y
 |more p q y _ E=>grind
def o8.ready(E:∀j o,D j->ops[j]?=X o->∀e∈o.after,Region.binds .any e=O->D e.on)(z:∀o,ops[j]?=X o->∀e∈o.after,Region.binds .any e=O->D e.on)(h:o8 ops i j):D i:=by
 cases h with
 |one p q y=>exact z _ p _ q y
 |more p q y C=>exact C.closed E (z _ p _ q y)
theorem aEz{s m k:Nat}(h:(s ||| 2 ^ k ||| m).testBit i=O):s.testBit i=O\/i=k\/m.testBit i=O:=by
 grind
variable{b:Nat}
theorem ahD(hb:(Region.before ops)[j]?=X b)(hi:b.testBit i=O):o8 ops i j:=by
 have y:∀(p:a_)(j:Nat)(o:Oper),ops[j]?=X o->(∀k b,p[k]?=X b->∀i,b.testBit i=O->o8 ops i k)->
  ∀(l:List Edge)(s:Nat),(∀e∈l,e∈o.after)->(∀i,s.testBit i=O->o8 ops i j)->
  ∀i,(l.foldl (λs e=>if Region.binds .any e then s ||| 2 ^ e.on ||| p.getD e.on 0 else s) s).testBit i=O->o8 ops i j:=by
  intro p j o ho q l
  induction l with
  |nil=>intro s _ E i hi;exact E i hi
  |cons e l U=>
   intro s hl E i hi;refine U _ (λe Y=>hl e (by simp[Y])) ?_ i hi;intro i hi;simp only at hi;split at hi;rename_i C;rcases aEz hi with h|h|h
   exact E i h;subst h;exact .one ho (hl e (by simp)) C;refine .more ho (hl e (by simp)) C ?_;rcases ha:p[e.on]? with _|b
   grind
   simp_all
   exact E i hi
 have T:∀(l:CE)(p:a_),(∀k o,l[k]?=X o->ops[p.size+k]?=X o)->(∀k b,p[k]?=X b->∀i,b.testBit i=O->o8 ops i k)->
  ∀k b,(l.foldl (λp o=>p.push (o.after.foldl (λs e=>if Region.binds .any e then s ||| 2 ^ e.on ||| p.getD e.on 0 else s) 0)) p)[k]?=X b->
   ∀i,b.testBit i=O->o8 ops i k:=by
  intro l
  induction l with
  |nil=>intro p _ q;exact q
  |cons o l U=>
   intro p hl q;refine U _ (λk o' z=>?_) ?_
   have:=hl (k+1) o' (by simpa using z)
   grind
   intro k b z i hi;rw[Array.getElem?_push]at z;split at z;rename_i V;subst V;cases z;rw[<-Array.foldl_toList]at hi;exact y p p.size o (by simpa using hl 0 o (by simp)) q o.after.toList 0 (λe Y=>by simpa using Y) (λi hi=>by simp at hi) i hi;exact q k b z i hi
 unfold Region.before at hb;rw[<-Array.foldl_toList]at hb
 grind
variable{c:Call}{f:FuncId}{parts:b_}{d:Nat}{ch kmax:dd}{o:Oper}{hint:vx}{t:TypeId}{Q:ay}
section
variable{e e2:ax}
theorem Oy{x:Operand}(h:ev e x=ev e2 x):evc e x=evc e2 x:=by simp[evc,h]
theorem Dj:∀{l:M_},(∀x∈l,ev e x=ev e2 x)->evcs e l=evcs e2 l
 |[],_=>rfl
 |x::l,h=>by
  simp only[evcs];rw[Oy (h x (by simp)),Dj λy p=>h y (by simp[p])]
def OE(place:Nat->L_):∀{l:b_}(cs:az),(∀p∈l,ev e p.2=ev e2 p.2)->dL place e cs l=dL place e2 cs l
 |[],_,_=>rfl
 |(i,x)::l,cs,h=>by
  simp only[dL];rw[Oy (h (i,x) (by simp))];have q:=λcs=>OE place cs λp y=>h p (List.mem_cons_of_mem _ y);simp only[q]
def RP{x:sq}(h:∀y,x=X y->ev e y=ev e2 y):dI e x d=dI e2 x d:=by
 rcases x with _|y
 rfl;simp[dI,h y rfl]
theorem aio(h:∀p∈parts,ev e p.2=ev e2 p.2):tg P t parts e=tg P t parts e2:=by
 simp only[tg,OE _ _ h]
theorem aip{mu:Bool}{s:St}(h:∀p∈parts,ev e p.2=ev e2 p.2):
 th P t n parts mu e s=th P t n parts mu e2 s:=by
 simp only[th,OE _ _ h]
theorem aC5{x:aa}{lo hi p:sq}{s:St}(h1:∀y,lo=X y->ev e y=ev e2 y)(z:∀y,hi=X y->ev e y=ev e2 y)(q:∀y,p=X y->ev e y=ev e2 y):eC P mk t x lo hi p e s=eC P mk t x lo hi p e2 s:=by
 simp only[eC,RP h1,RP z,RP q]
theorem UA{op:Op}{n2:Nat}{loc:Loc}{s:St}(h:∀x∈op.operands,ev e x=ev e2 x):
 lF P mk ch kmax hint dst op ⟨e,n,loc⟩ s=lF P mk ch kmax hint dst op ⟨e2,n2,loc⟩ s:=by
 cases op<;>simp only[Op.operands]at h<;>simp only[lF,Lb,Ld,Eg,Eh,Lc,Hu,Lh,Li,Ef,Lg,Lj,Lf,vI,qP,mE]
 case build t ps=>grind [aio]
 case buildSlice t k ps=>grind [aip]
 case makeFunc fn a b=>simp only[DV,Dj (l:=a.toList) λx p=>h x (by simp_all),Dj (l:=b.toList) λx p=>h x (by simp_all)]
 case makeMap t r=>
  rcases r with _|x
  simp[jA];simp[jA,h x (by simp)]
 case slice t x lo hi mx=>
  grind [Oy,aC5]
 case call c=>
  grind [Dj,Call.operands]
 all_goals grind [B3,evc]
theorem Vf(h:∀x∈c.operands,ev e x=ev e2 x):callee e c=callee e2 c:=by
 unfold callee;cases hc:c.callee with
 |builtin b=>rfl
 |invoke a b=>rfl
 |value f=>grind [Call.operands,Dj]
theorem X8(h:∀x∈c.operands,ev e x=ev e2 x):oK e c=oK e2 c:=by
 grind [oK,Call.operands]
theorem afy(h:∀x∈c.operands,ev e x=ev e2 x):yieldee e c=yieldee e2 c:=by
 unfold yieldee;cases hc:c.callee with
 |builtin b=>rfl
 |invoke a b=>rfl
 |value f=>grind [Call.operands,Dj]
def azo{r:oe}{n2:Nat}{loc:Loc}{s:St}(h:∀x∈o.op.operands,ev e x=ev e2 x):
 fC Q r f o mk ⟨e,n,loc⟩ s=fC Q r f o mk ⟨e2,n2,loc⟩ s:=by
 unfold fC;split;rename_i c p;rw[p]at h;cases hb:c.callee with
 |builtin b=>
  have:=UA (P:=Q.P) (mk:=mk) (ch:=Q.ch) (kmax:=Q.kmax) (hint:=Q.hint f) (dst:=o.dst) (op:=.call c) (n:=n) (n2:=n2) (loc:=loc) (s:=s) h;simpa only[lF]using this
 |value g=>simp only[pk,Vf h,sK,afy h,X8 h]
 |invoke a b=>simp only[pk,Vf h,sK,afy h,X8 h]
 exact UA h
end
theorem Hk(a b:Nat):bq a b=decide (a<b):=by
 show aP (a+1) b=_;rw[tX];rfl
def lz(l l2:Loc)(t:Nat):Prop:=l.gen t=l2.gen t/\∀g,l.get t g=l2.get t g
def lz.refl(l:Loc)(t:Nat):lz l l t:=⟨rfl,λ_=>rfl⟩
variable{l l2:Loc}
def lz.symm{t:Nat}(h:lz l l2 t):lz l2 l t:=⟨h.1.symm,λg=>(h.2 g).symm⟩
theorem lz.set_same(t g:Nat)(cs:az):lz (l.set t g cs) (l2.set t g cs) t:=by
 constructor<;>grind [Loc.gen_set,Loc.get_set]
variable{u:Nat}
theorem lz.set_other{t:Nat}(h:u≠t)(g:Nat)(cs:az):lz (l.set t g cs) l u:=by
 constructor<;>grind [Loc.gen_set,Loc.get_set]
def rM(c:Nat)(F:cz)(m:aI):aI:=
 match F with
 |.all=>m
 |.obj n=>(0,n)::(n+1,c)::m
 |_=>(0,c)::m
variable{c:Nat}{m:aI}{F:cz}
theorem ON{k:Nat}(h:dG (rM c F m) k=I):dG m k=I/\(F=.all\/F=.obj k\/c<=k):=by
 unfold rM at h
 grind [dG,tX,Hk]
theorem OO{k:Nat}(h:dG m k=O):dG (rM c F m) k=O:=by
 cases e:dG (rM c F m) k;rw[(ON e).1]at h;cases h;rfl
theorem FZ{s:St}{o:aH}(h:s.get m n=X o):s.get (rM c (.obj n) m) n=X o:=by
 grind [dG,rM,tX,Hk,St.get]
def bH(c:Nat)(F:cz)(y:Bool)(x:aI->Loc->gk):Prop:=
 ∀m loc v loc' s',x m loc=X (v,loc',s')->∀q,(∀t,F=.loc t->lz loc q t)->
  ∃p,x (rM c F m) q=X (v,p,s')/\(∀t,F=.loc t->lz loc' p t)/\(∀t,F≠.loc t->lz loc' loc t/\lz p q t)/\(y=I->loc'=loc)
variable{st:Bool}
theorem bH.plain{g:aI->ra}(z:∀t,F≠.loc t)(y:∀m r,g m=X r->g (rM c F m)=X r):bH c F st (λm l=>gu (g m) l):=by
 intro m loc v loc' s' h p _;simp only[gu,ak]at h;obtain⟨r,h1,h⟩:=h;simp only[aQ,bk]at h;obtain⟨rfl,rfl,rfl⟩:=h;exact⟨p,by simp[gu,y m r h1],λt q=>absurd q (z t),λt _=>⟨.refl _ _,.refl _ _⟩,λ_=>rfl⟩
def bH.value{g:aI->er}{s:St}(z:∀t,F≠.loc t)(y:∀m r,g m=X r->g (rM c F m)=X r):bH c F st (λm l=>fu (g m) l s):=by
 intro m loc v loc' s' h p _;obtain⟨h1,rfl,rfl⟩:=kS h;exact⟨p,by simp[fu,y m v h1],λt q=>absurd q (z t),λt _=>⟨.refl _ _,.refl _ _⟩,λ_=>rfl⟩
def bH.none:bH c F st (λ_ _=>.none):=by intro m loc v loc' s' h;cases h
def bH.bind(y:Option α){k:α->aI->Loc->gk}(p:∀a,y=X a->bH c F st (k a)):bH c F st (λm l=>y.bind λa=>k a m l):=by
 rcases y with _|a
 intro m loc v loc' s' h;cases h;exact p a rfl
theorem bH.gen{g:Loc->er}{s:St}(z:∀l l2 r,(∀t,F=.loc t->lz l l2 t)->g l=X r->g l2=X r):bH c F st (λ_ l=>fu (g l) l s):=by
 intro m loc v loc' s' h p q;obtain⟨h1,rfl,rfl⟩:=kS h;exact⟨p,by simp[fu,z loc' p v q h1],λt y=>q t y,λt _=>⟨.refl _ _,.refl _ _⟩,λ_=>rfl⟩
def bH.box{cs:az}{s:St}(C:st=O):bH c (FY hint dst) st (λ_ l=>rG (oG hint dst) dst cs l s):=by
 intro m loc v loc' s' h p y;unfold rG at h⊢;rcases dst with _|t
 simp only[oG]at h⊢;simp only[show aA 0 1=I from rfl,cF,aQ,bk]at h⊢;obtain⟨rfl,rfl,rfl⟩:=h;exact⟨p,by simp,λt z=>by simp[FY]at z,λt _=>⟨.refl _ _,.refl _ _⟩,λ_=>rfl⟩;simp only[oG,FY]at h y⊢;cases e:aA (hint t) 1;simp only[e,cF,aQ,bk]at h y⊢;obtain⟨rfl,rfl,rfl⟩:=h;exact⟨p,⟨rfl,rfl,rfl⟩,λt z=>(by cases z),λt _=>⟨.refl _ _,.refl _ _⟩,λ_=>rfl⟩;simp only[e,cT,aG,aQ,bk]at h y⊢;obtain⟨rfl,rfl,rfl⟩:=h;have y:=y t rfl;refine⟨p.set t (loc.gen t+1) cs,by simp[y.1],?_,?_,by simp[C]⟩;intro u q;cases q;exact .set_same _ _ _;intro u q;have q:u≠t:=λe=>q (by rw[e]);exact⟨.set_other q _ _,.set_other q _ _⟩
section
variable{P:Program}{ch:dd}{kmax:dd}{hint:vx}{dst:ir}{e:ax}{n c:Nat}{s:St}
def amT(t:TypeId)(a:Operand):bH c (xh e a) I (λm l=>Eg P m t a ⟨e,n,l⟩ s):=by
 unfold Eg xh;refine bH.bind (ev e a) λu p=>?_;simp only[p];cases u<;>try (exact bH.none)
 case ptr k off=>
  simp_all [bH.value,lh,ak,FZ]
 case Gt k g off=>
  refine bH.gen (g:=λl=>lh P [] t (.Gt k g off) l s) λl l2 r hl hr=>?_;simp only[lh]at hr⊢;rw[<-(hl k rfl).2];exact hr
 simp_all [bH.value,lh]
def amW(t:TypeId)(a x:Operand):bH c (xh e a) O (λm l=>Eh P m t a x ⟨e,n,l⟩ s):=by
 unfold Eh xh;refine bH.bind (ev e a) λu q=>bH.bind (evc e x) λv _=>?_;simp only[q,ur];cases hs:cS P t with
 |none=>exact bH.none
 |some k=>
  simp only[aG];cases hc:aA (J v.cells) k&&bq 0 k with
  |false=>exact bH.none
  |true=>
   simp only[cT];cases u<;>try (exact bH.none)
   case ptr j off=>
    intro m loc E loc' s' h p _;simp only[ak]at h⊢;obtain⟨r,⟨ob,C,h1⟩,z⟩:=h;cases ob<;>simp only[ak]at h1<;>try (cases h1;done)
    rename_i cs;obtain⟨cs',y,h1⟩:=h1;cases h1;simp only[aQ,bk]at z;obtain⟨rfl,rfl,rfl⟩:=z;exact⟨p,⟨(p,_),⟨_,FZ C,by simp only[y,aG];rfl⟩,rfl⟩,λt U=>(by cases U),λt _=>⟨.refl _ _,.refl _ _⟩,λ_=>rfl⟩
   case Gt j g off=>
    intro m loc E loc' s' h p hl;simp only[ak]at h⊢;obtain⟨r,⟨cs,y,cs',T,h1⟩,z⟩:=h;cases h1;simp only[aQ,bk]at z;obtain⟨rfl,rfl,rfl⟩:=z;refine⟨p.set j g cs',⟨(_,s),⟨cs,by rw[<-(hl j rfl).2];exact y,cs',T,rfl⟩,rfl⟩,?_,?_,by simp⟩;intro u q;cases q;exact .set_same _ _ _;intro u q;have q:u≠j:=λe=>q (by rw[e]);exact⟨.set_other q _ _,.set_other q _ _⟩
def amU(x:Operand):bH c (qB e x) I (λ_ l=>qP x (z8 l) ⟨e,n,l⟩ s):=by
 unfold qP qB;refine bH.bind (ev e x) λu p=>?_;simp only[p];refine bH.gen (g:=λl=>z8 l u) λl l2 r hl hr=>?_;cases u
 case Gt=>
  simp only[z8]at hr⊢;rw[<-(hl _ rfl).1];exact hr
 case func fn _ _=>cases fn<;>exact hr
 all_goals exact hr
def amR(t:TypeId)(x:Operand)(f:Nat):bH c (qB e x) I (λ_ l=>qP x (λx=>tu P l t x f) ⟨e,n,l⟩ s):=by
 unfold qP qB;refine bH.bind (ev e x) λu p=>?_;simp only[p];refine bH.gen (g:=λl=>tu P l t u f) λl l2 r hl hr=>?_;cases u<;>try exact hr
 simp only[tu]at hr⊢;rw[<-(hl _ rfl).1];exact hr
def amS(t:TypeId)(x i:Operand):bH c (qB e x) I (λ_ l=>Ef P t x i ⟨e,n,l⟩ s):=by
 unfold Ef qB;refine bH.bind (ev e x) λu p=>?_;simp only[p];refine bH.bind (ev e i) λj _=>?_;refine bH.gen (g:=λl=>gm P l t u j) λl l2 r hl hr=>?_;cases u<;>try exact hr
 simp only[gm]at hr⊢;rw[<-(hl _ rfl).1];exact hr
theorem aC6{y:aI}{x:aa}{lo hi q:sq}{r:aa}(E:∀k p,x=.ptr k p->∀o,s.get m k=X o->s.get y k=X o)(h:eC P m t x lo hi q e s=X r):
 eC P y t x lo hi q e s=X r:=by
 simp only[eC,ak]at h⊢;obtain⟨d,C,h⟩:=h;refine⟨d,C,?_⟩;split at h;exact h;exact h;simp only[ak]at h⊢;obtain⟨k,z,h⟩:=h;refine⟨k,z,?_⟩;split at h;simp only[ak]at h⊢
 grind
 cases h;cases h
theorem amV(t:TypeId)(x:Operand)(lo hi q:sq):bH c (bK hint dst e (.slice t x lo hi q)) I (λm l=>mE x (λx=>eC P m t x lo hi q e s) ⟨e,n,l⟩ s):=by
 unfold mE;refine bH.bind (evc e x) λu p=>?_;have p:ev e x=X u:=by
  simp only[evc,ak]at p;obtain⟨y,z,p⟩:=p;rw[z,(aZ p).2]
 simp only[bK,p];refine bH.value (g:=λm=>eC P m t u lo hi q e s) ?_ λm r hr=>?_<;>grind [aC6,FZ]
def bH.state{g:aI->O_}(z:∀t,F≠.loc t)(y:∀m r,g m=X r->g (rM c F m)=X r):bH c F st (λm l=>mH (g m) l):=by
 intro m loc v loc' s' h p _;simp only[mH,ak]at h;obtain⟨r,h1,h⟩:=h;simp only[aQ,bk]at h;obtain⟨rfl,rfl,rfl⟩:=h;exact⟨p,by simp[mH,y m r h1],λt q=>absurd q (z t),λt _=>⟨.refl _ _,.refl _ _⟩,λ_=>rfl⟩
def qq{g:aI->Option α}(m:aI)(r:α)(h:g m=X r):g (rM c .all m)=X r:=h
theorem WB(cl:Call):bH c (bK hint dst e (.call cl)) I (λm l=>vI P m hint dst cl ⟨e,n,l⟩ s):=by
 obtain⟨callee,args,z⟩:=cl;unfold vI;cases callee with
 |value f=>exact bH.none
 |invoke a b=>exact bH.none
 |builtin b=>
  refine bH.bind (evcs e args.toList) λvs p=>?_;cases b
  case min=>exact bH.plain (g:=λm=>fZ P m .min _ _ vs s) (by simp[bK]) λm r hr=>by cases vs<;>exact hr
  case max=>exact bH.plain (g:=λm=>fZ P m .max _ _ vs s) (by simp[bK]) λm r hr=>by cases vs<;>exact hr
  case len=>
   refine bH.plain (g:=λm=>fZ P m .len _ _ vs s) ?_ λm r hr=>?_
   grind [bK]
   simp only[fZ]at hr⊢;split at hr<;>try grind
   simp only[ak]at hr⊢;obtain⟨v,C,hr⟩:=hr;refine⟨v,?_,hr⟩;obtain⟨args⟩:=args;simp only at p;rcases args with _|⟨a0,l⟩
   simp[evcs]at p;simp only[evcs,ak]at p;obtain⟨u,q,l',_,p⟩:=p;injection p with p
   injection p with Y a4
   subst Y;have q:ev e a0=X u:=by
    simp only[evc,ak]at q;obtain⟨y,V,q⟩:=q;rw[V,(aZ q).2]
   simp only[fN,bK,MH,List.getElem?_cons_zero,q]at C⊢;generalize P.underlying _=ud at C⊢;rcases ud with _|d
   exact C;simp only[aG]at C⊢;cases u<;>cases d<;>exact C
  case append=>
   refine bH.plain (g:=λm=>fZ P m _ _ _ vs s) (λt=>?_) λm r hr=>?_
   ·simp only[bK,Dr]
    repeat' split
    all_goals simp
   obtain⟨args⟩:=args;rcases args with _|⟨a0,_|⟨a1,_|⟨a2,l⟩⟩⟩<;>try exact hr
   simp only[evcs,ak]at p;obtain⟨u,q,l1,⟨w,hw,l2,a3,e2⟩,e1⟩:=p;cases a3;cases e2;cases e1;have T:∀{a:Operand}{u:aa},evc e a=X u->ev e a=X u:=λh=>by
    simp only[evc,ak]at h;obtain⟨y,V,h⟩:=h;rw[V,(aZ h).2]
   simp only[bK,Dr,T q,T hw];obtain⟨z⟩:=z;rcases z with _|⟨t1,_|⟨t2,_|⟨t3,tl⟩⟩⟩<;>try (cases hr;done)
   simp only[fZ]at hr⊢;cases hs:lM P t2<;>simp only[hs,cT,cF]at hr⊢;exact hr;cases w<;>try exact hr
   cases u<;>try exact hr
   rename_i rt;cases rt<;>try exact hr
   simp only[cJ,cU,fy,ak]at hr⊢;obtain⟨E,h1,U,h2,h3⟩:=hr;refine⟨E,h1,U,h2,?_⟩;rcases U with _|⟨y,U⟩
   exact h3;simp only[ak]at h3⊢;obtain⟨o,h4,h5⟩:=h3;exact⟨o,FZ h4,h5⟩
  all_goals exact bH.plain (g:=λm=>fZ P m _ _ _ vs s) (by simp[bK]) qq
def amQ(op:Op):bH c (bK hint dst e op) (isStore op) (λm l=>lF P m ch kmax hint dst op ⟨e,n,l⟩ s):=by
 cases op<;>simp only[lF]
 case load t a=>exact amT t a
 case store t a x=>exact amW t a x
 case nilCheck x=>exact amU x
 case fieldAddr t x f=>exact amR t x f
 case indexAddr t x i=>exact amS t x i
 case slice t x lo hi mx=>exact amV t x lo hi mx
 case call cl=>exact WB cl
 case alloc t=>exact bH.bind (dC P t) λz _=>bH.box (cs:=z.cells) rfl
 case box t x=>exact bH.bind (evc e x) λz _=>bH.box (cs:=z.cells) rfl
 case move x=>simp_all [bH.value,bK]
 case assign x=>simp_all [bH.value,bK]
 case pick a b d=>simp_all [bH.value,bK]
 case build t ps=>simp_all [bH.value,bK]
 case buildSlice t k ps=>simp_all [bH.plain,bK]
 case binOp o t x y yt=>exact bH.bind (evc e x) λu _=>bH.bind (evc e y) λv _=>bH.value (g:=λ_=>cP P o t u v) (by simp[bK]) λ_ _ h=>h
 case unOp o t x=>exact bH.bind (evc e x) λu _=>bH.value (g:=λ_=>Co o u) (by simp[bK]) λ_ _ h=>h
 case convert a b x=>exact bH.bind (evc e x) λu _=>bH.value (g:=λ_=>ow P a b u) (by simp[bK]) λ_ _ h=>h
 case makeFunc f a b=>simp_all [bH.value,bK]
 case makeMap t r=>simp_all [bH.plain,bK]
 case makeSlice t a b=>exact bH.bind (ev e a) λu _=>bH.bind (ev e b) λv _=>bH.plain (g:=λ_=>nN P t u v _ s) (by simp[bK]) λ_ _ h=>h
 case field t x f=>exact bH.bind (evc e x) λu _=>bH.value (g:=λ_=>zG P t u f) (by simp[bK]) λ_ _ h=>h
 case index t x i=>exact bH.bind (evc e x) λu _=>bH.bind (ev e i) λv _=>bH.value (g:=λ_=>Bw P t u v) (by simp[bK]) λ_ _ h=>h
 case extract x i=>exact bH.bind (ev e x) λu _=>bH.value (g:=λ_=>Dk i u) (by simp[bK]) λ_ _ h=>h
 case lookup t x i ok=>
  refine bH.bind (evc e x) λu p=>bH.bind (evc e i) λv _=>?_;have p:ev e x=X u:=by
   simp only[evc,ak]at p;obtain⟨y,E,p⟩:=p;rw[E,(aZ p).2]
  simp only[bK,Jw,p];cases u<;>try (exact bH.value (g:=λm=>mB P m t _ v ok s) (by simp) qq)
  case map k _=>
   refine bH.value (g:=λm=>mB P m t (.map k) v ok s) (by simp) λm r hr=>?_;simp only[mB,zX,ak]at hr⊢;obtain⟨C,h1,z,Y,q,⟨o,V,U⟩,T⟩:=hr;exact⟨C,h1,z,Y,q,⟨o,FZ V,U⟩,T⟩
 case mapEntry t x i=>exact bH.bind (evc e x) λu _=>bH.bind (evc e i) λv _=>bH.plain (g:=λm=>si P m t u v s) (by simp[bK]) qq
 case range t x=>exact bH.bind (evc e x) λu _=>bH.plain (g:=λm=>ua P m t u s) (by simp[bK]) qq
 case next x b=>exact bH.bind (evc e x) λu _=>bH.plain (g:=λm=>oM m ch kmax u b s) (by simp[bK]) qq
 case entry x=>exact bH.bind (evc e x) λu _=>bH.value (g:=λm=>w9 m u s) (by simp[bK]) qq
 case mapUpdate t a b d=>exact bH.bind (evc e a) λu _=>bH.bind (evc e b) λv _=>bH.bind (evc e d) λx _=>bH.state (g:=λm=>mN P m t u v x s) (by simp[bK]) qq
 case insert t a b d=>exact bH.bind (evc e a) λu _=>bH.bind (evc e b) λv _=>bH.bind (evc e d) λx _=>bH.state (g:=λm=>mN P m t u v x s) (by simp[bK]) qq
 case entryStore t a b d=>exact bH.bind (evc e a) λu _=>bH.bind (evc e b) λv _=>bH.bind (evc e d) λx _=>bH.state (g:=λm=>vg m u v x s) (by simp[bK]) qq
 all_goals exact bH.none
def OP{r:oe}:bH c (bK (Q.hint f) o.dst e o.op) (isStore o.op) (λm l=>fC Q r f o m ⟨e,n,l⟩ s):=by
 unfold fC;cases ho:o.op<;>simp only<;>try exact amQ _
 rename_i p;cases hc:p.callee with
 |builtin b=>exact WB p
 |value g=>
  obtain⟨callee,args,q⟩:=p;simp only at hc;subst hc;simp only;generalize hy:oK e _=y;cases y;simp only[cF];refine bH.bind (Ag.callee e _) λg _=>?_;exact bH.plain (g:=λm=>r.call g.1 g.2 m s) (by simp[bK]) qq;simp only[cT];refine bH.bind (Ag.yieldee e _) λg _=>?_;exact bH.plain (g:=λm=>mQ r g.1 g.2 m s) (by simp[bK]) qq
 |invoke a b=>
  obtain⟨callee,args,q⟩:=p;simp only at hc;subst hc;simp only;generalize hy:oK e _=y;cases y;simp only[cF];refine bH.bind (Ag.callee e _) λg _=>?_;exact bH.plain (g:=λm=>r.call g.1 g.2 m s) (by simp[bK]) qq;simp only[cT];refine bH.bind (Ag.yieldee e _) λg _=>?_;exact bH.plain (g:=λm=>mQ r g.1 g.2 m s) (by simp[bK]) qq
end
def Iw(bi:Nat)(r:iE)(foot:cz)(loud:Bool)(m:aI):Prop:=
 bi.testBit r.i=O\/(((loud||r.loud)&&foot.meets r.foot)=I/\∀n,r.c0<=n->n<r.c1->dG m n=O)
theorem ab0{bi:Nat}{mk:aI}:∀{rs:i_}{r:iE},r∈rs->bi.testBit r.i=I->∀n,r.c0<=n->n<r.c1->dG (kP bi rs mk) n=O
 |[],_,h,_,_,_,_=>by cases h
 |q::rs,r,h,hb,n,h0,h1=>by
  unfold kP;rcases dD.1 h with rfl|h
  grind [fL,dG,tX,Hk]
  have p:=ab0 (mk:=mk) h hb n h0 h1
  grind [dG]
theorem amI{foot:cz}{loud:Bool}(h:xg bi foot loud rs=O){r:iE}(hr:r∈rs):Iw bi r foot loud (kP bi rs mk):=by
 have:=fO.1 h r hr;cases hb:bi.testBit r.i;refine .inr ⟨?_,ab0 hr hb⟩
 grind
 exact .inl hb
section
abbrev g_:=Nat->Bool
abbrev h_:=Nat->Fr
abbrev n_:=Nat->St
abbrev u_:=Nat->aI
variable(Q:ay)(f:FuncId)(all:nt)(mk:aI)(F:h_)(S:n_)(M:u_)(lv:dd)(Lo:g_)
def IJ(k:Nat)(o:Oper):Prop:=
 (fw all (F k).env o=O/\∃v loc' s1,fC Q (bX Q (lv k)) f o (M k) (F k) ⟨(S k).heap,(S k).aL,(S k).aL,(S k).ci⟩=X (v,loc',s1)/\s1.ci=(S k).ci/\
  d8 (F k) o.dst v loc'=X (F (k+1))/\S (k+1)=(S k).GE s1/\Lo k=(bq s1.gE (S k).aL||isStore o.op))\/
 (fw all (F k).env o=I/\d8 (F k) o.dst jE (F k).loc=X (F (k+1))/\S (k+1)=S k)
structure Fv (i:Nat) (rs:i_) (bs:be) (l:CE):Prop where
 step:∀k o,l[k]?=some o->IJ Q f all F S M lv Lo (i+k) o
 more:∀k o,l[k]?=some o->∀n,dG mk n=true->dG (M (i+k)) n=true
 old:∀k o,l[k]?=some o->fw all (F (i+k)).env o=true->∀r∈rs,Iw ((bs[k]?).getD 0) r (bK (Q.hint f) o.dst (F (i+k)).env o.op) (Lo (i+k)) (M (i+k))
 pair:∀k k' o o',k'<k->l[k]?=some o->l[k']?=some o'->fw all (F (i+k)).env o=true->fw all (F (i+k')).env o'=true->
  Iw ((bs[k]?).getD 0) ⟨i+k',(S (i+k')).aL,(S (i+k'+1)).aL,bK (Q.hint f) o'.dst (F (i+k')).env o'.op,Lo (i+k')⟩ (bK (Q.hint f) o.dst (F (i+k)).env o.op) (Lo (i+k)) (M (i+k))
end
theorem Xf(bs:be):(bs[0]?).getD 0=bs.headD 0:=by cases bs<;>rfl
def Tg(bs:be)(k:Nat):bs.tail[k]?=bs[k+1]? :=by cases bs<;>simp
def vh(i:Nat)(a:α)(F:Nat->α):∃p:Nat->α,p i=a/\∀k,p (i+1+k)=F (i+1+k):=
 ⟨λk=>if k=i then a else F k,by simp,λk=>by simp only;rw[iN w_]⟩
variable{bs:be}{Lo:g_}{F:h_}{lv:dd}{M:u_}
theorem Fv.cons{all:nt}{T:h_}{S V:n_}{Y:u_}{C:dd}{q:g_}{z:i_}{l:CE}(t:Fv Q f all mk F S M lv Lo (i+1) z bs.tail l)(U:∀k,T (i+1+k)=F (i+1+k))(hS:∀k,V (i+1+k)=S (i+1+k))(hM:∀k,Y (i+1+k)=M (i+1+k))(a3:∀k,C (i+1+k)=lv (i+1+k))(y:∀k,q (i+1+k)=Lo (i+1+k))(a0:IJ Q f all T V Y C q i o)(a2:∀n,dG mk n=O->dG (Y i) n=O)(a4:fw all (T i).env o=O->∀r∈rs,Iw (bs.headD 0) r (bK (Q.hint f) o.dst (T i).env o.op) (q i) (Y i))(a1:∀r∈rs,r∈z)(hr:fw all (T i).env o=O->⟨i,(V i).aL,(V (i+1)).aL,bK (Q.hint f) o.dst (T i).env o.op,q i⟩∈z):Fv Q f all mk T V Y C q i rs bs (o::l) where
 step k p hk:=by
  rcases k with _|k
  simp at hk;subst hk;exact a0
  have:=t.step k p (by simpa using hk);unfold IJ at this⊢;rw[show i+(k+1)=i+1+k from w_,show i+1+k+1=i+1+(k+1)from w_,U,U,hS,hS,hM,a3,y];exact this
 more k p hk n hn:=by
  rcases k with _|k
  exact a2 n hn;rw[show i+(k+1)=i+1+k from w_,hM];exact t.more k p (by simpa using hk) n hn
 old k p hk hw r hr:=by
  rcases k with _|k
  grind [Xf]
  rw[show i+(k+1)=i+1+k from w_]at hw⊢;rw[U]at hw⊢;rw[hM,y,<-Tg];exact t.old k p (by simpa using hk) hw r (a1 r hr)
 pair k E p p' hlt hk hk' hw hw':=by
  rcases k with _|k
  omega;rw[show i+(k+1)=i+1+k from w_]at hw⊢;rw[U]at hw⊢;rw[hM,y,<-Tg];rcases E with _|E
  simp at hk';subst hk';exact t.old k p (by simpa using hk) hw _ (hr hw');rw[show i+(E+1)=i+1+E from w_]at hw'⊢;rw[U]at hw'⊢;rw[y,show i+1+E+1=i+1+(E+1)from w_,hS,hS];exact t.pair k E p p' w_ (by simpa using hk) (by simpa using hk') hw hw'
theorem Om{Q:ay}{f:FuncId}{all:nt}{mk:aI}:∀{l:CE}{n:Nat}{bs:be}{rs:i_}{i:Nat}{fr fr':Fr}{s s':St},
 (bX Q n).draw f all bs mk rs i l fr s=X (fr',s')->
 ∃F S M lv Lo,F i=fr/\S i=s/\F (i+J l)=fr'/\S (i+J l)=s'/\(∀k o,l[k]?=X o->lv (i+k)<n)/\Fv Q f all mk F S M lv Lo i rs bs l
 |l,0,bs,rs,i,fr,fr',s,s',h=>by cases h
 |[],n+1,bs,rs,i,fr,fr',s,s',h=>by
   have h:X (fr,s)=X (fr',s'):=h;simp only[aQ,bk]at h;obtain⟨rfl,rfl⟩:=h;exact⟨λ_=>fr,λ_=>s,λ_=>mk,λ_=>0,λ_=>I,rfl,rfl,rfl,rfl,by simp,⟨by simp,by simp,by simp,by simp⟩⟩
 |o::l,n+1,bs,rs,i,fr,fr',s,s',h=>by
  have h:mr Q (bX Q n) f all bs mk rs i (o::l) fr s=X (fr',s'):=h;simp only[mr]at h;cases hw:fw all fr.env o with
  |true=>
   simp only[hw,cT,ak]at h;obtain⟨⟨v,loc',s1⟩,h1,h⟩:=h;obtain⟨hc,h⟩:=aZ h;simp only[ak]at h;obtain⟨fr1,hf,h⟩:=h;simp only[bg]at hc;obtain⟨a2,E⟩:=hc;have E:=fL E;obtain⟨F,S,M,lv,Lo,e1,e2,e3,e4,a1,t⟩:=Om h;obtain⟨F',C,F1⟩:=vh i fr F;obtain⟨V,U,T⟩:=vh i s S;obtain⟨M',M0,M1⟩:=vh i (kP (bs.headD 0) rs mk) M;obtain⟨q,a0,p⟩:=vh i n lv;obtain⟨z,Y,y⟩:=vh i (bq s1.gE s.aL||isStore o.op) Lo;have eF:F' (i+1)=fr1:=(F1 0).trans e1;have eS:V (i+1)=s.GE s1:=(T 0).trans e2;refine⟨F',V,M',q,z,C,U,?_,?_,?_,t.cons F1 T M1 p y ?_ ?_ ?_ ?_ ?_⟩
   grind
   grind
   grind
   ·refine .inl ⟨by rw[C];exact hw,v,loc',s1,?_,?_,?_,?_,?_⟩
    all_goals grind
   grind [Xg]
   grind [amI]
   grind
   intro _;rw[U,eS,C,Y];exact List.mem_cons_self
  |false=>
   simp only[hw,cF,ak]at h;obtain⟨fr1,hf,h⟩:=h;obtain⟨F,S,M,lv,Lo,e1,e2,e3,e4,a1,t⟩:=Om h;obtain⟨F',C,F1⟩:=vh i fr F;obtain⟨V,U,T⟩:=vh i s S;obtain⟨M',M0,M1⟩:=vh i mk M;obtain⟨q,a0,p⟩:=vh i n lv;obtain⟨z,Y,y⟩:=vh i I Lo;have eF:F' (i+1)=fr1:=(F1 0).trans e1;have eS:V (i+1)=s:=(T 0).trans e2;refine⟨F',V,M',q,z,C,U,?_,?_,?_,t.cons F1 T M1 p y ?_ ?_ ?_ ?_ ?_⟩
   grind
   grind
   grind
   exact .inr ⟨by rw[C];exact hw,by rw[C,eF];exact hf,by rw[U,eS]⟩
   all_goals grind
theorem UC{ops:nt}:∀{l:CE}{bs:be}{b:Nat},nD ops b l bs=O->∀i j x y,i<j->l[i]?=X x->l[j]?=X y->((bs[j]?).getD 0).testBit (b+i)=O\/FQ ops x y=O
 |[],_,_,_,i,j,x,y,_,hx,_=>by simp at hx
 |o::l,bs,b,h,i,j,x,y,hlt,hx,p=>by
  simp only[nD,bg]at h;obtain⟨_,h1,C⟩:=h;rcases j with _|j
  omega;rw[<-Tg];cases i with
  |succ i=>
   have:=UC C i j x y w_ (by simpa using hx) (by simpa using p)
   grind
  |zero=>
   simp at hx;subst hx;have q:∀{l:CE}{bs:be},IM ops o b l bs=O->∀(j:Nat) y,l[j]?=X y->((bs[j]?).getD 0).testBit b=O\/FQ ops o y=O:=by
    intro l
    induction l with
    |nil=>intro bs _ j y p;simp at p
    |cons z l E=>
     grind [IM,Xf]
   exact q h1 j y (by simpa using p)
def UB{ops:nt}:∀{l:CE}{bs:be}{b:Nat},nD ops b l bs=O->∀i x,l[i]?=X x->∀e∈x.after,Region.binds .any e=O->e.on<b+i
 |[],_,_,_,i,x,hx,_,_,_=>by simp at hx
 |o::l,bs,b,h,i,x,hx,e,he,hb=>by
  simp only[nD,bg]at h;obtain⟨h0,_,p⟩:=h;rcases i with _|i
  simp at hx;subst hx
  have:=fO.1 h0 e (Array.mem_toList_iff.2 he)
  simp_all
  have:=UB p i x (by simpa using hx) e he hb;omega
structure aN (Q:ay) (f:FuncId) (all:nt) (mk:aI) (F:h_) (S:n_) (M:u_) (lv:dd) (Lo:g_):Prop where
 tr:Fv Q f all mk F S M lv Lo 0 [] (Region.before all).toList all.toList
 ap:nD all 0 all.toList (Region.before all).toList=true
 fresh:∀n,(S 0).aL<=n->(S 0).heap.get n=none
variable{H:U_}
section
variable{Q:ay}{f:FuncId}{all:nt}{mk:aI}{F:h_}{S:n_}{M:u_}{lv:dd}{Lo:g_}
noncomputable def aN.foot(Q:ay)(f:FuncId)(F:h_)(k:Nat)(o:Oper):cz:=bK (Q.hint f) o.dst (F k).env o.op
noncomputable def aN.fm(Q:ay)(f:FuncId)(F:h_)(S:n_)(M:u_)(k:Nat)(o:Oper):aI:=rM (S k).aL (aN.foot Q f F k o) (M k)
def aN.step(t:aN Q f all mk F S M lv Lo){k:Nat}(p:all[k]?=some o):IJ Q f all F S M lv Lo k o:=by
 have:=t.tr.step k o (by simpa using p);rwa [dS]at this
def aN.done(t:aN Q f all mk F S M lv Lo){k:Nat}(y:all[k]?=some o)(q:fw all (F k).env o=O):
 ∃v loc' s1,fC Q (bX Q (lv k)) f o (M k) (F k) ⟨(S k).heap,(S k).aL,(S k).aL,(S k).ci⟩=some (v,loc',s1)/\s1.ci=(S k).ci/\
  d8 (F k) o.dst v loc'=some (F (k+1))/\S (k+1)=(S k).GE s1/\Lo k=(bq s1.gE (S k).aL||isStore o.op)/\
  fQ (aN.fm Q f F S M k o) ⟨(S k).heap,(S k).aL,(S k).aL,(S k).ci⟩ s1:=by
 rcases t.step y with⟨_,v,loc',s1,h1,U,T,E,C⟩|⟨h,_⟩
 refine⟨v,loc',s1,h1,U,T,E,C,?_⟩;obtain⟨p,z,_⟩:=OP (c:=(S k).aL) (e:=(F k).env) (n:=(F k).size) (M k) (F k).loc v loc' s1 h1 (F k).loc (λ_ _=>.refl _ _);have hl:=G6 (Q:=Q) (lO Q (lv k)) f o (aN.fm Q f F S M k o) (F k);exact(hl Q.ch _ v p s1 z).1;rw[q]at h;cases h
theorem aN.next_le(t:aN Q f all mk F S M lv Lo){k:Nat}(p:all[k]?=some o):(S k).aL<=(S (k+1)).aL:=by
 cases hw:fw all (F k).env o with
 |true=>
  obtain⟨v,loc',s1,_,_,_,q,_,g⟩:=t.done p hw;rw[q];exact g.aL
 |false=>
  rcases t.step p with⟨h,_⟩|⟨_,_,h⟩<;>grind
theorem aN.mono(t:aN Q f all mk F S M lv Lo):∀{j:Nat},i<=j->j<=all.size->(S i).aL<=(S j).aL
 |0,h,_=>by grind
 |j+1,h,hj=>by
  by_cases e:i=j+1;rw[e];exact aC _;exact dg (t.mono w_ w_) (t.next_le (sM w_))
theorem aN.none_above(t:aN Q f all mk F S M lv Lo):∀{k:Nat},k<=all.size->∀n,(S k).aL<=n->(S k).heap.get n=Z
 |0,_,n,h=>t.fresh n h
 |k+1,hk,n,h=>by
  have p:all[k]?=some all[k]:=sM w_;have y:=t.next_le p;have q:=t.none_above (k:=k) w_ n w_;cases hw:fw all (F k).env all[k]with
  |true=>
   obtain⟨v,loc',s1,_,_,_,z,_,g⟩:=t.done p hw;rw[z]at h⊢;refine(g.frame n ?_).trans q;rintro(⟨_,h'⟩|h');exact h' q;exact absurd h (by have:=h'.2;show¬s1.aL<=n;omega)
  |false=>
   rcases t.step p with⟨h',_⟩|⟨_,_,h'⟩<;>grind
def aN.Th(Q:ay)(f:FuncId)(all:nt)(F:h_)(S:n_)(M:u_)(k n:Nat):Prop:=
 ∃o,all[k]?=some o/\fw all (F k).env o=O/\mT (aN.fm Q f F S M k o) (S k) (S (k+1)) n
open Classical in
noncomputable def aN.X(Q:ay)(f:FuncId)(all:nt)(F:h_)(S:n_)(M:u_)(H:U_)(n:Nat):Nat->sh
 |0=>H n
 |k+1=>if aN.Th Q f all F S M k n then(S (k+1)).heap.get n else aN.X Q f all F S M H n k
theorem aN.X_change{k:Nat}(h:aN.X Q f all F S M H n (k+1)≠aN.X Q f all F S M H n k):aN.Th Q f all F S M k n:=by
 grind [aN.X]
theorem aN.X_sees(t:aN Q f all mk F S M lv Lo)(h0:∀n o,dG mk n=I->(S 0).heap.get n=some o->H n=some o):
 ∀{k:Nat},k<=all.size->∀n o,dG mk n=I->(S k).heap.get n=some o->aN.X Q f all F S M H n k=some o
 |0,_,n,o,hn,h=>h0 n o hn h
 |k+1,hk,n,o,hn,h=>by
  have p:all[k]?=some all[k]:=sM w_;rw[aN.X];split;exact h;rename_i z;refine t.X_sees h0 w_ n o hn ?_;cases hw:fw all (F k).env all[k]with
  |true=>
   obtain⟨v,loc',s1,_,_,_,q,_,g⟩:=t.done p hw;rw[q]at h;refine(g.frame n λy=>z ⟨_,p,hw,?_⟩).symm.trans h;rw[q];exact y
  |false=>
   rcases t.step p with⟨h',_⟩|⟨_,_,h'⟩<;>grind
end
def sY(all:nt)(i j:Nat):Prop:=(((Region.before all).toList[j]?).getD 0).testBit i=O
theorem sY.dep{all:nt}(h:sY all i j):o8 all i j:=by
 grind [sY,ahD]
section
variable{Q:ay}{f:FuncId}{all:nt}{mk:aI}{F:h_}{S:n_}{M:u_}{lv:dd}{Lo:g_}
def aN.compat(t:aN Q f all mk F S M lv Lo){q p:Oper}(y:i<j)(hi:all[i]?=some q)(T:all[j]?=some p)(C:fw all (F i).env q=O)(z:fw all (F j).env p=O)(E:¬sY all i j):((Lo j||Lo i)&&(aN.foot Q f F j p).meets (aN.foot Q f F i q))=I/\∀n,(S i).aL<=n->n<(S (i+1)).aL->dG (M j) n=O:=by
 have:=t.tr.pair j i p q y (by simpa using T) (by simpa using hi) (by rw[dS];exact z) (by rw[dS];exact C);simp only[dS]at this;exact this.resolve_left E
def aN.lt_size(h:all[i]?=some o):i<all.size:=(Array.getElem?_eq_some_iff.1 h).1
theorem aN.loud(t:aN Q f all mk F S M lv Lo)(h0:∀n o,dG mk n=I->(S 0).heap.get n=some o->H n=some o)(hi:all[i]?=some o)(w:fw all (F i).env o=O)(q:aN.X Q f all F S M H n (i+1)≠aN.X Q f all F S M H n i)(U:dG (aN.fm Q f F S M i o) n=I)(y:(S i).heap.get n≠Z):Lo i=O:=by
 have E:=aN.X_change q;have p:n<(S i).aL:=by
  rcases iz n (S i).aL with h|h
  exact h;exact absurd (t.none_above (wL (aN.lt_size hi)) n h) y
 obtain⟨v,loc',s1,_,_,_,T,V,g⟩:=t.done hi w;have z:dG mk n=I:=by
  cases e:dG mk n;rfl
  have:=t.tr.more i o (by simpa using hi) n e
  grind [aN.fm,OO]
 rcases ho:(S i).heap.get n with _|ob
 exact absurd ho y;have C:=t.X_sees h0 (wL (aN.lt_size hi)) n ob z ho;rw[aN.X,iP E,C,<-ho,T]at q
 have:=g.noted n p q
 grind [Hk]
def awW{F1 p:cz}(h1:F1=.all\/F1=.obj n)(q:p=.all\/p=.obj n):F1.meets p=O:=by
 rcases h1 with rfl|rfl<;>rcases q with rfl|rfl<;>simp[qX]
theorem aN.heap_apart(t:aN Q f all mk F S M lv Lo)(h0:∀n o,dG mk n=I->(S 0).heap.get n=some o->H n=some o)(T:i<j)(hj:j<all.size)(hn:¬sY all i j):
 (aN.Th Q f all F S M j n->aN.X Q f all F S M H n (i+1)=aN.X Q f all F S M H n i)/\
 (aN.Th Q f all F S M i n->aN.X Q f all F S M H n (j+1)=aN.X Q f all F S M H n j):=by
 have a2:aN.Th Q f all F S M i n->aN.Th Q f all F S M j n->
  (aN.X Q f all F S M H n (i+1)≠aN.X Q f all F S M H n i\/aN.X Q f all F S M H n (j+1)≠aN.X Q f all F S M H n j)->False:=by
  rintro⟨oi,hi,Y,Ti⟩ ⟨oj,y,V,Tj⟩ U;obtain⟨z,c2⟩:=t.compat T hi y Y V hn;have a4:(S (i+1)).aL<=(S j).aL:=t.mono w_ w_;have a1:=t.next_le hi;have p:dG (aN.fm Q f F S M j oj) n=I/\(S j).heap.get n≠Z:=by
   rcases Tj with h|h
   exact h;exfalso;rcases Ti with⟨_,hp⟩|h'
   exact hp (t.none_above w_ n w_);omega
  have C:=ON p.1;have a3:n<(S j).aL:=by
   rcases iz n (S j).aL with h|h
   exact h;exact absurd (t.none_above w_ n h) p.2
  have q:dG (aN.fm Q f F S M i oi) n=I/\(S i).heap.get n≠Z:=by
   rcases Ti with h|h
   exact h
   grind
  have E:=ON q.1;have a0:n<(S i).aL:=by
   rcases iz n (S i).aL with h|h
   exact h;exact absurd (t.none_above w_ n h) q.2
  have hm:(aN.foot Q f F j oj).meets (aN.foot Q f F i oi)=O:=
   awW (C.2.imp id λh=>h.resolve_right w_) (E.2.imp id λh=>h.resolve_right w_)
  rw[hm,Bool.and_true]at z;rcases U with h|h
  rw[t.loud h0 hi Y h q.1 q.2]at z;simp at z;rw[t.loud h0 y V h p.1 p.2]at z;simp at z
 grind [aN.X_change]
end
variable{fr:Fr}{v:aa}
theorem t9(h:d8 fr dst v l=X fr'):
 fr'.size=fr.size/\fr'.loc=l/\(∀d,dst=X d->d<fr.size/\ac fr'.env d=v)/\∀t,dst≠X t->ac fr'.env t=ac fr.env t:=by
 unfold d8 at h
 grind [pj,ac,Sc,aB.get_set]
theorem akI{x y:Oper}(h:FQ ops x y=O):(∀d,x.dst=X d->d ∉ BG ops y/\y.dst≠X d)/\∀d,y.dst=X d->d ∉ BG ops x:=by
 simp only[FQ,bg]at h;have p:∀(d:Nat)(l:be),l.any (aA d)=I->d ∉ l:=by
  intro d l hl q;rw[List.any_eq_false]at hl;exact hl d q (by simp)
 obtain⟨h1,z⟩:=h;refine⟨λd q=>?_,λd q=>?_⟩;rw[q]at h1;simp only[bg,ny]at h1;refine⟨p d _ h1.1,λe=>?_⟩
 simp_all
 grind
section
variable{Q:ay}{f:FuncId}{all:nt}{mk:aI}{F:h_}{S:n_}{M:u_}{lv:dd}{Lo:g_}
def aN.Te(all:nt)(k t:Nat):Prop:=∃o,all[k]?=some o/\(t∈BG all o\/o.dst=some t)
theorem aN.put(t:aN Q f all mk F S M lv Lo){k:Nat}(p:all[k]?=some o):∃v l,d8 (F k) o.dst v l=some (F (k+1)):=by
 rcases t.step p with⟨_,v,loc',s1,_,_,q,_⟩|⟨_,h,_⟩<;>grind
def aN.env_change(t:aN Q f all mk F S M lv Lo){k:Nat}(q:all[k]?=some o)(h:ac (F (k+1)).env d≠ac (F k).env d):o.dst=some d:=by
 obtain⟨v,l,p⟩:=t.put q;by_cases e:o.dst=some d;exact e;exact absurd ((t9 p).2.2.2 d e) h
def aN.size_eq(t:aN Q f all mk F S M lv Lo):∀{k:Nat},k<=all.size->(F k).size=(F 0).size
 |0,_=>rfl
 |k+1,h=>by
  obtain⟨v,l,p⟩:=t.put (sM (show k<all.size from w_));rw[(t9 p).1];exact t.size_eq w_
theorem aN.env_apart(t:aN Q f all mk F S M lv Lo)(C:i<j)(V:j<all.size)(U:¬sY all i j):
 (aN.Te all j d->ac (F (i+1)).env d=ac (F i).env d)/\(aN.Te all i d->ac (F (j+1)).env d=ac (F j).env d):=by
 have z:all[i]?=some all[i]:=sM w_;have y:all[j]?=some all[j]:=sM V
 have:=UC t.ap i j all[i] all[j] C (by simp) (by simp);rw[dS]at this;obtain⟨h1,h2⟩:=akI (this.resolve_left U);constructor;rintro⟨o,q,E⟩;rw[y]at q;cases q;apply wA;intro p;obtain⟨T,Y⟩:=h1 d (t.env_change z p);exact E.elim T Y;rintro⟨o,q,E⟩;rw[z]at q;cases q;apply wA;intro p;have T:=t.env_change y p
 grind
def aN.L(F:h_)(t k:Nat):Nat×(Nat->T_):=((F k).loc.gen t,λg=>(F k).loc.get t g)
theorem aN.L_eq{F:h_}{t k p:Nat}:aN.L F t k=aN.L F t p↔lz (F k).loc (F p).loc t:=by
 grind [aN.L,lz]
def aN.Tl(Q:ay)(f:FuncId)(all:nt)(F:h_)(k u:Nat):Prop:=∃o,all[k]?=some o/\fw all (F k).env o=O/\aN.foot Q f F k o=.loc u
theorem aN.loc_change(t:aN Q f all mk F S M lv Lo){k:Nat}(z:k<all.size)(h:aN.L F u (k+1)≠aN.L F u k):aN.Tl Q f all F k u/\Lo k=O:=by
 have p:all[k]?=some all[k]:=sM z;rcases t.step p with⟨w,v,loc',s1,h1,_,T,_,V⟩|⟨_,y,_⟩
 have hl:=(t9 T).2.1;obtain⟨q,_,_,E,U⟩:=OP (c:=(S k).aL) (e:=(F k).env) (n:=(F k).size) (M k) (F k).loc v loc' s1 h1 (F k).loc (λ_ _=>.refl _ _);constructor;apply wA;intro C;apply h;rw[aN.L_eq,hl];exact(E u λe=>C ⟨_,p,w,e⟩).1
 grind [aN.L_eq]
 exfalso;apply h;rw[aN.L_eq,(t9 y).2.1];exact .refl _ _
def aN.loc_apart(t:aN Q f all mk F S M lv Lo)(z:i<j)(hj:j<all.size)(Y:¬sY all i j):
 (aN.Tl Q f all F j u->aN.L F u (i+1)=aN.L F u i)/\(aN.Tl Q f all F i u->aN.L F u (j+1)=aN.L F u j):=by
 have q:aN.Tl Q f all F i u->aN.Tl Q f all F j u->(Lo i=O\/Lo j=O)->False:=by
  rintro⟨oi,hi,V,fi⟩ ⟨oj,y,U,fj⟩ hl;obtain⟨T,_⟩:=t.compat z hi y V U Y;rw[fi,fj]at T;rcases hl with h|h<;>rw[h]at T<;>simp[qX]at T
 constructor;intro C;apply wA;intro p;obtain⟨h1,E⟩:=t.loc_change w_ p;exact q h1 C (.inl E);intro C;apply wA;intro p;obtain⟨h1,E⟩:=t.loc_change hj p;exact q C h1 (.inr E)
end
section
variable{Q:ay}{f:FuncId}{all:nt}{mk:aI}{F:h_}{S:n_}{M:u_}{lv:dd}{Lo:g_}
structure kJ (Q:ay) (f:FuncId) (all:nt) (F:h_) (S:n_) (M:u_) (H:U_) (D:tB) (fr:Fr) (h:U_):Prop where
 env:∀t,ac fr.env t=mix (λk=>ac (F k).env t) D all.size
 size:fr.size=(F 0).size
 loc:∀u,(fr.loc.gen u,λg=>fr.loc.get u g)=mix (aN.L F u) D all.size
 heap:∀n,h n=mix (aN.X Q f all F S M H n) D all.size
def MS(all:nt)(D:tB):Prop:=∀j o,D j->all[j]?=X o->∀e∈o.after,Region.binds .any e=O->D e.on
structure mj (all:nt) (D:tB) (j:Nat) (o:Oper):Prop where
 closed:MS all D
 at_:all[j]?=some o
 new:¬D j
 preds:∀e∈o.after,Region.binds .any e=true->D e.on
def mj.ord{D:tB}{j:Nat}{o:Oper}(x:mj all D j o)(h:sY all i j):D i:=
 h.dep.ready x.closed λz p e q y=>by
  rw[x.at_]at p;cases p;exact x.preds e q y
def mj.notOrd{D:tB}{j:Nat}{o:Oper}(x:mj all D j o){k:Nat}(p:D k):¬sY all j k:=λh=>x.new (h.dep.closed x.closed p)
def mj.both{X_:Nat->α}{D:tB}{j:Nat}{o:Oper}(x:mj all D j o)(T:∀i,i<j->¬sY all i j->X_ (i+1)=X_ i)(U:∀k,j<k->k<all.size->¬sY all j k->X_ (k+1)=X_ k):
 mix X_ D all.size=X_ j/\mix X_ (λk=>D k\/k=j) all.size=X_ (j+1):=by
 have E:=aN.lt_size x.at_;have q:∀i,i<j->X_ (i+1)≠X_ i->D i:=λi hi z=>by
  apply wA;intro p;exact z (T i hi λh=>p (x.ord h))
 have y:∀k,j<k->k<all.size->D k->X_ (k+1)=X_ k:=λk h1 C p=>U k h1 C (x.notOrd p);refine⟨ab8 w_ q λk h1 C p=>?_,aw4 E q y⟩;by_cases e:k=j;exact absurd (e▸p) x.new;exact y k w_ C p
def mj.env(t:aN Q f all mk F S M lv Lo){D:tB}{j:Nat}{o:Oper}(x:mj all D j o)(q:aN.Te all j d):
 mix (λk=>ac (F k).env d) D all.size=ac (F j).env d/\mix (λk=>ac (F k).env d) (λk=>D k\/k=j) all.size=ac (F (j+1)).env d:=
 x.both (X_:=λk=>ac (F k).env d) (λC hi p=>(t.env_apart hi (aN.lt_size x.at_) p).1 q) λz h1 y p=>(t.env_apart h1 y p).2 q
def mj.loc(t:aN Q f all mk F S M lv Lo){D:tB}{j:Nat}{o:Oper}(x:mj all D j o)(q:aN.Tl Q f all F j u):
 mix (aN.L F u) D all.size=aN.L F u j/\mix (aN.L F u) (λk=>D k\/k=j) all.size=aN.L F u (j+1):=
 x.both (λC hi p=>(t.loc_apart hi (aN.lt_size x.at_) p).1 q) λz h1 y p=>(t.loc_apart h1 y p).2 q
def mj.heap(t:aN Q f all mk F S M lv Lo){H:U_}(h0:∀n o,dG mk n=I->(S 0).heap.get n=some o->H n=some o){D:tB}{j:Nat}{o:Oper}(x:mj all D j o)(q:aN.Th Q f all F S M j n):
 mix (aN.X Q f all F S M H n) D all.size=aN.X Q f all F S M H n j/\mix (aN.X Q f all F S M H n) (λk=>D k\/k=j) all.size=aN.X Q f all F S M H n (j+1):=
 x.both (λC hi p=>(t.heap_apart h0 hi (aN.lt_size x.at_) p).1 q) λz h1 y p=>(t.heap_apart h0 h1 y p).2 q
variable{H:U_}{D:tB}{fr:Fr}{h:U_}{j:Nat}{o:Oper}
def kJ.ev(t:aN Q f all mk F S M lv Lo)(c:kJ Q f all F S M H D fr h)(x:mj all D j o):∀y∈o.op.operands,Ag.ev fr.env y=Ag.ev (F j).env y:=by
 intro y p;cases y with
 |tmp d=>
  simp only[Ag.ev];rw[c.env d,(x.env t ⟨o,x.at_,.inl ?_⟩).1];unfold BG;refine List.mem_append_left _ (List.mem_filterMap.2 ⟨.tmp d,by simpa using p,rfl⟩)
 |_=>rfl
theorem kJ.wanted(t:aN Q f all mk F S M lv Lo)(c:kJ Q f all F S M H D fr h)(x:mj all D j o):fw all fr.env o=fw all (F j).env o:=by
 unfold fw;rcases hg:o.guard with _|g
 rfl;obtain⟨g,p⟩:=g;simp only;rcases hd:(all[g]?).bind (·.dst)with _|d
 rfl;simp only;rw[c.env d,(x.env t ⟨o,x.at_,.inl ?_⟩).1]
 grind [BG]
end
def adC(h:∀d,dst=X d->d<fr.size):∃fr',d8 fr dst v l=X fr':=by
 unfold d8;rcases hd:dst with _|d
 exact⟨_,rfl⟩;have:bq d fr.size=O:=by rw[Hk];exact dQ (h d hd)
 simp only[this,cT];exact⟨_,rfl⟩
variable{s2:aB aH}
section
variable{Q:ay}{f:FuncId}{all:nt}{mk:aI}{F:h_}{S:n_}{M:u_}{lv:dd}{Lo:g_}
variable{H:U_}{D:tB}{fr:Fr}{h:aB aH}{j:Nat}{o:Oper}
def aN.from_(S:n_)(j:Nat)(h:aB aH):St:=⟨h,(S j).aL,(S j).aL,(S j).ci⟩
theorem kJ.sees(t:aN Q f all mk F S M lv Lo)(h0:∀n o,dG mk n=I->(S 0).heap.get n=X o->H n=X o)(c:kJ Q f all F S M H D fr h.get)(x:mj all D j o)(q:fw all (F j).env o=O):iU (aN.fm Q f F S M j o) (aN.from_ S j (S j).heap) (aN.from_ S j h) where
 aL:=rfl
 gE:=rfl
 ci:=rfl
 get n ob hn p:=by
  have p:(S j).heap.get n=X ob:=p;show h.get n=X ob;have y:aN.Th Q f all F S M j n:=⟨o,x.at_,q,.inl ⟨hn,by rw[p];simp⟩⟩;rw[c.heap n,(x.heap t h0 y).1];refine t.X_sees h0 (wL (aN.lt_size x.at_)) n ob ?_ p;cases e:dG mk n;rfl
  have:=t.tr.more j o (by simpa using x.at_) n e
  grind [aN.fm,OO]
def kJ.run(t:aN Q f all mk F S M lv Lo)(h0:∀n o,dG mk n=I->(S 0).heap.get n=some o->H n=some o)(c:kJ Q f all F S M H D fr h.get)(x:mj all D j o)(V:fw all (F j).env o=O):
 ∃v loc' s1 fr',fC Q (bX Q (lv j)) f o (aN.fm Q f F S M j o) fr (aN.from_ S j (S j).heap)=some (v,loc',s1)/\s1.ci=(S j).ci/\s1.aL=(S (j+1)).aL/\d8 fr o.dst v loc'=some fr'/\
  ∀s2',fX (aN.fm Q f F S M j o) (aN.from_ S j (S j).heap) s1 (aN.from_ S j h) s2'->kJ Q f all F S M H (λk=>D k\/k=j) fr' s2'.heap.get:=by
 obtain⟨v,E,s1,h1,h2,h3,h4,h5,g⟩:=t.done x.at_ V;obtain⟨q,e1,e2,e3,e4⟩:=OP (c:=(S j).aL) (e:=(F j).env) (n:=(F j).size) (M j) (F j).loc v E s1 h1 fr.loc (λu T=>by
  have p:aN.Tl Q f all F j u:=⟨o,x.at_,V,T⟩;have h6:=(c.loc u).trans (x.loc t p).1;unfold aN.L at h6;rw[bk]at h6;exact⟨h6.1.symm,λg=>(congrFun h6.2 g).symm⟩)
 have e1:fC Q (bX Q (lv j)) f o (aN.fm Q f F S M j o) ⟨(F j).env,(F j).size,fr.loc⟩ (aN.from_ S j (S j).heap)=some (v,q,s1):=e1;rw[azo (e2:=fr.env) (n2:=fr.size) (λy hy=>(c.ev t x y hy).symm)]at e1;have a0:fr.size=(F j).size:=c.size.trans (t.size_eq (wL (aN.lt_size x.at_))).symm;obtain⟨p1,p2,p3,p4⟩:=t9 h3;have Y:∃fr',d8 fr o.dst v q=some fr':=adC λd C=>by rw[a0];exact(p3 d C).1
 obtain⟨fr',Y⟩:=Y;obtain⟨q1,q2,q3,q4⟩:=t9 Y;refine⟨v,q,s1,fr',e1,h2,by rw[h4];rfl,Y,λs2' same=>⟨λd=>?_,q1.trans c.size,λu=>?_,λn=>?_⟩⟩;by_cases C:o.dst=some d;rw[(q3 d C).2,(x.env t ⟨o,x.at_,.inr C⟩).2,(p3 d C).2];rw[q4 d C,c.env d]
 simp_all [D1]
 rw[q2];by_cases T:aN.foot Q f F j o=.loc u;rw[(x.loc t ⟨o,x.at_,V,T⟩).2]
 have:=e2 u T;unfold aN.L;rw[p2,this.1];rw[bk];exact⟨rfl,funext λg=>(this.2 g).symm⟩;obtain⟨a1,a2⟩:=e3 u T;rw[D1 (X_:=aN.L F u) (aN.L_eq.2 (by rw[p2];exact a1)),<-c.loc u,bk];exact⟨a2.1,funext a2.2⟩;have z:aN.Th Q f all F S M j n↔mT (aN.fm Q f F S M j o) (aN.from_ S j (S j).heap) s1 n:=by
  constructor;rintro⟨o',U,_,p⟩;rw[x.at_]at U;cases U;rw[h4]at p;exact p;intro p;refine⟨o,x.at_,V,?_⟩;rw[h4];exact p
 by_cases p:aN.Th Q f all F S M j n;rw[(x.heap t h0 p).2,aN.X,iP p,h4];exact same.inside n (z.1 p);rw[D1 (X_:=aN.X Q f all F S M H n) (by rw[aN.X,iN p]),<-c.heap n];exact same.outside n (λe=>p (z.2 e))
theorem kJ.skip(t:aN Q f all mk F S M lv Lo)(c:kJ Q f all F S M H D fr h.get)(x:mj all D j o)(hw:fw all (F j).env o=I):
 ∃fr',d8 fr o.dst jE fr.loc=some fr'/\kJ Q f all F S M H (λk=>D k\/k=j) fr' h.get:=by
 rcases t.step x.at_ with⟨h',_⟩|⟨_,h3,_⟩
 rw[hw]at h';cases h';have y:fr.size=(F j).size:=c.size.trans (t.size_eq (wL (aN.lt_size x.at_))).symm;obtain⟨p1,Y,C,p4⟩:=t9 h3;have q:∃fr',d8 fr o.dst jE fr.loc=some fr':=adC λd p=>by rw[y];exact(C d p).1
 obtain⟨fr',q⟩:=q;obtain⟨V,U,T,E⟩:=t9 q;refine⟨fr',q,⟨λd=>?_,V.trans c.size,λu=>?_,λn=>?_⟩⟩;by_cases p:o.dst=some d;rw[(T d p).2,(x.env t ⟨o,x.at_,.inr p⟩).2,(C d p).2];rw[E d p,c.env d]
 simp_all [D1]
 rw[U,D1 (X_:=aN.L F u) (aN.L_eq.2 (by rw[Y];exact .refl _ _)),<-c.loc u];rw[D1 (X_:=aN.X Q f all F S M H n) ?_,<-c.heap n];rw[aN.X,iN];rintro⟨o',z,a0,_⟩;rw[x.at_]at z;grind
theorem kJ.start(p:∀k,¬D k):kJ Q f all F S M s2.get D (F 0) s2.get where
 env d:=(RG (X_:=λk=>ac (F k).env d) λk _=>p k).symm
 size:=rfl
 loc u:=by grind [RG,aN.L]
 heap n:=by grind [RG,aN.X]
theorem kJ.fin(c:kJ Q f all F S M H D fr h.get)(p:∀k,k<all.size->D k):
 fr.size=(F 0).size/\(∀d,ac fr.env d=ac (F all.size).env d)/\(∀u,lz fr.loc (F all.size).loc u)/\∀n,h.get n=aN.X Q f all F S M H n all.size:=by
 refine⟨c.size,λd=>?_,λu=>?_,λn=>?_⟩;rw[c.env d];grind [RE]
 have:=c.loc u;rw[RE p]at this;unfold aN.L at this;rw[bk]at this;exact⟨this.1,congrFun this.2⟩;rw[c.heap n];exact RE p
end
def mt:pX->Fence
 |none=>Fence.wide
 |some l=>Fence.wide.inRound l
def Bo(ro:pX)(f:FuncId):(mt ro).fn f:=by cases ro<;>exact trivial
def amm(ro:pX):(mt ro).depth=Z:=by cases ro<;>rfl
def amo(ro:pX):(mt ro).round=ro:=by cases ro<;>rfl
def amn(ro:pX)(l:Nat):(mt ro).inRound l=mt (X l):=by cases ro<;>rfl
def OD(ro:pX)(n:Nat):(mt ro).depth.isSome=O->1<=n:=by rw[amm];intro h;cases h
variable{args:il}{w:World}
def Wq{ro:pX}{R:Ending->World->Prop}:CallsIn (mt ro) 0 P f args w R↔Calls P f args w R:=by
 rcases ro with _|l
 exact callsIn_wide;exact callsIn_wide (n:=0)
def qf:Obj->Prop
 |.loop _=>True
 |.deferred _=>True
 |_=>False
theorem qf.warm{o:Obj}(h:qf o):Obj.warm o:=by cases o<;>first|exact trivial|exact h.elim
variable{a:Addr}{tmps:il}{B:dd}
section
variable{G:Gh}{h:aB aH}{w:World}{b:Nat}{o ob:Obj}
theorem Nw(p:w.heap[b]?=X o)(q:qf o){C:il}{e:TypeId}{z:Nat×Nat}:w.heap[b]? ≠X (.cells C e z):=by
 rw[p];intro h;cases h;exact q.elim
def ahb(p:w.heap[b]?=X o)(q:qf o)(i:Nat):w.cell? ⟨b,i,Z⟩=Z:=by
 cases o<;>first
  |exact q.elim
  |simp[World.cell?,p]
def WR.aside_ro(x:WR G h w)(q:w.heap[b]?=X o)(z:qf o)(i:Nat):G.ro b i=Z:=by
 rcases e:G.ro b i with _|v
 rfl;obtain⟨_,y,p,_⟩:=x.ro b i v e;rw[ahb q z]at p;cases p
theorem WR.aside(x:WR G h w)(hb:w.heap[b]?=X o)(z:qf o)(p:¬eU G h b):WR G h (cV w b ob) where
 obj n o' hn:=by
  obtain⟨a,h1,h2,h3⟩:=x.obj n o' hn;refine⟨a,h1,h2,h3.of_block ?_⟩;rw[iM w b _ ob (iq hb),iN];intro e;exact p ⟨n,a,by rw[hn];simp,h1,e⟩
 sep:=x.sep
 ro c i v hv:=by
  have q:c≠b:=λe=>by subst e;rw[x.aside_ro hb z]at hv;cases hv
  obtain⟨h1,y,h2,h3⟩:=x.ro c i v hv
  grind [World.cell?,iM]
 apart:=x.apart
 dim c d hd:=by
  have q:c≠b:=λe=>by
   subst e;obtain⟨C,e,h1,_⟩:=x.dim c d hd;exact Nw hb z h1
  rw[iM w b _ ob (iq hb),iN q];exact x.dim c d hd
 below n a ha':=by rw[En];exact x.below n a ha'
theorem ql.aside{loc:Loc}(x:ql G h B loc w)(hb:w.heap[b]?=X o)(p:qf o):ql G h B loc (cV w b ob) where
 cells t cs ht:=by
  obtain⟨C,e,h1,h2⟩:=x.cells t cs ht
  grind [iM,Nw]
 free:=x.free
 ro:=x.ro
 inj:=x.inj
def cu.aside(x:cu G h B fr tmps w)(p:w.heap[b]?=X o)(q:qf o):cu G h B fr tmps (cV w b ob):=
 ⟨x.size,x.env,x.locs.aside p q⟩
def cu.not_LB(x:cu G h B fr tmps w)(p:w.heap[b]?=X o)(q:qf o):¬LB B fr.loc b:=by
 rintro⟨t,cs,h1,rfl⟩;obtain⟨C,e,y,_⟩:=x.locs.cells t cs h1;exact Nw p q y
def WR.not_deferred(x:WR G h w){d:Option (List Deferred)}(y:w.heap[b]?=X (.deferred d)):¬eU G h b:=by
 rintro⟨n,a,h1,T,rfl⟩;rcases e:h.get n with _|o
 exact h1 e;obtain⟨a',z,_,q⟩:=x.obj n o e;rw[T]at z;cases z;clear e
 induction o with
 |cells cs=>obtain⟨C,e,p,_⟩:=q;rw[y]at p;cases p
 |tok=>obtain⟨C,e,p⟩:=q;rw[y]at p;cases p
 |map V c=>obtain⟨Y,p,_⟩:=q;rw[y]at p;cases p
 |iter m a b c=>obtain⟨_,U,p,_⟩:=q;rw[y]at p;cases p
 |loop _ _ _ _ _ _ _=>obtain⟨r,p,_⟩:=q;rw[y]at p;cases p
 |fix o E=>exact E q
theorem WR.back(x:WR G h w){lo:aH}(T:G.at_ n=X a)(hs:a.spot=Z)(q:¬eU G h a.block)(hr:nB G w a lo)(Y:∀i,G.ro a.block i=Z):WR G (h.set n (X lo)) w:=by
 refine⟨?_,?_,x.ro,?_,x.dim,x.below⟩;intro m U p;rw[aB.get_set]at p;by_cases e:m=n
 grind
 rw[iN e]at p;exact x.obj m U p;intro m k c d p y C z E;rw[aB.get_set]at p y;by_cases e1:m=n<;>by_cases e2:k=n;rw[e1,e2];rw[e1,T]at C;rw[iN e2]at y;cases C;exact absurd ⟨k,d,y,z,E.symm⟩ q;rw[e2,T]at z;rw[iN e1]at p;cases z;exact absurd ⟨m,c,p,C,E⟩ q;rw[iN e1]at p;rw[iN e2]at y;exact x.sep m k c d p y C z E;intro m ob b i v p hb V;rw[aB.get_set]at p;by_cases e:m=n
 grind
 rw[iN e]at p;exact x.apart m ob b i v p hb V
theorem azD{lo:aH}(y:G.at_ n=X a)(h':eU G (h.set n (X lo)) c):c=a.block\/eU G h c:=by
 obtain⟨m,d,h1,q,p⟩:=h';rw[aB.get_set]at h1;by_cases e:m=n
 grind
 rw[iN e]at h1;exact .inr ⟨m,d,h1,q,p⟩
variable{G0:Gh}{h0:aB aH}{w0:World}{lo hi:Nat}{L:tB}
theorem azC{lo:aH}(C:G.at_ n=X a)(h':kX G (h.set n (X lo)) c):c=a.block\/kX G h c:=by
 obtain⟨m,d,p,h1,q,z,y⟩:=h';rw[aB.get_set]at h1;by_cases e:m=n
 grind
 rw[iN e]at h1;exact .inr ⟨m,d,p,h1,q,z,y⟩
def iR.aside(x:iR G0 h0 w0 G h w lo hi L)(hb:w.heap[b]?=X o)(y:qf o)(p:qf ob)(q:b<w0.heap.size->kX G0 h0 b):iR G0 h0 w0 G h (cV w b ob) lo hi L where
 le:=x.le
 size:=by rw[En];exact x.size
 ownsW:=x.ownsW
 keepW c hc ho hl:=by
  rw[iM w b c ob (iq hb),iN];exact x.keepW c hc ho hl;intro e;subst e;exact ho (q hc)
 owns:=x.owns
 names:=x.names
 cells:=x.cells
 quiet:=x.quiet.trans (HL w hb y.warm p.warm)
def iR.toExt(x:iR G0 h0 w0 G h w lo hi L)(y:∀b,¬L b):ce G0 h0 w0 G h w lo hi:=
 ⟨x.le,x.size,λb q p=>x.keepW b q p (y b),x.owns,x.names,x.cells,x.quiet,x.ownsW⟩
def ce.aside(x:ce G0 h0 w0 G h w lo hi)(y:w.heap[b]?=X o)(z:qf o)(p:qf ob)(q:b<w0.heap.size->kX G0 h0 b):ce G0 h0 w0 G h (cV w b ob) lo hi:=
 (iR.aside (x.toL λ_=>False) y z p q).toExt λ_ h=>h
end
def vC(r:Nat):Deferred:= {target:=.collected r,args:= #[] }
structure wS (lo:Nat) (w:World) (rs:be):Prop where
 nodup:rs.Nodup
 at_:∀r∈rs,lo<=r/\w.heap[r]?=some (.deferred (some []))
def wS.nil(lo:Nat)(w:World):wS lo w []:=⟨.nil,λ_ h=>by cases h⟩
def Ss(w:World)(b:Nat)(o:Obj):w.putObj b o=cV w b o:=rfl
def aeo{G:Gh}:∀{ps:p_}{args:az}{xs:gy}{env q:ax}{size:Nat}{tmps:il},HX ps args env=X q->bL G args xs->
 (∀t∈ps,t<size)->tmps.size=size->(∀t,VR G (ac env t) (tmps.getD t undef))->
 J xs=J ps/\((ps.zip xs).foldl (λtmps (t,a)=>tmps.setIfInBounds t a) tmps).size=size/\∀t,VR G (ac q t) (((ps.zip xs).foldl (λtmps (t,a)=>tmps.setIfInBounds t a) tmps).getD t undef)
 |[],[],xs,env,q,size,tmps,he,hv,hp,hs,ht=>by
   cases hv;simp only[HX,aQ]at he;subst he;exact⟨rfl,hs,ht⟩
 |[],_::_,_,_,_,_,_,he,_,_,_,_=>by cases he
 |_::_,[],_,_,_,_,_,he,_,_,_,_=>by cases he
 |p::ps,v::args,xs,env,q,size,tmps,he,hv,hp,hs,ht=>by
  cases hv with
  |cons a b=>
   rename_i x xs;have y:p<tmps.size:=by rw[hs];exact hp p (by simp)
   have:=aeo (tmps:=tmps.setIfInBounds p x) (ps:=ps) he b (λt h=>hp t (by simp[h])) (by simpa using hs) (λt=>by
    rw[Ag.getD_set _ _ _ _ y];unfold ac;rw[aB.get_set];by_cases e:t=p;rw[iP e,iP e];exact a;rw[iN e,iN e];exact ht t)
   exact⟨by simp[this.1],this.2⟩
def kW(k:Nat)(ch p:dd):Prop:=∀i,i<k->p i=ch i
def kW.refl(k:Nat)(ch:dd):kW k ch ch:=λ_ _=>rfl
def kW.trans{k y:Nat}{q p:dd}(h:kW k ch q)(h':kW y q p)(z:k<=y):kW k ch p:=λi hi=>(h' i (fP hi z)).trans (h i hi)
def lw(Q:ay)(ch:dd):Prop:=∀i,ch i<Q.kmax i
def Iy(s:St):Prop:=∀n,s.aL<=n->s.heap.get n=Z
def Iy.goes{s s':St}(h:Iy s)(g:fQ mk s s'):Iy s':=λn p=>by
 have h0:=h n (dg g.aL p);rw[g.frame n ?_];exact h0;rintro(⟨_,h'⟩|h');exact h' h0;omega
def kI(P:Program)(f:FuncId)(args:il)(w:World)(R:Value->World->Prop):Prop:=
 (∃y w',(callFunc f args).run P w=.ok (.value y) w'/\R y w')\/
 ((callFunc f args).run P w=.ok (.enter f args) w/\Calls P f args w (λe w'=>∃y,e=.returned y/\R y w'))
def kI.mono{R q:Value->World->Prop}(h:kI P f args w R)(hr:∀y w',R y w'->q y w'):kI P f args w q:=by
 rcases h with⟨y,w',h1,p⟩|⟨h1,p⟩
 exact .inl ⟨y,w',h1,hr y w' p⟩;exact .inr ⟨h1,p.mono λe w' ⟨y,z,C⟩=>⟨y,z,hr y w' C⟩⟩
def afU(Q:ay):Prop:=
 ∀f sp,Q.specH f=X sp->∀args v (G:Gh) (h:aB aH) (w:World) (xs:gy),WR G h w->bL G args xs->ee h.get (sp args)=X v->
  kI Q.P f ⟨xs⟩ w λy w'=>∃G',WR G' h w'/\ce G h w G' h w' 0 0/\VR G' v y
def afX(Q:ay):Prop:=
 ∀f sp,Q.specW f=X sp->∀args (G:Gh) (h:aB aH) (w:World) (xs:gy),WR G h w->bL G args xs->
  (sp args=X Z->kI Q.P f ⟨xs⟩ w λy w'=>∃G',WR G' h w'/\ce G h w G' h w' 0 0/\VR G' (.tup []) y)/\
  ∀n g cs cs',sp args=X (X (n,g))->h.get n=X (.cells cs)->ee h.get (g cs)=X (.agg cs')->
   kI Q.P f ⟨xs⟩ w λy w'=>∃G',WR G' (h.set n (X (.cells cs'))) w'/\ce G h w G' (h.set n (X (.cells cs'))) w' 0 0/\VR G' (.tup []) y
def afW(Q:ay):Prop:=
 ∀f sp,Q.specW f=X sp->Q.anew f=O->∀args (G:Gh) (h:aB aH) (w:World) (xs:gy),WR G h w->bL G args xs->
  ∀n g cs cs' sz a b len c q,sp args=X (X (n,g))->h.get n=X (.cells cs)->ee h.get (g cs)=X (.tup [.arr sz a b len c,.agg cs'])->G.at_ q=Z->
   kI Q.P f ⟨xs⟩ w λy w'=>∃G',WR G' ((h.set n Z).set q (X (.cells cs'))) w'/\ce G h w G' ((h.set n Z).set q (X (.cells cs'))) w' q (q+1)/\VR G' (.arr sz q 0 len len) y
def afV(Q:ay):Prop:=
 ∀f sp,Q.spec f=X sp->∀args v,sp args=X v->∀(G:Gh)(h:aB aH)(w:World)(xs:gy),WR G h w->bL G args xs->
  kI Q.P f ⟨xs⟩ w λy w'=>∃G',WR G' h w'/\ce G h w G' h w' 0 0/\VR G' v y
structure lA (mk:aI) (A:tB) (G:Gh) (s s2:St) (w:World):Prop where
 fresh:Iy s
 sees:iU mk s s2
 wr:WR G s2.heap w
 free:∀m,s.aL<=m->A m->G.at_ m=none
structure Iv (Q:ay) (n:Nat) (f:FuncId) (args:az) (mk:aI) (ch:dd) (G:Gh) (s s2:St) (w:World) (y:Value) (w':World)
 (ch':dd) (v:aa) (s' s2':St) (G':Gh):Prop where
 agree:kW s.ci ch ch'
 inb:lw Q ch'
 eval:(bX (Q.at ch') n).call f args mk s=some (v,s')
 same:fX mk s s' s2 s2'
 wr:WR G' s2'.heap w'
 ext:ce G s2.heap w G' s2'.heap w' s.aL s'.aL
 val:VR G' v y
def yU(Q:ay)(n:Nat):Prop:=
 ∀(f:FuncId)(args:az)(mk:aI)(s s2:St)(G:Gh)(w:World)(xs:gy)(ch:dd)(A:tB),
  lA mk A G s s2 w->bL G args xs->lw Q ch->
  (∀p,kW s.ci ch p->lw Q p->∃v s',(bX (Q.at p) n).call f args mk s=X (v,s')/\∀m,s.aL<=m->m<s'.aL->A m)->
  kI Q.P f ⟨xs⟩ w λy w'=>∃p v s' s2' G',Iv Q n f args mk ch G s s2 w y w' p v s' s2' G'
section
variable{G G' G'':Gh}{h h' h'':aB aH}{w w' w'':World}{lo mid hi:Nat}{L L':tB}
def iR.trans(x:iR G h w G' h' w' lo mid L)(y:iR G' h' w' G'' h'' w'' mid hi L')(p:∀b,L' b->L b\/w.heap.size<=b)(q:lo<=mid)(l2:mid<=hi):
 iR G h w G'' h'' w'' lo hi L where
 le:=x.le.trans y.le
 size:=dg x.size y.size
 keepW b hb ho hl:=(y.keepW b (fP hb x.size) (λo=>ho (x.ownsW b hb o)) (λl=>(p b l).elim hl (λh=>w_))).trans (x.keepW b hb ho hl)
 ownsW b hb o:=x.ownsW b hb (y.ownsW b (fP hb x.size) o)
 owns b hb o:=x.owns b hb (y.owns b (fP hb x.size) o)
 names n a h h0:=by
  rcases e:G'.at_ n with _|b
  have:=y.names n a h e;omega
  have:=x.names n b e h0;omega
 cells b o v hb h h0:=by
  rcases e:G'.ro b o with _|u
  exact x.owns b hb (y.cells b o v (fP hb x.size) h e);exact x.cells b o u hb e h0
 quiet:=x.quiet.trans y.quiet
def iR.widen{lo' hi':Nat}(x:iR G h w G' h' w' lo hi L)(h1:lo'<=lo)(q:hi<=hi'):iR G h w G' h' w' lo' hi' L:=
 ⟨x.le,x.size,x.keepW,x.owns,λn a e p=>by have:=x.names n a e p;omega,x.cells,x.quiet,x.ownsW⟩
end
def VV{G' G'':Gh}{h' h'':aB aH}{w'':World}{d U p:List Deferred}{lo l1 l2:Nat}(wr:WR G' h' w')(fx:cu G' h' B' fr' tmps w')(x:∃rs,U=rs.map vC++d/\wS lo w' rs)(E:lo<=w'.heap.size)(ex:iR G' h' w' G'' h'' w'' l1 l2 (LB B' fr'.loc))(y:∃rs,p=rs.map vC++U/\wS w'.heap.size w'' rs):
 ∃rs,p=rs.map vC++d/\wS lo w'' rs:=by
 obtain⟨T,Y,C⟩:=x;obtain⟨ry,V,z⟩:=y;have keep:∀r∈T,w''.heap[r]?=X (.deferred (X [])):=λr hr=>by
  have h1:=(C.at_ r hr).2;exact(ex.keep r (iq h1) (wr.not_deferred h1) (fx.not_LB h1 trivial)).trans h1
 refine⟨ry++T,by rw[V,Y];simp,⟨?_,?_⟩⟩;rw[List.nodup_append];refine⟨z.nodup,C.nodup,λr hr q hq e=>?_⟩;subst e;have h1:=(z.at_ r hr).1;have h2:=iq (C.at_ r hq).2;omega;intro r hr;rcases List.mem_append.1 hr with hr|hr
 exact⟨dg E (z.at_ r hr).1,(z.at_ r hr).2⟩;exact⟨(C.at_ r hr).1,keep r hr⟩
structure o7 (mk:aI) (fr:Fr) (G:Gh) (B:dd) (s s2:St) (a:Act) (w:World) (fr':Fr) (G':Gh) (B':dd) (s' s2':St) (a':Act) (w':World):Prop where
 goes:fQ mk s s'
 same:fX mk s s' s2 s2'
 wr:WR G' s2'.heap w'
 ext:iR G s2.heap w G' s2'.heap w' s.aL s'.aL (LB B fr.loc)
 fx:cu G' s2'.heap B' fr' a'.tmps w'
 boxes:∀b,LB B' fr'.loc b->LB B fr.loc b\/w.heap.size<=b
 defers:∃rs,a'.defers=rs.map vC++a.defers/\wS w.heap.size w' rs
section
variable{mk:aI}{A:tB}{fr fr' fr'':Fr}{G G' G'':Gh}{B B' B'':dd}{s s' s'' s2 s2' s2'':St}{a a' a'':Act}{w w' w'':World}
def o7.refl(p:lA mk A G s s2 w)(fx:cu G s2.heap B fr a.tmps w):o7 mk fr G B s s2 a w fr G B s s2 a w where
 goes:=.refl _ _
 same:=.refl p.sees
 wr:=p.wr
 ext:=ce.refl.toL _
 fx:=fx
 boxes _ h:=.inl h
 defers:=⟨[],rfl,.nil _ _⟩
def o7.trans(x:o7 mk fr G B s s2 a w fr' G' B' s' s2' a' w')(y:o7 mk fr' G' B' s' s2' a' w' fr'' G'' B'' s'' s2'' a'' w''):
 o7 mk fr G B s s2 a w fr'' G'' B'' s'' s2'' a'' w'' where
 goes:=x.goes.trans y.goes
 same:=.trans x.goes y.goes x.same y.same
 wr:=y.wr
 ext:=x.ext.trans y.ext x.boxes x.goes.aL y.goes.aL
 fx:=y.fx
 boxes b h:=by
  rcases y.boxes b h with h|h
  exact x.boxes b h;exact .inr (dg x.ext.size h)
 defers:=VV x.wr x.fx x.defers x.ext.size y.ext y.defers
def lA.after(p:lA mk A G s s2 w)(x:o7 mk fr G B s s2 a w fr' G' B' s' s2' a' w'):lA mk A G' s' s2' w' where
 fresh:=p.fresh.goes x.goes
 sees:=x.same.sees p.sees x.goes
 wr:=x.wr
 free m hm hA:=by
  cases e:G'.at_ m with
  |none=>rfl
  |some q=>
   have h0:=p.free m (dg x.goes.aL hm) hA
   have:=x.ext.names m q e h0;omega
def Nh(a:Act)(d:ir)(v:Value):(a.put d v).defers=a.defers:=by
 cases d<;>rfl
end
variable{a:Act}{fr1:Fr}
section
variable{α β:Type}
def ta(Q:ay)(A:tB)(ch:dd)(s:St)(E:(dd)->Option (α×Fr×St)):Prop:=
 ∀p,kW s.ci ch p->lw Q p->∃x fr' s',E p=X (x,fr',s')/\∀m,s.aL<=m->m<s'.aL->A m
def uN(Q:ay)(mk:aI)(ch:dd)(fr:Fr)(G:Gh)(B:dd)(s s2:St)(a:Act)(w:World)(E:(dd)->Option (α×Fr×St))(x:α)(a':Act)(w':World):Prop:=
 ∃p fr' s' s2' G' B',kW s.ci ch p/\lw Q p/\E p=X (x,fr',s')/\o7 mk fr G B s s2 a w fr' G' B' s' s2' a' w'
def M8(E:(dd)->Option (α×Fr×St)):Prop:=∀ch x fr' s',E ch=X (x,fr',s')->∀p,kW s'.ci ch p->E p=X (x,fr',s')
variable{Q:ay}{A:tB}{ch ch1:dd}{s s1:St}{E1:(dd)->Option (α×Fr×St)}{E2:α->Fr->St->(dd)->Option (β×Fr×St)}
theorem ta.first(q:ta Q A ch s (λc=>(E1 c).bind λr=>E2 r.1 r.2.1 r.2.2 c))(g:∀x fr' s' c y fr'' s'',E2 x fr' s' c=X (y,fr'',s'')->s'.aL<=s''.aL):ta Q A ch s E1:=by
 intro p h1 z;obtain⟨x,fr',s',E,C⟩:=q p h1 z
 grind [ak]
theorem ta.second(C:ta Q A ch s (λc=>(E1 c).bind λr=>E2 r.1 r.2.1 r.2.2 c))(E:M8 E1){x:α}(z:kW s.ci ch ch1)(V:E1 ch1=X (x,fr1,s1))(q:s.ci<=s1.ci)(T:s.aL<=s1.aL):
 ta Q A ch1 s1 (E2 x fr1 s1):=by
 intro p h1 U;obtain⟨y,fr',s',h3,Y⟩:=C p (z.trans h1 q) U
 have:=E ch1 x fr1 s1 V p h1
 grind
def uN.second{G G1:Gh}{V:dd}{s2 q:St}{U a':Act}{E:World}{x:α}{y:β}(Y:M8 E1)(C:kW s.ci ch ch1)(e1:E1 ch1=X (x,fr1,s1))(T:o7 mk fr G B s s2 a w fr1 G1 V s1 q U E)(p:uN Q mk ch1 fr1 G1 V s1 q U E (E2 x fr1 s1) y a' w'):
 uN Q mk ch fr G B s s2 a w (λc=>(E1 c).bind λr=>E2 r.1 r.2.1 r.2.2 c) y a' w':=by
 obtain⟨z,fr',s',s2',G',B',h1,h2,h3,h4⟩:=p;refine⟨z,fr',s',s2',G',B',C.trans h1 T.goes.ci,h2,?_,T.trans h4⟩;simp only[Y ch1 x fr1 s1 e1 z h1,aG];exact h3
end
def Ex.to:Ex->Exit
 |.normal=>.normal
 |.exit id=>.exit id
 |.ret=>.ret
noncomputable def kZ(Q:ay)(n:Nat)(f:FuncId)(c:Code)(mk:aI)(fr:Fr)(s:St)(ch:dd):F0:=(bX (Q.at ch) n).code f c mk fr s
def yY(ro:pX)(G:Gh)(h:aB aH)(w:World):Prop:=∀l,ro=X l->(∃r:Loop,w.heap[l]?=X (.loop r))/\¬eU G h l
def yY.none{G:Gh}:yY .none G h w:=λ_ h=>by cases h
def yY.after{ro:pX}{G G':Gh}{s s' s2 s2':St}{a':Act}(h:yY ro G s2.heap w)(fx:cu G s2.heap B fr a.tmps w)(x:o7 mk fr G B s s2 a w fr' G' B' s' s2' a' w'):yY ro G' s2'.heap w':=λl hl=>by
 obtain⟨⟨r,h1⟩,q⟩:=h l hl;have p:=iq h1;exact⟨⟨r,(x.ext.keep l p q (fx.not_LB h1 trivial)).trans h1⟩,λo=>q (x.ext.owns l p o)⟩
def sV(Q:ay)(n:Nat):Prop:=
 ∀(ro:pX)(f:FuncId)(c:Code)(mk:aI)(fr:Fr)(ch:dd)(A:tB)(G:Gh)(B:dd)(s s2:St)(a:Act)(w:World),(ro≠Z->dM c=O)->yY ro G s2.heap w->
  lA mk A G s s2 w->cu G s2.heap B fr a.tmps w->lw Q ch->ta Q A ch s (kZ Q n f c mk fr s)->
  ∀K:Exit->Act->World->Prop,(∀x a' w',uN Q mk ch fr G B s s2 a w (kZ Q n f c mk fr s) x a' w'->K x.to a' w')->
   c.wpIn (mt ro) 0 Q.P K a w/\∀b,c=.loop b->Code.roundsIn (mt ro) 0 Q.P b K n a w
def Od(Q:ay)(n:Nat)(f:FuncId)(c:Code)(mk:aI)(fr:Fr)(s:St):M8 (kZ Q n f c mk fr s):=
 λch x fr' s' h q p=>(se Q n).code f c mk fr ch s x fr' s' h q p
def VN{c:Code}{s:St}{x:Ex}{s':St}(h:kZ Q n f c mk fr s ch=X (x,fr',s')):fQ mk s s':=
 ((lO Q n).code f c mk fr ch s x fr' s' h).1
structure Uu (Q:ay) (n:Nat) (m:Nat) (args:az) (mk:aI) (ch:dd) (G:Gh) (s s2:St) (w:World) (y:Value) (w':World)
 (ch':dd) (v:aa) (s' s2':St) (G':Gh):Prop where
 agree:kW s.ci ch ch'
 inb:lw Q ch'
 eval:mQ (bX (Q.at ch') n) m args mk s=some (v,s')
 same:fX mk s s' s2 s2'
 wr:WR G' s2'.heap w'
 ext:ce G s2.heap w G' s2'.heap w' s.aL s'.aL
 val:VR G' v y
variable{xs:gy}{args:az}{m:Nat}{A:tB}
theorem aBT(d4:sV Q n)(ro:pX){s s2:St}{G:Gh}(p:lA mk A G s s2 w)(hv:bL G args xs)(hi:lw Q ch){ad:Addr}(hm:G.at_ m=X ad)(hs:∀a3,kW s.ci ch a3->lw Q a3->∃v s',mQ (bX (Q.at a3) n) m args mk s=X (v,s')/\∀q,s.aL<=q->q<s'.aL->A q):
 ∃z:Loop,w.heap[ad.block]?=X (.loop z)/\J xs=z.params.size/\
  RoundIn (mt ro) 0 Q.P ad.block z.fn ((z.params.zip ⟨xs⟩).foldl (λtmps (t,a)=>tmps.setIfInBounds t a) z.tmps) z.assign z.body w
   (λe w'=>∃y,e=.returned y/\∃a3 v s' s2' G',Uu Q n m args mk ch G s s2 w y w' a3 v s' s2' G'):=by
 obtain⟨v0,s0,h0,_⟩:=hs ch (.refl _ _) hi;simp only[mQ,ak]at h0;obtain⟨o,ho,⟨u,o',s3⟩,a0,_⟩:=h0;unfold Ct at a0;split at a0
 case h_2=>cases a0
 rename_i f env size ps a b;obtain⟨c8,a0⟩:=aZ a0;simp only[ak]at a0;obtain⟨a9,b4,_⟩:=a0;have b7:=(tG (p.sees.look ho)).2;obtain⟨f3,d0,e7,z,a5,hL⟩:=p.wr.obj m _ b7;rw[hm]at d0;cases d0;have g1:=fQ.put ho (mk:=mk) Z;have y1:iU mk (s.put m Z) (s2.put m Z):=(fX.put p.sees ho Z).sees p.sees g1;have e0:WR G (s2.put m Z).heap w:=p.wr.killed m;have c9:¬eU G (s2.put m Z).heap ad.block:=K5 p.wr (by rw[b7];simp) hm;have E:kX G s2.heap ad.block:=⟨m,ad,_,b7,rfl,hm,rfl⟩;have b1:eU G s2.heap ad.block:=E.owns;have hl:=iq a5;have p1:lA mk A G (s.put m Z) (s2.put m Z) w:=⟨p.fresh.goes g1,y1,e0,p.free⟩;have c7:∀t∈ps,t<size:=λt ht=>pj (fO.1 c8 t ht);obtain⟨d1,e5,c4⟩:=aeo b4 hv c7 hL.size hL.env;have c3:(z.params.zip ⟨xs⟩).foldl (λtmps (t,a)=>tmps.setIfInBounds t a) z.tmps=(ps.zip xs).foldl (λtmps (t,a)=>tmps.setIfInBounds t a) z.tmps:=by
  rw[<-hL.params];have:z.params.zip (⟨xs⟩:il)=(⟨z.params.toList.zip xs⟩:Array (Tmp×Value)):=by apply pV;simp
  rw[this];simp
 have a6:z.params.size=J ps:=by rw[<-hL.params];simp
 have f0:∀t,Loc.get [] t (Loc.gen [] t)=Z:=λt=>rfl;have e9:cu G (s2.put m Z).heap (λ_=>0) ⟨a9,size,[]⟩ ((ps.zip xs).foldl (λtmps (t,a)=>tmps.setIfInBounds t a) z.tmps) w:=
  ⟨e5,λt=>LV.of_VR (c4 t),⟨(λt cs h=>by cases h),(λt cs h=>by cases h),(λt cs h=>by cases h),(λt u cs ds h=>by cases h)⟩⟩
 have b2:∀c,mQ (bX (Q.at c) n) m args mk s=((kZ Q n f a mk ⟨a9,size,[]⟩ (s.put m Z) c).bind (AG (bX (Q.at c) n) f env size ps a b mk)).bind λx=>X (x.1,x.2.2.put m (X x.2.1)):=by
  intro c;simp only[mQ,ho,aG,Ct,c8,cT,b4];rfl
 refine⟨z,a5,by rw[d1,a6],?_⟩;rw[c3,hL.assign,hL.body];refine roundIn_of_wpIn (Bo ro _) ?_;rw[amn];refine(d4 (X ad.block) f a mk ⟨a9,size,[]⟩ ch A G (λ_=>0) (s.put m Z) (s2.put m Z) ⟨_,[]⟩ w (λ_=>hL.flatA) (λl hl=>by grind) p1 e9 hi ?_ _ ?_).1;intro c h1 h2;obtain⟨v,s',h3,h4⟩:=hs c h1 h2;rw[b2]at h3;simp only[ak,aQ,bk]at h3;obtain⟨⟨u,o',s5⟩,⟨⟨x,fr',s4⟩,h5,h6⟩,_,rfl⟩:=h3;refine⟨x,fr',s4,h5,λq hq b6=>h4 q hq (fP b6 ?_)⟩;cases x with
 |exit i=>cases h6
 |ret=>cases h6
 |normal=>
  simp only[AG,ak]at h6;obtain⟨⟨x2,a8,s6⟩,h7,h8⟩:=h6;have e6:s6=s5:=by cases x2<;>(grind [Cs])
  subst e6;exact(VN (Q:=Q) (n:=n) (ch:=c) h7).aL
 rintro x a1 w1 ⟨c1,fr1,s3,a4,G1,B1,c5,c6,e1,C⟩;obtain⟨v,s',h3,h4⟩:=hs c1 c5 c6;have f1:=h3;rw[b2,e1]at h3;simp only[aG,ak,aQ,bk]at h3;obtain⟨⟨u,o',s5⟩,h6,_,rfl⟩:=h3;have e8:¬LB (λ_=>0) ([]:Loc) ad.block:=λ⟨t,cs,h,_⟩=>by cases h
 have V:w1.heap[ad.block]?=X (.loop z):=(C.ext.keep _ hl c9 e8).trans a5;have a7:¬eU G1 a4.heap ad.block:=λo=>c9 (C.ext.owns _ hl o);cases x with
 |exit i=>cases h6
 |ret=>cases h6
 |normal=>
  refine⟨_,run_beginRound V hL.state,?_⟩;rw[Ss];have b0:=p1.after C;have p2:lA mk A G1 s3 a4 (cV w1 ad.block (.loop {z with state:=.busy })):=⟨b0.fresh,b0.sees,b0.wr.aside V trivial a7,b0.free⟩;have d6:cu G1 a4.heap B1 fr1 a1.tmps (cV w1 ad.block (.loop {z with state:=.busy })):=C.fx.aside V trivial;have c0:=iq V;have d5:(cV w1 ad.block (.loop {z with state:=.busy })).heap[ad.block]?=X (.loop {z with state:=.busy }):=by rw[iM _ _ _ _ c0,iP rfl]
  refine(d4 (X ad.block) f b mk fr1 c1 A G1 B1 s3 a4 a1 _ (λ_=>hL.flatB) (λl hl=>by grind) p2 d6 c6 ?_ _ ?_).1;intro c h1 h2;obtain⟨v,s',h7,h8⟩:=hs c (c5.trans h1 C.goes.ci) h2;rw[b2,Od Q n f a mk _ _ c1 _ _ _ e1 c h1]at h7;simp only[aG,ak,aQ,bk,AG]at h7;obtain⟨⟨u,o',s6⟩,⟨⟨x2,a8,s7⟩,h9,f2⟩,_,rfl⟩:=h7;refine⟨x2,a8,s7,h9,λq hq b6=>h8 q (dg C.goes.aL hq) ?_⟩;have e6:s7=s6:=by cases x2<;>(grind [Cs])
  subst e6;exact b6;rintro x2 a2 w3 ⟨c2,a8,s6,b5,G2,B2,d7,e3,e2,Y⟩;have U:w3.heap[ad.block]?=X (.loop {z with state:=.busy }):=(Y.ext.keep _ (by rw[En];exact c0) a7 (d6.not_LB d5 trivial)).trans d5;have b3:¬eU G2 b5.heap ad.block:=λo=>a7 (Y.ext.owns _ (by rw[En];exact c0) o);have b8:G2.at_ m=X ad:=Y.ext.le.at_ _ _ (C.ext.le.at_ _ _ hm);have fin:∀(T:Option Code)(pe:MA),T=pe.map Ex.code->Cs f env size ps a b (x2,a8,s6)=X (.bool T.isNone,.loop f env size ps a b pe,s6)->
   ∃v w',(Instr.endRound ad.block T).run Q.P w3=.ok v w'/\∃y,Ending.returned v=.returned y/\∃a3 v s' s2' G',Uu Q n m args mk ch G s s2 w y w' a3 v s' s2' G':=by
   intro T pe hj e4;refine⟨_,_,run_endRound T U,_,rfl,c2,.bool T.isNone,s6.put m (X (.loop f env size ps a b pe)),b5.put m (X (.loop f env size ps a b pe)),G2,?_⟩;rw[Ss];have d2:iR G s2.heap w G2 b5.heap w3 s.aL s6.aL (λ_=>False):=by
    have x0:ce G s2.heap w G (s2.put m Z).heap w s.aL s.aL:=ce.killed;have x1:iR G s2.heap w G1 a4.heap (cV w1 ad.block (.loop {z with state:=.busy })) s.aL s3.aL (λ_=>False):=
     ((x0.toL λ_=>False).trans C.ext (λb h=>by obtain⟨t,cs,h,_⟩:=h;cases h) (aC _) C.goes.aL).aside V trivial trivial (λ_=>E)
    exact x1.trans Y.ext (λb h=>by
     rcases C.boxes b h with h|h
     obtain⟨t,cs,h,_⟩:=h;cases h;exact .inr h) C.goes.aL Y.goes.aL
   refine⟨c5.trans d7 C.goes.ci,e3,?_,(fX.trans C.goes Y.goes C.same Y.same).hide p.sees ho _,?_,?_,.bool _⟩;rw[b2,Od Q n f a mk _ _ c1 _ _ _ e1 c2 d7];have e2:(bX (Q.at c2) n).code f b mk fr1 s3=X (x2,a8,s6):=e2;simp only[aG,AG,e2,e4];refine(Y.wr.aside U trivial b3).back b8 e7 b3 ⟨_,by rw[iM _ _ _ _ (iq U),iP rfl],?_⟩ (Y.wr.aside_ro U trivial);refine⟨?_,hj,hL.size,λt=>(hL.env t).mono (C.ext.le.trans Y.ext.le),hL.params,hL.assign,hL.body,hL.flatA,hL.flatB⟩;cases pe<;>(subst hj;rfl);have x2:=(d2.toExt λ_ h=>h).aside (ob:=.loop { {z with state:=.busy }with state:=if T.isNone then .ready else .done,pending:=T }) U trivial trivial (λ_=>E);exact⟨x2.le,x2.size,x2.keepW,λc hc o=>by
    rcases azD b8 o with rfl|o
    exact b1;exact x2.owns c hc o,x2.names,x2.cells,x2.quiet,λc hc o=>by
    rcases azC b8 o with rfl|o
    exact E;exact x2.ownsW c hc o⟩
  cases x2 with
  |normal=>exact fin Z Z rfl rfl
  |exit id=>exact fin (X (.exit id)) (X (.exit id)) rfl rfl
  |ret=>exact fin (X .ret) (X .ret) rfl rfl
structure M6 (Q:ay) (n:Nat) (f:FuncId) (o:Oper) (mk:aI) (fr:Fr) (ch:dd) (G:Gh) (B:dd) (s s2:St) (w:World) (x:Value) (w':World)
 (ch':dd) (v:aa) (loc':Loc) (s' s2':St) (G':Gh) (B':dd):Prop where
 agree:kW s.ci ch ch'
 inb:lw Q ch'
 eval:fC (Q.at ch') (bX (Q.at ch') n) f o mk fr s=some (v,loc',s')
 same:fX mk s s' s2 s2'
 wr:WR G' s2'.heap w'
 ext:iR G s2.heap w G' s2'.heap w' s.aL s'.aL (LB B fr.loc)
 locs:ql G' s2'.heap B' loc' w'
 val:LV G' loc' B' v x
 old:∀u y,LV G fr.loc B u y->LV G' loc' B' u y
 boxes:∀b,LB B' loc' b->LB B fr.loc b\/w.heap.size<=b
def axz{it:aa}{b:Bool}{s:St}{r:aa×St}(h:oM mk ch kmax it b s=X r)(C:2<=ka mk it s):ka mk it s<=kmax s.ci:=by
 unfold oM at h;split at h;rename_i n;simp only[ak]at h;obtain⟨ob,z,h⟩:=h;split at h;simp[ka,z]at C;rename_i m E p q;cases b;simp only[cF,ak]at h;obtain⟨V,y,h⟩:=h;split at h;rename_i U T;have Y:ka mk (.ptr n 0) s=(lW p U).length:=by simp[ka,z,y]
 rw[Y]at C⊢;rcases fY h with⟨_,h⟩|⟨_,h⟩
 cases h;generalize lW p U=l at h C;unfold tY at h;split at h;simp at C;obtain⟨_,h⟩:=aZ h;split at h;simp at C;obtain⟨h,_⟩:=aZ h;exact jN h;cases h;cases h;cases h;cases h
theorem adc(hc:yU Q n)(c9:sV Q n)(ro:pX){G:Gh}{s s2:St}(p:lA mk A G s s2 w)(fx:cu G s2.heap B fr a.tmps w)(hi:lw Q ch)(he:∀q,kW s.ci ch q->lw Q q->∃v loc' s',fC (Q.at q) (bX (Q.at q) n) f o mk fr s=X (v,loc',s')/\∀m,s.aL<=m->m<s'.aL->A m)(K:Act->World->Prop)(E:Exit->Act->World->Prop)(hK:∀x w' q v loc' s' s2' G' B',M6 Q n f o mk fr ch G B s s2 w x w' q v loc' s' s2' G' B'->K (a.put o.dst x) w'):o.wpIn (mt ro) 0 Q.P a w K E:=by
 have a8:bD mk (λch s=>fC (Q.at ch) (bX (Q.at ch) n) f o mk fr s):=G6 (Q:=Q) (lO Q n) f o mk fr;have plain:(∀c,o.op≠.defer c)->(∀q s,fC (Q.at q) (bX (Q.at q) n) f o mk fr s=lF Q.P mk q Q.kmax (Q.hint f) o.dst o.op fr s)->o.wpIn (mt ro) 0 Q.P a w K E:=by
  intro a4 V;have b1:∃q,kW s.ci ch q/\lw Q q/\∀x b xv,o.op=.next x b->evc fr.env x=X xv->2<=ka mk xv s2->
   q s2.ci % ka mk xv s2=(w.tape w.drawn (.mapNext (ka mk xv s2))) % ka mk xv s2:=by
   by_cases hn:∃x b xv,o.op=.next x b/\evc fr.env x=X xv/\2<=ka mk xv s2
   obtain⟨x,b,xv,b5,b4,c5⟩:=hn;obtain⟨v,loc',s',h1,_⟩:=he ch (.refl _ _) hi;obtain⟨s2',h3,_⟩:=(a8 ch s v loc' s' h1).2 ch s2 (λ_ _=>rfl) p.sees;have c8:ka mk xv s2<=Q.kmax s.ci:=by
    have h3:fC (Q.at ch) (bX (Q.at ch) n) f o mk fr s2=X (v,loc',s2'):=h3;rw[V,b5]at h3;simp only[lF,b4,aG,gu,ak]at h3;obtain⟨r,hr,_⟩:=h3;rw[<-p.sees.ci];exact axz hr c5
   refine⟨λi=>if i=s.ci then(w.tape w.drawn (.mapNext (ka mk xv s2))) % ka mk xv s2 else ch i,?_,?_,?_⟩;intro i d4
   grind
   intro i;simp only;split;rename_i e;subst e;exact fP (Nat.mod_lt _ w_) c8;exact hi i;intro x' b' d2 a7 a6 _;rw[b5]at a7;injection a7 with e1 e2
   subst e1;rw[b4]at a6;cases a6;simp only;rw[iP p.sees.ci,Nat.mod_mod];exact⟨ch,.refl _ _,hi,λx b xv h1 h2 h3=>absurd ⟨x,b,xv,h1,h2,h3⟩ hn⟩
  obtain⟨q,c3,b7,b1⟩:=b1;obtain⟨v,loc',s',h1,h2⟩:=he q c3 b7;obtain⟨g,hl⟩:=a8 q s v loc' s' h1;obtain⟨s2',h3,h4⟩:=hl q s2 (λ_ _=>rfl) p.sees;have d0:lF Q.P mk q Q.kmax (Q.hint f) o.dst o.op fr s2=X (v,loc',s2'):=by rw[<-V];exact h3
  have b0:=ag0 p.wr fx d0 (λm b6 c7=>p.free m (by rw[<-p.sees.aL];exact b6) (h2 m (by rw[<-p.sees.aL];exact b6) (by rw[<-h4.aL];exact c7))) b1;obtain⟨nx,x,w',G',B',r1,r2,r3,r4,r5,r6,r7,r8⟩:=b0;have c4:iR G s2.heap w G' s2'.heap w' s.aL s'.aL (LB B fr.loc):=by rw[<-p.sees.aL,<-h4.aL];exact r4
  have hk:=hK x w' q v loc' s' s2' G' B' ⟨c3,b7,h1,h4,r3,c4,r5,r6,r7,r8⟩;refine⟨λ_ _=>Bo ro _,?_⟩;rw[Oper.semAt_eq _ _ _ a4,r1];rcases r2 with rfl|⟨rfl,rfl⟩<;>exact hk
 cases V:o.op
 case call c=>
  cases hcl:c.callee with
  |builtin b=>exact plain (λc h=>by rw[V]at h;cases h) λq s=>by simp only[fC,V,hcl,lF];rfl
  |invoke x y=>
   obtain⟨v,loc',s',h1,_⟩:=he ch (.refl _ _) hi
   simp_all [fC,pk,callee,oK]
  |value g=>
   have a4:∀c,o.op≠.defer c:=λc h=>by rw[V]at h;cases h
   cases hyld:oK fr.env c with
   |true=>
    have U:∀q s,fC (Q.at q) (bX (Q.at q) n) f o mk fr s=sK (bX (Q.at q) n) c mk fr s:=λq s=>by grind [fC]
    obtain⟨v0,b3,s0,h0,_⟩:=he ch (.refl _ _) hi;rw[U]at h0;simp only[sK,ak]at h0;obtain⟨⟨m,args⟩,T,_⟩:=h0;have a9:=T;simp only[yieldee,hcl,ak]at T;obtain⟨gv,hg,T⟩:=T;have Y:=fx.ev hg;cases gv<;>try (cases T;done)
    rename_i m';simp only[ak,aQ,bk]at T;obtain⟨as,b2,rfl,rfl⟩:=T;have Y:VR G (.yld m') (a.eval g):=Y;generalize hgx:a.eval g=gx at Y;cases Y with
    |yld hm=>
     rename_i ad;have a0:=(fx.evcs b2).1;obtain⟨a1,q1,q2,q3⟩:=aBT c9 ro p a0 hi hm (λq ha hb=>by
      grind [sK,ak])
     have a3:(execOp a.eval o).run Q.P w=.ok (.round ad.block a1.fn ((a1.params.zip ⟨c.args.toList.map a.eval⟩).foldl (λtmps (t,a)=>tmps.setIfInBounds t a) a1.tmps) a1.assign a1.body) w:=by
      have c6:(⟨c.args.toList.map a.eval⟩:il).size=a1.params.size:=by rw[<-q2];rfl
      have:=run_yield (P:=Q.P) (args:=⟨c.args.toList.map a.eval⟩) q1 c6;have e:(#[]:il)++c.args.map a.eval=⟨c.args.toList.map a.eval⟩:=by apply pV;simp
      simp only[execOp,V,resolve,hcl,hgx,Deferred.ofValue,Sem.run_bind,Sem.run_pure,mg,invoke,e];exact this
     refine⟨λ_ _=>Bo ro _,?_⟩;rw[Oper.semAt_eq _ _ _ a4,a3];refine⟨OD ro 0,q3.mono ?_⟩;rintro e w' ⟨y,rfl,q,v,s',s2',G',c1⟩;refine hK y w' q v fr.loc s' s2' G' B ⟨c1.agree,c1.inb,?_,c1.same,c1.wr,c1.ext.toL _,fx.locs.ext c1.ext,LV.of_VR c1.val,λ_ _ h=>h.mono c1.ext.le,λ_ h=>.inl h⟩;rw[U];simp only[sK,a9,aG,c1.eval]
   |false=>
   have U:∀q s,fC (Q.at q) (bX (Q.at q) n) f o mk fr s=pk (bX (Q.at q) n) c mk fr s:=λq s=>by grind [fC]
   obtain⟨v0,b3,s0,h0,_⟩:=he ch (.refl _ _) hi;rw[U]at h0;simp only[pk,ak]at h0;obtain⟨⟨fn,args⟩,z,_⟩:=h0;have a2:=z;simp only[callee,hcl,ak]at z;obtain⟨gv,hg,z⟩:=z;have Y:=fx.ev hg;cases gv<;>try (cases z;done)
   rename_i d1 first C
   cases d1<;>try (cases z;done)
   rename_i a5;simp only[ak]at z;obtain⟨as,b2,z⟩:=z;simp only[aQ,bk]at z;obtain⟨rfl,rfl⟩:=z;have Y:VR G (.func (.func a5) first C) (a.eval g):=Y;generalize hgx:a.eval g=gx at Y;cases Y with
   |func hf c0=>
    rename_i fs cs;have a0:=(fx.evcs b2).1;have c2:bL G (first++(as++C)) (fs++(c.args.toList.map a.eval++cs)):=hf.append (a0.append c0);have a3:(execOp a.eval o).run Q.P w=(callFunc a5 ⟨fs++(c.args.toList.map a.eval++cs)⟩).run Q.P w:=by
     have:(((⟨fs⟩:il)++c.args.map a.eval)++(⟨cs⟩:il))=⟨fs++(c.args.toList.map a.eval++cs)⟩:=by
      apply pV;simp
     simp only[execOp,V,resolve,hcl,hgx,Deferred.ofValue,Sem.run_bind,Sem.run_pure,mg,invoke,this]
    have b8:=hc a5 (first++(as++C)) mk s s2 G w _ ch A p c2 hi (λq ha hb=>by
     grind [pk,ak])
    have fin:∀y w',(∃q v s' s2' G',Iv Q n a5 (first++(as++C)) mk ch G s s2 w y w' q v s' s2' G')->K (a.put o.dst y) w':=by
     rintro y w' ⟨q,v,s',s2',G',c⟩;refine hK y w' q v fr.loc s' s2' G' B ⟨c.agree,c.inb,?_,c.same,c.wr,c.ext.toL _,fx.locs.ext c.ext,LV.of_VR c.val,λ_ _ h=>h.mono c.ext.le,λ_ h=>.inl h⟩;rw[U];simp only[pk,a2,aG,c.eval]
    refine⟨λ_ _=>Bo ro _,?_⟩;rw[Oper.semAt_eq _ _ _ a4,a3];rcases b8 with⟨y,w',h1,h2⟩|⟨h1,h2⟩
    rw[h1];exact fin y w' h2;rw[h1];refine⟨OD ro 0,Wq.2 (h2.mono ?_)⟩
    grind
 case defer c=>
  obtain⟨v,loc',s',h1,_⟩:=he ch (.refl _ _) hi
  grind [fC,lF]
 all_goals exact plain (λc h=>by rw[V]at h;cases h) λq s=>by simp only[fC,V];rfl
section
variable{mk:aI}{A:tB}{fr fr' fr'':Fr}{G G' G'':Gh}{B B' B'':dd}{s s' s'' s2 s2' s2'':St}{a a' a'':Act}{w w' w'':World}
def M6.after{p:dd}{loc':Loc}(fx:cu G s2.heap B fr a.tmps w)(q:M6 Q n f o mk fr ch G B s s2 w x w' p v loc' s' s2' G' B')(hp:d8 fr o.dst v loc'=X fr'):
 o7 mk fr G B s s2 a w fr' G' B' s' s2' (a.put o.dst x) w' where
 goes:=(G6 (Q:=Q) (lO Q n) f o mk fr p s v loc' s' q.eval).1
 same:=q.same
 wr:=q.wr
 ext:=q.ext
 fx:=fx.put hp q.locs q.val q.old
 boxes b h:=q.boxes b (by rw[(t9 hp).2.1]at h;exact h)
 defers:=⟨[],Nh _ _ _,.nil _ _⟩
def Tr(G:Gh):VR G jE undef:=.tup .nil
def o7.skip(p:lA mk A G s s2 w)(fx:cu G s2.heap B fr a.tmps w)(hp:d8 fr dst jE fr.loc=X fr'):
 o7 mk fr G B s s2 a w fr' G B s s2 (a.put dst undef) w where
 goes:=.refl _ _
 same:=.refl p.sees
 wr:=p.wr
 ext:=ce.refl.toL _
 fx:=fx.put hp fx.locs (LV.of_VR (Tr G)) λ_ _ h=>h
 boxes b h:=.inl (by rw[(t9 hp).2.1]at h;exact h)
 defers:=⟨[],Nh _ _ _,.nil _ _⟩
end
noncomputable def vN(Q:ay)(n:Nat)(f:FuncId)(all:nt)(mk:aI)(l:CE)(fr:Fr)(s:St)(ch:dd):F0:=
 ((bX (Q.at ch) n).ops f all mk l fr s).bind λx=>X (.normal,x.1,x.2)
def IG(Q:ay)(n:Nat):Prop:=
 ∀(ro:pX)(f:FuncId)(all:nt)(mk:aI)(l:CE)(i:Nat)(fr:Fr)(ch:dd)(A:tB)(G:Gh)(B:dd)(s s2:St)(a:Act)(w:World),
  lA mk A G s s2 w->cu G s2.heap B fr a.tmps w->lw Q ch->(∀k o,l[k]?=X o->all[i+k]?=X o)->ta Q A ch s (vN Q n f all mk l fr s)->
  ∀K:Exit->Act->World->Prop,(∀a' w',uN Q mk ch fr G B s s2 a w (vN Q n f all mk l fr s) .normal a' w'->K .normal a' w')->wpOpsIn (mt ro) 0 Q.P all K (List.range' i (J l)) a w
def azq{all:nt}{l:CE}{s:St}{x:Ex}{s':St}(h:vN Q n f all mk l fr s ch=X (x,fr',s')):fQ mk s s':=by
 simp only[vN,ak,aQ,bk]at h;obtain⟨⟨fr1,s1⟩,h1,_,_,rfl⟩:=h;exact((lO Q n).ops f all mk l fr ch s fr1 s1 h1).1
theorem azr(hc:yU Q n)(a5:sV Q n)(hn:IG Q n):IG Q (n+1):=by
 intro ro f all mk l i fr ch A G B s s2 a w p fx hi hl Y K hK;cases l with
 |nil=>
  simp only[List.length_nil,List.range'_zero,wpOpsIn];exact hK a w ⟨ch,fr,s,s2,G,B,.refl _ _,hi,rfl,.refl p fx⟩
 |cons o z=>
  have ho:all[i]?=X o:=hl 0 o rfl;have a1:∀k o,z[k]?=X o->all[i+1+k]?=X o:=λk o' hk=>by
   have:=hl (k+1) o' (by simpa using hk)
   grind
  simp only[List.length_cons,List.range'_succ,wpOpsIn,ho,fx.wanted];cases hw:fw all fr.env o with
  |false=>
   simp only[E6,if_false];have C:∀c,vN Q (n+1) f all mk (o::z) fr s c=((d8 fr o.dst jE fr.loc).bind λfr'=>vN Q n f all mk z fr' s c):=by
    intro c;show((mG (Q.at c) (bX (Q.at c) n) f all mk (o::z) fr s).bind _)=_;simp only[mG,hw,cF,vN];cases d8 fr o.dst jE fr.loc<;>rfl
   obtain⟨x0,a2,s0,h0,_⟩:=Y ch (.refl _ _) hi;rw[C]at h0;simp only[ak]at h0;obtain⟨fr1,V,_⟩:=h0;have T:=o7.skip p fx (a:=a) V;refine⟨λ_ _=>Bo ro _,?_⟩;refine hn ro f all mk z (i+1) fr1 ch A G B s s2 _ w p T.fx hi a1 ?_ K ?_;intro c h1 E
   have:=Y c h1 E;rw[C,V]at this;exact this;intro a' w' ⟨c,fr',s',s2',G',B',h1,E,U,h4⟩;refine hK a' w' ⟨c,fr',s',s2',G',B',h1,E,?_,T.trans h4⟩;rw[C,V];exact U
  |true=>
   simp only[if_true];have C:∀c,vN Q (n+1) f all mk (o::z) fr s c=((fC (Q.at c) (bX (Q.at c) n) f o mk fr s).bind λx=>(d8 fr o.dst x.1 x.2.1).bind λfr'=>vN Q n f all mk z fr' x.2.2 c):=by
    intro c;show((mG (Q.at c) (bX (Q.at c) n) f all mk (o::z) fr s).bind _)=_;simp only[mG,hw,cT,vN];rcases fC (Q.at c) (bX (Q.at c) n) f o mk fr s with _|x
    rfl
    grind
   refine adc (f:=f) (fr:=fr) hc a5 ro p fx hi ?_ _ K ?_;intro c h1 E;obtain⟨x0,a2,s0,h0,hA⟩:=Y c h1 E;rw[C]at h0;simp only[ak]at h0;obtain⟨⟨v,loc',s1⟩,U,fr1,_,h5⟩:=h0;exact⟨v,loc',s1,U,λm hm a4=>hA m hm (fP a4 (azq h5).aL)⟩;intro x w' c1 v loc' s1 a3 G1 B1 q;obtain⟨x0,a2,s0,h0,_⟩:=Y c1 q.agree q.inb;rw[C,q.eval]at h0;simp only[aG,ak]at h0;obtain⟨fr1,V,_⟩:=h0;have T:=q.after fx V;have a0:∀c,kW s1.ci c1 c->fC (Q.at c) (bX (Q.at c) n) f o mk fr s=X (v,loc',s1):=λc a6=>
    FH (Q:=Q) (lO Q n) (se Q n) f o mk fr c1 s v loc' s1 q.eval c a6
   refine hn ro f all mk z (i+1) fr1 c1 A G1 B1 s1 a3 _ w' (p.after T) T.fx q.inb a1 ?_ K ?_;intro c h1 E;obtain⟨y,fr',s',U,h4⟩:=Y c (q.agree.trans h1 T.goes.ci) E;rw[C,a0 c h1]at U;simp only[aG,V]at U;exact⟨y,fr',s',U,λm hm=>h4 m (dg T.goes.aL hm)⟩;intro a' w'' ⟨c,fr',s',s2',G',B',h1,E,U,h4⟩;refine hK a' w'' ⟨c,fr',s',s2',G',B',q.agree.trans h1 T.goes.ci,E,?_,T.trans h4⟩
   grind
def LB.congr(h:∀u,lz l l2 u):LB B l b->LB B l2 b:=by
 rintro⟨t,cs,h1,p⟩;refine⟨t,cs,?_,p⟩;rw[<-(h t).1,<-(h t).2];exact h1
def cu.congr{G:Gh}{p:Fr}(x:cu G h B fr tmps w)(hs:p.size=fr.size)(he:∀d,ac p.env d=ac fr.env d)(hl:∀u,lz fr.loc p.loc u):cu G h B p tmps w where
 size:=x.size.trans hs.symm
 env t:=by
  have:=x.env t;rw[he t];revert this;generalize ac fr.env t=v;generalize tmps.getD t undef=y;intro z;cases v<;>first
   |exact z
   |(obtain⟨h1,h2,h3⟩:=z
     exact⟨by rw[<-(hl _).1];exact h1,h2,λe=>h3 (by rw[(hl _).1];exact e)⟩)
 locs:=by
  have q:∀t cs,p.loc.get t (p.loc.gen t)=X cs->fr.loc.get t (fr.loc.gen t)=X cs:=λt cs h=>by
   rw[(hl t).1,(hl t).2];exact h
  exact⟨λt cs h=>x.locs.cells t cs (q t cs h),λt cs h=>x.locs.free t cs (q t cs h),λt cs h=>x.locs.ro t cs (q t cs h),
   λt u cs C h h'=>x.locs.inj t u cs C (q t cs h) (q u C h')⟩
section
variable{Q:ay}{f:FuncId}{all:nt}{mk:aI}{F:h_}{S:n_}{M:u_}{lv:dd}{Lo:g_}
theorem aN.untouched(t:aN Q f all mk F S M lv Lo){k:Nat}(z:k<all.size)(h:¬aN.Th Q f all F S M k n):(S (k+1)).heap.get n=(S k).heap.get n:=by
 have p:all[k]?=some all[k]:=sM z;cases hw:fw all (F k).env all[k]with
 |true=>
  obtain⟨v,loc',s1,_,_,_,q,_,g⟩:=t.done p hw;rw[q];refine g.frame n λy=>h ⟨_,p,hw,?_⟩;rw[q];exact y
 |false=>
  rcases t.step p with⟨h',_⟩|⟨_,_,h'⟩<;>grind
theorem aN.X_from(t:aN Q f all mk F S M lv Lo){k:Nat}(h:aN.X Q f all F S M H n k=(S k).heap.get n):∀{j:Nat},k<=j->j<=all.size->aN.X Q f all F S M H n j=(S j).heap.get n
 |0,h1,_=>by grind
 |j+1,h1,h2=>by
  by_cases e:k=j+1;subst e;exact h;have p:=t.X_from h (j:=j) w_ w_;rw[aN.X];split;rfl;rename_i q;rw[p,t.untouched w_ q]
def aN.Th_touch(t:aN Q f all mk F S M lv Lo):∀{k:Nat},k<=all.size->dG mk n=I->(S k).heap.get n≠Z->mT mk (S 0) (S k) n
 |0,_,hn,h=>.inl ⟨hn,h⟩
 |k+1,hk,hn,h=>by
  have y:=t.next_le (sM (show k<all.size from w_));by_cases hT:aN.Th Q f all F S M k n;obtain⟨o,C,z,q⟩:=hT;rcases q with⟨_,p⟩|p
  exact(t.Th_touch (k:=k) w_ hn p).imp id λh=>⟨h.1,w_⟩;exact .inr ⟨dg (t.mono (fT k) w_) p.1,p.2⟩;rw[t.untouched w_ hT]at h;exact(t.Th_touch (k:=k) w_ hn h).imp id λh=>⟨h.1,w_⟩
theorem aN.hid(t:aN Q f all mk F S M lv Lo){k:Nat}(p:all[k]?=some o)(h:dG (aN.fm Q f F S M k o) n=I):dG mk n=I:=by
 cases e:dG mk n;rfl
 have:=t.tr.more k o (by simpa using p) n e
 grind [aN.fm,OO]
theorem aN.same(t:aN Q f all mk F S M lv Lo)(h0:∀n o,dG mk n=I->(S 0).heap.get n=some o->s2.get n=some o)(n:Nat):
 (mT mk (S 0) (S all.size) n->aN.X Q f all F S M s2.get n all.size=(S all.size).heap.get n)/\(¬mT mk (S 0) (S all.size) n->aN.X Q f all F S M s2.get n all.size=s2.get n):=by
 constructor;rintro(⟨h1,q⟩|⟨h1,q⟩);refine t.X_from (k:=0) ?_ (fT _) (aC _);rcases e:(S 0).heap.get n with _|o
 exact absurd e q;exact h0 n o h1 e;have:∃k,k<all.size/\(S k).aL<=n/\n<(S (k+1)).aL:=by
  have p:∀j,j<=all.size->n<(S j).aL->∃k,k<all.size/\(S k).aL<=n/\n<(S (k+1)).aL:=by
   intro j
   induction j with
   |zero=>intro _ h;omega
   |succ j C=>
    grind
  exact p _ (aC _) q
 obtain⟨k,V,h3,Y⟩:=this;have y:all[k]?=some all[k]:=sM V;have z:fw all (F k).env all[k]=O:=by
  cases z:fw all (F k).env all[k]with
  |true=>rfl
  |false=>
   rcases t.step y with⟨h',_⟩|⟨_,_,h'⟩<;>grind
 refine t.X_from (k:=k+1) ?_ w_ (aC _);rw[aN.X,iP ⟨_,y,z,.inr ⟨h3,Y⟩⟩];intro E;have p:∀j,j<=all.size->aN.X Q f all F S M s2.get n j=s2.get n:=by
  intro j
  induction j with
  |zero=>intro _;rfl
  |succ j C=>
   intro hj;rw[aN.X,iN];exact C w_;rintro⟨o,y,z,T⟩;have hm:=t.mono (show j+1<=all.size from w_) (aC _);rcases T with⟨h1,q⟩|⟨h1,q⟩
   have U:=t.mono (show j<=all.size from w_) (aC _);exact E ((t.Th_touch (show j<=all.size from w_) (t.hid y h1) q).imp id λh=>⟨h.1,w_⟩);exact E (.inr ⟨dg (t.mono (fT j) w_) h1,w_⟩)
 exact p _ (aC _)
end
noncomputable def Ol(Q:ay)(n:Nat)(f:FuncId)(all:nt)(mk:aI)(fr:Fr)(s:St)(ch:dd):F0:=
 ((bX (Q.at ch) n).draw f all (Region.before all).toList mk [] 0 all.toList fr s).bind λx=>X (.normal,x.1,x.2)
abbrev E_:=Array Bool
structure TP (Q:ay) (f:FuncId) (all:nt) (F:h_) (S:n_) (M:u_) (B:dd) (G:Gh) (s2:St) (a:Act) (w:World) (listed:E_) (a':Act) (w':World)
 (fr':Fr) (h:aB aH) (G':Gh) (B':dd):Prop where
 size:listed.size=all.size
 closed:MS all (λk=>listed.getD k false=true)
 cur:kJ Q f all F S M s2.heap.get (λk=>listed.getD k false=true) fr' h.get
 wr:WR G' h w'
 ext:iR G s2.heap w G' h w' (S 0).aL (S all.size).aL (LB B (F 0).loc)
 fx:cu G' h B' fr' a'.tmps w'
 boxes:∀b,LB B' fr'.loc b->LB B (F 0).loc b\/w.heap.size<=b
 defers:∃rs,a'.defers=rs.map vC++a.defers/\wS w.heap.size w' rs
 free:∀k,k<all.size->listed.getD k false=false->∀m,(S k).aL<=m->m<(S (k+1)).aL->G'.at_ m=none
def kJ.congr{all:nt}{S:n_}{y:tB}{h:U_}(c:kJ Q f all F S M H D fr h)(q:∀k,k<all.size->(D k↔y k)):kJ Q f all F S M H y fr h where
 env t:=(c.env t).trans (He (X_:=λk=>ac (F k).env t) λk p _=>q k p)
 size:=c.size
 loc u:=(c.loc u).trans (He (X_:=aN.L F u) λk p _=>q k p)
 heap n:=(c.heap n).trans (He (X_:=aN.X Q f all F S M H n) λk p _=>q k p)
theorem JE{listed:E_}(hi:i<listed.size)(k:Nat):(listed.setIfInBounds i O).getD k I=O↔(listed.getD k I=O\/k=i):=by
 simp only[uE,MD]
 grind
def wt(listed:E_):Nat:=listed.toList.countP (λb=> !b)
theorem aFk{listed:E_}(h:listed.getD i O=I):wt (listed.setIfInBounds i O)+1=wt listed:=by
 obtain⟨l⟩:=listed;simp only[wt,List.setIfInBounds_toArray,uE,MH]at*
 grind
def aFj{listed:E_}(h:wt listed=0)(k:Nat)(p:k<listed.size):listed.getD k I=O:=by
 obtain⟨l⟩:=listed;simp only[wt,List.countP_eq_zero]at h;simp only[Ir]at p
 have:=h l[k] (List.getElem_mem p)
 simp_all
theorem akD{all:nt}{G:Gh}{s2:St}{S:n_}(t:aN (Q.at ch) f all mk F S M lv Lo)(ro:pX)(hc:∀k,k<all.size->yU Q (lv k)/\sV Q (lv k))(hi:lw Q ch)(h0:∀n o,dG mk n=I->(S 0).heap.get n=X o->s2.heap.get n=X o)(K:Exit->Act->World->Prop)(hK:∀listed a' w' fr' h G' B',(∀k,k<all.size->listed.getD k I=O)->TP (Q.at ch) f all F S M B G s2 a w listed a' w' fr' h G' B'->K .normal a' w'):
 ∀(z:Nat)(listed:E_)(a':Act)(w':World)(fr':Fr)(h:aB aH)(G':Gh)(B':dd),wt listed=z->
  TP (Q.at ch) f all F S M B G s2 a w listed a' w' fr' h G' B'->wpAnyIn (mt ro) 0 Q.P .any all K z listed a' w':=by
 intro z
 induction z with
 |zero=>
  intro listed a' w' fr' h G' B' hu m;have b3:∀k,k<all.size->listed.getD k I=O:=λk hk=>aFj hu k (by rw[m.size];exact hk);refine⟨?_,hK listed a' w' fr' h G' B' b3 m⟩;rw[List.eq_nil_iff_forall_not_mem]
  grind [mem_ready]
 |succ z ih=>
  intro listed a' w' fr' h G' B' hu m;refine⟨λhr=>?_,λi hi'=>?_⟩
  ·
   exfalso;have b5:∀k,k<all.size->listed.getD k I=O:=by
    intro k
    induction k using Nat.strongRecOn with
    |_ k c4=>
     intro hk;have ho:all[k]?=X all[k]:=sM hk;have a1:k ∉ Region.ready .any all listed:=by rw[hr];simp
     rw[mem_ready]at a1;have c5:k<listed.size:=by rw[m.size];exact hk
     cases e:listed.getD k I;exfalso;apply a1;refine⟨?_,all[k],ho,λed b8 p=>?_⟩
     grind
     have C:=UB t.ap k all[k] (by simp) ed b8 p
     grind
     rfl
   have hz:wt listed=0:=by
    obtain⟨l⟩:=listed;simp only[wt,List.countP_eq_zero];intro b p;obtain⟨k,hk,rfl⟩:=List.getElem_of_mem p;have hs:=m.size;simp only[Ir]at hs
    have:=b5 k w_;simp only[uE,MH,List.getElem?_eq_getElem hk,yQ]at this;simp[this]
   omega
  rw[mem_ready]at hi';obtain⟨h1,o,ho,h2⟩:=hi';have C:=aN.lt_size ho;have Y:i<listed.size:=by rw[m.size];exact C
  have b1:¬listed.getD i I=O:=by
   simp only[uE,sM Y,yQ]at h1⊢;rw[h1];simp
  have b0:listed.getD i I=I:=by simpa using b1
  have x:mj all (λk=>listed.getD k I=O) i o:=⟨m.closed,ho,b1,h2⟩;have a8:wt (listed.setIfInBounds i O)=z:=by have:=aFk h1;omega
  have a0:(listed.setIfInBounds i O).size=all.size:=by rw[Array.size_setIfInBounds];exact m.size
  have a3:MS all (λk=>(listed.setIfInBounds i O).getD k I=O):=by
   intro j oj V b6 e he p;rw[JE Y]at V⊢;rcases V with V|rfl
   exact .inl (m.closed j oj V b6 e he p)
   grind
  have a2:∀{G1:Gh}{b4:aB aH}{w1:World}{L:tB},iR G' h w' G1 b4 w1 (S i).aL (S (i+1)).aL L->
   ∀k,k<all.size->(listed.setIfInBounds i O).getD k I=I->∀q,(S k).aL<=q->q<(S (k+1)).aL->G1.at_ q=Z:=by
   intro G1 b4 w1 L ex k hk c6 q a7 a6;have b2:¬(listed.getD k I=O\/k=i):=λh=>by
    grind [JE]
   have b7:listed.getD k I=I:=by
    cases e:listed.getD k I;rfl;exact absurd (.inl e) b2
   have c2:=m.free k hk b7 q a7 a6;rcases e:G1.at_ q with _|ad
   rfl;obtain⟨e1,e2⟩:=ex.names q ad e c2;rcases Nat.lt_trichotomy k i with h|h|h
   have:=t.mono (show k+1<=i from w_) w_;omega;exact absurd (.inr h) b2
   have:=t.mono (show i+1<=k from w_) w_;omega
  unfold wpOpIn;simp only[ho];rw[m.fx.wanted,m.cur.wanted t x];cases hw:fw all (F i).env o with
  |false=>
   simp only[E6,if_false];obtain⟨fr1,hp,U⟩:=m.cur.skip t x hw;refine⟨λ_ _=>Bo ro _,?_⟩;refine ih _ _ _ fr1 h G' B' a8 ⟨a0,a3,U.congr λk _=>(JE Y k).symm,m.wr,m.ext,m.fx.put hp m.fx.locs (LV.of_VR (Tr G')) λ_ _ h=>h,?_,?_,?_⟩;intro b p;rw[(t9 hp).2.1]at p;exact m.boxes b p;rw[Nh];exact m.defers;exact a2 (L:=λ_=>False) (ce.refl.toL _)
  |true=>
   simp only[if_true];obtain⟨v,T,s1,fr1,e1,e2,e3,hp,U⟩:=m.cur.run t h0 x hw;have a5:=m.cur.sees t h0 x hw;have a9:lA (aN.fm (Q.at ch) f F S M i o) (λq=>q<(S (i+1)).aL) G' (aN.from_ S i (S i).heap) (aN.from_ S i h) w':=
    ⟨λn hn=>t.none_above (wL C) n hn,a5,m.wr,λq a7 a6=>m.free i C b0 q a7 a6⟩
   refine adc (hc i C).1 (hc i C).2 ro a9 m.fx hi (f:=f) (fr:=fr') ?_ _ K ?_;intro c c1 _
   have:=FH (Q:=Q) (lO Q (lv i)) (se Q (lv i)) f o (aN.fm (Q.at ch) f F S M i o) fr' ch (aN.from_ S i (S i).heap) v T s1 e1 c (λj V=>c1 j (by rw[e2]at V;exact V))
   grind
   intro y w1 c v' loc' c3 a4 G1 B1 q
   have:=FH (Q:=Q) (lO Q (lv i)) (se Q (lv i)) f o (aN.fm (Q.at ch) f F S M i o) fr' ch (aN.from_ S i (S i).heap) v T s1 e1 c (λj V=>q.agree j (by rw[e2]at V;exact V));have hq:=q.eval;have this:fC (Q.at c) (bX (Q.at c) (lv i)) f o (aN.fm (Q.at ch) f F S M i o) fr' (aN.from_ S i (S i).heap)=X (v,T,s1):=this;rw[this]at hq;simp only[aQ,bk]at hq;obtain⟨rfl,rfl,rfl⟩:=hq;have c0:=U a4 q.same;have af:=q.after m.fx hp;have ex:iR G' h w' G1 a4.heap w1 (S i).aL (S (i+1)).aL (LB B' fr'.loc):=by
    have:=q.ext;rw[e3]at this;exact this
   refine ih _ _ _ fr1 a4.heap G1 B1 a8 ⟨a0,a3,c0.congr λk _=>(JE Y k).symm,q.wr,?_,af.fx,?_,VV m.wr m.fx m.defers m.ext.size ex af.defers,a2 ex⟩;have E:=m.ext;have x2:=ex.widen (lo':=(S 0).aL) (hi':=(S all.size).aL) (t.mono (fT i) (wL C)) (t.mono (show i+1<=all.size from w_) (aC _));exact⟨E.le.trans x2.le,dg E.size x2.size,
    λb p ho hl=>(x2.keepW b (fP p E.size) (λo=>ho (E.ownsW b p o)) (λl=>(m.boxes b l).elim hl (λh=>w_))).trans (E.keepW b p ho hl),
    λb p o=>E.owns b p (x2.owns b (fP p E.size) o),
    λn ad h h0=>by
     rcases e:G'.at_ n with _|b
     exact x2.names n ad h e;exact E.names n b e h0,
    λb o v p h h0=>by
     rcases e:G'.ro b o with _|u
     exact E.owns b p (x2.cells b o v (fP p E.size) h e);exact E.cells b o u p e h0,
    E.quiet.trans x2.quiet,
    λb p o=>E.ownsW b p (x2.ownsW b (fP p E.size) o)⟩
   intro b p;rcases af.boxes b p with h'|h'
   exact m.boxes b h';exact .inr (dg m.ext.size h')
theorem akE(hm:Q.P.follows .mixedOrders=O)(ro:pX)(hc:∀k,k<n->yU Q k/\sV Q k){all:nt}{G:Gh}{s s2:St}{id:Nat}(p:lA mk A G s s2 w)(fx:cu G s2.heap B fr a.tmps w)(hi:lw Q ch)(a1:nD all 0 all.toList (Region.before all).toList=O)(hs:ta Q A ch s (Ol Q n f all mk fr s))(K:Exit->Act->World->Prop)(hK:∀a' w',uN Q mk ch fr G B s s2 a w (Ol Q n f all mk fr s) .normal a' w'->K .normal a' w'):(Code.region id all O).wpIn (mt ro) 0 Q.P K a w:=by
 obtain⟨x0,fr1,s1,h0,hA⟩:=hs ch (.refl _ _) hi;have a2:=h0;simp only[Ol,ak,aQ,bk]at h0;obtain⟨⟨Y,s2'⟩,hd,hx,hf,U⟩:=h0;subst hx;dsimp only at hf U;subst hf;subst U;obtain⟨F,S,M,lv,Lo,eF,T,C,y,a3,tr⟩:=Om hd;rw[dS,Array.length_toList]at C y;have t:aN (Q.at ch) f all mk F S M lv Lo:=⟨tr,a1,by rw[T];exact p.fresh⟩;have z:∀n o,dG mk n=I->(S 0).heap.get n=X o->s2.heap.get n=X o:=by rw[T];exact p.sees.get
 have a0:=((lO Q n).draw f all _ mk [] 0 all.toList fr ch s Y s2' hd).1;refine wpIn_region_any hm ?_;refine akD (G:=G) (B:=B) (s2:=s2) (a:=a) (w:=w) t ro (λk E=>hc _ ?_) hi z K ?_ all.size _ a _ (F 0) s2.heap G B ?_ ?_
 simp_all
 ·intro listed a' w' fr' h G' B' V m
  obtain⟨c1,c2,c3,c4⟩:=m.cur.fin V;refine hK a' w' ⟨ch,Y,s2',⟨h,s2'.aL,s2'.gE,s2'.ci⟩,G',B',.refl _ _,hi,a2,a0,⟨rfl,rfl,rfl,?_,?_⟩,m.wr,?_,?_,?_,m.defers⟩;intro n hn;show h.get n=_;rw[c4,<-y];exact(t.same z n).1 (by rw[T,y];exact hn);intro n hn;show h.get n=_;rw[c4];exact(t.same z n).2 (by rw[T,y];exact hn)
  have:=m.ext;rw[T,y,eF]at this;exact this
  ·refine m.fx.congr ?_ ?_ ?_
   rw[<-C,c1];exact t.size_eq (aC _)
   all_goals grind
  intro b hb;rw[<-eF];refine m.boxes b (LB.congr (λu=>?_) hb);rw[<-C];exact(c3 u).symm
 simp[wt,List.countP_replicate];refine⟨by simp,?_,?_,p.wr.of_heap rfl,(ce.of_heap (w:=w) (w':= {w with drawn:=w.drawn+1 }) rfl ⟨rfl,rfl,rfl,iy _⟩).toL _,?_,λb h=>.inl h,⟨[],rfl,.nil _ _⟩,?_⟩;intro j o hj;simp[uE,TG]at hj;split at hj<;>simp at hj;refine kJ.start λk E=>?_;simp[uE,TG]at E;split at E<;>simp at E;rw[eF];exact⟨fx.size,fx.env,⟨fx.locs.cells,fx.locs.free,fx.locs.ro,fx.locs.inj⟩⟩;intro k E _ q h1 h2;have l1:=t.mono (fT k) (wL E);have l2:=t.mono (show k+1<=all.size from w_) (aC _);rw[T]at l1;rw[y]at l2;exact p.free q w_ (hA q w_ w_)
structure AL (Q:ay):Prop where
 mixed:Q.P.follows .mixedOrders=true
 spec:afV Q
 specH:afU Q
 specW:afX Q:=by intro f sp h;cases h
 specN:afW Q:=by intro f sp h e;cases e
 names: ∀(f:Nat) (fn:Func),Q.P.funcs[f]? =some fn->(fn.name== "runtime.NumGoroutine")=false
section
variable{Q:ay}{n:Nat}
noncomputable def LY(Q:ay)(n:Nat)(f:FuncId)(y:Code)(mk:aI)(x:Ex)(fr:Fr)(s:St)(c:dd):F0:=pP (bX (Q.at c) n) f y mk (x,fr,s)
theorem ael(hn:sV Q n)(ro:pX){x y:Code}{G:Gh}{s s2:St}(hf:ro≠Z->dM x=O)(V:yY ro G s2.heap w)(p:lA mk A G s s2 w)(fx:cu G s2.heap B fr a.tmps w)(hi:lw Q ch)(hs:ta Q A ch s (λc=>(kZ Q n f x mk fr s c).bind λr=>LY Q n f y mk r.1 r.2.1 r.2.2 c))(K:Exit->Act->World->Prop)(KY:Act->World->Prop)(hK:∀e a' w',uN Q mk ch fr G B s s2 a w (λc=>(kZ Q n f x mk fr s c).bind λr=>LY Q n f y mk r.1 r.2.1 r.2.2 c) e a' w'->K e.to a' w')(hY:∀T z ch1 fr1 s1 q G1 U,yY ro G1 q.heap z->lA mk A G1 s1 q z->cu G1 q.heap U fr1 T.tmps z->lw Q ch1->ta Q A ch1 s1 (kZ Q n f y mk fr1 s1)->
  (∀e a' w',uN Q mk ch1 fr1 G1 U s1 q T z (kZ Q n f y mk fr1 s1) e a' w'->K e.to a' w')->KY T z):x.wpIn (mt ro) 0 Q.P (Exit.then KY K) a w:=by
 have C:=Od Q n f x mk fr s;refine(hn ro f x mk fr ch A G B s s2 a w hf V p fx hi (hs.first ?_) _ ?_).1;intro e fr' s' c e2 fr'' s'' h;unfold LY at h;cases e with
 |normal=>exact(VN (n:=n) h).aL
 |exit id=>grind [pP]
 |ret=>grind [pP]
 rintro e T z ⟨c1,fr1,s1,q,G1,U,h1,h2,Y,E⟩;cases e with
 |normal=>
  refine hY T z c1 fr1 s1 q G1 U (V.after fx E) (p.after E) E.fx h2 ?_ ?_;exact hs.second C h1 Y E.goes.ci E.goes.aL;intro e a' w' pp;exact hK e a' w' (uN.second (E2:=λx fr s c=>LY Q n f y mk x fr s c) C h1 Y E pp)
 |exit id=>
  refine hK (.exit id) T z ⟨c1,fr1,s1,q,G1,U,h1,h2,?_,E⟩;simp only[Y,aG];rfl
 |ret=>
  refine hK .ret T z ⟨c1,fr1,s1,q,G1,U,h1,h2,?_,E⟩;simp only[Y,aG];rfl
theorem aj3(g1:AL Q)(hn:sV Q n)(ho:IG Q n)(e6:yU Q n)(hc:∀k,k<n->yU Q k/\sV Q k):sV Q (n+1):=by
 intro ro f c mk fr ch A G B s s2 a w a5 b1 p fx hi hs K hK;cases c with
 |skip=>exact⟨wpIn_skip (hK .normal a w ⟨ch,fr,s,s2,G,B,.refl _ _,hi,rfl,.refl p fx⟩),by simp⟩
 |label l=>exact⟨wpIn_label (hK .normal a w ⟨ch,fr,s,s2,G,B,.refl _ _,hi,rfl,.refl p fx⟩),by simp⟩
 |ret=>exact⟨wpIn_ret (hK .ret a w ⟨ch,fr,s,s2,G,B,.refl _ _,hi,rfl,.refl p fx⟩),by simp⟩
 |exit id=>exact⟨wpIn_exit (hK (.exit id) a w ⟨ch,fr,s,s2,G,B,.refl _ _,hi,rfl,.refl p fx⟩),by simp⟩
 |seq x y=>
  have a5:ro≠Z->dM x=O/\dM y=O:=λh=>by simpa[dM]using a5 h
  refine⟨wpIn_seq (ael hn ro (λh=>(a5 h).1) b1 p fx hi hs K _ hK ?_),by simp⟩;intro a1 w1 ch1 fr1 s1 d2 G1 B1 d4 p1 f0 d7 b8 e9;exact(hn ro f y mk fr1 ch1 A G1 B1 s1 d2 a1 w1 (λh=>(a5 h).2) d4 p1 f0 d7 b8 K e9).1
 |cond x y z=>
  refine⟨?_,by simp⟩;obtain⟨e0,c4,s0,h0,_⟩:=hs ch (.refl _ _) hi;have h0:(ev fr.env x).bind (Dd (bX (Q.at ch) n) f y z mk fr s)=X (e0,c4,s0):=h0;simp only[ak]at h0;obtain⟨v,hv,h0⟩:=h0;have hl:=fx.ev hv;cases v<;>try (cases h0;done)
  rename_i b;have hl:VR G (.bool b) (a.eval x):=hl;have hx:a.eval x=.bool b:=by
   generalize a.eval x=u at hl;cases hl;rfl
  have a2:∀c,kZ Q (n+1) f (.cond x y z) mk fr s c=kZ Q n f (if b then y else z) mk fr s c:=by
   intro c;show(ev fr.env x).bind (Dd (bX (Q.at c) n) f y z mk fr s)=_;rw[hv];cases b<;>rfl
  have a5:ro≠Z->dM (if b then y else z)=O:=λh=>by
   grind [dM]
  refine wpIn_cond hx (hn ro f _ mk fr ch A G B s s2 a w a5 b1 p fx hi ?_ K ?_).1;intro c h1 h2;have:=hs c h1 h2;rw[a2]at this;exact this;rintro e a' w' ⟨c,fr',s',s2',G',B',h1,h2,h3,h4⟩;exact hK e a' w' ⟨c,fr',s',s2',G',B',h1,h2,by rw[a2];exact h3,h4⟩
 |block id b=>
  refine⟨wpIn_block ?_,by simp⟩;have a2:∀c,kZ Q (n+1) f (.block id b) mk fr s c=(kZ Q n f b mk fr s c).bind λx=>X (qt id x):=λ_=>rfl;refine(hn ro f b mk fr ch A G B s s2 a w (λh=>by simpa[dM]using a5 h) b1 p fx hi ?_ _ ?_).1;intro c h1 h2;obtain⟨e,fr',s',h3,h4⟩:=hs c h1 h2;rw[a2]at h3;simp only[ak]at h3;obtain⟨⟨e1,fr1,s1⟩,h5,h6⟩:=h3;refine⟨e1,fr1,s1,h5,?_⟩;have:s1=s':=by
   cases e1<;>simp only[qt,aQ,bk]at h6;exact h6.2.2
   grind
   exact h6.2.2
  subst this;exact h4;rintro e a' w' ⟨c,fr',s',s2',G',B',h1,h2,h3,h4⟩;have a0:∀e',qt id (e,fr',s')=(e',fr',s')->K e'.to a' w':=λe' he=>
   hK e' a' w' ⟨c,fr',s',s2',G',B',h1,h2,by rw[a2,h3,aG,he],h4⟩
  cases e with
  |normal=>exact a0 .normal rfl
  |ret=>exact a0 .ret rfl
  |exit i=>
   show(if i=id then K .normal a' w' else K (.exit i) a' w');by_cases e:i=id;rw[iP e];refine a0 .normal ?_;subst e;simp[qt];rw[iN e];refine a0 (.exit i) ?_
   grind [fL,qt]
 |scope b=>
  have i0:ro=Z:=by
   rcases ro with _|l
   rfl
   grind [dM]
  subst i0;refine⟨(wpIn_wide (n:=0)).2 (wp_scope_straight ((wpIn_wide (n:=0)).1 ?_)),by simp⟩;refine(hn Z f b mk fr ch A G B s s2 a w (λh=>absurd rfl h) .none p fx hi hs _ ?_).1;intro e a' w' h
  have:=hK e a' w' h;cases e<;>exact this
 |loop b=>
  have e4:ro≠Z->dM b=O:=λh=>by simpa[dM]using a5 h
  have f5:Code.roundsIn (mt ro) 0 Q.P b K (n+1) a w:=by
   rw[roundsIn_succ];refine ael (y:=.loop b) hn ro e4 b1 p fx hi hs K _ hK ?_;intro a1 w1 ch1 fr1 s1 d2 G1 B1 d4 p1 f0 d7 b8 e9;exact(hn ro f (.loop b) mk fr1 ch1 A G1 B1 s1 d2 a1 w1 a5 d4 p1 f0 d7 b8 K e9).2 b rfl
  grind [wpIn_loop_rounds]
 |region id ops g7=>
  refine⟨?_,by simp⟩;cases g7;refine wpIn_region ?_
  have:=ho ro f ops mk ops.toList 0 fr ch A G B s s2 a w p fx hi (λk o hk=>by rw[dS];simpa using hk) hs K (λa' w' h=>hK .normal a' w' h)
  grind [List.range_eq_range']
  have a2:∀c,kZ Q (n+1) f (.region id ops O) mk fr s c=(bif nD ops 0 ops.toList (Region.before ops).toList then(bX (Q.at c) n).draw f ops (Region.before ops).toList mk [] 0 ops.toList fr s else Z).bind λx=>X (.normal,x.1,x.2):=λ_=>rfl;cases hap:nD ops 0 ops.toList (Region.before ops).toList;obtain⟨e0,c4,s0,h0,_⟩:=hs ch (.refl _ _) hi;rw[a2,hap]at h0;cases h0;simp only[hap,cT]at a2;refine akE g1.mixed ro hc p fx hi hap ?_ K ?_ (n:=n) (f:=f);intro c h1 h2;have:=hs c h1 h2;rw[a2]at this;exact this;rintro a' w' ⟨c,fr',s',s2',G',B',h1,h2,h3,h4⟩;exact hK .normal a' w' ⟨c,fr',s',s2',G',B',h1,h2,by rw[a2];exact h3,h4⟩
 |rangeFunc g ps Y V=>
  refine⟨?_,by simp⟩;obtain⟨e0,c4,s0,h0,j8⟩:=hs ch (.refl _ _) hi;have c6:∀c,kZ Q (n+1) f (.rangeFunc g ps Y V) mk fr s c=(ev fr.env g).bind (x8 (Q.at c) (bX (Q.at c) n) f ps.toList Y V mk fr s):=λ_=>rfl;rw[c6]at h0;simp only[ak]at h0;obtain⟨gv,hg,h0⟩:=h0;unfold x8 at h0;split at h0
  case h_2=>cases h0
  rename_i h first E
  obtain⟨hb,h0⟩:=aZ h0;have e7:=hb;simp only[bg]at hb;obtain⟨T,c0,i3,e4⟩:=hb;have c1:=fx.ev hg;have c1:VR G (.func (.func h) first E) (a.eval g):=c1;generalize hgx:a.eval g=gx at c1;cases c1 with
  |func g3 g4=>
  rename_i fs cs;have a2:∀c,kZ Q (n+1) f (.rangeFunc g ps Y V) mk fr s c=((bX (Q.at c) n).call h (first++(.yld s.aL::E)) mk (s.new (.loop f fr.env fr.size ps.toList Y V Z))).bind λx=>B8 mk s.aL fr x.2:=by
   intro c;have e7:(tH (Q.at c).P h&&(fr.env.all jC&&(dM Y&&dM V)))=O:=e7;rw[c6,hg];simp only[aG,x8,e7,cT]
  have b5:∀c x fr' s',kZ Q (n+1) f (.rangeFunc g ps Y V) mk fr s c=X (x,fr',s')->∃v s1 o,(bX (Q.at c) n).call h (first++(.yld s.aL::E)) mk (s.new (.loop f fr.env fr.size ps.toList Y V Z))=X (v,s1)/\
   s1.get mk s.aL=X o/\(∃f' b6 a7 d5 a' b' pe,o=.loop f' b6 a7 d5 a' b' pe/\x=HG pe)/\fr'=fr/\s'=s1.put s.aL Z:=by
   intro c x fr' s' h1;rw[a2]at h1;simp only[ak]at h1;obtain⟨⟨v,s1⟩,h2,h3⟩:=h1;simp only[B8,ak]at h3;obtain⟨o,h4,h5⟩:=h3;cases o with
   |loop f' b6 a7 d5 a' b' pe=>
    grind
   |cells _=>cases h5
   |tok=>cases h5
   |map _ _=>cases h5
   |iter _ _ _ _=>cases h5
   |fix _=>cases h5
  have i2:∀c v s1,(bX (Q.at c) n).call h (first++(.yld s.aL::E)) mk (s.new (.loop f fr.env fr.size ps.toList Y V Z))=X (v,s1)->s.aL+1<=s1.aL:=λc v s1 h1=>
   ((lO Q n).call h _ mk c _ v s1 h1).1.aL
  obtain⟨e1,fr1,s1,h1,j2⟩:=hs ch (.refl _ _) hi;have j1:A s.aL:=by
   obtain⟨v,b0,o,q1,_,_,_,q5⟩:=b5 _ _ _ _ h1;refine j2 _ (aC _) ?_
   have:=i2 _ _ _ q1;rw[q5];exact this
  have b3:G.at_ s.aL=Z:=p.free _ (aC _) j1;refine wpIn_rangeFunc ?_;intro fn _;obtain⟨a4,L,ds,w1,r1,f6,a9,x1,j5,i6,f9,c2,f8⟩:∃(a4:Loop)(L:Nat)(ds:be)(w1:World),(Instr.enterLoop fn a.tmps ps Y V (mt ro).round).run Q.P w=.ok (L,ds.map vC) w1/\
   (a4.state=.ready/\a4.pending=Z/\a4.tmps=a.tmps/\a4.params=ps/\a4.assign=Y/\a4.body=V)/\WR G s2.heap w1/\ce G s2.heap w G s2.heap w1 s.aL s.aL/\w.heap.size<=L/\L<w1.heap.size/\w1.heap[L]?=X (.loop a4)/\wS w.heap.size w1 ds/\¬eU G s2.heap L:=by
   cases ro with
   |none=>
    refine⟨{state:=.ready,pending:=Z,fn,tmps:=a.tmps,params:=ps,assign:=Y,body:=V,defers:=w.heap.size },w.heap.size+1,[w.heap.size],_,run_enterLoop_outer fn a.tmps ps Y V,⟨rfl,rfl,rfl,rfl,rfl,rfl⟩,?_⟩;obtain⟨g8,xA⟩:=p.wr.fresh (.deferred (X [])) trivial;obtain⟨a9,xB⟩:=g8.fresh (.loop {state:=.ready,pending:=Z,fn,tmps:=a.tmps,params:=ps,assign:=Y,body:=V,defers:=w.heap.size }) trivial;have h9:(w.alloc (.deferred (X []))).heap.size=w.heap.size+1:=by simp
    generalize hw1:(w.alloc (.deferred (X []))).alloc (.loop {state:=.ready,pending:=Z,fn,tmps:=a.tmps,params:=ps,assign:=Y,body:=V,defers:=w.heap.size })=w1 at*;have b8:w1.heap.size=w.heap.size+2:=by rw[<-hw1];simp
    refine⟨a9,(xA s.aL s.aL).trans (xB s.aL s.aL) (aC _) (aC _),iy _,w_,by rw[<-hw1,mU,iP h9.symm],?_,λo=>by have:=p.wr.owned_lt o;omega⟩;have c2:w1.heap[w.heap.size]?=X (.deferred (X [])):=by rw[<-hw1,mU,iN w_,mU,iP rfl]
    exact⟨by simp,λr hr=>by
     grind⟩
   |some l0=>
    obtain⟨⟨r0,h0⟩,_⟩:=b1 l0 rfl;refine⟨{state:=.ready,pending:=Z,fn,tmps:=a.tmps,params:=ps,assign:=Y,body:=V,defers:=r0.defers },w.heap.size,[],w.alloc (.loop {state:=.ready,pending:=Z,fn,tmps:=a.tmps,params:=ps,assign:=Y,body:=V,defers:=r0.defers }),?_,⟨rfl,rfl,rfl,rfl,rfl,rfl⟩,?_⟩
    simp_all [amo,Instr.enterLoop,run_getLoop]
    obtain⟨a9,xB⟩:=p.wr.fresh (.loop {state:=.ready,pending:=Z,fn,tmps:=a.tmps,params:=ps,assign:=Y,body:=V,defers:=r0.defers }) trivial;refine⟨a9,xB s.aL s.aL,aC _,by simp,by rw[mU,iP rfl],.nil _ _,λo=>by have:=p.wr.owned_lt o;omega⟩
  have i7:Fq G a4 fr.env fr.size ps.toList Y V Z:=by
   obtain⟨k1,k2,k3,k4,k5,k6⟩:=f6;refine⟨k1,k2,by rw[k3];exact fx.size,λt=>?_,by rw[k4],k5,k6,i3,e4⟩;rw[k3]
   have:=fx.env t;have f7:jC (ac fr.env t)=O:=by
    unfold ac;rcases hgt:fr.env.get t with _|v
    rfl;exact aB.all_get c0 hgt
   cases hv:ac fr.env t<;>rw[hv]at this f7<;>first|exact this|cases f7
  have b7:=a9.named (n:=s.aL) (a:=⟨L,0,Z⟩) (o:=.loop f fr.env fr.size ps.toList Y V Z) b3 i6 rfl f8 ⟨a4,f9,i7⟩ (λi v hv=>by
   rw[a9.aside_ro f9 trivial]at hv;cases hv)
  have b2:=G.name_le (⟨L,0,Z⟩:Addr) b3;have g5:(G.name s.aL ⟨L,0,Z⟩).at_ s.aL=X ⟨L,0,Z⟩:=by simp[Gh.name]
  have b7:WR (G.name s.aL ⟨L,0,Z⟩) (s2.new (.loop f fr.env fr.size ps.toList Y V Z)).heap w1:=by
   show WR _ (s2.heap.set s2.aL _) _;rw[p.sees.aL];exact b7
  have g0:=fQ.new mk s (.loop f fr.env fr.size ps.toList Y V Z);have d1:=fX.new p.sees (.loop f fr.env fr.size ps.toList Y V Z);have p2:lA mk A (G.name s.aL ⟨L,0,Z⟩) (s.new (.loop f fr.env fr.size ps.toList Y V Z)) (s2.new (.loop f fr.env fr.size ps.toList Y V Z)) w1:=
   ⟨p.fresh.goes g0,d1.sees p.sees g0,b7,λq hq i8=>by
    have hq:s.aL+1<=q:=hq;show(if q=s.aL then _ else G.at_ q)=Z;rw[iN w_];exact p.free q w_ i8⟩
  have e8:bL (G.name s.aL ⟨L,0,Z⟩) (first++(.yld s.aL::E)) (fs++(.func (.yield L) #[] #[]::cs)):=
   (g3.mono b2).append (.cons (.yld g5) (g4.mono b2))
  have i5:=e6 h _ mk _ _ _ w1 _ ch A p2 e8 hi (λa6 ha hb=>by
   obtain⟨x,fr',s',q1,q2⟩:=hs a6 ha hb;obtain⟨v,b0,o,q3,_,_,_,q5⟩:=b5 _ _ _ _ q1;refine⟨v,b0,q3,λq hq i1=>q2 q ?_ ?_⟩;have hq:s.aL+1<=q:=hq;omega;rw[q5];exact i1)
  have c7:(callFunc h ⟨fs++(.func (.yield L) #[] #[]::cs)⟩).run Q.P w1=.ok (.enter h ⟨fs++(.func (.yield L) #[] #[]::cs)⟩) w1:=by
   unfold tH at T;rcases b4:(Q.at ch).P.funcs[h]? with _|c5
   rw[b4]at T;cases T;rw[b4]at T;have b4:Q.P.funcs[h]?=X c5:=b4;have T:c5.body.isSome=O:=T;rcases hbb:c5.body with _|bb
   rw[hbb]at T;cases T;have j4:=g1.names h c5 b4
   simp_all [callFunc]
  have c3:Calls Q.P h ⟨fs++(.func (.yield L) #[] #[]::cs)⟩ w1 (λe w'=>∃y,e=.returned y/\∃a6 v s' s2' G',Iv Q n h (first++(.yld s.aL::E)) mk ch (G.name s.aL ⟨L,0,Z⟩) (s.new (.loop f fr.env fr.size ps.toList Y V Z)) (s2.new (.loop f fr.env fr.size ps.toList Y V Z)) w1 y w' a6 v s' s2' G'):=by
   rcases i5 with⟨y,w',h1,_⟩|⟨_,h2⟩
   rw[c7]at h1;cases h1;exact h2
  have f2:(⟨fs⟩:il)++ #[.func (.yield L) #[] #[]]++(⟨cs⟩:il)=⟨fs++(.func (.yield L) #[] #[]::cs)⟩:=by
   apply pV;simp
  refine⟨L,ds.map vC,w1, {target:=.fn (.func h) ⟨cs⟩,args:=⟨fs⟩++ #[.func (.yield L) #[] #[]] },w1,h,⟨fs++(.func (.yield L) #[] #[]::cs)⟩,w1,r1,?_,λf' _=>Bo ro f',?_,OD ro 0,?_⟩
  simp_all [resolve,Act.eval,Deferred.ofValue]
  simp only[invoke,f2];exact c7;refine Wq.2 (c3.mono ?_);rintro e w3 ⟨y,rfl,a6,v,s',s2',G',c⟩;have c9:kW s.ci ch a6:=c.agree;obtain⟨xx,k0,sx,hx,j7⟩:=hs a6 c9 c.inb;obtain⟨v',b0,o,q3,q4,⟨f',b6,a7,d5,a',b',pe,rfl,rfl⟩,f1,rfl⟩:=b5 _ _ _ _ hx;replace f1:=f1.symm;subst f1;have e5:=c.eval;rw[q3]at e5;simp only[aQ,bk]at e5;obtain⟨rfl,rfl⟩:=e5;have gC:=((lO Q n).call h _ mk a6 _ v' b0 q3).1;have y2:=c.same.sees (d1.sees p.sees g0) gC;have f3:=y2.look q4;have c8:G'.at_ s.aL=X ⟨L,0,Z⟩:=c.ext.le.at_ _ _ g5;obtain⟨ad,g6,_,a3,a8,d0⟩:=c.wr.obj s.aL _ (tG f3).2;rw[c8]at g6;cases g6;have a8:w3.heap[L]?=X (.loop a3):=a8;have h8:a3.state≠.busy:=by rw[d0.state];cases pe<;>simp
  have d6:¬eU G' (s2'.put s.aL Z).heap L:=K5 c.wr (by rw[(tG f3).2];simp) c8;have f4:WR G' (s2'.put s.aL Z).heap (cV w3 L (.loop {a3 with state:=.exhausted })):=(c.wr.killed s.aL).aside a8 trivial d6;have i4:∀r∈ds,w3.heap[r]?=X (.deferred (X [])):=λr hr=>by
   have:=(c2.at_ r hr).2;exact(c.ext.keep _ (iq this) (b7.not_deferred this)).trans this
  have h7:iR G s2.heap w G' (s2'.put s.aL Z).heap (cV w3 L (.loop {a3 with state:=.exhausted })) s.aL b0.aL (LB B fr.loc):=by
   have hC:=c.ext;refine iR.aside (o:=.loop a3) ?_ a8 trivial trivial (λh=>w_);refine⟨b2.trans hC.le,dg x1.size hC.size,?_,?_,?_,?_,x1.quiet.trans hC.quiet,?_⟩;intro b hb ho _;refine(hC.keepW b w_ ?_).trans (x1.keepW b hb ho);rintro⟨m,ad,pp,U,tp,t2,t3⟩;have U:(s2.heap.set s2.aL _).get m=X pp:=U;rw[aB.get_set,p.sees.aL]at U;have t2:(if m=s.aL then X ⟨L,0,Z⟩else G.at_ m)=X ad:=t2;by_cases e:m=s.aL
   grind
   rw[iN e]at U t2;exact ho ⟨m,ad,pp,U,tp,t2,t3⟩;intro b hb ho;have ho:=hC.owns b w_ (B0 ho);obtain⟨m,ad,U,t2,t3⟩:=ho;have U:(s2.heap.set s2.aL _).get m≠Z:=U;rw[aB.get_set,p.sees.aL]at U;have t2:(if m=s.aL then X ⟨L,0,Z⟩else G.at_ m)=X ad:=t2;by_cases e:m=s.aL
   grind
   rw[iN e]at U t2;exact⟨m,ad,U,t2,t3⟩;intro m ad hm h0;by_cases e:m=s.aL
   grind
   have j3:(G.name s.aL ⟨L,0,Z⟩).at_ m=Z:=by
    show(if m=s.aL then _ else G.at_ m)=Z;rw[iN e];exact h0
   have:=hC.names m ad hm j3;have hq:s.aL+1<=m:=this.1;exact⟨w_,this.2⟩;intro b o v hb hv h0;have ho:=hC.cells b o v w_ hv h0;obtain⟨m,ad,U,t2,t3⟩:=ho;have U:(s2.heap.set s2.aL _).get m≠Z:=U;rw[aB.get_set,p.sees.aL]at U;have t2:(if m=s.aL then X ⟨L,0,Z⟩else G.at_ m)=X ad:=t2;by_cases e:m=s.aL
   grind
   rw[iN e]at U t2;exact⟨m,ad,U,t2,t3⟩;intro b hb ho;have ho:=hC.ownsW b w_ (Ej ho);obtain⟨m,ad,pp,U,tp,t2,t3⟩:=ho;have U:(s2.heap.set s2.aL _).get m=X pp:=U;rw[aB.get_set,p.sees.aL]at U;have t2:(if m=s.aL then X ⟨L,0,Z⟩else G.at_ m)=X ad:=t2;by_cases e:m=s.aL
   grind
   rw[iN e]at U t2;exact⟨m,ad,pp,U,tp,t2,t3⟩
  have g2:cu G' (s2'.put s.aL Z).heap B fr a.tmps (cV w3 L (.loop {a3 with state:=.exhausted })):=by
   have e1:ql (G.name s.aL ⟨L,0,Z⟩) (s2.new (.loop f fr.env fr.size ps.toList Y V Z)).heap B fr.loc w1:=by
    have:=fx.locs.ext x1;refine⟨λt cs ht=>?_,λt cs ht ho=>?_,this.ro,this.inj⟩;obtain⟨C,e,u1,u2⟩:=this.cells t cs ht;exact⟨C,e,u1,λi v hi=>let⟨v1,z,v2,v3⟩:=u2 i v hi;⟨v1,z,v2,v3.mono b2⟩⟩;obtain⟨m,ad,U,t2,t3⟩:=ho;have U:(s2.heap.set s2.aL _).get m≠Z:=U;rw[aB.get_set,p.sees.aL]at U;have t2:(if m=s.aL then X ⟨L,0,Z⟩else G.at_ m)=X ad:=t2;by_cases e:m=s.aL;rw[iP e]at t2;cases t2;obtain⟨C,ty,u1,_⟩:=fx.locs.cells t cs ht
    grind
    rw[iN e]at U t2;exact fx.locs.free t cs ht ⟨m,ad,U,t2,t3⟩
   have e2:=e1.ext c.ext;have e3:ql G' (s2'.put s.aL Z).heap B fr.loc w3:=⟨e2.cells,λt cs ht ho=>e2.free t cs ht (B0 ho),e2.ro,e2.inj⟩;exact⟨fx.size,λt=>(fx.env t).mono (b2.trans c.ext.le),e3.aside a8 trivial⟩
  have gP:=fQ.put q4 (mk:=mk) Z;have a0:uN Q mk ch fr G B s s2 a w (kZ Q (n+1) f (.rangeFunc g ps Y V) mk fr s) (HG pe) {a with defers:=ds.map vC++a.defers } (cV w3 L (.loop {a3 with state:=.exhausted })):=by
   refine⟨a6,fr,b0.put s.aL Z,s2'.put s.aL Z,G',B,c9,c.inb,hx,⟨(g0.trans gC).trans gP,(d1.trans g0 gC c.same).trans (g0.trans gC) gP (.put y2 q4 Z),f4,h7,g2,λb h=>.inl h,ds,rfl,c2.nodup,?_⟩⟩;intro r hr;refine⟨(c2.at_ r hr).1,?_⟩
   have:=i4 r hr;rw[iM _ _ _ _ (iq a8),iN (λe=>by
    grind)]
   exact this
  refine⟨_,_,run_endLoop a8 h8,?_⟩
  have:=hK _ _ _ a0;rw[Ss];rw[d0.pending]at this⊢;rcases pe with _|x
  exact this;cases x with
  |normal=>exact wpIn_skip this
  |exit id=>exact wpIn_exit this
  |ret=>exact wpIn_ret this
 |_=>
  obtain⟨e0,c4,s0,h0,_⟩:=hs ch (.refl _ _) hi;cases h0
end
variable{fn:Func}{u:aa}
section
variable{P:Program}{mk:aI}{G:Gh}{B:dd}{fr:Fr}{s:St}{tmps:il}{w:World}
theorem av6(wr:WR G s.heap w)(fl:ql G s.heap B fr.loc w)(hl:LV G fr.loc B u x)(p:lh P mk t u fr.loc s=X v):
 ∃E y,x=.pointer (X E)/\(loadVar t E).run P w=.ok y w/\VR G v y:=by
 unfold lh at p;split at p;rename_i t' g a2;simp only[ak]at p;obtain⟨cs,a1,p⟩:=p;obtain⟨h1,_,h2⟩:=hl;have hg:=abH a1;replace h2:=h2 hg;subst hg;obtain⟨C,e,hb,hc⟩:=fl.cells t' cs a1;obtain⟨y,U,V,ht⟩:=Ap (w:=w) (b:=B t') (base:=0) p (λi u hi=>by
  obtain⟨Y,z,T,hr⟩:=hc i u hi;exact⟨Y,z,by rw[kw hb];simpa using T,hr⟩)
 grind
 rename_i n a2;simp only[ak]at p;obtain⟨ob,a0,p⟩:=p;split at p;rename_i cs;have hl:VR G _ _:=hl;cases hl;rename_i E hn;obtain⟨a5,q,a3,C,e,hb,_,hc⟩:=wr.obj n _ (iH a0);rw[hn]at q;cases q;obtain⟨y,U,V,ht⟩:=Ap (w:=w) (b:=E.block) (base:=E.off) p (λi u hi=>by
  obtain⟨Y,z,T,hr⟩:=hc i u hi;exact⟨Y,z,by rw[kw hb];exact T,hr⟩)
 exact⟨_,y,rfl,U,V⟩;rename_i cs;have hl:VR G _ _:=hl;cases hl;rename_i E hn;obtain⟨a5,q,a3,C,e,hb,_,hc⟩:=wr.obj n _ (iH a0);rw[hn]at q;cases q;obtain⟨y,U,V,ht⟩:=Ap (w:=w) (b:=E.block) (base:=E.off) p (λi u hi=>by
  obtain⟨Y,z,T,hr⟩:=hc i u hi;exact⟨Y,z,by rw[kw hb];exact T,hr⟩)
 exact⟨_,y,rfl,U,V⟩;cases p;rename_i cs;have hl:VR G _ _:=hl;cases hl;rename_i b base a4;obtain⟨y,U,V,ht⟩:=Ap (w:=w) (b:=b) (base:=base) p (λi u hi=>wr.ro _ _ _ (a4 i u hi))
 grind
 cases p
def LF(tmps:il):ResultVar->Sem Value
 |.tmp t=>pure (tmps.getD t undef)
 |.cell a t=>do loadVar t (<-asAddr (tmps.getD a undef))
theorem adY{Q:ay}(wr:WR G s.heap w)(fx:cu G s.heap B fr tmps w):∀{l:List ResultVar}{vs:az},jm Q mk fr s l=X vs->
 ∃p,(l.mapM (LF tmps)).run Q.P w=.ok p w/\bL G vs p
 |[],_,h=>by
   simp only[jm,aQ]at h;subst h;exact⟨[],by simp[Sem.run_pure],.nil⟩
 |r::l,_,h=>by
  simp only[jm,ak]at h;obtain⟨v,z,vs,q,h⟩:=h;obtain⟨E,h⟩:=aZ h;cases h;obtain⟨p,h1,V⟩:=adY wr fx q;have:∃y,(LF tmps r).run Q.P w=.ok y w/\VR G v y:=by
   cases r with
   |tmp t=>
    have C:=cu.evc (a:=⟨tmps,[]⟩) fx z;exact⟨_,rfl,C.1⟩
   |cell a t=>
    obtain⟨ad,y,e1,e2,Y⟩:=av6 wr fx.locs (fx.env a) z
    grind [LF,asAddr]
  obtain⟨y,U,T⟩:=this;refine⟨y::p,?_,.cons T V⟩;rw[List.mapM_cons];simp[U,h1]
def aBI(wr:WR G s.heap w)(fx:cu G s.heap B fr tmps w){vs:az}(h:jm Q mk fr s fn.results.toList=X vs):
 ∃y,(results fn tmps).run Q.P w=.ok y w/\VR G (nh vs) y:=by
 obtain⟨C,h1,z⟩:=adY wr fx h;have hr:results fn tmps=(do let vs<-fn.results.mapM (LF tmps);pure (if h:vs.size=1 then vs[0]else .tuple vs)):=by
  unfold results;congr 1
 rw[hr,Array.mapM_eq_mapM_toList];simp only[Sem.run_bind,Sem.run_map,h1,mg,Sem.run_pure];rcases z with _|⟨a,b⟩
 exact⟨.tuple ⟨[]⟩,by simp,.tup .nil⟩;rename_i v y q p;rcases b with _|⟨c,d⟩
 exact⟨y,by simp,a⟩;exact⟨.tuple ⟨_⟩,by simp,.tup (.cons a (.cons c d))⟩
end
theorem acH:∀(l:az)(n t:Nat),(qO n l).get t=if t<n then Z else l[t-n]?
 |[],n,t=>by
   simp only[qO];have:(aB.nil:ax).get t=Z:=rfl;rw[this];simp
 |v::l,n,t=>by
  rw[qO,aB.get_set,acH l (n+1) t]
  grind
theorem akX{G:Gh}(y:bL G args xs)(p:Nat):
 cu G h (λ_=>0) ⟨qO 0 args,bif aP (J args) p then p else J args,[]⟩ ((⟨xs⟩:il)++Array.replicate (p-(⟨xs⟩:il).size) undef) w where
 size:=by
  have:=y.length
  grind [tX]
 env t:=by
  have q:=y.length;simp only[ac,acH,Nat.not_lt_zero,if_false,Nat.sub_zero];cases e:args[t]? with
  |some v=>
   obtain⟨x,E,hr⟩:=y.get e;have z:t<J xs:=by
    rcases iz t (J xs)with h|h
    exact h
    grind
   have:((⟨xs⟩:il)++Array.replicate (p-(⟨xs⟩:il).size) undef).getD t undef=x:=by
    rw[uE,Array.getElem?_append_left (by simpa using z)];simp[E]
   rw[this];exact LV.of_VR hr
  |none=>
   have C:J xs<=t:=by rw[<-q];exact List.getElem?_eq_none_iff.1 e
   have:((⟨xs⟩:il)++Array.replicate (p-(⟨xs⟩:il).size) undef).getD t undef=undef:=by
    rw[uE,Array.getElem?_append_right (by simpa using C),TG];split<;>rfl
   rw[this];exact LV.of_VR (Tr G)
 locs:=⟨λt cs h=>by simp[Loc.get]at h,λt cs h=>by simp[Loc.get]at h,λt cs h=>by simp[Loc.get]at h,λt u cs T h=>by simp[Loc.get]at h⟩
theorem abt{Q:ay}{fn:Func}{R:Ending->World->Prop}{G0 G:Gh}{h0:aB aH}{w0:World}{B:dd}{fr:Fr}{tmps:il}{lo hi:Nat}{mk:aI}{s:St}{vs:az}(p:jm Q mk fr s fn.results.toList=X vs)(E:∀y w',WR G s.heap w'->ce G0 h0 w0 G s.heap w' lo hi->VR G (nh vs) y->R (.returned y) w'):
 ∀(rs:be)(w:World),WR G s.heap w->cu G s.heap B fr tmps w->ce G0 h0 w0 G s.heap w lo hi->wS w0.heap.size w rs->LeavesInM Fence.wide 0 Q.P fn tmps R (rs.map vC++[]) .returning w
 |[],w,wr,fx,ex,_=>by
   obtain⟨y,U,T⟩:=aBI (Q:=Q) wr fx p;exact⟨y,U,E y w wr ex T⟩
 |r::rs,w,wr,fx,ex,m=>by
  obtain⟨h1,z⟩:=m.at_ r (by simp);have C:=List.nodup_cons.1 m.nodup;refine⟨by simp,.inl ⟨r,cV w r (.deferred Z),rfl,run_takeDeferred z,?_⟩⟩;refine abt p E rs _ (wr.aside z trivial (wr.not_deferred z)) (fx.aside z trivial) (ex.aside z trivial trivial λh=>w_) ⟨C.2,λq V=>?_⟩;obtain⟨q1,Y⟩:=m.at_ q (by simp[V])
  grind [iM]
theorem aiG(hg:AL Q)(hn:sV Q n):yU Q (n+1):=by
 intro f args mk s s2 G w xs ch A p hv hi hs;have a0:∀c,(bX (Q.at c) (n+1)).call f args mk s=je (Q.at c) (bX (Q.at c) n) f args mk s:=λ_=>rfl;cases hsp:Q.spec f with
 |some sp=>
  have C:∀c,(bX (Q.at c) (n+1)).call f args mk s=(sp args).bind λv=>X (v,s):=by
   intro c;have:(Q.at c).spec f=X sp:=hsp;rw[a0,je,this]
  obtain⟨v,s',h0,_⟩:=hs ch (.refl _ _) hi;rw[C]at h0;simp only[ak,aQ,bk]at h0;obtain⟨v',h1,rfl,rfl⟩:=h0;refine(hg.spec f sp hsp args v' h1 G s2.heap w xs p.wr hv).mono ?_;rintro y w' ⟨G',E,z,U⟩;refine⟨ch,v',s,s2,G',.refl _ _,hi,by rw[C,h1];rfl,.refl p.sees,E,?_,U⟩;exact⟨z.le,z.size,z.keepW,z.owns,λm a e e0=>by have:=z.names m a e e0;omega,z.cells,z.quiet,z.ownsW⟩
 |none=>
 cases hsh:Q.specH f with
 |some sp=>
  have C:∀c,(bX (Q.at c) (n+1)).call f args mk s=(ee (s.get mk) (sp args)).bind λv=>X (v,s):=by
   intro c;have h1:(Q.at c).spec f=Z:=hsp;have E:(Q.at c).specH f=X sp:=hsh;rw[a0,je,h1];simp only[E]
  obtain⟨v,s',h0,_⟩:=hs ch (.refl _ _) hi;rw[C]at h0;simp only[ak,aQ,bk]at h0;obtain⟨v',h1,rfl,rfl⟩:=h0;have a8:ee s2.heap.get (sp args)=X v':=by
   have:=Ey p.sees (sp args) v' h1;generalize sp args=x at this;clear h1 C
   induction x with
   |ret _=>exact this
   |ask m k ih=>
    simp only[ee,ak]at this⊢;obtain⟨o,q1,q2⟩:=this;exact⟨o,(tG q1).2,ih o q2⟩
  refine(hg.specH f sp hsh args v' G s2.heap w xs p.wr hv a8).mono ?_;rintro y w' ⟨G',E,z,U⟩;refine⟨ch,v',s,s2,G',.refl _ _,hi,by rw[C,h1];rfl,.refl p.sees,E,?_,U⟩;exact⟨z.le,z.size,z.keepW,z.owns,λm a e e0=>by have:=z.names m a e e0;omega,z.cells,z.quiet,z.ownsW⟩
 |none=>
 cases T:(Q.specW f).bind λsp=>sp args with
 |some q=>
  have C:∀c,(bX (Q.at c) (n+1)).call f args mk s=xY (Q.anew f) mk s q:=by
   intro c;have h1:(Q.at c).spec f=Z:=hsp;have E:(Q.at c).specH f=Z:=hsh;have z:((Q.at c).specW f).bind (λsp=>sp args)=X q:=T;rw[a0,je,h1];simp only[E,z];rfl
  obtain⟨v,s',h0,hA⟩:=hs ch (.refl _ _) hi;have a4:=h0;rw[C]at h0;simp only[ak]at T;obtain⟨sp,T,h1⟩:=T;have z:=h0;cases q with
  |none=>
   simp only[xY,aQ,bk]at z;obtain⟨rfl,rfl⟩:=z;refine((hg.specW f sp T args G s2.heap w xs p.wr hv).1 h1).mono ?_;rintro y w' ⟨G',k2,k3,k4⟩;refine⟨ch,_,_,s2,G',.refl _ _,hi,a4,.refl p.sees,k2,?_,k4⟩;exact⟨k3.le,k3.size,k3.keepW,k3.owns,λm a e e0=>by have:=k3.names m a e e0;omega,k3.cells,k3.quiet,k3.ownsW⟩
  |some q=>
   simp only[xY,ak]at z;obtain⟨o,E,z⟩:=z;cases o<;>simp only[Am,ak,reduceCtorEq]at z;obtain⟨u,a3,z⟩:=z;rename_i cs;have V:=(tG (p.sees.look E)).2;have U:ee s2.heap.get (q.2 cs)=X u:=by
    have:=Ey p.sees (q.2 cs) _ a3;generalize q.2 cs=x at this;clear a3
    induction x with
    |ret _=>exact this
    |ask m k ih=>
     simp only[ee,ak]at this⊢;obtain⟨o,q1,q2⟩:=this;exact⟨o,(tG q1).2,ih o q2⟩
   clear a3;unfold Ba at z;split at z
   case h_2 sz _ _ len _ cs'=>
    obtain⟨nu,z⟩:=aZ z;simp only[aQ,bk]at z;obtain⟨rfl,rfl⟩:=z;have hq:G.at_ s2.aL=Z:=by rw[p.sees.aL];exact p.free _ (aC _) (hA _ (aC _) (Nat.lt_succ_self _))
    refine(hg.specN f sp T nu args G s2.heap w xs p.wr hv q.1 q.2 _ cs' _ _ _ _ _ s2.aL h1 V U hq).mono ?_;rintro y w' ⟨G',k2,k3,k4⟩;have g1:=fQ.put E Z;refine⟨ch,_,_,(s2.put q.1 Z).new (.cells cs'),G',.refl _ _,hi,a4,fX.trans g1 (.new mk _ _) (.put p.sees E _) (.new ((fX.put p.sees E _).sees p.sees g1) _),k2,?_,by rw[<-p.sees.aL];exact k4⟩;have e:s2.aL=s.aL:=p.sees.aL;have k5:ce G s2.heap w G' ((s2.heap.set q.1 Z).set s2.aL (X (.cells cs'))) w' s.aL (s.aL+1):=by rw[<-e];exact k3
    exact k5
   case h_3=>cases z
   simp only[aQ,bk]at z;obtain⟨rfl,rfl⟩:=z;rename_i cs';refine((hg.specW f sp T args G s2.heap w xs p.wr hv).2 q.1 q.2 _ cs' h1 V U).mono ?_;rintro y w' ⟨G',k2,k3,k4⟩;refine⟨ch,_,_,s2.put q.1 (X (.cells cs')),G',.refl _ _,hi,a4,.put p.sees E _,k2,?_,k4⟩;exact⟨k3.le,k3.size,k3.keepW,k3.owns,λm a e e0=>by have:=k3.names m a e e0;omega,k3.cells,k3.quiet,k3.ownsW⟩
 |none=>
  have C:∀c,(bX (Q.at c) (n+1)).call f args mk s=(Q.P.funcs[f]?).bind λfn=>fn.body.bind λb=>
   (kZ Q n f b mk ⟨qO 0 args,bif aP (J args) fn.ntmps then fn.ntmps else J args,[]⟩ s c).bind (qy (Q.at c) fn mk):=by
   intro c;have h1:(Q.at c).spec f=Z:=hsp;have E:(Q.at c).specH f=Z:=hsh;have z:((Q.at c).specW f).bind (λsp=>sp args)=Z:=T;rw[a0,je,h1];simp only[E,z];rfl
  obtain⟨v0,s0,h0,_⟩:=hs ch (.refl _ _) hi;rw[C]at h0;simp only[ak]at h0;obtain⟨fn,hf,b,hb,_⟩:=h0;have a1:∀c,(bX (Q.at c) (n+1)).call f args mk s=(kZ Q n f b mk ⟨qO 0 args,bif aP (J args) fn.ntmps then fn.ntmps else J args,[]⟩ s c).bind (qy (Q.at c) fn mk):=by
   intro c;rw[C,hf];simp only[aG,hb]
  right;have b0:=hg.names f fn hf;refine⟨?_,?_⟩
  simp_all [callFunc]
  refine(callsIn_wide (n:=0)).1 (callsIn_of_wp_marks hf hb trivial ?_);have fx:=akX (G:=G) (h:=s2.heap) (w:=w) hv fn.ntmps;refine(hn Z f b mk _ ch A G (λ_=>0) s s2 _ w (λh=>absurd rfl h) .none p fx hi ?_ _ ?_).1;intro c h1 E;obtain⟨v,s',z,U⟩:=hs c h1 E;rw[a1]at z;simp only[ak]at z;obtain⟨⟨x,fr',s1⟩,V,h6⟩:=z;refine⟨x,fr',s1,V,?_⟩;have:s1=s':=by
   cases x<;>simp only[qy,ak,aQ,bk]at h6;obtain⟨_,_,_,e⟩:=h6;exact e;cases h6;obtain⟨_,_,_,e⟩:=h6;exact e
  subst this;exact U;rintro x a' w' ⟨c,fr',s',s2',G',B',h1,E,z,U⟩;obtain⟨v,s1,V,_⟩:=hs c h1 E;have a7:=V;rw[a1,z]at V;simp only[aG]at V;have a2:∀vs,jm (Q.at c) mk fr' s' fn.results.toList=X vs->v=nh vs->s1=s'->
   LeavesInM Fence.wide 0 Q.P fn a'.tmps (λe w'=>∃y',e=.returned y'/\∃a9 v s' s2' G',Iv Q (n+1) f args mk ch G s s2 w y' w' a9 v s' s2' G') a'.defers .returning w':=by
   intro vs Y e1 e2;have a5:jm (Q.at c) mk fr' s2' fn.results.toList=X vs:=
    abK (Q:=Q.at c) mk fr' fn.results.toList s' s2' vs Y (λm o hm=>(U.same.sees p.sees U.goes).look hm)
   obtain⟨rs,d1,d2⟩:=U.defers;rw[d1];have a6:ce G s2.heap w G' s2'.heap w' s.aL s'.aL:=U.ext.toExt λb ⟨t,cs,e,_⟩=>by simp[Loc.get]at e
   refine abt (Q:=Q.at c) a5 ?_ rs w' U.wr U.fx a6 d2;intro y w'' u1 u2 u3;refine⟨y,rfl,c,v,s1,s2',G',h1,E,a7,by rw[e2];exact U.same,u1,?_,by rw[e1];exact u3⟩;rw[e2];exact u2
  cases x with
  |exit id=>cases V
  |normal=>
   simp only[qy,ak,aQ,bk]at V;obtain⟨vs,Y,e1,e2⟩:=V;exact a2 vs Y e1.symm e2.symm
  |ret=>
   simp only[qy,ak,aQ,bk]at V;obtain⟨vs,Y,e1,e2⟩:=V;exact a2 vs Y e1.symm e2.symm
theorem Uz(V:AL Q)(n:Nat):yU Q n/\IG Q n/\sV Q n:=by
 induction n using Nat.strongRecOn with
 |_ n T=>
  rcases n with _|n
  refine⟨?_,?_,?_⟩;intro f args mk s s2 G w xs ch A p U hi q;obtain⟨v,s',h,_⟩:=q ch (.refl _ _) hi;cases h;intro ro f all mk l i fr ch A G B s s2 a w p E hi hl q K C;obtain⟨x,fr',s',h,_⟩:=q ch (.refl _ _) hi;cases h;intro ro f c mk fr ch A G B s s2 a w z y p E hi q K C;obtain⟨x,fr',s',h,_⟩:=q ch (.refl _ _) hi;cases h
  grind [aiG,azr,aj3]
mutual
def bn:aa->Bool
 |.agg cs=>pures cs
 |.tup cs=>pures cs
 |.ptr _ _=>I
 |.Gt _ _ _=>I
 |.ro cs=>pures cs
 |.list _ xs r=>pures xs&&(match r with|.own _=>I|_=>O)
 |.arr _ _ _ _ _=>I
 |.map _=>I
 |.func _ a b=>pures a&&pures b
 |.iface _ v=>bn v
 |.yld _=>I
 |.roz _=>I
 |_=>O
def pures:az->Bool
 |[]=>O
 |v::l=>bn v&&pures l
end
mutual
def cx:aa->aa
 |.agg cs=>.agg (di cs)
 |.tup cs=>.tup (di cs)
 |.ro cs=>.ro (di cs)
 |.list n xs r=>.list n (di xs) (match r with|.own _=>.no|r=>r)
 |.func f a b=>.func f (di a) (di b)
 |.iface t v=>.iface t (cx v)
 |v=>v
def di:az->az
 |[]=>[]
 |v::l=>cx v::di l
end
variable{l:az}
theorem pures_all:pures l=O↔∀v∈l,bn v=O:=by
 induction l with
 |nil=>simp[pures]
 |cons v l p=>simp[pures,p]
mutual
def yu:∀{v:aa},bn v=O->cx v=v
 |.agg cs,h=>by simp only[bn]at h;simp only[cx,kF h]
 |.tup cs,h=>by simp only[bn]at h;simp only[cx,kF h]
 |.ro cs,h=>by simp only[bn]at h;simp only[cx,kF h]
 |.list n xs r,h=>by
   simp only[bn,bg]at h;simp only[cx,kF h.1];cases r<;>first|rfl|(simp at h)
 |.func f a b,h=>by
   simp only[bn,bg]at h;simp only[cx,kF h.1,kF h.2]
 |.iface t v,h=>by simp only[bn]at h;simp only[cx,yu h]
 |.bool _,_=>rfl
 |.int _ _,_=>rfl
 |.str _,_=>rfl
 |.nilp,_=>rfl
 |.ptr _ _,h=>by simp[bn]at h
 |.Gt _ _ _,h=>by simp[bn]at h
 |.Ge,_=>rfl
 |.arr _ _ _ _ _,h=>by simp[bn]at h
 |.nilm,_=>rfl
 |.map _,h=>by simp[bn]at h
 |.nilf,_=>rfl
 |.nili,_=>rfl
def kF:∀{l:az},pures l=O->di l=l
 |[],_=>rfl
 |v::l,h=>by
  simp only[pures,bg]at h;simp only[di,yu h.1,kF h.2]
end
theorem aFT(h:v.scal=O):(cx v).scal=O:=by
 cases v<;>simp_all [cx,aa.scal]
theorem aCx(h:dl l=O):dl (di l)=O:=by
 induction l with
 |nil=>rfl
 |cons v l p=>
  grind [dl,di,aFT]
def LA(h:pures l=O)(hi:l[i]?=X v):bn v=O:=pures_all.1 h v (List.mem_of_getElem? hi)
theorem ady(h:pures l=O):pures (aq l)=O:=by
 induction l with
 |nil=>rfl
 |cons v l p=>
  simp only[pures,bg]at h;have h1:pures v.cells=O:=by
   cases v<;>first
    |(simp only[aa.cells];simpa[bn]using h.1)
    |grind [aa.cells,pures]
  grind [pures_all,aq]
section
variable{G1 G2:Gh}
def Ft(G1 G2:Gh):Prop:=∀b o v,G1.ro b o=X v->bn v=O->G2.ro b o=X v
mutual
def VR.onto(k:Ft G1 G2):∀{v:aa}{x:Value},VR G1 v x->bn v=O->VR G2 v x
 |_,_,.bool b,_=>.bool b
 |_,_,.int k n,_=>.int k n
 |_,_,.str s,_=>.str s
 |_,_,.agg hc hs,h=>.agg hc (bL.onto k hs (by simpa[bn]using h))
 |_,_,.tup hs,h=>.tup (bL.onto k hs (by simpa[bn]using h))
 |_,_,.nilp,_=>.nilp
 |_,_,.ptr e,h=>by simp[bn]at h
 |_,_,.ro e,h=>.ro λi x p=>k _ _ _ (e i x p) (LA (by simpa[bn]using h) p)
 |_,_,.Ge,_=>.Ge
 |_,_,.list (r:=r) a b c d e f,h=>by
  simp only[bn,bg]at h;refine .list a b c d (λi x p=>k _ _ _ (e i x p) (LA (ady h.1) p)) ?_;cases r with
  |GT=>exact f
  |own n=>simp at h
  |no=>exact trivial
 |_,_,.arr ..,h=>by simp[bn]at h
 |_,_,.nilm,_=>.nilm
 |_,_,.map e,h=>by simp[bn]at h
 |_,_,.nilf,_=>.nilf
 |_,_,.func a b,h=>by
  simp only[bn,bg]at h;exact .func (bL.onto k a h.1) (bL.onto k b h.2)
 |_,_,.nili,_=>.nili
 |_,_,.iface e,h=>.iface (VR.onto k e (by simpa[bn]using h))
def bL.onto(k:Ft G1 G2):∀{vs:az}{xs:gy},bL G1 vs xs->pures vs=O->bL G2 vs xs
 |_,_,.nil,_=>.nil
 |_,_,.cons a b,h=>by
  simp only[pures,bg]at h;exact .cons (VR.onto k a h.1) (bL.onto k b h.2)
end
end
def Gh.plain(G:Gh):Gh where
 at_ _:=Z
 ro b o:=(G.ro b o).bind λv=>if bn v=O then X v else Z
 dim:=G.dim
def Lx(G:Gh):Ft G G.plain:=λb o v h p=>by simp[Gh.plain,h,p]
variable{G:Gh}
theorem WR.plain(x:WR G h w):WR G.plain .nil w where
 obj n o h:=by cases h
 sep n m a b h:=absurd rfl h
 ro b o v p:=by
  simp only[Gh.plain,ak]at p;obtain⟨u,hu,p⟩:=p;split at p;rename_i hp;injection p with p;subst p
  obtain⟨h1,y,h2,h3⟩:=x.ro b o u hu;exact⟨h1,y,h2,h3.onto (Lx G) hp⟩;cases p
 apart n ob a i v h:=by cases h
 dim:=x.dim
 below n a h:=by cases h
def s0:St:=⟨.nil,0,0,0⟩
def K6:¬eU G .nil b:=λ⟨_,_,h,_⟩=>h rfl
def cW(P:Program)(f:FuncId)(sp:az->er):Prop:=
 ∀args v,sp args=X v->∀(G:Gh)(h:aB aH)(w:World)(xs:gy),WR G h w->bL G args xs->
  kI P f ⟨xs⟩ w λy w'=>∃G',WR G' h w'/\ce G h w G' h w' 0 0/\VR G' v y
structure uM (r r':oe):Prop where
 ops:∀f all mk l fr s x,r.ops f all mk l fr s=some x->r'.ops f all mk l fr s=some x
 draw:∀f all bs mk rs i l fr s x,r.draw f all bs mk rs i l fr s=some x->r'.draw f all bs mk rs i l fr s=some x
 code:∀f c mk fr s x,r.code f c mk fr s=some x->r'.code f c mk fr s=some x
 call:∀f args mk s x,r.call f args mk s=some x->r'.call f args mk s=some x
def jM{x p:Option α}{k q:α->Option β}{b:β}(h:x.bind k=X b)(y:∀a,x=X a->p=X a)(z:∀a,k a=X b->q a=X b):p.bind q=X b:=by
 rcases e:x with _|a
 rw[e]at h;cases h;rw[e]at h;rw[y a e];exact z a h
section
variable{Q:ay}{r r':oe}(hr:uM r r')
include hr
theorem TD{s:St}{x:aa×St}(h:mQ r n args mk s=X x):mQ r' n args mk s=X x:=by
 unfold mQ at h⊢;refine jM h (λ_ h=>h) λo h=>jM h (λy h=>?_) λ_ h=>h;unfold Ct at h⊢;split at h;obtain⟨z,h⟩:=aZ h;rw[z];refine jM h (λ_ h=>h) λp h=>jM h (λ_ h=>hr.code _ _ _ _ _ _ h) λq h=>?_;obtain⟨e,fr1,s1⟩:=q;cases e with
 |normal=>exact jM h (λ_ h=>hr.code _ _ _ _ _ _ h) λ_ h=>h
 |exit i=>cases h
 |ret=>cases h
 cases h
theorem adb{s:St}{x:aa×Loc×St}(h:fC Q r f o mk fr s=X x):fC Q r' f o mk fr s=X x:=by
 unfold fC at h⊢;split at h;split at h;exact h;rename_i c _ _ _;cases hy:oK fr.env c;rw[hy]at h;simp only[cF]at h⊢;unfold pk at h⊢;exact jM h (λ_ h=>h) λa h=>jM h (λ_ h=>hr.call _ _ _ _ _ h) λ_ h=>h;rw[hy]at h;simp only[cT]at h⊢;unfold sK at h⊢;exact jM h (λ_ h=>h) λa h=>jM h (λ_ h=>TD hr h) λ_ h=>h;exact h
theorem amM:uM (OM Q r) (OM Q r') where
 ops f all mk l fr s x h:=by
  have h:mG Q r f all mk l fr s=X x:=h;show mG Q r' f all mk l fr s=X x;unfold mG at h⊢;split at h;exact h;cases hw:fw all fr.env _<;>rw[hw]at h<;>simp only[cT,cF]at h⊢;exact jM h (λ_ h=>h) λ_ h=>hr.ops _ _ _ _ _ _ _ h;exact jM h (λ_ h=>adb hr h) λa h=>jM h (λ_ h=>h) λ_ h=>hr.ops _ _ _ _ _ _ _ h
 draw f all bs mk rs i l fr s x h:=by
  have h:mr Q r f all bs mk rs i l fr s=X x:=h;show mr Q r' f all bs mk rs i l fr s=X x;unfold mr at h⊢;split at h;exact h;cases hw:fw all fr.env _<;>rw[hw]at h<;>simp only[cT,cF]at h⊢;exact jM h (λ_ h=>h) λ_ h=>hr.draw _ _ _ _ _ _ _ _ _ _ h;refine jM h (λ_ h=>adb hr h) λa h=>?_;obtain⟨z,h⟩:=aZ h;rw[z];exact jM h (λ_ h=>h) λ_ h=>hr.draw _ _ _ _ _ _ _ _ _ _ h
 code f c mk fr s x h:=by
  have h:zC Q r f c mk fr s=X x:=h;show zC Q r' f c mk fr s=X x;have p:∀b y,pP r f b mk y=X x->pP r' f b mk y=X x:=by
   intro b y q;obtain⟨e,fr1,s1⟩:=y;cases e;exact hr.code _ _ _ _ _ _ q;exact q;exact q
  cases c<;>simp only[zC]at h⊢ <;>first
   |exact h
   |exact jM h (λ_ h=>hr.code _ _ _ _ _ _ h) λ_ h=>p _ _ h
   |exact jM h (λ_ h=>hr.code _ _ _ _ _ _ h) λ_ h=>h
   |exact hr.code _ _ _ _ _ _ h
   |skip
  case cond=>
   refine jM h (λ_ h=>h) λv h=>?_;cases v<;>try (cases h;done)
   rename_i b;cases b<;>exact hr.code _ _ _ _ _ _ h
  case rangeFunc=>
   refine jM h (λ_ h=>h) λv h=>?_;unfold x8 at h⊢;split at h;obtain⟨hb,h⟩:=aZ h;rw[hb];exact jM h (λ_ h=>hr.call _ _ _ _ _ h) λ_ h=>h;cases h
  case region=>
   rename_i id ops draw _;unfold LJ at h⊢;refine jM h (λa h=>?_) λ_ h=>h;cases draw;exact hr.ops _ _ _ _ _ _ _ h;simp only[cT]at h⊢;obtain⟨z,h⟩:=aZ h;rw[z];exact hr.draw _ _ _ _ _ _ _ _ _ _ h
 call f args mk s x h:=by
  have h:je Q r f args mk s=X x:=h;show je Q r' f args mk s=X x;unfold je at h⊢;split at h;exact h;split at h;exact h;split at h;exact h;exact jM h (λ_ h=>h) λfn h=>jM h (λ_ h=>h) λc h=>jM h (λ_ h=>hr.code _ _ _ _ _ _ h) λ_ h=>h
end
def abT(Q:ay):∀n,uM (bX Q n) (bX Q (n+1))
 |0=>⟨λ_ _ _ _ _ _ _ h=>(by cases h),λ_ _ _ _ _ _ _ _ _ _ h=>(by cases h),λ_ _ _ _ _ _ h=>(by cases h),λ_ _ _ _ _ h=>(by cases h)⟩
 |n+1=>amM (abT Q n)
def uM.refl(r:oe):uM r r:=⟨λ_ _ _ _ _ _ _ h=>h,λ_ _ _ _ _ _ _ _ _ _ h=>h,λ_ _ _ _ _ _ h=>h,λ_ _ _ _ _ h=>h⟩
def uM.trans{a b c:oe}(x:uM a b)(y:uM b c):uM a c:=
 ⟨λ_ _ _ _ _ _ _ h=>y.ops _ _ _ _ _ _ _ (x.ops _ _ _ _ _ _ _ h),λ_ _ _ _ _ _ _ _ _ _ h=>y.draw _ _ _ _ _ _ _ _ _ _ (x.draw _ _ _ _ _ _ _ _ _ _ h),
  λ_ _ _ _ _ _ h=>y.code _ _ _ _ _ _ (x.code _ _ _ _ _ _ h),λ_ _ _ _ _ h=>y.call _ _ _ _ _ (x.call _ _ _ _ _ h)⟩
def mD(Q:ay)(h:n<=m):uM (bX Q n) (bX Q m):=by
 induction m with
 |zero=>have:n=0:=by omega
        subst this;exact .refl _
 |succ m p=>
  by_cases e:n=m+1;subst e;exact .refl _;exact(p w_).trans (abT Q m)
inductive SG where
 |aw
 |never
 |when (t:Tmp) (b:Bool)
structure aJ where
 dst:ir
 op:Op
 g:SG
abbrev sOa(d:Tmp)(o:Op):aJ:=⟨X d,o,.aw⟩
abbrev ns:=List aJ
abbrev uS:=ns
def OZ(all:nt)(o:Oper):SG:=
 match o.guard with
 |none=>.aw
 |some (j,w)=>match(all[j]?).bind (·.dst)with
  |some d=>.when d w
  |none=>.never
def pS(all:nt)(o:Oper):aJ:=⟨o.dst,o.op,OZ all o⟩
inductive SC where
 |skip
 |ret
 |exit (id:Nat)
 |seq (a b:SC)
 |cond (x:Operand) (a b:SC)
 |block (id:Nat) (b:SC)
 |scope (b:SC)
 |loop (b:SC)
 |region (ops:ns)
 |draw (ops:ns) (bs:be)
 |rfun (g:Operand) (ps:p_) (a b:Code)
 |bad
def dX:Code->SC
 |.skip=>.skip
 |.label _=>.skip
 |.ret=>.ret
 |.exit id=>.exit id
 |.seq a b=>.seq (dX a) (dX b)
 |.cond x a b=>.cond x (dX a) (dX b)
 |.block id b=>.block id (dX b)
 |.scope b=>.scope (dX b)
 |.loop b=>.loop (dX b)
 |.region _ ops I=>.region (ops.toList.map (pS ops))
 |.region _ ops O=>bif nD ops 0 ops.toList (Region.before ops).toList then .draw (ops.toList.map (pS ops)) (Region.before ops).toList else .bad
 |.rangeFunc g ps a b=>.rfun g ps.toList a b
 |_=>.bad
noncomputable def jT(e:ax):SG->Bool
 |.aw=>O
 |.never=>I
 |.when t b=>match ac e t with
   |.bool c=>c==b
   |_=>I
theorem Cr(all:nt)(e:ax)(o:Oper):jT e (OZ all o)=fw all e o:=by
 unfold OZ fw;rcases o.guard with _|g
 rfl;obtain⟨j,w⟩:=g;simp only;cases (all[j]?).bind (·.dst)<;>rfl
section
variable(Q:ay)(f:FuncId)
noncomputable def dJ(o:aJ)(mk:aI)(fr:Fr)(s:St):gk:=
 match o.op with
 |.call c=>match c.callee with
   |.builtin _=>vI Q.P mk (Q.hint f) o.dst c fr s
   |_=>(callee fr.env c).bind λg=>(Q.spec g.1).bind λsp=>(sp g.2).bind λv=>X (v,fr.loc,s)
 |op=>lF Q.P mk Q.ch Q.kmax (Q.hint f) o.dst op fr s
noncomputable def EO(o:aJ)(fr:Fr)(s:St):A_:=
 bif jT fr.env o.g then(dJ Q f o [] fr s).bind λx=>(d8 fr o.dst x.1 x.2.1).bind λfr'=>X (fr',x.2.2)
 else(d8 fr o.dst jE fr.loc).bind λfr'=>X (fr',s)
end
def Ex.block(id:Nat):Ex->Ex
 |.exit i=>bif aA i id then .normal else .exit i
 |x=>x
def ai(Q:ay)(g:FuncId)(args:az)(s:St)(v:aa)(s':St):Prop:=∃n,(bX Q n).call g args [] s=X (v,s')
def iT(Q:ay)(n:Nat)(args:az)(s:St)(v:aa)(s':St):Prop:=∃k,mQ (bX Q k) n args [] s=X (v,s')
inductive uQ (Q:ay) (f:FuncId):ns->Fr->St->Fr->St->Prop
 |nil {fr:Fr} {s:St}:uQ Q f [] fr s fr s
 |step {o:aJ} {l:ns} {fr fr1 fr2:Fr} {s s1 s2:St}:EO Q f o fr s=some (fr1,s1)->uQ Q f l fr1 s1 fr2 s2->uQ Q f (o::l) fr s fr2 s2
 |call {o:aJ} {c:Call} {l:ns} {fr fr1 fr2:Fr} {s s1 s2:St} {g:FuncId} {args:az} {v:aa}:jT fr.env o.g=true->o.op=.call c->(∀b,c.callee≠.builtin b)->callee fr.env c=some (g,args)->
  ai Q g args s v s1->d8 fr o.dst v fr.loc=some fr1->uQ Q f l fr1 s1 fr2 s2->uQ Q f (o::l) fr s fr2 s2
 |yld {o:aJ} {c:Call} {l:ns} {fr fr1 fr2:Fr} {s s1 s2:St} {n:Nat} {args:az} {v:aa}:jT fr.env o.g=true->o.op=.call c->yieldee fr.env c=some (n,args)->
  iT Q n args s v s1->d8 fr o.dst v fr.loc=some fr1->uQ Q f l fr1 s1 fr2 s2->uQ Q f (o::l) fr s fr2 s2
def M9(Q:ay)(g:FuncId)(args:az)(mk:aI)(s:St)(v:aa)(s':St):Prop:=∃n,(bX Q n).call g args mk s=X (v,s')
def TR(Q:ay)(n:Nat)(args:az)(mk:aI)(s:St)(v:aa)(s':St):Prop:=∃k,mQ (bX Q k) n args mk s=X (v,s')
inductive qo (Q:ay) (f:FuncId):be->i_->Nat->ns->Fr->St->Fr->St->Prop
 |nil {bs:be} {rs:i_} {i:Nat} {fr:Fr} {s:St}:qo Q f bs rs i [] fr s fr s
 |skip {bs:be} {rs:i_} {i:Nat} {o:aJ} {l:ns} {fr fr1 fr2:Fr} {s s2:St}:jT fr.env o.g=false->d8 fr o.dst jE fr.loc=some fr1->qo Q f bs.tail rs (i+1) l fr1 s fr2 s2->qo Q f bs rs i (o::l) fr s fr2 s2
 |step {bs:be} {rs:i_} {i:Nat} {o:aJ} {l:ns} {fr fr1 fr2:Fr} {s s1 s2:St} {v:aa} {lc:Loc}:jT fr.env o.g=true->dJ Q f o (kP (bs.headD 0) rs []) fr ⟨s.heap,s.aL,s.aL,s.ci⟩=some (v,lc,s1)->
  xg (bs.headD 0) (bK (Q.hint f) o.dst fr.env o.op) (bq s1.gE s.aL||isStore o.op) rs=true->s1.ci=s.ci->d8 fr o.dst v lc=some fr1->
  qo Q f bs.tail (⟨i,s.aL,s1.aL,bK (Q.hint f) o.dst fr.env o.op,bq s1.gE s.aL||isStore o.op⟩::rs) (i+1) l fr1 (s.GE s1) fr2 s2->qo Q f bs rs i (o::l) fr s fr2 s2
 |call {bs:be} {rs:i_} {i:Nat} {o:aJ} {c:Call} {l:ns} {fr fr1 fr2:Fr} {s s1 s2:St} {g:FuncId} {args:az} {v:aa}:jT fr.env o.g=true->o.op=.call c->(∀b,c.callee≠.builtin b)->callee fr.env c=some (g,args)->
  M9 Q g args (kP (bs.headD 0) rs []) ⟨s.heap,s.aL,s.aL,s.ci⟩ v s1->
  xg (bs.headD 0) (bK (Q.hint f) o.dst fr.env o.op) (bq s1.gE s.aL||isStore o.op) rs=true->s1.ci=s.ci->d8 fr o.dst v fr.loc=some fr1->
  qo Q f bs.tail (⟨i,s.aL,s1.aL,bK (Q.hint f) o.dst fr.env o.op,bq s1.gE s.aL||isStore o.op⟩::rs) (i+1) l fr1 (s.GE s1) fr2 s2->qo Q f bs rs i (o::l) fr s fr2 s2
 |yld {bs:be} {rs:i_} {i:Nat} {o:aJ} {c:Call} {l:ns} {fr fr1 fr2:Fr} {s s1 s2:St} {n:Nat} {args:az} {v:aa}:jT fr.env o.g=true->o.op=.call c->yieldee fr.env c=some (n,args)->
  TR Q n args (kP (bs.headD 0) rs []) ⟨s.heap,s.aL,s.aL,s.ci⟩ v s1->
  xg (bs.headD 0) (bK (Q.hint f) o.dst fr.env o.op) (bq s1.gE s.aL||isStore o.op) rs=true->s1.ci=s.ci->d8 fr o.dst v fr.loc=some fr1->
  qo Q f bs.tail (⟨i,s.aL,s1.aL,bK (Q.hint f) o.dst fr.env o.op,bq s1.gE s.aL||isStore o.op⟩::rs) (i+1) l fr1 (s.GE s1) fr2 s2->qo Q f bs rs i (o::l) fr s fr2 s2
inductive jJ (Q:ay) (f:FuncId):SC->Fr->St->Ex->Fr->St->Prop
 |skip {fr:Fr} {s:St}:jJ Q f .skip fr s .normal fr s
 |ret {fr:Fr} {s:St}:jJ Q f .ret fr s .ret fr s
 |exit {id:Nat} {fr:Fr} {s:St}:jJ Q f (.exit id) fr s (.exit id) fr s
 |seqN {a b:SC} {fr fr1 fr2:Fr} {s s1 s2:St} {x:Ex}:jJ Q f a fr s .normal fr1 s1->jJ Q f b fr1 s1 x fr2 s2->jJ Q f (.seq a b) fr s x fr2 s2
 |seqX {a b:SC} {fr fr1:Fr} {s s1:St} {x:Ex}:jJ Q f a fr s x fr1 s1->x≠.normal->jJ Q f (.seq a b) fr s x fr1 s1
 |cond {o:Operand} {a b:SC} {t:Bool} {fr fr1:Fr} {s s1:St} {x:Ex}:ev fr.env o=some (.bool t)->jJ Q f (if t then a else b) fr s x fr1 s1->jJ Q f (.cond o a b) fr s x fr1 s1
 |block {id:Nat} {b:SC} {fr fr1:Fr} {s s1:St} {x:Ex}:jJ Q f b fr s x fr1 s1->jJ Q f (.block id b) fr s (x.block id) fr1 s1
 |scope {b:SC} {fr fr1:Fr} {s s1:St} {x:Ex}:jJ Q f b fr s x fr1 s1->jJ Q f (.scope b) fr s x fr1 s1
 |loopN {b:SC} {fr fr1 fr2:Fr} {s s1 s2:St} {x:Ex}:jJ Q f b fr s .normal fr1 s1->jJ Q f (.loop b) fr1 s1 x fr2 s2->jJ Q f (.loop b) fr s x fr2 s2
 |loopX {b:SC} {fr fr1:Fr} {s s1:St} {x:Ex}:jJ Q f b fr s x fr1 s1->x≠.normal->jJ Q f (.loop b) fr s x fr1 s1
 |region {ops:ns} {fr fr1:Fr} {s s1:St}:uQ Q f ops fr s fr1 s1->jJ Q f (.region ops) fr s .normal fr1 s1
 |draw {ops:ns} {bs:be} {fr fr1:Fr} {s s1:St}:qo Q f bs [] 0 ops fr s fr1 s1->jJ Q f (.draw ops bs) fr s .normal fr1 s1
 |rfun {g:Operand} {ps:p_} {a b:Code} {fr:Fr} {s s1:St} {h:FuncId} {first captured:az} {v:aa} {f':FuncId} {env':aB aa} {size':Nat} {ps':p_} {a' b':Code} {p:MA}:ev fr.env g=some (.func (.func h) first captured)->
  (tH Q.P h&&(fr.env.all jC&&(dM a&&dM b)))=true->ai Q h (first++(.yld s.aL::captured)) (s.new (.loop f fr.env fr.size ps a b none)) v s1->s1.get [] s.aL=some (.loop f' env' size' ps' a' b' p)->
  jJ Q f (.rfun g ps a b) fr s (HG p) fr (s1.put s.aL none)
theorem Hj(n:Nat):aA n n=O:=by simp
variable{c:Call}{e:ax}
abbrev Z_:=FuncId×az
theorem Pc{g:Z_}(h:callee e c=X g):oK e c=I:=by
 grind [callee,oK]
theorem X9{g:Nat×az}(h:yieldee e c=X g):oK e c=O/\∀b,c.callee≠.builtin b:=by
 grind [yieldee,oK,ak]
variable{sc:SC}
section
variable{Q:ay}{f:FuncId}
theorem ads{all:nt}{s:St}{x:aa×Loc×St}(h:dJ Q f (pS all o) mk fr s=X x)(n:Nat):fC Q (bX Q (n+1)) f o mk fr s=X x:=by
 unfold dJ at h;unfold fC;simp only[pS]at h;cases hop:o.op<;>rw[hop]at h<;>simp only at h⊢ <;>try exact h
 ·rename_i c
  cases hcl:c.callee<;>rw[hcl]at h<;>simp only at h⊢
  case builtin=>exact h
  all_goals
   simp only[ak]at h;obtain⟨g,y,sp,p,v,q,h⟩:=h;cases h;have:(bX Q (n+1)).call g.1 g.2 mk s=X (v,s):=by
    show je Q (bX Q n) g.1 g.2 mk s=_;unfold je;simp only[p,q,aG]
   grind [Pc,pk]
theorem aCb{all:nt}:∀{l:CE}{ops:ns}{fr fr':Fr}{s s':St},uQ Q f ops fr s fr' s'->ops=l.map (pS all)->∃n,(bX Q n).ops f all [] l fr s=X (fr',s'):=by
 intro l ops fr fr' s s' h
 induction h generalizing l with
 |nil=>
  intro e;rcases l with _|⟨_,_⟩
  exact⟨1,rfl⟩;cases e
 |step h1 _ C=>
  intro e;rcases l with _|⟨p,l⟩
  cases e;simp only[cZ,mR]at e;obtain⟨rfl,rfl⟩:=e;obtain⟨n,y⟩:=C rfl;refine⟨n+2,?_⟩;show mG Q (bX Q (n+1)) f all [] (p::l) _ _=_;have y:=(mD Q (iy n)).ops _ _ _ _ _ _ _ y;rename_i fr fr1 _ s s1 _ _ _;unfold EO at h1
  grind [pS,Cr,mG,ak,ads]
 |call z E a0 U q V _ C=>
  intro e;rcases l with _|⟨p,l⟩
  cases e;simp only[cZ,mR]at e;obtain⟨rfl,rfl⟩:=e;obtain⟨n,y⟩:=C rfl;obtain⟨m,T⟩:=q;refine⟨max n m+1,?_⟩;show mG Q (bX Q (max n m)) f all [] (p::l) _ _=_;have y:=(mD Q (wK n m)).ops _ _ _ _ _ _ _ y;have T:=(mD Q (uL n m)).call _ _ _ _ _ T;rename_i c fr fr1 Y s s1 s2 g args v _ _ _;have z:fw all fr.env p=O:=by rw[<-Cr all];exact z
  simp only[mG];rw[z];simp only[cT,ak];have E:p.op=.call c:=E;refine⟨(v,fr.loc,s1),?_,fr1,V,y⟩
  grind [fC,pk,Pc]
 |yld z E U q V _ C=>
  intro e;rcases l with _|⟨p,l⟩
  cases e;simp only[cZ,mR]at e;obtain⟨rfl,rfl⟩:=e;obtain⟨n,y⟩:=C rfl;obtain⟨m,T⟩:=q;refine⟨max n m+1,?_⟩;show mG Q (bX Q (max n m)) f all [] (p::l) _ _=_;have y:=(mD Q (wK n m)).ops _ _ _ _ _ _ _ y;have T:=TD (mD Q (uL n m)) T;rename_i c fr fr1 Y s s1 s2 g args v _ _ _;have z:fw all fr.env p=O:=by rw[<-Cr all];exact z
  simp only[mG];rw[z];simp only[cT,ak];have E:p.op=.call c:=E;refine⟨(v,fr.loc,s1),?_,fr1,V,y⟩
  grind [fC,sK,X9]
theorem aCc{all:nt}{ops:ns}{s s':St}(h:qo Q f bs rs i ops fr s fr' s'):∀{l:CE},ops=l.map (pS all)->∃n,(bX Q n).draw f all bs [] rs i l fr s=X (fr',s'):=by
 induction h with
 |nil=>
  intro l e;rcases l with _|⟨_,_⟩
  exact⟨1,rfl⟩;cases e
 |skip q h1 _ C=>
  intro l e;rcases l with _|⟨p,l⟩
  cases e;simp only[cZ,mR]at e;obtain⟨rfl,rfl⟩:=e;obtain⟨n,z⟩:=C rfl;refine⟨n+1,?_⟩;have q:=(Cr all _ p).symm.trans q;show mr Q (bX Q n) f all _ [] _ _ (p::l) _ _=_;simp only[mr];rw[q];simp only[cF,ak];exact⟨_,h1,z⟩
 |step q h1 Y hc h2 _ C=>
  intro l e;rcases l with _|⟨p,l⟩
  cases e;simp only[cZ,mR]at e;obtain⟨rfl,rfl⟩:=e;obtain⟨n,z⟩:=C rfl;refine⟨n+2,?_⟩;have q:=(Cr all _ p).symm.trans q;show mr Q (bX Q (n+1)) f all _ [] _ _ (p::l) _ _=_;have z:=(mD Q (iy n)).draw _ _ _ _ _ _ _ _ _ _ z
  grind [mr,ads,pS,Hj]
 |call q U a0 T y Y hc h2 _ C=>
  intro l e;rcases l with _|⟨p,l⟩
  cases e;simp only[cZ,mR]at e;obtain⟨rfl,rfl⟩:=e;rename_i bs rs i c fr fr1 V s s1 s2 g args v _;obtain⟨n,z⟩:=C rfl;obtain⟨m,E⟩:=y;refine⟨max n m+1,?_⟩;have q:=(Cr all _ p).symm.trans q;show mr Q (bX Q (max n m)) f all _ [] _ _ (p::l) _ _=_;have z:=(mD Q (wK n m)).draw _ _ _ _ _ _ _ _ _ _ z;have E:=(mD Q (uL n m)).call _ _ _ _ _ E
  simp_all [mr,fC,pk,Pc,pS]
 |yld q U T y Y hc h2 _ C=>
  intro l e;rcases l with _|⟨p,l⟩
  cases e;simp only[cZ,mR]at e;obtain⟨rfl,rfl⟩:=e;rename_i bs rs i c fr fr1 V s s1 s2 g args v _;obtain⟨n,z⟩:=C rfl;obtain⟨m,E⟩:=y;refine⟨max n m+1,?_⟩;have q:=(Cr all _ p).symm.trans q;show mr Q (bX Q (max n m)) f all _ [] _ _ (p::l) _ _=_;have z:=(mD Q (wK n m)).draw _ _ _ _ _ _ _ _ _ _ z;have E:=TD (mD Q (uL n m)) E;have U:p.op=.call c:=U;simp only[mr]
  grind [fC,sK,X9,pS,Hj]
theorem aj7{id:Nat}:dX (.region id ops I)=.region (ops.toList.map (pS ops)):=by rw[dX]
theorem aj6{id:Nat}:dX (.region id ops O)=bif nD ops 0 ops.toList (Region.before ops).toList then .draw (ops.toList.map (pS ops)) (Region.before ops).toList else .bad:=by rw[dX]
theorem qv(c:Code):match dX c with
 |.skip=>c=.skip\/∃l,c=.label l
 |.ret=>c=.ret
 |.exit id=>c=.exit id
 |.seq a b=>∃x y,c=.seq x y/\dX x=a/\dX y=b
 |.cond o a b=>∃x y,c=.cond o x y/\dX x=a/\dX y=b
 |.block id b=>∃x,c=.block id x/\dX x=b
 |.scope b=>∃x,c=.scope x/\dX x=b
 |.loop b=>∃x,c=.loop x/\dX x=b
 |.region l=>∃id ops,c=.region id ops I/\ops.toList.map (pS ops)=l
 |.draw l bs=>∃id ops,c=.region id ops O/\ops.toList.map (pS ops)=l/\(Region.before ops).toList=bs/\nD ops 0 ops.toList (Region.before ops).toList=O
 |.rfun g l a b=>∃p,c=.rangeFunc g p a b/\p.toList=l
 |.bad=>True:=by
 cases c with
 |region id ops d=>
  cases d
  grind [aj7]
  grind [aj6]
 |skip=>exact .inl rfl
 |label l=>exact .inr ⟨l,rfl⟩
 |ret=>rfl
 |exit id=>rfl
 |seq a b=>exact⟨a,b,rfl,rfl,rfl⟩
 |cond x a b=>exact⟨a,b,rfl,rfl,rfl⟩
 |block id b=>exact⟨b,rfl,rfl⟩
 |scope b=>exact⟨b,rfl,rfl⟩
 |loop b=>exact⟨b,rfl,rfl⟩
 |rangeFunc g p a b=>exact⟨p,rfl,rfl⟩
 |_=>trivial
theorem SL{s s':St}{x:Ex}(h:jJ Q f sc fr s x fr' s'):∀{c:Code},dX c=sc->∃n,(bX Q n).code f c [] fr s=X (x,fr',s'):=by
 induction h with
 |skip=>
  intro c e
  have:=qv c;rw[e]at this;rcases this with rfl|⟨l,rfl⟩<;>exact⟨1,rfl⟩
 |ret=>intro c e;have:=qv c;rw[e]at this;simp only at this;subst this;exact⟨1,rfl⟩
 |exit=>intro c e;have:=qv c;rw[e]at this;simp only at this;subst this;exact⟨1,rfl⟩
 |seqN _ _ q z=>
  intro c e
  have:=qv c;rw[e]at this;obtain⟨x,y,rfl,h1,C⟩:=this;obtain⟨n,p⟩:=q h1;obtain⟨m,U⟩:=z C;refine⟨max n m+1,?_⟩;show((bX Q (max n m)).code f x [] _ _).bind (pP (bX Q (max n m)) f y [])=_;rw[(mD Q (wK n m)).code _ _ _ _ _ _ p];exact(mD Q (uL n m)).code _ _ _ _ _ _ U
 |seqX _ T q=>
  intro c e
  have:=qv c;rw[e]at this;obtain⟨a,b,rfl,h1,C⟩:=this;obtain⟨n,p⟩:=q h1;refine⟨n+1,?_⟩;show((bX Q n).code f a [] _ _).bind (pP (bX Q n) f b [])=_;rw[p];rename_i x _;cases x;exact absurd rfl T;rfl;rfl
 |cond V _ E=>
  intro c e
  have:=qv c;rw[e]at this;obtain⟨a,b,rfl,h1,C⟩:=this;rename_i t _ _ _ _ _ _;obtain⟨n,p⟩:=E (c:=if t then a else b) (by cases t<;>simp[h1,C]);refine⟨n+1,?_⟩;show(ev _ _).bind (Dd (bX Q n) f a b [] _ _)=_;rw[V];cases t<;>exact p
 |block _ E=>
  intro c e
  have:=qv c;rw[e]at this;obtain⟨b,rfl,h1⟩:=this;obtain⟨n,p⟩:=E h1;refine⟨n+1,?_⟩;show((bX Q n).code f b [] _ _).bind (λx=>X (qt _ x))=_;rw[p];rename_i id _ _ _ _ _ x _;cases x<;>grind [qt,Ex.block]
 |scope _ E=>
  intro c e
  have:=qv c;rw[e]at this;obtain⟨b,rfl,h1⟩:=this;obtain⟨n,p⟩:=E h1;exact⟨n+1,p⟩
 |loopN _ _ q z=>
  intro c e
  have:=qv c;rw[e]at this;obtain⟨b,rfl,h1⟩:=this;obtain⟨n,p⟩:=q h1;obtain⟨m,U⟩:=z (c:=.loop b) (by rw[dX,h1]);refine⟨max n m+1,?_⟩;show((bX Q (max n m)).code f b [] _ _).bind (pP (bX Q (max n m)) f (.loop b) [])=_;rw[(mD Q (wK n m)).code _ _ _ _ _ _ p];exact(mD Q (uL n m)).code _ _ _ _ _ _ U
 |loopX _ T q=>
  intro c e
  have:=qv c;rw[e]at this;obtain⟨b,rfl,h1⟩:=this;obtain⟨n,p⟩:=q h1;refine⟨n+1,?_⟩;show((bX Q n).code f b [] _ _).bind (pP (bX Q n) f (.loop b) [])=_;rw[p];rename_i x _;cases x;exact absurd rfl T;rfl;rfl
 |region hl=>
  intro c e
  have:=qv c;rw[e]at this;obtain⟨id,ops,rfl,h1⟩:=this;obtain⟨n,p⟩:=aCb (all:=ops) (l:=ops.toList) hl h1.symm;refine⟨n+1,?_⟩;show((bX Q n).ops f ops [] ops.toList _ _).bind (λx=>X (Ex.normal,x.1,x.2))=_;rw[p];rfl
 |draw hl=>
  intro c e
  have:=qv c;rw[e]at this;obtain⟨id,ops,rfl,h1,C,h3⟩:=this;subst h1;subst C;obtain⟨n,p⟩:=aCc hl (l:=ops.toList) rfl;refine⟨n+1,?_⟩;show(bif nD ops 0 ops.toList (Region.before ops).toList then(bX Q n).draw f ops (Region.before ops).toList [] [] 0 ops.toList _ _ else Z).bind (λx=>X (Ex.normal,x.1,x.2))=_;rw[h3,cT,p];rfl
 |rfun V hb hr hg=>
  intro c e
  have:=qv c;rw[e]at this;obtain⟨Y,rfl,rfl⟩:=this;obtain⟨n,p⟩:=hr;refine⟨n+1,?_⟩;show(ev _ _).bind (x8 Q (bX Q n) f Y.toList _ _ [] _ _)=_
  grind [x8,B8]
end
abbrev hP:=Ex->Fr->St->Prop
def W(Q:ay)(f:FuncId)(c:SC)(fr:Fr)(s:St)(K:hP):Prop:=∃x fr' s',jJ Q f c fr s x fr' s'/\K x fr' s'
abbrev mm:=Fr->St->Prop
def WL(Q:ay)(f:FuncId)(l:ns)(fr:Fr)(s:St)(K:mm):Prop:=∃fr' s',uQ Q f l fr s fr' s'/\K fr' s'
variable{ops:ns}{cs':az}{g:az->Rd}{b:SC}
section
variable{Q:ay}{f:FuncId}{fr:Fr}{s:St}{K:hP}
def Ex.next(K:hP)(N:mm):Ex->Fr->St->Prop
 |.normal=>N
 |x=>K x
def W.mono{c:SC}{p:hP}(h:W Q f c fr s K)(q:∀x fr s,K x fr s->p x fr s):W Q f c fr s p:=let⟨x,fr',s',h1,h2⟩:=h;⟨x,fr',s',h1,q _ _ _ h2⟩
def W.skip(h:K .normal fr s):W Q f .skip fr s K:=⟨_,_,_,.skip,h⟩
def W.ret(h:K .ret fr s):W Q f .ret fr s K:=⟨_,_,_,.ret,h⟩
def W.exit{id:Nat}(h:K (.exit id) fr s):W Q f (.exit id) fr s K:=⟨_,_,_,.exit,h⟩
def W.seq{a:SC}(h:W Q f a fr s (Ex.next K λfr s=>W Q f b fr s K)):W Q f (.seq a b) fr s K:=by
 obtain⟨x,fr1,s1,h1,p⟩:=h;cases x with
 |normal=>obtain⟨y,q,s2,C,z⟩:=p;exact⟨y,q,s2,.seqN h1 C,z⟩
 |exit i=>exact⟨_,_,_,.seqX h1 (by simp),p⟩
 |ret=>exact⟨_,_,_,.seqX h1 (by simp),p⟩
def W.cond{o:Operand}{a:SC}{t:Bool}(p:ev fr.env o=X (.bool t))(h:W Q f (if t then a else b) fr s K):W Q f (.cond o a b) fr s K:=let⟨x,fr1,s1,h1,h2⟩:=h;⟨x,fr1,s1,.cond p h1,h2⟩
theorem W.block{id:Nat}(h:W Q f b fr s λx=>K (x.block id)):W Q f (.block id b) fr s K:=let⟨_x,fr1,s1,h1,h2⟩:=h;⟨_,fr1,s1,.block h1,h2⟩
def W.scope(h:W Q f b fr s K):W Q f (.scope b) fr s K:=let⟨x,fr1,s1,h1,h2⟩:=h;⟨x,fr1,s1,.scope h1,h2⟩
def W.loop1(h:W Q f b fr s (Ex.next K λfr s=>W Q f (.loop b) fr s K)):W Q f (.loop b) fr s K:=by
 obtain⟨x,fr1,s1,h1,p⟩:=h;cases x with
 |normal=>obtain⟨y,q,s2,C,z⟩:=p;exact⟨y,q,s2,.loopN h1 C,z⟩
 |exit i=>exact⟨_,_,_,.loopX h1 (by simp),p⟩
 |ret=>exact⟨_,_,_,.loopX h1 (by simp),p⟩
def W.region(h:WL Q f ops fr s λfr s=>K .normal fr s):W Q f (.region ops) fr s K:=let⟨fr1,s1,h1,h2⟩:=h;⟨_,fr1,s1,.region h1,h2⟩
def W.rfun{g:Operand}{ps:p_}{a b:Code}{s1:St}{h:FuncId}{first captured:az}{V:FuncId}{y:aB aa}{q:Nat}{z:p_}{a' Y:Code}{p:MA}(C:ev fr.env g=X (.func (.func h) first captured))(U:(tH Q.P h&&(fr.env.all jC&&(dM a&&dM b)))=O)(hr:ai Q h (first++(.yld s.aL::captured)) (s.new (.loop f fr.env fr.size ps a b Z)) v s1)(T:s1.get [] s.aL=X (.loop V y q z a' Y p))(E:K (HG p) fr (s1.put s.aL Z)):W Q f (.rfun g ps a b) fr s K:=⟨_,_,_,.rfun C U hr T,E⟩
variable{N:mm}
def WL.call{o:aJ}{l:ns}{s1:St}{g:FuncId}(p:jT fr.env o.g=O)(y:o.op=.call c)(z:∀b,c.callee≠.builtin b)(E:callee fr.env c=X (g,args))(hr:ai Q g args s v s1)(q:d8 fr o.dst v fr.loc=X fr1)(C:WL Q f l fr1 s1 N):WL Q f (o::l) fr s N:=
 let⟨fr2,s2,h1,h2⟩:=C;⟨fr2,s2,.call p y z E hr q h1,h2⟩
noncomputable def vk(n:Nat)(args:az):Fr:=⟨qO 0 args,bif aP (J args) n then n else J args,[]⟩
theorem ai.ofI{c:Code}{s':St}(z:Q.P.funcs[f]?=X fn)(C:fn.body=X c)(p:Q.spec f=Z)(q:dX c=sc)(h:W Q f sc (vk fn.ntmps args) s λx fr' s1=>s1=s'/\(x=.normal\/x=.ret)/\∃vs,jm Q [] fr' s1 fn.results.toList=X vs/\nh vs=v)(T:Q.specH f=Z:=by rfl)(E:((Q.specW f).bind λsp=>sp args)=Z:=by rfl):ai Q f args s v s':=by
 obtain⟨x,fr',s1,h1,rfl,Y,vs,V,U⟩:=h;obtain⟨n,y⟩:=SL h1 q;refine⟨n+1,?_⟩;show je Q (bX Q n) f args [] s=_;unfold je;rw[p];simp only[T,E,z,aG,C];have y:(bX Q n).code f c [] ⟨qO 0 args,bif aP (J args) fn.ntmps then fn.ntmps else J args,[]⟩ s=X (x,fr',s1):=y
 grind [qy]
def ai.of{c:Code}{s':St}(y:Q.P.funcs[f]?=X fn)(z:fn.body=X c)(p:Q.spec f=Z)(q:dX c=sc)(h:W Q f sc (vk fn.ntmps args) s λx fr' s1=>s1=s'/\(x=.normal\/x=.ret)/\∃vs,jm Q [] fr' s1 fn.results.toList=X vs/\nh vs=v)(E:Q.specH f=Z:=by rfl)(C:Q.specW f=Z:=by rfl):ai Q f args s v s':=.ofI y z p q h E (by simp[C])
abbrev aax:=az->UP
def ai.specN(q:Q.anew f=O){sp:aax}{sz a b len c:Nat}{cs:az}(p:Q.spec f=Z)(z:Q.specH f=Z)(y:Q.specW f=X sp)(h1:sp args=X (X (n,g)))(E:s.get [] n=X (.cells cs))(C:ee (s.get []) (g cs)=X (.tup [.arr sz a b len c,.agg cs'])):
 ai Q f args s (.arr sz s.aL 0 len len) ((s.put n Z).new (.cells cs')):=by
 refine⟨1,?_⟩;show je Q (bX Q 0) f args [] s=_
 simp_all [je,xY,Am,Ba]
def ai.specW{sp:aax}{cs:az}(p:Q.spec f=Z)(y:Q.specH f=Z)(q:Q.specW f=X sp)(h1:sp args=X (X (n,g)))(C:s.get [] n=X (.cells cs))(z:ee (s.get []) (g cs)=X (.agg cs')):
 ai Q f args s (.tup []) (s.put n (X (.cells cs'))):=by
 refine⟨1,?_⟩;show je Q (bX Q 0) f args [] s=_
 simp_all [je,xY,Am,Ba]
def HM{x:T_}{g:U_}(h:ee g (su x)=X (.agg l)):x=X l:=by
 rcases x with _|y
 cases h;injection h with h
 injection h with h
 rw[h]
theorem ai.specWp{sp:aax}{g:az->T_}{cs:az}(p:Q.spec f=Z)(y:Q.specH f=Z)(q:Q.specW f=X sp)(h1:sp args=X (X (n,λcs=>su (g cs))))(z:s.get [] n=X (.cells cs))(C:g cs=X cs'):
 ai Q f args s (.tup []) (s.put n (X (.cells cs'))):=.specW p y q h1 z (by grind [ee,su])
theorem ai.specW0{sp:aax}(p:Q.spec f=Z)(y:Q.specH f=Z)(q:Q.specW f=X sp)(h1:sp args=X Z):ai Q f args s (.tup []) s:=by
 refine⟨1,?_⟩;show je Q (bX Q 0) f args [] s=_
 grind [je,xY]
end
def da(g:aaE):az->T_
 |[]=>X []
 |v::l=>(g v).bind λa=>(da g l).bind λr=>X (a::r)
noncomputable def b9(h:aB aH):Nat->aa->er
 |0,_=>Z
 |k+1,v=>match v with
  |.agg cs=>(da (b9 h k) cs).bind λr=>X (.agg r)
  |.tup cs=>(da (b9 h k) cs).bind λr=>X (.tup r)
  |.list sz xs r=>(da (b9 h k) xs).bind λp=>X (.list sz p (match r with|.own _=>.no|r=>r))
  |.arr sz n off len _=>match h.get n with
    |some (.cells cs)=>(cut cs off (len*sz)).bind λc=>(da (b9 h k) c).bind λq=>(chunk (!aA sz 1) sz len q).bind λxs=>X (.list sz xs .no)
    |_=>Z
  |.bool b=>X (.bool b)
  |.int k n=>X (.int k n)
  |.str s=>X (.str s)
  |.nilp=>X .nilp
  |.Ge=>X .Ge
  |.nilm=>X .nilm
  |.nilf=>X .nilf
  |.nili=>X .nili
  |_=>Z
theorem zH{g g':aaE}(p:∀v u,g v=X u->g' v=X u):∀{l r:az},da g l=X r->da g' l=X r
 |[],_,h=>h
 |v::l,r,h=>by
  simp only[da,ak]at h⊢;obtain⟨a,h1,r',y,q⟩:=h;exact⟨a,p _ _ h1,r',zH p y,q⟩
theorem WN(h:aB aH):∀(k:Nat)(v u:aa),b9 h k v=X u->b9 h (k+1) v=X u
 |0,_,_,e=>by cases e
 |k+1,v,u,e=>by
  have q:=WN h k;cases v<;>simp only[b9]at e⊢ <;>first
   |exact e
   |(simp only[ak]at e⊢
     obtain⟨r,h1,p⟩:=e;exact⟨r,zH q h1,p⟩)
   |skip
  split at e;rename_i y;simp only[ak]at e⊢;obtain⟨c,h1,C,p,z⟩:=e;exact⟨c,h1,C,zH q p,z⟩;cases e
theorem Dt(h:aB aH){k:Nat}(q:k<=m)(e:b9 h k v=X u):b9 h m v=X u:=by
 induction m with
 |zero=>grind
 |succ m p=>
  grind [WN]
def fF(h:aB aH)(v u:aa):Prop:=∃k,b9 h k v=X u
theorem fF.unique{p:aa}(a:fF h v u)(b:fF h v p):u=p:=by
 obtain⟨k,q⟩:=a;obtain⟨m,y⟩:=b;have h1:=Dt h (wK k m) q
 grind [Dt,uL]
noncomputable def Br(h:aB aH)(v:aa):er:=by
 classical exact if e:∃u,fF h v u then X e.choose else Z
def WD(e:fF h v u):Br h v=X u:=by
 unfold Br;rw[dif_pos ⟨u,e⟩];exact congrArg X ((Exists.choose_spec (p:=λu=>fF h v u) ⟨u,e⟩).unique e)
theorem WE(e:Br h v=X u):fF h v u:=by
 unfold Br at e;split at e<;>grind
theorem Jy{g:aaE}:∀{l r:az},da g l=X r->∀(i:Nat) u,r[i]?=X u->∃v,l[i]?=X v/\g v=X u
 |[],r,h,i,u,hi=>by
   grind [da]
 |v::l,r,h,i,u,hi=>by
  simp only[da,ak,aQ]at h;obtain⟨a,h1,r',y,rfl⟩:=h;rcases i with _|i
  grind
  simp at hi;obtain⟨x,q,p⟩:=Jy y i u hi;exact⟨x,by simpa using q,p⟩
theorem Jz{g:aaE}:∀{l r:az},da g l=X r->J r=J l
 |[],r,h=>by grind [da]
 |v::l,r,h=>by
  simp only[da,ak,aQ]at h;obtain⟨a,h1,r',p,rfl⟩:=h;simp[Jz p]
theorem JB{k:Nat}(e:b9 h k v=X u)(p:v.scal=O):u.scal=O:=by
 cases k with
 |zero=>cases e
 |succ k=>
  cases v<;>simp only[b9]at e<;>first
   |(simp[aa.scal]at p;done)
   |(injection e with e;subst e;rfl)
   |(cases e;done)
   |(simp only[ak,aQ]at e;obtain⟨_,_,rfl⟩:=e;rfl)
   |(split at e
     simp only[ak,aQ]at e;obtain⟨_,_,_,_,_,_,rfl⟩:=e;rfl;cases e)
theorem OS{k:Nat}(e:b9 h k v=X u):∃m,da (b9 h m) v.cells=X u.cells:=by
 cases k with
 |zero=>cases e
 |succ k=>
  by_cases hv:∃cs,v=.agg cs;obtain⟨cs,rfl⟩:=hv;simp only[b9,ak,aQ]at e;obtain⟨r,h1,rfl⟩:=e;exact⟨k,h1⟩;have q:v.cells=[v]:=by cases v<;>first|rfl|exact absurd ⟨_,rfl⟩ hv
  have p:u.cells=[u]:=by
   cases v<;>simp only[b9]at e<;>first
    |exact absurd ⟨_,rfl⟩ hv
    |(injection e with e;subst e;rfl)
    |(cases e;done)
    |(simp only[ak,aQ]at e;obtain⟨_,_,rfl⟩:=e;rfl)
    |(split at e
      simp only[ak,aQ]at e;obtain⟨_,_,_,_,_,_,rfl⟩:=e;rfl;cases e)
  grind [da]
theorem Jx{h:aB aH}{k:Nat}:∀{xs ys:az},da (b9 h k) xs=X ys->∃m,da (b9 h m) (aq xs)=X (aq ys)
 |[],ys,e=>by simp only[da,aQ]at e;subst e;exact⟨0,rfl⟩
 |x::xs,ys,e=>by
  simp only[da,ak,aQ]at e;obtain⟨a,h1,r,C,rfl⟩:=e;obtain⟨y,p⟩:=OS h1;obtain⟨q,z⟩:=Jx C;refine⟨max y q,?_⟩;simp only[aq];have p:=zH (g':=b9 h (max y q)) (λv u e=>Dt h (wK _ _) e) p;have z:=zH (g':=b9 h (max y q)) (λv u e=>Dt h (uL _ _) e) z;clear h1 C;generalize x.cells=c at p;generalize a.cells=d at p
  induction c generalizing d with
  |nil=>grind [da]
  |cons v c E=>
   simp only[da,ak,aQ]at p
   grind [da]
theorem WM{h:aB aH}:∀{k:Nat}{v u:aa},bn v=O->b9 h k v=X u->u=v
 |0,_,_,_,e=>by cases e
 |k+1,v,u,p,e=>by
  have q:∀{l r:az},pures l=O->da (b9 h k) l=X r->r=l:=by
   intro l
   induction l with
   |nil=>intro r _ e;simp only[da,aQ]at e;exact e.symm
   |cons v l y=>
    intro r p e;simp only[pures,bg]at p;simp only[da,ak,aQ]at e;obtain⟨a,h1,r',z,rfl⟩:=e;rw[WM p.1 h1,y p.2 z]
  cases v<;>simp only[b9]at e<;>first
   |(injection e with e;exact e.symm)
   |(cases e;done)
   |(simp[bn]at p;done)
   |(simp only[bn]at p
     simp only[ak,aQ]at e;obtain⟨r,h1,rfl⟩:=e;rw[q p h1])
   |skip
  rename_i sz xs r;simp only[bn,bg]at p;simp only[ak,aQ]at e;obtain⟨C,h1,rfl⟩:=e;rw[q p.1 h1];cases r<;>first|rfl|(simp at p)
def A5(G:Gh)(h:aB aH)(b o:Nat)(u:aa):Prop:=∃n a cs i,h.get n=X (.cells cs)/\G.at_ n=X a/\a.block=b/\o=a.off+i/\cs[i]?=X u
variable{b o:Nat}
theorem A5.unique(wr:WR G h w){p:aa}(x:A5 G h b o u)(y:A5 G h b o p):u=p:=by
 obtain⟨n,a,cs,i,h1,z,q,V,U⟩:=x;obtain⟨m,c,ds,j,T,E,C,g4,Y⟩:=y;have e:n=m:=wr.sep n m a c (by rw[h1];simp) (by rw[T];simp) z E (by rw[q,C])
 grind
noncomputable def nH(G:Gh)(h:aB aH)(b o:Nat):er:=by
 classical exact(G.ro b o).or (if e:∃u,A5 G h b o u then X e.choose else Z)
def aiK(e:G.ro b o=X u):nH G h b o=X u:=by simp[nH,e]
theorem aiJ(wr:WR G h w)(e:A5 G h b o u):nH G h b o=X u:=by
 have h0:G.ro b o=Z:=by
  rcases e':G.ro b o with _|v
  rfl;obtain⟨n,a,cs,i,h1,q,p,z,y⟩:=e
  have:=wr.apart n _ a o v h1 q (by rw[p];exact e');cases this.1
 unfold nH;rw[h0,Option.none_or,dif_pos ⟨u,e⟩]
 grind [A5.unique]
theorem I5(e:nH G h b o=X u):G.ro b o=X u\/A5 G h b o u:=by
 unfold nH at e;cases e':G.ro b o with
 |some v=>grind
 |none=>
  rw[e',Option.none_or]at e;split at e<;>grind
noncomputable def Gh.froze(G G1:Gh)(h1:aB aH):Gh where
 at_:=G.at_
 ro b o:=(G.ro b o).or ((nH G1 h1 b o).bind (Br h1))
 dim:=G.dim
section
variable{G1 G2:Gh}{h1:aB aH}
theorem thaw(U:∀b o u u',nH G1 h1 b o=X u->fF h1 u u'->G2.ro b o=X u'){w:World}(wr:WR G1 h1 w):∀(k:Nat){v u:aa}{x:Value},VR G1 v x->b9 h1 k v=X u->VR G2 u x
 |0,_,_,_,_,e=>by cases e
 |k+1,v,u,x,T,e=>by
  have ih:∀{vs E:az}{xs:gy},bL G1 vs xs->da (b9 h1 k) vs=X E->bL G2 E xs:=by
   intro vs
   induction vs with
   |nil=>intro E xs h e;cases h;simp only[da,aQ]at e;subst e;exact .nil
   |cons v vs a0=>
    intro E xs h e;cases h with
    |cons a b=>
     simp only[da,ak,aQ]at e;obtain⟨u,q,r,Y,rfl⟩:=e;exact .cons (thaw U wr k a q) (a0 b Y)
  have p:∀{cs E:az},dl cs=O->da (b9 h1 k) cs=X E->dl E=O:=by
   intro cs
   induction cs with
   |nil=>grind [da]
   |cons v vs a0=>
    grind [dl,da,ak,JB]
  cases T with
  |bool b=>simp only[b9,aQ]at e;subst e;exact .bool b
  |int k n=>simp only[b9,aQ]at e;subst e;exact .int k n
  |str s=>simp only[b9,aQ]at e;subst e;exact .str s
  |nilp=>simp only[b9,aQ]at e;subst e;exact .nilp
  |Ge=>simp only[b9,aQ]at e;subst e;exact .Ge
  |nilm=>simp only[b9,aQ]at e;subst e;exact .nilm
  |nilf=>simp only[b9,aQ]at e;subst e;exact .nilf
  |nili=>simp only[b9,aQ]at e;subst e;exact .nili
  |ptr _=>simp[b9]at e
  |ro _=>simp[b9]at e
  |map _=>simp[b9]at e
  |func _ _=>simp[b9]at e
  |iface _=>simp[b9]at e
  |yld _=>simp[b9]at e
  |roz _=>simp[b9]at e
  |agg hc hs=>
   simp only[b9,ak,aQ]at e;obtain⟨r,q,rfl⟩:=e;exact .agg (p hc q) (ih hs q)
  |tup hs=>
   simp only[b9,ak,aQ]at e;obtain⟨r,q,rfl⟩:=e;exact .tup (ih hs q)
  |list a b c d e' f=>
   rename_i sz xs r ad a3;simp only[b9,ak,aQ]at e;obtain⟨ys,q,rfl⟩:=e;have z:=Jz q;rw[<-z];refine .list a b ?_ (by rw[z];exact d) ?_ ?_
   grind [Cy,Jy,OS,Jz]
   intro i y hy;obtain⟨m,Y⟩:=Jx q;obtain⟨v,T,h5⟩:=Jy Y i y hy;exact U _ _ v y (aiK (e' i v T)) ⟨m,h5⟩;cases r with
   |GT=>rw[z];exact f
   |own n=>exact trivial
   |no=>exact trivial
  |arr a b c d e' f g i=>
   rename_i sz n a4 len a7 ad bd a3 dm;simp only[b9]at e;split at e;rename_i cs a2;simp only[ak,aQ]at e;obtain⟨cc,q,c',Y,xs,h5,rfl⟩:=e;obtain⟨b1,a1,b0,C,et,a9,a8,a6⟩:=wr.obj n _ a2;rw[a]at a1;cases a1;have a5:dl cc=O:=by
    simp only[dl,fO];intro v T;obtain⟨j,hj⟩:=Cy T;exact(a6 _ v (FO q hj)).1
   obtain⟨q1,q2,q3⟩:=C7 (g:= !aA sz 1) (sz:=sz) (λhh=>by
    simp_all) h5 (p a5 Y)
   have:VR G2 (.list sz xs .no) (.slice (X ad) (J xs) a3):=by
    refine .list (.inr b) c q3 w_ ?_ trivial;intro j y hy;rw[q2]at hy;obtain⟨v,T,h6⟩:=Jy Y j y hy;have V:=FO q T;rcases f with f|⟨f1,f2⟩
    have hl:len=0:=w_
    have:=(De q).2
    grind
    refine U _ _ v y (aiJ wr ⟨n,bd,cs,a4+j,a2,a,f1.symm,?_,V⟩) ⟨k,h6⟩;rw[f2];omega
   rw[q1]at this;exact this;cases e
end
mutual
def dW:aa->Bool
 |.agg cs=>dR cs
 |.tup cs=>dR cs
 |.list _ xs _=>pures xs
 |v=>bn v
def dR:az->Bool
 |[]=>O
 |v::l=>dW v&&dR l
end
mutual
theorem VR.top{G1 G2:Gh}(k:Ft G1 G2):∀{v:aa}{x:Value},VR G1 v x->dW v=O->VR G2 (cx v) x
 |_,_,.bool b,_=>.bool b
 |_,_,.int k n,_=>.int k n
 |_,_,.str s,_=>.str s
 |_,_,.agg hc hs,h=>.agg (aCx hc) (bL.top k hs (by simpa[dW]using h))
 |_,_,.tup hs,h=>.tup (bL.top k hs (by simpa[dW]using h))
 |_,_,.nilp,_=>.nilp
 |_,_,.ptr e,h=>by simp[dW,bn]at h
 |_,_,.ro (cs:=cs) e,h=>by
  have h:pures cs=O:=by simpa[dW,bn]using h
  rw[cx,kF h];exact .ro λi x p=>k _ _ _ (e i x p) (LA h p)
 |_,_,.Ge,_=>.Ge
 |_,_,.list (xs:=xs) (r:=r) a b c d e f,h=>by
  have h:pures xs=O:=by simpa[dW]using h
  simp only[cx,kF h];refine .list a b c d (λi x p=>k _ _ _ (e i x p) (LA (ady h) p)) ?_;cases r with
  |GT=>exact f
  |own n=>exact trivial
  |no=>exact trivial
 |_,_,.arr ..,h=>by simp[dW,bn]at h
 |_,_,.nilm,_=>.nilm
 |_,_,.map e,h=>by simp[dW,bn]at h
 |_,_,.nilf,_=>.nilf
 |_,_,.func (first:=f) (captured:=g) a b,h=>by
  have h:pures f=O/\pures g=O:=by simpa[dW,bn]using h
  simp only[cx,kF h.1,kF h.2];exact .func (bL.onto k a h.1) (bL.onto k b h.2)
 |_,_,.nili,_=>.nili
 |_,_,.iface (v:=v) e,h=>by
  have h:bn v=O:=by simpa[dW,bn]using h
  simp only[cx,yu h];exact .iface (VR.onto k e h)
 |_,_,.yld _,h=>by simp[dW,bn]at h
 |_,_,.roz _,h=>by simp[dW,bn]at h
theorem bL.top{G1 G2:Gh}(k:Ft G1 G2):∀{vs:az}{xs:gy},bL G1 vs xs->dR vs=O->bL G2 (di vs) xs
 |_,_,.nil,_=>.nil
 |_,_,.cons a b,h=>by
  simp only[dR,bg]at h;exact .cons (VR.top k a h.1) (bL.top k b h.2)
end
def WJ{h h':aB aH}(z:∀n o,h.get n=X o->h'.get n=X o):∀(k:Nat)(v u:aa),b9 h k v=X u->b9 h' k v=X u
 |0,_,_,e=>by cases e
 |k+1,v,u,e=>by
  have y:=WJ z k;cases v<;>simp only[b9]at e⊢ <;>first
   |exact e
   |(simp only[ak]at e⊢
     obtain⟨r,h1,q⟩:=e;exact⟨r,zH y h1,q⟩)
   |skip
  split at e;rename_i p;rw[z _ _ p];simp only[ak]at e⊢;obtain⟨c,h1,E,q,C⟩:=e;exact⟨c,h1,E,zH y q,C⟩;cases e
theorem Ta(hg:AL Q)(T:∀i,0<Q.kmax i)(hp:dR args=O)(he:∀ch,lw Q ch->∃v s',(bX (Q.at ch) n).call f (di args) [] s0=X (v,s')/\fF s'.heap v u)(G:Gh)(h:aB aH)(w:World)(xs:gy)(wr:WR G h w)(hx:bL G args xs):
 kI Q.P f ⟨xs⟩ w λy w'=>∃G',WR G' h w'/\ce G h w G' h w' 0 0/\VR G' u y:=by
 have a1:lA [] (λ_=>True) G.plain s0 s0 w:=⟨λn _=>rfl,.refl _ _,wr.plain,λ_ _ _=>rfl⟩;have hc:=(Uz hg n).1 f (di args) [] s0 s0 G.plain w xs (λ_=>0) (λ_=>True) a1 (hx.top (Lx G) hp) T (λY _ hi=>by
  grind)
 refine hc.mono ?_;rintro y w' ⟨Y,v,s',s2',G1,c⟩;have a3:fF s2'.heap v u:=by
  obtain⟨v1,s1,h1,q⟩:=he Y c.inb;have E:=c.eval;rw[h1]at E;simp only[aQ,bk]at E;obtain⟨rfl,rfl⟩:=E;have goes:fQ [] s0 s1:=((lO Q n).call f (di args) [] Y s0 v1 s1 h1).1;have sees:iU [] s1 s2':=c.same.sees (.refl _ _) goes;obtain⟨k,T⟩:=q;exact⟨k,WJ (λn o e=>sees.get n o rfl e) k _ _ T⟩
 have ext:ce G.plain .nil w G1 s2'.heap w' 0 s'.aL:=c.ext;have kept:∀b,b<w.heap.size->w'.heap[b]?=w.heap[b]? :=λb U=>ext.keep b U K6;have old:∀b o u,b<w.heap.size->nH G1 s2'.heap b o=X u->G.ro b o=X u/\bn u=O:=by
  intro b o u U p;rcases I5 p with p|⟨m,a,cs,i,h1,q,E,_,_⟩
  rcases e:G.plain.ro b o with _|u'
  exact absurd (ext.cells b o u U p e) K6
  have:=ext.le.ro b o u' e
  grind [Gh.plain,ak]
  exact absurd (ext.owns b U ⟨m,a,by rw[h1];simp,q,E⟩) K6
 have V:G.le (G.froze G1 s2'.heap):=⟨λ_ _ h=>h,λb o u h=>by simp[Gh.froze,h],λ_ _ h=>h⟩;have back:∀b o u u',nH G1 s2'.heap b o=X u->fF s2'.heap u u'->(G.froze G1 s2'.heap).ro b o=X u':=by
  intro b o u u' p hf;rcases e:G.ro b o with _|z
  simp[Gh.froze,e,p,WD hf];obtain⟨h1,q⟩:=old b o u (wr.ro_lt e) p;obtain⟨k,T⟩:=hf
  grind [WM,Gh.froze]
 have a0:∀b o x,b<w.heap.size->w.cell? ⟨b,o,Z⟩=X x->w'.cell? ⟨b,o,Z⟩=X x:=by
  intro b o x U hx
  have:=kept b U;unfold World.cell? at hx⊢;rw[this];exact hx
 obtain⟨kk,a4⟩:=a3;refine⟨G.froze G1 s2'.heap,⟨?_,?_,?_,?_,?_,?_⟩,⟨V,ext.size,λb U _=>kept b U,λb _ o=>o,?_,?_,ext.quiet,λb _ o=>o⟩,thaw back c.wr kk c.val a4⟩;intro n o hn;obtain⟨a,h1,q,E⟩:=wr.obj n o hn;exact⟨a,h1,q,(E.mono V).of_block (kept _ (wr.below n a h1))⟩;exact wr.sep;intro b o u p;cases e:G.ro b o with
 |some z=>
  have:u=z:=by simp only[Gh.froze,e,Option.some_or,aQ]at p;exact p.symm
  subst this;obtain⟨h1,y,q,E⟩:=wr.ro b o u e;exact⟨h1,y,a0 b o y (wr.ro_lt e) q,E.mono V⟩
 |none=>
  simp only[Gh.froze,e,Option.none_or,ak]at p;obtain⟨z,hz,p⟩:=p;obtain⟨k,T⟩:=WE p;rcases I5 hz with a2|⟨m,a,cs,i,h1,q,E,h4,h5⟩
  obtain⟨h1,y,q,E⟩:=c.wr.ro b o z a2;exact⟨JB T h1,y,q,thaw back c.wr k E T⟩;obtain⟨a',g1,g2,C,et,g3,g4,g5⟩:=c.wr.obj m _ h1;rw[q]at g1;cases g1;obtain⟨r1,y,r2,r3⟩:=g5 i z h5;refine⟨JB T r1,y,?_,thaw back c.wr k r3 T⟩
  grind [kw]
 intro n ob a i u hn ha p;cases e:G.ro a.block i with
 |some z=>exact wr.apart n ob a i z hn ha e
 |none=>
  simp only[Gh.froze,e,Option.none_or,ak]at p;obtain⟨z,hz,_⟩:=p
  have:=(old _ _ _ (wr.below n a ha) hz).1;rw[e]at this;cases this
 intro b d hd;obtain⟨C,e,h1,q⟩:=wr.dim b d hd
 grind
 intro n a ha;exact fP (wr.below n a ha) ext.size
 all_goals grind [Gh.froze,ak]
def Tb(U:AL Q)(T:∀i,0<Q.kmax i){s':St}(C:dR args=O)(hr:ai Q f (di args) s0 v s')(p:s'.ci=0)(z:fF s'.heap v u)(G:Gh)(h:aB aH)(w:World)(xs:gy)(wr:WR G h w)(q:bL G args xs):
 kI Q.P f ⟨xs⟩ w λy w'=>∃G',WR G' h w'/\ce G h w G' h w' 0 0/\VR G' u y:=by
 obtain⟨n,E⟩:=hr;refine Ta (n:=n) U T C (λch _=>⟨v,s',?_,z⟩) G h w xs wr q;have:(bX (Q.at Q.ch) n).call f (di args) [] s0=X (v,s'):=E;exact(se Q n).call f (di args) [] Q.ch s0 v s' this ch (λi hi=>by rw[p]at hi;omega)
section
variable{Q:ay}{f:FuncId}
theorem cd(a b:Nat):aA a b=(a==b):=by
 grind [gA,Nat.ne_of_beq_eq_false]
theorem qL(a b:Nat):bq a b=decide (a<b):=by
 grind [bq,Nat.le_of_ble_eq_true,bG]
def ach(a b:Nat):aP a b=decide (a<=b):=tX a b
theorem nP(k:IntKind)(n:Nat):dP (.int k (n:Int))=X n:=rfl
def oU:aa->Bool->Bool
 |.bool c,b=>c==b
 |_,_=>I
def aft(e:ax)(t:Tmp)(b:Bool):jT e (.when t b)=oU (ac e t) b:=by
 show(match ac e t with|.bool c=>c==b|_=>I)=oU (ac e t) b;generalize ac e t=x;cases x<;>rfl
def aFP:oU (.bool O) O=O:=rfl
def aFO:oU (.bool O) I=I:=rfl
def aFN:oU (.bool I) O=I:=rfl
def aFM:oU (.bool I) I=O:=rfl
def aFQ(b:Bool):oU jE b=I:=rfl
def Si:aa->er->er->er
 |.bool O,a,_=>a
 |.bool I,_,b=>b
 |_,_,_=>Z
def az9(e:ax)(c a b:Operand):B3 e c a b=(ev e c).bind λc=>Si c (ev e a) (ev e b):=by
 unfold B3;rcases ev e c with _|v
 rfl;cases v<;>first|rfl|skip
 rename_i c;cases c<;>rfl
def az8(a b:er):Si (.bool O) a b=a:=rfl
def az7(a b:er):Si (.bool I) a b=b:=rfl
def ald(e:ax)(x:Operand):evc e x=(ev e x).bind λv=>bif v.gt then X v else Z:=rfl
def aBL(v:aa)(l:Loc)(s:St):fu (X v) l s=X (v,l,s):=rfl
def aBK(v:aa)(l:Loc)(s:St):gu (X (v,s)) l=X (v,l,s):=rfl
def aBJ(l:Loc)(s:St):mH (X s) l=X (jE,l,s):=rfl
def ahN(P:Program)(t:TypeId)(a b:Int):cP P .lss t (.int .i64 a) (.int .i64 b)=X (.bool (aR a b)):=rfl
def ahM(P:Program)(t:TypeId)(a b:Int):cP P .leq t (.int .i64 a) (.int .i64 b)=X (.bool (bT a b)):=rfl
def ahL(P:Program)(t:TypeId)(a b:Int):cP P .gtr t (.int .i64 a) (.int .i64 b)=X (.bool (aR b a)):=rfl
def U5(P:Program)(t:TypeId)(a b:Int):cP P .geq t (.int .i64 a) (.int .i64 b)=X (.bool (bT b a)):=rfl
def ahK(P:Program)(t:TypeId)(a b:Int):cP P .eql t (.int .i64 a) (.int .i64 b)=X (.bool (aj a b)):=rfl
def ahO(P:Program)(t:TypeId)(a b:Int):cP P .neq t (.int .i64 a) (.int .i64 b)=X (.bool (!aj a b)):=rfl
def ahJ(P:Program)(t:TypeId)(a b:Int):cP P .add t (.int .i64 a) (.int .i64 b)=X (.int .i64 (IntKind.i64.wrap (a+b))):=rfl
def ahP(P:Program)(t:TypeId)(a b:Int):cP P .sub t (.int .i64 a) (.int .i64 b)=X (.int .i64 (IntKind.i64.wrap (a-b))):=rfl
def ail(P:Program)(t:TypeId)(a b:Int):cP P .eql t (.int .u8 a) (.int .u8 b)=X (.bool (aj a b)):=rfl
def ain(P:Program)(t:TypeId)(a b:Int):cP P .neq t (.int .u8 a) (.int .u8 b)=X (.bool (!aj a b)):=rfl
def aim(P:Program)(t:TypeId)(a b:Int):cP P .leq t (.int .u8 a) (.int .u8 b)=X (.bool (bT a b)):=rfl
def aif(P:Program)(t:TypeId)(a b:pb):cP P .eql t (.str a) (.str b)=X (.bool (a==b)):=rfl
def aik(P:Program)(t:TypeId)(a b:pb):cP P .neq t (.str a) (.str b)=X (.bool (!(a==b))):=rfl
def aih(P:Program)(t:TypeId)(a b:pb):cP P .leq t (.str a) (.str b)=X (.bool (leBytes a b)):=rfl
def aij(P:Program)(t:TypeId)(a b:pb):cP P .lss t (.str a) (.str b)=X (.bool (Op.bytesLess a b)):=rfl
def aFi(b:Bool):Co .not (.bool b)=X (.bool !b):=rfl
def ahU(P:Program)(mk:aI)(t:TypeId)(mu:Bool)(x:aa)(s:St):fZ P mk .len [t] mu [x] s=(fN P mk t x s).bind λv=>X (v,s):=rfl
def ahS(P:Program)(mk:aI)(t t2:TypeId)(mu:Bool)(x y:aa)(s:St):fZ P mk .append [t,t2] mu [x,y] s=bif lM P t2 then cJ P mk t x y mu s else bif Gl P t2 then Bu P t x y s else Z:=rfl
def ahT(P:Program)(mk:aI)(t:TypeId)(mu:Bool)(s:St):fZ P mk .cap [t] mu [.Ge] s=bif lM P t then X (.int .i64 0,s)else Z:=rfl
def aox(h:vx)(t:Tmp):oG h (X t)=h t:=rfl
def ajk(b:Bool):(aa.bool b).gt=O:=rfl
def ajm(k:IntKind)(n:Int):(aa.int k n).gt=O:=rfl
def Vw(b:pb):(aa.str b).gt=O:=rfl
def aji(b:az):(aa.agg b).gt=O:=rfl
def ajn(n:Nat)(b:az)(r:gV):(aa.list n b r).gt=O:=rfl
def ajs(b:az):(aa.ro b).gt=O:=rfl
def ajr(n o:Nat):(aa.ptr n o).gt=O:=rfl
def NZ(n:Nat):(aa.map n).gt=O:=rfl
def ajq:(aa.Ge).gt=O:=rfl
def ajp:(aa.nilm).gt=O:=rfl
def ajo:(aa.nilf).gt=O:=rfl
def ajl(f:Fn)(a b:az):(aa.func f a b).gt=O:=rfl
theorem mo(cs:az):(aa.agg cs).cells=cs:=rfl
def NP(s:pb):(aa.str s).cells=[.str s]:=rfl
def aiQ(k:IntKind)(n:Int):(aa.int k n).cells=[.int k n]:=rfl
def aiO(b:Bool):(aa.bool b).cells=[.bool b]:=rfl
def Vj(n:Nat)(xs:az)(r:gV):(aa.list n xs r).cells=[.list n xs r]:=rfl
def aDH(P:Program)(mk:aI)(t:TypeId)(l g off:Nat)(v:aa)(lc:Loc)(s:St):ur P mk t (.Gt l g off) v lc s=(cS P t).bind λn=>bif aA (J v.cells) n&&bq 0 n then(lc.get l g).bind λcs=>(gR cs off v.cells).bind λcs'=>X (lc.set l g cs',s)else Z:=rfl
def au{α:Type}(n:Nat)(enc:α->aa)(v:aa)(l:List α):Prop:=(v=.Ge/\l=[])\/∃r,v=.list n (l.map enc) r
def au.gt{enc:α->aa}{l:List α}(h:au n enc v l):v.gt=O:=by
 rcases h with⟨rfl,_⟩|⟨r,rfl⟩<;>rfl
theorem au.scal{enc:α->aa}{l:List α}(h:au n enc v l):v.cells=[v]:=by
 rcases h with⟨rfl,_⟩|⟨r,rfl⟩<;>rfl
def au.cs{enc:α->aa}{l:List α}(h:au n enc v l):v.gt=O/\v.cells=[v]:=⟨h.gt,h.scal⟩
def acB{α:Type}(enc:α->aa):∀(l:List α)(i:Nat)(a:α),l[i]?=X a->m8 (l.map enc) i=enc a
 |[],i,a,h=>by simp at h
 |x::l,0,a,h=>by simp at h;subst h;rfl
 |x::l,i+1,a,h=>acB enc l i a (by simpa using h)
def au.len{enc:α->aa}{l:List α}(h:au n enc v l)(h1:∀mk s,fN P mk t .Ge s=X (.int .i64 (0:Nat)))(p:∀mk n xs r s,fN P mk t (.list n xs r) s=X (.int .i64 (xs:az).length))(mk:aI)(s:St):fN P mk t v s=X (.int .i64 (J l:Nat)):=by
 rcases h with⟨rfl,rfl⟩|⟨r,rfl⟩
 rw[h1];rfl;rw[p];simp
theorem au.at{enc:α->aa}{l:List α}(h:au n enc v l)(q:∀lc m xs r i,gm P lc t (.list m xs r) i=(dP i).bind λi=>bif aA m n&&bq i (J xs)then X (.ro (m8 xs i).cells)else Z){a:α}(hi:l[i]?=X a)(lc:Loc)(k:IntKind):
 gm P lc t v (.int k (i:Int))=X (.ro (enc a).cells):=by
 have p:i<J l:=by
  rcases iz i (J l)with h|h
  exact h
  grind
 rcases h with⟨rfl,rfl⟩|⟨r,rfl⟩
 simp at hi;rw[q];simp only[nP,aG,acB enc l i a hi,List.length_map];have:bq i (J l)=O:=bG p;simp[this]
theorem axT(e:ax)(t:Nat)(v:aa):ac (e.set t (X v)) t=v:=by simp[ac,Sc]
theorem K7(e:ax)(t u:Nat)(v:aa)(h:(u==t)=I):ac (e.set t (X v)) u=ac e u:=by
 grind [ac,aB.get_set]
theorem fA(e:ax)(t u:Nat)(v:aa):ac (e.set t (X v)) u=bif u==t then v else ac e u:=by
 grind [axT,K7]
theorem gen_set(l:Loc)(t h u:Nat)(c:az):(l.set t h c).gen u=bif aA t u then h else l.gen u:=by
 induction l with
 |nil=>simp only[Loc.set,Loc.gen]
 |cons x l p=>
  grind [Loc.set,gA,Loc.gen]
def oD(t:Nat):Loc.gen [] t=0:=rfl
theorem anm(l:Loc)(t h:Nat)(c:az):(l.set t h c).gen t=h:=by simp[gen_set]
theorem ann(l:Loc)(t h u:Nat)(c:az)(e:(u==t)=I):(l.set t h c).gen u=l.gen u:=by
 grind [gen_set,gA]
theorem abL(l:Loc)(t h u g:Nat)(c:az):(l.set t h c).get u g=bif aA t u then(bif aA h g then X c else Z)else l.get u g:=by
 induction l with
 |nil=>simp only[Loc.set,Loc.get]
 |cons x l p=>
  grind [Loc.set,gA,Loc.get]
theorem aww(l:Loc)(t h u g:Nat)(c:az)(e:(u==t)=I):(l.set t h c).get u g=l.get u g:=by
 grind [abL,gA]
theorem awx(l:Loc)(t h h':Nat)(c p:az):(l.set t h c).set t h' p=l.set t h' p:=by
 induction l with
 |nil=>simp[Loc.set]
 |cons x l q=>
  grind [Loc.set]
theorem iG(l:Loc)(t h u:Nat)(c:az):(l.set t h c).gen u=bif u==t then h else l.gen u:=by
 grind [anm,ann]
def iK(l:Loc)(t h u g:Nat)(c:az):(l.set t h c).get u g=bif u==t then(bif g==h then X c else Z)else l.get u g:=by
 cases e:u==t;exact aww l t h u g c e;have:u=t:=by simpa using e
 subst this;rw[abL];simp only[cT];cases e:g==h;have h1:g≠h:=by simpa using e
 have:aA h g=I:=by
  cases e':aA h g;rfl
  simp_all
 simp[this]
 simp_all
def axB(K:hP)(N:mm):Ex.next K N .normal=N:=rfl
def axC(K:hP)(N:mm):Ex.next K N .ret=K .ret:=rfl
def axA(K:hP)(N:mm)(i:Nat):Ex.next K N (.exit i)=K (.exit i):=rfl
def ahX(i:Nat):Ex.block i .normal=.normal:=rfl
def ahY(i:Nat):Ex.block i .ret=.ret:=rfl
def ahW(i j:Nat):Ex.block i (.exit j)=bif aA j i then .normal else .exit j:=rfl
section
variable{e:ax}{sz:Nat}{lc:Loc}{s:St}{d:ir}{g:SG}{mk:aI}
def azV(x:Operand):dJ Q f ⟨d,.move x,g⟩ mk ⟨e,sz,lc⟩ s=fu (ev e x) lc s:=rfl
def azF(x:Operand):dJ Q f ⟨d,.assign x,g⟩ mk ⟨e,sz,lc⟩ s=fu (ev e x) lc s:=rfl
def azX(c a b:Operand):dJ Q f ⟨d,.pick c a b,g⟩ mk ⟨e,sz,lc⟩ s=fu (B3 e c a b) lc s:=rfl
def azE(t:TypeId):dJ Q f ⟨d,.alloc t,g⟩ mk ⟨e,sz,lc⟩ s=(dC Q.P t).bind λz=>rG (oG (Q.hint f) d) d z.cells lc s:=rfl
def azH(t:TypeId)(x:Operand):dJ Q f ⟨d,.box t x,g⟩ mk ⟨e,sz,lc⟩ s=(evc e x).bind λa=>rG (oG (Q.hint f) d) d a.cells lc s:=rfl
def azI(t:TypeId)(ps:Ty):dJ Q f ⟨d,.build t ps,g⟩ mk ⟨e,sz,lc⟩ s=fu (tg Q.P t ps.toList e) lc s:=rfl
def azJ(t:TypeId)(n:Nat)(ps:Ty):dJ Q f ⟨d,.buildSlice t n ps,g⟩ mk ⟨e,sz,lc⟩ s=gu (th Q.P t n ps.toList (aA (oG (Q.hint f) d) 2) e s) lc:=rfl
def azR(t:TypeId)(a:Operand):dJ Q f ⟨d,.load t a,g⟩ mk ⟨e,sz,lc⟩ s=(ev e a).bind λa=>fu (lh Q.P mk t a lc s) lc s:=rfl
def azY(t:TypeId)(a x:Operand):dJ Q f ⟨d,.store t a x,g⟩ mk ⟨e,sz,lc⟩ s=(ev e a).bind λa=>(evc e x).bind λx=>(ur Q.P mk t a x lc s).bind λr=>X (jE,r.1,r.2):=rfl
def azG(o:BinOp)(t u:TypeId)(x y:Operand):dJ Q f ⟨d,.binOp o t x y u,g⟩ mk ⟨e,sz,lc⟩ s=(evc e x).bind λx=>(evc e y).bind λy=>fu (cP Q.P o t x y) lc s:=rfl
def azZ(o:UnOp)(t:TypeId)(x:Operand):dJ Q f ⟨d,.unOp o t x,g⟩ mk ⟨e,sz,lc⟩ s=(evc e x).bind λa=>fu (Co o a) lc s:=rfl
def azN(t:TypeId)(x:Operand)(i:Nat):dJ Q f ⟨d,.field t x i,g⟩ mk ⟨e,sz,lc⟩ s=(evc e x).bind λa=>fu (zG Q.P t a i) lc s:=rfl
def azO(t:TypeId)(x:Operand)(i:Nat):dJ Q f ⟨d,.fieldAddr t x i,g⟩ mk ⟨e,sz,lc⟩ s=(ev e x).bind λa=>fu (tu Q.P lc t a i) lc s:=rfl
def azP(t:TypeId)(x i:Operand):dJ Q f ⟨d,.index t x i,g⟩ mk ⟨e,sz,lc⟩ s=(evc e x).bind λx=>(ev e i).bind λi=>fu (Bw Q.P t x i) lc s:=rfl
def azQ(t:TypeId)(x i:Operand):dJ Q f ⟨d,.indexAddr t x i,g⟩ mk ⟨e,sz,lc⟩ s=(ev e x).bind λx=>(ev e i).bind λi=>fu (gm Q.P lc t x i) lc s:=rfl
def ado(t:TypeId)(x:Operand)(lo hi p:sq):dJ Q f ⟨d,.slice t x lo hi p,g⟩ mk ⟨e,sz,lc⟩ s=(evc e x).bind λa=>fu (eC Q.P mk t a lo hi p e s) lc s:=rfl
def azS(t:TypeId)(x i:Operand)(p:Bool):dJ Q f ⟨d,.lookup t x i p,g⟩ mk ⟨e,sz,lc⟩ s=(evc e x).bind λx=>(evc e i).bind λi=>fu (mB Q.P mk t x i p s) lc s:=rfl
def adp(t:TypeId)(m k x:Operand):dJ Q f ⟨d,.mapUpdate t m k x,g⟩ mk ⟨e,sz,lc⟩ s=(evc e m).bind λm=>(evc e k).bind λk=>(evc e x).bind λx=>mH (mN Q.P mk t m k x s) lc:=rfl
def azU(t:TypeId)(r:sq):dJ Q f ⟨d,.makeMap t r,g⟩ mk ⟨e,sz,lc⟩ s=gu (jA Q.P t e r s) lc:=rfl
def azT(fn:Fn)(a b:Ih):dJ Q f ⟨d,.makeFunc fn a b,g⟩ mk ⟨e,sz,lc⟩ s=fu (DV e fn a b) lc s:=rfl
def azW(x:Operand):dJ Q f ⟨d,.nilCheck x,g⟩ mk ⟨e,sz,lc⟩ s=(ev e x).bind λa=>fu (z8 lc a) lc s:=rfl
def azM(x:Operand)(i:Nat):dJ Q f ⟨d,.extract x i,g⟩ mk ⟨e,sz,lc⟩ s=(ev e x).bind λa=>fu (Dk i a) lc s:=rfl
def adm(a b:TypeId)(x:Operand):dJ Q f ⟨d,.convert a b x,g⟩ mk ⟨e,sz,lc⟩ s=(evc e x).bind λv=>fu (ow Q.P a b v) lc s:=rfl
abbrev Q1:=Array TypeId
def azK(b:Builtin)(q:Ih)(p:Q1):dJ Q f ⟨d,.call ⟨.builtin b,q,p⟩,g⟩ mk ⟨e,sz,lc⟩ s=
 (evcs e q.toList).bind λargs=>gu (fZ Q.P mk b p.toList (aA (oG (Q.hint f) d) 2) args s) lc:=rfl
def azL(x:Operand)(q:Ih)(p:Q1):dJ Q f ⟨d,.call ⟨.value x,q,p⟩,g⟩ mk ⟨e,sz,lc⟩ s=
 (callee e ⟨.value x,q,p⟩).bind λg=>(Q.spec g.1).bind λsp=>(sp g.2).bind λv=>X (v,lc,s):=rfl
end
def ey(e:ax)(t:Nat):ev e (.tmp t)=X (ac e t):=rfl
def ala(e:ax)(v:Value):ev e (.const v)=ofValue v:=rfl
def alb(e:ax)(n:FuncId):ev e (.func n)=X (.func (.func n) [] []):=rfl
def alf(e:ax):evcs e []=X []:=rfl
def ale(e:ax)(x:Operand)(l:M_):evcs e (x::l)=(evc e x).bind λv=>(evcs e l).bind λr=>X (v::r):=rfl
def ayd(b:Bool):ofValue (.bool b)=X (.bool b):=rfl
def aye(k:IntKind)(n:Int):ofValue (.int k n)=X (.int k n):=rfl
def ayf(s:Array UInt8):ofValue (.string ⟨s⟩)=X (.str s.toList):=rfl
def ah9(t:Tmp)(cs:az)(lc:Loc)(s:St):rG 1 (X t) cs lc s=X (.Gt t (lc.gen t+1) 0,lc.set t (lc.gen t+1) cs,s):=rfl
def ah8(d:ir)(cs:az)(lc:Loc)(s:St):rG 0 d cs lc s=X (.ptr s.aL 0,lc,s.new (.cells cs)):=rfl
def av5(P:Program)(mk:aI)(t:TypeId)(l g off:Nat)(lc:Loc)(s:St):lh P mk t (.Gt l g off) lc s=(lc.get l g).bind λcs=>gQ P t cs off:=rfl
def Rr(P:Program)(mk:aI)(t:TypeId)(cs:az)(lc:Loc)(s:St):lh P mk t (.ro cs) lc s=gQ P t cs 0:=rfl
def JL(a b:Nat):aR (a:Int) (b:Int)=decide (a<b):=by simp[aR]
def O6(a b:Nat):bT (a:Int) (b:Int)=decide (a<=b):=by simp[bT]
theorem zP(a b:Nat):aj (a:Int) (b:Int)=(a==b):=by
 grind [aj]
theorem kj{z:Int}(h1: -9223372036854775808<=z)(p:z<9223372036854775808):IntKind.i64.wrap z=z:=by
 rw[IntKind.wrap_i64];omega
def St.top(s:St):St:=⟨s.heap,s.aL,s.aL,s.ci⟩
theorem lU{e:ax}{sz:Nat}{lc:Loc}{d:Tmp}{lc':Loc}:d8 ⟨e,sz,lc⟩ (X d) v lc'=X fr'↔d<sz/\fr'=⟨e.set d (X v),sz,lc'⟩:=by
 grind [d8,qL]
def ai.of2{rs:List ResultVar}{s s':St}(z:Q.P.funcs[f]?=X fn)(p:fn.body.map dX=X sc)(y:fn.ntmps=n)(hr:fn.results.toList=rs)(q:Q.spec f=Z)(h:W Q f sc (vk n args) s λx fr' s1=>s1=s'/\(x=.normal\/x=.ret)/\∃vs,jm Q [] fr' s1 rs=X vs/\nh vs=v)(E:Q.specH f=Z:=by rfl)(C:Q.specW f=Z:=by rfl):ai Q f args s v s':=by
 rcases hb:fn.body with _|c
 rw[hb]at p;cases p;rw[hb]at p;simp only[Option.map_some,aQ]at p;subst y;subst hr;exact ai.of z hb q p h E C
def adX{s:St}{t:Tmp}(h:ac fr.env t=v)(p:v.gt=O):∃vs,jm Q [] fr s [.tmp t]=X vs/\nh vs=v:=by
 refine⟨[v],?_,rfl⟩;simp only[jm,SB,evc,ev,h,aG,p,cT]
def iZ{s:St}(p:s.gE<=s.aL):s.GE s.top=s:=by
 simp_all [bG,St.GE,St.top]
theorem avK{s:St}(p:s.gE<=s.aL)(o:aH):s.GE (s.top.new o)=s.new o:=by
 grind [bG,St.GE,St.top,St.new]
def W.drawR{s s1:St}{K:hP}(h:qo Q f bs [] 0 ops fr s fr1 s1)(p:K .normal fr1 s1):W Q f (.draw ops bs) fr s K:=⟨_,_,_,.draw h,p⟩
end
def jn:Code->List (Code×Code)
 |.seq a b=>jn a++jn b
 |.cond _ a b=>jn a++jn b
 |.block _ b=>jn b
 |.scope b=>jn b
 |.loop b=>jn b
 |.rangeFunc _ _ a b=>jn a++(jn b++[(a,b)])
 |_=>[]
theorem awQ(h:∀r∈rs,b.testBit r.i=O\/r.c0=r.c1):kP b rs []=[]:=by
 induction rs with
 |nil=>rfl
 |cons r rs p=>
  grind [Hj,kP]
section
variable{Q:ay}{f:FuncId}
def aEC(s:St):s.top.ci=s.ci:=rfl
def aED(s:St):s.top.aL=s.aL:=rfl
theorem j6(s s1:St)(mk:aI)(n:Nat):(s.GE s1).get mk n=s1.get mk n:=rfl
theorem nL{s s1:St}(p:s.gE<=s.aL)(h1:s.aL<=s1.aL):(s.GE s1).gE<=(s.GE s1).aL:=by
 show(bif aP s.gE s1.gE then s.gE else s1.gE)<=s1.aL
 grind [bG]
variable{e:ax}{sz:Nat}{lc:Loc}{s:St}{K:hP}
def az0:nh []=.tup []:=rfl
def az1:nh [v]=v:=rfl
def az2{a b:aa}:nh [a,b]=.tup [a,b]:=rfl
def az3{a b c:aa}:nh [a,b,c]=.tup [a,b,c]:=rfl
end
section
variable{Q:ay}{f:FuncId}
structure jd where
 i:Nat
 nw:Bool
 lo:Bool
 ft:cz
def kE(b j:Nat):Bool:=b / 2 ^ j % 2==1
theorem ae3(b j:Nat):kE b j=b.testBit j:=by
 grind [kE]
abbrev Q2:=List jd
def fB(b:Nat)(ft:cz)(lo:Bool):Q2->Bool
 |[]=>O
 |a::R=>(kE b a.i||(!a.nw&&!((lo||a.lo)&&ft.meets a.ft)))&&fB b ft lo R
def CJ(rs:i_)(R:Q2):Prop:=∀r∈rs,∃a∈R,a.i=r.i/\(a.nw=I->r.c0=r.c1)/\(a.lo=I->r.loud=I)/\a.ft=r.foot
def acM{b:Nat}{ft:cz}{lo:Bool}:∀{R:Q2},fB b ft lo R=O->∀a∈R,kE b a.i=O\/(a.nw=I/\((lo||a.lo)&&ft.meets a.ft)=I)
 |[],_,a,h=>by cases h
 |x::R,h,a,p=>by
  simp only[fB,bg,AJ,ny]at h;rcases dD.1 p with rfl|p
  exact h.1;exact acM h.2 a p
def so(b:Nat)(ft:cz)(lo:Bool):Q2->Bool
 |[]=>O
 |a::R=>(kE b a.i|| !((lo||a.lo)&&ft.meets a.ft))&&so b ft lo R
def acL{b:Nat}{ft:cz}{lo:Bool}:∀{R:Q2},so b ft lo R=O->∀a∈R,kE b a.i=O\/((lo||a.lo)&&ft.meets a.ft)=I
 |[],_,a,h=>by cases h
 |x::R,h,a,p=>by
  simp only[so,bg,AJ,ny]at h;rcases dD.1 p with rfl|p
  exact h.1;exact acL h.2 a p
def Ec{b:Nat}{ft:cz}{lo:Bool}:∀{R:Q2},fB b ft lo R=O->so b ft lo R=O
 |[],_=>rfl
 |x::R,h=>by
  simp only[fB,so,bg,AJ]at h⊢;exact⟨h.1.imp id λh=>h.2,Ec h.2⟩
theorem Hp{b:Nat}{ft:cz}{lo:Bool}{R:Q2}(hr:CJ rs R)(h:fB b ft lo R=O):kP b rs []=[]:=awQ λr p=>by
 obtain⟨a,q,hi,y,_,_⟩:=hr r p;rcases acM h a q with h|h
 all_goals grind [ae3]
theorem Ed{b:Nat}{ft:cz}{lo lo':Bool}{R:Q2}(hr:CJ rs R)(h:so b ft lo R=O)(hl:lo=I->lo'=I):xg b ft lo' rs=O:=by
 simp only[xg,fO];intro r p;obtain⟨a,y,hi,_,q,z⟩:=hr r p;rcases acL h a y with h|h
 all_goals grind [ae3]
theorem CJ.cons{R:Q2}(h:CJ rs R){r:iE}{a:jd}(h1:a.i=r.i)(z:a.nw=I->r.c0=r.c1)(y:a.lo=I->r.loud=I)(q:a.ft=r.foot):CJ (r::rs) (a::R):=λx p=>by
 rcases dD.1 p with rfl|p
 exact⟨a,by simp,h1,z,y,q⟩;obtain⟨a',C,r⟩:=h x p
 grind
section
variable{b:Nat}{ft:cz}{lo:Bool}{R:Q2}{i:Nat}{nw l2:Bool}{ft2:cz}
def aym:fB b ft lo []=O:=rfl
def ayk:so b ft lo []=O:=rfl
def ayj:so b ft lo (⟨i,nw,l2,ft2⟩::R)=((kE b i|| !((lo||l2)&&ft.meets ft2))&&so b ft lo R):=rfl
def ayl:fB b ft lo (⟨i,nw,l2,ft2⟩::R)=((kE b i||(!nw&&!((lo||l2)&&ft.meets ft2)))&&fB b ft lo R):=rfl
def ant:qX ft .none=I:=by cases ft<;>rfl
def axJ:qX .none ft=I:=by cases ft<;>rfl
def agX(t:Nat):qX .all (.loc t)=I:=rfl
def awo(t:Nat):qX (.loc t) .all=I:=rfl
def awp(t u:Nat):qX (.loc t) (.loc u)=aA t u:=rfl
end
def an7(h:vx)(d:ir)(e:ax)(t:TypeId)(a:Operand):bK h d e (.load t a)=xh e a:=rfl
def aof(h:vx)(d:ir)(e:ax)(t:TypeId)(a x:Operand):bK h d e (.store t a x)=xh e a:=rfl
def an3(h:vx)(d:ir)(e:ax)(t:TypeId)(a:Operand)(i:Nat):bK h d e (.fieldAddr t a i)=qB e a:=rfl
def an5(h:vx)(d:ir)(e:ax)(t:TypeId)(a i:Operand):bK h d e (.indexAddr t a i)=qB e a:=rfl
def aob(h:vx)(d:ir)(e:ax)(a:Operand):bK h d e (.move a)=.none:=rfl
def anU(h:vx)(d:ir)(e:ax)(a:Operand):bK h d e (.assign a)=.none:=rfl
def anX(h:vx)(d:ir)(e:ax)(t:TypeId)(ps:Ty):bK h d e (.build t ps)=.none:=rfl
def anZ(h:vx)(d:ir)(e:ax)(t:TypeId)(n:Nat)(ps:Ty):bK h d e (.buildSlice t n ps)=.none:=rfl
def anV(h:vx)(d:ir)(e:ax)(o:BinOp)(t u:TypeId)(x y:Operand):bK h d e (.binOp o t x y u)=.none:=rfl
def aog(h:vx)(d:ir)(e:ax)(o:UnOp)(t:TypeId)(x:Operand):bK h d e (.unOp o t x)=.none:=rfl
def an2(h:vx)(d:ir)(e:ax)(a:Operand)(i:Nat):bK h d e (.extract a i)=.none:=rfl
def anS(h:vx)(d:Tmp)(e:ax)(t:TypeId):bK h (X d) e (.alloc t)=bif aA (h d) 1 then .loc d else .none:=rfl
def anW(h:vx)(d:Tmp)(e:ax)(t:TypeId)(x:Operand):bK h (X d) e (.box t x)=bif aA (h d) 1 then .loc d else .none:=rfl
def an0(h:vx)(d:ir)(e:ax)(x:Operand)(q:Ih)(p:Q1):bK h d e (.call ⟨.value x,q,p⟩)=.all:=rfl
def anT(h:vx)(d:ir)(e:ax)(x y:Operand)(p:Q1):bK h d e (.call ⟨.builtin .append,#[x,y],p⟩)=Dr e x y:=rfl
def W5:aa->cz
 |.map n=>.obj n
 |_=>.all
def xj(u w:aa):cz:=
 match w with
 |.list _ _ _=>match u with
   |.Ge=>.none
   |.list _ _ .GT=>.none
   |.list _ _ (.own k)=>.obj k
   |_=>.all
 |_=>.all
def anA(e:ax)(t:Tmp):Jw e (.tmp t)=W5 (ac e t):=by
 show(match ev e (.tmp t)with|some (.map n)=>cz.obj n|_=>.all)=_;rw[ey];cases ac e t<;>rfl
def anH(e:ax)(a b:Tmp):Dr e (.tmp a) (.tmp b)=xj (ac e a) (ac e b):=by
 unfold Dr;rw[ey,ey];cases ac e b<;>try rfl
 cases ac e a<;>try rfl
 rename_i r;cases r<;>rfl
def anz(n:Nat):W5 (.map n)=.obj n:=rfl
def anE(u v:aa)(t:Nat):(xj u v).meets (.loc t)=I/\qX (.loc t) (xj u v)=I:=by
 unfold xj;split;split<;>exact⟨rfl,rfl⟩;exact⟨rfl,rfl⟩
def anF(n:Nat)(l:az)(r:gV):xj .Ge (.list n l r)=.none:=rfl
def anC(m:Nat)(k:az)(n:Nat)(l:az)(r:gV):xj (.list m k .GT) (.list n l r)=.none:=rfl
def anG(m:Nat)(k:az)(j n:Nat)(l:az)(r:gV):xj (.list m k (.own j)) (.list n l r)=.obj j:=rfl
def anB(m k o l c:Nat)(w:aa):xj (.arr m k o l c) w=.all:=by cases w<;>rfl
def JH:aa->cz
 |.Gt t _ _=>.loc t
 |.ptr n _=>.obj n
 |.ro _=>.none
 |_=>.all
def Dx:aa->cz
 |.Gt t _ _=>.loc t
 |_=>.none
def anx(e:ax)(t:Tmp):xh e (.tmp t)=JH (ac e t):=by
 show(match ev e (.tmp t)with|some (.Gt t _ _)=>cz.loc t|some (.ptr n _)=>.obj n|some (.ro _)=>.none|_=>.all)=_;rw[ey];cases ac e t<;>rfl
def anN(e:ax)(t:Tmp):qB e (.tmp t)=Dx (ac e t):=by
 show(match ev e (.tmp t)with|some (.Gt t _ _)=>cz.loc t|_=>.none)=_;rw[ey];cases ac e t<;>rfl
def anu(t g o:Nat):JH (.Gt t g o)=.loc t:=rfl
def anw(x:az):JH (.ro x)=.none:=rfl
def anK(t g o:Nat):Dx (.Gt t g o)=.loc t:=rfl
def anM(x:az):Dx (.ro x)=.none:=rfl
end
end Go.Ag
namespace Go.Ag
variable{xs:Ih}{ts:Q1}{fr:Fr}{o:aJ}
section
variable{Q:ay}{f:FuncId}
theorem ai.sp{g:FuncId}{args:az}{s:St}{sp:az->er}{v:aa}(h:Q.spec g=X sp)(j:sp args=X v):ai Q g args s v s:=by
 refine⟨1,?_⟩;show je Q (bX Q 0) g args [] s=_
 grind [je]
theorem ai.sp_inv{g:FuncId}{args:az}{s s1:St}{sp:az->er}{v:aa}(h:Q.spec g=X sp)(q:ai Q g args s v s1):sp args=X v/\s1=s:=by
 obtain⟨n,j⟩:=q;cases n with
 |zero=>cases j
 |succ n=>
  have j:je Q (bX Q n) g args [] s=X (v,s1):=j
  grind [je,ak]
def EP(d:Tmp)(e:ax)(sz:Nat)(C:mm)(x:gk):Prop:=∃v lc s,x=X (v,lc,s)/\d<sz/\C ⟨e.set d (X v),sz,lc⟩ s
def Td(e:ax)(sz:Nat)(C:mm)(x:gk):Prop:=∃v lc s,x=X (v,lc,s)/\C ⟨e,sz,lc⟩ s
def aU(Q:ay)(g:FuncId)(args:az)(d:Tmp)(e:ax)(sz:Nat)(lc:Loc)(s:St)(C:mm):Prop:=∃v s1,ai Q g args s v s1/\d<sz/\C ⟨e.set d (X v),sz,lc⟩ s1
def AH(Q:ay)(n:Nat)(args:az)(d:Tmp)(e:ax)(sz:Nat)(lc:Loc)(s:St)(C:mm):Prop:=∃v s1,iT Q n args s v s1/\d<sz/\C ⟨e.set d (X v),sz,lc⟩ s1
def zu(Q:ay)(d:Tmp)(e:ax)(sz:Nat)(lc:Loc)(s:St)(C:mm)(g:FuncId)(args:az):W_->Prop
 |some sp=>EP d e sz C ((sp args).bind λv=>X (v,lc,s))
 |none=>aU Q g args d e sz lc s C
def C5(Q:ay)(d:Tmp)(e:ax)(sz:Nat)(lc:Loc)(s:St)(C:mm):er->T_->Prop
 |some (.func (.func g) a b),X args=>zu Q d e sz lc s C g (a++(args++b)) (Q.spec g)
 |some (.yld n),X args=>AH Q n args d e sz lc s C
 |_,_=>False
def nK:Op->Bool
 |.call {callee:=.value _, .. }=>O
 |_=>I
def Df(Q:ay)(f:FuncId)(op:Op)(d:Tmp)(e:ax)(sz:Nat)(lc:Loc)(s:St)(C:mm):Bool->Prop
 |false=>EP d e sz C (dJ Q f ⟨X d,op,.aw⟩ [] ⟨e,sz,lc⟩ s)
 |true=>match op with
  |.call {callee:=.value x,args:=xs, .. }=>C5 Q d e sz lc s C (ev e x) (evcs e xs.toList)
  |_=>False
def OW(Q:ay)(f:FuncId)(op:Op)(e:ax)(sz:Nat)(lc:Loc)(s:St)(C:mm):ir->Prop
 |some d=>Df Q f op d e sz lc s C (nK op)
 |none=>Td e sz C (dJ Q f ⟨Z,op,.aw⟩ [] ⟨e,sz,lc⟩ s)
def RU(e:ax)(sz:Nat)(lc:Loc)(s:St)(C:mm):ir->Prop
 |some d=>d<sz/\C ⟨e.set d (X jE),sz,lc⟩ s
 |none=>C ⟨e,sz,lc⟩ s
def ifV(Q:ay)(f:FuncId)(op:Op)(e:ax)(sz:Nat)(lc:Loc)(s:St)(C:mm)(d:ir):Bool->Prop
 |true=>OW Q f op e sz lc s C d
 |false=>RU e sz lc s C d
def opV(Q:ay)(f:FuncId)(op:Op)(d:ir)(e:ax)(sz:Nat)(lc:Loc)(s:St)(C:mm):SG->Prop
 |.aw=>OW Q f op e sz lc s C d
 |.when t b=>ifV Q f op e sz lc s C d (oU (ac e t) b)
 |.never=>RU e sz lc s C d
def WV(Q:ay)(f:FuncId):ns->Fr->St->(mm)->Prop
 |[],fr,s,N=>N fr s
 |o::l,fr,s,N=>opV Q f o.op o.dst fr.env fr.size fr.loc s (λfr s=>WV Q f l fr s N) o.g
def W6{l:ns}{s:St}{N:mm}(H:jT fr.env o.g=O)(G:∀{fr s},WV Q f l fr s N->WL Q f l fr s N)(h:OW Q f o.op fr.env fr.size fr.loc s (λfr s=>WV Q f l fr s N) o.dst):WL Q f (o::l) fr s N:=by
 obtain⟨d,op,gd⟩:=o;obtain⟨e,sz,lc⟩:=fr;cases d with
 |none=>
  obtain⟨v,lc',s1,j,B⟩:=h;obtain⟨q,D,F,E⟩:=G B;refine⟨q,D,.step (fr1:=⟨e,sz,lc'⟩) (s1:=s1) ?_ F,E⟩;have j:dJ Q f ⟨Z,op,gd⟩ [] ⟨e,sz,lc⟩ s=X (v,lc',s1):=j;simp only[EO,H,j,cT,aG];rfl
 |some d=>
  have plain:EP d e sz (λfr s=>WV Q f l fr s N) (dJ Q f ⟨X d,op,.aw⟩ [] ⟨e,sz,lc⟩ s)->WL Q f (⟨X d,op,gd⟩::l) ⟨e,sz,lc⟩ s N:=by
   rintro⟨v,lc',s1,j,B,A⟩;obtain⟨q,D,F,E⟩:=G A;refine⟨q,D,.step (fr1:=⟨e.set d (X v),sz,lc'⟩) (s1:=s1) ?_ F,E⟩;have j:dJ Q f ⟨X d,op,gd⟩ [] ⟨e,sz,lc⟩ s=X (v,lc',s1):=j;simp only[EO,H,j,cT,aG,(lU (e:=e) (lc:=lc) (lc':=lc')).2 ⟨B,rfl⟩]
  have h:Df Q f op d e sz lc s (λfr s=>WV Q f l fr s N) (nK op):=h;cases hc:nK op with
  |false=>rw[hc]at h;exact plain h
  |true=>
   rw[hc]at h;unfold nK at hc;split at hc;rename_i x xs ts _;have h:C5 Q d e sz lc s (λfr s=>WV Q f l fr s N) (ev e x) (evcs e xs.toList):=h;unfold C5 at h;split at h;rename_i g a b args j B;have w:callee e ⟨.value x,xs,ts⟩=X (g,a++(args++b)):=by simp only[callee,j,B,aG]
   unfold zu at h;split at h;rename_i sp T;obtain⟨v,lc',s1,A,S,M⟩:=h;simp only[ak,aQ,bk]at A;obtain⟨u,U,rfl,rfl,rfl⟩:=A;exact WL.call H rfl (by simp) w (.sp T U) (lU.2 ⟨S,rfl⟩) (G M);obtain⟨v,s1,A,S,M⟩:=h;exact WL.call H rfl (by simp) w A (lU.2 ⟨S,rfl⟩) (G M);rename_i n args j B;obtain⟨v,s1,A,S,M⟩:=h;obtain⟨q,D,F,E⟩:=G M;exact⟨q,D,.yld H rfl (by simp only[yieldee,j,B,aG]) A (lU.2 ⟨S,rfl⟩) F,E⟩;exact h.elim;cases hc
def acq{l:ns}{s:St}{N:mm}(B:jT fr.env o.g=I)(A:∀{fr s},WV Q f l fr s N->WL Q f l fr s N)(h:RU fr.env fr.size fr.loc s (λfr s=>WV Q f l fr s N) o.dst):WL Q f (o::l) fr s N:=by
 obtain⟨d,op,gd⟩:=o;obtain⟨e,sz,lc⟩:=fr;cases d with
 |none=>
  obtain⟨j,q,w,u⟩:=A h;refine⟨j,q,.step (fr1:=⟨e,sz,lc⟩) (s1:=s) ?_ w,u⟩;simp only[EO,B,cF];rfl
 |some d=>
  obtain⟨j,q,w,u⟩:=A h.2;refine⟨j,q,.step (fr1:=⟨e.set d (X jE),sz,lc⟩) (s1:=s) ?_ w,u⟩;simp only[EO,B,cF,(lU (e:=e) (lc:=lc) (lc':=lc)).2 ⟨h.1,rfl⟩,aG]
def WV.run:∀{l:ns}{fr:Fr}{s:St}{N:mm},WV Q f l fr s N->WL Q f l fr s N
 |[],fr,s,N,h=>⟨fr,s,.nil,h⟩
 |o::l,fr,s,N,h=>by
  have h:opV Q f o.op o.dst fr.env fr.size fr.loc s (λfr s=>WV Q f l fr s N) o.g:=h;cases hg:o.g with
  |aw=>
   rw[hg]at h;exact W6 (by rw[hg];rfl) WV.run h
  |never=>
   rw[hg]at h;exact acq (by rw[hg];rfl) WV.run h
  | «when» t b=>
    rw[hg]at h;have h:ifV Q f o.op fr.env fr.size fr.loc s (λfr s=>WV Q f l fr s N) o.dst (oU (ac fr.env t) b):=h;have j:jT fr.env o.g=oU (ac fr.env t) b:=by rw[hg,aft]
    cases hv:oU (ac fr.env t) b with
    |true=>rw[hv]at h;exact W6 (by rw[j,hv]) WV.run h
    |false=>rw[hv]at h;exact acq (by rw[j,hv]) WV.run h
section
variable{d:Tmp}{op:Op}{l:ns}{e:ax}{sz:Nat}{lc:Loc}{s s1:St}{N C:mm}{K:hP}{v:aa}{t:Tmp}{c:Bool}{g:FuncId}{x y args:az}{sp:az->er}{a b:SC}
def aU.of(j:ai Q g args s v s1)(q:d<sz)(h:C ⟨e.set d (X v),sz,lc⟩ s1):aU Q g args d e sz lc s C:=⟨v,s1,j,q,h⟩
def aU.ex{R:aa->St->Prop}(j:∃v s1,ai Q g args s v s1/\R v s1)(q:d<sz)(h:∀v s1,R v s1->C ⟨e.set d (X v),sz,lc⟩ s1):aU Q g args d e sz lc s C:=let⟨v,s1,h1,h2⟩:=j;⟨v,s1,h1,q,h v s1 h2⟩
def AH.of{n:Nat}(j:iT Q n args s v s1)(q:d<sz)(h:C ⟨e.set d (X v),sz,lc⟩ s1):AH Q n args d e sz lc s C:=⟨v,s1,j,q,h⟩
theorem aDB:EP d e sz C (X (v,lc,s))=(d<sz/\C ⟨e.set d (X v),sz,lc⟩ s):=by
 apply propext;constructor;rintro⟨q,j,u,h,w⟩
 grind
 exact λh=>⟨v,lc,s,rfl,h⟩
theorem aDA:Td e sz C (X (v,lc,s))=C ⟨e,sz,lc⟩ s:=by
 apply propext;constructor;rintro⟨q,j,u,h,w⟩
 grind
 exact λh=>⟨v,lc,s,rfl,h⟩
def agu:WV Q f [] fr s N=N fr s:=rfl
def ags:WV Q f (⟨X d,op,.aw⟩::l) ⟨e,sz,lc⟩ s N=Df Q f op d e sz lc s (λfr s=>WV Q f l fr s N) (nK op):=rfl
def agt:WV Q f (⟨Z,op,.aw⟩::l) ⟨e,sz,lc⟩ s N=Td e sz (λfr s=>WV Q f l fr s N) (dJ Q f ⟨Z,op,.aw⟩ [] ⟨e,sz,lc⟩ s):=rfl
def agv{d:ir}:WV Q f (⟨d,op,.when t c⟩::l) ⟨e,sz,lc⟩ s N=ifV Q f op e sz lc s (λfr s=>WV Q f l fr s N) d (oU (ac e t) c):=rfl
def aq3:ifV Q f op e sz lc s C (X d) O=Df Q f op d e sz lc s C (nK op):=rfl
def aq2:ifV Q f op e sz lc s C (X d) I=(d<sz/\C ⟨e.set d (X jE),sz,lc⟩ s):=rfl
def akz:Df Q f op d e sz lc s C I=EP d e sz C (dJ Q f ⟨X d,op,.aw⟩ [] ⟨e,sz,lc⟩ s):=rfl
def aky{x:Operand}:Df Q f (.call ⟨.value x,xs,ts⟩) d e sz lc s C O=C5 Q d e sz lc s C (ev e x) (evcs e xs.toList):=rfl
def aiE:C5 Q d e sz lc s C (X (.func (.func g) x y)) (X args)=zu Q d e sz lc s C g (x++(args++y)) (Q.spec g):=rfl
def aiF{n:Nat}:C5 Q d e sz lc s C (X (.yld n)) (X args)=AH Q n args d e sz lc s C:=rfl
def aiB:zu Q d e sz lc s C g args (X sp)=EP d e sz C ((sp args).bind λv=>X (v,lc,s)):=rfl
def aiA:zu Q d e sz lc s C g args Z=aU Q g args d e sz lc s C:=rfl
end
end
variable{ps:p_}{ops:ns}{as:az}{o:Operand}{gd:SG}{ty:TypeId}{p:aI->gk}
section
variable{Q:ay}{f:FuncId}
def gX:Op->Nat
 |.fieldAddr .. |.indexAddr .. |.nilCheck _|.move _|.assign _|.pick .. |.build .. |.field .. |.index .. |.binOp .. |.unOp .. |.convert .. |.makeFunc .. |.extract .. =>3
 |.load .. |.lookup .. |.slice .. =>0
 |.call {callee:=.value _, .. }=>0
 |.call {callee:=.builtin .len, .. }=>0
 |.call {callee:=.builtin .min, .. }=>0
 |.call {callee:=.builtin .max, .. }=>0
 |_=>1
def WX(Q:ay)(f:FuncId):Nat->Q2->be->ns->Fr->St->(mm)->Prop
 |_,_,_,[],fr,s,N=>N fr s
 |_,_,[],_::_,_,_,_=>False
 |i,R,b::bs,o::l,fr,s,N=>
  (jT fr.env o.g=O/\gX o.op=3/\∃v lc h,(∀mk,dJ Q f o mk fr s.top=X (v,lc,s.top))/\d8 fr o.dst v lc=X h/\so b (bK (Q.hint f) o.dst fr.env o.op) I R=O/\WX Q f (i+1) (⟨i,I,I,bK (Q.hint f) o.dst fr.env o.op⟩::R) bs l h s N)\/
  (jT fr.env o.g=O/\gX o.op=0/\∃v lc h,dJ Q f o [] fr s.top=X (v,lc,s.top)/\d8 fr o.dst v lc=X h/\fB b (bK (Q.hint f) o.dst fr.env o.op) I R=O/\WX Q f (i+1) (⟨i,I,I,bK (Q.hint f) o.dst fr.env o.op⟩::R) bs l h s N)\/
  (jT fr.env o.g=O/\gX o.op=1/\∃v lc s1 h,dJ Q f o [] fr s.top=X (v,lc,s1)/\d8 fr o.dst v lc=X h/\s1.ci=s.ci/\s.aL<=s1.aL/\fB b (bK (Q.hint f) o.dst fr.env o.op) O R=O/\WX Q f (i+1) (⟨i, !aA s1.aL s.aL,O,bK (Q.hint f) o.dst fr.env o.op⟩::R) bs l h (s.GE s1) N)\/
  (jT fr.env o.g=O/\∃c g args v s1 h,o.op=.call c/\(∀b,c.callee≠.builtin b)/\callee fr.env c=X (g,args)/\Q.spec g=Z/\ai Q g args s.top v s1/\d8 fr o.dst v fr.loc=X h/\s1.ci=s.ci/\s.aL<=s1.aL/\fB b (bK (Q.hint f) o.dst fr.env o.op) O R=O/\WX Q f (i+1) (⟨i, !aA s1.aL s.aL,O,bK (Q.hint f) o.dst fr.env o.op⟩::R) bs l h (s.GE s1) N)\/
  (jT fr.env o.g=I/\∃h,d8 fr o.dst jE fr.loc=X h/\WX Q f (i+1) R bs l h s N)\/
  (jT fr.env o.g=O/\∃c n args v s1 h,o.op=.call c/\yieldee fr.env c=X (n,args)/\iT Q n args s.top v s1/\d8 fr o.dst v fr.loc=X h/\s1.ci=s.ci/\s.aL<=s1.aL/\fB b (bK (Q.hint f) o.dst fr.env o.op) O R=O/\WX Q f (i+1) (⟨i, !aA s1.aL s.aL,O,bK (Q.hint f) o.dst fr.env o.op⟩::R) bs l h (s.GE s1) N)\/
  (jT fr.env o.g=O/\∃c g args v h,o.op=.call c/\(∀b,c.callee≠.builtin b)/\callee fr.env c=X (g,args)/\Q.spec g=Z/\ai Q g args s.top v s.top/\d8 fr o.dst v fr.loc=X h/\fB b (bK (Q.hint f) o.dst fr.env o.op) I R=O/\WX Q f (i+1) (⟨i,I,I,bK (Q.hint f) o.dst fr.env o.op⟩::R) bs l h s N)
def Vg{o:Op}(h:gX o=3\/gX o=0):isStore o=I:=by
 cases o<;>first|rfl|(rcases h with h|h<;>cases h;done)
def RS{a b:Nat}(h:(!aA a b)=I):b=a:=by
 simp_all
def WX.run:∀{l:ns}{i:Nat}{R:Q2}{bs:be}{rs:i_}{fr:Fr}{s:St}{N:mm},s.gE<=s.aL->CJ rs R->WX Q f i R bs l fr s N->∃j w,qo Q f bs rs i l fr s j w/\N j w
 |[],i,R,bs,rs,fr,s,N,_,_,h=>⟨fr,s,.nil,by cases bs<;>exact h⟩
 |o::l,i,R,[],rs,fr,s,N,_,_,h=>h.elim
 |o::l,i,R,b::bs,rs,fr,s,N,hm,hr,h=>by
  have hb:bq s.aL s.aL=I:=by rw[qL];simp
  rcases h with⟨E,c,v,lc,G,Y,F,B,H⟩|⟨E,c,v,lc,G,Y,F,B,H⟩|⟨E,c,v,lc,s1,G,Y,F,V,U,B,H⟩|⟨E,c,g,args,v,s1,G,T,S,u,_,q,F,V,U,B,H⟩|⟨E,G,F,h4⟩|⟨E,c,n,args,v,s1,G,T,u,q,F,V,U,B,H⟩|⟨E,c,g,args,v,G,T,S,u,_,q,F,B,H⟩
  have M:(bq s.top.gE s.aL||isStore o.op)=I:=by rw[Vg (.inl c),yC];exact hb
  obtain⟨j,w,A,D⟩:=WX.run (rs:=⟨i,s.aL,s.top.aL,bK (Q.hint f) o.dst fr.env o.op,bq s.top.gE s.aL||isStore o.op⟩::rs) hm (hr.cons rfl (λ_=>rfl) (λ_=>M) rfl) H;rw[<-iZ hm]at A;exact⟨j,w,.step E (v:=v) (lc:=lc) (s1:=s.top) (Y _) (Ed hr B λ_=>M) rfl F A,D⟩;have M:(bq s.top.gE s.aL||isStore o.op)=I:=by rw[Vg (.inr c),yC];exact hb
  obtain⟨j,w,A,D⟩:=WX.run (rs:=⟨i,s.aL,s.top.aL,bK (Q.hint f) o.dst fr.env o.op,bq s.top.gE s.aL||isStore o.op⟩::rs) hm (hr.cons rfl (λ_=>rfl) (λ_=>M) rfl) H;rw[<-iZ hm]at A;refine⟨j,w,.step E (v:=v) (lc:=lc) (s1:=s.top) ?_ ?_ rfl F A,D⟩;show dJ Q f o (kP b rs []) fr s.top=_;rw[Hp hr B];exact Y;exact Ed hr (Ec B) λ_=>M;obtain⟨j,w,A,D⟩:=WX.run (rs:=⟨i,s.aL,s1.aL,bK (Q.hint f) o.dst fr.env o.op,bq s1.gE s.aL||isStore o.op⟩::rs) (nL hm U) (hr.cons rfl (λh=>RS h) (λh=>by cases h) rfl) H;refine⟨j,w,.step E (v:=v) (lc:=lc) (s1:=s1) ?_ ?_ V F A,D⟩;show dJ Q f o (kP b rs []) fr s.top=_;rw[Hp hr B];exact Y;exact Ed hr (Ec B) λh=>by cases h
  obtain⟨j,w,A,D⟩:=WX.run (rs:=⟨i,s.aL,s1.aL,bK (Q.hint f) o.dst fr.env o.op,bq s1.gE s.aL||isStore o.op⟩::rs) (nL hm U) (hr.cons rfl (λh=>RS h) (λh=>by cases h) rfl) H;refine⟨j,w,.call E T S u (v:=v) (s1:=s1) ?_ ?_ V F A,D⟩;show M9 Q g args (kP b rs []) s.top v s1;rw[Hp hr B];exact q;exact Ed hr (Ec B) λh=>by cases h
  obtain⟨j,w,A,D⟩:=WX.run (rs:=rs) hm (λr a0=>hr r a0) h4;exact⟨j,w,.skip E F A,D⟩;obtain⟨j,w,A,D⟩:=WX.run (rs:=⟨i,s.aL,s1.aL,bK (Q.hint f) o.dst fr.env o.op,bq s1.gE s.aL||isStore o.op⟩::rs) (nL hm U) (hr.cons rfl (λh=>RS h) (λh=>by cases h) rfl) H;refine⟨j,w,.yld E T u (v:=v) (s1:=s1) ?_ ?_ V F A,D⟩;show TR Q n args (kP b rs []) s.top v s1;rw[Hp hr B];exact q;exact Ed hr (Ec B) λh=>by cases h
  have M:(bq s.top.gE s.aL||isStore o.op)=I:=by
   rw[T];show(bq s.aL s.aL||I)=I;rw[hb];rfl
  obtain⟨j,w,A,D⟩:=WX.run (rs:=⟨i,s.aL,s.top.aL,bK (Q.hint f) o.dst fr.env o.op,bq s.top.gE s.aL||isStore o.op⟩::rs) hm (hr.cons rfl (λ_=>rfl) (λ_=>M) rfl) H;rw[<-iZ hm]at A;refine⟨j,w,.call E T S u (v:=v) (s1:=s.top) ?_ ?_ rfl F A,D⟩;show M9 Q g args (kP b rs []) s.top v s.top;rw[Hp hr B];exact q;exact Ed hr (Ec B) λ_=>M
def W.drawX{bs:be}{s:St}{K:hP}(j:s.gE<=s.aL)(h:WX Q f 0 [] bs ops fr s λfr s=>K .normal fr s):W Q f (.draw ops bs) fr s K:=
 let⟨_,_,h1,h2⟩:=WX.run (rs:=[]) j (λ_ h=>by cases h) h
 W.drawR h1 h2
def jx(Q:ay)(f g:FuncId)(args:az)(ft:cz)(i:Nat)(R:Q2)(b:Nat)(bs:be)(d:Tmp)(e:ax)(sz:Nat)(lc:Loc)(s:St)(l:ns)(N:mm):Prop:=
 (∃v s1,ai Q g args s.top v s1/\d<sz/\s1.ci=s.ci/\s.aL<=s1.aL/\fB b ft O R=O/\WX Q f (i+1) (⟨i, !aA s1.aL s.aL,O,ft⟩::R) bs l ⟨e.set d (X v),sz,lc⟩ (s.GE s1) N)\/
 ∃v,ai Q g args s.top v s.top/\d<sz/\fB b ft I R=O/\WX Q f (i+1) (⟨i,I,I,ft⟩::R) bs l ⟨e.set d (X v),sz,lc⟩ s N
def jx.of{g:FuncId}{args:az}{ft:cz}{i:Nat}{R:Q2}{b:Nat}{bs:be}{d:Tmp}{e:ax}{sz:Nat}{lc:Loc}{s s1:St}{l:ns}{N:mm}{v:aa}(j:ai Q g args s.top v s1)(A:s1.ci=s.ci)(u:s.aL<=s1.aL)(w:d<sz)(q:fB b ft O R=O)(h:WX Q f (i+1) (⟨i, !aA s1.aL s.aL,O,ft⟩::R) bs l ⟨e.set d (X v),sz,lc⟩ (s.GE s1) N):jx Q f g args ft i R b bs d e sz lc s l N:=.inl ⟨v,s1,j,w,A,u,q,h⟩
def jx.quiet{g:FuncId}{args:az}{ft:cz}{i:Nat}{R:Q2}{b:Nat}{bs:be}{d:Tmp}{e:ax}{sz:Nat}{lc:Loc}{s:St}{l:ns}{N:mm}{v:aa}(j:ai Q g args s.top v s.top)(u:d<sz)(q:fB b ft I R=O)(h:WX Q f (i+1) (⟨i,I,I,ft⟩::R) bs l ⟨e.set d (X v),sz,lc⟩ s N):jx Q f g args ft i R b bs d e sz lc s l N:=.inr ⟨v,j,u,q,h⟩
def jx.calm{g:FuncId}{args:az}{ft:cz}{i:Nat}{R:Q2}{b:Nat}{bs:be}{d:Tmp}{e:ax}{sz:Nat}{lc:Loc}{s:St}{l:ns}{N:mm}{v:aa}(u:s.gE<=s.aL)(j:ai Q g args s.top v s.top)(w:d<sz)(q:fB b ft O R=O)(h:WX Q f (i+1) (⟨i,I,O,ft⟩::R) bs l ⟨e.set d (X v),sz,lc⟩ s N):jx Q f g args ft i R b bs d e sz lc s l N:=
 jx.of j rfl (Nat.le_refl _) w q (by
  have A:(!aA s.top.aL s.aL)=I:=by show(!aA s.aL s.aL)=I;rw[cd];simp
  rw[A,iZ u];exact h)
def Ib(Q:ay)(f n:Nat)(args:az)(ft:cz)(i:Nat)(R:Q2)(b:Nat)(bs:be)(d:Tmp)(e:ax)(sz:Nat)(lc:Loc)(s:St)(l:ns)(N:mm):Prop:=
 ∃v s1,iT Q n args s.top v s1/\d<sz/\s1.ci=s.ci/\s.aL<=s1.aL/\fB b ft O R=O/\WX Q f (i+1) (⟨i, !aA s1.aL s.aL,O,ft⟩::R) bs l ⟨e.set d (X v),sz,lc⟩ (s.GE s1) N
def Ib.of{n:Nat}{args:az}{ft:cz}{i:Nat}{R:Q2}{b:Nat}{bs:be}{d:Tmp}{e:ax}{sz:Nat}{lc:Loc}{s s1:St}{l:ns}{N:mm}{v:aa}(j:iT Q n args s.top v s1)(A:s1.ci=s.ci)(u:s.aL<=s1.aL)(w:d<sz)(q:fB b ft O R=O)(h:WX Q f (i+1) (⟨i, !aA s1.aL s.aL,O,ft⟩::R) bs l ⟨e.set d (X v),sz,lc⟩ (s.GE s1) N):Ib Q f n args ft i R b bs d e sz lc s l N:=⟨v,s1,j,w,A,u,q,h⟩
def Ga(Q:ay)(f:FuncId)(c:Nat)(ft:cz)(i:Nat)(R:Q2)(b:Nat)(bs:be)(d:ir)(e:ax)(sz:Nat)(s:St)(l:ns)(N:mm)(p:aI->gk):Prop:=
 (c=3/\∃v lc h,(∀mk,p mk=X (v,lc,s.top))/\d8 ⟨e,sz,lc⟩ d v lc=X h/\so b ft I R=O/\WX Q f (i+1) (⟨i,I,I,ft⟩::R) bs l h s N)\/
 (c=0/\∃v lc h,p []=X (v,lc,s.top)/\d8 ⟨e,sz,lc⟩ d v lc=X h/\fB b ft I R=O/\WX Q f (i+1) (⟨i,I,I,ft⟩::R) bs l h s N)\/
 (c=1/\∃v lc s1 h,p []=X (v,lc,s1)/\d8 ⟨e,sz,lc⟩ d v lc=X h/\s1.ci=s.ci/\s.aL<=s1.aL/\fB b ft O R=O/\WX Q f (i+1) (⟨i, !aA s1.aL s.aL,O,ft⟩::R) bs l h (s.GE s1) N)
def Mg(Q:ay)(f:FuncId)(ft:cz)(i:Nat)(R:Q2)(b:Nat)(bs:be)(d:ir)(e:ax)(sz:Nat)(s:St)(l:ns)(N:mm)(x:gk):Prop:=
 ∃v lc h,x=X (v,lc,s.top)/\d8 ⟨e,sz,lc⟩ d v lc=X h/\fB b ft I R=O/\WX Q f (i+1) (⟨i,I,I,ft⟩::R) bs l h s N
def ER(Q:ay)(f:FuncId)(ft:cz)(i:Nat)(R:Q2)(b:Nat)(bs:be)(d:ir)(e:ax)(sz:Nat)(s:St)(l:ns)(N:mm)(x:gk):Prop:=
 ∃v lc s1 h,x=X (v,lc,s1)/\d8 ⟨e,sz,lc⟩ d v lc=X h/\s1.ci=s.ci/\s.aL<=s1.aL/\fB b ft O R=O/\WX Q f (i+1) (⟨i, !aA s1.aL s.aL,O,ft⟩::R) bs l h (s.GE s1) N
def FE(Q:ay)(f:FuncId)(ft:cz)(i:Nat)(R:Q2)(b:Nat)(bs:be)(d:Tmp)(e:ax)(sz:Nat)(lc:Loc)(s:St)(l:ns)(N:mm)(g:FuncId)(args:az):W_->Prop
 |some sp=>Mg Q f ft i R b bs (X d) e sz s l N ((sp args).bind λv=>X (v,lc,s.top))
 |none=>jx Q f g args ft i R b bs d e sz lc s l N
def tj(Q:ay)(f:FuncId)(ft:cz)(i:Nat)(R:Q2)(b:Nat)(bs:be)(d:Tmp)(e:ax)(sz:Nat)(lc:Loc)(s:St)(l:ns)(N:mm):er->T_->Prop
 |some (.func (.func g) x y),X args=>FE Q f ft i R b bs d e sz lc s l N g (x++(args++y)) (Q.spec g)
 |some (.yld n),X args=>Ib Q f n args ft i R b bs d e sz lc s l N
 |_,_=>False
def qw(Q:ay)(f:FuncId)(op:Op)(i:Nat)(R:Q2)(b:Nat)(bs:be)(d:Tmp)(e:ax)(sz:Nat)(lc:Loc)(s:St)(l:ns)(N:mm):Bool->Prop
 |false=>Ga Q f (gX op) (bK (Q.hint f) (X d) e op) i R b bs (X d) e sz s l N (λmk=>dJ Q f ⟨X d,op,.aw⟩ mk ⟨e,sz,lc⟩ s.top)
 |true=>match op with
  |.call {callee:=.value x,args:=xs, .. }=>tj Q f (bK (Q.hint f) (X d) e op) i R b bs d e sz lc s l N (ev e x) (evcs e xs.toList)
  |_=>False
def Tz(Q:ay)(f:FuncId)(op:Op)(i:Nat)(R:Q2)(b:Nat)(bs:be)(d:Tmp)(e:ax)(sz:Nat)(lc:Loc)(s:St)(l:ns)(N:mm):Bool->Prop
 |true=>qw Q f op i R b bs d e sz lc s l N (nK op)
 |false=>d<sz/\WX Q f (i+1) R bs l ⟨e.set d (X jE),sz,lc⟩ s N
section
variable{i b c:Nat}{R:Q2}{ft:cz}{bs:be}{d:Tmp}{op:Op}{l:ns}{e:ax}{sz:Nat}{lc:Loc}{s s1:St}{N:mm}{v:aa}{t:Tmp}{tb:Bool}{x y args:az}{sp:az->er}{g:FuncId}
theorem qw.to(F:jT e gd=O)(h:qw Q f op i R b bs d e sz lc s l N (nK op)):WX Q f i R (b::bs) (⟨X d,op,gd⟩::l) ⟨e,sz,lc⟩ s N:=by
 have put:∀{v j q},d8 ⟨e,sz,j⟩ (X d) v j=X q->d8 ⟨e,sz,lc⟩ (X d) v j=X q:=λh=>h;cases hc:nK op with
 |false=>
  rw[hc]at h;rcases h with⟨E,v,j,q,D,A,B⟩|⟨E,v,j,q,D,A,B⟩|⟨E,v,j,s1,q,D,A,B⟩
  exact .inl ⟨F,E,v,j,q,D,put A,B⟩;exact .inr (.inl ⟨F,E,v,j,q,D,put A,B⟩);exact .inr (.inr (.inl ⟨F,E,v,j,s1,q,D,put A,B⟩))
 |true=>
  rw[hc]at h;unfold nK at hc;split at hc;rename_i _ x xs ts;have h:tj Q f (bK (Q.hint f) (X d) e (.call ⟨.value x,xs,ts⟩)) i R b bs d e sz lc s l N (ev e x) (evcs e xs.toList):=h;unfold tj at h;split at h;rename_i g a U args E D;have w:callee e ⟨.value x,xs,ts⟩=X (g,a++(args++U)):=by simp only[callee,E,D,aG]
  unfold FE at h;split at h;rename_i sp G;obtain⟨v,j,q,A,B,H⟩:=h;simp only[ak,aQ,bk]at A;obtain⟨u,M,rfl,rfl,_⟩:=A;refine .inr (.inl ⟨F,rfl,u,lc,q,?_,B,H⟩);show((callee e ⟨.value x,xs,ts⟩).bind λg=>(Q.spec g.1).bind λsp=>(sp g.2).bind λv=>X (v,lc,s.top))=_
  grind
  rename_i G;rcases h with⟨v,s1,A,B,H,M,T,S⟩|⟨v,A,B,H,M⟩
  exact .inr (.inr (.inr (.inl ⟨F,_,g,_,v,s1,_,rfl,by simp,w,G,A,lU.2 ⟨B,rfl⟩,H,M,T,S⟩)));exact .inr (.inr (.inr (.inr (.inr (.inr ⟨F,_,g,_,v,_,rfl,by simp,w,G,A,lU.2 ⟨B,rfl⟩,H,M⟩)))));rename_i n args E D;obtain⟨v,s1,A,B,H,M,T,S⟩:=h;have w:yieldee e ⟨.value x,xs,ts⟩=X (n,args):=by simp only[yieldee,E,D,aG]
  exact .inr (.inr (.inr (.inr (.inr (.inl ⟨F,_,n,args,v,s1,_,rfl,w,A,lU.2 ⟨B,rfl⟩,H,M,T,S⟩)))));exact h.elim;cases hc
theorem NL{e:ax}{x:Operand}{g:FuncId}(h:callee e ⟨.value x,xs,ts⟩=X (g,as)):∃a b args,ev e x=X (.func (.func g) a b)/\evcs e xs.toList=X args/\as=a++(args++b):=by
 grind [callee,ak]
theorem aGy{e:ax}{x:Operand}{n:Nat}(h:yieldee e ⟨.value x,xs,ts⟩=X (n,as)):ev e x=X (.yld n)/\evcs e xs.toList=X as:=by
 grind [yieldee,ak]
theorem qw.of(hw:jT e gd=O)(h:WX Q f i R (b::bs) (⟨X d,op,gd⟩::l) ⟨e,sz,lc⟩ s N):qw Q f op i R b bs d e sz lc s l N (nK op):=by
 cases hc:nK op with
 |false=>
  rcases h with⟨_,j,v,B,q,A,w,D⟩|⟨_,j,v,B,q,A,w,D⟩|⟨_,j,v,B,s1,q,A,w,D⟩|⟨_,c,g,args,v,s1,q,j,A,w,_⟩|⟨j,_⟩|⟨_,c,n,args,v,s1,q,j,w,_⟩|⟨_,c,g,args,v,q,j,A,w,_⟩
  exact .inl ⟨j,v,B,q,A,w,D⟩;exact .inr (.inl ⟨j,v,B,q,A,w,D⟩);exact .inr (.inr ⟨j,v,B,s1,q,A,w,D⟩);have j:op=.call c:=j;subst j;obtain⟨U,as,ts⟩:=c;cases U with
  |builtin x=>exact absurd rfl (A x)
  |value x=>cases hc
  |invoke x y=>cases w
  grind
  have j:op=.call c:=j;subst j;obtain⟨U,as,ts⟩:=c;cases U with
  |builtin x=>cases w
  |value x=>cases hc
  |invoke x y=>cases w
  have j:op=.call c:=j;subst j;obtain⟨U,as,ts⟩:=c;cases U with
  |builtin x=>exact absurd rfl (A x)
  |value x=>cases hc
  |invoke x y=>cases w
 |true=>
  unfold nK at hc;split at hc;rename_i _ x xs ts;show tj Q f (bK (Q.hint f) (X d) e (.call ⟨.value x,xs,ts⟩)) i R b bs d e sz lc s l N (ev e x) (evcs e xs.toList);rcases h with⟨_,j,_⟩|⟨_,j,v,B,q,A,w,D⟩|⟨_,j,_⟩|⟨_,c,g,args,v,s1,q,j,A,w,D,T,S,M⟩|⟨j,_⟩|⟨_,c,n,args,v,s1,q,j,w,T,S,M⟩|⟨_,c,g,args,v,q,j,A,w,D,T,S,M⟩
  cases j;have A:((callee e ⟨.value x,xs,ts⟩).bind λg=>(Q.spec g.1).bind λsp=>(sp g.2).bind λv=>X (v,lc,s.top))=X (v,B,s.top):=A;simp only[ak,aQ,bk]at A;obtain⟨⟨g,as⟩,q1,sp,V,u,q3,rfl,rfl,_⟩:=A;obtain⟨a,Y,args,F,E,rfl⟩:=NL q1;simp only[F,E,tj];have V:Q.spec g=X sp:=V;rw[V];exact⟨u,lc,q,by simp only[q3,aG],w,D⟩;cases j;have j:Op.call ⟨.value x,xs,ts⟩=.call c:=j;injection j with j
  subst j;obtain⟨a,Y,G,F,E,rfl⟩:=NL w;simp only[F,E,tj];rw[D];obtain⟨H,rfl⟩:=lU.1 S;exact .inl ⟨v,s1,T,H,M⟩
  grind
  have j:Op.call ⟨.value x,xs,ts⟩=.call c:=j;injection j with j
  subst j;obtain⟨F,E⟩:=aGy w;simp only[F,E,tj];obtain⟨H,rfl⟩:=lU.1 S;exact⟨v,s1,T,H,M⟩;have j:Op.call ⟨.value x,xs,ts⟩=.call c:=j;injection j with j
  subst j;obtain⟨a,Y,G,F,E,rfl⟩:=NL w;simp only[F,E,tj];rw[D];obtain⟨H,rfl⟩:=lU.1 S;exact .inr ⟨v,T,H,M⟩;cases hc
def agG:WX Q f i R bs [] fr s N=N fr s:=by cases bs<;>rfl
def agF:WX Q f i R (b::bs) (⟨X d,op,.aw⟩::l) ⟨e,sz,lc⟩ s N=qw Q f op i R b bs d e sz lc s l N (nK op):=propext ⟨qw.of rfl,qw.to rfl⟩
theorem agJ:WX Q f i R (b::bs) (⟨X d,op,.when t tb⟩::l) ⟨e,sz,lc⟩ s N=Tz Q f op i R b bs d e sz lc s l N (oU (ac e t) tb):=by
 apply propext;have j:jT e (.when t tb)=oU (ac e t) tb:=aft ..;cases hv:oU (ac e t) tb with
 |true=>
  rw[hv]at j;exact⟨qw.of j,qw.to j⟩
 |false=>
  rw[hv]at j;constructor
  ·rintro(⟨h,_⟩|⟨h,_⟩|⟨h,_⟩|⟨h,_⟩|⟨_,A,w,u⟩|⟨h,_⟩|⟨h,_⟩)
   grind
   grind
   grind
   grind
   obtain⟨q,rfl⟩:=lU.1 w;exact⟨q,u⟩
   all_goals grind
  exact λh=>.inr (.inr (.inr (.inr (.inl ⟨j,_,lU.2 ⟨h.1,rfl⟩,h.2⟩))))
theorem Ut(D:gX op=1):WX Q f i R (b::bs) (⟨Z,op,.aw⟩::l) ⟨e,sz,lc⟩ s N=ER Q f (bK (Q.hint f) Z e op) i R b bs Z e sz s l N (dJ Q f ⟨Z,op,.aw⟩ [] ⟨e,sz,lc⟩ s.top):=by
 apply propext;constructor;intro h;rcases h with⟨_,j,_⟩|⟨_,j,_⟩|⟨_,j,v,w,s1,q,A,u,E⟩|⟨_,c,g,args,v,s1,q,j,A,u,_⟩|⟨j,_⟩|⟨_,c,n,args,v,s1,q,j,u,_⟩|⟨_,c,g,args,v,q,j,A,u,_⟩
 grind
 grind
 exact⟨v,w,s1,q,A,u,E⟩;have j:op=.call c:=j;subst j;obtain⟨B,as,ts⟩:=c;cases B with
 |builtin x=>exact absurd rfl (A x)
 |value x=>cases D
 |invoke x y=>cases u
 cases j;have j:op=.call c:=j;subst j;obtain⟨B,as,ts⟩:=c;cases B with
 |builtin x=>cases u
 |value x=>cases D
 |invoke x y=>cases u
 have j:op=.call c:=j;subst j;obtain⟨B,as,ts⟩:=c;cases B with
 |builtin x=>exact absurd rfl (A x)
 |value x=>cases D
 |invoke x y=>cases u
 rintro⟨v,w,s1,q,A,u,E⟩;exact .inr (.inr (.inl ⟨rfl,D,v,w,s1,q,A,u,E⟩))
def agH{a x:Operand}:WX Q f i R (b::bs) (⟨Z,.store ty a x,.aw⟩::l) ⟨e,sz,lc⟩ s N=ER Q f (bK (Q.hint f) Z e (.store ty a x)) i R b bs Z e sz s l N (dJ Q f ⟨Z,.store ty a x,.aw⟩ [] ⟨e,sz,lc⟩ s.top):=Ut rfl
def agI{m k x:Operand}:WX Q f i R (b::bs) (⟨Z,.mapUpdate ty m k x,.aw⟩::l) ⟨e,sz,lc⟩ s N=ER Q f (bK (Q.hint f) Z e (.mapUpdate ty m k x)) i R b bs Z e sz s l N (dJ Q f ⟨Z,.mapUpdate ty m k x,.aw⟩ [] ⟨e,sz,lc⟩ s.top):=Ut rfl
def aFW:Tz Q f op i R b bs d e sz lc s l N O=qw Q f op i R b bs d e sz lc s l N (nK op):=rfl
def aFV:Tz Q f op i R b bs d e sz lc s l N I=(d<sz/\WX Q f (i+1) R bs l ⟨e.set d (X jE),sz,lc⟩ s N):=rfl
def akB:qw Q f op i R b bs d e sz lc s l N I=Ga Q f (gX op) (bK (Q.hint f) (X d) e op) i R b bs (X d) e sz s l N (λmk=>dJ Q f ⟨X d,op,.aw⟩ mk ⟨e,sz,lc⟩ s.top):=rfl
def akA{x:Operand}:qw Q f (.call ⟨.value x,xs,ts⟩) i R b bs d e sz lc s l N O=tj Q f (bK (Q.hint f) (X d) e (.call ⟨.value x,xs,ts⟩)) i R b bs d e sz lc s l N (ev e x) (evcs e xs.toList):=rfl
def aiC:tj Q f ft i R b bs d e sz lc s l N (X (.func (.func g) x y)) (X args)=FE Q f ft i R b bs d e sz lc s l N g (x++(args++y)) (Q.spec g):=rfl
def aiD{n:Nat}:tj Q f ft i R b bs d e sz lc s l N (X (.yld n)) (X args)=Ib Q f n args ft i R b bs d e sz lc s l N:=rfl
def aiz:FE Q f ft i R b bs d e sz lc s l N g args (X sp)=Mg Q f ft i R b bs (X d) e sz s l N ((sp args).bind λv=>X (v,lc,s.top)):=rfl
def aiy:FE Q f ft i R b bs d e sz lc s l N g args Z=jx Q f g args ft i R b bs d e sz lc s l N:=rfl
def anR:Ga Q f 3 ft i R b bs (X d) e sz s l N (λ_=>X (v,lc,s.top))=(d<sz/\so b ft I R=O/\WX Q f (i+1) (⟨i,I,I,ft⟩::R) bs l ⟨e.set d (X v),sz,lc⟩ s N):=by
 apply propext;constructor;rintro(⟨_,D,w,B,h,u,q,j⟩|⟨h,_⟩|⟨h,_⟩);have h:=h [];simp only[aQ,bk,aT]at h;obtain⟨rfl,rfl⟩:=h;obtain⟨A,rfl⟩:=lU.1 u;exact⟨A,q,j⟩;cases h;cases h;rintro⟨u,q,j⟩;exact .inl ⟨rfl,v,lc,_,λ_=>rfl,lU.2 ⟨u,rfl⟩,q,j⟩
def anP{d:ir}:Ga Q f 0 ft i R b bs d e sz s l N p=Mg Q f ft i R b bs d e sz s l N (p []):=by
 apply propext;constructor;rintro(⟨h,_⟩|⟨_,h⟩|⟨h,_⟩);cases h;exact h;cases h;exact λh=>.inr (.inl ⟨rfl,h⟩)
def anQ{d:ir}:Ga Q f 1 ft i R b bs d e sz s l N p=ER Q f ft i R b bs d e sz s l N (p []):=by
 apply propext;constructor;rintro(⟨h,_⟩|⟨h,_⟩|⟨_,h⟩);cases h;cases h;exact h;exact λh=>.inr (.inr ⟨rfl,h⟩)
def aDC:Mg Q f ft i R b bs (X d) e sz s l N (X (v,lc,s.top))=(d<sz/\fB b ft I R=O/\WX Q f (i+1) (⟨i,I,I,ft⟩::R) bs l ⟨e.set d (X v),sz,lc⟩ s N):=by
 apply propext;constructor;rintro⟨E,u,D,h,q,j,A⟩;simp only[aQ,bk,aT]at h;obtain⟨rfl,rfl⟩:=h;obtain⟨w,rfl⟩:=lU.1 q;exact⟨w,j,A⟩;rintro⟨q,B,j⟩;exact⟨v,lc,_,rfl,lU.2 ⟨q,rfl⟩,B,j⟩
def aDF:ER Q f ft i R b bs (X d) e sz s l N (X (v,lc,s1))=(s1.ci=s.ci/\d<sz/\s.aL<=s1.aL/\fB b ft O R=O/\WX Q f (i+1) (⟨i, !aA s1.aL s.aL,O,ft⟩::R) bs l ⟨e.set d (X v),sz,lc⟩ (s.GE s1) N):=by
 apply propext;constructor;rintro⟨F,B,G,E,h,A,w,u,q,j⟩;simp only[aQ,bk]at h;obtain⟨rfl,rfl,rfl⟩:=h;obtain⟨D,rfl⟩:=lU.1 A;exact⟨w,D,u,q,j⟩;rintro⟨A,w,u,q,j⟩;exact⟨v,lc,_,_,rfl,lU.2 ⟨w,rfl⟩,A,u,q,j⟩
def aDE:ER Q f ft i R b bs Z e sz s l N (X (v,lc,s1))=(s1.ci=s.ci/\s.aL<=s1.aL/\fB b ft O R=O/\WX Q f (i+1) (⟨i, !aA s1.aL s.aL,O,ft⟩::R) bs l ⟨e,sz,lc⟩ (s.GE s1) N):=by
 apply propext;constructor;rintro⟨E,B,F,A,h,j,D,w,u,q⟩;simp only[aQ,bk]at h;obtain⟨rfl,rfl,rfl⟩:=h;have j:A=⟨e,sz,lc⟩:=(sI j).symm;subst j;exact⟨D,w,u,q⟩;rintro⟨j,w,u,q⟩;exact⟨v,lc,_,⟨e,sz,lc⟩,rfl,rfl,j,w,u,q⟩
end
def aGn(t:TypeId)(a:Operand):gX (.load t a)=0:=rfl
def aGv(t:TypeId)(a x:Operand):gX (.store t a x)=1:=rfl
def aGa(t:TypeId):gX (.alloc t)=1:=rfl
def aGe(t:TypeId)(x:Operand):gX (.box t x)=1:=rfl
def aGj(t:TypeId)(a:Operand)(i:Nat):gX (.fieldAddr t a i)=3:=rfl
def aGl(t:TypeId)(a i:Operand):gX (.indexAddr t a i)=3:=rfl
def aGk(t:TypeId)(a i:Operand):gX (.index t a i)=3:=rfl
def aGr(a:Operand):gX (.move a)=3:=rfl
def aGc(a:Operand):gX (.assign a)=3:=rfl
def aGt(a b c:Operand):gX (.pick a b c)=3:=rfl
def aGf(t:TypeId)(ps:Ty):gX (.build t ps)=3:=rfl
def aGg(t:TypeId)(n:Nat)(ps:Ty):gX (.buildSlice t n ps)=1:=rfl
def aGd(o:BinOp)(t u:TypeId)(x y:Operand):gX (.binOp o t x y u)=3:=rfl
def aGw(o:UnOp)(t:TypeId)(x:Operand):gX (.unOp o t x)=3:=rfl
def aGi(a:Operand)(i:Nat):gX (.extract a i)=3:=rfl
def aGu(t:TypeId)(x:Operand)(a b c:sq):gX (.slice t x a b c)=0:=rfl
def aGo(t:TypeId)(x i:Operand)(b:Bool):gX (.lookup t x i b)=0:=rfl
def aGb(as:Ih)(ts:Q1):gX (.call ⟨.builtin .append,as,ts⟩)=1:=rfl
def aGm(as:Ih)(ts:Q1):gX (.call ⟨.builtin .len,as,ts⟩)=0:=rfl
def aGq(as:Ih)(ts:Q1):gX (.call ⟨.builtin .min,as,ts⟩)=0:=rfl
def aGp(as:Ih)(ts:Q1):gX (.call ⟨.builtin .max,as,ts⟩)=0:=rfl
def an8(h:vx)(d:ir)(e:ax)(t:TypeId)(x i:Operand)(b:Bool):bK h d e (.lookup t x i b)=Jw e x:=rfl
def aod(h:vx)(d:ir)(e:ax)(a b c:Operand):bK h d e (.pick a b c)=.none:=rfl
def an4(h:vx)(d:ir)(e:ax)(t:TypeId)(x i:Operand):bK h d e (.index t x i)=.none:=rfl
def aoh(h:vx)(d:ir)(e:ax)(t:TypeId)(m k x:Operand):bK h d e (.mapUpdate t m k x)=.all:=rfl
def aoa(h:vx)(d:ir)(e:ax)(as:Ih)(ts:Q1):bK h d e (.call ⟨.builtin .min,as,ts⟩)=.none:=rfl
def an9(h:vx)(d:ir)(e:ax)(as:Ih)(ts:Q1):bK h d e (.call ⟨.builtin .max,as,ts⟩)=.none:=rfl
def F9:aa->cz
 |.map _=>.all
 |_=>.none
def an6(h:vx)(d:ir)(e:ax)(t:Tmp)(ts:Q1):bK h d e (.call ⟨.builtin .len,#[.tmp t],ts⟩)=F9 (ac e t):=by
 show(match ev e (.tmp t)with|some (.map _)=>cz.all|_=>.none)=_;rw[ey];cases ac e t<;>rfl
def OV:aa->cz
 |.ptr n _=>.obj n
 |_=>.none
def aoe(h:vx)(d:ir)(e:ax)(ty:TypeId)(t:Tmp)(a b c:sq):bK h d e (.slice ty (.tmp t) a b c)=OV (ac e t):=by
 show(match ev e (.tmp t)with|some (.ptr n _)=>cz.obj n|_=>.none)=_;rw[ey];cases ac e t<;>rfl
def anO(n o:Nat):OV (.ptr n o)=.obj n:=rfl
def anv(n o:Nat):JH (.ptr n o)=.obj n:=rfl
def anL(n o:Nat):Dx (.ptr n o)=.none:=rfl
def anI(a b c d e:Nat):Dx (.arr a b c d e)=.none:=rfl
def anJ(n:Nat)(xs:az)(r:gV):Dx (.list n xs r)=.none:=rfl
def awq(t n:Nat):cz.meets (.loc t) (.obj n)=I:=rfl
def axY(t n:Nat):cz.meets (.obj n) (.loc t)=I:=rfl
def aGx(t:TypeId)(m k x:Operand):gX (.mapUpdate t m k x)=1:=rfl
def axy(s:St)(o:aH):(s.new o).aL=s.aL+1:=rfl
def aAv(s:St)(n:Nat)(o:sh):(s.put n o).aL=s.aL:=rfl
def axx(s:St)(o:aH):(s.new o).ci=s.ci:=rfl
def aAt(s:St)(n:Nat)(o:sh):(s.put n o).ci=s.ci:=rfl
def ahG(n:Nat):(n+1==n)=I:=by simp
def avH(n:Nat):(n<=n+1)=True:=eq_true (Nat.le_succ n)
def WC(Q:ay)(f:FuncId):SC->Fr->St->(hP)->Prop
 |.skip,fr,s,K=>K .normal fr s
 |.ret,fr,s,K=>K .ret fr s
 |.exit id,fr,s,K=>K (.exit id) fr s
 |.seq a b,fr,s,K=>WC Q f a fr s (Ex.next K λfr s=>WC Q f b fr s K)
 |.cond o a b,fr,s,K=>(ev fr.env o=X (.bool O)/\WC Q f a fr s K)\/(ev fr.env o=X (.bool I)/\WC Q f b fr s K)
 |.block id b,fr,s,K=>WC Q f b fr s λx=>K (x.block id)
 |.scope b,fr,s,K=>WC Q f b fr s K
 |.region ops,fr,s,K=>WV Q f ops fr s λfr s=>K .normal fr s
 |.draw ops bs,fr,s,K=>s.gE<=s.aL/\WX Q f 0 [] bs ops fr s λfr s=>K .normal fr s
 |.loop b,fr,s,K=>W Q f (.loop b) fr s K
 |.rfun g ps a b,fr,s,K=>W Q f (.rfun g ps a b) fr s K
 |.bad,fr,s,K=>W Q f .bad fr s K
def WC.sound:∀{c:SC}{fr:Fr}{s:St}{K:hP},WC Q f c fr s K->W Q f c fr s K
 |.skip,_,_,_,h=>W.skip h
 |.ret,_,_,_,h=>W.ret h
 |.exit _,_,_,_,h=>W.exit h
 |.seq a b,fr,s,K,h=>W.seq ((WC.sound (c:=a) h).mono λx fr s j=>by
  cases x with
  |normal=>exact WC.sound (c:=b) j
  |exit i=>exact j
  |ret=>exact j)
 |.cond o a b,fr,s,K,h=>by
   rcases h with⟨u,q⟩|⟨u,q⟩
   exact W.cond (t:=O) u (WC.sound (c:=a) q);exact W.cond (t:=I) u (WC.sound (c:=b) q)
 |.block id b,fr,s,K,h=>W.block (WC.sound (c:=b) h)
 |.scope b,fr,s,K,h=>W.scope (WC.sound (c:=b) h)
 |.region ops,fr,s,K,h=>W.region (WV.run h)
 |.draw _ _,_,_,_,h=>W.drawX h.1 h.2
 |.loop _,_,_,_,h=>h
 |.rfun _ _ _ _,_,_,_,h=>h
 |.bad,_,_,_,h=>h
def FL(Q:ay)(f:FuncId)(a b:SC)(e:ax)(sz:Nat)(lc:Loc)(s:St)(K:hP)(v:er):Prop:=(v=X (.bool O)/\WC Q f a ⟨e,sz,lc⟩ s K)\/(v=X (.bool I)/\WC Q f b ⟨e,sz,lc⟩ s K)
section
variable{e:ax}{sz:Nat}{lc:Loc}{s:St}{K:hP}{a b:SC}
def afM:WC Q f .skip ⟨e,sz,lc⟩ s K=K .normal ⟨e,sz,lc⟩ s:=rfl
def afI:WC Q f .ret ⟨e,sz,lc⟩ s K=K .ret ⟨e,sz,lc⟩ s:=rfl
def afF{id:Nat}:WC Q f (.exit id) ⟨e,sz,lc⟩ s K=K (.exit id) ⟨e,sz,lc⟩ s:=rfl
def afL:WC Q f (.seq a b) ⟨e,sz,lc⟩ s K=WC Q f a ⟨e,sz,lc⟩ s (Ex.next K λfr s=>WC Q f b fr s K):=rfl
def afD:WC Q f (.cond o a b) ⟨e,sz,lc⟩ s K=FL Q f a b e sz lc s K (ev e o):=rfl
def afC{id:Nat}:WC Q f (.block id b) ⟨e,sz,lc⟩ s K=WC Q f b ⟨e,sz,lc⟩ s λx=>K (x.block id):=rfl
def afK:WC Q f (.scope b) ⟨e,sz,lc⟩ s K=WC Q f b ⟨e,sz,lc⟩ s K:=rfl
def afH:WC Q f (.region ops) ⟨e,sz,lc⟩ s K=WV Q f ops ⟨e,sz,lc⟩ s λfr s=>K .normal fr s:=rfl
def afE{bs:be}:WC Q f (.draw ops bs) ⟨e,sz,lc⟩ s K=(s.gE<=s.aL/\WX Q f 0 [] bs ops ⟨e,sz,lc⟩ s λfr s=>K .normal fr s):=rfl
def afG:WC Q f (.loop b) ⟨e,sz,lc⟩ s K=W Q f (.loop b) ⟨e,sz,lc⟩ s K:=rfl
def afJ{h:Operand}{p q:Code}:WC Q f (.rfun h ps p q) ⟨e,sz,lc⟩ s K=W Q f (.rfun h ps p q) ⟨e,sz,lc⟩ s K:=rfl
def ake:FL Q f a b e sz lc s K (X (.bool O))=WC Q f a ⟨e,sz,lc⟩ s K:=by simp[FL]
def akd:FL Q f a b e sz lc s K (X (.bool I))=WC Q f b ⟨e,sz,lc⟩ s K:=by simp[FL]
def W.loopC(h:WC Q f b fr s (Ex.next K λfr s=>W Q f (.loop b) fr s K)):W Q f (.loop b) fr s K:=W.loop1 h.sound
end
end
def lL:Ex->Bool
 |.normal=>O
 |_=>I
def lS:Ex->MA
 |.normal=>Z
 |x=>X x
variable{s:St}{Q:ay}
def iT.any{f:FuncId}{n:Nat}{args:az}{env j:aB aa}{size:Nat}{a b:Code}{ca cb:SC}{P:aa->St->Prop}(H:s.get [] n=X (.loop f env size ps a b Z))(h1:ps.all (λt=>bq t size)=O)(G:HX ps args env=X j)(E:dX a=ca)(D:dX b=cb)(h:W Q f ca ⟨j,size,[]⟩ (s.put n Z) λx fr s1=>x=.normal/\W Q f cb fr s1 λx _ u=>P (.bool (lL x)) (u.put n (X (.loop f env size ps a b (lS x))))):∃v w,iT Q n args s v w/\P v w:=by
 obtain⟨x,S,s1,B,rfl,y,M,u,A,F⟩:=h;obtain⟨k,hk⟩:=SL B E;obtain⟨m,q⟩:=SL A D;have hk:=(mD Q (Nat.le_max_left k m)).code _ _ _ _ _ _ hk;have q:=(mD Q (Nat.le_max_right k m)).code _ _ _ _ _ _ q;refine⟨_,_,⟨max k m,?_⟩,F⟩;unfold mQ;cases y<;>simp only[H,aG,Ct,h1,cT,G,hk,AG,q,Cs,lL,lS]
variable{α:Type}
namespace aB
theorem all_of{α:Type}{p:α->Bool}:∀{t:aB α},(∀n x,t.get n=X x->p x=O)->t.all p=O
 |.nil,_=>rfl
 |.node l v r,h=>by
   have q:l.all p=O:=all_of λn x u=>h (2*n+1) x (by
    grind [get_node])
   have j:r.all p=O:=all_of λn x u=>h (2*n+2) x (by
    grind [get_node])
   cases v with
   |none=>
    show(O&&(l.all p&&r.all p))=O;rw[q,j];rfl
   |some z=>
    show(p z&&(l.all p&&r.all p))=O;rw[q,j,h 0 z (by rw[get_node,iP rfl])];rfl
theorem all_set{p:α->Bool}{t:aB α}{n:Nat}{x:α}(h:t.all p=O)(q:p x=O):(t.set n (X x)).all p=O:=all_of λm y j=>by
 grind [get_set,all_get]
end aB
theorem oE(s:St)(n m:Nat)(o:sh):(s.put n o).get [] m=bif m==n then o else s.get [] m:=by
 grind [ll,St.put,dG,aB.get_set]
variable{seen:be}{it m:Nat}
section
variable{α:Type}[DecidableEq α]{enc:α->aa}
def cX(enc:α->aa)(n:Nat):List (α×aa)->MQ
 |[]=>[]
 |(k,v)::l=>⟨enc k,v,n⟩::cX enc (n+1) l
def bR(k:α):List (α×aa)->er
 |[]=>Z
 |(a,v)::l=>if k=a then X v else bR k l
def jr(k:α):List (α×aa)->Nat
 |[]=>0
 |(a,_)::l=>if k=a then 0 else jr k l+1
def dp(k:α)(v:aa):List (α×aa)->List (α×aa)
 |[]=>[(k,v)]
 |(a,u)::l=>if k=a then(k,v)::l else(a,u)::dp k v l
structure wQ (P:Program) (kt:TypeId) (enc:α->aa):Prop where
 eq:∀a b,jh P 8 kt (enc a) (enc b)=some (decide (a=b))
 same:∀a,pG (enc a) (enc a)=true
 gt:∀a,(enc a).gt=true
def bf(enc:α->aa)(s:St)(m:Nat)(L:List (α×aa)):Prop:=s.get [] m=X (.map (cX enc 0 L) (J L))
omit [DecidableEq α]in
theorem Oq:∀(l r:List (α×aa))(n:Nat),cX enc n (l++r)=cX enc n l++cX enc (n+J l) r
 |[],r,n=>rfl
 |(a,v)::l,r,n=>by
  simp only[uH,cX,Oq l r (n+1),bP]
  grind
omit [DecidableEq α]in
def Ou:∀(l:List (α×aa))(n:Nat),(cX enc n l).length=J l
 |[],_=>rfl
 |(a,v)::l,n=>by simp only[cX,bP,Ou l]
theorem G7(k j:α)(v:aa):∀l,bR j (dp k v l)=if j=k then X v else bR j l
 |[]=>rfl
 |(a,u)::l=>by
  simp only[dp];by_cases h:k=a
  grind [bR]
  simp only[iN h,bR,G7 k j v l]
  grind
def rS{k:α}{v:aa}:∀{l},bR k l=Z->dp k v l=l++[(k,v)]
 |[],_=>rfl
 |(a,u)::l,h=>by
  simp only[bR]at h;by_cases h1:k=a;simp[h1]at h;rw[iN h1]at h;simp only[dp,iN h1,rS h,uH]
theorem Gj{k:α}{v u:aa}:∀{l:List (α×aa)},bR k l=X u->(dp k v l).length=J l
 |[],h=>by cases h
 |(a,w)::l,h=>by
  simp only[bR]at h;by_cases h1:k=a;simp[dp,h1];rw[iN h1]at h;simp only[dp,iN h1,bP,Gj h]
theorem XV{k:α}{v:aa}:∀{l:List (α×aa)},bR k l=X v->dp k v l=l
 |[],h=>by cases h
 |(a,w)::l,h=>by
  simp only[bR]at h;by_cases h1:k=a
  grind [dp]
  rw[iN h1]at h;simp only[dp,iN h1,XV h]
def adu{k:α}:∀{l:List (α×aa)},bR k l=Z->jr k l=J l
 |[],_=>rfl
 |(a,u)::l,h=>by
  simp only[bR]at h;by_cases h1:k=a;simp[h1]at h;rw[iN h1]at h;simp only[jr,iN h1,adu h,bP]
def adt{k:α}{v:aa}:∀{l:List (α×aa)},jr k (dp k v l)=jr k l
 |[]=>by simp[dp,jr]
 |(a,u)::l=>by
  by_cases h1:k=a;simp[dp,jr,h1];simp only[dp,jr,iN h1,adt]
def Ow{k:α}{u v:aa}:∀{l:List (α×aa)}{n:Nat},bR k l=X u->(cX enc n l).set (jr k l) ⟨enc k,v,n+jr k l⟩=cX enc n (dp k v l)
 |[],_,h=>by cases h
 |(a,w)::l,n,h=>by
  simp only[bR]at h;by_cases h1:k=a;simp[dp,jr,cX,h1];rw[iN h1]at h;simp only[dp,jr,cX,iN h1,List.set_cons_succ];rw[<-Ow (l:=l) (n:=n+1) h,show n+(jr k l+1)=n+1+jr k l from w_]
theorem aem{k:α}{u v:aa}:∀{l:List (α×aa)}{n:Nat},bR k l=X u->Au (n+jr k l) v (cX enc n l)=X (cX enc n (dp k v l))
 |[],_,h=>by cases h
 |(a,w)::l,n,h=>by
  simp only[bR]at h;by_cases h1:k=a;subst h1;simp[dp,jr,cX,Au];rw[iN h1]at h;have q:aA n (n+(jr k l+1))=I:=by rw[cd];exact bN.2 w_
  have j:=aem (v:=v) (l:=l) (n:=n+1) h
  grind [dp,jr,cX,Au]
section
variable{P:Program}{kt:TypeId}(hK:wQ P kt enc)
include hK
theorem Dp:∀(l:List (α×aa))(k:α)(n i:Nat),mX P kt (enc k) (cX enc n l) i=X ((bR k l).map λv=>(i+jr k l,⟨enc k,v,n+jr k l⟩))
 |[],k,n,i=>rfl
 |(a,v)::l,k,n,i=>by
  simp only[cX,mX,hK.eq,aG,bR,jr];by_cases h:k=a;subst h;simp;simp only[dN h,cF,iN h];rw[Dp l k (n+1) (i+1)]
  grind
variable{t e:TypeId}(hk:∀k:α,j0 P t (enc k)=some (kt,e))
include hk
theorem r9{z:aa}(hz:dC P e=X z){l:List (α×aa)}(h:bf enc s m l)(k:α):mB P [] t (.map m) (enc k) I s=X ((bR k l).getD z):=by
 have h:s.get [] m=_:=h;simp only[mB,hk,aG,hz,zX,h,Dp hK l k 0 0];cases bR k l<;>rfl
def iu(z:aa):er->aa
 |some v=>.tup [v,.bool O]
 |none=>.tup [z,.bool I]
theorem nM{z:aa}(hz:dC P e=X z){l:List (α×aa)}(h:bf enc s m l)(k:α):mB P [] t (.map m) (enc k) O s=X (iu z (bR k l)):=by
 have h:s.get [] m=_:=h;simp only[mB,hk,aG,hz,zX,h,Dp hK l k 0 0];cases bR k l<;>rfl
theorem lY{l:List (α×aa)}(j:bf enc s m l)(k:α)(v:aa):mN P [] t (.map m) (enc k) v s=X (s.put m (X (.map (cX enc 0 (dp k v l)) (dp k v l).length))):=by
 have j:s.get [] m=_:=j;simp only[mN,hk,aG,j,Dp hK l k 0 0];rcases h:bR k l with _|u
 simp only[n8,rS h,Oq,bI,bP,bC,dS];rfl
 have:=Ow (enc:=enc) (v:=v) (n:=0) h;rw[dS]at this;simp only[kV,hK.same,cT,dS,this,Gj h]
theorem akW{z:aa}(hz:dC P e=X z){l:List (α×aa)}(j:bf enc s m l)(k:α):si P [] t (.map m) (enc k) s=X (.tup [(bR k l).getD z,.int .i64 (jr k l:Nat)],s.put m (X (.map (cX enc 0 (dp k ((bR k l).getD z) l)) (dp k ((bR k l).getD z) l).length))):=by
 have j:s.get [] m=_:=j;simp only[si,hk,aG,hz,j,Dp hK l k 0 0];rcases h:bR k l with _|u
 simp only[n8,Option.getD_none,rS h,Oq,bI,bP,bC,dS,adu h];rfl
 have:=Ow (enc:=enc) (v:=u) (n:=0) h;rw[dS]at this;simp only[kV,yQ,hK.same,cT,dS,this,Gj h]
omit hK hk in
theorem We{l:List (α×aa)}{k:α}{u:aa}(j:bf enc s m l)(h:bR k l=X u)(v:aa):vg [] (.map m) (.int .i64 (jr k l:Nat)) v s=X (s.put m (X (.map (cX enc 0 (dp k v l)) (dp k v l).length))):=by
 have j:s.get [] m=_:=j;have q:=aem (enc:=enc) (v:=v) (n:=0) h
 grind [vg,nP,Gj]
omit hK hk [DecidableEq α]in
theorem bf.put{L:List (α×aa)}:bf enc (s.put m (X (.map (cX enc 0 L) (J L)))) m L:=by
 show(s.put m _).get [] m=_;rw[oE,bS];rfl
end
omit [DecidableEq α]in
theorem FT:∀(L:List (α×aa))(n:Nat)(e:dw),e∈cX enc n L->n<=e.born/\e.born<n+J L
 |[],n,e,h=>by cases h
 |(a,v)::L,n,e,h=>by
  rcases dD.1 h with rfl|h
  grind
  have:=FT L (n+1) e h;simp only[bP];omega
omit [DecidableEq α]in
omit [DecidableEq α]in
theorem Ot:∀(L:List (α×aa))(n:Nat)(e:dw),e∈cX enc n L->∃p:α×aa,L[e.born-n]?=X p/\e.key=enc p.1/\e.val=p.2
 |[],n,e,h=>by cases h
 |(a,v)::L,n,e,h=>by
  rcases dD.1 h with rfl|h
  exact⟨(a,v),by simp,rfl,rfl⟩;obtain⟨p,q,j⟩:=Ot L (n+1) e h
  have:=FT L (n+1) e h
  grind
omit [DecidableEq α]in
def Ov:∀(L:List (α×aa))(n i:Nat)(p:α×aa),L[i]?=X p->⟨enc p.1,p.2,n+i⟩∈cX enc n L
 |[],n,i,p,h=>by cases h
 |(a,v)::L,n,0,p,h=>by
  simp only[AR,aQ]at h;subst h;exact gz
 |(a,v)::L,n,i+1,p,h=>by
  rw[Cx]at h
  have:=Ov L (n+1) i p h;rw[show n+(i+1)=n+1+i from w_];exact List.mem_cons_of_mem _ this
omit [DecidableEq α]in
def Wt:∀(L:List (α×aa))(n:Nat)(e:dw),e∈cX enc n L->Bq e.born (cX enc n L)=X e
 |[],n,e,h=>by cases h
 |(a,v)::L,n,e,h=>by
  simp only[cX,Bq];rcases dD.1 h with rfl|h
  simp;have j:=FT L (n+1) e h;have:aA n e.born=I:=by
   rw[cd];exact bN.2 w_
  rw[this];exact Wt L (n+1) e h
theorem RC{es:MQ}{e:dw}:e∈lW seen es↔e∈es/\e.born ∉ seen:=by
 simp only[lW,List.mem_filter,Bool.not_eq_true',List.any_eq_false];constructor;rintro⟨q,j⟩;exact⟨q,λh=>j _ h (by simp)⟩
 grind [Nat.eq_of_beq_eq_true]
structure ij (enc:α->aa) (s:St) (it m:Nat) (L:List (α×aa)) (seen:be):Prop where
 hi:s.get [] it=some (.iter (some m) L.length seen L.length)
 hm:bf enc s m L
 nd:seen.Nodup
 lt:∀b∈seen,b<L.length
omit [DecidableEq α]in
theorem ij.calm{L:List (α×aa)}(c:ij enc s it m L seen)(ch kmax:dd):oM [] ch kmax (.ptr it 0) I s=tY ch kmax it m (J L) seen (J L) (lW seen (cX enc 0 L)) s:=by
 have h:s.get [] m=_:=c.hm;simp only[oM,c.hi,h,aG,cF];have:(!seen.isEmpty&&!(cX enc 0 L).isEmpty&&(cX enc 0 L).all λe=>aP (J L) e.born)=I:=by
  rcases L with _|⟨x,L⟩
  simp[cX]
  grind [cX,aP]
 rw[this];rfl
omit [DecidableEq α]in
theorem ij.aL{L:List (α×aa)}(c:ij enc s it m L seen)(ch kmax:dd)(hk:∀i,J L<=kmax i):
 (seen.Perm (List.range (J L))/\oM [] ch kmax (.ptr it 0) I s=X (.tup [.bool I],s))\/
 ∃(b:Nat)(p:α×aa)(s':St),L[b]?=X p/\b ∉ seen/\J seen<J L/\oM [] ch kmax (.ptr it 0) I s=X (.tup [.bool O,enc p.1,p.2],s')/\(∀n,n≠it->s'.get [] n=s.get [] n)/\s'.get [] it=X (.iter (X m) (J L) (seen++[b]) (J L))/\s'.aL=s.aL/\s'.gE=(s.put it Z).gE:=by
 rw[c.calm];have q:∀e∈lW seen (cX enc 0 L),bq e.born (J L)=O:=λe M=>by
  have:=FT L 0 e (RC.1 M).1;exact bG w_
 have j:(lW seen (cX enc 0 L)).length<=J L:=by
  have u:(lW seen (cX enc 0 L)).length<=(cX enc 0 L).length:=List.length_filter_le _ _;rw[Ou]at u;exact u
 have E:∀b,b<J L->b ∉ seen->J seen<J L:=λb h A=>by
  have u:(b::seen).Nodup:=Fe.2 ⟨A,c.nd⟩;have B:(b::seen) ⊆ List.range (J L):=λx D=>by
   rcases dD.1 D with rfl|D
   exact yL.2 h;exact yL.2 (c.lt x D)
  have:=u.length_le_of_subset B
  grind
 have pick:∀(e:dw)(s1:St),e∈lW seen (cX enc 0 L)->s1.heap=(s.put it (X (.iter (X m) (J L) (seen++[e.born]) (J L)))).heap->s1.aL=s.aL->s1.gE=(s.put it Z).gE->
  ∃(b:Nat)(p:α×aa)(s':St),L[b]?=X p/\b ∉ seen/\J seen<J L/\X (aa.tup [.bool O,e.key,e.val],s1)=X (.tup [.bool O,enc p.1,p.2],s')/\(∀n,n≠it->s'.get [] n=s.get [] n)/\s'.get [] it=X (.iter (X m) (J L) (seen++[b]) (J L))/\s'.aL=s.aL/\s'.gE=(s.put it Z).gE:=λe s1 M T A F=>by
  obtain⟨u,B⟩:=RC.1 M;obtain⟨p,Y,V,U⟩:=Ot L 0 e u;have h6:=FT L 0 e u;have hg:∀n,s1.get [] n=(s.put it (X (.iter (X m) (J L) (seen++[e.born]) (J L)))).get [] n:=λn=>by
   show(bif dG [] n then Z else s1.heap.get n)=_;rw[T];rfl
  refine⟨e.born,p,s1,by simpa using Y,B,E _ w_ B,by rw[V,U],λn S=>?_,?_,A,F⟩<;>grind [oE]
 rcases hu:lW seen (cX enc 0 L)with _|⟨e,r⟩
 refine .inl ⟨?_,rfl⟩;refine(List.perm_ext_iff_of_nodup c.nd List.nodup_range).2 λb=>⟨λh=>yL.2 (c.lt b h),λh=>?_⟩;have h:=yL.1 h;refine Decidable.byContradiction λA=>?_;have:(⟨enc (L[b]).1,(L[b]).2,0+b⟩:dw)∈lW seen (cX enc 0 L):=RC.2 ⟨Ov L 0 b _ (dA h),by simpa using A⟩;rw[hu]at this;cases this;right;rw[hu]at q j pick;have h:((e::r).all λe=>bq e.born (J L))=O:=List.all_eq_true.2 q;rcases r with _|⟨w,r⟩
 have:=pick e (wh it m (J L) (J L) seen e s).2 (by simp) rfl rfl rfl;simp only[tY,h,cT];exact this;have H:aP (e::w::r).length (kmax s.ci)=O:=bG (Nat.le_trans j (hk _));have G:ch s.ci % (e::w::r).length<(e::w::r).length:=Nat.mod_lt _ (by simp)
 have:=pick (e::w::r)[ch s.ci % (e::w::r).length] { (wh it m (J L) (J L) seen (e::w::r)[ch s.ci % (e::w::r).length] s).2 with ci:=s.ci+1 } (List.getElem_mem _) rfl rfl rfl;simp only[tY,h,cT,H,dA G,aG];exact this
omit [DecidableEq α]in
theorem ij.entry{L:List (α×aa)}{b:Nat}{p:α×aa}(hi:s.get [] it=X (.iter (X m) (J L) (seen++[b]) (J L)))(h:bf enc s m L)(j:L[b]?=X p):w9 [] (.ptr it 0) s=X (.tup [enc p.1,p.2]):=by
 have h:s.get [] m=_:=h;have q:=Wt (enc:=enc) L 0 _ (Ov L 0 b p j)
 grind [w9,cd]
omit [DecidableEq α]in
theorem ij.go{s':St}{b:Nat}{L:List (α×aa)}{p:α×aa}(c:ij enc s it m L seen)(j:m≠it)(A:L[b]?=X p)(w:b ∉ seen)(q:∀n,n≠it->s'.get [] n=s.get [] n)(hi:s'.get [] it=X (.iter (X m) (J L) (seen++[b]) (J L))):ij enc s' it m L (seen++[b]):=
 ⟨hi,(q m j).trans c.hm,List.nodup_append.2 ⟨c.nd,by simp,λx h y u e=>by grind⟩,λx h=>by
  rcases List.mem_append.1 h with h|h
  exact c.lt x h
  grind⟩
omit [DecidableEq α]in
theorem ij.begin{L:List (α×aa)}(q:bf enc s m L)(u:m<s.aL):ij enc (s.new (.iter (X m) (J L) [] (J L))) s.aL m L []:=by
 have j:∀n,(s.new (.iter (X m) (J L) [] (J L))).get [] n=bif n==s.aL then X (.iter (X m) (J L) [] (J L))else s.get [] n:=λn=>by
  grind [ll,St.new,dG,aB.get_set]
 refine⟨by rw[j,bS];rfl,?_,List.nodup_nil,λ_ h=>by cases h⟩;show(s.new _).get [] m=_;rw[j,bN.2 (by omega:m≠s.aL)];exact q
omit [DecidableEq α]in
theorem ij.new{P:Program}{t kt e:TypeId}(j:P.underlying t=X (.map kt e)){L:List (α×aa)}(h:bf enc s m L):ua P [] t (.map m) s=X (.ptr s.aL 0,s.new (.iter (X m) (J L) [] (J L))):=by
 have h:s.get [] m=_:=h;simp only[ua,j,aG,h]
end
section
variable{Q:ay}{f:FuncId}{e:ax}{sz:Nat}{lc:Loc}{s:St}{d:ir}{g:SG}{mk:aI}
def F7(t:TypeId)(x:Operand):dJ Q f ⟨d,.range t x,g⟩ mk ⟨e,sz,lc⟩ s=(evc e x).bind λx=>gu (ua Q.P mk t x s) lc:=rfl
def tF(x:Operand)(b:Bool):dJ Q f ⟨d,.next x b,g⟩ mk ⟨e,sz,lc⟩ s=(evc e x).bind λit=>gu (oM mk Q.ch Q.kmax it b s) lc:=rfl
def Du(x:Operand):dJ Q f ⟨d,.entry x,g⟩ mk ⟨e,sz,lc⟩ s=(evc e x).bind λit=>fu (w9 mk it s) lc s:=rfl
def WS(t:TypeId)(m k:Operand):dJ Q f ⟨d,.mapEntry t m k,g⟩ mk ⟨e,sz,lc⟩ s=(evc e m).bind λm=>(evc e k).bind λk=>gu (si Q.P mk t m k s) lc:=rfl
def WQ(t:TypeId)(m h x:Operand):dJ Q f ⟨d,.entryStore t m h x,g⟩ mk ⟨e,sz,lc⟩ s=(evc e m).bind λm=>(evc e h).bind λh=>(evc e x).bind λx=>mH (vg mk m h x s) lc:=rfl
end
theorem JF(s:St)(m:Nat)(o:aH):(s.new o).get [] m=bif m==s.aL then X o else s.get [] m:=by
 grind [ll,St.new,dG,aB.get_set]
theorem Hd(s:St)(n:Nat)(o:sh)(h:s.gE<=s.aL):(s.put n o).gE<=(s.put n o).aL:=by
 show(bif aP s.gE n then s.gE else n)<=s.aL
 grind [bG]
variable{lo:Nat}
section
variable{α:Type}[DecidableEq α]{enc:α->aa}
def gw(K:List α)(f:α->aa):List (α×aa):=K.map λk=>(k,f k)
def lX{β:Type}(f:α->β)(k:α)(v:β):α->β:=λx=>if x=k then v else f x
def fe(k:α)(K:List α):List α:=if k∈K then K else K++[k]
theorem sH{β:Type}(f:α->β)(k:α)(v:β):lX f k v k=v:=by simp[lX]
theorem lj{β:Type}(f:α->β){k x:α}(v:β)(h:x≠k):lX f k v x=f x:=by simp[lX,h]
theorem sj{k x:α}{K:List α}:x∈fe k K↔x=k\/x∈K:=by
 grind [fe]
theorem zh{k:α}{K:List α}(h:K.Nodup):(fe k K).Nodup:=by
 grind [fe]
theorem agL(k:α)(K:List α):J K<=(fe k K).length/\(fe k K).length<=J K+1:=by
 grind [fe]
omit [DecidableEq α]in
def uy(K:List α)(f:α->aa):(gw K f).length=J K:=List.length_map ..
def DS(k:α)(f:α->aa):∀K:List α,bR k (gw K f)=if k∈K then X (f k)else Z
 |[]=>rfl
 |a::K=>by
  show(if k=a then X (f a)else bR k (gw K f))=_;by_cases h:k=a;subst h;simp;rw[iN h,DS k f K];simp[h]
omit [DecidableEq α]in
theorem Mn{K:List α}{f g:α->aa}(h:∀k∈K,f k=g k):gw K f=gw K g:=List.map_congr_left λk hk=>by rw[h k hk]
theorem DD{k:α}{v:aa}(f:α->aa):∀{K:List α},K.Nodup->dp k v (gw K f)=gw (fe k K) (lX f k v)
 |[],_=>by simp[gw,dp,fe,lX]
 |a::K,nd=>by
  have j:=Fe.1 nd;show dp k v ((a,f a)::gw K f)=_;by_cases h:k=a;subst h;have q:k∈k::K:=gz;simp only[dp,if_true,fe,iP q];show _=(k,lX f k v k)::gw K (lX f k v)
  grind [Mn,lX]
  have u:=DD (k:=k) (v:=v) f j.2
  grind [fe,dp,gw,lj]
variable{β:Type}{encE:β->aa}
structure sZ (enc:α->aa) (encE:β->aa) (s:St) (m lo:Nat) (K:List α) (V:α->List β) (T:α->Nat):Prop where
 hm:bf enc s m (gw K λk=>.list 1 ((V k).map encE) (.own (T k)))
 nd:K.Nodup
 tok:∀k∈K,s.get [] (T k)=some .tok/\lo<=T k/\T k<s.aL
 inj:∀k∈K,∀k'∈K,T k=T k'->k=k'
 out:∀k,k ∉ K->V k=[]
 mlt:m<lo
 los:lo<=s.aL
omit [DecidableEq α]in
def sZ.mono{s':St}{K:List α}{V:α->List β}{T:α->Nat}(h:sZ enc encE s m lo K V T)(q:s'.get [] m=s.get [] m)(j:∀k∈K,s'.get [] (T k)=s.get [] (T k))(u:s.aL<=s'.aL):sZ enc encE s' m lo K V T:=
 ⟨q.trans h.hm,h.nd,λk hk=>⟨(j k hk).trans (h.tok k hk).1,(h.tok k hk).2.1,by have:=(h.tok k hk).2.2;omega⟩,h.inj,h.out,h.mlt,by have:=h.los;omega⟩
section
variable{P:Program}{kt t e:TypeId}(hK:wQ P kt enc)(hk:∀k:α,j0 P t (enc k)=some (kt,e))(hz:dC P e=some .Ge)
include hK hk hz
theorem sZ.look{K:List α}{V:α->List β}{T:α->Nat}(h:sZ enc encE s m lo K V T)(k:α):∃v,mB P [] t (.map m) (enc k) I s=X v/\au 1 encE v (V k):=by
 have j:=r9 hK hk hz h.hm k;rw[DS]at j;by_cases hm:k∈K;rw[iP hm]at j;exact⟨_,j,.inr ⟨_,rfl⟩⟩;rw[iN hm]at j;exact⟨_,j,.inl ⟨rfl,h.out k hm⟩⟩
theorem sZ.app{ts:TypeId}{E:EI}(hE:js P ts=X E)(hn:E.n=1)(hb:∀n,n<=1000000->eB n E.b=O){K:List α}{V:α->List β}{T:α->Nat}(h:sZ enc encE s m lo K V T)(k:α)(x:β)(b2:(V k).length<1000000)(a3:s.gE<=s.aL):
 ∃(v0:aa)(p:Nat)(s1:St)(ov:aa)(s2 s3:St),si P [] t (.map m) (enc k) s=X (.tup [v0,.int .i64 (p:Nat)],s1)/\v0.gt=O/\cJ P [] ts v0 (.list 1 [encE x] .GT) I s1=X (ov,s2)/\ov.gt=O/\vg [] (.map m) (.int .i64 (p:Nat)) ov s2=X s3/\
  sZ enc encE s3 m lo (fe k K) (lX V k (V k++[x])) (lX T k s.aL)/\(∀n,n<lo->n≠m->s3.get [] n=s.get [] n)/\s3.aL=s.aL+1/\s3.ci=s.ci/\s3.gE<=s3.aL:=by
 have w:=akW hK hk hz h.hm k;have hr:eB ((V k).length+1) E.b=O:=hb _ w_;have a5:=h.mlt;have a6:=h.los;have a4:m≠s.aL:=w_
 rw[DS]at w;by_cases hmem:k∈K;rw[iP hmem]at w;have a0:dp k (.list 1 ((V k).map encE) (.own (T k))) (gw K λk=>.list 1 ((V k).map encE) (.own (T k)))=gw K λk=>.list 1 ((V k).map encE) (.own (T k)):=XV (by rw[DS,iP hmem]);simp only[yQ,a0]at w;obtain⟨t1,t2,t3⟩:=h.tok k hmem;have a7:T k≠m:=w_
 have G:fe k K=K:=by unfold fe;rw[iP hmem]
 generalize hp:jr k (gw K λk=>aa.list 1 ((V k).map encE) (.own (T k)))=p at w;have b1:(s.put m (X (.map (cX enc 0 (gw K λk=>.list 1 ((V k).map encE) (.own (T k)))) (gw K λk=>aa.list 1 ((V k).map encE) (.own (T k))).length))).get [] (T k)=X .tok:=by rw[oE,bN.2 a7];exact t1
 generalize hs1:s.put m (X (.map (cX enc 0 (gw K λk=>.list 1 ((V k).map encE) (.own (T k)))) (gw K λk=>aa.list 1 ((V k).map encE) (.own (T k))).length))=s1 at w b1;have n1:s1.aL=s.aL:=by rw[<-hs1];rfl
 have g1:∀n,n≠m->s1.get [] n=s.get [] n:=λn a1=>by grind [oE]
 have m1:bf enc s1 m (gw K λk=>.list 1 ((V k).map encE) (.own (T k))):=by rw[<-hs1];exact bf.put
 have w1:s1.gE<=s1.aL:=by rw[<-hs1];exact Hd _ _ _ a3
 have g2:∀n,((s1.put (T k) Z).new .tok).get [] n=bif n==s.aL then X .tok else bif n==T k then Z else s1.get [] n:=λn=>by rw[JF,oE];show(bif n==s1.aL then _ else _)=_;rw[n1]
 have m2:bf enc ((s1.put (T k) Z).new .tok) m (gw K λk=>.list 1 ((V k).map encE) (.own (T k))):=by
  show ll _ [] m=_;rw[g2,bN.2 a4,bN.2 a7.symm];exact m1
 have H:=We (v:=.list 1 ((V k++[x]).map encE) (.own s.aL)) m2 (k:=k) (u:=.list 1 ((V k).map encE) (.own (T k))) (by rw[DS,iP hmem]);rw[hp,DD _ h.nd,G]at H;refine⟨_,p,s1,.list 1 ((V k++[x]).map encE) (.own s.aL),(s1.put (T k) Z).new .tok,_,w,rfl,?_,rfl,H,⟨?_,by rw[G];exact h.nd,λj D=>?_,λj D Y S e=>?_,λj D=>?_,a5,?_⟩,λn hn a1=>?_,by show s1.aL+1=_;rw[n1],?_,?_⟩
 grind [cJ,cU,cd,fy]
 grind [lX,Mn,bf.put]
 rw[G]at D;by_cases q:j=k;subst q;rw[sH];refine⟨?_,a6,?_⟩
 grind [oE]
 show s.aL<s1.aL+1;omega;obtain⟨u1,u2,u3⟩:=h.tok j D;rw[lj _ _ q];have e1:T j≠m:=w_
 have e2:T j≠s.aL:=w_
 have e3:T j≠T k:=λe=>q (h.inj j D k hmem e);refine⟨?_,u2,?_⟩
 grind [oE]
 show T j<s1.aL+1;omega;rw[G]at D S;by_cases q:j=k<;>by_cases B:Y=k;rw[q,B];subst q;rw[sH,lj _ _ B]at e
 have:=(h.tok Y S).2.2;omega;subst B;rw[sH,lj _ _ q]at e
 have:=(h.tok j D).2.2;omega;rw[lj _ _ q,lj _ _ B]at e;exact h.inj j D Y S e;rw[G]at D;have q:j≠k:=λe=>D (e▸hmem);rw[lj _ _ q];exact h.out j D;show lo<=s1.aL+1;omega
 grind [oE]
 show s1.ci=_;rw[<-hs1];rfl;refine Hd _ _ _ ?_;exact co (Hd _ _ _ w1);rw[iN hmem]at w;have hV:=h.out k hmem;have G:fe k K=K++[k]:=by unfold fe;rw[iN hmem]
 simp only[Option.getD_none]at w;rw[DD _ h.nd]at w;generalize hp:jr k (gw K λk=>aa.list 1 ((V k).map encE) (.own (T k)))=p at w;generalize hF:lX (λk=>aa.list 1 ((V k).map encE) (.own (T k))) k .Ge=F at w;generalize hs1:s.put m (X (.map (cX enc 0 (gw (fe k K) F)) (gw (fe k K) F).length))=s1 at w;have n1:s1.aL=s.aL:=by rw[<-hs1];rfl
 have g1:∀n,n≠m->s1.get [] n=s.get [] n:=λn a1=>by grind [oE]
 have m1:bf enc s1 m (gw (fe k K) F):=by rw[<-hs1];exact bf.put
 have w1:s1.gE<=s1.aL:=by rw[<-hs1];exact Hd _ _ _ a3
 have g2:∀n,(s1.new .tok).get [] n=bif n==s.aL then X .tok else s1.get [] n:=λn=>by rw[JF,n1]
 have m2:bf enc (s1.new .tok) m (gw (fe k K) F):=by
  show ll _ [] m=_;rw[g2,bN.2 a4];exact m1
 have a8:jr k (gw (fe k K) F)=p:=by
  rw[<-hp,<-hF,<-DD _ h.nd,adt]
 have H:=We (v:=.list 1 ([x].map encE) (.own s.aL)) m2 (k:=k) (u:=F k) (by rw[DS,iP (sj.2 (.inl rfl))]);rw[a8,DD _ (zh h.nd)]at H;have a2:fe k (fe k K)=fe k K:=by
  have:k∈fe k K:=sj.2 (.inl rfl);generalize fe k K=A at this⊢;unfold fe;rw[iP this]
 rw[a2]at H;refine⟨.Ge,p,s1,.list 1 ([x].map encE) (.own s.aL),s1.new .tok,_,w,rfl,?_,rfl,H,⟨?_,zh h.nd,λj D=>?_,λj D Y S e=>?_,λj D=>?_,a5,?_⟩,λn hn a1=>?_,by show s1.aL+1=_;rw[n1],?_,?_⟩
 grind [eB,cJ,cU,cd,fy,iB]
 have:gw (fe k K) (lX F k (.list 1 ([x].map encE) (.own s.aL)))=gw (fe k K) λj=>.list 1 ((lX V k (V k++[x]) j).map encE) (.own (lX T k s.aL j)):=Mn λj _=>by
  by_cases q:j=k
  grind [sH]
  rw[<-hF];simp only[lj _ _ q]
 rw[this];exact bf.put;rcases sj.1 D with rfl|D
 rw[sH];refine⟨?_,a6,?_⟩
 grind [oE]
 show s.aL<s1.aL+1;omega;obtain⟨u1,u2,u3⟩:=h.tok j D;have q:j≠k:=λe=>hmem (e▸D);rw[lj _ _ q];have e1:T j≠m:=w_
 have e2:T j≠s.aL:=w_
 refine⟨?_,u2,?_⟩
 grind [oE]
 show T j<s1.aL+1;omega;rcases sj.1 D with q|qj<;>rcases sj.1 S with B|U
 rw[q,B];have M:Y≠k:=λe=>hmem (e▸U);rw[q,sH,lj _ _ M]at e
 have:=(h.tok Y U).2.2;omega;have M:j≠k:=λe=>hmem (e▸qj);rw[B,sH,lj _ _ M]at e
 have:=(h.tok j qj).2.2;omega;have M:j≠k:=λe=>hmem (e▸qj);have a9:Y≠k:=λe=>hmem (e▸U);rw[lj _ _ M,lj _ _ a9]at e;exact h.inj j qj Y U e;have b0:j≠k:=λe=>D (sj.2 (.inl e));rw[lj _ _ b0];exact h.out j λhm=>D (sj.2 (.inr hm));show lo<=s1.aL+1;omega
 grind [oE]
 show s1.ci=_;rw[<-hs1];rfl;exact Hd _ _ _ (co w1)
end
end
def I6(n o:Nat):(aa.ptr n o).cells=[.ptr n o]:=rfl
def FG(f:Fn)(a b:az):(aa.func f a b).cells=[.func f a b]:=rfl
def aGs(a:Operand):gX (.nilCheck a)=3:=rfl
def aoc(h:vx)(d:ir)(e:ax)(a:Operand):bK h d e (.nilCheck a)=qB e a:=rfl
attribute[go_sem]isStore vk qO aFP aFO aFN aFM aFQ fA oD iG iK awx azV azF azX azE azH azI azJ azR azY azG azZ azN azO azP azQ ado azS adp azU azT azW azM azK azL ey ala alb ald alf ale ayd aye ayf ah9 ah8 av5 Rr az9 az8 az7 nP aBL aBK aBJ ahN ahM ahL U5 ahK ahO ahJ ahP ail ain aim aif aik aih aij aFi ahU ahT ahS aox mo NP aiQ aiO Vj aDH Option.bind_some Option.bind_none ajk ajm Vw aji ajn ajs ajr NZ ajq ajp ajo ajl cond_true cond_false List.length_cons List.length_nil cut gR List.head?_cons List.drop_succ_cons List.drop_zero List.take_succ_cons List.take_zero List.nil_append List.cons_append List.append_nil JL Bool.not_true Bool.not_false beq_self_eq_true Nat.beq_eq_true_eq and_true true_and Nat.zero_add Nat.add_zero Bool.true_and Bool.and_true Bool.false_and Bool.and_false Bool.not_not cd qL ach decide_true decide_false axA axC axB ahX ahW ahY or_true true_or false_or iZ aEC eq_self Bool.true_or Bool.false_or Bool.or_true Bool.or_false jm SB az0 az1 az2 az3 Option.map_some Option.some.injEq ofValue Hm ayk ayj aym ayl ant axJ agX awo awp aED Nat.le_refl an7 aof an3 an5 aob anU anX anZ anV aog an2 anS anW an0 anT anx anN anu anK anw anM kE Bool.or_self Bool.and_self z8 Dk List.getElem?_cons_zero List.getElem?_cons_succ afM afI afF afL afD afC afK afH afE afG afJ ake akd agu ags agt agv aq3 aq2 akz aky aiE aiF aiB aiA aDB aDA nK DV agG agF agJ agH agI aFW aFV akB akA aiC aiD aiz aiy anR anP anQ aDC aDF aDE aGn aGv aGa aGe aGj aGl aGk aGr aGc aGt aGf aGg aGd aGw aGi aGu aGo aGb aGm aGq aGp j6 an8 aod an4 aoh aoa an9 an6 aoe anO anv anL anI anJ awq axY aGx axy aAv axx aAt ahG avH I6 FG aGs aoc anA anH anz anE anF anC anG anB
section
variable(P:Program)
def Wp(t f:Nat):pX:=(P.underlying t).bind fun
 |.struct fields=>(fields[f]?).bind λh=>(cS P h.type).bind λn=>bif aA n 0 then Z else X h.offset
 |_=>Z
abbrev bj(t f k:Nat):Prop:=∀lc:Loc,(∀l g o,tu P lc t (.Gt l g o) f=bif aA (lc.gen l) g then X (.Gt l g (o+k))else Z)/\(∀cs,tu P lc t (.ro cs) f=X (.ro (cs.drop k)))/\∀m o,tu P lc t (.ptr m o) f=X (.ptr m (o+k))
abbrev eE(t n b:Nat)(g:Bool)(z:aa):Prop:=js P t=X ⟨n,b,g,z⟩/\lM P t=O/\(∀lc m xs r i,gm P lc t (.list m xs r) i=(dP i).bind λi=>bif aA m n&&bq i (J xs)then X (.ro (m8 xs i).cells)else Z)/\(∀lc a m o l c i,gm P lc t (.arr a m o l c) i=(dP i).bind λi=>bif aA a n&&bq i l then X (.ptr m (o+i*n))else Z)/\(∀mk s,fN P mk t .Ge s=X (.int .i64 (0:Nat)))/\∀mk n xs r s,fN P mk t (.list n xs r) s=X (.int .i64 (xs:az).length)
abbrev dZ(t:Nat):Prop:=∀cs off,gQ P t cs off=(cs.drop off).head?
abbrev eH(t n:Nat):Prop:=∀cs off,gQ P t cs off=(cut cs off n).bind λr=>X (.agg r)
abbrev eX(t:Nat)(l:S0):Prop:=∀ps e,tg P t ps e=(dC P t).bind λz=>(dL (λi=>l[i]?) e z.cells ps).bind λc=>X (.agg c)
abbrev ri(t n:Nat):Prop:=∀ps e,tg P t ps e=(dC P t).bind λz=>(dL (λi=>X (i*n,n)) e z.cells ps).bind λc=>X (.agg c)
def U0(t:Nat):Option S0:=(P.underlying t).bind fun
 |.struct fields=>Em P fields.toList
 |_=>Z
def back(t:Nat):pX:=(P.underlying t).bind fun
 |.array _ e=>cS P e
 |_=>Z
end
variable{P:Program}{t f k n b:Nat}{g:Bool}{z:aa}
def bj.of(h:Wp P t f=X k:=by kernel_rfl):bj P t f k:=by
 intro lc;unfold Wp at h;unfold tu;cases e:P.underlying t with
 |none=>rw[e]at h;cases h
 |some d=>
  rw[e]at h;cases d<;>try (cases h;done)
  rename_i j;simp only[aG]at h⊢;cases e1:j[f]? with
  |none=>rw[e1]at h;cases h
  |some q=>
   rw[e1]at h;simp only[aG]at h⊢;cases e2:cS P q.type with
   |none=>rw[e2]at h;cases h
   |some m=>
    rw[e2]at h;simp only[aG]at h⊢;cases e3:aA m 0 with
    |true=>rw[e3]at h;cases h
    |false=>
     rw[e3]at h;simp only[cF,aQ]at h⊢;subst h;exact⟨λ_ _ _=>rfl,λ_=>rfl,λ_ _=>rfl⟩
def eE.of(h:js P t=X ⟨n,b,g,z⟩:=by kernel_rfl):eE P t n b g z:=by
 refine⟨h,?_⟩;unfold js at h;cases e:P.underlying t with
 |none=>rw[e]at h;cases h
 |some d=>
  rw[e]at h;cases d<;>try (cases h;done)
  rename_i w;simp only[aG,w8]at h;cases e1:cS P w with
  |none=>rw[e1]at h;cases h
  |some m=>
   rw[e1]at h;have q:m=n:=by
    simp only[aG,ak]at h;obtain⟨A,_,u,_,j,_,h⟩:=h;cases hc:(bq 0 m&&aA (J j.cells) m&&(u||aA m 1)&&bq 0 A)with
    |false=>rw[hc]at h;cases h
    |true=>rw[hc]at h;injection h with h;injection h
   subst q;refine⟨by unfold lM;rw[e],λlc a xs r i=>?_,λlc a B o l c i=>?_,λmk s=>?_,λmk a xs r s=>?_⟩
   all_goals simp only[gm,fN,e,aG,e1]
   rfl
def dZ.of(h:BA P t=X I:=by kernel_rfl):dZ P t:=λcs j=>by
 unfold gQ;rw[h];simp only[aG,cF];cases cs.drop j<;>rfl
def eH.of(h:BA P t=X O:=by kernel_rfl)(q:cS P t=X n:=by kernel_rfl):eH P t n:=λcs j=>by
 unfold gQ;rw[h,q];rfl
def eX.of{l:S0}(h:U0 P t=X l:=by kernel_rfl):eX P t l:=λps e=>by
 unfold U0 at h;unfold tg;cases e1:P.underlying t with
 |none=>rw[e1]at h;cases h
 |some d=>
  rw[e1]at h;cases d<;>try (cases h;done)
  simp only[aG]at h⊢;rw[h];rfl
def ri.of(h:back P t=X n:=by kernel_rfl):ri P t n:=λps e=>by
 unfold back at h;unfold tg;cases e1:P.underlying t with
 |none=>rw[e1]at h;cases h
 |some d=>
  rw[e1]at h;cases d<;>try (cases h;done)
  simp only[aG]at h⊢;rw[h];rfl
def au.lenS{enc:α->aa}{v:aa}{l:List α}(h:au n enc v l)(F:eE P t m b g z)(mk:aI)(s:St):fN P mk t v s=X (.int .i64 (J l:Nat)):=h.len F.2.2.2.2.1 F.2.2.2.2.2 mk s
def cw(a:α):∃x,a=x:=⟨a,rfl⟩
variable{K:hP}{a:SC}
