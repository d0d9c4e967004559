/- Lemmas for ValidApart. -/
import Derived.Test.YtnnppcoplinajaaGreatAg1
import Derived.Orders
import Derived.Scope
import Derived.LoopN
import Derived.OrdersIn
import Derived.LoopNIn
import Derived.RangeFuncRecord
set_option linter.all false
open Array renaming ext'→qp,getD_eq_getD_getElem?→ur,getElem?_eq_getElem→sw,getElem?_replicate→QZ,getElem?_setIfInBounds→Q0
open Bool renaming and_eq_true→bu,false_eq_true→K4
open Classical renaming byContradiction→sB
open List renaming all_eq_true→f8,getElem?_of_mem→we,getElem?_toArray→azl,map_cons→fy,size_toArray→ay8
open List.cons renaming injEq→mH
open Go.Ag.bO renaming none→wh
open Nat renaming beq→aQ,ble→bw,blt→bm,le_max_left→uE,le_max_right→sE,le_of_lt→zV,le_refl→br,le_succ→jQ,le_trans→fA,lt_of_lt_of_le→hJ,lt_or_ge→nZ,zero_add→bV,zero_le→ki
open Option renaming bind_eq_some_iff→ak,bind_some→au,getD_some→wt
open Option.some renaming injEq→aJ
open Prod.mk renaming injEq→bI
open Go.Result renaming andThen_ok→mL
namespace Go.Ag
section
variable{mk:aK}{α β γ δ:Type}
def cV.none:cV (α:=α) mk (fun _ _=>.none):=by intro ch s v s' h;cases h
def cV.opt(x:Option β){k:β->(Nat->Nat)->St->Option (α×St)}(p: ∀b,x=some b->cV mk (k b)):cV mk (fun ch s=>x.bind fun b=>k b ch s):=by
 cases x with
 |none=>intro ch s v s' h;cases h
 |some b=>exact p b rfl
def cV.ret(a:α):cV mk (fun _ s=>some (a,s)):=by
 intro ch s v s' h;simp only[aJ,bI] at h;obtain⟨rfl,rfl⟩:=h;exact⟨.refl mk _,fun p s2 _ x=>⟨s2,rfl,.refl x⟩⟩
def bO.ret(a:α)(b:β):bO mk (fun _ s=>some (a,b,s)):=by
 intro ch s v l s' h;simp only[aJ,bI] at h;obtain⟨rfl,rfl,rfl⟩:=h;exact⟨.refl mk _,fun p s2 _ x=>⟨s2,rfl,.refl x⟩⟩
theorem cV.then3{x:(Nat->Nat)->St->Option (α×St)}{k:α->(Nat->Nat)->St->Option (β×γ×St)}(J:cV mk x)(O: ∀a,bO mk (k a)):bO mk (fun ch s=>(x ch s).bind fun r=>k r.1 ch r.2):=by
 intro ch s v l s' h;simp only[ak] at h;obtain⟨⟨a,s1⟩,h1,R⟩:=h;obtain⟨z,T⟩:=J ch s a s1 h1;obtain⟨q,e2⟩:=O a ch s1 v l s' R;refine⟨z.trans q,fun p s2 E y=>?_⟩;obtain⟨s2',V,C⟩:=T p s2 (fun i hi=>E i (hJ hi q.ci)) y;obtain⟨s2'',U,I⟩:=e2 p s2' E (C.sees y z);exact⟨s2'',by grind,C.trans z q I⟩
theorem bO.then1{x:(Nat->Nat)->St->Option (α×β×St)}{k:α->β->(Nat->Nat)->St->Option (γ×St)}(J:bO mk x)(O: ∀a b,cV mk (k a b)):cV mk (fun ch s=>(x ch s).bind fun r=>k r.1 r.2.1 ch r.2.2):=by
 intro ch s v s' h;simp only[ak] at h;obtain⟨⟨a,b,s1⟩,h1,R⟩:=h;obtain⟨z,T⟩:=J ch s a b s1 h1;obtain⟨q,e2⟩:=O a b ch s1 v s' R;refine⟨z.trans q,fun p s2 E y=>?_⟩;obtain⟨s2',V,C⟩:=T p s2 (fun i hi=>E i (hJ hi q.ci)) y;obtain⟨s2'',U,I⟩:=e2 p s2' E (C.sees y z);exact⟨s2'',by grind,C.trans z q I⟩
theorem bO.then3{x:(Nat->Nat)->St->Option (α×β×St)}{k:α->β->(Nat->Nat)->St->Option (γ×δ×St)}(J:bO mk x)(O: ∀a b,bO mk (k a b)):bO mk (fun ch s=>(x ch s).bind fun r=>k r.1 r.2.1 ch r.2.2):=by
 intro ch s v l s' h;simp only[ak] at h;obtain⟨⟨a,b,s1⟩,h1,R⟩:=h;obtain⟨z,T⟩:=J ch s a b s1 h1;obtain⟨q,e2⟩:=O a b ch s1 v l s' R;refine⟨z.trans q,fun p s2 E y=>?_⟩;obtain⟨s2',V,C⟩:=T p s2 (fun i hi=>E i (hJ hi q.ci)) y;obtain⟨s2'',U,I⟩:=e2 p s2' E (C.sees y z);exact⟨s2'',by grind,C.trans z q I⟩
end
variable{α β:Type}{mk:aK}
theorem bO.weaken{p:aK}(Z: ∀n,eh mk n=true->eh p n=true){x:(Nat->Nat)->St->Option (α×β×St)}(T:bO p x):bO mk x:=by
 have E: ∀n,eh p n=false->eh mk n=false:=fun n h=>by
  grind
 have I: ∀ {s s':St} {n:Nat},nD p s s' n->nD mk s s' n:=fun t=>t.imp (fun t=>⟨E _ t.1,t.2⟩) id;intro ch s a b s' h;obtain⟨g,e⟩:=T ch s a b s' h;refine⟨⟨g.aL,g.ci,g.gt,fun n h=>g.frame n (fun t=>h (I t)),g.noted⟩,fun C s2 Y y=>?_⟩;obtain⟨s2',R,z⟩:=e C s2 Y ⟨y.aL,y.gt,y.ci,fun n o V U=>y.get n o (E n V) U⟩;refine⟨s2',R,⟨z.aL,z.gt,z.ci,fun n t=>?_,fun n t=>z.outside n (fun q=>t (I q))⟩⟩;by_cases q:nD p s s' n;exact z.inside n q;rw[z.outside n q,g.frame n q];rcases t with⟨O,J⟩|t
 cases h:s.heap.get n with
 |none=>exact absurd h J
 |some o=>exact y.get n o O h
 exact absurd (.inr t) q
variable{rs:List fZ}{bi n:Nat}
theorem U6(h:eh mk n=true):eh (jp bi rs mk) n=true:=by
 induction rs with
 |nil=>exact h
 |cons r rs p=>
  grind [jp,eh]
def aH.at(Q:aH)(ch:Nat->Nat):aH:= {Q with ch:=ch }
theorem Gs{mk:aK}{s s2:St}(y:jj mk s s2): ∀(x:Rd) (v:aa),gm (s.get mk) x=some v->gm (s2.get mk) x=some v
 | .ret _,_,h=>h
 | .ask n k,v,h=>by
   simp only[gm,ak] at h ⊢;obtain⟨o,h1,p⟩:=h;exact⟨o,y.look h1,Gs y (k o) v p⟩
theorem ama(mk:aK)(x:Rd):cV mk (fun _ s=>(gm (s.get mk) x).bind fun v=>some (v,s)):=by
 intro ch s v s' h;simp only[ak,aJ,bI] at h;obtain⟨u,h1,rfl,rfl⟩:=h;exact⟨.refl mk _,fun p s2 _ y=>⟨s2,by grind [Gs],.refl y⟩⟩
structure Lh (r:(Nat->Nat)->oU):Prop where
 ops: ∀f all mk l fr,cV mk (fun ch s=>(r ch).ops f all mk l fr s)
 draw: ∀f all bs mk rs i l fr,cV mk (fun ch s=>(r ch).draw f all bs mk rs i l fr s)
 code: ∀f c mk fr,bO mk (fun ch s=>(r ch).code f c mk fr s)
 call: ∀f args mk,cV mk (fun ch s=>(r ch).call f args mk s)
def al4{k:aR->(Nat->Nat)->St->Option (α×aR×St)}(J: ∀o,bO mk (k o)):
 cV mk (fun ch s=>(s.get mk n).bind fun o=>(k o ch (s.put n none)).bind fun x=>some (x.1,x.2.2.put n (some x.2.1))):=by
 intro ch s v s' h;simp only[ak,aJ,bI] at h;obtain⟨o,h1,⟨u,p,C⟩,R,rfl,rfl⟩:=h;obtain⟨g,e⟩:=J o ch (s.put n none) u p C R;refine⟨g.hide h1 p,fun z s2 O y=>?_⟩;obtain⟨q,I,E⟩:=e z (s2.put n none) O ((ib.put y h1 none).sees y (gr.put h1 none));exact⟨q.put n (some p),by simp only[y.look h1,au,I],E.hide y h1 p⟩
section
variable{Q:aH}{r:(Nat->Nat)->oU}(hr:Lh r)
include hr
theorem amh(n:Nat)(args:List aa)(mk:aK):cV mk (fun ch s=>nq (r ch) n args mk s):=by
 unfold nq;refine al4 fun o=>?_;unfold Bv;split;rename_i f env p q a b;cases q.all (fun t=>bm t p);exact wh;simp only[cT];refine bO.bind _ fun y _=>?_;refine bO.then3 (k:=fun x fr ch s=>zL (r ch) f env p q a b mk (x,fr,s)) (hr.code f a mk _) fun x fr=>?_;cases x with
 |normal=>
  refine bO.then3 (k:=fun x fr _ s=>Bu f env p q a b (x,fr,s)) (hr.code f b mk _) fun x fr=>?_;cases x<;>exact bO.ret _ _
 |exit i=>exact wh
 |ret=>exact wh
 exact wh
theorem FB(f:FuncId)(o:Oper)(mk:aK)(fr:Fr):bO mk (fun ch s=>fS (Q.at ch) (r ch) f o mk fr s):=by
 unfold fS;split;split;exact Xs _ _ _ _;rename_i c _ _ _;cases pj fr.env c;unfold pN;exact bO.bind _ fun g _=>cV.then3 (hr.call g.1 g.2 mk) fun v=>bO.ret v fr.loc;unfold su;exact bO.bind _ fun g _=>cV.then3 (amh hr g.1 g.2 mk) fun v=>bO.ret v fr.loc;exact alT _ _ _ _ _
theorem al8(f:FuncId)(all:Array Oper)(mk:aK)(l:List Oper)(fr:Fr):cV mk (fun ch s=>m9 (Q.at ch) (r ch) f all mk l fr s):=by
 unfold m9;split;exact cV.ret fr;rename_i o p;cases fK all fr.env o;exact cV.opt _ fun fr' _=>hr.ops f all mk p fr';exact bO.then1 (FB hr f o mk fr) fun v l=>cV.opt (di fr o.dst v l) fun fr' _=>hr.ops f all mk p fr'
theorem al2(f:FuncId)(all:Array Oper)(bs:List Nat)(mk:aK)(rs:List fZ)(i:Nat)(l:List Oper)(fr:Fr):cV mk (fun ch s=>mQ (Q.at ch) (r ch) f all bs mk rs i l fr s):=by
 unfold mQ;split;exact cV.ret fr;rename_i o E;cases fK all fr.env o;exact cV.opt _ fun fr' _=>hr.draw f all bs.tail mk rs (i+1) E fr';intro ch s v s' h;simp only[cT,ak] at h;obtain⟨⟨u,l,s1⟩,h1,h⟩:=h;replace h:=bh h;obtain⟨hc,h⟩:=h;simp only[ak] at h;obtain⟨fr',V,h⟩:=h;have hl:=bO.weaken (fun n U=>U6 (bi:=bs.headD 0) (rs:=rs) U) (FB (Q:=Q) hr f o (jp (bs.headD 0) rs mk) fr);obtain⟨R,e1⟩:=hl ch ⟨s.heap,s.aL,s.aL,s.ci⟩ u l s1 h1;obtain⟨Z,e2⟩:=hr.draw _ _ _ _ _ _ _ _ ch (s.rX s1) v s' h;have J:(bif bw s.gt s1.gt then s.gt else s1.gt)<=s.gt/\(bif bw s.gt s1.gt then s.gt else s1.gt)<=s1.gt:=by
  cases e:bw s.gt s1.gt
  grind [tN]
  simp_all
 have z:gr mk s (s.rX s1):=⟨R.aL,R.ci,J.1,R.frame,fun n U T=>fA J.2 (R.noted n U T)⟩;refine⟨z.trans Z,fun C s2 O y=>?_⟩;obtain⟨p,q1,q⟩:=e1 C ⟨s2.heap,s2.aL,s2.aL,s2.ci⟩ (fun j hj=>O j (hJ hj Z.ci)) ⟨y.aL,y.aL,y.ci,y.get⟩;have I:ib mk s (s.rX s1) s2 (s2.rX p):=⟨q.aL,by show(bif bw s2.gt p.gt then s2.gt else p.gt)=(bif bw s.gt s1.gt then s.gt else s1.gt);rw[y.gt,q.gt],q.ci,q.inside,q.outside⟩;obtain⟨s2',q3,q4⟩:=e2 C (s2.rX p) O (I.sees y z);refine⟨s2',?_,I.trans z Z q4⟩;simp only[cT];rw[y.aL,y.ci] at q1 ⊢;simp only[q1,au,q.gt,q.ci,q.aL];have Y:(pS (bs.headD 0) (cu ((Q.at C).hint f) o.dst fr.env o.op) (s1.gt.blt s.aL||isStore o.op) rs&&s.ci.beq s1.ci)=true:=hc;rw[Y];simp only[cT];rw[V];exact q3
theorem al0(f:FuncId)(c:Code)(mk:aK)(fr:Fr):bO mk (fun ch s=>yx (Q.at ch) (r ch) f c mk fr s):=by
 have C: ∀(x:Ex) (fr:Fr) (b:Code),bO mk (fun ch s=>qd (r ch) f b mk (x,fr,s)):=by
  intro x fr b;cases x with
  |normal=>exact hr.code f b mk fr
  |exit i=>exact bO.ret _ _
  |ret=>exact bO.ret _ _
 cases c<;>simp only[yx]<;>first
  |exact wh
  |exact bO.ret _ _
  |exact bO.then3 (hr.code f _ mk fr) fun x fr=>C x fr _
  |exact hr.code f _ mk fr
  |skip
 ·
  rename_i id ops draw;unfold Kh;cases draw;exact cV.then3 (k:=fun fr _ s=>some (Ex.normal,fr,s)) (hr.ops f ops mk ops.toList fr) fun fr=>bO.ret _ _;simp only[cT];cases oa ops 0 ops.toList (Region.before ops).toList;exact wh;exact cV.then3 (k:=fun fr _ s=>some (Ex.normal,fr,s)) (hr.draw f ops _ mk [] 0 ops.toList fr) fun fr=>bO.ret _ _
 ·
  rename_i x a b;refine bO.bind _ fun v _=>?_;unfold Ca;split;exact hr.code f _ mk fr;exact hr.code f _ mk fr;exact wh
 ·
  rename_i id b;refine bO.then3 (k:=fun x fr _ s=>some (qz id (x,fr,s))) (hr.code f b mk fr) fun x fr=>?_;cases x with
  |normal=>exact bO.ret _ _
  |ret=>exact bO.ret _ _
  |exit i=>
   simp only[qz];cases aQ i id
   all_goals simp_all [bO.ret]
 ·
  rename_i g Y a b;refine bO.bind _ fun v _=>?_;unfold xC;split;rename_i h first z _
  show bO mk (fun ch s=>bif tz Q.P h&&(fr.env.all jY&&(dY a&&dY b)) then _ else none);cases tz Q.P h&&(fr.env.all jY&&(dY a&&dY b));exact wh;simp only[cT];intro ch s x fr' s' h';simp only[ak] at h';obtain⟨⟨v,s1⟩,h1,Z⟩:=h';simp only[Be,ak] at Z;obtain⟨o,R,q⟩:=Z;obtain⟨I,e1⟩:=hr.call h _ mk ch _ v s1 h1;have E:=gr.new mk s (.loop f fr.env fr.size Y.toList a b none);cases o with
  |loop f' a0 J a1 a' b' p=>
   simp only[aJ,bI] at q;obtain⟨rfl,rfl,rfl⟩:=q;have g2:=gr.put R (mk:=mk) none;refine⟨(E.trans I).trans g2,fun T s2 hc y=>?_⟩;have s0:=ib.new y (.loop f fr.env fr.size Y.toList a b none);obtain⟨O,q1,V⟩:=e1 T _ hc (s0.sees y E);have hn:s2.aL=s.aL:=y.aL;have U:=V.sees (s0.sees y E) I;refine⟨O.put s.aL none,?_,(s0.trans E I V).trans (E.trans I) g2 (.put U R none)⟩;simp only[hn,q1,au,Be,U.look R]
  |cells _=>cases q
  |tok=>cases q
  |map _ _=>cases q
  |iter _ _ _ _=>cases q
  |fix _=>cases q
  exact wh
omit hr in
theorem Xt(mk:aK)(fr:Fr)(l:List ResultVar):RO mk (fun s=>jt Q mk fr s l):=by
 intro s s2 b h hl
 induction l generalizing b with
 |nil=>exact h
 |cons x l y=>
  simp only[jt,ak] at h ⊢;obtain⟨v,q,vs,p,h⟩:=h;refine⟨v,?_,vs,y vs p,h⟩;cases x with
  |tmp t=>exact q
  |cell a t=>exact ZV t _ fr.loc s s2 v q hl
theorem alY(f:FuncId)(args:List aa)(mk:aK):cV mk (fun ch s=>jU (Q.at ch) (r ch) f args mk s):=by
 unfold jU;show cV mk (fun ch s=>match Q.spec f with
  |some sp=>(sp args).bind fun v=>some (v,s)
  |none=>match Q.specH f with
   |some sp=>(gm (s.get mk) (sp args)).bind fun v=>some (v,s)
   |none=>match(Q.specW f).bind fun sp=>sp args with
   |some p=>xz (Q.anew f) mk s p
   |none=>(Q.P.funcs[f]?).bind fun fn=>fn.body.bind fun c=>
    ((r ch).code f c mk ⟨gI 0 args,bif bw args.length fn.ntmps then fn.ntmps else args.length,[]⟩ s).bind (qD (Q.at ch) fn mk))
 cases Q.spec f with
 |some sp=>exact cV.pureOpt _
 |none=>
  cases Q.specH f with
  |some sp=>exact ama mk (sp args)
  |none=>
  cases (Q.specW f).bind fun sp=>sp args with
  |some p=>
   cases p with
   |none=>exact cV.ret _
   |some p=>
   refine cV.of_any (f:=fun s=>(s.get mk p.1).bind (Dl (Q.anew f) mk s p)) ?_;intro s a s' h;simp only[ak] at h;obtain⟨o,h1,h⟩:=h;cases o<;>simp only[Dl,ak,reduceCtorEq] at h;obtain⟨v,C,h⟩:=h;unfold Ea at h;split at h;simp only[aJ,bI] at h;obtain⟨rfl,rfl⟩:=h;exact .inr (.inr (.inl ⟨p.1,_,_,h1,rfl,fun s2 y=>by simp only[y.look h1,au,Dl,Gs y _ _ C,Ea]⟩));obtain⟨E,h⟩:=bh h;simp only[aJ,bI] at h;obtain⟨rfl,rfl⟩:=h;exact .inr (.inr (.inr ⟨p.1,_,none,_,h1,rfl,fun s2 y=>by simp only[y.look h1,au,Dl,Gs y _ _ C,Ea,E,cT,y.aL]⟩));cases h
  |none=>
  refine cV.opt _ fun fn _=>cV.opt _ fun c _=>?_;refine bO.then1 (k:=fun x fr ch s=>qD (Q.at ch) fn mk (x,fr,s)) (hr.code f c mk _) fun x fr=>?_;have fin:cV mk (fun(ch:Nat->Nat) s=>(jt (Q.at ch) mk fr s fn.results.toList).bind fun vs=>some (nT vs,s)):=by
   intro ch s v s' h;simp only[ak] at h;obtain⟨vs,q,h⟩:=h;simp only[aJ,bI] at h;obtain⟨rfl,rfl⟩:=h;refine⟨.refl mk _,fun z s2 _ y=>⟨s2,?_,.refl y⟩⟩
   have:=Xt (Q:=Q.at ch) mk fr fn.results.toList s s2 vs q (fun n o J=>y.look J);have:jt (Q.at z) mk fr s2 fn.results.toList=some vs:=by
    rw[<-this];clear q this;generalize fn.results.toList=l
    induction l with
    |nil=>rfl
    |cons x l I=>simp only[jt,I];cases x<;>rfl
   simp[this]
  cases x with
  |normal=>exact fin
  |ret=>exact fin
  |exit i=>exact cV.none
end
def mt(Q:aH): ∀n:Nat,Lh (fun ch=>cy (Q.at ch) n)
 |0=>⟨fun _ _ _ _ _=>cV.none,fun _ _ _ _ _ _ _ _=>cV.none,fun _ _ _ _=>wh,fun _ _ _=>cV.none⟩
 |n+1=>⟨fun f all mk l fr=>al8 (mt Q n) f all mk l fr,fun f all bs mk rs i l fr=>al2 (mt Q n) f all bs mk rs i l fr,
  fun f c mk fr=>al0 (mt Q n) f c mk fr,fun f args mk=>alY (mt Q n) f args mk⟩
def gQ{α:Type}(x:(Nat->Nat)->St->Option (α×St)):Prop:=
 ∀ch s a s',x ch s=some (a,s')-> ∀p,(∀i,i<s'.ci->p i=ch i)->x p s=some (a,s')
def f9{α β:Type}(x:(Nat->Nat)->St->Option (α×β×St)):Prop:=
 ∀ch s a b s',x ch s=some (a,b,s')-> ∀p,(∀i,i<s'.ci->p i=ch i)->x p s=some (a,b,s')
def gQ.const(f:St->Option (α×St)):gQ (fun _ s=>f s):=fun _ _ _ _ h _ _=>h
def f9.const(f:St->Option (α×β×St)):f9 (fun _ s=>f s):=fun _ _ _ _ _ h _ _=>h
section
variable{mk:aK}{α β γ δ:Type}
def gQ.opt(x:Option β){k:β->(Nat->Nat)->St->Option (α×St)}(p: ∀b,x=some b->gQ (k b)):gQ (fun ch s=>x.bind fun b=>k b ch s):=by
 cases x with
 |none=>intro ch s v s' h;cases h
 |some b=>exact p b rfl
def f9.opt(x:Option β){k:β->(Nat->Nat)->St->Option (α×γ×St)}(p: ∀b,x=some b->f9 (k b)):f9 (fun ch s=>x.bind fun b=>k b ch s):=by
 cases x with
 |none=>intro ch s v l s' h;cases h
 |some b=>exact p b rfl
def gQ.then3{x:(Nat->Nat)->St->Option (α×St)}{k:α->(Nat->Nat)->St->Option (β×γ×St)}(z:gQ x)(C: ∀a,f9 (k a))(E: ∀a,bO mk (k a)):f9 (fun ch s=>(x ch s).bind fun r=>k r.1 ch r.2):=by
 intro ch s v l s' h p q;simp only[ak] at h ⊢;obtain⟨⟨a,s1⟩,h1,y⟩:=h;exact⟨(a,s1),z ch s a s1 h1 p (fun i hi=>q i (hJ hi ((E a ch s1 v l s' y).1.ci))),C a ch s1 v l s' y p q⟩
def f9.then1{x:(Nat->Nat)->St->Option (α×β×St)}{k:α->β->(Nat->Nat)->St->Option (γ×St)}(z:f9 x)(C: ∀a b,gQ (k a b))(E: ∀a b,cV mk (k a b)):gQ (fun ch s=>(x ch s).bind fun r=>k r.1 r.2.1 ch r.2.2):=by
 intro ch s v s' h p q;simp only[ak] at h ⊢;obtain⟨⟨a,b,s1⟩,h1,y⟩:=h;exact⟨(a,b,s1),z ch s a b s1 h1 p (fun i hi=>q i (hJ hi ((E a b ch s1 v s' y).1.ci))),C a b ch s1 v s' y p q⟩
def f9.then3{x:(Nat->Nat)->St->Option (α×β×St)}{k:α->β->(Nat->Nat)->St->Option (γ×δ×St)}(z:f9 x)(C: ∀a b,f9 (k a b))(E: ∀a b,bO mk (k a b)):f9 (fun ch s=>(x ch s).bind fun r=>k r.1 r.2.1 ch r.2.2):=by
 intro ch s v l s' h p q;simp only[ak] at h ⊢;obtain⟨⟨a,b,s1⟩,h1,y⟩:=h;exact⟨(a,b,s1),z ch s a b s1 h1 p (fun i hi=>q i (hJ hi ((E a b ch s1 v l s' y).1.ci))),C a b ch s1 v l s' y p q⟩
end
theorem adO(mk:aK)(kmax:Nat->Nat)(it:aa)(p:Bool):gQ (fun ch s=>pn mk ch kmax it p s):=by
 intro ch s u s' h T U;obtain⟨_,e⟩:=Xr (mk:=mk) kmax it p ch s u s' h;simp only[pn] at h ⊢;split at h
 ·rename_i n
  simp only[ak] at h ⊢;obtain⟨ob,I,h⟩:=h;refine⟨ob,I,?_⟩;split at h;exact h
  ·rename_i m C y q
   cases p
   ·simp only[cF,ak] at h ⊢
    obtain⟨E,z,h⟩:=h;refine⟨E,z,?_⟩;split at h
    ·rename_i R O
     replace h:=ig h;rcases h with⟨_,h⟩|⟨J,h⟩
     cases h
     ·simp only[J,cF]
      generalize mF y R=UL at h ⊢;unfold tP at h ⊢;split at h
      all_goals grind
    cases h
   cases h
  cases h
 cases h
variable{P:Program}
theorem adK(mk:aK)(kmax:Nat->Nat)(hint:Tmp->Nat)(dst:Option Tmp)(op:Op)(fr:Fr):f9 (fun ch s=>mi P mk ch kmax hint dst op fr s):=by
 cases op<;>simp only[mi]<;>first
  |exact f9.const _
  |skip
 rename_i z p;refine f9.opt _ fun x _=>?_;intro ch s v l s' h q C;simp only[gW,ak] at h ⊢;obtain⟨⟨y,s1⟩,h1,h⟩:=h;refine⟨(y,s1),adO mk kmax x p ch s y s1 h1 q ?_,h⟩
 grind
structure Ri (r:(Nat->Nat)->oU):Prop where
 ops: ∀f all mk l fr,gQ (fun ch s=>(r ch).ops f all mk l fr s)
 draw: ∀f all bs mk rs i l fr,gQ (fun ch s=>(r ch).draw f all bs mk rs i l fr s)
 code: ∀f c mk fr,f9 (fun ch s=>(r ch).code f c mk fr s)
 call: ∀f args mk,gQ (fun ch s=>(r ch).call f args mk s)
section
variable{Q:aH}{r:(Nat->Nat)->oU}(hl:Lh r)(hr:Ri r)
include hl hr
theorem adQ(n:Nat)(args:List aa)(mk:aK):gQ (fun ch s=>nq (r ch) n args mk s):=by
 intro ch s v s' h y J;simp only[nq,ak,aJ,bI] at h ⊢;obtain⟨o,h1,⟨u,U,R⟩,p,rfl,rfl⟩:=h;refine⟨o,h1,(u,U,R),?_,rfl,rfl⟩;have J: ∀i,i<R.ci->y i=ch i:=J;unfold Bv at p ⊢;split at p
 ·obtain⟨V,p⟩:=bh p
  simp only[V,cT,ak] at p ⊢;obtain⟨z,h3,⟨x,fr,I⟩,Z,O⟩:=p;refine⟨z,h3,(x,fr,I),?_,?_⟩
  all_goals cases x with
   |exit i=>cases O
   |ret=>cases O
   |normal=>
    simp only[zL,ak] at O ⊢;obtain⟨⟨C,q,E⟩,T,Y⟩:=O;have e5:E=R:=by cases C<;>(grind [Bu])
    subst e5;have g2:=(hl.code _ _ mk _ ch I C q E T).1
    first
     |exact hr.code _ _ mk _ ch _ _ fr I Z y (fun i hi=>J i (hJ hi g2.ci))
     |exact⟨(C,q,E),hr.code _ _ mk _ ch I C q E T y J,Y⟩
 cases p
theorem Ej(f:FuncId)(o:Oper)(mk:aK)(fr:Fr):f9 (fun ch s=>fS (Q.at ch) (r ch) f o mk fr s):=by
 have _:=hl;unfold fS;split
 ·split
  exact fun ch s a b s' h p _=>h
  ·rename_i c _ _ _
   cases pj fr.env c
   case' true=>
    unfold su;exact f9.opt _ fun g _=>gQ.then3 (mk:=mk) (k:=fun v _ s=>some (v,fr.loc,s)) (adQ hl hr g.1 g.2 mk) (fun v=>f9.const _) fun v=>bO.ret v fr.loc
   unfold pN;exact f9.opt _ fun g _=>gQ.then3 (mk:=mk) (k:=fun v _ s=>some (v,fr.loc,s)) (hr.call g.1 g.2 mk) (fun v=>f9.const _) fun v=>bO.ret v fr.loc
 exact adK _ _ _ _ _ _
theorem adP(f:FuncId)(all:Array Oper)(mk:aK)(l:List Oper)(fr:Fr):gQ (fun ch s=>m9 (Q.at ch) (r ch) f all mk l fr s):=by
 unfold m9;split;exact gQ.const _;rename_i o p;cases fK all fr.env o;exact gQ.opt _ fun fr' _=>hr.ops f all mk p fr';exact f9.then1 (mk:=mk) (k:=fun v l ch s=>(di fr o.dst v l).bind fun fr'=>(r ch).ops f all mk p fr' s) (Ej hl hr f o mk fr) (fun v l=>gQ.opt _ fun fr' _=>hr.ops f all mk p fr') fun v l=>cV.opt _ fun fr' _=>hl.ops f all mk p fr'
theorem adN(f:FuncId)(all:Array Oper)(bs:List Nat)(mk:aK)(rs:List fZ)(i:Nat)(l:List Oper)(fr:Fr):gQ (fun ch s=>mQ (Q.at ch) (r ch) f all bs mk rs i l fr s):=by
 unfold mQ;split;exact gQ.const _;rename_i o y;cases fK all fr.env o;exact gQ.opt _ fun fr' _=>hr.draw f all bs.tail mk rs (i+1) y fr';intro ch s v s' h q E;simp only[cT,ak] at h ⊢;obtain⟨⟨u,l,s1⟩,h1,h⟩:=h;replace h:=bh h;obtain⟨p,h⟩:=h;simp only[ak] at h;obtain⟨fr',z,h⟩:=h;have J:=(hl.draw _ _ _ _ _ _ _ _ ch (s.rX s1) v s' h).1;refine⟨(u,l,s1),Ej (Q:=Q) hl hr f o _ fr ch _ u l s1 h1 q (fun j I=>E j (hJ I J.ci)),?_⟩;have C:(pS (bs.headD 0) (cu ((Q.at q).hint f) o.dst fr.env o.op) (s1.gt.blt s.aL||isStore o.op) rs&&s.ci.beq s1.ci)=true:=p;simp only[C,cT,z,au];exact hr.draw _ _ _ _ _ _ _ _ ch (s.rX s1) v s' h q E
theorem adM(f:FuncId)(c:Code)(mk:aK)(fr:Fr):f9 (fun ch s=>yx (Q.at ch) (r ch) f c mk fr s):=by
 have q: ∀(x:Ex) (fr:Fr) (b:Code),f9 (fun ch s=>qd (r ch) f b mk (x,fr,s))/\bO mk (fun ch s=>qd (r ch) f b mk (x,fr,s)):=by
  intro x fr b;cases x with
  |normal=>exact⟨hr.code f b mk fr,hl.code f b mk fr⟩
  |exit i=>exact⟨f9.const _,bO.ret _ _⟩
  |ret=>exact⟨f9.const _,bO.ret _ _⟩
 cases c<;>simp only[yx]<;>first
  |exact f9.const _
  |exact f9.then3 (mk:=mk) (hr.code f _ mk fr) (fun x fr=>(q x fr _).1) (fun x fr=>(q x fr _).2)
  |exact hr.code f _ mk fr
  |skip
 rename_i id ops draw;unfold Kh;cases draw;exact gQ.then3 (mk:=mk) (k:=fun fr _ s=>some (Ex.normal,fr,s)) (hr.ops f ops mk ops.toList fr) (fun _=>f9.const _) fun _=>bO.ret _ _;simp only[cT];cases oa ops 0 ops.toList (Region.before ops).toList;exact f9.const _;exact gQ.then3 (mk:=mk) (k:=fun fr _ s=>some (Ex.normal,fr,s)) (hr.draw f ops _ mk [] 0 ops.toList fr) (fun _=>f9.const _) fun _=>bO.ret _ _;rename_i x a b;refine f9.opt _ fun v _=>?_;unfold Ca;split;exact hr.code f _ mk fr;exact hr.code f _ mk fr;exact f9.const _;rename_i id b;intro ch s x fr' s' h y I;simp only[ak] at h ⊢;obtain⟨⟨C,fr1,s1⟩,h1,h⟩:=h;refine⟨(C,fr1,s1),hr.code f b mk fr ch s C fr1 s1 h1 y ?_,h⟩;have:s1=s':=by
  simp only[aJ] at h;cases C with
  |normal=>grind [qz]
  |ret=>grind [qz]
  |exit i=>
   grind [qz]
 rw[this];exact I;rename_i g U a b;refine f9.opt _ fun v _=>?_;unfold xC;split;rename_i h first z _
 show f9 (fun ch s=>bif tz Q.P h&&(fr.env.all jY&&(dY a&&dY b)) then _ else none);cases tz Q.P h&&(fr.env.all jY&&(dY a&&dY b));exact f9.const _;simp only[cT];intro ch s x fr' s' h' y I;simp only[ak] at h' ⊢;obtain⟨⟨v,s1⟩,h1,O⟩:=h';refine⟨(v,s1),?_,O⟩;have:s1.ci=s'.ci:=by
  simp only[Be,ak] at O;obtain⟨o,_,J⟩:=O;cases o with
  |loop V R E T a' Y p=>
   simp only[aJ,bI] at J;rw[<-J.2.2];rfl
  |_=>cases J
 exact hr.call h _ mk ch _ v s1 h1 y (by rw[this];exact I);exact f9.const _
omit hl in
theorem adL(f:FuncId)(args:List aa)(mk:aK):gQ (fun ch s=>jU (Q.at ch) (r ch) f args mk s):=by
 unfold jU;show gQ (fun ch s=>match Q.spec f with
  |some sp=>(sp args).bind fun v=>some (v,s)
  |none=>match Q.specH f with
   |some sp=>(gm (s.get mk) (sp args)).bind fun v=>some (v,s)
   |none=>match(Q.specW f).bind fun sp=>sp args with
   |some p=>xz (Q.anew f) mk s p
   |none=>(Q.P.funcs[f]?).bind fun fn=>fn.body.bind fun c=>
    ((r ch).code f c mk ⟨gI 0 args,bif bw args.length fn.ntmps then fn.ntmps else args.length,[]⟩ s).bind (qD (Q.at ch) fn mk))
 cases Q.spec f with
 |some sp=>exact gQ.const _
 |none=>
  cases Q.specH f with
  |some sp=>exact gQ.const _
  |none=>
  cases (Q.specW f).bind fun sp=>sp args with
  |some p=>exact gQ.const _
  |none=>
  refine gQ.opt _ fun fn _=>gQ.opt _ fun c _=>?_;intro ch s v s' h q E;simp only[ak] at h ⊢;obtain⟨⟨y,fr1,s1⟩,h1,h⟩:=h;have z: ∀l,jt (Q.at q) mk fr1 s1 l=jt (Q.at ch) mk fr1 s1 l:=by
   intro l
   induction l with
   |nil=>rfl
   |cons x l C=>simp only[jt,C];cases x<;>rfl
  have:s1=s'/\qD (Q.at q) fn mk (y,fr1,s1)=some (v,s'):=by
   cases y with
   |exit i=>cases h
   |normal=>
    grind [qD,ak]
   |ret=>
    grind [qD,ak]
  exact⟨(y,fr1,s1),hr.code f c mk _ ch s y fr1 s1 h1 q (by rw[this.1];exact E),this.2⟩
end
def tL(Q:aH): ∀n:Nat,Ri (fun ch=>cy (Q.at ch) n)
 |0=>⟨fun _ _ _ _ _=>gQ.const _,fun _ _ _ _ _ _ _ _=>gQ.const _,fun _ _ _ _=>f9.const _,fun _ _ _=>gQ.const _⟩
 |n+1=>⟨fun f all mk l fr=>adP (mt Q n) (tL Q n) f all mk l fr,fun f all bs mk rs i l fr=>adN (mt Q n) (tL Q n) f all bs mk rs i l fr,
  fun f c mk fr=>adM (mt Q n) (tL Q n) f c mk fr,fun f args mk=>adL (tL Q n) f args mk⟩
variable{fr':Fr}{B':Nat->Nat}{dst:Option Tmp}{x:Value}{w':World}{h:aC aR}
section
variable{P:Program}{mk:aK}{ch:Nat->Nat}{kmax:Nat->Nat}{hint:Tmp->Nat}{G:Gh}{s s':St}{B:Nat->Nat}{fr:Fr}{a:Act}{w:World}{o:Oper}{v:aa}{loc':Loc}
theorem acK(wr:WR G s.heap w)(fx:cN G s.heap B fr a.tmps w)(C:mi P mk ch kmax hint o.dst o.op fr s=some (v,loc',s'))(E: ∀n,s.aL<=n->n<s'.aL->G.at_ n=none)(J: ∀x b I,o.op= .next x b->evc fr.env x=some I->2<=kM mk I s->ch s.ci % kM mk I s=(w.tape w.drawn (.mapNext (kM mk I s))) % kM mk I s):
 gj P G s.heap w B fr.loc s.aL s'.aL a o v loc' s'.heap:=by
 cases hop:o.op<;>rw[hop] at C<;>simp only[mi] at C
 case move x=>replace C:=lG C;grind [aoD]
 case assign x=>replace C:=lG C;grind [aoi]
 case pick c p q=>replace C:=lG C;grind [aoG]
 case alloc e=>exact aoh hop wr fx C E
 case box e x=>exact aok hop wr fx C E
 case build t parts=>replace C:=lG C;grind [aol]
 case buildSlice t len parts=>exact aom hop wr fx C E
 case load t x=>exact aox hop wr fx C
 case store t x z=>exact aoJ hop wr fx C
 case nilCheck x=>
  simp only[qT,ak] at C;obtain⟨u,O,C⟩:=C;replace C:=lG C
  grind [aoF]
 case binOp op t x y yt=>exact aoj hop wr fx C
 case unOp op t x=>exact aoK hop wr fx C
 case convert src dst x=>exact aoo hop wr fx C
 case makeFunc fn first captured=>replace C:=lG C;grind [aoz]
 case makeMap t r=>exact aoA hop wr fx C E
 case makeSlice t l c=>exact aoB hop wr fx C E
 case slice t x lo hi mx=>exact aoI hop wr fx C
 case fieldAddr t x f=>exact aou hop wr fx C
 case field t x f=>exact aot hop wr fx C
 case indexAddr t x i=>exact aow hop wr fx C
 case index t x i=>exact aov hop wr fx C
 case lookup t x i ok=>exact aoy hop wr fx C
 case mapUpdate t m k x=>exact YW (.inl hop) wr fx C
 case insert t m k x=>exact YW (.inr hop) wr fx C
 case mapEntry t m k=>exact aoC hop wr fx C
 case entryStore t m st x=>exact aor hop wr fx C
 case range t x=>exact aoH hop wr fx C E
 case next it isString=>
  grind [ak,aoE]
 case entry it=>exact aoq hop wr fx C
 case extract x i=>exact aos hop wr fx C
 all_goals grind [aon]
theorem getD_set(tmps:Array Value)(d t:Nat)(x:Value)(p:d<tmps.size):(tmps.setIfInBounds d x).getD t undef=if t=d then x else tmps.getD t undef:=by
 simp only[ur,Q0]
 grind
theorem cN.put{G G':Gh}{h':aC aR}{B:Nat->Nat}{fr:Fr}{a:Act}{w:World}{v:aa}{loc':Loc}(fx:cN G h B fr a.tmps w)(p:di fr dst v loc'=some fr')(hl:qu G' h' B' loc' w')(C:LV G' loc' B' v x)(q: ∀u y,LV G fr.loc B u y->LV G' loc' B' u y):cN G' h' B' fr' (a.put dst x).tmps w':=by
 unfold di at p;cases dst with
 |none=>
  injection p with p;subst p
  exact⟨fx.size,fun t=>q _ _ (fx.env t),hl⟩
 |some d=>
  replace p:=bh p;obtain⟨z,p⟩:=p;injection p with p;subst p
  have z:=qA z;refine⟨by simp[Act.put,fx.size],fun t=>?_,hl⟩;show LV G' loc' B' (ac (fr.env.set d (some v)) t) ((a.tmps.setIfInBounds d x).getD t undef);rw[getD_set _ _ _ _ (by rw[fx.size];exact z)];unfold ac;rw[aC.get_set];by_cases e:t=d;rw[iP e,iP e];exact C;rw[iN e,iN e];exact q _ _ (fx.env t)
theorem cN.wanted{G:Gh}{B:Nat->Nat}{fr:Fr}{a:Act}{w:World}(fx:cN G h B fr a.tmps w)(ops:Array Oper)(o:Oper):Region.wanted o (yielded ops a.tmps)=fK ops fr.env o:=by
 unfold Region.wanted fK;cases hg:o.guard with
 |none=>rfl
 |some g=>
  obtain⟨j,q⟩:=g;simp only[yielded];cases hd:(ops[j]?).bind (·.dst) with
  |none=>simp
  |some d=>
   simp only[au];have hl:=fx.env d;have p: ∀b,a.tmps[d]? =some (.bool b)↔a.tmps.getD d undef= .bool b:=by
    intro b;simp only[ur];cases hx:a.tmps[d]? with
    |none=>simp[undef]
    |some x=>simp
   cases hn:ac fr.env d with
   |bool b=>
    rw[hn] at hl;have hl:VR G (.bool b) (a.tmps.getD d undef):=hl;have:a.tmps[d]? =some (.bool b):=by
     rw[p];generalize a.tmps.getD d undef=x at hl;cases hl;rfl
    simp[this]
   |rd t g y=>
    rw[hn] at hl;obtain⟨_,⟨C,z⟩,_⟩:=hl
    grind
   |_=>
    rw[hn] at hl;have hl:VR G _ (a.tmps.getD d undef):=hl;cases hx:a.tmps[d]? with
    |none=>simp
    |some x=>
     have e:a.tmps.getD d undef=x:=by simp[ur,hx]
     rw[e] at hl;cases hl<;>simp
end
variable{j:Nat}{D:Nat->Prop}
section
variable{α:Type}
open Classical in
noncomputable def mix(X:Nat->α)(D:Nat->Prop):Nat->α
 |0=>X 0
 |k+1=>if D k/\X (k+1)≠X k then X (k+1) else mix X D k
theorem OU{X:Nat->α}{D:Nat->Prop}{j:Nat}: ∀ {n:Nat},j<=n->(∀k,j<=k->k<n->D k->X (k+1)=X k)->mix X D n=mix X D j
 |0,h,_=>by grind
 |n+1,h,hk=>by
  by_cases e:j=n+1;rw[e];rw[mix,iN (fun x=>x.2 (hk n (by omega) (by omega) x.1))];exact OU (by omega) fun k h1 p=>hk k h1 (by omega)
theorem OW{X:Nat->α}{D:Nat->Prop}: ∀ {j:Nat},(∀i,i<j->X (i+1)≠X i->D i)->mix X D j=X j
 |0,_=>rfl
 |j+1,h=>by
  rw[mix];split;rfl;rename_i p;rw[OW fun i hi=>h i (by omega)]
  grind
def XU{X:Nat->α}(p:j<=n)(q: ∀i,i<j->X (i+1)≠X i->D i)(y: ∀k,j<=k->k<n->D k->X (k+1)=X k):mix X D n=X j:=
 (OU p y).trans (OW q)
theorem FI{X:Nat->α}{D p:Nat->Prop}: ∀ {n:Nat},(∀k,k<n->X (k+1)≠X k->(D k↔p k))->mix X D n=mix X p n
 |0,_=>rfl
 |n+1,h=>by
  rw[mix,mix,FI fun k q=>h k (by omega)]
  grind
def CT{X:Nat->α}(h:X (j+1)=X j):mix X (fun k=>D k\/k=j) n=mix X D n:=
 FI fun q _ p=>⟨fun x=>x.elim id fun e=>absurd (e▸h) p,.inl⟩
theorem amK{X:Nat->α}(C:j<n)(E: ∀i,i<j->X (i+1)≠X i->D i)(y: ∀k,j<k->k<n->D k->X (k+1)=X k):
 mix X (fun k=>D k\/k=j) n=X (j+1):=
 XU (j:=j+1) (by omega) (fun i hi p=>by
  grind) fun k h1 z q=>y k (by omega) z (q.resolve_right (by omega))
theorem OV{X:Nat->α}(h: ∀k,k<n->D k):mix X D n=X n:=OW fun i hi _=>h i hi
theorem OX{X:Nat->α}(h: ∀k,k<n-> ¬D k):mix X D n=X 0:=
 (OU (ki n) fun k _ p q=>absurd q (h k p))
end
inductive pG (ops:Array Oper):Nat->Nat->Prop
 |one {j:Nat} {o:Oper} {e:Edge}:ops[j]? =some o->e∈o.after->Region.binds .any e=true->pG ops e.on j
 |more {i j:Nat} {o:Oper} {e:Edge}:ops[j]? =some o->e∈o.after->Region.binds .any e=true->pG ops i e.on->pG ops i j
variable{ops:Array Oper}{i:Nat}
theorem pG.closed(C: ∀j o,D j->ops[j]? =some o-> ∀e∈o.after,Region.binds .any e=true->D e.on)(h:pG ops i j):D j->D i:=by
 induction h with
 |one p q y=>exact fun z=>C _ _ z p _ q y
 |more p q y _ E=>grind
def pG.ready(E: ∀j o,D j->ops[j]? =some o-> ∀e∈o.after,Region.binds .any e=true->D e.on)(z: ∀o,ops[j]? =some o-> ∀e∈o.after,Region.binds .any e=true->D e.on)(h:pG ops i j):D i:=by
 cases h with
 |one p q y=>exact z _ p _ q y
 |more p q y C=>exact C.closed E (z _ p _ q y)
variable{k:Nat}
theorem arH{s m:Nat}(h:(s ||| 2 ^ k ||| m).testBit i=true):s.testBit i=true\/i=k\/m.testBit i=true:=by
 grind
variable{b:Nat}
theorem ac7(U:(Region.before ops)[j]? =some b)(hi:b.testBit i=true):pG ops i j:=by
 have z: ∀(p:Array Nat) (j:Nat) (o:Oper),ops[j]? =some o->(∀k b,p[k]? =some b-> ∀i,b.testBit i=true->pG ops i k)->
  ∀(l:List Edge) (s:Nat),(∀e∈l,e∈o.after)->(∀i,s.testBit i=true->pG ops i j)->
  ∀i,(l.foldl (fun s e=>if Region.binds .any e then s ||| 2 ^ e.on ||| p.getD e.on 0 else s) s).testBit i=true->pG ops i j:=by
  intro p j o T q l
  induction l with
  |nil=>intro s _ E i hi;exact E i hi
  |cons e l J=>
   intro s hl E i hi;refine J _ (fun e R=>hl e (by simp[R])) ?_ i hi;intro i hi;simp only at hi;split at hi;rename_i C;rcases arH hi with h|h|h
   exact E i h;subst h;exact .one T (hl e (by simp)) C;refine .more T (hl e (by simp)) C ?_;cases ha:p[e.on]? with
   |none=>grind
   |some b=>simp_all
   exact E i hi
 have I: ∀(l:List Oper) (p:Array Nat),(∀k o,l[k]? =some o->ops[p.size+k]? =some o)->(∀k b,p[k]? =some b-> ∀i,b.testBit i=true->pG ops i k)->
  ∀k b,(l.foldl (fun p o=>p.push (o.after.foldl (fun s e=>if Region.binds .any e then s ||| 2 ^ e.on ||| p.getD e.on 0 else s) 0)) p)[k]? =some b->
   ∀i,b.testBit i=true->pG ops i k:=by
  intro l
  induction l with
  |nil=>intro p _ q;exact q
  |cons o l J=>
   intro p hl q;refine J _ (fun k V y=>?_) ?_
   have:=hl (k+1) V (by simpa using y)
   grind
   intro k b y i hi;rw[Array.getElem?_push] at y;split at y;rename_i O;subst O;injection y with y
   subst y;rw[<-Array.foldl_toList] at hi;exact z p p.size o (by simpa using hl 0 o (by simp)) q o.after.toList 0 (fun e R=>by simpa using R) (fun i hi=>by simp at hi) i hi;exact q k b y i hi
 unfold Region.before at U;rw[<-Array.foldl_toList] at U
 grind
variable{c:Call}{f:FuncId}{parts:List (Nat×Operand)}{d:Nat}{ch kmax:Nat->Nat}{o:Oper}{s:St}{hint:Tmp->Nat}{t:TypeId}{Q:aH}
section
variable{e e2:ax}
theorem MG{x:Operand}(h:ev e x=ev e2 x):evc e x=evc e2 x:=by simp[evc,h]
theorem Ch: ∀ {l:List Operand},(∀x∈l,ev e x=ev e2 x)->evcs e l=evcs e2 l
 | [],_=>rfl
 |x::l,h=>by
  simp only[evcs];rw[MG (h x (by simp)),Ch fun y p=>h y (by simp[p])]
def MI(place:Nat->Option (Nat×Nat)): ∀ {l:List (Nat×Operand)} (cs:List aa),(∀p∈l,ev e p.2=ev e2 p.2)->bg place e cs l=bg place e2 cs l
 | [],_,_=>rfl
 |(i,x)::l,cs,h=>by
  simp only[bg];rw[MG (h (i,x) (by simp))];have q:=fun cs=>MI place cs fun p y=>h p (List.mem_cons_of_mem _ y);simp only[q]
def O4{x:Option Operand}(h: ∀y,x=some y->ev e y=ev e2 y):fR e x d=fR e2 x d:=by
 cases x with
 |none=>rfl
 |some y=>simp[fR,h y rfl]
theorem adt(h: ∀p∈parts,ev e p.2=ev e2 p.2):ta P t parts e=ta P t parts e2:=by
 simp only[ta,MI _ _ h]
theorem adu{q:Bool}(h: ∀p∈parts,ev e p.2=ev e2 p.2):
 bj P t n parts q e s=bj P t n parts q e2 s:=by
 simp only[bj,MI _ _ h]
theorem aqP{x:aa}{lo hi p:Option Operand}(h1: ∀y,lo=some y->ev e y=ev e2 y)(z: ∀y,hi=some y->ev e y=ev e2 y)(q: ∀y,p=some y->ev e y=ev e2 y):jE P mk t x lo hi p e s=jE P mk t x lo hi p e2 s:=by
 simp only[jE,O4 h1,O4 z,O4 q]
theorem Se{op:Op}{n2:Nat}{loc:Loc}(h: ∀x∈op.operands,ev e x=ev e2 x):
 mi P mk ch kmax hint dst op ⟨e,n,loc⟩ s=mi P mk ch kmax hint dst op ⟨e2,n2,loc⟩ s:=by
 cases op<;>simp only[Op.operands] at h<;>simp only[mi,JQ,JS,C7,C8,JR,FY,JV,JW,C6,JU,JX,JT,vu,qT,m8]
 case build t ps=>grind [adt]
 case buildSlice t k ps=>grind [adu]
 case makeFunc fn a b=>simp only[rR,Ch (l:=a.toList) fun x p=>h x (by simp_all),Ch (l:=b.toList) fun x p=>h x (by simp_all)]
 case makeMap t r=>
  cases r with
  |none=>simp[m7]
  |some x=>simp[m7,h x (by simp)]
 case slice t x lo hi mx=>
  grind [MG,aqP]
 case call c=>
  grind [Ch,Call.operands]
 all_goals grind [Bb,evc]
theorem S5(h: ∀x∈c.operands,ev e x=ev e2 x):callee e c=callee e2 c:=by
 unfold callee;cases hc:c.callee with
 |builtin b=>rfl
 |invoke a b=>rfl
 |value f=>grind [Call.operands,Ch]
theorem Vv(h: ∀x∈c.operands,ev e x=ev e2 x):pj e c=pj e2 c:=by
 grind [pj,Call.operands]
theorem aby(h: ∀x∈c.operands,ev e x=ev e2 x):yieldee e c=yieldee e2 c:=by
 unfold yieldee;cases hc:c.callee with
 |builtin b=>rfl
 |invoke a b=>rfl
 |value f=>grind [Call.operands,Ch]
def aoS{r:oU}{n2:Nat}{loc:Loc}(h: ∀x∈o.op.operands,ev e x=ev e2 x):
 fS Q r f o mk ⟨e,n,loc⟩ s=fS Q r f o mk ⟨e2,n2,loc⟩ s:=by
 unfold fS;split;rename_i c p;rw[p] at h;cases hb:c.callee with
 |builtin b=>
  have:=Se (P:=Q.P) (mk:=mk) (ch:=Q.ch) (kmax:=Q.kmax) (hint:=Q.hint f) (dst:=o.dst) (op:=.call c) (n:=n) (n2:=n2) (loc:=loc) (s:=s) h;simpa only[mi] using this
 |value g=>simp only[pN,S5 h,su,aby h,Vv h]
 |invoke a b=>simp only[pN,S5 h,su,aby h,Vv h]
 exact Se h
end
theorem FN(a b:Nat):bm a b=decide (a<b):=by
 show bw (a+1) b=_;rw[tN];rfl
def md(l l2:Loc)(t:Nat):Prop:=l.gen t=l2.gen t/\ ∀g,l.get t g=l2.get t g
def md.refl(l:Loc)(t:Nat):md l l t:=⟨rfl,fun _=>rfl⟩
variable{l l2:Loc}
def md.symm{t:Nat}(h:md l l2 t):md l2 l t:=⟨h.1.symm,fun g=>(h.2 g).symm⟩
theorem md.set_same(t g:Nat)(cs:List aa):md (l.set t g cs) (l2.set t g cs) t:=by
 constructor
 all_goals grind [Loc.gen_set,Loc.get_set]
variable{u:Nat}
theorem md.set_other{t:Nat}(h:u≠t)(g:Nat)(cs:List aa):md (l.set t g cs) l u:=by
 constructor
 all_goals grind [Loc.gen_set,Loc.get_set]
def rG(c:Nat)(F:dt)(m:aK):aK:=
 match F with
 | .all=>m
 | .obj n=>(0,n)::(n+1,c)::m
 |_=>(0,c)::m
variable{c:Nat}{m:aK}{F:dt}
theorem MR(h:eh (rG c F m) k=false):eh m k=false/\(F= .all\/F= .obj k\/c<=k):=by
 unfold rG at h
 grind [eh,tN,FN]
theorem MS(h:eh m k=true):eh (rG c F m) k=true:=by
 cases e:eh (rG c F m) k with
 |true=>rfl
 |false=>rw[(MR e).1] at h;cases h
theorem MT{o:aR}(h:s.get m n=some o):s.get (rG c (.obj n) m) n=some o:=by
 grind [eh,rG,tN,FN,St.get]
def b9(c:Nat)(F:dt)(y:Bool)(x:aK->Loc->Option (aa×Loc×St)):Prop:=
 ∀m loc v loc' s',x m loc=some (v,loc',s')-> ∀q,(∀t,F= .loc t->md loc q t)->
  ∃p,x (rG c F m) q=some (v,p,s')/\(∀t,F= .loc t->md loc' p t)/\(∀t,F≠ .loc t->md loc' loc t/\md p q t)/\(y=false->loc'=loc)
variable{st:Bool}
theorem b9.plain{g:aK->Option (aa×St)}(z: ∀t,F≠ .loc t)(y: ∀m r,g m=some r->g (rG c F m)=some r):b9 c F st (fun m l=>gW (g m) l):=by
 intro m loc v loc' s' h p _;simp only[gW,ak] at h;obtain⟨r,h1,h⟩:=h;simp only[aJ,bI] at h;obtain⟨rfl,rfl,rfl⟩:=h;exact⟨p,by simp[gW,y m r h1],fun t q=>absurd q (z t),fun t _=>⟨.refl _ _,.refl _ _⟩,fun _=>rfl⟩
def b9.value{g:aK->Option aa}(z: ∀t,F≠ .loc t)(y: ∀m r,g m=some r->g (rG c F m)=some r):b9 c F st (fun m l=>fT (g m) l s):=by
 intro m loc v loc' s' h p _;obtain⟨h1,rfl,rfl⟩:=lG h;exact⟨p,by simp[fT,y m v h1],fun t q=>absurd q (z t),fun t _=>⟨.refl _ _,.refl _ _⟩,fun _=>rfl⟩
def b9.none:b9 c F st (fun _ _=>.none):=by intro m loc v loc' s' h;cases h
def b9.bind(y:Option α){k:α->aK->Loc->Option (aa×Loc×St)}(p: ∀a,y=some a->b9 c F st (k a)):b9 c F st (fun m l=>y.bind fun a=>k a m l):=by
 cases y with
 |none=>intro m loc v loc' s' h;cases h
 |some a=>exact p a rfl
theorem b9.gen{g:Loc->Option aa}(z: ∀l l2 r,(∀t,F= .loc t->md l l2 t)->g l=some r->g l2=some r):b9 c F st (fun _ l=>fT (g l) l s):=by
 intro m loc v loc' s' h p q;obtain⟨h1,rfl,rfl⟩:=lG h;exact⟨p,by simp[fT,z loc' p v q h1],fun t y=>q t y,fun t _=>⟨.refl _ _,.refl _ _⟩,fun _=>rfl⟩
def b9.box{cs:List aa}(C:st=true):b9 c (EE hint dst) st (fun _ l=>rz (pg hint dst) dst cs l s):=by
 intro m loc v loc' s' h p y;unfold rz at h ⊢;cases dst with
 |none=>
  simp only[pg] at h ⊢;simp only[show aQ 0 1=false from rfl,cF,aJ,bI] at h ⊢;obtain⟨rfl,rfl,rfl⟩:=h;exact⟨p,by simp,fun t z=>by simp[EE] at z,fun t _=>⟨.refl _ _,.refl _ _⟩,fun _=>rfl⟩
 |some t=>
  simp only[pg,EE] at h y ⊢;cases e:aQ (hint t) 1 with
  |false=>
   simp only[e,cF,aJ,bI] at h y ⊢;obtain⟨rfl,rfl,rfl⟩:=h;exact⟨p,⟨rfl,rfl,rfl⟩,fun t z=>(by cases z),fun t _=>⟨.refl _ _,.refl _ _⟩,fun _=>rfl⟩
  |true=>
   simp only[e,cT,au,aJ,bI] at h y ⊢;obtain⟨rfl,rfl,rfl⟩:=h;have y:=y t rfl;refine⟨p.set t (loc.gen t+1) cs,by simp[y.1],?_,?_,by simp[C]⟩;intro u q;injection q with q;subst q;exact .set_same _ _ _
   intro u q;have q:u≠t:=fun e=>q (by rw[e]);exact⟨.set_other q _ _,.set_other q _ _⟩
section
variable{P:Program}{ch:Nat->Nat}{kmax:Nat->Nat}{hint:Tmp->Nat}{dst:Option Tmp}{e:ax}{n c:Nat}{s:St}
def afZ(t:TypeId)(a:Operand):b9 c (AB e a) false (fun m l=>C7 P m t a ⟨e,n,l⟩ s):=by
 unfold C7 AB;refine b9.bind (ev e a) fun u p=>?_;simp only[p];cases u<;>try (exact b9.none)
 case ptr k off=>
  simp_all [b9.value,mr,ak,MT]
 case rd k g off=>
  refine b9.gen (g:=fun l=>mr P [] t (.rd k g off) l s) fun l l2 r hl hr=>?_;simp only[mr] at hr ⊢;rw[<-(hl k rfl).2];exact hr
 simp_all [b9.value,mr]
def af4(t:TypeId)(a x:Operand):b9 c (AB e a) true (fun m l=>C8 P m t a x ⟨e,n,l⟩ s):=by
 unfold C8 AB;refine b9.bind (ev e a) fun u q=>b9.bind (evc e x) fun v _=>?_;simp only[q,ui];cases hs:dI P t with
 |none=>exact b9.none
 |some k=>
  simp only[au];cases hc:aQ v.cells.length k&&bm 0 k with
  |false=>exact b9.none
  |true=>
   simp only[cT];cases u<;>try (exact b9.none)
   case ptr j off=>
    intro m loc E loc' s' h p _;simp only[ak] at h ⊢;obtain⟨r,⟨ob,C,h1⟩,z⟩:=h;cases ob<;>simp only[ak] at h1<;>try (cases h1;done)
    rename_i cs;obtain⟨cs',y,h1⟩:=h1;injection h1 with h1;subst h1
    simp only[aJ,bI] at z;obtain⟨rfl,rfl,rfl⟩:=z;exact⟨p,⟨(p,_),⟨_,MT C,by simp only[y,au];rfl⟩,rfl⟩,fun t J=>(by cases J),fun t _=>⟨.refl _ _,.refl _ _⟩,fun _=>rfl⟩
   case rd j g off=>
    intro m loc E loc' s' h p hl;simp only[ak] at h ⊢;obtain⟨r,⟨cs,y,cs',I,h1⟩,z⟩:=h;injection h1 with h1;subst h1
    simp only[aJ,bI] at z;obtain⟨rfl,rfl,rfl⟩:=z;refine⟨p.set j g cs',⟨(_,s),⟨cs,by rw[<-(hl j rfl).2];exact y,cs',I,rfl⟩,rfl⟩,?_,?_,by simp⟩;intro u q;injection q with q;subst q;exact .set_same _ _ _
    intro u q;have q:u≠j:=fun e=>q (by rw[e]);exact⟨.set_other q _ _,.set_other q _ _⟩
def af0(x:Operand):b9 c (ve e x) false (fun _ l=>qT x (y8 l) ⟨e,n,l⟩ s):=by
 unfold qT ve;refine b9.bind (ev e x) fun u p=>?_;simp only[p];refine b9.gen (g:=fun l=>y8 l u) fun l l2 r hl hr=>?_;cases u
 case rd=>
  simp only[y8] at hr ⊢;rw[<-(hl _ rfl).1];exact hr
 case func fn _ _=>cases fn<;>exact hr
 all_goals exact hr
def afX(t:TypeId)(x:Operand)(f:Nat):b9 c (ve e x) false (fun _ l=>qT x (fun x=>tl P l t x f) ⟨e,n,l⟩ s):=by
 unfold qT ve;refine b9.bind (ev e x) fun u p=>?_;simp only[p];refine b9.gen (g:=fun l=>tl P l t u f) fun l l2 r hl hr=>?_;cases u<;>try exact hr
 simp only[tl] at hr ⊢;rw[<-(hl _ rfl).1];exact hr
def afY(t:TypeId)(x i:Operand):b9 c (ve e x) false (fun _ l=>C6 P t x i ⟨e,n,l⟩ s):=by
 unfold C6 ve;refine b9.bind (ev e x) fun u p=>?_;simp only[p];refine b9.bind (ev e i) fun j _=>?_;refine b9.gen (g:=fun l=>ja P l t u j) fun l l2 r hl hr=>?_;cases u<;>try exact hr
 simp only[ja] at hr ⊢;rw[<-(hl _ rfl).1];exact hr
theorem aqQ{y:aK}{x:aa}{lo hi q:Option Operand}{r:aa}(E: ∀k p,x= .ptr k p-> ∀o,s.get m k=some o->s.get y k=some o)(h:jE P m t x lo hi q e s=some r):
 jE P y t x lo hi q e s=some r:=by
 simp only[jE,ak] at h ⊢;obtain⟨d,C,h⟩:=h;refine⟨d,C,?_⟩;split at h;exact h;exact h;simp only[ak] at h ⊢;obtain⟨k,z,h⟩:=h;refine⟨k,z,?_⟩;split at h;simp only[ak] at h ⊢
 grind
 cases h;cases h
theorem af3(t:TypeId)(x:Operand)(lo hi q:Option Operand):b9 c (cu hint dst e (.slice t x lo hi q)) false (fun m l=>m8 x (fun x=>jE P m t x lo hi q e s) ⟨e,n,l⟩ s):=by
 unfold m8;refine b9.bind (evc e x) fun u p=>?_;have p:ev e x=some u:=by
  simp only[evc,ak] at p;obtain⟨y,z,p⟩:=p;rw[z,(bh p).2]
 simp only[cu,p];refine b9.value (g:=fun m=>jE P m t u lo hi q e s) ?_ fun m r hr=>?_
 all_goals grind [aqQ,MT]
def b9.state{g:aK->Option St}(z: ∀t,F≠ .loc t)(y: ∀m r,g m=some r->g (rG c F m)=some r):b9 c F st (fun m l=>nW (g m) l):=by
 intro m loc v loc' s' h p _;simp only[nW,ak] at h;obtain⟨r,h1,h⟩:=h;simp only[aJ,bI] at h;obtain⟨rfl,rfl,rfl⟩:=h;exact⟨p,by simp[nW,y m r h1],fun t q=>absurd q (z t),fun t _=>⟨.refl _ _,.refl _ _⟩,fun _=>rfl⟩
def qw{g:aK->Option α}(m:aK)(r:α)(h:g m=some r):g (rG c .all m)=some r:=h
theorem UG(E:Call):b9 c (cu hint dst e (.call E)) false (fun m l=>vu P m hint dst E ⟨e,n,l⟩ s):=by
 obtain⟨callee,args,O⟩:=E;unfold vu;cases callee with
 |value f=>exact b9.none
 |invoke a b=>exact b9.none
 |builtin b=>
  refine b9.bind (evcs e args.toList) fun vs p=>?_;cases b
  case min=>exact b9.plain (g:=fun m=>jH P m .min _ _ vs s) (by simp[cu]) fun m r hr=>by cases vs<;>exact hr
  case max=>exact b9.plain (g:=fun m=>jH P m .max _ _ vs s) (by simp[cu]) fun m r hr=>by cases vs<;>exact hr
  case len=>
   refine b9.plain (g:=fun m=>jH P m .len _ _ vs s) ?_ fun m r hr=>?_
   grind [cu]
   simp only[jH] at hr ⊢;split at hr<;>try grind
   simp only[ak] at hr ⊢;obtain⟨v,z,hr⟩:=hr;refine⟨v,?_,hr⟩;obtain⟨args⟩:=args;simp only at p;cases args with
   |nil=>simp[evcs] at p
   |cons R l=>
    simp only[evcs,ak] at p;obtain⟨u,q,T,_,p⟩:=p;injection p with p
    injection p with C J
    subst C;have q:ev e R=some u:=by
     simp only[evc,ak] at q;obtain⟨y,I,q⟩:=q;rw[I,(bh q).2]
    simp only[jo,cu,azl,List.getElem?_cons_zero,q] at z ⊢;generalize P.underlying _=ud at z ⊢;cases ud with
    |none=>exact z
    |some d=>
     simp only[au] at z ⊢;cases u<;>cases d<;>exact z
  all_goals exact b9.plain (g:=fun m=>jH P m _ _ _ vs s) (by simp[cu]) qw
def afW(op:Op):b9 c (cu hint dst e op) (isStore op) (fun m l=>mi P m ch kmax hint dst op ⟨e,n,l⟩ s):=by
 cases op<;>simp only[mi]
 case load t a=>exact afZ t a
 case store t a x=>exact af4 t a x
 case nilCheck x=>exact af0 x
 case fieldAddr t x f=>exact afX t x f
 case indexAddr t x i=>exact afY t x i
 case slice t x lo hi mx=>exact af3 t x lo hi mx
 case call cl=>exact UG cl
 case alloc t=>exact b9.bind (eV P t) fun z _=>b9.box (cs:=z.cells) rfl
 case box t x=>exact b9.bind (evc e x) fun z _=>b9.box (cs:=z.cells) rfl
 case move x=>simp_all [b9.value,cu]
 case assign x=>simp_all [b9.value,cu]
 case pick a b d=>simp_all [b9.value,cu]
 case build t ps=>simp_all [b9.value,cu]
 case buildSlice t k ps=>simp_all [b9.plain,cu]
 case binOp o t x y yt=>exact b9.bind (evc e x) fun u _=>b9.bind (evc e y) fun v _=>b9.value (g:=fun _=>eB P o t u v) (by simp[cu]) fun _ _ h=>h
 case unOp o t x=>exact b9.bind (evc e x) fun u _=>b9.value (g:=fun _=>Bq o u) (by simp[cu]) fun _ _ h=>h
 case convert a b x=>exact b9.bind (evc e x) fun u _=>b9.value (g:=fun _=>uW P a b u) (by simp[cu]) fun _ _ h=>h
 case makeFunc f a b=>simp_all [b9.value,cu]
 case makeMap t r=>simp_all [b9.plain,cu]
 case makeSlice t a b=>exact b9.bind (ev e a) fun u _=>b9.bind (ev e b) fun v _=>b9.plain (g:=fun _=>ow P t u v _ s) (by simp[cu]) fun _ _ h=>h
 case field t x f=>exact b9.bind (evc e x) fun u _=>b9.value (g:=fun _=>yD P t u f) (by simp[cu]) fun _ _ h=>h
 case index t x i=>exact b9.bind (evc e x) fun u _=>b9.bind (ev e i) fun v _=>b9.value (g:=fun _=>AM P t u v) (by simp[cu]) fun _ _ h=>h
 case extract x i=>exact b9.bind (ev e x) fun u _=>b9.value (g:=fun _=>fh i u) (by simp[cu]) fun _ _ h=>h
 case lookup t x i ok=>exact b9.bind (evc e x) fun u _=>b9.bind (evc e i) fun v _=>b9.value (g:=fun m=>ou P m t u v ok s) (by simp[cu]) qw
 case mapEntry t x i=>exact b9.bind (evc e x) fun u _=>b9.bind (evc e i) fun v _=>b9.plain (g:=fun m=>rS P m t u v s) (by simp[cu]) qw
 case range t x=>exact b9.bind (evc e x) fun u _=>b9.plain (g:=fun m=>t5 P m t u s) (by simp[cu]) qw
 case next x b=>exact b9.bind (evc e x) fun u _=>b9.plain (g:=fun m=>pn m ch kmax u b s) (by simp[cu]) qw
 case entry x=>exact b9.bind (evc e x) fun u _=>b9.value (g:=fun m=>wO m u s) (by simp[cu]) qw
 case mapUpdate t a b d=>exact b9.bind (evc e a) fun u _=>b9.bind (evc e b) fun v _=>b9.bind (evc e d) fun x _=>b9.state (g:=fun m=>qZ P m t u v x s) (by simp[cu]) qw
 case insert t a b d=>exact b9.bind (evc e a) fun u _=>b9.bind (evc e b) fun v _=>b9.bind (evc e d) fun x _=>b9.state (g:=fun m=>qZ P m t u v x s) (by simp[cu]) qw
 case entryStore t a b d=>exact b9.bind (evc e a) fun u _=>b9.bind (evc e b) fun v _=>b9.bind (evc e d) fun x _=>b9.state (g:=fun m=>u4 m u v x s) (by simp[cu]) qw
 all_goals exact b9.none
def MU{r:oU}:b9 c (cu (Q.hint f) o.dst e o.op) (isStore o.op) (fun m l=>fS Q r f o m ⟨e,n,l⟩ s):=by
 unfold fS;cases ho:o.op<;>simp only<;>try exact afW _
 rename_i p;cases hc:p.callee with
 |builtin b=>exact UG p
 |value g=>
  obtain⟨callee,args,q⟩:=p;simp only at hc;subst hc;simp only;generalize hy:pj e _=y;cases y with
  |true=>
   simp only[cT];refine b9.bind (Ag.yieldee e _) fun g _=>?_;exact b9.plain (g:=fun m=>nq r g.1 g.2 m s) (by simp[cu]) qw
  |false=>
   simp only[cF];refine b9.bind (Ag.callee e _) fun g _=>?_;exact b9.plain (g:=fun m=>r.call g.1 g.2 m s) (by simp[cu]) qw
 |invoke a b=>
  obtain⟨callee,args,q⟩:=p;simp only at hc;subst hc;simp only;generalize hy:pj e _=y;cases y with
  |true=>
   simp only[cT];refine b9.bind (Ag.yieldee e _) fun g _=>?_;exact b9.plain (g:=fun m=>nq r g.1 g.2 m s) (by simp[cu]) qw
  |false=>
   simp only[cF];refine b9.bind (Ag.callee e _) fun g _=>?_;exact b9.plain (g:=fun m=>r.call g.1 g.2 m s) (by simp[cu]) qw
end
def He(bi:Nat)(r:fZ)(foot:dt)(loud:Bool)(m:aK):Prop:=
 bi.testBit r.i=true\/(((loud||r.loud)&&foot.meets r.foot)=false/\ ∀n,r.c0<=n->n<r.c1->eh m n=true)
theorem XJ{bi:Nat}{mk:aK}: ∀ {rs:List fZ} {r:fZ},r∈rs->bi.testBit r.i=false-> ∀n,r.c0<=n->n<r.c1->eh (jp bi rs mk) n=true
 | [],_,h,_,_,_,_=>by cases h
 |q::rs,r,h,hb,n,h0,h1=>by
  unfold jp;rcases List.mem_cons.1 h with rfl|h
  grind [U1,eh,tN,FN]
  have p:=XJ (mk:=mk) h hb n h0 h1
  grind [eh]
theorem afP{foot:dt}{loud:Bool}(h:pS bi foot loud rs=true){r:fZ}(hr:r∈rs):He bi r foot loud (jp bi rs mk):=by
 have:=f8.1 h r hr;cases hb:bi.testBit r.i with
 |true=>exact .inl hb
 |false=>
  refine .inr ⟨?_,XJ hr hb⟩
  grind
section
variable(Q:aH)(f:FuncId)(all:Array Oper)(mk:aK)(F:Nat->Fr)(S:Nat->St)(M:Nat->aK)(lv:Nat->Nat)(Lo:Nat->Bool)
def Hn(k:Nat)(o:Oper):Prop:=
 (fK all (F k).env o=true/\ ∃v loc' s1,fS Q (cy Q (lv k)) f o (M k) (F k) ⟨(S k).heap,(S k).aL,(S k).aL,(S k).ci⟩=some (v,loc',s1)/\s1.ci=(S k).ci/\
  di (F k) o.dst v loc'=some (F (k+1))/\S (k+1)=(S k).rX s1/\Lo k=(bm s1.gt (S k).aL||isStore o.op))\/
 (fK all (F k).env o=false/\di (F k) o.dst gM (F k).loc=some (F (k+1))/\S (k+1)=S k)
structure D8 (i:Nat) (rs:List fZ) (bs:List Nat) (l:List Oper):Prop where
 step: ∀k o,l[k]? =some o->Hn Q f all F S M lv Lo (i+k) o
 more: ∀k o,l[k]? =some o-> ∀n,eh mk n=true->eh (M (i+k)) n=true
 old: ∀k o,l[k]? =some o->fK all (F (i+k)).env o=true-> ∀r∈rs,He ((bs[k]?).getD 0) r (cu (Q.hint f) o.dst (F (i+k)).env o.op) (Lo (i+k)) (M (i+k))
 pair: ∀k k' o o',k'<k->l[k]? =some o->l[k']? =some o'->fK all (F (i+k)).env o=true->fK all (F (i+k')).env o'=true->
  He ((bs[k]?).getD 0) ⟨i+k',(S (i+k')).aL,(S (i+k'+1)).aL,cu (Q.hint f) o'.dst (F (i+k')).env o'.op,Lo (i+k')⟩ (cu (Q.hint f) o.dst (F (i+k)).env o.op) (Lo (i+k)) (M (i+k))
end
theorem U5(bs:List Nat):(bs[0]?).getD 0=bs.headD 0:=by cases bs<;>rfl
def Qy(bs:List Nat)(k:Nat):bs.tail[k]? =bs[k+1]? :=by cases bs<;>simp
def u5(i:Nat)(a:α)(F:Nat->α): ∃p:Nat->α,p i=a/\ ∀k,p (i+1+k)=F (i+1+k):=
 ⟨fun k=>if k=i then a else F k,by simp,fun k=>by simp only;rw[iN (by omega)]⟩
variable{bs:List Nat}{Lo:Nat->Bool}{F:Nat->Fr}{lv:Nat->Nat}{S:Nat->St}{M:Nat->aK}
theorem D8.cons{all:Array Oper}{I:Nat->Fr}{O:Nat->St}{R:Nat->aK}{C:Nat->Nat}{q:Nat->Bool}{z:List fZ}{l:List Oper}(t:D8 Q f all mk F S M lv Lo (i+1) z bs.tail l)(J: ∀k,I (i+1+k)=F (i+1+k))(T: ∀k,O (i+1+k)=S (i+1+k))(U: ∀k,R (i+1+k)=M (i+1+k))(a0: ∀k,C (i+1+k)=lv (i+1+k))(y: ∀k,q (i+1+k)=Lo (i+1+k))(V:Hn Q f all I O R C q i o)(Z: ∀n,eh mk n=true->eh (R i) n=true)(a1:fK all (I i).env o=true-> ∀r∈rs,He (bs.headD 0) r (cu (Q.hint f) o.dst (I i).env o.op) (q i) (R i))(Y: ∀r∈rs,r∈z)(hr:fK all (I i).env o=true->⟨i,(O i).aL,(O (i+1)).aL,cu (Q.hint f) o.dst (I i).env o.op,q i⟩∈z):D8 Q f all mk I O R C q i rs bs (o::l) where
 step k p hk:=by
  cases k with
  |zero=>simp at hk;subst hk;exact V
  |succ k=>
   have:=t.step k p (by simpa using hk);unfold Hn at this ⊢;rw[show i+(k+1)=i+1+k by omega,show i+1+k+1=i+1+(k+1) by omega,J,J,T,T,U,a0,y];exact this
 more k p hk n hn:=by
  cases k with
  |zero=>exact Z n hn
  |succ k=>rw[show i+(k+1)=i+1+k by omega,U];exact t.more k p (by simpa using hk) n hn
 old k p hk hw r hr:=by
  cases k with
  |zero=>grind [U5]
  |succ k=>
   rw[show i+(k+1)=i+1+k by omega] at hw ⊢;rw[J] at hw ⊢;rw[U,y,<-Qy];exact t.old k p (by simpa using hk) hw r (Y r hr)
 pair k E p p' hlt hk hk' hw hw':=by
  cases k with
  |zero=>omega
  |succ k=>
   rw[show i+(k+1)=i+1+k by omega] at hw ⊢;rw[J] at hw ⊢;rw[U,y,<-Qy];cases E with
   |zero=>
    simp at hk';subst hk';exact t.old k p (by simpa using hk) hw _ (hr hw')
   |succ E=>
    rw[show i+(E+1)=i+1+E by omega] at hw' ⊢;rw[J] at hw' ⊢;rw[y,show i+1+E+1=i+1+(E+1) by omega,T,T];exact t.pair k E p p' (by omega) (by simpa using hk) (by simpa using hk') hw hw'
theorem My{Q:aH}{f:FuncId}{all:Array Oper}{mk:aK}: ∀ {l:List Oper} {n:Nat} {bs:List Nat} {rs:List fZ} {i:Nat} {fr fr':Fr} {s s':St},
 (cy Q n).draw f all bs mk rs i l fr s=some (fr',s')->
 ∃F S M lv Lo,F i=fr/\S i=s/\F (i+l.length)=fr'/\S (i+l.length)=s'/\(∀k o,l[k]? =some o->lv (i+k)<n)/\D8 Q f all mk F S M lv Lo i rs bs l
 |l,0,bs,rs,i,fr,fr',s,s',h=>by cases h
 | [],n+1,bs,rs,i,fr,fr',s,s',h=>by
   have h:some (fr,s)=some (fr',s'):=h;simp only[aJ,bI] at h;obtain⟨rfl,rfl⟩:=h;exact⟨fun _=>fr,fun _=>s,fun _=>mk,fun _=>0,fun _=>false,rfl,rfl,rfl,rfl,by simp,⟨by simp,by simp,by simp,by simp⟩⟩
 |o::l,n+1,bs,rs,i,fr,fr',s,s',h=>by
  have h:mQ Q (cy Q n) f all bs mk rs i (o::l) fr s=some (fr',s'):=h;simp only[mQ] at h;cases hw:fK all fr.env o with
  |true=>
   simp only[hw,cT,ak] at h;obtain⟨⟨v,loc',s1⟩,h1,h⟩:=h;obtain⟨hc,h⟩:=bh h;simp only[ak] at h;obtain⟨fr1,hf,h⟩:=h;simp only[bu] at hc;obtain⟨a0,E⟩:=hc;have E:=U1 E;obtain⟨F,S,M,lv,Lo,e1,e2,e3,e4,Y,t⟩:=My h;obtain⟨U,C,T⟩:=u5 i fr F;obtain⟨O,J,I⟩:=u5 i s S;obtain⟨M',M0,M1⟩:=u5 i (jp (bs.headD 0) rs mk) M;obtain⟨q,V,p⟩:=u5 i n lv;obtain⟨z,R,y⟩:=u5 i (bm s1.gt s.aL||isStore o.op) Lo;have eF:U (i+1)=fr1:=(T 0).trans e1;have Z:O (i+1)=s.rX s1:=(I 0).trans e2;refine⟨U,O,M',q,z,C,J,?_,?_,?_,t.cons T I M1 p y ?_ ?_ ?_ ?_ ?_⟩
   grind
   grind
   grind
   ·refine .inl ⟨by rw[C];exact hw,v,loc',s1,?_,?_,?_,?_,?_⟩
    all_goals grind
   grind [U6]
   grind [afP]
   grind
   intro _;rw[J,Z,C,R];exact List.mem_cons_self
  |false=>
   simp only[hw,cF,ak] at h;obtain⟨fr1,hf,h⟩:=h;obtain⟨F,S,M,lv,Lo,e1,e2,e3,e4,Y,t⟩:=My h;obtain⟨U,C,T⟩:=u5 i fr F;obtain⟨O,J,I⟩:=u5 i s S;obtain⟨M',M0,M1⟩:=u5 i mk M;obtain⟨q,V,p⟩:=u5 i n lv;obtain⟨z,R,y⟩:=u5 i false Lo;have eF:U (i+1)=fr1:=(T 0).trans e1;have Z:O (i+1)=s:=(I 0).trans e2;refine⟨U,O,M',q,z,C,J,?_,?_,?_,t.cons T I M1 p y ?_ ?_ ?_ ?_ ?_⟩
   grind
   grind
   grind
   exact .inr ⟨by rw[C];exact hw,by rw[C,eF];exact hf,by rw[J,Z]⟩
   all_goals grind
theorem Sg{ops:Array Oper}: ∀ {l:List Oper} {bs:List Nat} {b:Nat},oa ops b l bs=true-> ∀i j x y,i<j->l[i]? =some x->l[j]? =some y->((bs[j]?).getD 0).testBit (b+i)=true\/Ew ops x y=true
 | [],_,_,_,i,j,x,y,_,hx,_=>by simp at hx
 |o::l,bs,b,h,i,j,x,y,hlt,hx,p=>by
  simp only[oa,bu] at h;obtain⟨_,h1,C⟩:=h;cases j with
  |zero=>omega
  |succ j=>
   rw[<-Qy];cases i with
   |succ i=>
    have:=Sg C i j x y (by omega) (by simpa using hx) (by simpa using p)
    grind
   |zero=>
    simp at hx;subst hx;have q: ∀ {l:List Oper} {bs:List Nat},Hs ops o b l bs=true-> ∀(j:Nat) y,l[j]? =some y->((bs[j]?).getD 0).testBit b=true\/Ew ops o y=true:=by
     intro l
     induction l with
     |nil=>intro bs _ j y p;simp at p
     |cons z l E=>
      grind [Hs,U5]
    exact q h1 j y (by simpa using p)
def Sf{ops:Array Oper}: ∀ {l:List Oper} {bs:List Nat} {b:Nat},oa ops b l bs=true-> ∀i x,l[i]? =some x-> ∀e∈x.after,Region.binds .any e=true->e.on<b+i
 | [],_,_,_,i,x,hx,_,_,_=>by simp at hx
 |o::l,bs,b,h,i,x,hx,e,he,hb=>by
  simp only[oa,bu] at h;obtain⟨h0,_,p⟩:=h;cases i with
  |zero=>
   simp at hx;subst hx
   have:=f8.1 h0 e (Array.mem_toList_iff.2 he)
   simp_all
  |succ i=>
   have:=Sf p i x (by simpa using hx) e he hb;omega
structure aV (Q:aH) (f:FuncId) (all:Array Oper) (mk:aK) (F:Nat->Fr) (S:Nat->St) (M:Nat->aK) (lv:Nat->Nat) (Lo:Nat->Bool):Prop where
 tr:D8 Q f all mk F S M lv Lo 0 [] (Region.before all).toList all.toList
 ap:oa all 0 all.toList (Region.before all).toList=true
 fresh: ∀n,(S 0).aL<=n->(S 0).heap.get n=none
variable{H:Nat->Option aR}
section
variable{Q:aH}{f:FuncId}{all:Array Oper}{mk:aK}{F:Nat->Fr}{S:Nat->St}{M:Nat->aK}{lv:Nat->Nat}{Lo:Nat->Bool}
noncomputable def aV.foot(Q:aH)(f:FuncId)(F:Nat->Fr)(k:Nat)(o:Oper):dt:=cu (Q.hint f) o.dst (F k).env o.op
noncomputable def aV.fm(Q:aH)(f:FuncId)(F:Nat->Fr)(S:Nat->St)(M:Nat->aK)(k:Nat)(o:Oper):aK:=rG (S k).aL (aV.foot Q f F k o) (M k)
def aV.step(t:aV Q f all mk F S M lv Lo)(p:all[k]? =some o):Hn Q f all F S M lv Lo k o:=by
 have:=t.tr.step k o (by simpa using p);rwa [bV] at this
def aV.done(t:aV Q f all mk F S M lv Lo)(y:all[k]? =some o)(q:fK all (F k).env o=true):
 ∃v loc' s1,fS Q (cy Q (lv k)) f o (M k) (F k) ⟨(S k).heap,(S k).aL,(S k).aL,(S k).ci⟩=some (v,loc',s1)/\s1.ci=(S k).ci/\
  di (F k) o.dst v loc'=some (F (k+1))/\S (k+1)=(S k).rX s1/\Lo k=(bm s1.gt (S k).aL||isStore o.op)/\
  gr (aV.fm Q f F S M k o) ⟨(S k).heap,(S k).aL,(S k).aL,(S k).ci⟩ s1:=by
 rcases t.step y with⟨_,v,loc',s1,h1,J,I,E,C⟩|⟨h,_⟩
 refine⟨v,loc',s1,h1,J,I,E,C,?_⟩;obtain⟨p,z,_⟩:=MU (c:=(S k).aL) (e:=(F k).env) (n:=(F k).size) (M k) (F k).loc v loc' s1 h1 (F k).loc (fun _ _=>.refl _ _);have hl:=FB (Q:=Q) (mt Q (lv k)) f o (aV.fm Q f F S M k o) (F k);exact(hl Q.ch _ v p s1 z).1;rw[q] at h;cases h
theorem aV.next_le(t:aV Q f all mk F S M lv Lo)(p:all[k]? =some o):(S k).aL<=(S (k+1)).aL:=by
 cases hw:fK all (F k).env o with
 |true=>
  obtain⟨v,loc',s1,_,_,_,q,_,g⟩:=t.done p hw;rw[q];exact g.aL
 |false=>
  rcases t.step p with⟨h,_⟩|⟨_,_,h⟩
  all_goals grind
theorem aV.mono(t:aV Q f all mk F S M lv Lo): ∀ {j:Nat},i<=j->j<=all.size->(S i).aL<=(S j).aL
 |0,h,_=>by grind
 |j+1,h,hj=>by
  by_cases e:i=j+1;rw[e];exact br _;exact fA (t.mono (by omega) (by omega)) (t.next_le (sw (by omega)))
theorem aV.none_above(t:aV Q f all mk F S M lv Lo): ∀ {k:Nat},k<=all.size-> ∀n,(S k).aL<=n->(S k).heap.get n=none
 |0,_,n,h=>t.fresh n h
 |k+1,hk,n,h=>by
  have p:all[k]? =some all[k]:=sw (by omega);have y:=t.next_le p;have q:=t.none_above (k:=k) (by omega) n (by omega);cases hw:fK all (F k).env all[k] with
  |true=>
   obtain⟨v,loc',s1,_,_,_,z,_,g⟩:=t.done p hw;rw[z] at h ⊢;refine(g.frame n ?_).trans q;rintro(⟨_,h'⟩|h');exact h' q;exact absurd h (by have:=h'.2;show¬s1.aL<=n;omega)
  |false=>
   rcases t.step p with⟨h',_⟩|⟨_,_,h'⟩
   all_goals grind
def aV.Th(Q:aH)(f:FuncId)(all:Array Oper)(F:Nat->Fr)(S:Nat->St)(M:Nat->aK)(k n:Nat):Prop:=
 ∃o,all[k]? =some o/\fK all (F k).env o=true/\nD (aV.fm Q f F S M k o) (S k) (S (k+1)) n
open Classical in
noncomputable def aV.X(Q:aH)(f:FuncId)(all:Array Oper)(F:Nat->Fr)(S:Nat->St)(M:Nat->aK)(H:Nat->Option aR)(n:Nat):Nat->Option aR
 |0=>H n
 |k+1=>if aV.Th Q f all F S M k n then(S (k+1)).heap.get n else aV.X Q f all F S M H n k
theorem aV.X_change(h:aV.X Q f all F S M H n (k+1)≠aV.X Q f all F S M H n k):aV.Th Q f all F S M k n:=by
 grind [aV.X]
theorem aV.X_sees(t:aV Q f all mk F S M lv Lo)(h0: ∀n o,eh mk n=false->(S 0).heap.get n=some o->H n=some o):
 ∀ {k:Nat},k<=all.size-> ∀n o,eh mk n=false->(S k).heap.get n=some o->aV.X Q f all F S M H n k=some o
 |0,_,n,o,hn,h=>h0 n o hn h
 |k+1,hk,n,o,hn,h=>by
  have p:all[k]? =some all[k]:=sw (by omega);rw[aV.X];split;exact h
  ·rename_i z
   refine t.X_sees h0 (by omega) n o hn ?_;cases hw:fK all (F k).env all[k] with
   |true=>
    obtain⟨v,loc',s1,_,_,_,q,_,g⟩:=t.done p hw;rw[q] at h;refine(g.frame n fun y=>z ⟨_,p,hw,?_⟩).symm.trans h;rw[q];exact y
   |false=>
    rcases t.step p with⟨h',_⟩|⟨_,_,h'⟩
    all_goals grind
end
def sM(all:Array Oper)(i j:Nat):Prop:=(((Region.before all).toList[j]?).getD 0).testBit i=true
theorem sM.dep{all:Array Oper}(h:sM all i j):pG all i j:=by
 grind [sM,ac7]
section
variable{Q:aH}{f:FuncId}{all:Array Oper}{mk:aK}{F:Nat->Fr}{S:Nat->St}{M:Nat->aK}{lv:Nat->Nat}{Lo:Nat->Bool}
def aV.compat(t:aV Q f all mk F S M lv Lo){q p:Oper}(y:i<j)(hi:all[i]? =some q)(I:all[j]? =some p)(C:fK all (F i).env q=true)(z:fK all (F j).env p=true)(E: ¬sM all i j):((Lo j||Lo i)&&(aV.foot Q f F j p).meets (aV.foot Q f F i q))=false/\ ∀n,(S i).aL<=n->n<(S (i+1)).aL->eh (M j) n=true:=by
 have:=t.tr.pair j i p q y (by simpa using I) (by simpa using hi) (by rw[bV];exact z) (by rw[bV];exact C);simp only[bV] at this;exact this.resolve_left E
def aV.lt_size(h:all[i]? =some o):i<all.size:=(Array.getElem?_eq_some_iff.1 h).1
theorem aV.loud(t:aV Q f all mk F S M lv Lo)(h0: ∀n o,eh mk n=false->(S 0).heap.get n=some o->H n=some o)(hi:all[i]? =some o)(w:fK all (F i).env o=true)(q:aV.X Q f all F S M H n (i+1)≠aV.X Q f all F S M H n i)(J:eh (aV.fm Q f F S M i o) n=false)(y:(S i).heap.get n≠none):Lo i=true:=by
 have E:=aV.X_change q;have p:n<(S i).aL:=by
  rcases nZ n (S i).aL with h|h
  exact h;exact absurd (t.none_above (zV (aV.lt_size hi)) n h) y
 obtain⟨v,loc',s1,_,_,_,I,O,g⟩:=t.done hi w;have z:eh mk n=false:=by
  cases e:eh mk n with
  |false=>rfl
  |true=>
   have:=t.tr.more i o (by simpa using hi) n e
   grind [aV.fm,MS]
 cases ho:(S i).heap.get n with
 |none=>exact absurd ho y
 |some ob=>
  have C:=t.X_sees h0 (zV (aV.lt_size hi)) n ob z ho;rw[aV.X,iP E,C,<-ho,I] at q
  have:=g.noted n p q
  grind [FN]
def amC{F1 p:dt}(h1:F1= .all\/F1= .obj n)(q:p= .all\/p= .obj n):F1.meets p=true:=by
 rcases h1 with rfl|rfl<;>rcases q with rfl|rfl<;>simp[dt.meets]
theorem aV.heap_apart(t:aV Q f all mk F S M lv Lo)(h0: ∀n o,eh mk n=false->(S 0).heap.get n=some o->H n=some o)(I:i<j)(hj:j<all.size)(hn: ¬sM all i j):
 (aV.Th Q f all F S M j n->aV.X Q f all F S M H n (i+1)=aV.X Q f all F S M H n i)/\
 (aV.Th Q f all F S M i n->aV.X Q f all F S M H n (j+1)=aV.X Q f all F S M H n j):=by
 have a0:aV.Th Q f all F S M i n->aV.Th Q f all F S M j n->
  (aV.X Q f all F S M H n (i+1)≠aV.X Q f all F S M H n i\/aV.X Q f all F S M H n (j+1)≠aV.X Q f all F S M H n j)->False:=by
  rintro⟨U,hi,R,Z⟩ ⟨T,y,O,Tj⟩ J;obtain⟨z,c2⟩:=t.compat I hi y R O hn;have a2:(S (i+1)).aL<=(S j).aL:=t.mono (by omega) (by omega);have Y:=t.next_le hi;have p:eh (aV.fm Q f F S M j T) n=false/\(S j).heap.get n≠none:=by
   rcases Tj with h|h
   exact h;exfalso;rcases Z with⟨_,hp⟩|h'
   exact hp (t.none_above (by omega) n (by omega));omega
  have C:=MR p.1;have a1:n<(S j).aL:=by
   rcases nZ n (S j).aL with h|h
   exact h;exact absurd (t.none_above (by omega) n h) p.2
  have q:eh (aV.fm Q f F S M i U) n=false/\(S i).heap.get n≠none:=by
   rcases Z with h|h
   exact h
   grind
  have E:=MR q.1;have V:n<(S i).aL:=by
   rcases nZ n (S i).aL with h|h
   exact h;exact absurd (t.none_above (by omega) n h) q.2
  have hm:(aV.foot Q f F j T).meets (aV.foot Q f F i U)=true:=
   amC (C.2.imp id fun h=>h.resolve_right (by omega)) (E.2.imp id fun h=>h.resolve_right (by omega))
  rw[hm,Bool.and_true] at z;rcases J with h|h
  rw[t.loud h0 hi R h q.1 q.2] at z;simp at z;rw[t.loud h0 y O h p.1 p.2] at z;simp at z
 grind [aV.X_change]
end
variable{fr:Fr}{v:aa}
theorem t0(h:di fr dst v l=some fr'):
 fr'.size=fr.size/\fr'.loc=l/\(∀d,dst=some d->d<fr.size/\ac fr'.env d=v)/\ ∀t,dst≠some t->ac fr'.env t=ac fr.env t:=by
 unfold di at h
 grind [qA,ac,Pr,aC.get_set]
theorem aeM{x y:Oper}(h:Ew ops x y=true):(∀d,x.dst=some d->d ∉ AY ops y/\y.dst≠some d)/\ ∀d,y.dst=some d->d ∉ AY ops x:=by
 simp only[Ew,bu] at h;have p: ∀(d:Nat) (l:List Nat),l.any (aQ d)=false->d ∉ l:=by
  intro d l hl q;rw[List.any_eq_false] at hl;exact hl d q (by simp)
 obtain⟨h1,z⟩:=h;refine⟨fun d q=>?_,fun d q=>?_⟩;rw[q] at h1;simp only[bu,Bool.not_eq_true'] at h1;refine⟨p d _ h1.1,fun e=>?_⟩
 simp_all
 grind
section
variable{Q:aH}{f:FuncId}{all:Array Oper}{mk:aK}{F:Nat->Fr}{S:Nat->St}{M:Nat->aK}{lv:Nat->Nat}{Lo:Nat->Bool}
def aV.Te(all:Array Oper)(k t:Nat):Prop:= ∃o,all[k]? =some o/\(t∈AY all o\/o.dst=some t)
theorem aV.put(t:aV Q f all mk F S M lv Lo)(p:all[k]? =some o): ∃v l,di (F k) o.dst v l=some (F (k+1)):=by
 rcases t.step p with⟨_,v,loc',s1,_,_,q,_⟩|⟨_,h,_⟩
 all_goals grind
def aV.env_change(t:aV Q f all mk F S M lv Lo)(q:all[k]? =some o)(h:ac (F (k+1)).env d≠ac (F k).env d):o.dst=some d:=by
 obtain⟨v,l,p⟩:=t.put q;by_cases e:o.dst=some d;exact e;exact absurd ((t0 p).2.2.2 d e) h
def aV.size_eq(t:aV Q f all mk F S M lv Lo): ∀ {k:Nat},k<=all.size->(F k).size=(F 0).size
 |0,_=>rfl
 |k+1,h=>by
  obtain⟨v,l,p⟩:=t.put (sw (show k<all.size by omega));rw[(t0 p).1];exact t.size_eq (by omega)
theorem aV.env_apart(t:aV Q f all mk F S M lv Lo)(C:i<j)(O:j<all.size)(J: ¬sM all i j):
 (aV.Te all j d->ac (F (i+1)).env d=ac (F i).env d)/\(aV.Te all i d->ac (F (j+1)).env d=ac (F j).env d):=by
 have z:all[i]? =some all[i]:=sw (by omega);have y:all[j]? =some all[j]:=sw O
 have:=Sg t.ap i j all[i] all[j] C (by simp) (by simp);rw[bV] at this;obtain⟨h1,T⟩:=aeM (this.resolve_left J);constructor;rintro⟨o,p,E⟩;rw[y] at p;injection p with p;subst p
 apply sB;intro q;obtain⟨I,R⟩:=h1 d (t.env_change z q);exact E.elim I R;rintro⟨o,p,E⟩;rw[z] at p;injection p with p;subst p
 apply sB;intro q;have I:=t.env_change y q
 grind
def aV.L(F:Nat->Fr)(t k:Nat):Nat×(Nat->Option (List aa)):=((F k).loc.gen t,fun g=>(F k).loc.get t g)
theorem aV.L_eq{F:Nat->Fr}{t p:Nat}:aV.L F t k=aV.L F t p↔md (F k).loc (F p).loc t:=by
 grind [aV.L,md]
def aV.Tl(Q:aH)(f:FuncId)(all:Array Oper)(F:Nat->Fr)(k u:Nat):Prop:= ∃o,all[k]? =some o/\fK all (F k).env o=true/\aV.foot Q f F k o= .loc u
theorem aV.loc_change(t:aV Q f all mk F S M lv Lo)(z:k<all.size)(h:aV.L F u (k+1)≠aV.L F u k):aV.Tl Q f all F k u/\Lo k=true:=by
 have p:all[k]? =some all[k]:=sw z;rcases t.step p with⟨w,v,loc',s1,h1,_,I,_,O⟩|⟨_,y,_⟩
 have hl:=(t0 I).2.1;obtain⟨q,_,_,E,J⟩:=MU (c:=(S k).aL) (e:=(F k).env) (n:=(F k).size) (M k) (F k).loc v loc' s1 h1 (F k).loc (fun _ _=>.refl _ _);constructor;apply sB;intro C;apply h;rw[aV.L_eq,hl];exact(E u fun e=>C ⟨_,p,w,e⟩).1
 grind [aV.L_eq]
 exfalso;apply h;rw[aV.L_eq,(t0 y).2.1];exact .refl _ _
def aV.loc_apart(t:aV Q f all mk F S M lv Lo)(z:i<j)(T:j<all.size)(R: ¬sM all i j):
 (aV.Tl Q f all F j u->aV.L F u (i+1)=aV.L F u i)/\(aV.Tl Q f all F i u->aV.L F u (j+1)=aV.L F u j):=by
 have q:aV.Tl Q f all F i u->aV.Tl Q f all F j u->(Lo i=true\/Lo j=true)->False:=by
  rintro⟨Z,hi,O,V⟩ ⟨Y,y,J,U⟩ hl;obtain⟨I,_⟩:=t.compat z hi y O J R;rw[V,U] at I;rcases hl with h|h<;>rw[h] at I<;>simp[dt.meets] at I
 constructor;intro C;apply sB;intro p;obtain⟨h1,E⟩:=t.loc_change (by omega) p;exact q h1 C (.inl E);intro C;apply sB;intro p;obtain⟨h1,E⟩:=t.loc_change T p;exact q C h1 (.inr E)
end
section
variable{Q:aH}{f:FuncId}{all:Array Oper}{mk:aK}{F:Nat->Fr}{S:Nat->St}{M:Nat->aK}{lv:Nat->Nat}{Lo:Nat->Bool}
structure ll (Q:aH) (f:FuncId) (all:Array Oper) (F:Nat->Fr) (S:Nat->St) (M:Nat->aK) (H:Nat->Option aR) (D:Nat->Prop) (fr:Fr) (h:Nat->Option aR):Prop where
 env: ∀t,ac fr.env t=mix (fun k=>ac (F k).env t) D all.size
 size:fr.size=(F 0).size
 loc: ∀u,(fr.loc.gen u,fun g=>fr.loc.get u g)=mix (aV.L F u) D all.size
 heap: ∀n,h n=mix (aV.X Q f all F S M H n) D all.size
def Lg(all:Array Oper)(D:Nat->Prop):Prop:= ∀j o,D j->all[j]? =some o-> ∀e∈o.after,Region.binds .any e=true->D e.on
structure mO (all:Array Oper) (D:Nat->Prop) (j:Nat) (o:Oper):Prop where
 closed:Lg all D
 at_:all[j]? =some o
 new: ¬D j
 preds: ∀e∈o.after,Region.binds .any e=true->D e.on
def mO.ord{D:Nat->Prop}{j:Nat}{o:Oper}(x:mO all D j o)(h:sM all i j):D i:=
 h.dep.ready x.closed fun z p e q y=>by
  rw[x.at_] at p;injection p with p;subst p
  exact x.preds e q y
def mO.notOrd{D:Nat->Prop}{j:Nat}{o:Oper}(x:mO all D j o)(p:D k): ¬sM all j k:=fun h=>x.new (h.dep.closed x.closed p)
def mO.both{X:Nat->α}{D:Nat->Prop}{j:Nat}{o:Oper}(x:mO all D j o)(I: ∀i,i<j-> ¬sM all i j->X (i+1)=X i)(J: ∀k,j<k->k<all.size-> ¬sM all j k->X (k+1)=X k):
 mix X D all.size=X j/\mix X (fun k=>D k\/k=j) all.size=X (j+1):=by
 have E:=aV.lt_size x.at_;have q: ∀i,i<j->X (i+1)≠X i->D i:=fun i hi z=>by
  apply sB;intro p;exact z (I i hi fun h=>p (x.ord h))
 have y: ∀k,j<k->k<all.size->D k->X (k+1)=X k:=fun k h1 C p=>J k h1 C (x.notOrd p);refine⟨XU (by omega) q fun k h1 C p=>?_,amK E q y⟩;by_cases e:k=j;exact absurd (e▸p) x.new;exact y k (by omega) C p
def mO.env(t:aV Q f all mk F S M lv Lo){D:Nat->Prop}{j:Nat}{o:Oper}(x:mO all D j o)(q:aV.Te all j d):
 mix (fun k=>ac (F k).env d) D all.size=ac (F j).env d/\mix (fun k=>ac (F k).env d) (fun k=>D k\/k=j) all.size=ac (F (j+1)).env d:=
 x.both (X:=fun k=>ac (F k).env d) (fun C hi p=>(t.env_apart hi (aV.lt_size x.at_) p).1 q) fun z h1 y p=>(t.env_apart h1 y p).2 q
def mO.loc(t:aV Q f all mk F S M lv Lo){D:Nat->Prop}{j:Nat}{o:Oper}(x:mO all D j o)(q:aV.Tl Q f all F j u):
 mix (aV.L F u) D all.size=aV.L F u j/\mix (aV.L F u) (fun k=>D k\/k=j) all.size=aV.L F u (j+1):=
 x.both (fun C hi p=>(t.loc_apart hi (aV.lt_size x.at_) p).1 q) fun z h1 y p=>(t.loc_apart h1 y p).2 q
def mO.heap(t:aV Q f all mk F S M lv Lo){H:Nat->Option aR}(h0: ∀n o,eh mk n=false->(S 0).heap.get n=some o->H n=some o){D:Nat->Prop}{j:Nat}{o:Oper}(x:mO all D j o)(q:aV.Th Q f all F S M j n):
 mix (aV.X Q f all F S M H n) D all.size=aV.X Q f all F S M H n j/\mix (aV.X Q f all F S M H n) (fun k=>D k\/k=j) all.size=aV.X Q f all F S M H n (j+1):=
 x.both (fun C hi p=>(t.heap_apart h0 hi (aV.lt_size x.at_) p).1 q) fun z h1 y p=>(t.heap_apart h0 h1 y p).2 q
variable{H:Nat->Option aR}{D:Nat->Prop}{fr:Fr}{h:Nat->Option aR}{j:Nat}{o:Oper}
def ll.ev(t:aV Q f all mk F S M lv Lo)(c:ll Q f all F S M H D fr h)(x:mO all D j o): ∀y∈o.op.operands,Ag.ev fr.env y=Ag.ev (F j).env y:=by
 intro y p;cases y with
 |tmp d=>
  simp only[Ag.ev];rw[c.env d,(x.env t ⟨o,x.at_,.inl ?_⟩).1];unfold AY;refine List.mem_append_left _ (List.mem_filterMap.2 ⟨.tmp d,by simpa using p,rfl⟩)
 |_=>rfl
theorem ll.wanted(t:aV Q f all mk F S M lv Lo)(c:ll Q f all F S M H D fr h)(x:mO all D j o):fK all fr.env o=fK all (F j).env o:=by
 unfold fK;cases hg:o.guard with
 |none=>rfl
 |some g=>
  obtain⟨g,p⟩:=g;simp only;cases hd:(all[g]?).bind (·.dst) with
  |none=>rfl
  |some d=>
   simp only;rw[c.env d,(x.env t ⟨o,x.at_,.inl ?_⟩).1]
   grind [AY]
end
def Zs(h: ∀d,dst=some d->d<fr.size): ∃fr',di fr dst v l=some fr':=by
 unfold di;cases hd:dst with
 |none=>exact⟨_,rfl⟩
 |some d=>
  have:bm d fr.size=true:=by rw[FN];exact dQ (h d hd)
  simp only[this,cT];exact⟨_,rfl⟩
section
variable{Q:aH}{f:FuncId}{all:Array Oper}{mk:aK}{F:Nat->Fr}{S:Nat->St}{M:Nat->aK}{lv:Nat->Nat}{Lo:Nat->Bool}
variable{H:Nat->Option aR}{D:Nat->Prop}{fr:Fr}{h:aC aR}{j:Nat}{o:Oper}
def aV.from_(S:Nat->St)(j:Nat)(h:aC aR):St:=⟨h,(S j).aL,(S j).aL,(S j).ci⟩
theorem ll.sees(t:aV Q f all mk F S M lv Lo)(h0: ∀n o,eh mk n=false->(S 0).heap.get n=some o->H n=some o)(c:ll Q f all F S M H D fr h.get)(x:mO all D j o)(q:fK all (F j).env o=true):jj (aV.fm Q f F S M j o) (aV.from_ S j (S j).heap) (aV.from_ S j h) where
 aL:=rfl
 gt:=rfl
 ci:=rfl
 get n ob hn p:=by
  have p:(S j).heap.get n=some ob:=p;show h.get n=some ob;have y:aV.Th Q f all F S M j n:=⟨o,x.at_,q,.inl ⟨hn,by rw[p];simp⟩⟩;rw[c.heap n,(x.heap t h0 y).1];refine t.X_sees h0 (zV (aV.lt_size x.at_)) n ob ?_ p;cases e:eh mk n with
  |false=>rfl
  |true=>
   have:=t.tr.more j o (by simpa using x.at_) n e
   grind [aV.fm,MS]
def ll.run(t:aV Q f all mk F S M lv Lo)(h0: ∀n o,eh mk n=false->(S 0).heap.get n=some o->H n=some o)(c:ll Q f all F S M H D fr h.get)(x:mO all D j o)(O:fK all (F j).env o=true):
 ∃v loc' s1 fr',fS Q (cy Q (lv j)) f o (aV.fm Q f F S M j o) fr (aV.from_ S j (S j).heap)=some (v,loc',s1)/\s1.ci=(S j).ci/\s1.aL=(S (j+1)).aL/\di fr o.dst v loc'=some fr'/\
  ∀s2',ib (aV.fm Q f F S M j o) (aV.from_ S j (S j).heap) s1 (aV.from_ S j h) s2'->ll Q f all F S M H (fun k=>D k\/k=j) fr' s2'.heap.get:=by
 obtain⟨v,I,s1,h1,h2,h3,U,h5,g⟩:=t.done x.at_ O;obtain⟨q,V,e2,e3,e4⟩:=MU (c:=(S j).aL) (e:=(F j).env) (n:=(F j).size) (M j) (F j).loc v I s1 h1 fr.loc (fun u J=>by
  have p:aV.Tl Q f all F j u:=⟨o,x.at_,O,J⟩;have T:=(c.loc u).trans (x.loc t p).1;unfold aV.L at T;rw[bI] at T;exact⟨T.1.symm,fun g=>(congrFun T.2 g).symm⟩)
 have V:fS Q (cy Q (lv j)) f o (aV.fm Q f F S M j o) ⟨(F j).env,(F j).size,fr.loc⟩ (aV.from_ S j (S j).heap)=some (v,q,s1):=V;rw[aoS (e2:=fr.env) (n2:=fr.size) (fun y hy=>(c.ev t x y hy).symm)] at V;have Y:fr.size=(F j).size:=c.size.trans (t.size_eq (zV (aV.lt_size x.at_))).symm;obtain⟨p1,p2,Z,p4⟩:=t0 h3;have R: ∃fr',di fr o.dst v q=some fr':=Zs fun d E=>by rw[Y];exact(Z d E).1
 obtain⟨fr',R⟩:=R;obtain⟨q1,q2,q3,q4⟩:=t0 R;refine⟨v,q,s1,fr',V,h2,by rw[U];rfl,R,fun s2' same=>⟨fun d=>?_,q1.trans c.size,fun u=>?_,fun n=>?_⟩⟩;by_cases E:o.dst=some d;rw[(q3 d E).2,(x.env t ⟨o,x.at_,.inr E⟩).2,(Z d E).2];rw[q4 d E,c.env d]
 simp_all [CT]
 rw[q2];by_cases J:aV.foot Q f F j o= .loc u;rw[(x.loc t ⟨o,x.at_,O,J⟩).2]
 have:=e2 u J;unfold aV.L;rw[p2,this.1];rw[bI];exact⟨rfl,funext fun g=>(this.2 g).symm⟩;obtain⟨a1,a2⟩:=e3 u J;rw[CT (X:=aV.L F u) (aV.L_eq.2 (by rw[p2];exact a1)),<-c.loc u,bI];exact⟨a2.1,funext a2.2⟩;have C:aV.Th Q f all F S M j n↔nD (aV.fm Q f F S M j o) (aV.from_ S j (S j).heap) s1 n:=by
  constructor;rintro⟨o',z,_,p⟩;rw[x.at_] at z;injection z with z;subst z
  rw[U] at p;exact p;intro p;refine⟨o,x.at_,O,?_⟩;rw[U];exact p
 by_cases p:aV.Th Q f all F S M j n;rw[(x.heap t h0 p).2,aV.X,iP p,U];exact same.inside n (C.1 p);rw[CT (X:=aV.X Q f all F S M H n) (by rw[aV.X,iN p]),<-c.heap n];exact same.outside n (fun e=>p (C.2 e))
theorem ll.skip(t:aV Q f all mk F S M lv Lo)(c:ll Q f all F S M H D fr h.get)(x:mO all D j o)(U:fK all (F j).env o=false):
 ∃fr',di fr o.dst gM fr.loc=some fr'/\ll Q f all F S M H (fun k=>D k\/k=j) fr' h.get:=by
 rcases t.step x.at_ with⟨h',_⟩|⟨_,V,_⟩
 rw[U] at h';cases h';have y:fr.size=(F j).size:=c.size.trans (t.size_eq (zV (aV.lt_size x.at_))).symm;obtain⟨Z,R,C,Y⟩:=t0 V;have q: ∃fr',di fr o.dst gM fr.loc=some fr':=Zs fun d p=>by rw[y];exact(C d p).1
 obtain⟨fr',q⟩:=q;obtain⟨O,J,I,E⟩:=t0 q;refine⟨fr',q,⟨fun d=>?_,O.trans c.size,fun u=>?_,fun n=>?_⟩⟩;by_cases p:o.dst=some d;rw[(I d p).2,(x.env t ⟨o,x.at_,.inr p⟩).2,(C d p).2];rw[E d p,c.env d]
 simp_all [CT]
 rw[J,CT (X:=aV.L F u) (aV.L_eq.2 (by rw[R];exact .refl _ _)),<-c.loc u];rw[CT (X:=aV.X Q f all F S M H n) ?_,<-c.heap n];rw[aV.X,iN];rintro⟨o',z,T,_⟩;rw[x.at_] at z;grind
theorem ll.start{s2:aC aR}(p: ∀k, ¬D k):ll Q f all F S M s2.get D (F 0) s2.get where
 env d:=(OX (X:=fun k=>ac (F k).env d) fun k _=>p k).symm
 size:=rfl
 loc u:=by grind [OX,aV.L]
 heap n:=by grind [OX,aV.X]
theorem ll.fin(c:ll Q f all F S M H D fr h.get)(p: ∀k,k<all.size->D k):
 fr.size=(F 0).size/\(∀d,ac fr.env d=ac (F all.size).env d)/\(∀u,md fr.loc (F all.size).loc u)/\ ∀n,h.get n=aV.X Q f all F S M H n all.size:=by
 refine⟨c.size,fun d=>?_,fun u=>?_,fun n=>?_⟩;rw[c.env d];grind [OV]
 have:=c.loc u;rw[OV p] at this;unfold aV.L at this;rw[bI] at this;exact⟨this.1,congrFun this.2⟩;rw[c.heap n];exact OV p
end
def mT:Option Nat->Fence
 |none=>Fence.wide
 |some l=>Fence.wide.inRound l
def Ay(ro:Option Nat)(f:FuncId):(mT ro).fn f:=by cases ro<;>exact trivial
def afq(ro:Option Nat):(mT ro).depth=none:=by cases ro<;>rfl
def afs(ro:Option Nat):(mT ro).round=ro:=by cases ro<;>rfl
def afr(ro:Option Nat)(l:Nat):(mT ro).inRound l=mT (some l):=by cases ro<;>rfl
def MH(ro:Option Nat)(n:Nat):(mT ro).depth.isSome=true->1<=n:=by rw[afq];intro h;cases h
variable{args:Array Value}{w:World}
def Uu{ro:Option Nat}{R:Ending->World->Prop}:CallsIn (mT ro) 0 P f args w R↔Calls P f args w R:=by
 cases ro with
 |none=>exact callsIn_wide
 |some l=>exact callsIn_wide (n:=0)
def qr:Obj->Prop
 | .loop _=>True
 | .deferred _=>True
 |_=>False
theorem qr.warm{o:Obj}(h:qr o):Obj.warm o:=by cases o<;>first|exact trivial|exact h.elim
variable{a:Addr}{tmps:Array Value}{B:Nat->Nat}
section
variable{G:Gh}{h:aC aR}{w:World}{b:Nat}{o ob:Obj}
theorem LQ(p:w.heap[b]? =some o)(q:qr o){C:Array Value}{e:TypeId}{z:Nat×Nat}:w.heap[b]? ≠some (.cells C e z):=by
 rw[p];intro h;injection h with h;subst h;exact q.elim
def acY(p:w.heap[b]? =some o)(q:qr o)(i:Nat):w.cell? ⟨b,i,none⟩=none:=by
 cases o<;>first
  |exact q.elim
  |simp[World.cell?,p]
def WR.aside_ro(x:WR G h w)(q:w.heap[b]? =some o)(z:qr o)(i:Nat):G.ro b i=none:=by
 cases e:G.ro b i with
 |none=>rfl
 |some v=>
  obtain⟨_,y,p,_⟩:=x.ro b i v e;rw[acY q z] at p;cases p
theorem WR.aside(x:WR G h w)(p:w.heap[b]? =some o)(E:qr o)(q: ¬fg G h b):WR G h (dU w b ob) where
 obj n o' hn:=by
  obtain⟨a,h1,h2,h3⟩:=x.obj n o' hn;refine⟨a,h1,h2,h3.of_block ?_⟩;rw[jZ w b _ ob (jB p),iN];intro e;exact q ⟨n,a,by rw[hn];simp,h1,e⟩
 sep:=x.sep
 ro c i v hv:=by
  have z:c≠b:=fun e=>by subst e;rw[x.aside_ro p E] at hv;cases hv
  obtain⟨h1,y,h2,h3⟩:=x.ro c i v hv
  grind [World.cell?,jZ]
 apart:=x.apart
 dim c d hd:=by
  have z:c≠b:=fun e=>by
   subst e;obtain⟨C,e,h1,_⟩:=x.dim c d hd;exact LQ p E h1
  rw[jZ w b _ ob (jB p),iN z];exact x.dim c d hd
 below n a ha':=by rw[Dh];exact x.below n a ha'
theorem qu.aside{loc:Loc}(x:qu G h B loc w)(p:w.heap[b]? =some o)(q:qr o):qu G h B loc (dU w b ob) where
 cells t cs ht:=by
  obtain⟨C,e,h1,h2⟩:=x.cells t cs ht
  grind [jZ,LQ]
 free:=x.free
 ro:=x.ro
 inj:=x.inj
def cN.aside(x:cN G h B fr tmps w)(p:w.heap[b]? =some o)(q:qr o):cN G h B fr tmps (dU w b ob):=
 ⟨x.size,x.env,x.locs.aside p q⟩
def cN.not_LB(x:cN G h B fr tmps w)(p:w.heap[b]? =some o)(q:qr o): ¬LB B fr.loc b:=by
 rintro⟨t,cs,h1,rfl⟩;obtain⟨C,e,y,_⟩:=x.locs.cells t cs h1;exact LQ p q y
def WR.not_deferred(x:WR G h w){d:Option (List Deferred)}(y:w.heap[b]? =some (.deferred d)): ¬fg G h b:=by
 rintro⟨n,a,h1,I,rfl⟩;cases e:h.get n with
 |none=>exact h1 e
 |some o=>
  obtain⟨a',z,_,q⟩:=x.obj n o e;rw[I] at z;injection z with z;subst z
  clear e
  induction o with
  |cells cs=>obtain⟨C,e,p,_⟩:=q;rw[y] at p;cases p
  |tok=>obtain⟨C,e,p⟩:=q;rw[y] at p;cases p
  |map O c=>obtain⟨R,p,_⟩:=q;rw[y] at p;cases p
  |iter m a b c=>obtain⟨_,J,p,_⟩:=q;rw[y] at p;cases p
  |loop _ _ _ _ _ _ _=>obtain⟨r,p,_⟩:=q;rw[y] at p;cases p
  |fix o E=>exact E q
theorem WR.back(x:WR G h w){lo:aR}(I:G.at_ n=some a)(U:a.spot=none)(z: ¬fg G h a.block)(hr:n8 G w a lo)(R: ∀i,G.ro a.block i=none):WR G (h.set n (some lo)) w:=by
 refine⟨?_,?_,x.ro,?_,x.dim,x.below⟩;intro m J p;rw[aC.get_set] at p;by_cases e:m=n
 grind
 rw[iN e] at p;exact x.obj m J p;intro m k c d p C y q E;rw[aC.get_set] at p C;by_cases e1:m=n<;>by_cases e2:k=n;rw[e1,e2];rw[e1,I] at y;rw[iN e2] at C;injection y with y;subst y
 exact absurd ⟨k,d,C,q,E.symm⟩ z;rw[e2,I] at q;rw[iN e1] at p;injection q with q;subst q
 exact absurd ⟨m,c,p,y,E⟩ z;rw[iN e1] at p;rw[iN e2] at C;exact x.sep m k c d p C y q E;intro m ob b i v p T O;rw[aC.get_set] at p;by_cases e:m=n
 grind
 rw[iN e] at p;exact x.apart m ob b i v p T O
theorem ao7{lo:aR}(y:G.at_ n=some a)(h':fg G (h.set n (some lo)) c):c=a.block\/fg G h c:=by
 obtain⟨m,d,h1,q,p⟩:=h';rw[aC.get_set] at h1;by_cases e:m=n
 grind
 rw[iN e] at h1;exact .inr ⟨m,d,h1,q,p⟩
variable{G0:Gh}{h0:aC aR}{w0:World}{lo hi:Nat}{L:Nat->Prop}
theorem ao6{lo:aR}(C:G.at_ n=some a)(h':lJ G (h.set n (some lo)) c):c=a.block\/lJ G h c:=by
 obtain⟨m,d,p,h1,q,z,y⟩:=h';rw[aC.get_set] at h1;by_cases e:m=n
 grind
 rw[iN e] at h1;exact .inr ⟨m,d,p,h1,q,z,y⟩
def jh.aside(x:jh G0 h0 w0 G h w lo hi L)(q:w.heap[b]? =some o)(z:qr o)(p:qr ob)(y:b<w0.heap.size->lJ G0 h0 b):jh G0 h0 w0 G h (dU w b ob) lo hi L where
 le:=x.le
 size:=by rw[Dh];exact x.size
 ownsW:=x.ownsW
 keepW c hc ho hl:=by
  rw[jZ w b c ob (jB q),iN];exact x.keepW c hc ho hl;intro e;subst e;exact ho (y hc)
 owns:=x.owns
 names:=x.names
 cells:=x.cells
 quiet:=x.quiet.trans (Gk w q z.warm p.warm)
def jh.toExt(x:jh G0 h0 w0 G h w lo hi L)(y: ∀b, ¬L b):cZ G0 h0 w0 G h w lo hi:=
 ⟨x.le,x.size,fun b q p=>x.keepW b q p (y b),x.owns,x.names,x.cells,x.quiet,x.ownsW⟩
def cZ.aside(x:cZ G0 h0 w0 G h w lo hi)(y:w.heap[b]? =some o)(z:qr o)(p:qr ob)(q:b<w0.heap.size->lJ G0 h0 b):cZ G0 h0 w0 G h (dU w b ob) lo hi:=
 (jh.aside (x.toL fun _=>False) y z p q).toExt fun _ h=>h
end
def xf(r:Nat):Deferred:= {target:=.collected r,args:= #[] }
structure wy (lo:Nat) (w:World) (rs:List Nat):Prop where
 nodup:rs.Nodup
 at_: ∀r∈rs,lo<=r/\w.heap[r]? =some (.deferred (some []))
def wy.nil(lo:Nat)(w:World):wy lo w []:=⟨.nil,fun _ h=>by cases h⟩
def PL(w:World)(b:Nat)(o:Obj):w.putObj b o=dU w b o:=rfl
def aae{G:Gh}: ∀ {ps:List Tmp} {args:List aa} {xs:List Value} {env q:ax} {size:Nat} {tmps:Array Value},Gz ps args env=some q->ck G args xs->
 (∀t∈ps,t<size)->tmps.size=size->(∀t,VR G (ac env t) (tmps.getD t undef))->
 xs.length=ps.length/\((ps.zip xs).foldl (fun tmps (t,a)=>tmps.setIfInBounds t a) tmps).size=size/\ ∀t,VR G (ac q t) (((ps.zip xs).foldl (fun tmps (t,a)=>tmps.setIfInBounds t a) tmps).getD t undef)
 | [],[],xs,env,q,size,tmps,he,hv,hp,hs,ht=>by
   cases hv;simp only[Gz,aJ] at he;subst he;exact⟨rfl,hs,ht⟩
 | [],_::_,_,_,_,_,_,he,_,_,_,_=>by cases he
 |_::_,[],_,_,_,_,_,he,_,_,_,_=>by cases he
 |p::ps,v::args,xs,env,q,size,tmps,he,hv,hp,hs,ht=>by
  cases hv with
  |cons a b=>
   rename_i x xs;have y:p<tmps.size:=by rw[hs];exact hp p (by simp)
   have:=aae (tmps:=tmps.setIfInBounds p x) (ps:=ps) he b (fun t h=>hp t (by simp[h])) (by simpa using hs) (fun t=>by
    rw[Ag.getD_set _ _ _ _ y];unfold ac;rw[aC.get_set];by_cases e:t=p;rw[iP e,iP e];exact a;rw[iN e,iN e];exact ht t)
   exact⟨by simp[this.1],this.2⟩
def lI(k:Nat)(ch p:Nat->Nat):Prop:= ∀i,i<k->p i=ch i
def lI.refl(k:Nat)(ch:Nat->Nat):lI k ch ch:=fun _ _=>rfl
def lI.trans{y:Nat}{q p:Nat->Nat}(h:lI k ch q)(h':lI y q p)(z:k<=y):lI k ch p:=fun i hi=>(h' i (hJ hi z)).trans (h i hi)
def l9(Q:aH)(ch:Nat->Nat):Prop:= ∀i,ch i<Q.kmax i
def Hi(s:St):Prop:= ∀n,s.aL<=n->s.heap.get n=none
variable{s':St}
def Hi.goes(h:Hi s)(g:gr mk s s'):Hi s':=fun n p=>by
 have h0:=h n (fA g.aL p);rw[g.frame n ?_];exact h0;rintro(⟨_,h'⟩|h');exact h' h0;omega
def mM(P:Program)(f:FuncId)(args:Array Value)(w:World)(R:Value->World->Prop):Prop:=
 (∃y w',(callFunc f args).run P w= .ok (.value y) w'/\R y w')\/
 ((callFunc f args).run P w= .ok (.enter f args) w/\Calls P f args w (fun e w'=> ∃y,e= .returned y/\R y w'))
def mM.mono{R q:Value->World->Prop}(h:mM P f args w R)(hr: ∀y w',R y w'->q y w'):mM P f args w q:=by
 rcases h with⟨y,w',h1,p⟩|⟨h1,p⟩
 exact .inl ⟨y,w',h1,hr y w' p⟩;exact .inr ⟨h1,p.mono fun e w' ⟨y,z,C⟩=>⟨y,z,hr y w' C⟩⟩
def abN(Q:aH):Prop:=
 ∀f sp,Q.specH f=some sp-> ∀args v (G:Gh) (h:aC aR) (w:World) (xs:List Value),WR G h w->ck G args xs->gm h.get (sp args)=some v->
  mM Q.P f ⟨xs⟩ w fun y w'=> ∃G',WR G' h w'/\cZ G h w G' h w' 0 0/\VR G' v y
def abP(Q:aH):Prop:=
 ∀f sp,Q.specW f=some sp-> ∀args (G:Gh) (h:aC aR) (w:World) (xs:List Value),WR G h w->ck G args xs->
  (sp args=some none->mM Q.P f ⟨xs⟩ w fun y w'=> ∃G',WR G' h w'/\cZ G h w G' h w' 0 0/\VR G' (.tup []) y)/\
  ∀n g cs cs',sp args=some (some (n,g))->h.get n=some (.cells cs)->gm h.get (g cs)=some (.agg cs')->
   mM Q.P f ⟨xs⟩ w fun y w'=> ∃G',WR G' (h.set n (some (.cells cs'))) w'/\cZ G h w G' (h.set n (some (.cells cs'))) w' 0 0/\VR G' (.tup []) y
def aAA(Q:aH):Prop:=
 ∀f sp,Q.specW f=some sp->Q.anew f=true-> ∀args (G:Gh) (h:aC aR) (w:World) (xs:List Value),WR G h w->ck G args xs->
  ∀n g cs cs' p a b len c q,sp args=some (some (n,g))->h.get n=some (.cells cs)->gm h.get (g cs)=some (.tup [.arr p a b len c,.agg cs'])->G.at_ q=none->
   mM Q.P f ⟨xs⟩ w fun y w'=> ∃G',WR G' ((h.set n none).set q (some (.cells cs'))) w'/\cZ G h w G' ((h.set n none).set q (some (.cells cs'))) w' q (q+1)/\VR G' (.arr p q 0 len len) y
def abO(Q:aH):Prop:=
 ∀f sp,Q.spec f=some sp-> ∀args v,sp args=some v-> ∀(G:Gh) (h:aC aR) (w:World) (xs:List Value),WR G h w->ck G args xs->
  mM Q.P f ⟨xs⟩ w fun y w'=> ∃G',WR G' h w'/\cZ G h w G' h w' 0 0/\VR G' v y
structure mg (mk:aK) (A:Nat->Prop) (G:Gh) (s s2:St) (w:World):Prop where
 fresh:Hi s
 sees:jj mk s s2
 wr:WR G s2.heap w
 free: ∀m,s.aL<=m->A m->G.at_ m=none
structure Hd (Q:aH) (n:Nat) (f:FuncId) (args:List aa) (mk:aK) (ch:Nat->Nat) (G:Gh) (s s2:St) (w:World) (y:Value) (w':World)
 (ch':Nat->Nat) (v:aa) (s' s2':St) (G':Gh):Prop where
 agree:lI s.ci ch ch'
 inb:l9 Q ch'
 eval:(cy (Q.at ch') n).call f args mk s=some (v,s')
 same:ib mk s s' s2 s2'
 wr:WR G' s2'.heap w'
 ext:cZ G s2.heap w G' s2'.heap w' s.aL s'.aL
 val:VR G' v y
def xW(Q:aH)(n:Nat):Prop:=
 ∀(f:FuncId) (args:List aa) (mk:aK) (s s2:St) (G:Gh) (w:World) (xs:List Value) (ch:Nat->Nat) (A:Nat->Prop),
  mg mk A G s s2 w->ck G args xs->l9 Q ch->
  (∀p,lI s.ci ch p->l9 Q p-> ∃v s',(cy (Q.at p) n).call f args mk s=some (v,s')/\ ∀m,s.aL<=m->m<s'.aL->A m)->
  mM Q.P f ⟨xs⟩ w fun y w'=> ∃p v s' s2' G',Hd Q n f args mk ch G s s2 w y w' p v s' s2' G'
section
variable{G G' G'':Gh}{h h' h'':aC aR}{w w' w'':World}{lo mid hi:Nat}{L L':Nat->Prop}
def jh.trans(x:jh G h w G' h' w' lo mid L)(y:jh G' h' w' G'' h'' w'' mid hi L')(p: ∀b,L' b->L b\/w.heap.size<=b)(l1:lo<=mid)(l2:mid<=hi):
 jh G h w G'' h'' w'' lo hi L where
 le:=x.le.trans y.le
 size:=fA x.size y.size
 keepW b hb ho hl:=(y.keepW b (hJ hb x.size) (fun o=>ho (x.ownsW b hb o)) (fun l=>(p b l).elim hl (fun h=>by omega))).trans (x.keepW b hb ho hl)
 ownsW b hb o:=x.ownsW b hb (y.ownsW b (hJ hb x.size) o)
 owns b hb o:=x.owns b hb (y.owns b (hJ hb x.size) o)
 names n a h h0:=by
  cases e:G'.at_ n with
  |none=>have:=y.names n a h e;omega
  |some b=>have:=x.names n b e h0;omega
 cells b o v hb h h0:=by
  cases e:G'.ro b o with
  |none=>exact x.owns b hb (y.cells b o v (hJ hb x.size) h e)
  |some u=>exact x.cells b o u hb e h0
 quiet:=x.quiet.trans y.quiet
def jh.widen{lo' hi':Nat}(x:jh G h w G' h' w' lo hi L)(h1:lo'<=lo)(q:hi<=hi'):jh G h w G' h' w' lo' hi' L:=
 ⟨x.le,x.size,x.keepW,x.owns,fun n a e p=>by have:=x.names n a e p;omega,x.cells,x.quiet,x.ownsW⟩
end
def TL{G' G'':Gh}{h' h'':aC aR}{w'':World}{d d' p:List Deferred}{lo l1 l2:Nat}(wr:WR G' h' w')(fx:cN G' h' B' fr' tmps w')(x: ∃rs,d'=rs.map xf++d/\wy lo w' rs)(E:lo<=w'.heap.size)(ex:jh G' h' w' G'' h'' w'' l1 l2 (LB B' fr'.loc))(y: ∃rs,p=rs.map xf++d'/\wy w'.heap.size w'' rs):
 ∃rs,p=rs.map xf++d/\wy lo w'' rs:=by
 obtain⟨I,O,C⟩:=x;obtain⟨R,J,z⟩:=y;have keep: ∀r∈I,w''.heap[r]? =some (.deferred (some [])):=fun r hr=>by
  have h1:=(C.at_ r hr).2;exact(ex.keep r (jB h1) (wr.not_deferred h1) (fx.not_LB h1 trivial)).trans h1
 refine⟨R++I,by rw[J,O];simp,⟨?_,?_⟩⟩;rw[List.nodup_append];refine⟨z.nodup,C.nodup,fun r hr q T e=>?_⟩;subst e;have h1:=(z.at_ r hr).1;have U:=jB (C.at_ r T).2;omega;intro r hr;rcases List.mem_append.1 hr with hr|hr
 exact⟨fA E (z.at_ r hr).1,(z.at_ r hr).2⟩;exact⟨(C.at_ r hr).1,keep r hr⟩
structure pF (mk:aK) (fr:Fr) (G:Gh) (B:Nat->Nat) (s s2:St) (a:Act) (w:World) (fr':Fr) (G':Gh) (B':Nat->Nat) (s' s2':St) (a':Act) (w':World):Prop where
 goes:gr mk s s'
 same:ib mk s s' s2 s2'
 wr:WR G' s2'.heap w'
 ext:jh G s2.heap w G' s2'.heap w' s.aL s'.aL (LB B fr.loc)
 fx:cN G' s2'.heap B' fr' a'.tmps w'
 boxes: ∀b,LB B' fr'.loc b->LB B fr.loc b\/w.heap.size<=b
 defers: ∃rs,a'.defers=rs.map xf++a.defers/\wy w.heap.size w' rs
section
variable{mk:aK}{A:Nat->Prop}{fr fr' fr'':Fr}{G G' G'':Gh}{B B' B'':Nat->Nat}{s s' s'' s2 s2' s2'':St}{a a' a'':Act}{w w' w'':World}
def pF.refl(p:mg mk A G s s2 w)(fx:cN G s2.heap B fr a.tmps w):pF mk fr G B s s2 a w fr G B s s2 a w where
 goes:=.refl _ _
 same:=.refl p.sees
 wr:=p.wr
 ext:=cZ.refl.toL _
 fx:=fx
 boxes _ h:=.inl h
 defers:=⟨[],rfl,.nil _ _⟩
def pF.trans(x:pF mk fr G B s s2 a w fr' G' B' s' s2' a' w')(y:pF mk fr' G' B' s' s2' a' w' fr'' G'' B'' s'' s2'' a'' w''):
 pF mk fr G B s s2 a w fr'' G'' B'' s'' s2'' a'' w'' where
 goes:=x.goes.trans y.goes
 same:=.trans x.goes y.goes x.same y.same
 wr:=y.wr
 ext:=x.ext.trans y.ext x.boxes x.goes.aL y.goes.aL
 fx:=y.fx
 boxes b h:=by
  rcases y.boxes b h with h|h
  exact x.boxes b h;exact .inr (fA x.ext.size h)
 defers:=TL x.wr x.fx x.defers x.ext.size y.ext y.defers
def mg.after(p:mg mk A G s s2 w)(x:pF mk fr G B s s2 a w fr' G' B' s' s2' a' w'):mg mk A G' s' s2' w' where
 fresh:=p.fresh.goes x.goes
 sees:=x.same.sees p.sees x.goes
 wr:=x.wr
 free m hm hA:=by
  cases e:G'.at_ m with
  |none=>rfl
  |some q=>
   have h0:=p.free m (fA x.goes.aL hm) hA
   have:=x.ext.names m q e h0;omega
def LC(a:Act)(d:Option Tmp)(v:Value):(a.put d v).defers=a.defers:=by
 cases d<;>rfl
end
variable{a:Act}{fr1:Fr}{s2:St}
section
variable{α β:Type}
def sQ(Q:aH)(A:Nat->Prop)(ch:Nat->Nat)(s:St)(E:(Nat->Nat)->Option (α×Fr×St)):Prop:=
 ∀p,lI s.ci ch p->l9 Q p-> ∃x fr' s',E p=some (x,fr',s')/\ ∀m,s.aL<=m->m<s'.aL->A m
def uK(Q:aH)(mk:aK)(ch:Nat->Nat)(fr:Fr)(G:Gh)(B:Nat->Nat)(s s2:St)(a:Act)(w:World)(E:(Nat->Nat)->Option (α×Fr×St))(x:α)(a':Act)(w':World):Prop:=
 ∃p fr' s' s2' G' B',lI s.ci ch p/\l9 Q p/\E p=some (x,fr',s')/\pF mk fr G B s s2 a w fr' G' B' s' s2' a' w'
def Lp(E:(Nat->Nat)->Option (α×Fr×St)):Prop:= ∀ch x fr' s',E ch=some (x,fr',s')-> ∀p,lI s'.ci ch p->E p=some (x,fr',s')
variable{Q:aH}{A:Nat->Prop}{ch ch1:Nat->Nat}{s s1:St}{E1:(Nat->Nat)->Option (α×Fr×St)}{E2:α->Fr->St->(Nat->Nat)->Option (β×Fr×St)}
theorem sQ.first(q:sQ Q A ch s (fun c=>(E1 c).bind fun r=>E2 r.1 r.2.1 r.2.2 c))(g: ∀x fr' s' c y fr'' s'',E2 x fr' s' c=some (y,fr'',s'')->s'.aL<=s''.aL):sQ Q A ch s E1:=by
 intro p h1 z;obtain⟨x,fr',s',E,C⟩:=q p h1 z
 grind [ak]
theorem sQ.second(C:sQ Q A ch s (fun c=>(E1 c).bind fun r=>E2 r.1 r.2.1 r.2.2 c))(E:Lp E1){x:α}(z:lI s.ci ch ch1)(O:E1 ch1=some (x,fr1,s1))(q:s.ci<=s1.ci)(I:s.aL<=s1.aL):
 sQ Q A ch1 s1 (E2 x fr1 s1):=by
 intro p h1 J;obtain⟨y,fr',s',T,R⟩:=C p (z.trans h1 q) J
 have:=E ch1 x fr1 s1 O p h1
 grind
def uK.second{G G1:Gh}{O:Nat->Nat}{q:St}{J a':Act}{E:World}{x:α}{y:β}(R:Lp E1)(C:lI s.ci ch ch1)(Y:E1 ch1=some (x,fr1,s1))(I:pF mk fr G B s s2 a w fr1 G1 O s1 q J E)(p:uK Q mk ch1 fr1 G1 O s1 q J E (E2 x fr1 s1) y a' w'):
 uK Q mk ch fr G B s s2 a w (fun c=>(E1 c).bind fun r=>E2 r.1 r.2.1 r.2.2 c) y a' w':=by
 obtain⟨z,fr',s',s2',G',B',h1,V,U,T⟩:=p;refine⟨z,fr',s',s2',G',B',C.trans h1 I.goes.ci,V,?_,I.trans T⟩;simp only[R ch1 x fr1 s1 Y z h1,au];exact U
end
def Ex.to:Ex->Exit
 | .normal=>.normal
 | .exit id=>.exit id
 | .ret=>.ret
noncomputable def lO(Q:aH)(n:Nat)(f:FuncId)(c:Code)(mk:aK)(fr:Fr)(s:St)(ch:Nat->Nat):Option (Ex×Fr×St):=(cy (Q.at ch) n).code f c mk fr s
def xY(ro:Option Nat)(G:Gh)(h:aC aR)(w:World):Prop:= ∀l,ro=some l->(∃r:Loop,w.heap[l]? =some (.loop r))/\ ¬fg G h l
def xY.none{G:Gh}:xY .none G h w:=fun _ h=>by cases h
def xY.after{ro:Option Nat}{G G':Gh}{s2':St}{a':Act}(h:xY ro G s2.heap w)(fx:cN G s2.heap B fr a.tmps w)(x:pF mk fr G B s s2 a w fr' G' B' s' s2' a' w'):xY ro G' s2'.heap w':=fun l hl=>by
 obtain⟨⟨r,h1⟩,q⟩:=h l hl;have p:=jB h1;exact⟨⟨r,(x.ext.keep l p q (fx.not_LB h1 trivial)).trans h1⟩,fun o=>q (x.ext.owns l p o)⟩
def sJ(Q:aH)(n:Nat):Prop:=
 ∀(ro:Option Nat) (f:FuncId) (c:Code) (mk:aK) (fr:Fr) (ch:Nat->Nat) (A:Nat->Prop) (G:Gh) (B:Nat->Nat) (s s2:St) (a:Act) (w:World),(ro≠none->dY c=true)->xY ro G s2.heap w->
  mg mk A G s s2 w->cN G s2.heap B fr a.tmps w->l9 Q ch->sQ Q A ch s (lO Q n f c mk fr s)->
  ∀K:Exit->Act->World->Prop,(∀x a' w',uK Q mk ch fr G B s s2 a w (lO Q n f c mk fr s) x a' w'->K x.to a' w')->
   c.wpIn (mT ro) 0 Q.P K a w/\ ∀b,c= .loop b->Code.roundsIn (mT ro) 0 Q.P b K n a w
def Mq(Q:aH)(n:Nat)(f:FuncId)(c:Code)(mk:aK)(fr:Fr)(s:St):Lp (lO Q n f c mk fr s):=
 fun ch x fr' s' h q p=>(tL Q n).code f c mk fr ch s x fr' s' h q p
def TF{c:Code}{x:Ex}(h:lO Q n f c mk fr s ch=some (x,fr',s')):gr mk s s':=
 ((mt Q n).code f c mk fr ch s x fr' s' h).1
structure R8 (Q:aH) (n:Nat) (m:Nat) (args:List aa) (mk:aK) (ch:Nat->Nat) (G:Gh) (s s2:St) (w:World) (y:Value) (w':World)
 (ch':Nat->Nat) (v:aa) (s' s2':St) (G':Gh):Prop where
 agree:lI s.ci ch ch'
 inb:l9 Q ch'
 eval:nq (cy (Q.at ch') n) m args mk s=some (v,s')
 same:ib mk s s' s2 s2'
 wr:WR G' s2'.heap w'
 ext:cZ G s2.heap w G' s2'.heap w' s.aL s'.aL
 val:VR G' v y
variable{xs:List Value}{args:List aa}{m:Nat}{A:Nat->Prop}
theorem apX(d1:sJ Q n)(ro:Option Nat){G:Gh}(p:mg mk A G s s2 w)(hv:ck G args xs)(hi:l9 Q ch){ad:Addr}(hm:G.at_ m=some ad)(hs: ∀Z,lI s.ci ch Z->l9 Q Z-> ∃v s',nq (cy (Q.at Z) n) m args mk s=some (v,s')/\ ∀q,s.aL<=q->q<s'.aL->A q):
 ∃z:Loop,w.heap[ad.block]? =some (.loop z)/\xs.length=z.params.size/\
  RoundIn (mT ro) 0 Q.P ad.block z.fn ((z.params.zip ⟨xs⟩).foldl (fun tmps (t,a)=>tmps.setIfInBounds t a) z.tmps) z.assign z.body w
   (fun e w'=> ∃y,e= .returned y/\ ∃Z v s' s2' G',R8 Q n m args mk ch G s s2 w y w' Z v s' s2' G'):=by
 obtain⟨v0,s0,h0,_⟩:=hs ch (.refl _ _) hi;simp only[nq,ak] at h0;obtain⟨o,ho,⟨u,o',s3⟩,Y,_⟩:=h0;unfold Bv at Y;split at Y
 case h_2=>cases Y
 rename_i f env E ps a b;obtain⟨c7,Y⟩:=bh Y;simp only[ak] at Y;obtain⟨a7,b3,_⟩:=Y;have b6:=(tx (p.sees.look ho)).2;obtain⟨f1,b0,e4,z,a3,V⟩:=p.wr.obj m _ b6;rw[hm] at b0;injection b0 with b0;subst b0
 have g1:=gr.put ho (mk:=mk) none;have y1:jj mk (s.put m none) (s2.put m none):=(ib.put p.sees ho none).sees p.sees g1;have d6:WR G (s2.put m none).heap w:=p.wr.killed m;have c8: ¬fg G (s2.put m none).heap ad.block:=JL p.wr (by rw[b6];simp) hm;have I:lJ G s2.heap ad.block:=⟨m,ad,_,b6,rfl,hm,rfl⟩;have a9:fg G s2.heap ad.block:=I.owns;have hl:=jB a3;have p1:mg mk A G (s.put m none) (s2.put m none) w:=⟨p.fresh.goes g1,y1,d6,p.free⟩;have c6: ∀t∈ps,t<E:=fun t ht=>qA (f8.1 c7 t ht);obtain⟨c9,e3,c3⟩:=aae b3 hv c6 V.size V.env;have c0:(z.params.zip ⟨xs⟩).foldl (fun tmps (t,a)=>tmps.setIfInBounds t a) z.tmps=(ps.zip xs).foldl (fun tmps (t,a)=>tmps.setIfInBounds t a) z.tmps:=by
  rw[<-V.params];have:z.params.zip (⟨xs⟩:Array Value)=(⟨z.params.toList.zip xs⟩:Array (Tmp×Value)):=by apply qp;simp
  rw[this];simp
 have a4:z.params.size=ps.length:=by rw[<-V.params];simp
 have e8: ∀t,Loc.get [] t (Loc.gen [] t)=none:=fun t=>rfl;have e7:cN G (s2.put m none).heap (fun _=>0) ⟨a7,E,[]⟩ ((ps.zip xs).foldl (fun tmps (t,a)=>tmps.setIfInBounds t a) z.tmps) w:=
  ⟨e3,fun t=>LV.of_VR (c3 t),⟨(fun t cs h=>by cases h),(fun t cs h=>by cases h),(fun t cs h=>by cases h),(fun t u cs ds h=>by cases h)⟩⟩
 have b1: ∀c,nq (cy (Q.at c) n) m args mk s=((lO Q n f a mk ⟨a7,E,[]⟩ (s.put m none) c).bind (zL (cy (Q.at c) n) f env E ps a b mk)).bind fun x=>some (x.1,x.2.2.put m (some x.2.1)):=by
  intro c;simp only[nq,ho,au,Bv,c7,cT,b3];rfl
 refine⟨z,a3,by rw[c9,a4],?_⟩;rw[c0,V.assign,V.body];refine roundIn_of_wpIn (Ay ro _) ?_;rw[afr];refine(d1 (some ad.block) f a mk ⟨a7,E,[]⟩ ch A G (fun _=>0) (s.put m none) (s2.put m none) ⟨_,[]⟩ w (fun _=>V.flatA) (fun l hl=>by grind) p1 e7 hi ?_ _ ?_).1;intro c h1 h2;obtain⟨v,s',h3,h4⟩:=hs c h1 h2;rw[b1] at h3;simp only[ak,aJ,bI] at h3;obtain⟨⟨u,o',s5⟩,⟨⟨x,fr',s4⟩,h5,h6⟩,_,rfl⟩:=h3;refine⟨x,fr',s4,h5,fun q hq b5=>h4 q hq (hJ b5 ?_)⟩;cases x with
 |exit i=>cases h6
 |ret=>cases h6
 |normal=>
  simp only[zL,ak] at h6;obtain⟨⟨U,a6,s6⟩,h7,h8⟩:=h6;have e6:s6=s5:=by cases U<;>(grind [Bu])
  subst e6;exact(TF (Q:=Q) (n:=n) (ch:=c) h7).aL
 rintro x a1 w1 ⟨c1,fr1,s3,a0,G1,B1,c4,c5,e1,C⟩;obtain⟨v,s',h3,h4⟩:=hs c1 c4 c5;have e9:=h3;rw[b1,e1] at h3;simp only[au,ak,aJ,bI] at h3;obtain⟨⟨u,o',s5⟩,h6,_,rfl⟩:=h3;have e5: ¬LB (fun _=>0) ([]:Loc) ad.block:=fun⟨t,cs,h,_⟩=>by cases h
 have R:w1.heap[ad.block]? =some (.loop z):=(C.ext.keep _ hl c8 e5).trans a3;have a5: ¬fg G1 a0.heap ad.block:=fun o=>c8 (C.ext.owns _ hl o);cases x with
 |exit i=>cases h6
 |ret=>cases h6
 |normal=>
  refine⟨_,run_beginRound R V.state,?_⟩;rw[PL];have a8:=p1.after C;have p2:mg mk A G1 s3 a0 (dU w1 ad.block (.loop {z with state:=.busy })):=⟨a8.fresh,a8.sees,a8.wr.aside R trivial a5,a8.free⟩;have d4:cN G1 a0.heap B1 fr1 a1.tmps (dU w1 ad.block (.loop {z with state:=.busy })):=C.fx.aside R trivial;have b8:=jB R;have d2:(dU w1 ad.block (.loop {z with state:=.busy })).heap[ad.block]? =some (.loop {z with state:=.busy }):=by rw[jZ _ _ _ _ b8,iP rfl]
  refine(d1 (some ad.block) f b mk fr1 c1 A G1 B1 s3 a0 a1 _ (fun _=>V.flatB) (fun l hl=>by grind) p2 d4 c5 ?_ _ ?_).1;intro c h1 h2;obtain⟨v,s',h7,h8⟩:=hs c (c4.trans h1 C.goes.ci) h2;rw[b1,Mq Q n f a mk _ _ c1 _ _ _ e1 c h1] at h7;simp only[au,ak,aJ,bI,zL] at h7;obtain⟨⟨u,o',s6⟩,⟨⟨U,a6,s7⟩,h9,f0⟩,_,rfl⟩:=h7;refine⟨U,a6,s7,h9,fun q hq b5=>h8 q (fA C.goes.aL hq) ?_⟩;have e6:s7=s6:=by cases U<;>(grind [Bu])
  subst e6;exact b5;rintro U a2 w3 ⟨c2,a6,s6,b4,G2,B2,d5,d7,e2,T⟩;have O:w3.heap[ad.block]? =some (.loop {z with state:=.busy }):=(T.ext.keep _ (by rw[Dh];exact b8) a5 (d4.not_LB d2 trivial)).trans d2;have b2: ¬fg G2 b4.heap ad.block:=fun o=>a5 (T.ext.owns _ (by rw[Dh];exact b8) o);have b7:G2.at_ m=some ad:=T.ext.le.at_ _ _ (C.ext.le.at_ _ _ hm);have fin: ∀(J:Option Code) (pe:Option Ex),J=pe.map Ex.code->Bu f env E ps a b (U,a6,s6)=some (.bool J.isNone,.loop f env E ps a b pe,s6)->
   ∃v w',(Instr.endRound ad.block J).run Q.P w3= .ok v w'/\ ∃y,Ending.returned v= .returned y/\ ∃Z v s' s2' G',R8 Q n m args mk ch G s s2 w y w' Z v s' s2' G':=by
   intro J pe hj e0;refine⟨_,_,run_endRound J O,_,rfl,c2,.bool J.isNone,s6.put m (some (.loop f env E ps a b pe)),b4.put m (some (.loop f env E ps a b pe)),G2,?_⟩;rw[PL];have d0:jh G s2.heap w G2 b4.heap w3 s.aL s6.aL (fun _=>False):=by
    have x0:cZ G s2.heap w G (s2.put m none).heap w s.aL s.aL:=cZ.killed;have x1:jh G s2.heap w G1 a0.heap (dU w1 ad.block (.loop {z with state:=.busy })) s.aL s3.aL (fun _=>False):=
     ((x0.toL fun _=>False).trans C.ext (fun b h=>by obtain⟨t,cs,h,_⟩:=h;cases h) (br _) C.goes.aL).aside R trivial trivial (fun _=>I)
    exact x1.trans T.ext (fun b h=>by
     rcases C.boxes b h with h|h
     obtain⟨t,cs,h,_⟩:=h;cases h;exact .inr h) C.goes.aL T.goes.aL
   refine⟨c4.trans d5 C.goes.ci,d7,?_,(ib.trans C.goes T.goes C.same T.same).hide p.sees ho _,?_,?_,.bool _⟩;rw[b1,Mq Q n f a mk _ _ c1 _ _ _ e1 c2 d5];have e2:(cy (Q.at c2) n).code f b mk fr1 s3=some (U,a6,s6):=e2;simp only[au,zL,e2,e0];refine(T.wr.aside O trivial b2).back b7 e4 b2 ⟨_,by rw[jZ _ _ _ _ (jB O),iP rfl],?_⟩ (T.wr.aside_ro O trivial);refine⟨?_,hj,V.size,fun t=>(V.env t).mono (C.ext.le.trans T.ext.le),V.params,V.assign,V.body,V.flatA,V.flatB⟩;cases pe<;>(subst hj;rfl);have U:=(d0.toExt fun _ h=>h).aside (ob:=.loop { {z with state:=.busy } with state:=if J.isNone then .ready else .done,pending:=J }) O trivial trivial (fun _=>I);exact⟨U.le,U.size,U.keepW,fun c hc o=>by
    rcases ao7 b7 o with rfl|o
    exact a9;exact U.owns c hc o,U.names,U.cells,U.quiet,fun c hc o=>by
    rcases ao6 b7 o with rfl|o
    exact I;exact U.ownsW c hc o⟩
  cases U with
  |normal=>exact fin none none rfl rfl
  |exit id=>exact fin (some (.exit id)) (some (.exit id)) rfl rfl
  |ret=>exact fin (some .ret) (some .ret) rfl rfl
structure Lm (Q:aH) (n:Nat) (f:FuncId) (o:Oper) (mk:aK) (fr:Fr) (ch:Nat->Nat) (G:Gh) (B:Nat->Nat) (s s2:St) (w:World) (x:Value) (w':World)
 (ch':Nat->Nat) (v:aa) (loc':Loc) (s' s2':St) (G':Gh) (B':Nat->Nat):Prop where
 agree:lI s.ci ch ch'
 inb:l9 Q ch'
 eval:fS (Q.at ch') (cy (Q.at ch') n) f o mk fr s=some (v,loc',s')
 same:ib mk s s' s2 s2'
 wr:WR G' s2'.heap w'
 ext:jh G s2.heap w G' s2'.heap w' s.aL s'.aL (LB B fr.loc)
 locs:qu G' s2'.heap B' loc' w'
 val:LV G' loc' B' v x
 old: ∀u y,LV G fr.loc B u y->LV G' loc' B' u y
 boxes: ∀b,LB B' loc' b->LB B fr.loc b\/w.heap.size<=b
def ang{it:aa}{b:Bool}{r:aa×St}(h:pn mk ch kmax it b s=some r)(C:2<=kM mk it s):kM mk it s<=kmax s.ci:=by
 unfold pn at h;split at h;rename_i n;simp only[ak] at h;obtain⟨ob,z,h⟩:=h;split at h;simp[kM,z] at C;rename_i m E p q;cases b;simp only[cF,ak] at h;obtain⟨O,y,h⟩:=h;split at h;rename_i J I;have R:kM mk (.ptr n 0) s=(mF p J).length:=by simp[kM,z,y]
 rw[R] at C ⊢;rcases ig h with⟨_,h⟩|⟨_,h⟩
 cases h;generalize mF p J=l at h C;unfold tP at h;split at h;simp at C;obtain⟨_,h⟩:=bh h;split at h;simp at C;obtain⟨h,_⟩:=bh h;exact lA h;cases h;cases h;cases h;cases h
theorem Y0(hc:xW Q n)(c5:sJ Q n)(ro:Option Nat){G:Gh}(p:mg mk A G s s2 w)(fx:cN G s2.heap B fr a.tmps w)(hi:l9 Q ch)(he: ∀q,lI s.ci ch q->l9 Q q-> ∃v loc' s',fS (Q.at q) (cy (Q.at q) n) f o mk fr s=some (v,loc',s')/\ ∀m,s.aL<=m->m<s'.aL->A m)(K:Act->World->Prop)(E:Exit->Act->World->Prop)(hK: ∀x w' q v loc' s' s2' G' B',Lm Q n f o mk fr ch G B s s2 w x w' q v loc' s' s2' G' B'->K (a.put o.dst x) w'):o.wpIn (mT ro) 0 Q.P a w K E:=by
 have a4:bO mk (fun ch s=>fS (Q.at ch) (cy (Q.at ch) n) f o mk fr s):=FB (Q:=Q) (mt Q n) f o mk fr;have plain:(∀c,o.op≠ .defer c)->(∀q s,fS (Q.at q) (cy (Q.at q) n) f o mk fr s=mi Q.P mk q Q.kmax (Q.hint f) o.dst o.op fr s)->o.wpIn (mT ro) 0 Q.P a w K E:=by
  intro a0 O;have a7: ∃q,lI s.ci ch q/\l9 Q q/\ ∀x b U,o.op= .next x b->evc fr.env x=some U->2<=kM mk U s2->
   q s2.ci % kM mk U s2=(w.tape w.drawn (.mapNext (kM mk U s2))) % kM mk U s2:=by
   by_cases hn: ∃x b U,o.op= .next x b/\evc fr.env x=some U/\2<=kM mk U s2
   obtain⟨x,b,U,b1,b0,c0⟩:=hn;obtain⟨v,loc',s',h1,_⟩:=he ch (.refl _ _) hi;obtain⟨s2',h3,_⟩:=(a4 ch s v loc' s' h1).2 ch s2 (fun _ _=>rfl) p.sees;have c4:kM mk U s2<=Q.kmax s.ci:=by
    have h3:fS (Q.at ch) (cy (Q.at ch) n) f o mk fr s2=some (v,loc',s2'):=h3;rw[O,b1] at h3;simp only[mi,b0,au,gW,ak] at h3;obtain⟨r,hr,_⟩:=h3;rw[<-p.sees.ci];exact ang hr c0
   refine⟨fun i=>if i=s.ci then(w.tape w.drawn (.mapNext (kM mk U s2))) % kM mk U s2 else ch i,?_,?_,?_⟩;intro i c9
   grind
   intro i;simp only;split;rename_i e;subst e;exact hJ (Nat.mod_lt _ (by omega)) c4;exact hi i;intro x' b' c8 a3 a2 _;rw[b1] at a3;injection a3 with e1 e2
   subst e1;rw[b0] at a2;injection a2 with e3
   subst e3;simp only;rw[iP p.sees.ci,Nat.mod_mod];exact⟨ch,.refl _ _,hi,fun x b U h1 h2 h3=>absurd ⟨x,b,U,h1,h2,h3⟩ hn⟩
  obtain⟨q,b7,b3,a7⟩:=a7;obtain⟨v,loc',s',h1,h2⟩:=he q b7 b3;obtain⟨g,hl⟩:=a4 q s v loc' s' h1;obtain⟨s2',h3,h4⟩:=hl q s2 (fun _ _=>rfl) p.sees;have c6:mi Q.P mk q Q.kmax (Q.hint f) o.dst o.op fr s2=some (v,loc',s2'):=by rw[<-O];exact h3
  have a6:=acK p.wr fx c6 (fun m b2 c3=>p.free m (by rw[<-p.sees.aL];exact b2) (h2 m (by rw[<-p.sees.aL];exact b2) (by rw[<-h4.aL];exact c3))) a7;obtain⟨nx,x,w',G',B',r1,r2,r3,r4,r5,r6,r7,r8⟩:=a6;have b8:jh G s2.heap w G' s2'.heap w' s.aL s'.aL (LB B fr.loc):=by rw[<-p.sees.aL,<-h4.aL];exact r4
  have hk:=hK x w' q v loc' s' s2' G' B' ⟨b7,b3,h1,h4,r3,b8,r5,r6,r7,r8⟩;refine⟨fun _ _=>Ay ro _,?_⟩;rw[Oper.semAt_eq _ _ _ a0,r1];rcases r2 with rfl|⟨rfl,rfl⟩<;>exact hk
 cases O:o.op
 case call c=>
  cases hcl:c.callee with
  |builtin b=>exact plain (fun c h=>by rw[O] at h;cases h) fun q s=>by simp only[fS,O,hcl,mi];rfl
  |invoke x y=>
   obtain⟨v,loc',s',h1,_⟩:=he ch (.refl _ _) hi
   simp_all [fS,pN,callee,pj]
  |value g=>
   have a0: ∀c,o.op≠ .defer c:=fun c h=>by rw[O] at h;cases h
   cases hyld:pj fr.env c with
   |true=>
    have J: ∀q s,fS (Q.at q) (cy (Q.at q) n) f o mk fr s=su (cy (Q.at q) n) c mk fr s:=fun q s=>by grind [fS]
    obtain⟨v0,a9,s0,h0,_⟩:=he ch (.refl _ _) hi;rw[J] at h0;simp only[su,ak] at h0;obtain⟨⟨m,args⟩,I,_⟩:=h0;have a5:=I;simp only[yieldee,hcl,ak] at I;obtain⟨gv,hg,I⟩:=I;have R:=fx.ev hg;cases gv<;>try (cases I;done)
    rename_i m';simp only[ak,aJ,bI] at I;obtain⟨as,a8,rfl,rfl⟩:=I;have R:VR G (.yld m') (a.eval g):=R;generalize hgx:a.eval g=gx at R;cases R with
    |yld hm=>
     rename_i ad;have T:=(fx.evcs a8).1;obtain⟨V,q1,q2,q3⟩:=apX c5 ro p T hi hm (fun q ha hb=>by
      grind [su,ak])
     have Z:(execOp a.eval o).run Q.P w= .ok (.round ad.block V.fn ((V.params.zip ⟨c.args.toList.map a.eval⟩).foldl (fun tmps (t,a)=>tmps.setIfInBounds t a) V.tmps) V.assign V.body) w:=by
      have c2:(⟨c.args.toList.map a.eval⟩:Array Value).size=V.params.size:=by rw[<-q2];rfl
      have:=run_yield (P:=Q.P) (args:=⟨c.args.toList.map a.eval⟩) q1 c2;have e:(#[]:Array Value)++c.args.map a.eval=⟨c.args.toList.map a.eval⟩:=by apply qp;simp
      simp only[execOp,O,resolve,hcl,hgx,Deferred.ofValue,Sem.run_bind,Sem.run_pure,mL,invoke,e];exact this
     refine⟨fun _ _=>Ay ro _,?_⟩;rw[Oper.semAt_eq _ _ _ a0,Z];refine⟨MH ro 0,q3.mono ?_⟩;rintro e w' ⟨y,rfl,q,v,s',s2',G',c1⟩;refine hK y w' q v fr.loc s' s2' G' B ⟨c1.agree,c1.inb,?_,c1.same,c1.wr,c1.ext.toL _,fx.locs.ext c1.ext,LV.of_VR c1.val,fun _ _ h=>h.mono c1.ext.le,fun _ h=>.inl h⟩;rw[J];simp only[su,a5,au,c1.eval]
   |false=>
   have J: ∀q s,fS (Q.at q) (cy (Q.at q) n) f o mk fr s=pN (cy (Q.at q) n) c mk fr s:=fun q s=>by grind [fS]
   obtain⟨v0,a9,s0,h0,_⟩:=he ch (.refl _ _) hi;rw[J] at h0;simp only[pN,ak] at h0;obtain⟨⟨fn,args⟩,z,_⟩:=h0;have Y:=z;simp only[callee,hcl,ak] at z;obtain⟨gv,hg,z⟩:=z;have R:=fx.ev hg;cases gv<;>try (cases z;done)
   rename_i c7 first C
   cases c7<;>try (cases z;done)
   rename_i a1;simp only[ak] at z;obtain⟨as,a8,z⟩:=z;simp only[aJ,bI] at z;obtain⟨rfl,rfl⟩:=z;have R:VR G (.func (.func a1) first C) (a.eval g):=R;generalize hgx:a.eval g=gx at R;cases R with
   |func hf b5=>
    rename_i fs cs;have T:=(fx.evcs a8).1;have b6:ck G (first++(as++C)) (fs++(c.args.toList.map a.eval++cs)):=hf.append (T.append b5);have Z:(execOp a.eval o).run Q.P w=(callFunc a1 ⟨fs++(c.args.toList.map a.eval++cs)⟩).run Q.P w:=by
     have:(((⟨fs⟩:Array Value)++c.args.map a.eval)++(⟨cs⟩:Array Value))=⟨fs++(c.args.toList.map a.eval++cs)⟩:=by
      apply qp;simp
     simp only[execOp,O,resolve,hcl,hgx,Deferred.ofValue,Sem.run_bind,Sem.run_pure,mL,invoke,this]
    have b4:=hc a1 (first++(as++C)) mk s s2 G w _ ch A p b6 hi (fun q ha hb=>by
     grind [pN,ak])
    have fin: ∀y w',(∃q v s' s2' G',Hd Q n a1 (first++(as++C)) mk ch G s s2 w y w' q v s' s2' G')->K (a.put o.dst y) w':=by
     rintro y w' ⟨q,v,s',s2',G',c⟩;refine hK y w' q v fr.loc s' s2' G' B ⟨c.agree,c.inb,?_,c.same,c.wr,c.ext.toL _,fx.locs.ext c.ext,LV.of_VR c.val,fun _ _ h=>h.mono c.ext.le,fun _ h=>.inl h⟩;rw[J];simp only[pN,Y,au,c.eval]
    refine⟨fun _ _=>Ay ro _,?_⟩;rw[Oper.semAt_eq _ _ _ a0,Z];rcases b4 with⟨y,w',h1,h2⟩|⟨h1,h2⟩
    rw[h1];exact fin y w' h2;rw[h1];refine⟨MH ro 0,Uu.2 (h2.mono ?_)⟩
    grind
 case defer c=>
  obtain⟨v,loc',s',h1,_⟩:=he ch (.refl _ _) hi
  grind [fS,mi]
 all_goals exact plain (fun c h=>by rw[O] at h;cases h) fun q s=>by simp only[fS,O];rfl
section
variable{mk:aK}{A:Nat->Prop}{fr fr' fr'':Fr}{G G' G'':Gh}{B B' B'':Nat->Nat}{s s' s'' s2 s2' s2'':St}{a a' a'':Act}{w w' w'':World}
def Lm.after{p:Nat->Nat}{loc':Loc}(fx:cN G s2.heap B fr a.tmps w)(q:Lm Q n f o mk fr ch G B s s2 w x w' p v loc' s' s2' G' B')(hp:di fr o.dst v loc'=some fr'):
 pF mk fr G B s s2 a w fr' G' B' s' s2' (a.put o.dst x) w' where
 goes:=(FB (Q:=Q) (mt Q n) f o mk fr p s v loc' s' q.eval).1
 same:=q.same
 wr:=q.wr
 ext:=q.ext
 fx:=fx.put hp q.locs q.val q.old
 boxes b h:=q.boxes b (by rw[(t0 hp).2.1] at h;exact h)
 defers:=⟨[],LC _ _ _,.nil _ _⟩
def QC(G:Gh):VR G gM undef:=.tup .nil
def pF.skip(p:mg mk A G s s2 w)(fx:cN G s2.heap B fr a.tmps w)(hp:di fr dst gM fr.loc=some fr'):
 pF mk fr G B s s2 a w fr' G B s s2 (a.put dst undef) w where
 goes:=.refl _ _
 same:=.refl p.sees
 wr:=p.wr
 ext:=cZ.refl.toL _
 fx:=fx.put hp fx.locs (LV.of_VR (QC G)) fun _ _ h=>h
 boxes b h:=.inl (by rw[(t0 hp).2.1] at h;exact h)
 defers:=⟨[],LC _ _ _,.nil _ _⟩
end
noncomputable def vz(Q:aH)(n:Nat)(f:FuncId)(all:Array Oper)(mk:aK)(l:List Oper)(fr:Fr)(s:St)(ch:Nat->Nat):Option (Ex×Fr×St):=
 ((cy (Q.at ch) n).ops f all mk l fr s).bind fun x=>some (.normal,x.1,x.2)
def Hl(Q:aH)(n:Nat):Prop:=
 ∀(ro:Option Nat) (f:FuncId) (all:Array Oper) (mk:aK) (l:List Oper) (i:Nat) (fr:Fr) (ch:Nat->Nat) (A:Nat->Prop) (G:Gh) (B:Nat->Nat) (s s2:St) (a:Act) (w:World),
  mg mk A G s s2 w->cN G s2.heap B fr a.tmps w->l9 Q ch->(∀k o,l[k]? =some o->all[i+k]? =some o)->sQ Q A ch s (vz Q n f all mk l fr s)->
  ∀K:Exit->Act->World->Prop,(∀a' w',uK Q mk ch fr G B s s2 a w (vz Q n f all mk l fr s) .normal a' w'->K .normal a' w')->wpOpsIn (mT ro) 0 Q.P all K (List.range' i l.length) a w
def aoT{all:Array Oper}{l:List Oper}{x:Ex}(h:vz Q n f all mk l fr s ch=some (x,fr',s')):gr mk s s':=by
 simp only[vz,ak,aJ,bI] at h;obtain⟨⟨fr1,s1⟩,h1,_,_,rfl⟩:=h;exact((mt Q n).ops f all mk l fr ch s fr1 s1 h1).1
theorem aoU(hc:xW Q n)(a2:sJ Q n)(hn:Hl Q n):Hl Q (n+1):=by
 intro ro f all mk l i fr ch A G B s s2 a w p Y hi hl R K hK;cases l with
 |nil=>
  simp only[List.length_nil,List.range'_zero,wpOpsIn];exact hK a w ⟨ch,fr,s,s2,G,B,.refl _ _,hi,rfl,.refl p Y⟩
 |cons o z=>
  have ho:all[i]? =some o:=hl 0 o rfl;have U: ∀k o,z[k]? =some o->all[i+1+k]? =some o:=fun k o' hk=>by
   have:=hl (k+1) o' (by simpa using hk)
   grind
  simp only[List.length_cons,List.range'_succ,wpOpsIn,ho,Y.wanted];cases hw:fK all fr.env o with
  |false=>
   simp only[K4,if_false];have C: ∀c,vz Q (n+1) f all mk (o::z) fr s c=((di fr o.dst gM fr.loc).bind fun fr'=>vz Q n f all mk z fr' s c):=by
    intro c;show((m9 (Q.at c) (cy (Q.at c) n) f all mk (o::z) fr s).bind _)=_;simp only[m9,hw,cF,vz];cases di fr o.dst gM fr.loc<;>rfl
   obtain⟨x0,Z,s0,h0,_⟩:=R ch (.refl _ _) hi;rw[C] at h0;simp only[ak] at h0;obtain⟨fr1,O,_⟩:=h0;have I:=pF.skip p Y (a:=a) O;refine⟨fun _ _=>Ay ro _,?_⟩;refine hn ro f all mk z (i+1) fr1 ch A G B s s2 _ w p I.fx hi U ?_ K ?_;intro c h1 E
   have:=R c h1 E;rw[C,O] at this;exact this;intro a' w' ⟨c,fr',s',s2',G',B',h1,E,J,V⟩;refine hK a' w' ⟨c,fr',s',s2',G',B',h1,E,?_,I.trans V⟩;rw[C,O];exact J
  |true=>
   simp only[if_true];have C: ∀c,vz Q (n+1) f all mk (o::z) fr s c=((fS (Q.at c) (cy (Q.at c) n) f o mk fr s).bind fun x=>(di fr o.dst x.1 x.2.1).bind fun fr'=>vz Q n f all mk z fr' x.2.2 c):=by
    intro c;show((m9 (Q.at c) (cy (Q.at c) n) f all mk (o::z) fr s).bind _)=_;simp only[m9,hw,cT,vz];cases fS (Q.at c) (cy (Q.at c) n) f o mk fr s with
    |none=>rfl
    |some x=>
     grind
   refine Y0 (f:=f) (fr:=fr) hc a2 ro p Y hi ?_ _ K ?_;intro c h1 E;obtain⟨x0,Z,s0,h0,hA⟩:=R c h1 E;rw[C] at h0;simp only[ak] at h0;obtain⟨⟨v,loc',s1⟩,J,fr1,_,h5⟩:=h0;exact⟨v,loc',s1,J,fun m hm a1=>hA m hm (hJ a1 (aoT h5).aL)⟩;intro x w' c1 v loc' s1 a0 G1 B1 q;obtain⟨x0,Z,s0,h0,_⟩:=R c1 q.agree q.inb;rw[C,q.eval] at h0;simp only[au,ak] at h0;obtain⟨fr1,O,_⟩:=h0;have I:=q.after Y O;have T: ∀c,lI s1.ci c1 c->fS (Q.at c) (cy (Q.at c) n) f o mk fr s=some (v,loc',s1):=fun c a3=>
    Ej (Q:=Q) (mt Q n) (tL Q n) f o mk fr c1 s v loc' s1 q.eval c a3
   refine hn ro f all mk z (i+1) fr1 c1 A G1 B1 s1 a0 _ w' (p.after I) I.fx q.inb U ?_ K ?_;intro c h1 E;obtain⟨y,fr',s',J,V⟩:=R c (q.agree.trans h1 I.goes.ci) E;rw[C,T c h1] at J;simp only[au,O] at J;exact⟨y,fr',s',J,fun m hm=>V m (fA I.goes.aL hm)⟩;intro a' w'' ⟨c,fr',s',s2',G',B',h1,E,J,V⟩;refine hK a' w'' ⟨c,fr',s',s2',G',B',q.agree.trans h1 I.goes.ci,E,?_,I.trans V⟩
   grind
def LB.congr(h: ∀u,md l l2 u):LB B l b->LB B l2 b:=by
 rintro⟨t,cs,h1,p⟩;refine⟨t,cs,?_,p⟩;rw[<-(h t).1,<-(h t).2];exact h1
def cN.congr{G:Gh}{p:Fr}(x:cN G h B fr tmps w)(hs:p.size=fr.size)(E: ∀d,ac p.env d=ac fr.env d)(hl: ∀u,md fr.loc p.loc u):cN G h B p tmps w where
 size:=x.size.trans hs.symm
 env t:=by
  have:=x.env t;rw[E t];revert this;generalize ac fr.env t=v;generalize tmps.getD t undef=y;intro z;cases v<;>first
   |exact z
   |(obtain⟨h1,h2,h3⟩:=z
     exact⟨by rw[<-(hl _).1];exact h1,h2,fun e=>h3 (by rw[(hl _).1];exact e)⟩)
 locs:=by
  have q: ∀t cs,p.loc.get t (p.loc.gen t)=some cs->fr.loc.get t (fr.loc.gen t)=some cs:=fun t cs h=>by
   rw[(hl t).1,(hl t).2];exact h
  exact⟨fun t cs h=>x.locs.cells t cs (q t cs h),fun t cs h=>x.locs.free t cs (q t cs h),fun t cs h=>x.locs.ro t cs (q t cs h),
   fun t u cs C h h'=>x.locs.inj t u cs C (q t cs h) (q u C h')⟩
section
variable{Q:aH}{f:FuncId}{all:Array Oper}{mk:aK}{F:Nat->Fr}{S:Nat->St}{M:Nat->aK}{lv:Nat->Nat}{Lo:Nat->Bool}
theorem aV.untouched(t:aV Q f all mk F S M lv Lo)(z:k<all.size)(h: ¬aV.Th Q f all F S M k n):(S (k+1)).heap.get n=(S k).heap.get n:=by
 have p:all[k]? =some all[k]:=sw z;cases hw:fK all (F k).env all[k] with
 |true=>
  obtain⟨v,loc',s1,_,_,_,q,_,g⟩:=t.done p hw;rw[q];refine g.frame n fun y=>h ⟨_,p,hw,?_⟩;rw[q];exact y
 |false=>
  rcases t.step p with⟨h',_⟩|⟨_,_,h'⟩
  all_goals grind
theorem aV.X_from(t:aV Q f all mk F S M lv Lo)(h:aV.X Q f all F S M H n k=(S k).heap.get n): ∀ {j:Nat},k<=j->j<=all.size->aV.X Q f all F S M H n j=(S j).heap.get n
 |0,h1,_=>by grind
 |j+1,h1,h2=>by
  by_cases e:k=j+1;subst e;exact h;have p:=t.X_from h (j:=j) (by omega) (by omega);rw[aV.X];split;rfl;rename_i q;rw[p,t.untouched (by omega) q]
def aV.Th_touch(t:aV Q f all mk F S M lv Lo): ∀ {k:Nat},k<=all.size->eh mk n=false->(S k).heap.get n≠none->nD mk (S 0) (S k) n
 |0,_,hn,h=>.inl ⟨hn,h⟩
 |k+1,hk,hn,h=>by
  have y:=t.next_le (sw (show k<all.size by omega));by_cases hT:aV.Th Q f all F S M k n;obtain⟨o,C,z,q⟩:=hT;rcases q with⟨_,p⟩|p
  exact(t.Th_touch (k:=k) (by omega) hn p).imp id fun h=>⟨h.1,by omega⟩;exact .inr ⟨fA (t.mono (ki k) (by omega)) p.1,p.2⟩;rw[t.untouched (by omega) hT] at h;exact(t.Th_touch (k:=k) (by omega) hn h).imp id fun h=>⟨h.1,by omega⟩
theorem aV.hid(t:aV Q f all mk F S M lv Lo)(p:all[k]? =some o)(h:eh (aV.fm Q f F S M k o) n=false):eh mk n=false:=by
 cases e:eh mk n with
 |false=>rfl
 |true=>
  have:=t.tr.more k o (by simpa using p) n e
  grind [aV.fm,MS]
theorem aV.same(t:aV Q f all mk F S M lv Lo){s2:aC aR}(h0: ∀n o,eh mk n=false->(S 0).heap.get n=some o->s2.get n=some o)(n:Nat):
 (nD mk (S 0) (S all.size) n->aV.X Q f all F S M s2.get n all.size=(S all.size).heap.get n)/\(¬nD mk (S 0) (S all.size) n->aV.X Q f all F S M s2.get n all.size=s2.get n):=by
 constructor
 ·rintro(⟨h1,q⟩|⟨h1,q⟩)
  refine t.X_from (k:=0) ?_ (ki _) (br _);cases e:(S 0).heap.get n with
  |none=>exact absurd e q
  |some o=>exact h0 n o h1 e
  ·have: ∃k,k<all.size/\(S k).aL<=n/\n<(S (k+1)).aL:=by
    have p: ∀j,j<=all.size->n<(S j).aL-> ∃k,k<all.size/\(S k).aL<=n/\n<(S (k+1)).aL:=by
     intro j
     induction j with
     |zero=>intro _ h;omega
     |succ j C=>
      grind
    exact p _ (br _) q
   obtain⟨k,O,T,R⟩:=this;have y:all[k]? =some all[k]:=sw O;have z:fK all (F k).env all[k]=true:=by
    cases z:fK all (F k).env all[k] with
    |true=>rfl
    |false=>
     rcases t.step y with⟨h',_⟩|⟨_,_,h'⟩
     all_goals grind
   refine t.X_from (k:=k+1) ?_ (by omega) (br _);rw[aV.X,iP ⟨_,y,z,.inr ⟨T,R⟩⟩]
 intro E;have p: ∀j,j<=all.size->aV.X Q f all F S M s2.get n j=s2.get n:=by
  intro j
  induction j with
  |zero=>intro _;rfl
  |succ j C=>
   intro V;rw[aV.X,iN];exact C (by omega);rintro⟨o,y,z,I⟩;have U:=t.mono (show j+1<=all.size by omega) (br _);rcases I with⟨h1,q⟩|⟨h1,q⟩
   have J:=t.mono (show j<=all.size by omega) (br _);exact E ((t.Th_touch (show j<=all.size by omega) (t.hid y h1) q).imp id fun h=>⟨h.1,by omega⟩);exact E (.inr ⟨fA (t.mono (ki j) (by omega)) h1,by omega⟩)
 exact p _ (br _)
end
noncomputable def Mx(Q:aH)(n:Nat)(f:FuncId)(all:Array Oper)(mk:aK)(fr:Fr)(s:St)(ch:Nat->Nat):Option (Ex×Fr×St):=
 ((cy (Q.at ch) n).draw f all (Region.before all).toList mk [] 0 all.toList fr s).bind fun x=>some (.normal,x.1,x.2)
structure Rm (Q:aH) (f:FuncId) (all:Array Oper) (F:Nat->Fr) (S:Nat->St) (M:Nat->aK) (B:Nat->Nat) (G:Gh) (s2:St) (a:Act) (w:World) (listed:Array Bool) (a':Act) (w':World)
 (fr':Fr) (h:aC aR) (G':Gh) (B':Nat->Nat):Prop where
 size:listed.size=all.size
 closed:Lg all (fun k=>listed.getD k false=true)
 cur:ll Q f all F S M s2.heap.get (fun k=>listed.getD k false=true) fr' h.get
 wr:WR G' h w'
 ext:jh G s2.heap w G' h w' (S 0).aL (S all.size).aL (LB B (F 0).loc)
 fx:cN G' h B' fr' a'.tmps w'
 boxes: ∀b,LB B' fr'.loc b->LB B (F 0).loc b\/w.heap.size<=b
 defers: ∃rs,a'.defers=rs.map xf++a.defers/\wy w.heap.size w' rs
 free: ∀k,k<all.size->listed.getD k false=false-> ∀m,(S k).aL<=m->m<(S (k+1)).aL->G'.at_ m=none
def ll.congr{all:Array Oper}{y:Nat->Prop}{h:Nat->Option aR}(c:ll Q f all F S M H D fr h)(q: ∀k,k<all.size->(D k↔y k)):ll Q f all F S M H y fr h where
 env t:=(c.env t).trans (FI (X:=fun k=>ac (F k).env t) fun k p _=>q k p)
 size:=c.size
 loc u:=(c.loc u).trans (FI (X:=aV.L F u) fun k p _=>q k p)
 heap n:=(c.heap n).trans (FI (X:=aV.X Q f all F S M H n) fun k p _=>q k p)
theorem H5{listed:Array Bool}(hi:i<listed.size)(k:Nat):(listed.setIfInBounds i true).getD k false=true↔(listed.getD k false=true\/k=i):=by
 simp only[ur,Q0]
 grind
def vT(listed:Array Bool):Nat:=listed.toList.countP (fun b=> !b)
theorem aso{listed:Array Bool}(h:listed.getD i true=false):vT (listed.setIfInBounds i true)+1=vT listed:=by
 obtain⟨l⟩:=listed;simp only[vT,List.setIfInBounds_toArray,ur,azl] at*
 grind
def asn{listed:Array Bool}(h:vT listed=0)(k:Nat)(p:k<listed.size):listed.getD k false=true:=by
 obtain⟨l⟩:=listed;simp only[vT,List.countP_eq_zero] at h;simp only[ay8] at p
 have:=h l[k] (List.getElem_mem p)
 simp_all
theorem aeK{all:Array Oper}{G:Gh}(t:aV (Q.at ch) f all mk F S M lv Lo)(ro:Option Nat)(hc: ∀k,k<all.size->xW Q (lv k)/\sJ Q (lv k))(hi:l9 Q ch)(h0: ∀n o,eh mk n=false->(S 0).heap.get n=some o->s2.heap.get n=some o)(K:Exit->Act->World->Prop)(hK: ∀listed a' w' fr' h G' B',(∀k,k<all.size->listed.getD k false=true)->Rm (Q.at ch) f all F S M B G s2 a w listed a' w' fr' h G' B'->K .normal a' w'):
 ∀(z:Nat) (listed:Array Bool) (a':Act) (w':World) (fr':Fr) (h:aC aR) (G':Gh) (B':Nat->Nat),vT listed=z->
  Rm (Q.at ch) f all F S M B G s2 a w listed a' w' fr' h G' B'->wpAnyIn (mT ro) 0 Q.P .any all K z listed a' w':=by
 intro z
 induction z with
 |zero=>
  intro listed a' w' fr' h G' B' hu m;have b1: ∀k,k<all.size->listed.getD k false=true:=fun k Z=>asn hu k (by rw[m.size];exact Z);refine⟨?_,hK listed a' w' fr' h G' B' b1 m⟩;rw[List.eq_nil_iff_forall_not_mem]
  grind [mem_ready]
 |succ z ih=>
  intro listed a' w' fr' h G' B' hu m;refine⟨fun hr=>?_,fun i hi'=>?_⟩
  ·
   exfalso;have b3: ∀k,k<all.size->listed.getD k false=true:=by
    intro k
    induction k using Nat.strongRecOn with
    |_ k c2=>
     intro Z;have V:all[k]? =some all[k]:=sw Z;have Y:k ∉ Region.ready .any all listed:=by rw[hr];simp
     rw[mem_ready] at Y;have c3:k<listed.size:=by rw[m.size];exact Z
     cases e:listed.getD k false with
     |true=>rfl
     |false=>
      exfalso;apply Y;refine⟨?_,all[k],V,fun ed b6 p=>?_⟩
      grind
      have C:=Sf t.ap k all[k] (by simp) ed b6 p
      grind
   have hz:vT listed=0:=by
    obtain⟨l⟩:=listed;simp only[vT,List.countP_eq_zero];intro b p;obtain⟨k,Z,rfl⟩:=List.getElem_of_mem p;have hs:=m.size;simp only[ay8] at hs
    have:=b3 k (by omega);simp only[ur,azl,List.getElem?_eq_getElem Z,wt] at this;simp[this]
   omega
  rw[mem_ready] at hi';obtain⟨h1,o,V,h2⟩:=hi';have C:=aV.lt_size V;have R:i<listed.size:=by rw[m.size];exact C
  have a9: ¬listed.getD i false=true:=by
   simp only[ur,sw R,wt] at h1 ⊢;rw[h1];simp
  have a8:listed.getD i false=false:=by simpa using a9
  have x:mO all (fun k=>listed.getD k false=true) i o:=⟨m.closed,V,a9,h2⟩;have a6:vT (listed.setIfInBounds i true)=z:=by have:=aso h1;omega
  have U:(listed.setIfInBounds i true).size=all.size:=by rw[Array.size_setIfInBounds];exact m.size
  have a1:Lg all (fun k=>(listed.setIfInBounds i true).getD k false=true):=by
   intro j oj O b4 e he p;rw[H5 R] at O ⊢;rcases O with O|rfl
   exact .inl (m.closed j oj O b4 e he p)
   grind
  have a0: ∀ {G1:Gh} {b2:aC aR} {w1:World} {L:Nat->Prop},jh G' h w' G1 b2 w1 (S i).aL (S (i+1)).aL L->
   ∀k,k<all.size->(listed.setIfInBounds i true).getD k false=false-> ∀q,(S k).aL<=q->q<(S (k+1)).aL->G1.at_ q=none:=by
   intro G1 b2 w1 L ex k Z c4 q a5 a4;have b0: ¬(listed.getD k false=true\/k=i):=fun h=>by
    grind [H5]
   have b5:listed.getD k false=false:=by
    cases e:listed.getD k false with
    |false=>rfl
    |true=>exact absurd (.inl e) b0
   have c0:=m.free k Z b5 q a5 a4;cases e:G1.at_ q with
   |none=>rfl
   |some ad=>
    obtain⟨e1,e2⟩:=ex.names q ad e c0;rcases Nat.lt_trichotomy k i with h|h|h
    have:=t.mono (show k+1<=i by omega) (by omega);omega;exact absurd (.inr h) b0
    have:=t.mono (show i+1<=k by omega) (by omega);omega
  unfold wpOpIn;simp only[V];rw[m.fx.wanted,m.cur.wanted t x];cases hw:fK all (F i).env o with
  |false=>
   simp only[K4,if_false];obtain⟨fr1,hp,J⟩:=m.cur.skip t x hw;refine⟨fun _ _=>Ay ro _,?_⟩;refine ih _ _ _ fr1 h G' B' a6 ⟨U,a1,J.congr fun k _=>(H5 R k).symm,m.wr,m.ext,m.fx.put hp m.fx.locs (LV.of_VR (QC G')) fun _ _ h=>h,?_,?_,?_⟩;intro b p;rw[(t0 hp).2.1] at p;exact m.boxes b p;rw[LC];exact m.defers;exact a0 (L:=fun _=>False) (cZ.refl.toL _)
  |true=>
   simp only[if_true];obtain⟨v,I,s1,fr1,e1,e2,e3,hp,J⟩:=m.cur.run t h0 x hw;have a3:=m.cur.sees t h0 x hw;have a7:mg (aV.fm (Q.at ch) f F S M i o) (fun q=>q<(S (i+1)).aL) G' (aV.from_ S i (S i).heap) (aV.from_ S i h) w':=
    ⟨fun n hn=>t.none_above (zV C) n hn,a3,m.wr,fun q a5 a4=>m.free i C a8 q a5 a4⟩
   refine Y0 (hc i C).1 (hc i C).2 ro a7 m.fx hi (f:=f) (fr:=fr') ?_ _ K ?_;intro c b8 _
   have:=Ej (Q:=Q) (mt Q (lv i)) (tL Q (lv i)) f o (aV.fm (Q.at ch) f F S M i o) fr' ch (aV.from_ S i (S i).heap) v I s1 e1 c (fun j O=>b8 j (by rw[e2] at O;exact O))
   grind
   intro y w1 c v' loc' c1 a2 G1 B1 q
   have:=Ej (Q:=Q) (mt Q (lv i)) (tL Q (lv i)) f o (aV.fm (Q.at ch) f F S M i o) fr' ch (aV.from_ S i (S i).heap) v I s1 e1 c (fun j O=>q.agree j (by rw[e2] at O;exact O));have hq:=q.eval;have this:fS (Q.at c) (cy (Q.at c) (lv i)) f o (aV.fm (Q.at ch) f F S M i o) fr' (aV.from_ S i (S i).heap)=some (v,I,s1):=this;rw[this] at hq;simp only[aJ,bI] at hq;obtain⟨rfl,rfl,rfl⟩:=hq;have b7:=J a2 q.same;have af:=q.after m.fx hp;have ex:jh G' h w' G1 a2.heap w1 (S i).aL (S (i+1)).aL (LB B' fr'.loc):=by
    have:=q.ext;rw[e3] at this;exact this
   refine ih _ _ _ fr1 a2.heap G1 B1 a6 ⟨U,a1,b7.congr fun k _=>(H5 R k).symm,q.wr,?_,af.fx,?_,TL m.wr m.fx m.defers m.ext.size ex af.defers,a0 ex⟩;have E:=m.ext;have T:=ex.widen (lo':=(S 0).aL) (hi':=(S all.size).aL) (t.mono (ki i) (zV C)) (t.mono (show i+1<=all.size by omega) (br _));exact⟨E.le.trans T.le,fA E.size T.size,
    fun b p V hl=>(T.keepW b (hJ p E.size) (fun o=>V (E.ownsW b p o)) (fun l=>(m.boxes b l).elim hl (fun h=>by omega))).trans (E.keepW b p V hl),
    fun b p o=>E.owns b p (T.owns b (hJ p E.size) o),
    fun n ad h h0=>by
     cases e:G'.at_ n with
     |none=>exact T.names n ad h e
     |some b=>exact E.names n b e h0,
    fun b o v p h h0=>by
     cases e:G'.ro b o with
     |none=>exact E.owns b p (T.cells b o v (hJ p E.size) h e)
     |some u=>exact E.cells b o u p e h0,
    E.quiet.trans T.quiet,
    fun b p o=>E.ownsW b p (T.ownsW b (hJ p E.size) o)⟩
   intro b p;rcases af.boxes b p with h'|h'
   exact m.boxes b h';exact .inr (fA m.ext.size h')
theorem aeL(hm:Q.P.follows .mixedOrders=true)(ro:Option Nat)(hc: ∀k,k<n->xW Q k/\sJ Q k){all:Array Oper}{G:Gh}{id:Nat}(p:mg mk A G s s2 w)(fx:cN G s2.heap B fr a.tmps w)(hi:l9 Q ch)(Y:oa all 0 all.toList (Region.before all).toList=true)(hs:sQ Q A ch s (Mx Q n f all mk fr s))(K:Exit->Act->World->Prop)(hK: ∀a' w',uK Q mk ch fr G B s s2 a w (Mx Q n f all mk fr s) .normal a' w'->K .normal a' w'):(Code.region id all true).wpIn (mT ro) 0 Q.P K a w:=by
 obtain⟨x0,fr1,s1,h0,hA⟩:=hs ch (.refl _ _) hi;have Z:=h0;simp only[Mx,ak,aJ,bI] at h0;obtain⟨⟨R,s2'⟩,hd,hx,hf,J⟩:=h0;subst hx;dsimp only at hf J;subst hf;subst J;obtain⟨F,S,M,lv,Lo,eF,I,C,y,a0,tr⟩:=My hd;rw[bV,Array.length_toList] at C y;have t:aV (Q.at ch) f all mk F S M lv Lo:=⟨tr,Y,by rw[I];exact p.fresh⟩;have z: ∀n o,eh mk n=false->(S 0).heap.get n=some o->s2.heap.get n=some o:=by rw[I];exact p.sees.get
 have V:=((mt Q n).draw f all _ mk [] 0 all.toList fr ch s R s2' hd).1;refine wpIn_region_any hm ?_;refine aeK (G:=G) (B:=B) (s2:=s2) (a:=a) (w:=w) t ro (fun k E=>hc _ ?_) hi z K ?_ all.size _ a _ (F 0) s2.heap G B ?_ ?_
 simp_all
 ·intro listed a' w' fr' h G' B' O m
  obtain⟨c1,c2,c3,c4⟩:=m.cur.fin O;refine hK a' w' ⟨ch,R,s2',⟨h,s2'.aL,s2'.gt,s2'.ci⟩,G',B',.refl _ _,hi,Z,V,⟨rfl,rfl,rfl,?_,?_⟩,m.wr,?_,?_,?_,m.defers⟩;intro n T;show h.get n=_;rw[c4,<-y];exact(t.same z n).1 (by rw[I,y];exact T);intro n T;show h.get n=_;rw[c4];exact(t.same z n).2 (by rw[I,y];exact T)
  have:=m.ext;rw[I,y,eF] at this;exact this
  ·refine m.fx.congr ?_ ?_ ?_
   rw[<-C,c1];exact t.size_eq (br _)
   all_goals grind
  intro b hb;rw[<-eF];refine m.boxes b (LB.congr (fun u=>?_) hb);rw[<-C];exact(c3 u).symm
 simp[vT,List.countP_replicate];refine⟨by simp,?_,?_,p.wr.of_heap rfl,(cZ.of_heap (w:=w) (w':= {w with drawn:=w.drawn+1 }) rfl ⟨rfl,rfl,rfl,jQ _⟩).toL _,?_,fun b h=>.inl h,⟨[],rfl,.nil _ _⟩,?_⟩;intro j o U;simp[ur,QZ] at U;split at U<;>simp at U;refine ll.start fun k E=>?_;simp[ur,QZ] at E;split at E<;>simp at E;rw[eF];exact⟨fx.size,fx.env,⟨fx.locs.cells,fx.locs.free,fx.locs.ro,fx.locs.inj⟩⟩;intro k E _ q h1 h2;have l1:=t.mono (ki k) (zV E);have l2:=t.mono (show k+1<=all.size by omega) (br _);rw[I] at l1;rw[y] at l2;exact p.free q (by omega) (hA q (by omega) (by omega))
structure oM (Q:aH):Prop where
 mixed:Q.P.follows .mixedOrders=true
 spec:abO Q
 specH:abN Q
 specW:abP Q:=by intro f sp h;cases h
 specN:aAA Q:=by intro f sp h e;cases e
 names: ∀(f:Nat) (fn:Func),Q.P.funcs[f]? =some fn->(fn.name== "runtime.NumGoroutine")=false
section
variable{Q:aH}{n:Nat}
noncomputable def Kx(Q:aH)(n:Nat)(f:FuncId)(y:Code)(mk:aK)(x:Ex)(fr:Fr)(s:St)(c:Nat->Nat):Option (Ex×Fr×St):=qd (cy (Q.at c) n) f y mk (x,fr,s)
theorem aab(hn:sJ Q n)(ro:Option Nat){x y:Code}{G:Gh}(hf:ro≠none->dY x=true)(O:xY ro G s2.heap w)(p:mg mk A G s s2 w)(fx:cN G s2.heap B fr a.tmps w)(hi:l9 Q ch)(Y:sQ Q A ch s (fun c=>(lO Q n f x mk fr s c).bind fun r=>Kx Q n f y mk r.1 r.2.1 r.2.2 c))(K:Exit->Act->World->Prop)(Z:Act->World->Prop)(T: ∀e a' w',uK Q mk ch fr G B s s2 a w (fun c=>(lO Q n f x mk fr s c).bind fun r=>Kx Q n f y mk r.1 r.2.1 r.2.2 c) e a' w'->K e.to a' w')(hY: ∀I z ch1 fr1 s1 q G1 J,xY ro G1 q.heap z->mg mk A G1 s1 q z->cN G1 q.heap J fr1 I.tmps z->l9 Q ch1->sQ Q A ch1 s1 (lO Q n f y mk fr1 s1)->
  (∀e a' w',uK Q mk ch1 fr1 G1 J s1 q I z (lO Q n f y mk fr1 s1) e a' w'->K e.to a' w')->Z I z):x.wpIn (mT ro) 0 Q.P (Exit.then Z K) a w:=by
 have C:=Mq Q n f x mk fr s;refine(hn ro f x mk fr ch A G B s s2 a w hf O p fx hi (Y.first ?_) _ ?_).1;intro e fr' s' c e2 fr'' s'' h;unfold Kx at h;cases e with
 |normal=>exact(TF (n:=n) h).aL
 |exit id=>grind [qd]
 |ret=>grind [qd]
 rintro e I z ⟨V,fr1,s1,q,G1,J,h1,U,R,E⟩;cases e with
 |normal=>
  refine hY I z V fr1 s1 q G1 J (O.after fx E) (p.after E) E.fx U ?_ ?_;exact Y.second C h1 R E.goes.ci E.goes.aL;intro e a' w' pp;exact T e a' w' (uK.second (E2:=fun x fr s c=>Kx Q n f y mk x fr s c) C h1 R E pp)
 |exit id=>
  refine T (.exit id) I z ⟨V,fr1,s1,q,G1,J,h1,U,?_,E⟩;simp only[R,au];rfl
 |ret=>
  refine T .ret I z ⟨V,fr1,s1,q,G1,J,h1,U,?_,E⟩;simp only[R,au];rfl
theorem aep(g2:oM Q)(hn:sJ Q n)(ho:Hl Q n)(e5:xW Q n)(hc: ∀k,k<n->xW Q k/\sJ Q k):sJ Q (n+1):=by
 intro ro f c mk fr ch A G B s s2 a w a3 a9 p fx hi hs K hK;cases c with
 |skip=>exact⟨wpIn_skip (hK .normal a w ⟨ch,fr,s,s2,G,B,.refl _ _,hi,rfl,.refl p fx⟩),by simp⟩
 |label l=>exact⟨wpIn_label (hK .normal a w ⟨ch,fr,s,s2,G,B,.refl _ _,hi,rfl,.refl p fx⟩),by simp⟩
 |ret=>exact⟨wpIn_ret (hK .ret a w ⟨ch,fr,s,s2,G,B,.refl _ _,hi,rfl,.refl p fx⟩),by simp⟩
 |exit id=>exact⟨wpIn_exit (hK (.exit id) a w ⟨ch,fr,s,s2,G,B,.refl _ _,hi,rfl,.refl p fx⟩),by simp⟩
 |seq x y=>
  have a3:ro≠none->dY x=true/\dY y=true:=fun h=>by simpa[dY] using a3 h
  refine⟨wpIn_seq (aab hn ro (fun h=>(a3 h).1) a9 p fx hi hs K _ hK ?_),by simp⟩;intro a1 Y ch1 fr1 s1 d1 G1 B1 d2 p1 e9 d6 b6 e8;exact(hn ro f y mk fr1 ch1 A G1 B1 s1 d1 a1 Y (fun h=>(a3 h).2) d2 p1 e9 d6 b6 K e8).1
 |cond x y z=>
  refine⟨?_,by simp⟩;obtain⟨e0,c3,s0,h0,_⟩:=hs ch (.refl _ _) hi;have h0:(ev fr.env x).bind (Ca (cy (Q.at ch) n) f y z mk fr s)=some (e0,c3,s0):=h0;simp only[ak] at h0;obtain⟨v,hv,h0⟩:=h0;have hl:=fx.ev hv;cases v<;>try (cases h0;done)
  rename_i b;have hl:VR G (.bool b) (a.eval x):=hl;have hx:a.eval x= .bool b:=by
   generalize a.eval x=u at hl;cases hl;rfl
  have Z: ∀c,lO Q (n+1) f (.cond x y z) mk fr s c=lO Q n f (if b then y else z) mk fr s c:=by
   intro c;show(ev fr.env x).bind (Ca (cy (Q.at c) n) f y z mk fr s)=_;rw[hv];cases b<;>rfl
  have a3:ro≠none->dY (if b then y else z)=true:=fun h=>by
   grind [dY]
  refine wpIn_cond hx (hn ro f _ mk fr ch A G B s s2 a w a3 a9 p fx hi ?_ K ?_).1;intro c h1 h2;have:=hs c h1 h2;rw[Z] at this;exact this;rintro e a' w' ⟨c,fr',s',s2',G',B',h1,h2,h3,h4⟩;exact hK e a' w' ⟨c,fr',s',s2',G',B',h1,h2,by rw[Z];exact h3,h4⟩
 |block id b=>
  refine⟨wpIn_block ?_,by simp⟩;have Z: ∀c,lO Q (n+1) f (.block id b) mk fr s c=(lO Q n f b mk fr s c).bind fun x=>some (qz id x):=fun _=>rfl;refine(hn ro f b mk fr ch A G B s s2 a w (fun h=>by simpa[dY] using a3 h) a9 p fx hi ?_ _ ?_).1;intro c h1 h2;obtain⟨e,fr',s',h3,h4⟩:=hs c h1 h2;rw[Z] at h3;simp only[ak] at h3;obtain⟨⟨e1,fr1,s1⟩,h5,h6⟩:=h3;refine⟨e1,fr1,s1,h5,?_⟩;have:s1=s':=by
   cases e1<;>simp only[qz,aJ,bI] at h6;exact h6.2.2
   grind
   exact h6.2.2
  subst this;exact h4;rintro e a' w' ⟨c,fr',s',s2',G',B',h1,h2,h3,h4⟩;have V: ∀e',qz id (e,fr',s')=(e',fr',s')->K e'.to a' w':=fun e' he=>
   hK e' a' w' ⟨c,fr',s',s2',G',B',h1,h2,by rw[Z,h3,au,he],h4⟩
  cases e with
  |normal=>exact V .normal rfl
  |ret=>exact V .ret rfl
  |exit i=>
   show(if i=id then K .normal a' w' else K (.exit i) a' w');by_cases e:i=id;rw[iP e];refine V .normal ?_;subst e;simp[qz];rw[iN e];refine V (.exit i) ?_
   grind [U1,qz]
 |scope b=>
  have h9:ro=none:=by
   cases ro with
   |none=>rfl
   |some l=>grind [dY]
  subst h9;refine⟨(wpIn_wide (n:=0)).2 (wp_scope_straight ((wpIn_wide (n:=0)).1 ?_)),by simp⟩;refine(hn none f b mk fr ch A G B s s2 a w (fun h=>absurd rfl h) .none p fx hi hs _ ?_).1;intro e a' w' h
  have:=hK e a' w' h;cases e<;>exact this
 |loop b=>
  have d7:ro≠none->dY b=true:=fun h=>by simpa[dY] using a3 h
  have f4:Code.roundsIn (mT ro) 0 Q.P b K (n+1) a w:=by
   rw[roundsIn_succ];refine aab (y:=.loop b) hn ro d7 a9 p fx hi hs K _ hK ?_;intro a1 Y ch1 fr1 s1 d1 G1 B1 d2 p1 e9 d6 b6 e8;exact(hn ro f (.loop b) mk fr1 ch1 A G1 B1 s1 d1 a1 Y a3 d2 p1 e9 d6 b6 K e8).2 b rfl
  grind [wpIn_loop_rounds]
 |region id ops draw=>
  refine⟨?_,by simp⟩;cases draw with
  |false=>
   refine wpIn_region ?_
   have:=ho ro f ops mk ops.toList 0 fr ch A G B s s2 a w p fx hi (fun k o hk=>by rw[bV];simpa using hk) hs K (fun a' w' h=>hK .normal a' w' h)
   grind [List.range_eq_range']
  |true=>
   have Z: ∀c,lO Q (n+1) f (.region id ops true) mk fr s c=(bif oa ops 0 ops.toList (Region.before ops).toList then(cy (Q.at c) n).draw f ops (Region.before ops).toList mk [] 0 ops.toList fr s else none).bind fun x=>some (.normal,x.1,x.2):=fun _=>rfl;cases hap:oa ops 0 ops.toList (Region.before ops).toList with
   |false=>
    obtain⟨e0,c3,s0,h0,_⟩:=hs ch (.refl _ _) hi;rw[Z,hap] at h0;cases h0
   |true=>
    simp only[hap,cT] at Z;refine aeL g2.mixed ro hc p fx hi hap ?_ K ?_ (n:=n) (f:=f);intro c h1 h2;have:=hs c h1 h2;rw[Z] at this;exact this;rintro a' w' ⟨c,fr',s',s2',G',B',h1,h2,h3,h4⟩;exact hK .normal a' w' ⟨c,fr',s',s2',G',B',h1,h2,by rw[Z];exact h3,h4⟩
 |rangeFunc g U T R=>
  refine⟨?_,by simp⟩;obtain⟨e0,c3,s0,h0,j7⟩:=hs ch (.refl _ _) hi;have c5: ∀c,lO Q (n+1) f (.rangeFunc g U T R) mk fr s c=(ev fr.env g).bind (xC (Q.at c) (cy (Q.at c) n) f U.toList T R mk fr s):=fun _=>rfl;rw[c5] at h0;simp only[ak] at h0;obtain⟨gv,hg,h0⟩:=h0;unfold xC at h0;split at h0
  case h_2=>cases h0
  rename_i h first E
  obtain⟨hb,h0⟩:=bh h0;have e6:=hb;simp only[bu] at hb;obtain⟨I,b7,i2,d7⟩:=hb;have b8:=fx.ev hg;have b8:VR G (.func (.func h) first E) (a.eval g):=b8;generalize hgx:a.eval g=gx at b8;cases b8 with
  |func g4 g5=>
  rename_i fs cs;have Z: ∀c,lO Q (n+1) f (.rangeFunc g U T R) mk fr s c=((cy (Q.at c) n).call h (first++(.yld s.aL::E)) mk (s.new (.loop f fr.env fr.size U.toList T R none))).bind fun x=>Be mk s.aL fr x.2:=by
   intro c;have e6:(tz (Q.at c).P h&&(fr.env.all jY&&(dY T&&dY R)))=true:=e6;rw[c5,hg];simp only[au,xC,e6,cT]
  have b3: ∀c x fr' s',lO Q (n+1) f (.rangeFunc g U T R) mk fr s c=some (x,fr',s')-> ∃v s1 o,(cy (Q.at c) n).call h (first++(.yld s.aL::E)) mk (s.new (.loop f fr.env fr.size U.toList T R none))=some (v,s1)/\
   s1.get mk s.aL=some o/\(∃f' b4 a5 d4 a' b' pe,o= .loop f' b4 a5 d4 a' b' pe/\x=Gg pe)/\fr'=fr/\s'=s1.put s.aL none:=by
   intro c x fr' s' h1;rw[Z] at h1;simp only[ak] at h1;obtain⟨⟨v,s1⟩,h2,h3⟩:=h1;simp only[Be,ak] at h3;obtain⟨o,h4,h5⟩:=h3;cases o with
   |loop f' b4 a5 d4 a' b' pe=>
    grind
   |cells _=>cases h5
   |tok=>cases h5
   |map _ _=>cases h5
   |iter _ _ _ _=>cases h5
   |fix _=>cases h5
  have i1: ∀c v s1,(cy (Q.at c) n).call h (first++(.yld s.aL::E)) mk (s.new (.loop f fr.env fr.size U.toList T R none))=some (v,s1)->s.aL+1<=s1.aL:=fun c v s1 h1=>
   ((mt Q n).call h _ mk c _ v s1 h1).1.aL
  obtain⟨e1,fr1,s1,h1,j1⟩:=hs ch (.refl _ _) hi;have i8:A s.aL:=by
   obtain⟨v,a8,o,q1,_,_,_,q5⟩:=b3 _ _ _ _ h1;refine j1 _ (br _) ?_
   have:=i1 _ _ _ q1;rw[q5];exact this
  have b1:G.at_ s.aL=none:=p.free _ (br _) i8;refine wpIn_rangeFunc ?_;intro fn _;obtain⟨a2,L,ds,Y,r1,f5,a7,x1,j4,i5,g1,c0,f7⟩: ∃(a2:Loop) (L:Nat) (ds:List Nat) (Y:World),(Instr.enterLoop fn a.tmps U T R (mT ro).round).run Q.P w= .ok (L,ds.map xf) Y/\
   (a2.state= .ready/\a2.pending=none/\a2.tmps=a.tmps/\a2.params=U/\a2.assign=T/\a2.body=R)/\WR G s2.heap Y/\cZ G s2.heap w G s2.heap Y s.aL s.aL/\w.heap.size<=L/\L<Y.heap.size/\Y.heap[L]? =some (.loop a2)/\wy w.heap.size Y ds/\ ¬fg G s2.heap L:=by
   cases ro with
   |none=>
    refine⟨{state:=.ready,pending:=none,fn,tmps:=a.tmps,params:=U,assign:=T,body:=R,defers:=w.heap.size },w.heap.size+1,[w.heap.size],_,run_enterLoop_outer fn a.tmps U T R,⟨rfl,rfl,rfl,rfl,rfl,rfl⟩,?_⟩;obtain⟨g7,xA⟩:=p.wr.fresh (.deferred (some [])) trivial;obtain⟨a7,xB⟩:=g7.fresh (.loop {state:=.ready,pending:=none,fn,tmps:=a.tmps,params:=U,assign:=T,body:=R,defers:=w.heap.size }) trivial;have h8:(w.alloc (.deferred (some []))).heap.size=w.heap.size+1:=by simp
    generalize hw1:(w.alloc (.deferred (some []))).alloc (.loop {state:=.ready,pending:=none,fn,tmps:=a.tmps,params:=U,assign:=T,body:=R,defers:=w.heap.size })=Y at*;have b6:Y.heap.size=w.heap.size+2:=by rw[<-hw1];simp
    refine⟨a7,(xA s.aL s.aL).trans (xB s.aL s.aL) (br _) (br _),jQ _,by omega,by rw[<-hw1,pJ,iP h8.symm],?_,fun o=>by have:=p.wr.owned_lt o;omega⟩;have c0:Y.heap[w.heap.size]? =some (.deferred (some [])):=by rw[<-hw1,pJ,iN (by omega),pJ,iP rfl]
    exact⟨by simp,fun r hr=>by
     grind⟩
   |some l0=>
    obtain⟨⟨r0,h0⟩,_⟩:=a9 l0 rfl;refine⟨{state:=.ready,pending:=none,fn,tmps:=a.tmps,params:=U,assign:=T,body:=R,defers:=r0.defers },w.heap.size,[],w.alloc (.loop {state:=.ready,pending:=none,fn,tmps:=a.tmps,params:=U,assign:=T,body:=R,defers:=r0.defers }),?_,⟨rfl,rfl,rfl,rfl,rfl,rfl⟩,?_⟩
    simp_all [afs,Instr.enterLoop,run_getLoop]
    obtain⟨a7,xB⟩:=p.wr.fresh (.loop {state:=.ready,pending:=none,fn,tmps:=a.tmps,params:=U,assign:=T,body:=R,defers:=r0.defers }) trivial;refine⟨a7,xB s.aL s.aL,br _,by simp,by rw[pJ,iP rfl],.nil _ _,fun o=>by have:=p.wr.owned_lt o;omega⟩
  have i6:D4 G a2 fr.env fr.size U.toList T R none:=by
   obtain⟨k1,k2,k3,k4,k5,k6⟩:=f5;refine⟨k1,k2,by rw[k3];exact fx.size,fun t=>?_,by rw[k4],k5,k6,i2,d7⟩;rw[k3]
   have:=fx.env t;have f6:jY (ac fr.env t)=true:=by
    unfold ac;cases hgt:fr.env.get t with
    |none=>rfl
    |some v=>exact aC.all_get b7 hgt
   cases hv:ac fr.env t<;>rw[hv] at this f6<;>first|exact this|cases f6
  have b5:=a7.named (n:=s.aL) (a:=⟨L,0,none⟩) (o:=.loop f fr.env fr.size U.toList T R none) b1 i5 rfl f7 ⟨a2,g1,i6⟩ (fun i v hv=>by
   rw[a7.aside_ro g1 trivial] at hv;cases hv)
  have b0:=G.name_le (⟨L,0,none⟩:Addr) b1;have g6:(G.name s.aL ⟨L,0,none⟩).at_ s.aL=some ⟨L,0,none⟩:=by simp[Gh.name]
  have b5:WR (G.name s.aL ⟨L,0,none⟩) (s2.new (.loop f fr.env fr.size U.toList T R none)).heap Y:=by
   show WR _ (s2.heap.set s2.aL _) _;rw[p.sees.aL];exact b5
  have g0:=gr.new mk s (.loop f fr.env fr.size U.toList T R none);have d0:=ib.new p.sees (.loop f fr.env fr.size U.toList T R none);have p2:mg mk A (G.name s.aL ⟨L,0,none⟩) (s.new (.loop f fr.env fr.size U.toList T R none)) (s2.new (.loop f fr.env fr.size U.toList T R none)) Y:=
   ⟨p.fresh.goes g0,d0.sees p.sees g0,b5,fun q hq i7=>by
    have hq:s.aL+1<=q:=hq;show(if q=s.aL then _ else G.at_ q)=none;rw[iN (by omega)];exact p.free q (by omega) i7⟩
  have e7:ck (G.name s.aL ⟨L,0,none⟩) (first++(.yld s.aL::E)) (fs++(.func (.yield L) #[] #[]::cs)):=
   (g4.mono b0).append (.cons (.yld g6) (g5.mono b0))
  have i4:=e5 h _ mk _ _ _ Y _ ch A p2 e7 hi (fun a4 ha hb=>by
   obtain⟨x,fr',s',q1,q2⟩:=hs a4 ha hb;obtain⟨v,a8,o,q3,_,_,_,q5⟩:=b3 _ _ _ _ q1;refine⟨v,a8,q3,fun q hq i0=>q2 q ?_ ?_⟩;have hq:s.aL+1<=q:=hq;omega;rw[q5];exact i0)
  have c6:(callFunc h ⟨fs++(.func (.yield L) #[] #[]::cs)⟩).run Q.P Y= .ok (.enter h ⟨fs++(.func (.yield L) #[] #[]::cs)⟩) Y:=by
   unfold tz at I;cases b2:(Q.at ch).P.funcs[h]? with
   |none=>rw[b2] at I;cases I
   |some c4=>
    rw[b2] at I;have b2:Q.P.funcs[h]? =some c4:=b2;have I:c4.body.isSome=true:=I;cases hbb:c4.body with
    |none=>rw[hbb] at I;cases I
    |some bb=>
     have j3:=g2.names h c4 b2
     simp_all [callFunc]
  have c1:Calls Q.P h ⟨fs++(.func (.yield L) #[] #[]::cs)⟩ Y (fun e w'=> ∃y,e= .returned y/\ ∃a4 v s' s2' G',Hd Q n h (first++(.yld s.aL::E)) mk ch (G.name s.aL ⟨L,0,none⟩) (s.new (.loop f fr.env fr.size U.toList T R none)) (s2.new (.loop f fr.env fr.size U.toList T R none)) Y y w' a4 v s' s2' G'):=by
   rcases i4 with⟨y,w',h1,_⟩|⟨_,h2⟩
   rw[c6] at h1;cases h1;exact h2
  have f1:(⟨fs⟩:Array Value)++ #[.func (.yield L) #[] #[]]++(⟨cs⟩:Array Value)=⟨fs++(.func (.yield L) #[] #[]::cs)⟩:=by
   apply qp;simp
  refine⟨L,ds.map xf,Y, {target:=.fn (.func h) ⟨cs⟩,args:=⟨fs⟩++ #[.func (.yield L) #[] #[]] },Y,h,⟨fs++(.func (.yield L) #[] #[]::cs)⟩,Y,r1,?_,fun f' _=>Ay ro f',?_,MH ro 0,?_⟩
  simp_all [resolve,Act.eval,Deferred.ofValue]
  simp only[invoke,f1];exact c6;refine Uu.2 (c1.mono ?_);rintro e w3 ⟨y,rfl,a4,v,s',s2',G',c⟩;have c8:lI s.ci ch a4:=c.agree;obtain⟨xx,j8,sx,hx,j5⟩:=hs a4 c8 c.inb;obtain⟨v',a8,o,q3,q4,⟨f',b4,a5,d4,a',b',pe,rfl,rfl⟩,f0,rfl⟩:=b3 _ _ _ _ hx;replace f0:=f0.symm;subst f0;have e4:=c.eval;rw[q3] at e4;simp only[aJ,bI] at e4;obtain⟨rfl,rfl⟩:=e4;have gC:=((mt Q n).call h _ mk a4 _ v' a8 q3).1;have y2:=c.same.sees (d0.sees p.sees g0) gC;have f2:=y2.look q4;have c7:G'.at_ s.aL=some ⟨L,0,none⟩:=c.ext.le.at_ _ _ g6;obtain⟨ad,c2,_,a0,a6,c9⟩:=c.wr.obj s.aL _ (tx f2).2;rw[c7] at c2;injection c2 with c2;subst c2
  have a6:w3.heap[L]? =some (.loop a0):=a6;have h7:a0.state≠ .busy:=by rw[c9.state];cases pe<;>simp
  have d5: ¬fg G' (s2'.put s.aL none).heap L:=JL c.wr (by rw[(tx f2).2];simp) c7;have f3:WR G' (s2'.put s.aL none).heap (dU w3 L (.loop {a0 with state:=.exhausted })):=(c.wr.killed s.aL).aside a6 trivial d5;have i3: ∀r∈ds,w3.heap[r]? =some (.deferred (some [])):=fun r hr=>by
   have:=(c0.at_ r hr).2;exact(c.ext.keep _ (jB this) (b5.not_deferred this)).trans this
  have g8:jh G s2.heap w G' (s2'.put s.aL none).heap (dU w3 L (.loop {a0 with state:=.exhausted })) s.aL a8.aL (LB B fr.loc):=by
   have hC:=c.ext;refine jh.aside (o:=.loop a0) ?_ a6 trivial trivial (fun h=>by omega);refine⟨b0.trans hC.le,fA x1.size hC.size,?_,?_,?_,?_,x1.quiet.trans hC.quiet,?_⟩;intro b hb ho _;refine(hC.keepW b (by omega) ?_).trans (x1.keepW b hb ho);rintro⟨m,ad,pp,J,tp,O,t3⟩;have J:(s2.heap.set s2.aL _).get m=some pp:=J;rw[aC.get_set,p.sees.aL] at J;have O:(if m=s.aL then some ⟨L,0,none⟩ else G.at_ m)=some ad:=O;by_cases e:m=s.aL
   grind
   rw[iN e] at J O;exact ho ⟨m,ad,pp,J,tp,O,t3⟩;intro b hb ho;have ho:=hC.owns b (by omega) (A9 ho);obtain⟨m,ad,J,O,t3⟩:=ho;have J:(s2.heap.set s2.aL _).get m≠none:=J;rw[aC.get_set,p.sees.aL] at J;have O:(if m=s.aL then some ⟨L,0,none⟩ else G.at_ m)=some ad:=O;by_cases e:m=s.aL
   grind
   rw[iN e] at J O;exact⟨m,ad,J,O,t3⟩;intro m ad hm h0;by_cases e:m=s.aL
   grind
   have j2:(G.name s.aL ⟨L,0,none⟩).at_ m=none:=by
    show(if m=s.aL then _ else G.at_ m)=none;rw[iN e];exact h0
   have:=hC.names m ad hm j2;have hq:s.aL+1<=m:=this.1;exact⟨by omega,this.2⟩;intro b o v hb hv h0;have ho:=hC.cells b o v (by omega) hv h0;obtain⟨m,ad,J,O,t3⟩:=ho;have J:(s2.heap.set s2.aL _).get m≠none:=J;rw[aC.get_set,p.sees.aL] at J;have O:(if m=s.aL then some ⟨L,0,none⟩ else G.at_ m)=some ad:=O;by_cases e:m=s.aL
   grind
   rw[iN e] at J O;exact⟨m,ad,J,O,t3⟩;intro b hb ho;have ho:=hC.ownsW b (by omega) (Dc ho);obtain⟨m,ad,pp,J,tp,O,t3⟩:=ho;have J:(s2.heap.set s2.aL _).get m=some pp:=J;rw[aC.get_set,p.sees.aL] at J;have O:(if m=s.aL then some ⟨L,0,none⟩ else G.at_ m)=some ad:=O;by_cases e:m=s.aL
   grind
   rw[iN e] at J O;exact⟨m,ad,pp,J,tp,O,t3⟩
  have g3:cN G' (s2'.put s.aL none).heap B fr a.tmps (dU w3 L (.loop {a0 with state:=.exhausted })):=by
   have e1:qu (G.name s.aL ⟨L,0,none⟩) (s2.new (.loop f fr.env fr.size U.toList T R none)).heap B fr.loc Y:=by
    have:=fx.locs.ext x1;refine⟨fun t cs ht=>?_,fun t cs ht ho=>?_,this.ro,this.inj⟩;obtain⟨C,e,u1,u2⟩:=this.cells t cs ht;exact⟨C,e,u1,fun i v hi=>let⟨v1,z,v2,v3⟩:=u2 i v hi;⟨v1,z,v2,v3.mono b0⟩⟩;obtain⟨m,ad,J,O,t3⟩:=ho;have J:(s2.heap.set s2.aL _).get m≠none:=J;rw[aC.get_set,p.sees.aL] at J;have O:(if m=s.aL then some ⟨L,0,none⟩ else G.at_ m)=some ad:=O;by_cases e:m=s.aL;rw[iP e] at O;injection O with O;subst O
    obtain⟨C,ty,u1,_⟩:=fx.locs.cells t cs ht
    grind
    rw[iN e] at J O;exact fx.locs.free t cs ht ⟨m,ad,J,O,t3⟩
   have e2:=e1.ext c.ext;have e3:qu G' (s2'.put s.aL none).heap B fr.loc w3:=⟨e2.cells,fun t cs ht ho=>e2.free t cs ht (A9 ho),e2.ro,e2.inj⟩;exact⟨fx.size,fun t=>(fx.env t).mono (b0.trans c.ext.le),e3.aside a6 trivial⟩
  have gP:=gr.put q4 (mk:=mk) none;have V:uK Q mk ch fr G B s s2 a w (lO Q (n+1) f (.rangeFunc g U T R) mk fr s) (Gg pe) {a with defers:=ds.map xf++a.defers } (dU w3 L (.loop {a0 with state:=.exhausted })):=by
   refine⟨a4,fr,a8.put s.aL none,s2'.put s.aL none,G',B,c8,c.inb,hx,⟨(g0.trans gC).trans gP,(d0.trans g0 gC c.same).trans (g0.trans gC) gP (.put y2 q4 none),f3,g8,g3,fun b h=>.inl h,ds,rfl,c0.nodup,?_⟩⟩;intro r hr;refine⟨(c0.at_ r hr).1,?_⟩
   have:=i3 r hr;rw[jZ _ _ _ _ (jB a6),iN (fun e=>by
    grind)]
   exact this
  refine⟨_,_,run_endLoop a6 h7,?_⟩
  have:=hK _ _ _ V;rw[PL];rw[c9.pending] at this ⊢;cases pe with
  |none=>exact this
  |some x=>
   cases x with
   |normal=>exact wpIn_skip this
   |exit id=>exact wpIn_exit this
   |ret=>exact wpIn_ret this
 |_=>
  obtain⟨e0,c3,s0,h0,_⟩:=hs ch (.refl _ _) hi;cases h0
end
variable{fn:Func}{u:aa}
section
variable{P:Program}{mk:aK}{G:Gh}{B:Nat->Nat}{fr:Fr}{s:St}{tmps:Array Value}{w:World}
theorem alR(wr:WR G s.heap w)(fl:qu G s.heap B fr.loc w)(hl:LV G fr.loc B u x)(q:mr P mk t u fr.loc s=some v):
 ∃E y,x= .pointer (some E)/\(loadVar t E).run P w= .ok y w/\VR G v y:=by
 unfold mr at q;split at q;rename_i t' g Z;simp only[ak] at q;obtain⟨cs,U,q⟩:=q;obtain⟨h1,_,h2⟩:=hl;have hg:=Xq U;replace h2:=h2 hg;subst hg;obtain⟨C,e,Y,V⟩:=fl.cells t' cs U;obtain⟨y,J,O,ht⟩:=zC (w:=w) (b:=B t') (base:=0) q (fun i u hi=>by
  obtain⟨R,z,I,hr⟩:=V i u hi;exact⟨R,z,by rw[o0 Y];simpa using I,hr⟩)
 grind
 rename_i n Z;simp only[ak] at q;obtain⟨ob,T,q⟩:=q;split at q;rename_i cs;have hl:VR G _ _:=hl;cases hl;rename_i E hn;obtain⟨a2,p,a0,C,e,Y,_,V⟩:=wr.obj n _ (iZ T);rw[hn] at p;injection p with p;subst p
 obtain⟨y,J,O,ht⟩:=zC (w:=w) (b:=E.block) (base:=E.off) q (fun i u hi=>by
  obtain⟨R,z,I,hr⟩:=V i u hi;exact⟨R,z,by rw[o0 Y];exact I,hr⟩)
 exact⟨_,y,rfl,J,O⟩;rename_i cs;have hl:VR G _ _:=hl;cases hl;rename_i E hn;obtain⟨a2,p,a0,C,e,Y,_,V⟩:=wr.obj n _ (iZ T);rw[hn] at p;injection p with p;subst p
 obtain⟨y,J,O,ht⟩:=zC (w:=w) (b:=E.block) (base:=E.off) q (fun i u hi=>by
  obtain⟨R,z,I,hr⟩:=V i u hi;exact⟨R,z,by rw[o0 Y];exact I,hr⟩)
 exact⟨_,y,rfl,J,O⟩;cases q;rename_i cs;have hl:VR G _ _:=hl;cases hl;rename_i b base a1;obtain⟨y,J,O,ht⟩:=zC (w:=w) (b:=b) (base:=base) q (fun i u hi=>wr.ro _ _ _ (a1 i u hi))
 grind
 cases q
def Kf(tmps:Array Value):ResultVar->Sem Value
 | .tmp t=>pure (tmps.getD t undef)
 | .cell a t=>do loadVar t (<-asAddr (tmps.getD a undef))
theorem ZQ{Q:aH}(wr:WR G s.heap w)(fx:cN G s.heap B fr tmps w): ∀ {l:List ResultVar} {vs:List aa},jt Q mk fr s l=some vs->
 ∃p,(l.mapM (Kf tmps)).run Q.P w= .ok p w/\ck G vs p
 | [],_,h=>by
   simp only[jt,aJ] at h;subst h;exact⟨[],by simp[Sem.run_pure],.nil⟩
 |r::l,_,h=>by
  simp only[jt,ak] at h;obtain⟨v,z,vs,q,h⟩:=h;obtain⟨E,h⟩:=bh h;injection h with h;subst h
  obtain⟨p,h1,O⟩:=ZQ wr fx q;have: ∃y,(Kf tmps r).run Q.P w= .ok y w/\VR G v y:=by
   cases r with
   |tmp t=>
    have C:=cN.evc (a:=⟨tmps,[]⟩) fx z;exact⟨_,rfl,C.1⟩
   |cell a t=>
    obtain⟨U,y,T,e2,R⟩:=alR wr fx.locs (fx.env a) z
    grind [Kf,asAddr]
  obtain⟨y,J,I⟩:=this;refine⟨y::p,?_,.cons I O⟩;rw[List.mapM_cons];simp[J,h1]
def apO(wr:WR G s.heap w)(fx:cN G s.heap B fr tmps w){vs:List aa}(h:jt Q mk fr s fn.results.toList=some vs):
 ∃y,(results fn tmps).run Q.P w= .ok y w/\VR G (nT vs) y:=by
 obtain⟨C,h1,z⟩:=ZQ wr fx h;have hr:results fn tmps=(do let vs<-fn.results.mapM (Kf tmps);pure (if h:vs.size=1 then vs[0] else .tuple vs)):=by
  unfold results;congr 1
 rw[hr,Array.mapM_eq_mapM_toList];simp only[Sem.run_bind,Sem.run_map,h1,mL,Sem.run_pure];cases z with
 |nil=>exact⟨.tuple ⟨[]⟩,by simp,.tup .nil⟩
 |cons a b=>
  rename_i v y q p;cases b with
  |nil=>exact⟨y,by simp,a⟩
  |cons c d=>exact⟨.tuple ⟨_⟩,by simp,.tup (.cons a (.cons c d))⟩
end
theorem Yq: ∀(l:List aa) (n t:Nat),(gI n l).get t=if t<n then none else l[t-n]?
 | [],n,t=>by
   simp only[gI];have:(aC.nil:ax).get t=none:=rfl;rw[this];simp
 |v::l,n,t=>by
  rw[gI,aC.get_set,Yq l (n+1) t]
  grind
theorem aeT{G:Gh}(y:ck G args xs)(p:Nat):
 cN G h (fun _=>0) ⟨gI 0 args,bif bw args.length p then p else args.length,[]⟩ ((⟨xs⟩:Array Value)++Array.replicate (p-(⟨xs⟩:Array Value).size) undef) w where
 size:=by
  have:=y.length
  grind [tN]
 env t:=by
  have q:=y.length;simp only[ac,Yq,Nat.not_lt_zero,if_false,Nat.sub_zero];cases e:args[t]? with
  |some v=>
   obtain⟨x,E,hr⟩:=y.get e;have z:t<xs.length:=by
    rcases nZ t xs.length with h|h
    exact h
    grind
   have:((⟨xs⟩:Array Value)++Array.replicate (p-(⟨xs⟩:Array Value).size) undef).getD t undef=x:=by
    rw[ur,Array.getElem?_append_left (by simpa using z)];simp[E]
   rw[this];exact LV.of_VR hr
  |none=>
   have C:xs.length<=t:=by rw[<-q];exact List.getElem?_eq_none_iff.1 e
   have:((⟨xs⟩:Array Value)++Array.replicate (p-(⟨xs⟩:Array Value).size) undef).getD t undef=undef:=by
    rw[ur,Array.getElem?_append_right (by simpa using C),QZ];split<;>rfl
   rw[this];exact LV.of_VR (QC G)
 locs:=⟨fun t cs h=>by simp[Loc.get] at h,fun t cs h=>by simp[Loc.get] at h,fun t cs h=>by simp[Loc.get] at h,fun t u cs I h=>by simp[Loc.get] at h⟩
theorem Xi{Q:aH}{fn:Func}{R:Ending->World->Prop}{G0 G:Gh}{h0:aC aR}{w0:World}{B:Nat->Nat}{fr:Fr}{tmps:Array Value}{lo hi:Nat}{mk:aK}{s:St}{vs:List aa}(p:jt Q mk fr s fn.results.toList=some vs)(E: ∀y w',WR G s.heap w'->cZ G0 h0 w0 G s.heap w' lo hi->VR G (nT vs) y->R (.returned y) w'):
 ∀(rs:List Nat) (w:World),WR G s.heap w->cN G s.heap B fr tmps w->cZ G0 h0 w0 G s.heap w lo hi->wy w0.heap.size w rs->LeavesInM Fence.wide 0 Q.P fn tmps R (rs.map xf++[]) .returning w
 | [],w,wr,fx,ex,_=>by
   obtain⟨y,J,I⟩:=apO (Q:=Q) wr fx p;exact⟨y,J,E y w wr ex I⟩
 |r::rs,w,wr,fx,ex,m=>by
  obtain⟨h1,z⟩:=m.at_ r (by simp);have C:=List.nodup_cons.1 m.nodup;refine⟨by simp,.inl ⟨r,dU w r (.deferred none),rfl,run_takeDeferred z,?_⟩⟩;refine Xi p E rs _ (wr.aside z trivial (wr.not_deferred z)) (fx.aside z trivial) (ex.aside z trivial trivial fun h=>by omega) ⟨C.2,fun q O=>?_⟩;obtain⟨U,T⟩:=m.at_ q (by simp[O])
  grind [jZ]
theorem adA(hg:oM Q)(hn:sJ Q n):xW Q (n+1):=by
 intro f args mk s s2 G w xs ch A p hv hi hs;have U: ∀c,(cy (Q.at c) (n+1)).call f args mk s=jU (Q.at c) (cy (Q.at c) n) f args mk s:=fun _=>rfl;cases hsp:Q.spec f with
 |some sp=>
  have C: ∀c,(cy (Q.at c) (n+1)).call f args mk s=(sp args).bind fun v=>some (v,s):=by
   intro c;have:(Q.at c).spec f=some sp:=hsp;rw[U,jU,this]
  obtain⟨v,s',h0,_⟩:=hs ch (.refl _ _) hi;rw[C] at h0;simp only[ak,aJ,bI] at h0;obtain⟨Z,h1,rfl,rfl⟩:=h0;refine(hg.spec f sp hsp args Z h1 G s2.heap w xs p.wr hv).mono ?_;rintro y w' ⟨G',E,z,O⟩;refine⟨ch,Z,s,s2,G',.refl _ _,hi,by rw[C,h1];rfl,.refl p.sees,E,?_,O⟩;exact⟨z.le,z.size,z.keepW,z.owns,fun m a e e0=>by have:=z.names m a e e0;omega,z.cells,z.quiet,z.ownsW⟩
 |none=>
 cases hsh:Q.specH f with
 |some sp=>
  have C: ∀c,(cy (Q.at c) (n+1)).call f args mk s=(gm (s.get mk) (sp args)).bind fun v=>some (v,s):=by
   intro c;have h1:(Q.at c).spec f=none:=hsp;have E:(Q.at c).specH f=some sp:=hsh;rw[U,jU,h1];simp only[E]
  obtain⟨v,s',h0,_⟩:=hs ch (.refl _ _) hi;rw[C] at h0;simp only[ak,aJ,bI] at h0;obtain⟨Z,h1,rfl,rfl⟩:=h0;have a5:gm s2.heap.get (sp args)=some Z:=by
   have:=Gs p.sees (sp args) Z h1;generalize sp args=x at this;clear h1 C
   induction x with
   |ret _=>exact this
   |ask m k ih=>
    simp only[gm,ak] at this ⊢;obtain⟨o,q1,q2⟩:=this;exact⟨o,(tx q1).2,ih o q2⟩
  refine(hg.specH f sp hsh args Z G s2.heap w xs p.wr hv a5).mono ?_;rintro y w' ⟨G',E,z,O⟩;refine⟨ch,Z,s,s2,G',.refl _ _,hi,by rw[C,h1];rfl,.refl p.sees,E,?_,O⟩;exact⟨z.le,z.size,z.keepW,z.owns,fun m a e e0=>by have:=z.names m a e e0;omega,z.cells,z.quiet,z.ownsW⟩
 |none=>
 cases J:(Q.specW f).bind fun sp=>sp args with
 |some q=>
  have C: ∀c,(cy (Q.at c) (n+1)).call f args mk s=xz (Q.anew f) mk s q:=by
   intro c;have h1:(Q.at c).spec f=none:=hsp;have E:(Q.at c).specH f=none:=hsh;have z:((Q.at c).specW f).bind (fun sp=>sp args)=some q:=J;rw[U,jU,h1];simp only[E,z];rfl
  obtain⟨v,s',h0,hA⟩:=hs ch (.refl _ _) hi;have a1:=h0;rw[C] at h0;simp only[ak] at J;obtain⟨sp,J,h1⟩:=J;have z:=h0;cases q with
  |none=>
   simp only[xz,aJ,bI] at z;obtain⟨rfl,rfl⟩:=z;refine((hg.specW f sp J args G s2.heap w xs p.wr hv).1 h1).mono ?_;rintro y w' ⟨G',k2,I,k4⟩;refine⟨ch,_,_,s2,G',.refl _ _,hi,a1,.refl p.sees,k2,?_,k4⟩;exact⟨I.le,I.size,I.keepW,I.owns,fun m a e e0=>by have:=I.names m a e e0;omega,I.cells,I.quiet,I.ownsW⟩
  |some q=>
   simp only[xz,ak] at z;obtain⟨o,E,z⟩:=z;cases o<;>simp only[Dl,ak,reduceCtorEq] at z;obtain⟨u,a0,z⟩:=z;rename_i cs;have R:=(tx (p.sees.look E)).2;have O:gm s2.heap.get (q.2 cs)=some u:=by
    have:=Gs p.sees (q.2 cs) _ a0;generalize q.2 cs=x at this;clear a0
    induction x with
    |ret _=>exact this
    |ask m k ih=>
     simp only[gm,ak] at this ⊢;obtain⟨o,q1,q2⟩:=this;exact⟨o,(tx q1).2,ih o q2⟩
   clear a0;unfold Ea at z;split at z
   case h_2 sz _ _ len _ cs'=>
    obtain⟨nu,z⟩:=bh z;simp only[aJ,bI] at z;obtain⟨rfl,rfl⟩:=z;have hq:G.at_ s2.aL=none:=by rw[p.sees.aL];exact p.free _ (br _) (hA _ (br _) (Nat.lt_succ_self _))
    refine(hg.specN f sp J nu args G s2.heap w xs p.wr hv q.1 q.2 _ cs' _ _ _ _ _ s2.aL h1 R O hq).mono ?_;rintro y w' ⟨G',k2,I,k4⟩;have g1:=gr.put E none;refine⟨ch,_,_,(s2.put q.1 none).new (.cells cs'),G',.refl _ _,hi,a1,ib.trans g1 (.new mk _ _) (.put p.sees E _) (.new ((ib.put p.sees E _).sees p.sees g1) _),k2,?_,by rw[<-p.sees.aL];exact k4⟩;have e:s2.aL=s.aL:=p.sees.aL;have k5:cZ G s2.heap w G' ((s2.heap.set q.1 none).set s2.aL (some (.cells cs'))) w' s.aL (s.aL+1):=by rw[<-e];exact I
    exact k5
   case h_3=>cases z
   simp only[aJ,bI] at z;obtain⟨rfl,rfl⟩:=z;rename_i cs';refine((hg.specW f sp J args G s2.heap w xs p.wr hv).2 q.1 q.2 _ cs' h1 R O).mono ?_;rintro y w' ⟨G',k2,I,k4⟩;refine⟨ch,_,_,s2.put q.1 (some (.cells cs')),G',.refl _ _,hi,a1,.put p.sees E _,k2,?_,k4⟩;exact⟨I.le,I.size,I.keepW,I.owns,fun m a e e0=>by have:=I.names m a e e0;omega,I.cells,I.quiet,I.ownsW⟩
 |none=>
  have C: ∀c,(cy (Q.at c) (n+1)).call f args mk s=(Q.P.funcs[f]?).bind fun fn=>fn.body.bind fun b=>
   (lO Q n f b mk ⟨gI 0 args,bif bw args.length fn.ntmps then fn.ntmps else args.length,[]⟩ s c).bind (qD (Q.at c) fn mk):=by
   intro c;have h1:(Q.at c).spec f=none:=hsp;have E:(Q.at c).specH f=none:=hsh;have z:((Q.at c).specW f).bind (fun sp=>sp args)=none:=J;rw[U,jU,h1];simp only[E,z];rfl
  obtain⟨v0,s0,h0,_⟩:=hs ch (.refl _ _) hi;rw[C] at h0;simp only[ak] at h0;obtain⟨fn,hf,b,hb,_⟩:=h0;have V: ∀c,(cy (Q.at c) (n+1)).call f args mk s=(lO Q n f b mk ⟨gI 0 args,bif bw args.length fn.ntmps then fn.ntmps else args.length,[]⟩ s c).bind (qD (Q.at c) fn mk):=by
   intro c;rw[C,hf];simp only[au,hb]
  right;have a7:=hg.names f fn hf;refine⟨?_,?_⟩
  simp_all [callFunc]
  refine(callsIn_wide (n:=0)).1 (callsIn_of_wp_marks hf hb trivial ?_);have fx:=aeT (G:=G) (h:=s2.heap) (w:=w) hv fn.ntmps;refine(hn none f b mk _ ch A G (fun _=>0) s s2 _ w (fun h=>absurd rfl h) .none p fx hi ?_ _ ?_).1;intro c h1 E;obtain⟨v,s',z,O⟩:=hs c h1 E;rw[V] at z;simp only[ak] at z;obtain⟨⟨x,fr',s1⟩,R,h6⟩:=z;refine⟨x,fr',s1,R,?_⟩;have:s1=s':=by
   cases x<;>simp only[qD,ak,aJ,bI] at h6;obtain⟨_,_,_,e⟩:=h6;exact e;cases h6;obtain⟨_,_,_,e⟩:=h6;exact e
  subst this;exact O;rintro x a' w' ⟨c,fr',s',s2',G',B',h1,E,z,O⟩;obtain⟨v,s1,R,_⟩:=hs c h1 E;have a4:=R;rw[V,z] at R;simp only[au] at R;have Y: ∀vs,jt (Q.at c) mk fr' s' fn.results.toList=some vs->v=nT vs->s1=s'->
   LeavesInM Fence.wide 0 Q.P fn a'.tmps (fun e w'=> ∃y',e= .returned y'/\ ∃a6 v s' s2' G',Hd Q (n+1) f args mk ch G s s2 w y' w' a6 v s' s2' G') a'.defers .returning w':=by
   intro vs T e1 e2;have a2:jt (Q.at c) mk fr' s2' fn.results.toList=some vs:=
    Xt (Q:=Q.at c) mk fr' fn.results.toList s' s2' vs T (fun m o hm=>(O.same.sees p.sees O.goes).look hm)
   obtain⟨rs,d1,d2⟩:=O.defers;rw[d1];have a3:cZ G s2.heap w G' s2'.heap w' s.aL s'.aL:=O.ext.toExt fun b ⟨t,cs,e,_⟩=>by simp[Loc.get] at e
   refine Xi (Q:=Q.at c) a2 ?_ rs w' O.wr O.fx a3 d2;intro y w'' u1 u2 u3;refine⟨y,rfl,c,v,s1,s2',G',h1,E,a4,by rw[e2];exact O.same,u1,?_,by rw[e1];exact u3⟩;rw[e2];exact u2
  cases x with
  |exit id=>cases R
  |normal=>
   simp only[qD,ak,aJ,bI] at R;obtain⟨vs,T,e1,e2⟩:=R;exact Y vs T e1.symm e2.symm
  |ret=>
   simp only[qD,ak,aJ,bI] at R;obtain⟨vs,T,e1,e2⟩:=R;exact Y vs T e1.symm e2.symm
theorem Sd(O:oM Q)(n:Nat):xW Q n/\Hl Q n/\sJ Q n:=by
 induction n using Nat.strongRecOn with
 |_ n I=>
  cases n with
  |zero=>
   refine⟨?_,?_,?_⟩;intro f args mk s s2 G w xs ch A p J hi q;obtain⟨v,s',h,_⟩:=q ch (.refl _ _) hi;cases h;intro ro f all mk l i fr ch A G B s s2 a w p E hi hl q K C;obtain⟨x,fr',s',h,_⟩:=q ch (.refl _ _) hi;cases h;intro ro f c mk fr ch A G B s s2 a w z y p E hi q K C;obtain⟨x,fr',s',h,_⟩:=q ch (.refl _ _) hi;cases h
  |succ n=>
   grind [adA,aoU,aep]
mutual
def bL:aa->Bool
 | .agg cs=>pures cs
 | .tup cs=>pures cs
 | .ptr _ _=>false
 | .rd _ _ _=>false
 | .ro cs=>pures cs
 | .list _ xs r=>pures xs&&(match r with| .own _=>false|_=>true)
 | .arr _ _ _ _ _=>false
 | .map _=>false
 | .func _ a b=>pures a&&pures b
 | .iface _ v=>bL v
 | .yld _=>false
 | .roz _=>false
 |_=>true
def pures:List aa->Bool
 | []=>true
 |v::l=>bL v&&pures l
end
mutual
def de:aa->aa
 | .agg cs=>.agg (en cs)
 | .tup cs=>.tup (en cs)
 | .ro cs=>.ro (en cs)
 | .list n xs r=>.list n (en xs) (match r with| .own _=>.no|r=>r)
 | .func f a b=>.func f (en a) (en b)
 | .iface t v=>.iface t (de v)
 |v=>v
def en:List aa->List aa
 | []=>[]
 |v::l=>de v::en l
end
variable{l:List aa}
theorem Bd:pures l=true↔ ∀v∈l,bL v=true:=by
 induction l with
 |nil=>simp[pures]
 |cons v l p=>simp[pures,p]
mutual
def KU: ∀ {v:aa},bL v=true->de v=v
 | .agg cs,h=>by simp only[bL] at h;simp only[de,lh h]
 | .tup cs,h=>by simp only[bL] at h;simp only[de,lh h]
 | .ro cs,h=>by simp only[bL] at h;simp only[de,lh h]
 | .list n xs r,h=>by
   simp only[bL,bu] at h;simp only[de,lh h.1];cases r<;>first|rfl|(simp at h)
 | .func f a b,h=>by
   simp only[bL,bu] at h;simp only[de,lh h.1,lh h.2]
 | .iface t v,h=>by simp only[bL] at h;simp only[de,KU h]
 | .bool _,_=>rfl
 | .int _ _,_=>rfl
 | .str _,_=>rfl
 | .nilp,_=>rfl
 | .ptr _ _,h=>by simp[bL] at h
 | .rd _ _ _,h=>by simp[bL] at h
 | .oZ,_=>rfl
 | .arr _ _ _ _ _,h=>by simp[bL] at h
 | .nilm,_=>rfl
 | .map _,h=>by simp[bL] at h
 | .nilf,_=>rfl
 | .nili,_=>rfl
def lh: ∀ {l:List aa},pures l=true->en l=l
 | [],_=>rfl
 |v::l,h=>by
  simp only[pures,bu] at h;simp only[en,KU h.1,lh h.2]
end
theorem asO(h:v.scal=true):(de v).scal=true:=by
 cases v<;>simp_all [de,aa.scal]
theorem aqr(h:dG l=true):dG (en l)=true:=by
 induction l with
 |nil=>rfl
 |cons v l p=>
  grind [dG,en,asO]
def Kb(h:pures l=true)(hi:l[i]? =some v):bL v=true:=Bd.1 h v (List.mem_of_getElem? hi)
theorem Zp(h:pures l=true):pures (aF l)=true:=by
 induction l with
 |nil=>rfl
 |cons v l p=>
  simp only[pures,bu] at h;have h1:pures v.cells=true:=by
   cases v<;>first
    |(simp only[aa.cells];simpa[bL] using h.1)
    |grind [aa.cells,pures]
  grind [Bd,aF]
section
variable{G1 G2:Gh}
def D6(G1 G2:Gh):Prop:= ∀b o v,G1.ro b o=some v->bL v=true->G2.ro b o=some v
mutual
def VR.onto(k:D6 G1 G2): ∀ {v:aa} {x:Value},VR G1 v x->bL v=true->VR G2 v x
 |_,_,.bool b,_=>.bool b
 |_,_,.int k n,_=>.int k n
 |_,_,.str s,_=>.str s
 |_,_,.agg hc hs,h=>.agg hc (ck.onto k hs (by simpa[bL] using h))
 |_,_,.tup hs,h=>.tup (ck.onto k hs (by simpa[bL] using h))
 |_,_,.nilp,_=>.nilp
 |_,_,.ptr e,h=>by simp[bL] at h
 |_,_,.ro e,h=>.ro fun i x p=>k _ _ _ (e i x p) (Kb (by simpa[bL] using h) p)
 |_,_,.oZ,_=>.oZ
 |_,_,.list (r:=r) a b c d e f,h=>by
  simp only[bL,bu] at h;refine .list a b c d (fun i x p=>k _ _ _ (e i x p) (Kb (Zp h.1) p)) ?_;cases r with
  |uP=>exact f
  |own n=>simp at h
  |no=>exact trivial
 |_,_,.arr ..,h=>by simp[bL] at h
 |_,_,.nilm,_=>.nilm
 |_,_,.map e,h=>by simp[bL] at h
 |_,_,.nilf,_=>.nilf
 |_,_,.func a b,h=>by
  simp only[bL,bu] at h;exact .func (ck.onto k a h.1) (ck.onto k b h.2)
 |_,_,.nili,_=>.nili
 |_,_,.iface e,h=>.iface (VR.onto k e (by simpa[bL] using h))
def ck.onto(k:D6 G1 G2): ∀ {vs:List aa} {xs:List Value},ck G1 vs xs->pures vs=true->ck G2 vs xs
 |_,_,.nil,_=>.nil
 |_,_,.cons a b,h=>by
  simp only[pures,bu] at h;exact .cons (VR.onto k a h.1) (ck.onto k b h.2)
end
end
def Gh.plain(G:Gh):Gh where
 at_ _:=none
 ro b o:=(G.ro b o).bind fun v=>if bL v=true then some v else none
 dim:=G.dim
def Ka(G:Gh):D6 G G.plain:=fun b o v h p=>by simp[Gh.plain,h,p]
variable{G:Gh}
theorem WR.plain(x:WR G h w):WR G.plain .nil w where
 obj n o h:=by cases h
 sep n m a b h:=absurd rfl h
 ro b o v p:=by
  simp only[Gh.plain,ak] at p;obtain⟨u,q,p⟩:=p;split at p;rename_i hp;injection p with p;subst p
  obtain⟨h1,y,h2,h3⟩:=x.ro b o u q;exact⟨h1,y,h2,h3.onto (Ka G) hp⟩;cases p
 apart n ob a i v h:=by cases h
 dim:=x.dim
 below n a h:=by cases h
def s0:St:=⟨.nil,0,0,0⟩
def JM: ¬fg G .nil b:=fun⟨_,_,h,_⟩=>h rfl
def db(P:Program)(f:FuncId)(sp:List aa->Option aa):Prop:=
 ∀args v,sp args=some v-> ∀(G:Gh) (h:aC aR) (w:World) (xs:List Value),WR G h w->ck G args xs->
  mM P f ⟨xs⟩ w fun y w'=> ∃G',WR G' h w'/\cZ G h w G' h w' 0 0/\VR G' v y
structure uJ (r r':oU):Prop where
 ops: ∀f all mk l fr s x,r.ops f all mk l fr s=some x->r'.ops f all mk l fr s=some x
 draw: ∀f all bs mk rs i l fr s x,r.draw f all bs mk rs i l fr s=some x->r'.draw f all bs mk rs i l fr s=some x
 code: ∀f c mk fr s x,r.code f c mk fr s=some x->r'.code f c mk fr s=some x
 call: ∀f args mk s x,r.call f args mk s=some x->r'.call f args mk s=some x
def kw{x p:Option α}{k q:α->Option β}{b:β}(h:x.bind k=some b)(y: ∀a,x=some a->p=some a)(z: ∀a,k a=some b->q a=some b):p.bind q=some b:=by
 cases e:x with
 |none=>rw[e] at h;cases h
 |some a=>rw[e] at h;rw[y a e];exact z a h
variable{x:aa×Loc×St}
section
variable{Q:aH}{r r':oU}(hr:uJ r r')
include hr
theorem QQ{x:aa×St}(h:nq r n args mk s=some x):nq r' n args mk s=some x:=by
 unfold nq at h ⊢;refine kw h (fun _ h=>h) fun o h=>kw h (fun y h=>?_) fun _ h=>h;unfold Bv at h ⊢;split at h;obtain⟨z,h⟩:=bh h;rw[z];refine kw h (fun _ h=>h) fun p h=>kw h (fun _ h=>hr.code _ _ _ _ _ _ h) fun q h=>?_;obtain⟨e,fr1,s1⟩:=q;cases e with
 |normal=>exact kw h (fun _ h=>hr.code _ _ _ _ _ _ h) fun _ h=>h
 |exit i=>cases h
 |ret=>cases h
 cases h
theorem YZ(h:fS Q r f o mk fr s=some x):fS Q r' f o mk fr s=some x:=by
 unfold fS at h ⊢;split at h;split at h;exact h;rename_i c _ _ _;cases hy:pj fr.env c with
 |true=>
  rw[hy] at h;simp only[cT] at h ⊢;unfold su at h ⊢;exact kw h (fun _ h=>h) fun a h=>kw h (fun _ h=>QQ hr h) fun _ h=>h
 |false=>
  rw[hy] at h;simp only[cF] at h ⊢;unfold pN at h ⊢;exact kw h (fun _ h=>h) fun a h=>kw h (fun _ h=>hr.call _ _ _ _ _ h) fun _ h=>h
 exact h
theorem afS:uJ (MQ Q r) (MQ Q r') where
 ops f all mk l fr s x h:=by
  have h:m9 Q r f all mk l fr s=some x:=h;show m9 Q r' f all mk l fr s=some x;unfold m9 at h ⊢;split at h;exact h;cases hw:fK all fr.env _<;>rw[hw] at h<;>simp only[cT,cF] at h ⊢;exact kw h (fun _ h=>h) fun _ h=>hr.ops _ _ _ _ _ _ _ h;exact kw h (fun _ h=>YZ hr h) fun a h=>kw h (fun _ h=>h) fun _ h=>hr.ops _ _ _ _ _ _ _ h
 draw f all bs mk rs i l fr s x h:=by
  have h:mQ Q r f all bs mk rs i l fr s=some x:=h;show mQ Q r' f all bs mk rs i l fr s=some x;unfold mQ at h ⊢;split at h;exact h;cases hw:fK all fr.env _<;>rw[hw] at h<;>simp only[cT,cF] at h ⊢;exact kw h (fun _ h=>h) fun _ h=>hr.draw _ _ _ _ _ _ _ _ _ _ h;refine kw h (fun _ h=>YZ hr h) fun a h=>?_;obtain⟨z,h⟩:=bh h;rw[z];exact kw h (fun _ h=>h) fun _ h=>hr.draw _ _ _ _ _ _ _ _ _ _ h
 code f c mk fr s x h:=by
  have h:yx Q r f c mk fr s=some x:=h;show yx Q r' f c mk fr s=some x;have p: ∀b y,qd r f b mk y=some x->qd r' f b mk y=some x:=by
   intro b y q;obtain⟨e,fr1,s1⟩:=y;cases e;exact hr.code _ _ _ _ _ _ q;exact q;exact q
  cases c<;>simp only[yx] at h ⊢ <;>first
   |exact h
   |exact kw h (fun _ h=>hr.code _ _ _ _ _ _ h) fun _ h=>p _ _ h
   |exact kw h (fun _ h=>hr.code _ _ _ _ _ _ h) fun _ h=>h
   |exact hr.code _ _ _ _ _ _ h
   |skip
  case cond=>
   refine kw h (fun _ h=>h) fun v h=>?_;cases v<;>try (cases h;done)
   rename_i b;cases b<;>exact hr.code _ _ _ _ _ _ h
  case rangeFunc=>
   refine kw h (fun _ h=>h) fun v h=>?_;unfold xC at h ⊢;split at h;obtain⟨C,h⟩:=bh h;rw[C];exact kw h (fun _ h=>hr.call _ _ _ _ _ h) fun _ h=>h;cases h
  case region=>
   rename_i id ops draw _;unfold Kh at h ⊢;refine kw h (fun a h=>?_) fun _ h=>h;cases draw with
   |false=>exact hr.ops _ _ _ _ _ _ _ h
   |true=>
    simp only[cT] at h ⊢;obtain⟨z,h⟩:=bh h;rw[z];exact hr.draw _ _ _ _ _ _ _ _ _ _ h
 call f args mk s x h:=by
  have h:jU Q r f args mk s=some x:=h;show jU Q r' f args mk s=some x;unfold jU at h ⊢;split at h;exact h;split at h;exact h;split at h;exact h;exact kw h (fun _ h=>h) fun fn h=>kw h (fun _ h=>h) fun c h=>kw h (fun _ h=>hr.code _ _ _ _ _ _ h) fun _ h=>h
end
def XA(Q:aH): ∀n,uJ (cy Q n) (cy Q (n+1))
 |0=>⟨fun _ _ _ _ _ _ _ h=>(by cases h),fun _ _ _ _ _ _ _ _ _ _ h=>(by cases h),fun _ _ _ _ _ _ h=>(by cases h),fun _ _ _ _ _ h=>(by cases h)⟩
 |n+1=>afS (XA Q n)
def uJ.refl(r:oU):uJ r r:=⟨fun _ _ _ _ _ _ _ h=>h,fun _ _ _ _ _ _ _ _ _ _ h=>h,fun _ _ _ _ _ _ h=>h,fun _ _ _ _ _ h=>h⟩
def uJ.trans{a b c:oU}(x:uJ a b)(y:uJ b c):uJ a c:=
 ⟨fun _ _ _ _ _ _ _ h=>y.ops _ _ _ _ _ _ _ (x.ops _ _ _ _ _ _ _ h),fun _ _ _ _ _ _ _ _ _ _ h=>y.draw _ _ _ _ _ _ _ _ _ _ (x.draw _ _ _ _ _ _ _ _ _ _ h),
  fun _ _ _ _ _ _ h=>y.code _ _ _ _ _ _ (x.code _ _ _ _ _ _ h),fun _ _ _ _ _ h=>y.call _ _ _ _ _ (x.call _ _ _ _ _ h)⟩
def nM(Q:aH)(h:n<=m):uJ (cy Q n) (cy Q m):=by
 induction m with
 |zero=>have:n=0:=by omega
        subst this;exact .refl _
 |succ m p=>
  by_cases e:n=m+1;subst e;exact .refl _;exact(p (by omega)).trans (XA Q m)
inductive SG where
 |aw
 |never
 |when (t:Tmp) (b:Bool)
structure aw where
 dst:Option Tmp
 op:Op
 g:SG
abbrev sOa(d:Tmp)(o:Op):aw:=⟨some d,o,.aw⟩
abbrev sOw(d:Tmp)(o:Op)(n:Tmp)(b:Bool):aw:=⟨some d,o,.when n b⟩
abbrev SOl:=List aw
def M6(all:Array Oper)(o:Oper):SG:=
 match o.guard with
 |none=>.aw
 |some (j,w)=>match(all[j]?).bind (·.dst) with
  |some d=>.when d w
  |none=>.never
def qg(all:Array Oper)(o:Oper):aw:=⟨o.dst,o.op,M6 all o⟩
inductive SC where
 |skip
 |ret
 |exit (id:Nat)
 |seq (a b:SC)
 |cond (x:Operand) (a b:SC)
 |block (id:Nat) (b:SC)
 |scope (b:SC)
 |loop (b:SC)
 |region (ops:List aw)
 |draw (ops:List aw) (bs:List Nat)
 |rfun (g:Operand) (ps:List Tmp) (a b:Code)
 |bad
def eD:Code->SC
 | .skip=>.skip
 | .label _=>.skip
 | .ret=>.ret
 | .exit id=>.exit id
 | .seq a b=>.seq (eD a) (eD b)
 | .cond x a b=>.cond x (eD a) (eD b)
 | .block id b=>.block id (eD b)
 | .scope b=>.scope (eD b)
 | .loop b=>.loop (eD b)
 | .region _ ops false=>.region (ops.toList.map (qg ops))
 | .region _ ops true=>bif oa ops 0 ops.toList (Region.before ops).toList then .draw (ops.toList.map (qg ops)) (Region.before ops).toList else .bad
 | .rangeFunc g ps a b=>.rfun g ps.toList a b
 |_=>.bad
noncomputable def fU(e:ax):SG->Bool
 | .aw=>true
 | .never=>false
 | .when t b=>match ac e t with
   | .bool c=>c==b
   |_=>false
theorem Bs(all:Array Oper)(e:ax)(o:Oper):fU e (M6 all o)=fK all e o:=by
 unfold M6 fK;cases o.guard with
 |none=>rfl
 |some g=>
  obtain⟨j,w⟩:=g;simp only;cases (all[j]?).bind (·.dst)<;>rfl
section
variable(Q:aH)(f:FuncId)
noncomputable def cM(o:aw)(mk:aK)(fr:Fr)(s:St):Option (aa×Loc×St):=
 match o.op with
 | .call c=>match c.callee with
   | .builtin _=>vu Q.P mk (Q.hint f) o.dst c fr s
   |_=>(callee fr.env c).bind fun g=>(Q.spec g.1).bind fun sp=>(sp g.2).bind fun v=>some (v,fr.loc,s)
 |op=>mi Q.P mk Q.ch Q.kmax (Q.hint f) o.dst op fr s
noncomputable def sr(o:aw)(fr:Fr)(s:St):Option (Fr×St):=
 bif fU fr.env o.g then(cM Q f o [] fr s).bind fun x=>(di fr o.dst x.1 x.2.1).bind fun fr'=>some (fr',x.2.2)
 else(di fr o.dst gM fr.loc).bind fun fr'=>some (fr',s)
noncomputable def vK:List aw->Fr->St->Option (Fr×St)
 | [],fr,s=>some (fr,s)
 |o::l,fr,s=>(sr Q f o fr s).bind fun x=>vK l x.1 x.2
noncomputable def zz(bs:List Nat)(rs:List fZ)(i:Nat):List aw->Fr->St->Option (Fr×St)
 | [],fr,s=>some (fr,s)
 |o::l,fr,s=>
  bif fU fr.env o.g then
   (cM Q f o (jp (bs.headD 0) rs []) fr ⟨s.heap,s.aL,s.aL,s.ci⟩).bind fun x=>
    bif pS (bs.headD 0) (cu (Q.hint f) o.dst fr.env o.op) (bm x.2.2.gt s.aL||isStore o.op) rs&&aQ s.ci x.2.2.ci then
     (di fr o.dst x.1 x.2.1).bind fun fr'=>
      zz bs.tail (⟨i,s.aL,x.2.2.aL,cu (Q.hint f) o.dst fr.env o.op,bm x.2.2.gt s.aL||isStore o.op⟩::rs) (i+1) l fr' (s.rX x.2.2)
    else none
  else(di fr o.dst gM fr.loc).bind fun fr'=>zz bs.tail rs (i+1) l fr' s
end
def Ex.block(id:Nat):Ex->Ex
 | .exit i=>bif aQ i id then .normal else .exit i
 |x=>x
def aq(Q:aH)(g:FuncId)(args:List aa)(s:St)(v:aa)(s':St):Prop:= ∃n,(cy Q n).call g args [] s=some (v,s')
def ji(Q:aH)(n:Nat)(args:List aa)(s:St)(v:aa)(s':St):Prop:= ∃k,nq (cy Q k) n args [] s=some (v,s')
inductive rj (Q:aH) (f:FuncId):List aw->Fr->St->Fr->St->Prop
 |nil {fr:Fr} {s:St}:rj Q f [] fr s fr s
 |step {o:aw} {l:List aw} {fr fr1 fr2:Fr} {s s1 s2:St}:sr Q f o fr s=some (fr1,s1)->rj Q f l fr1 s1 fr2 s2->rj Q f (o::l) fr s fr2 s2
 |call {o:aw} {c:Call} {l:List aw} {fr fr1 fr2:Fr} {s s1 s2:St} {g:FuncId} {args:List aa} {v:aa}:fU fr.env o.g=true->o.op= .call c->(∀b,c.callee≠ .builtin b)->callee fr.env c=some (g,args)->
  aq Q g args s v s1->di fr o.dst v fr.loc=some fr1->rj Q f l fr1 s1 fr2 s2->rj Q f (o::l) fr s fr2 s2
 |yld {o:aw} {c:Call} {l:List aw} {fr fr1 fr2:Fr} {s s1 s2:St} {n:Nat} {args:List aa} {v:aa}:fU fr.env o.g=true->o.op= .call c->yieldee fr.env c=some (n,args)->
  ji Q n args s v s1->di fr o.dst v fr.loc=some fr1->rj Q f l fr1 s1 fr2 s2->rj Q f (o::l) fr s fr2 s2
def Lq(Q:aH)(g:FuncId)(args:List aa)(mk:aK)(s:St)(v:aa)(s':St):Prop:= ∃n,(cy Q n).call g args mk s=some (v,s')
def Rn(Q:aH)(n:Nat)(args:List aa)(mk:aK)(s:St)(v:aa)(s':St):Prop:= ∃k,nq (cy Q k) n args mk s=some (v,s')
inductive kX (Q:aH) (f:FuncId):List Nat->List fZ->Nat->List aw->Fr->St->Fr->St->Prop
 |nil {bs:List Nat} {rs:List fZ} {i:Nat} {fr:Fr} {s:St}:kX Q f bs rs i [] fr s fr s
 |skip {bs:List Nat} {rs:List fZ} {i:Nat} {o:aw} {l:List aw} {fr fr1 fr2:Fr} {s s2:St}:fU fr.env o.g=false->di fr o.dst gM fr.loc=some fr1->kX Q f bs.tail rs (i+1) l fr1 s fr2 s2->kX Q f bs rs i (o::l) fr s fr2 s2
 |step {bs:List Nat} {rs:List fZ} {i:Nat} {o:aw} {l:List aw} {fr fr1 fr2:Fr} {s s1 s2:St} {v:aa} {lc:Loc}:fU fr.env o.g=true->cM Q f o (jp (bs.headD 0) rs []) fr ⟨s.heap,s.aL,s.aL,s.ci⟩=some (v,lc,s1)->
  pS (bs.headD 0) (cu (Q.hint f) o.dst fr.env o.op) (bm s1.gt s.aL||isStore o.op) rs=true->s1.ci=s.ci->di fr o.dst v lc=some fr1->
  kX Q f bs.tail (⟨i,s.aL,s1.aL,cu (Q.hint f) o.dst fr.env o.op,bm s1.gt s.aL||isStore o.op⟩::rs) (i+1) l fr1 (s.rX s1) fr2 s2->kX Q f bs rs i (o::l) fr s fr2 s2
 |call {bs:List Nat} {rs:List fZ} {i:Nat} {o:aw} {c:Call} {l:List aw} {fr fr1 fr2:Fr} {s s1 s2:St} {g:FuncId} {args:List aa} {v:aa}:fU fr.env o.g=true->o.op= .call c->(∀b,c.callee≠ .builtin b)->callee fr.env c=some (g,args)->
  Lq Q g args (jp (bs.headD 0) rs []) ⟨s.heap,s.aL,s.aL,s.ci⟩ v s1->
  pS (bs.headD 0) (cu (Q.hint f) o.dst fr.env o.op) (bm s1.gt s.aL||isStore o.op) rs=true->s1.ci=s.ci->di fr o.dst v fr.loc=some fr1->
  kX Q f bs.tail (⟨i,s.aL,s1.aL,cu (Q.hint f) o.dst fr.env o.op,bm s1.gt s.aL||isStore o.op⟩::rs) (i+1) l fr1 (s.rX s1) fr2 s2->kX Q f bs rs i (o::l) fr s fr2 s2
 |yld {bs:List Nat} {rs:List fZ} {i:Nat} {o:aw} {c:Call} {l:List aw} {fr fr1 fr2:Fr} {s s1 s2:St} {n:Nat} {args:List aa} {v:aa}:fU fr.env o.g=true->o.op= .call c->yieldee fr.env c=some (n,args)->
  Rn Q n args (jp (bs.headD 0) rs []) ⟨s.heap,s.aL,s.aL,s.ci⟩ v s1->
  pS (bs.headD 0) (cu (Q.hint f) o.dst fr.env o.op) (bm s1.gt s.aL||isStore o.op) rs=true->s1.ci=s.ci->di fr o.dst v fr.loc=some fr1->
  kX Q f bs.tail (⟨i,s.aL,s1.aL,cu (Q.hint f) o.dst fr.env o.op,bm s1.gt s.aL||isStore o.op⟩::rs) (i+1) l fr1 (s.rX s1) fr2 s2->kX Q f bs rs i (o::l) fr s fr2 s2
def kX.of{Q:aH}{f:FuncId}: ∀ {l:List aw} {bs:List Nat} {rs:List fZ} {i:Nat} {fr fr':Fr} {s s':St},zz Q f bs rs i l fr s=some (fr',s')->kX Q f bs rs i l fr s fr' s'
 | [],bs,rs,i,fr,fr',s,s',h=>by
   simp only[zz,aJ,bI] at h;obtain⟨rfl,rfl⟩:=h;exact .nil
 |o::l,bs,rs,i,fr,fr',s,s',h=>by
  simp only[zz] at h;cases hw:fU fr.env o.g with
  |true=>
   rw[hw] at h;simp only[cT,ak] at h;obtain⟨⟨v,y,s1⟩,h1,h⟩:=h;obtain⟨p,h⟩:=bh h;simp only[bu] at p;simp only[ak] at h;obtain⟨fr1,q,h⟩:=h;exact .step hw h1 p.1 (Nat.eq_of_beq_eq_true p.2).symm q (kX.of h)
  |false=>
   rw[hw] at h;simp only[cF,ak] at h;obtain⟨fr1,q,h⟩:=h;exact .skip hw q (kX.of h)
inductive kq (Q:aH) (f:FuncId):SC->Fr->St->Ex->Fr->St->Prop
 |skip {fr:Fr} {s:St}:kq Q f .skip fr s .normal fr s
 |ret {fr:Fr} {s:St}:kq Q f .ret fr s .ret fr s
 |exit {id:Nat} {fr:Fr} {s:St}:kq Q f (.exit id) fr s (.exit id) fr s
 |seqN {a b:SC} {fr fr1 fr2:Fr} {s s1 s2:St} {x:Ex}:kq Q f a fr s .normal fr1 s1->kq Q f b fr1 s1 x fr2 s2->kq Q f (.seq a b) fr s x fr2 s2
 |seqX {a b:SC} {fr fr1:Fr} {s s1:St} {x:Ex}:kq Q f a fr s x fr1 s1->x≠ .normal->kq Q f (.seq a b) fr s x fr1 s1
 |cond {o:Operand} {a b:SC} {t:Bool} {fr fr1:Fr} {s s1:St} {x:Ex}:ev fr.env o=some (.bool t)->kq Q f (if t then a else b) fr s x fr1 s1->kq Q f (.cond o a b) fr s x fr1 s1
 |block {id:Nat} {b:SC} {fr fr1:Fr} {s s1:St} {x:Ex}:kq Q f b fr s x fr1 s1->kq Q f (.block id b) fr s (x.block id) fr1 s1
 |scope {b:SC} {fr fr1:Fr} {s s1:St} {x:Ex}:kq Q f b fr s x fr1 s1->kq Q f (.scope b) fr s x fr1 s1
 |loopN {b:SC} {fr fr1 fr2:Fr} {s s1 s2:St} {x:Ex}:kq Q f b fr s .normal fr1 s1->kq Q f (.loop b) fr1 s1 x fr2 s2->kq Q f (.loop b) fr s x fr2 s2
 |loopX {b:SC} {fr fr1:Fr} {s s1:St} {x:Ex}:kq Q f b fr s x fr1 s1->x≠ .normal->kq Q f (.loop b) fr s x fr1 s1
 |region {ops:List aw} {fr fr1:Fr} {s s1:St}:rj Q f ops fr s fr1 s1->kq Q f (.region ops) fr s .normal fr1 s1
 |draw {ops:List aw} {bs:List Nat} {fr fr1:Fr} {s s1:St}:kX Q f bs [] 0 ops fr s fr1 s1->kq Q f (.draw ops bs) fr s .normal fr1 s1
 |rfun {g:Operand} {ps:List Tmp} {a b:Code} {fr:Fr} {s s1:St} {h:FuncId} {first captured:List aa} {v:aa} {f':FuncId} {env':aC aa} {size':Nat} {ps':List Tmp} {a' b':Code} {p:Option Ex}:ev fr.env g=some (.func (.func h) first captured)->
  (tz Q.P h&&(fr.env.all jY&&(dY a&&dY b)))=true->aq Q h (first++(.yld s.aL::captured)) (s.new (.loop f fr.env fr.size ps a b none)) v s1->s1.get [] s.aL=some (.loop f' env' size' ps' a' b' p)->
  kq Q f (.rfun g ps a b) fr s (Gg p) fr (s1.put s.aL none)
theorem O7(n:Nat):aQ n n=true:=by simp
variable{c:Call}{e:ax}
theorem Nk{g:FuncId×List aa}(h:callee e c=some g):pj e c=false:=by
 grind [callee,pj]
theorem Vw{g:Nat×List aa}(h:yieldee e c=some g):pj e c=true/\ ∀b,c.callee≠ .builtin b:=by
 grind [yieldee,pj,ak]
variable{sc:SC}
section
variable{Q:aH}{f:FuncId}
theorem Zi{all:Array Oper}(h:cM Q f (qg all o) mk fr s=some x)(n:Nat):fS Q (cy Q (n+1)) f o mk fr s=some x:=by
 unfold cM at h;unfold fS;simp only[qg] at h;cases hop:o.op<;>rw[hop] at h<;>simp only at h ⊢ <;>try exact h
 ·rename_i c
  cases hcl:c.callee<;>rw[hcl] at h<;>simp only at h ⊢
  case builtin=>exact h
  all_goals
   simp only[ak] at h;obtain⟨g,y,sp,p,v,q,h⟩:=h;injection h with h;subst h
   have:(cy Q (n+1)).call g.1 g.2 mk s=some (v,s):=by
    show jU Q (cy Q n) g.1 g.2 mk s=_;unfold jU;simp only[p,q,au]
   grind [Nk,pN]
theorem aqc{all:Array Oper}: ∀ {l:List Oper} {ops:List aw} {fr fr':Fr} {s s':St},rj Q f ops fr s fr' s'->ops=l.map (qg all)-> ∃n,(cy Q n).ops f all [] l fr s=some (fr',s'):=by
 intro l ops fr fr' s s' h
 induction h generalizing l with
 |nil=>
  intro e;cases l with
  |nil=>exact⟨1,rfl⟩
  |cons _ _=>cases e
 |step h1 _ C=>
  intro e;cases l with
  |nil=>cases e
  |cons p l=>
   simp only[fy,mH] at e;obtain⟨rfl,rfl⟩:=e;obtain⟨n,y⟩:=C rfl;refine⟨n+2,?_⟩;show m9 Q (cy Q (n+1)) f all [] (p::l) _ _=_;have y:=(nM Q (jQ n)).ops _ _ _ _ _ _ _ y;rename_i fr fr1 _ s s1 _ _ _;unfold sr at h1
   grind [qg,Bs,m9,ak,Zi]
 |call z E T J q O _ C=>
  intro e;cases l with
  |nil=>cases e
  |cons p l=>
   simp only[fy,mH] at e;obtain⟨rfl,rfl⟩:=e;obtain⟨n,y⟩:=C rfl;obtain⟨m,I⟩:=q;refine⟨max n m+1,?_⟩;show m9 Q (cy Q (max n m)) f all [] (p::l) _ _=_;have y:=(nM Q (uE n m)).ops _ _ _ _ _ _ _ y;have I:=(nM Q (sE n m)).call _ _ _ _ _ I;rename_i c fr fr1 R s s1 s2 g args v _ _ _;have z:fK all fr.env p=true:=by rw[<-Bs all];exact z
   simp only[m9];rw[z];simp only[cT,ak];have E:p.op= .call c:=E;refine⟨(v,fr.loc,s1),?_,fr1,O,y⟩
   grind [fS,pN,Nk]
 |yld z E J q O _ C=>
  intro e;cases l with
  |nil=>cases e
  |cons p l=>
   simp only[fy,mH] at e;obtain⟨rfl,rfl⟩:=e;obtain⟨n,y⟩:=C rfl;obtain⟨m,I⟩:=q;refine⟨max n m+1,?_⟩;show m9 Q (cy Q (max n m)) f all [] (p::l) _ _=_;have y:=(nM Q (uE n m)).ops _ _ _ _ _ _ _ y;have I:=QQ (nM Q (sE n m)) I;rename_i c fr fr1 R s s1 s2 g args v _ _ _;have z:fK all fr.env p=true:=by rw[<-Bs all];exact z
   simp only[m9];rw[z];simp only[cT,ak];have E:p.op= .call c:=E;refine⟨(v,fr.loc,s1),?_,fr1,O,y⟩
   grind [fS,su,Vw]
theorem aqd{all:Array Oper}{ops:List aw}(h:kX Q f bs rs i ops fr s fr' s'): ∀ {l:List Oper},ops=l.map (qg all)-> ∃n,(cy Q n).draw f all bs [] rs i l fr s=some (fr',s'):=by
 induction h with
 |nil=>
  intro l e;cases l with
  |nil=>exact⟨1,rfl⟩
  |cons _ _=>cases e
 |skip q h1 _ C=>
  intro l e;cases l with
  |nil=>cases e
  |cons p l=>
   simp only[fy,mH] at e;obtain⟨rfl,rfl⟩:=e;obtain⟨n,z⟩:=C rfl;refine⟨n+1,?_⟩;have q:=(Bs all _ p).symm.trans q;show mQ Q (cy Q n) f all _ [] _ _ (p::l) _ _=_;simp only[mQ];rw[q];simp only[cF,ak];exact⟨_,h1,z⟩
 |step q h1 R T U _ C=>
  intro l e;cases l with
  |nil=>cases e
  |cons p l=>
   simp only[fy,mH] at e;obtain⟨rfl,rfl⟩:=e;obtain⟨n,z⟩:=C rfl;refine⟨n+2,?_⟩;have q:=(Bs all _ p).symm.trans q;show mQ Q (cy Q (n+1)) f all _ [] _ _ (p::l) _ _=_;have z:=(nM Q (jQ n)).draw _ _ _ _ _ _ _ _ _ _ z
   grind [mQ,Zi,qg,O7]
 |call q J V I y R T U _ C=>
  intro l e;cases l with
  |nil=>cases e
  |cons p l=>
   simp only[fy,mH] at e;obtain⟨rfl,rfl⟩:=e;rename_i bs rs i c fr fr1 O s s1 s2 g args v _;obtain⟨n,z⟩:=C rfl;obtain⟨m,E⟩:=y;refine⟨max n m+1,?_⟩;have q:=(Bs all _ p).symm.trans q;show mQ Q (cy Q (max n m)) f all _ [] _ _ (p::l) _ _=_;have z:=(nM Q (uE n m)).draw _ _ _ _ _ _ _ _ _ _ z;have E:=(nM Q (sE n m)).call _ _ _ _ _ E
   simp_all [mQ,fS,pN,Nk,qg]
 |yld q J I y R T U _ C=>
  intro l e;cases l with
  |nil=>cases e
  |cons p l=>
   simp only[fy,mH] at e;obtain⟨rfl,rfl⟩:=e;rename_i bs rs i c fr fr1 O s s1 s2 g args v _;obtain⟨n,z⟩:=C rfl;obtain⟨m,E⟩:=y;refine⟨max n m+1,?_⟩;have q:=(Bs all _ p).symm.trans q;show mQ Q (cy Q (max n m)) f all _ [] _ _ (p::l) _ _=_;have z:=(nM Q (uE n m)).draw _ _ _ _ _ _ _ _ _ _ z;have E:=QQ (nM Q (sE n m)) E;have J:p.op= .call c:=J;simp only[mQ]
   grind [fS,su,Vw,qg,O7]
theorem aes{id:Nat}:eD (.region id ops false)= .region (ops.toList.map (qg ops)):=by rw[eD]
theorem aer{id:Nat}:eD (.region id ops true)=bif oa ops 0 ops.toList (Region.before ops).toList then .draw (ops.toList.map (qg ops)) (Region.before ops).toList else .bad:=by rw[eD]
theorem qB(c:Code):match eD c with
 | .skip=>c= .skip\/ ∃l,c= .label l
 | .ret=>c= .ret
 | .exit id=>c= .exit id
 | .seq a b=> ∃x y,c= .seq x y/\eD x=a/\eD y=b
 | .cond o a b=> ∃x y,c= .cond o x y/\eD x=a/\eD y=b
 | .block id b=> ∃x,c= .block id x/\eD x=b
 | .scope b=> ∃x,c= .scope x/\eD x=b
 | .loop b=> ∃x,c= .loop x/\eD x=b
 | .region l=> ∃id ops,c= .region id ops false/\ops.toList.map (qg ops)=l
 | .draw l bs=> ∃id ops,c= .region id ops true/\ops.toList.map (qg ops)=l/\(Region.before ops).toList=bs/\oa ops 0 ops.toList (Region.before ops).toList=true
 | .rfun g l a b=> ∃p,c= .rangeFunc g p a b/\p.toList=l
 | .bad=>True:=by
 cases c with
 |region id ops d=>
  cases d with
  |false=>grind [aes]
  |true=>
   grind [aer]
 |skip=>exact .inl rfl
 |label l=>exact .inr ⟨l,rfl⟩
 |ret=>rfl
 |exit id=>rfl
 |seq a b=>exact⟨a,b,rfl,rfl,rfl⟩
 |cond x a b=>exact⟨a,b,rfl,rfl,rfl⟩
 |block id b=>exact⟨b,rfl,rfl⟩
 |scope b=>exact⟨b,rfl,rfl⟩
 |loop b=>exact⟨b,rfl,rfl⟩
 |rangeFunc g p a b=>exact⟨p,rfl,rfl⟩
 |_=>trivial
theorem P0{x:Ex}(h:kq Q f sc fr s x fr' s'): ∀ {c:Code},eD c=sc-> ∃n,(cy Q n).code f c [] fr s=some (x,fr',s'):=by
 induction h with
 |skip=>
  intro c e
  have:=qB c;rw[e] at this;rcases this with rfl|⟨l,rfl⟩<;>exact⟨1,rfl⟩
 |ret=>intro c e;have:=qB c;rw[e] at this;simp only at this;subst this;exact⟨1,rfl⟩
 |exit=>intro c e;have:=qB c;rw[e] at this;simp only at this;subst this;exact⟨1,rfl⟩
 |seqN _ _ q z=>
  intro c e
  have:=qB c;rw[e] at this;obtain⟨x,y,rfl,h1,C⟩:=this;obtain⟨n,p⟩:=q h1;obtain⟨m,J⟩:=z C;refine⟨max n m+1,?_⟩;show((cy Q (max n m)).code f x [] _ _).bind (qd (cy Q (max n m)) f y [])=_;rw[(nM Q (uE n m)).code _ _ _ _ _ _ p];exact(nM Q (sE n m)).code _ _ _ _ _ _ J
 |seqX _ I q=>
  intro c e
  have:=qB c;rw[e] at this;obtain⟨a,b,rfl,h1,C⟩:=this;obtain⟨n,p⟩:=q h1;refine⟨n+1,?_⟩;show((cy Q n).code f a [] _ _).bind (qd (cy Q n) f b [])=_;rw[p];rename_i x _;cases x;exact absurd rfl I;rfl;rfl
 |cond O _ E=>
  intro c e
  have:=qB c;rw[e] at this;obtain⟨a,b,rfl,h1,C⟩:=this;rename_i t _ _ _ _ _ _;obtain⟨n,p⟩:=E (c:=if t then a else b) (by cases t<;>simp[h1,C]);refine⟨n+1,?_⟩;show(ev _ _).bind (Ca (cy Q n) f a b [] _ _)=_;rw[O];cases t<;>exact p
 |block _ E=>
  intro c e
  have:=qB c;rw[e] at this;obtain⟨b,rfl,h1⟩:=this;obtain⟨n,p⟩:=E h1;refine⟨n+1,?_⟩;show((cy Q n).code f b [] _ _).bind (fun x=>some (qz _ x))=_;rw[p];rename_i id _ _ _ _ _ x _;cases x
  all_goals grind [qz,Ex.block]
 |scope _ E=>
  intro c e
  have:=qB c;rw[e] at this;obtain⟨b,rfl,h1⟩:=this;obtain⟨n,p⟩:=E h1;exact⟨n+1,p⟩
 |loopN _ _ q z=>
  intro c e
  have:=qB c;rw[e] at this;obtain⟨b,rfl,h1⟩:=this;obtain⟨n,p⟩:=q h1;obtain⟨m,J⟩:=z (c:=.loop b) (by rw[eD,h1]);refine⟨max n m+1,?_⟩;show((cy Q (max n m)).code f b [] _ _).bind (qd (cy Q (max n m)) f (.loop b) [])=_;rw[(nM Q (uE n m)).code _ _ _ _ _ _ p];exact(nM Q (sE n m)).code _ _ _ _ _ _ J
 |loopX _ I q=>
  intro c e
  have:=qB c;rw[e] at this;obtain⟨b,rfl,h1⟩:=this;obtain⟨n,p⟩:=q h1;refine⟨n+1,?_⟩;show((cy Q n).code f b [] _ _).bind (qd (cy Q n) f (.loop b) [])=_;rw[p];rename_i x _;cases x;exact absurd rfl I;rfl;rfl
 |region hl=>
  intro c e
  have:=qB c;rw[e] at this;obtain⟨id,ops,rfl,h1⟩:=this;obtain⟨n,p⟩:=aqc (all:=ops) (l:=ops.toList) hl h1.symm;refine⟨n+1,?_⟩;show((cy Q n).ops f ops [] ops.toList _ _).bind (fun x=>some (Ex.normal,x.1,x.2))=_;rw[p];rfl
 |draw hl=>
  intro c e
  have:=qB c;rw[e] at this;obtain⟨id,ops,rfl,h1,C,T⟩:=this;subst h1;subst C;obtain⟨n,p⟩:=aqd hl (l:=ops.toList) rfl;refine⟨n+1,?_⟩;show(bif oa ops 0 ops.toList (Region.before ops).toList then(cy Q n).draw f ops (Region.before ops).toList [] [] 0 ops.toList _ _ else none).bind (fun x=>some (Ex.normal,x.1,x.2))=_;rw[T,cT,p];rfl
 |rfun O V hr U=>
  intro c e
  have:=qB c;rw[e] at this;obtain⟨R,rfl,rfl⟩:=this;obtain⟨n,p⟩:=hr;refine⟨n+1,?_⟩;show(ev _ _).bind (xC Q (cy Q n) f R.toList _ _ [] _ _)=_
  grind [xC,Be]
end
def W(Q:aH)(f:FuncId)(c:SC)(fr:Fr)(s:St)(K:Ex->Fr->St->Prop):Prop:= ∃x fr' s',kq Q f c fr s x fr' s'/\K x fr' s'
def WL(Q:aH)(f:FuncId)(l:List aw)(fr:Fr)(s:St)(K:Fr->St->Prop):Prop:= ∃fr' s',rj Q f l fr s fr' s'/\K fr' s'
variable{cs':List aa}{g:List aa->Rd}{ops:List aw}{b:SC}{s1:St}
section
variable{Q:aH}{f:FuncId}{fr:Fr}{s:St}{K:Ex->Fr->St->Prop}
def Ex.next(K:Ex->Fr->St->Prop)(N:Fr->St->Prop):Ex->Fr->St->Prop
 | .normal=>N
 |x=>K x
def W.mono{c:SC}{p:Ex->Fr->St->Prop}(h:W Q f c fr s K)(q: ∀x fr s,K x fr s->p x fr s):W Q f c fr s p:=let⟨x,fr',s',h1,h2⟩:=h;⟨x,fr',s',h1,q _ _ _ h2⟩
def W.skip(h:K .normal fr s):W Q f .skip fr s K:=⟨_,_,_,.skip,h⟩
def W.ret(h:K .ret fr s):W Q f .ret fr s K:=⟨_,_,_,.ret,h⟩
def W.exit{id:Nat}(h:K (.exit id) fr s):W Q f (.exit id) fr s K:=⟨_,_,_,.exit,h⟩
def W.seq{a:SC}(h:W Q f a fr s (Ex.next K fun fr s=>W Q f b fr s K)):W Q f (.seq a b) fr s K:=by
 obtain⟨x,fr1,s1,h1,p⟩:=h;cases x with
 |normal=>obtain⟨y,q,s2,C,z⟩:=p;exact⟨y,q,s2,.seqN h1 C,z⟩
 |exit i=>exact⟨_,_,_,.seqX h1 (by simp),p⟩
 |ret=>exact⟨_,_,_,.seqX h1 (by simp),p⟩
def W.cond{o:Operand}{a:SC}{t:Bool}(p:ev fr.env o=some (.bool t))(h:W Q f (if t then a else b) fr s K):W Q f (.cond o a b) fr s K:=let⟨x,fr1,s1,h1,h2⟩:=h;⟨x,fr1,s1,.cond p h1,h2⟩
theorem W.block{id:Nat}(h:W Q f b fr s fun x=>K (x.block id)):W Q f (.block id b) fr s K:=let⟨_x,fr1,s1,h1,h2⟩:=h;⟨_,fr1,s1,.block h1,h2⟩
def W.scope(h:W Q f b fr s K):W Q f (.scope b) fr s K:=let⟨x,fr1,s1,h1,h2⟩:=h;⟨x,fr1,s1,.scope h1,h2⟩
def W.loop1(h:W Q f b fr s (Ex.next K fun fr s=>W Q f (.loop b) fr s K)):W Q f (.loop b) fr s K:=by
 obtain⟨x,fr1,s1,h1,p⟩:=h;cases x with
 |normal=>obtain⟨y,q,s2,C,z⟩:=p;exact⟨y,q,s2,.loopN h1 C,z⟩
 |exit i=>exact⟨_,_,_,.loopX h1 (by simp),p⟩
 |ret=>exact⟨_,_,_,.loopX h1 (by simp),p⟩
def W.region(h:WL Q f ops fr s fun fr s=>K .normal fr s):W Q f (.region ops) fr s K:=let⟨fr1,s1,h1,h2⟩:=h;⟨_,fr1,s1,.region h1,h2⟩
def W.draw(h:zz Q f bs [] 0 ops fr s=some (fr1,s1))(p:K .normal fr1 s1):W Q f (.draw ops bs) fr s K:=⟨_,_,_,.draw (.of h),p⟩
def W.rfun{g:Operand}{ps:List Tmp}{a b:Code}{h:FuncId}{first captured:List aa}{O:FuncId}{y:aC aa}{q:Nat}{z:List Tmp}{a' b':Code}{p:Option Ex}(C:ev fr.env g=some (.func (.func h) first captured))(J:(tz Q.P h&&(fr.env.all jY&&(dY a&&dY b)))=true)(hr:aq Q h (first++(.yld s.aL::captured)) (s.new (.loop f fr.env fr.size ps a b none)) v s1)(I:s1.get [] s.aL=some (.loop O y q z a' b' p))(E:K (Gg p) fr (s1.put s.aL none)):W Q f (.rfun g ps a b) fr s K:=⟨_,_,_,.rfun C J hr I,E⟩
variable{N:Fr->St->Prop}
theorem PY: ∀ {a b:List aw} {fr fr1 p:Fr} {s s1 s2:St},vK Q f a fr s=some (fr1,s1)->rj Q f b fr1 s1 p s2->rj Q f (a++b) fr s p s2
 | [],b,fr,fr1,p,s,s1,s2,h,h'=>by
   grind [vK]
 |o::a,b,fr,fr1,p,s,s1,s2,h,h'=>by
  simp only[vK,ak] at h;obtain⟨⟨x,y⟩,h1,q⟩:=h;exact .step h1 (PY q h')
def WL.run(h:vK Q f ops fr s=some (fr1,s1))(p:N fr1 s1):WL Q f ops fr s N:=
 ⟨fr1,s1,by have:=PY h .nil;rwa [List.append_nil] at this,p⟩
def WL.app{a b:List aw}(h:vK Q f a fr s=some (fr1,s1))(p:WL Q f b fr1 s1 N):WL Q f (a++b) fr s N:=
 let⟨fr2,s2,h1,h2⟩:=p;⟨fr2,s2,PY h h1,h2⟩
def WL.call{o:aw}{l:List aw}{g:FuncId}(p:fU fr.env o.g=true)(y:o.op= .call c)(z: ∀b,c.callee≠ .builtin b)(E:callee fr.env c=some (g,args))(hr:aq Q g args s v s1)(q:di fr o.dst v fr.loc=some fr1)(C:WL Q f l fr1 s1 N):WL Q f (o::l) fr s N:=
 let⟨fr2,s2,h1,h2⟩:=C;⟨fr2,s2,.call p y z E hr q h1,h2⟩
noncomputable def aaA(n:Nat)(args:List aa):Fr:=⟨gI 0 args,bif bw args.length n then n else args.length,[]⟩
theorem aq.ofI{c:Code}(z:Q.P.funcs[f]? =some fn)(C:fn.body=some c)(p:Q.spec f=none)(q:eD c=sc)(h:W Q f sc (aaA fn.ntmps args) s fun x fr' s1=>s1=s'/\(x= .normal\/x= .ret)/\ ∃vs,jt Q [] fr' s1 fn.results.toList=some vs/\nT vs=v)(I:Q.specH f=none:=by rfl)(E:((Q.specW f).bind fun sp=>sp args)=none:=by rfl):aq Q f args s v s':=by
 obtain⟨x,fr',s1,h1,rfl,R,vs,O,J⟩:=h;obtain⟨n,y⟩:=P0 h1 q;refine⟨n+1,?_⟩;show jU Q (cy Q n) f args [] s=_;unfold jU;rw[p];simp only[I,E,z,au,C];have y:(cy Q n).code f c [] ⟨gI 0 args,bif bw args.length fn.ntmps then fn.ntmps else args.length,[]⟩ s=some (x,fr',s1):=y
 grind [qD]
def aq.of{c:Code}(y:Q.P.funcs[f]? =some fn)(z:fn.body=some c)(p:Q.spec f=none)(q:eD c=sc)(h:W Q f sc (aaA fn.ntmps args) s fun x fr' s1=>s1=s'/\(x= .normal\/x= .ret)/\ ∃vs,jt Q [] fr' s1 fn.results.toList=some vs/\nT vs=v)(E:Q.specH f=none:=by rfl)(C:Q.specW f=none:=by rfl):aq Q f args s v s':=.ofI y z p q h E (by simp[C])
def aq.specN(q:Q.anew f=true){sp:List aa->Option pH}{sz a b len c:Nat}{cs:List aa}(p:Q.spec f=none)(z:Q.specH f=none)(y:Q.specW f=some sp)(h1:sp args=some (some (n,g)))(E:s.get [] n=some (.cells cs))(C:gm (s.get []) (g cs)=some (.tup [.arr sz a b len c,.agg cs'])):
 aq Q f args s (.arr sz s.aL 0 len len) ((s.put n none).new (.cells cs')):=by
 refine⟨1,?_⟩;show jU Q (cy Q 0) f args [] s=_
 simp_all [jU,xz,Dl,Ea]
def aq.specW{sp:List aa->Option pH}{cs:List aa}(p:Q.spec f=none)(y:Q.specH f=none)(q:Q.specW f=some sp)(h1:sp args=some (some (n,g)))(C:s.get [] n=some (.cells cs))(z:gm (s.get []) (g cs)=some (.agg cs')):
 aq Q f args s (.tup []) (s.put n (some (.cells cs'))):=by
 refine⟨1,?_⟩;show jU Q (cy Q 0) f args [] s=_
 simp_all [jU,xz,Dl,Ea]
def Gl{x:Option (List aa)}{g:Nat->Option aR}(h:gm g (t6 x)=some (.agg l)):x=some l:=by
 cases x with
 |none=>cases h
 |some y=>
  injection h with h
  injection h with h
  rw[h]
theorem aq.specWp{sp:List aa->Option pH}{g:List aa->Option (List aa)}{cs:List aa}(p:Q.spec f=none)(y:Q.specH f=none)(q:Q.specW f=some sp)(h1:sp args=some (some (n,fun cs=>t6 (g cs))))(z:s.get [] n=some (.cells cs))(C:g cs=some cs'):
 aq Q f args s (.tup []) (s.put n (some (.cells cs'))):=.specW p y q h1 z (by grind [gm,t6])
theorem aq.specW0{sp:List aa->Option pH}(p:Q.spec f=none)(y:Q.specH f=none)(q:Q.specW f=some sp)(h1:sp args=some none):aq Q f args s (.tup []) s:=by
 refine⟨1,?_⟩;show jU Q (cy Q 0) f args [] s=_
 grind [jU,xz]
end
def dL(g:aa->Option aa):List aa->Option (List aa)
 | []=>some []
 |v::l=>(g v).bind fun a=>(dL g l).bind fun r=>some (a::r)
noncomputable def cL(h:aC aR):Nat->aa->Option aa
 |0,_=>none
 |k+1,v=>match v with
  | .agg cs=>(dL (cL h k) cs).bind fun r=>some (.agg r)
  | .tup cs=>(dL (cL h k) cs).bind fun r=>some (.tup r)
  | .list sz xs r=>(dL (cL h k) xs).bind fun p=>some (.list sz p (match r with| .own _=>.no|r=>r))
  | .arr sz n off len _=>match h.get n with
    |some (.cells cs)=>(cut cs off (len*sz)).bind fun c=>(dL (cL h k) c).bind fun q=>(bf (!aQ sz 1) sz len q).bind fun xs=>some (.list sz xs .no)
    |_=>none
  | .bool b=>some (.bool b)
  | .int k n=>some (.int k n)
  | .str s=>some (.str s)
  | .nilp=>some .nilp
  | .oZ=>some .oZ
  | .nilm=>some .nilm
  | .nilf=>some .nilf
  | .nili=>some .nili
  |_=>none
theorem yE{g g':aa->Option aa}(p: ∀v u,g v=some u->g' v=some u): ∀ {l r:List aa},dL g l=some r->dL g' l=some r
 | [],_,h=>h
 |v::l,r,h=>by
  simp only[dL,ak] at h ⊢;obtain⟨a,h1,r',y,q⟩:=h;exact⟨a,p _ _ h1,r',yE p y,q⟩
theorem UQ(h:aC aR): ∀(k:Nat) (v u:aa),cL h k v=some u->cL h (k+1) v=some u
 |0,_,_,e=>by cases e
 |k+1,v,u,e=>by
  have q:=UQ h k;cases v<;>simp only[cL] at e ⊢ <;>first
   |exact e
   |(simp only[ak] at e ⊢
     obtain⟨r,h1,p⟩:=e;exact⟨r,yE q h1,p⟩)
   |skip
  split at e;rename_i y;simp only[ak] at e ⊢;obtain⟨c,h1,C,p,z⟩:=e;exact⟨c,h1,C,yE q p,z⟩;cases e
theorem AD(h:aC aR)(q:k<=m)(e:cL h k v=some u):cL h m v=some u:=by
 induction m with
 |zero=>grind
 |succ m p=>
  grind [UQ]
def fY(h:aC aR)(v u:aa):Prop:= ∃k,cL h k v=some u
theorem fY.unique{p:aa}(a:fY h v u)(b:fY h v p):u=p:=by
 obtain⟨k,q⟩:=a;obtain⟨m,y⟩:=b;have h1:=AD h (uE k m) q
 grind [AD,sE]
noncomputable def AC(h:aC aR)(v:aa):Option aa:=by
 classical exact if e: ∃u,fY h v u then some e.choose else none
def UH(e:fY h v u):AC h v=some u:=by
 unfold AC;rw[dif_pos ⟨u,e⟩];exact congrArg some ((Exists.choose_spec (p:=fun u=>fY h v u) ⟨u,e⟩).unique e)
theorem UI(e:AC h v=some u):fY h v u:=by
 unfold AC at e;split at e
 all_goals grind
theorem H0{g:aa->Option aa}: ∀ {l r:List aa},dL g l=some r-> ∀(i:Nat) u,r[i]? =some u-> ∃v,l[i]? =some v/\g v=some u
 | [],r,h,i,u,hi=>by
   grind [dL]
 |v::l,r,h,i,u,hi=>by
  simp only[dL,ak,aJ] at h;obtain⟨a,h1,r',y,rfl⟩:=h;cases i with
  |zero=>grind
  |succ i=>simp at hi;obtain⟨x,q,p⟩:=H0 y i u hi;exact⟨x,by simpa using q,p⟩
theorem MW{g:aa->Option aa}: ∀ {l r:List aa},dL g l=some r->r.length=l.length
 | [],r,h=>by grind [dL]
 |v::l,r,h=>by
  simp only[dL,ak,aJ] at h;obtain⟨a,h1,r',p,rfl⟩:=h;simp[MW p]
theorem H2(e:cL h k v=some u)(p:v.scal=true):u.scal=true:=by
 cases k with
 |zero=>cases e
 |succ k=>
  cases v<;>simp only[cL] at e<;>first
   |(simp[aa.scal] at p;done)
   |(injection e with e;subst e;rfl)
   |(cases e;done)
   |(simp only[ak,aJ] at e;obtain⟨_,_,rfl⟩:=e;rfl)
   |(split at e
     simp only[ak,aJ] at e;obtain⟨_,_,_,_,_,_,rfl⟩:=e;rfl;cases e)
theorem MX(e:cL h k v=some u): ∃m,dL (cL h m) v.cells=some u.cells:=by
 cases k with
 |zero=>cases e
 |succ k=>
  by_cases hv: ∃cs,v= .agg cs;obtain⟨cs,rfl⟩:=hv;simp only[cL,ak,aJ] at e;obtain⟨r,h1,rfl⟩:=e;exact⟨k,h1⟩;have q:v.cells=[v]:=by cases v<;>first|rfl|exact absurd ⟨_,rfl⟩ hv
  have p:u.cells=[u]:=by
   cases v<;>simp only[cL] at e<;>first
    |exact absurd ⟨_,rfl⟩ hv
    |(injection e with e;subst e;rfl)
    |(cases e;done)
    |(simp only[ak,aJ] at e;obtain⟨_,_,rfl⟩:=e;rfl)
    |(split at e
      simp only[ak,aJ] at e;obtain⟨_,_,_,_,_,_,rfl⟩:=e;rfl;cases e)
  grind [dL]
theorem UK{h:aC aR}{k:Nat}: ∀ {xs ys:List aa},dL (cL h k) xs=some ys-> ∃m,dL (cL h m) (aF xs)=some (aF ys)
 | [],ys,e=>by simp only[dL,aJ] at e;subst e;exact⟨0,rfl⟩
 |x::xs,ys,e=>by
  simp only[dL,ak,aJ] at e;obtain⟨a,h1,r,C,rfl⟩:=e;obtain⟨y,p⟩:=MX h1;obtain⟨q,z⟩:=UK C;refine⟨max y q,?_⟩;simp only[aF];have p:=yE (g':=cL h (max y q)) (fun v u e=>AD h (uE _ _) e) p;have z:=yE (g':=cL h (max y q)) (fun v u e=>AD h (sE _ _) e) z;clear h1 C;generalize x.cells=c at p;generalize a.cells=d at p
  induction c generalizing d with
  |nil=>grind [dL]
  |cons v c E=>
   simp only[dL,ak,aJ] at p
   grind [dL]
theorem UO{h:aC aR}: ∀ {k:Nat} {v u:aa},bL v=true->cL h k v=some u->u=v
 |0,_,_,_,e=>by cases e
 |k+1,v,u,p,e=>by
  have q: ∀ {l r:List aa},pures l=true->dL (cL h k) l=some r->r=l:=by
   intro l
   induction l with
   |nil=>intro r _ e;simp only[dL,aJ] at e;exact e.symm
   |cons v l y=>
    intro r p e;simp only[pures,bu] at p;simp only[dL,ak,aJ] at e;obtain⟨a,h1,r',z,rfl⟩:=e;rw[UO p.1 h1,y p.2 z]
  cases v<;>simp only[cL] at e<;>first
   |(injection e with e;exact e.symm)
   |(cases e;done)
   |(simp[bL] at p;done)
   |(simp only[bL] at p
     simp only[ak,aJ] at e;obtain⟨r,h1,rfl⟩:=e;rw[q p h1])
   |skip
  rename_i E xs r;simp only[bL,bu] at p;simp only[ak,aJ] at e;obtain⟨C,h1,rfl⟩:=e;rw[q p.1 h1];cases r<;>first|rfl|(simp at p)
def z9(G:Gh)(h:aC aR)(b o:Nat)(u:aa):Prop:= ∃n a cs i,h.get n=some (.cells cs)/\G.at_ n=some a/\a.block=b/\o=a.off+i/\cs[i]? =some u
variable{b o:Nat}
theorem z9.unique(wr:WR G h w){p:aa}(x:z9 G h b o u)(y:z9 G h b o p):u=p:=by
 obtain⟨n,a,cs,i,h1,z,q,O,J⟩:=x;obtain⟨m,c,U,j,I,E,C,T,R⟩:=y;have e:n=m:=wr.sep n m a c (by rw[h1];simp) (by rw[I];simp) z E (by rw[q,C])
 grind
noncomputable def og(G:Gh)(h:aC aR)(b o:Nat):Option aa:=by
 classical exact(G.ro b o).or (if e: ∃u,z9 G h b o u then some e.choose else none)
def adI(e:G.ro b o=some u):og G h b o=some u:=by simp[og,e]
theorem adH(wr:WR G h w)(e:z9 G h b o u):og G h b o=some u:=by
 have h0:G.ro b o=none:=by
  cases e':G.ro b o with
  |none=>rfl
  |some v=>
   obtain⟨n,a,cs,i,h1,q,p,z,y⟩:=e
   have:=wr.apart n _ a o v h1 q (by rw[p];exact e');cases this.1
 unfold og;rw[h0,Option.none_or,dif_pos ⟨u,e⟩]
 grind [z9.unique]
theorem HE(e:og G h b o=some u):G.ro b o=some u\/z9 G h b o u:=by
 unfold og at e;cases e':G.ro b o with
 |some v=>grind
 |none=>
  rw[e',Option.none_or] at e;split at e
  all_goals grind
noncomputable def Gh.froze(G G1:Gh)(h1:aC aR):Gh where
 at_:=G.at_
 ro b o:=(G.ro b o).or ((og G1 h1 b o).bind (AC h1))
 dim:=G.dim
section
variable{G1 G2:Gh}{h1:aC aR}
theorem thaw(O: ∀b o u u',og G1 h1 b o=some u->fY h1 u u'->G2.ro b o=some u'){w:World}(wr:WR G1 h1 w): ∀(k:Nat) {v u:aa} {x:Value},VR G1 v x->cL h1 k v=some u->VR G2 u x
 |0,_,_,_,_,e=>by cases e
 |k+1,v,u,x,J,e=>by
  have ih: ∀ {vs I:List aa} {xs:List Value},ck G1 vs xs->dL (cL h1 k) vs=some I->ck G2 I xs:=by
   intro vs
   induction vs with
   |nil=>intro I xs h e;cases h;simp only[dL,aJ] at e;subst e;exact .nil
   |cons v vs U=>
    intro I xs h e;cases h with
    |cons a b=>
     simp only[dL,ak,aJ] at e;obtain⟨u,q,r,T,rfl⟩:=e;exact .cons (thaw O wr k a q) (U b T)
  have p: ∀ {cs I:List aa},dG cs=true->dL (cL h1 k) cs=some I->dG I=true:=by
   intro cs
   induction cs with
   |nil=>grind [dL]
   |cons v vs U=>
    grind [dG,dL,ak,H2]
  cases J with
  |bool b=>simp only[cL,aJ] at e;subst e;exact .bool b
  |int k n=>simp only[cL,aJ] at e;subst e;exact .int k n
  |str s=>simp only[cL,aJ] at e;subst e;exact .str s
  |nilp=>simp only[cL,aJ] at e;subst e;exact .nilp
  |oZ=>simp only[cL,aJ] at e;subst e;exact .oZ
  |nilm=>simp only[cL,aJ] at e;subst e;exact .nilm
  |nilf=>simp only[cL,aJ] at e;subst e;exact .nilf
  |nili=>simp only[cL,aJ] at e;subst e;exact .nili
  |ptr _=>simp[cL] at e
  |ro _=>simp[cL] at e
  |map _=>simp[cL] at e
  |func _ _=>simp[cL] at e
  |iface _=>simp[cL] at e
  |yld _=>simp[cL] at e
  |roz _=>simp[cL] at e
  |agg hc hs=>
   simp only[cL,ak,aJ] at e;obtain⟨r,q,rfl⟩:=e;exact .agg (p hc q) (ih hs q)
  |tup hs=>
   simp only[cL,ak,aJ] at e;obtain⟨r,q,rfl⟩:=e;exact .tup (ih hs q)
  |list a b c d e' f=>
   rename_i sz xs r ad Y;simp only[cL,ak,aJ] at e;obtain⟨ys,q,rfl⟩:=e;have z:=MW q;rw[<-z];refine .list a b ?_ (by rw[z];exact d) ?_ ?_
   grind [we,H0,MX,MW]
   intro i y Z;obtain⟨m,T⟩:=UK q;obtain⟨v,J,h5⟩:=H0 T i y Z;exact O _ _ v y (adI (e' i v J)) ⟨m,h5⟩;cases r with
   |uP=>rw[z];exact f
   |own n=>exact trivial
   |no=>exact trivial
  |arr a b c d e' f g i=>
   rename_i sz n a0 len a3 ad bd Y dm;simp only[cL] at e;split at e;rename_i cs V;simp only[ak,aJ] at e;obtain⟨cc,q,c',T,xs,h5,rfl⟩:=e;obtain⟨a7,E,a6,C,et,a5,a4,a2⟩:=wr.obj n _ V;rw[a] at E;injection E with E;subst E
   have a1:dG cc=true:=by
    simp only[dG,f8];intro v J;obtain⟨j,hj⟩:=we J;exact(a2 _ v (Ev q hj)).1
   obtain⟨q1,q2,q3⟩:=B0 (g:= !aQ sz 1) (sz:=sz) (fun hh=>by
    simp_all) h5 (p a1 T)
   have:VR G2 (.list sz xs .no) (.slice (some ad) xs.length Y):=by
    refine .list (.inr b) c q3 (by omega) ?_ trivial;intro j y Z;rw[q2] at Z;obtain⟨v,J,h6⟩:=H0 T j y Z;have R:=Ev q J;rcases f with f|⟨f1,f2⟩
    have hl:len=0:=by omega
    have:=(Cc q).2
    grind
    refine O _ _ v y (adH wr ⟨n,bd,cs,a0+j,V,a,f1.symm,?_,R⟩) ⟨k,h6⟩;rw[f2];omega
   rw[q1] at this;exact this;cases e
end
mutual
def d8:aa->Bool
 | .agg cs=>eO cs
 | .tup cs=>eO cs
 | .list _ xs _=>pures xs
 |v=>bL v
def eO:List aa->Bool
 | []=>true
 |v::l=>d8 v&&eO l
end
mutual
theorem VR.top{G1 G2:Gh}(k:D6 G1 G2): ∀ {v:aa} {x:Value},VR G1 v x->d8 v=true->VR G2 (de v) x
 |_,_,.bool b,_=>.bool b
 |_,_,.int k n,_=>.int k n
 |_,_,.str s,_=>.str s
 |_,_,.agg hc hs,h=>.agg (aqr hc) (ck.top k hs (by simpa[d8] using h))
 |_,_,.tup hs,h=>.tup (ck.top k hs (by simpa[d8] using h))
 |_,_,.nilp,_=>.nilp
 |_,_,.ptr e,h=>by simp[d8,bL] at h
 |_,_,.ro (cs:=cs) e,h=>by
  have h:pures cs=true:=by simpa[d8,bL] using h
  rw[de,lh h];exact .ro fun i x p=>k _ _ _ (e i x p) (Kb h p)
 |_,_,.oZ,_=>.oZ
 |_,_,.list (xs:=xs) (r:=r) a b c d e f,h=>by
  have h:pures xs=true:=by simpa[d8] using h
  simp only[de,lh h];refine .list a b c d (fun i x p=>k _ _ _ (e i x p) (Kb (Zp h) p)) ?_;cases r with
  |uP=>exact f
  |own n=>exact trivial
  |no=>exact trivial
 |_,_,.arr ..,h=>by simp[d8,bL] at h
 |_,_,.nilm,_=>.nilm
 |_,_,.map e,h=>by simp[d8,bL] at h
 |_,_,.nilf,_=>.nilf
 |_,_,.func (first:=f) (captured:=g) a b,h=>by
  have h:pures f=true/\pures g=true:=by simpa[d8,bL] using h
  simp only[de,lh h.1,lh h.2];exact .func (ck.onto k a h.1) (ck.onto k b h.2)
 |_,_,.nili,_=>.nili
 |_,_,.iface (v:=v) e,h=>by
  have h:bL v=true:=by simpa[d8,bL] using h
  simp only[de,KU h];exact .iface (VR.onto k e h)
 |_,_,.yld _,h=>by simp[d8,bL] at h
 |_,_,.roz _,h=>by simp[d8,bL] at h
theorem ck.top{G1 G2:Gh}(k:D6 G1 G2): ∀ {vs:List aa} {xs:List Value},ck G1 vs xs->eO vs=true->ck G2 (en vs) xs
 |_,_,.nil,_=>.nil
 |_,_,.cons a b,h=>by
  simp only[eO,bu] at h;exact .cons (VR.top k a h.1) (ck.top k b h.2)
end
def UN{h h':aC aR}(z: ∀n o,h.get n=some o->h'.get n=some o): ∀(k:Nat) (v u:aa),cL h k v=some u->cL h' k v=some u
 |0,_,_,e=>by cases e
 |k+1,v,u,e=>by
  have y:=UN z k;cases v<;>simp only[cL] at e ⊢ <;>first
   |exact e
   |(simp only[ak] at e ⊢
     obtain⟨r,h1,q⟩:=e;exact⟨r,yE y h1,q⟩)
   |skip
  split at e;rename_i p;rw[z _ _ p];simp only[ak] at e ⊢;obtain⟨c,h1,E,q,C⟩:=e;exact⟨c,h1,E,yE y q,C⟩;cases e
theorem aaz(hg:oM Q)(I: ∀i,0<Q.kmax i)(hp:eO args=true)(he: ∀ch,l9 Q ch-> ∃v s',(cy (Q.at ch) n).call f (en args) [] s0=some (v,s')/\fY s'.heap v u)(G:Gh)(h:aC aR)(w:World)(xs:List Value)(wr:WR G h w)(V:ck G args xs):
 mM Q.P f ⟨xs⟩ w fun y w'=> ∃G',WR G' h w'/\cZ G h w G' h w' 0 0/\VR G' u y:=by
 have a0:mg [] (fun _=>True) G.plain s0 s0 w:=⟨fun n _=>rfl,.refl _ _,wr.plain,fun _ _ _=>rfl⟩;have hc:=(Sd hg n).1 f (en args) [] s0 s0 G.plain w xs (fun _=>0) (fun _=>True) a0 (V.top (Ka G) hp) I (fun R _ hi=>by
  grind)
 refine hc.mono ?_;rintro y w' ⟨R,v,s',s2',G1,c⟩;have a2:fY s2'.heap v u:=by
  obtain⟨v1,s1,h1,q⟩:=he R c.inb;have E:=c.eval;rw[h1] at E;simp only[aJ,bI] at E;obtain⟨rfl,rfl⟩:=E;have goes:gr [] s0 s1:=((mt Q n).call f (en args) [] R s0 v1 s1 h1).1;have sees:jj [] s1 s2':=c.same.sees (.refl _ _) goes;obtain⟨k,I⟩:=q;exact⟨k,UN (fun n o e=>sees.get n o rfl e) k _ _ I⟩
 have ext:cZ G.plain .nil w G1 s2'.heap w' 0 s'.aL:=c.ext;have kept: ∀b,b<w.heap.size->w'.heap[b]? =w.heap[b]? :=fun b J=>ext.keep b J JM;have old: ∀b o u,b<w.heap.size->og G1 s2'.heap b o=some u->G.ro b o=some u/\bL u=true:=by
  intro b o u J p;rcases HE p with p|⟨m,a,cs,i,h1,q,E,_,_⟩
  cases e:G.plain.ro b o with
  |none=>exact absurd (ext.cells b o u J p e) JM
  |some T=>
   have:=ext.le.ro b o T e
   grind [Gh.plain,ak]
  exact absurd (ext.owns b J ⟨m,a,by rw[h1];simp,q,E⟩) JM
 have O:G.le (G.froze G1 s2'.heap):=⟨fun _ _ h=>h,fun b o u h=>by simp[Gh.froze,h],fun _ _ h=>h⟩;have back: ∀b o u T,og G1 s2'.heap b o=some u->fY s2'.heap u T->(G.froze G1 s2'.heap).ro b o=some T:=by
  intro b o u T p hf;cases e:G.ro b o with
  |none=>simp[Gh.froze,e,p,UH hf]
  |some z=>
   obtain⟨h1,q⟩:=old b o u (wr.ro_lt e) p;obtain⟨k,I⟩:=hf
   grind [UO,Gh.froze]
 have U: ∀b o x,b<w.heap.size->w.cell? ⟨b,o,none⟩=some x->w'.cell? ⟨b,o,none⟩=some x:=by
  intro b o x J V
  have:=kept b J;unfold World.cell? at V ⊢;rw[this];exact V
 obtain⟨kk,a3⟩:=a2;refine⟨G.froze G1 s2'.heap,⟨?_,?_,?_,?_,?_,?_⟩,⟨O,ext.size,fun b J _=>kept b J,fun b _ o=>o,?_,?_,ext.quiet,fun b _ o=>o⟩,thaw back c.wr kk c.val a3⟩;intro n o hn;obtain⟨a,h1,q,E⟩:=wr.obj n o hn;exact⟨a,h1,q,(E.mono O).of_block (kept _ (wr.below n a h1))⟩;exact wr.sep;intro b o u p;cases e:G.ro b o with
 |some z=>
  have:u=z:=by simp only[Gh.froze,e,Option.some_or,aJ] at p;exact p.symm
  subst this;obtain⟨h1,y,q,E⟩:=wr.ro b o u e;exact⟨h1,y,U b o y (wr.ro_lt e) q,E.mono O⟩
 |none=>
  simp only[Gh.froze,e,Option.none_or,ak] at p;obtain⟨z,hz,p⟩:=p;obtain⟨k,I⟩:=UI p;rcases HE hz with a1|⟨m,a,cs,i,h1,q,E,h4,h5⟩
  obtain⟨h1,y,q,E⟩:=c.wr.ro b o z a1;exact⟨H2 I h1,y,q,thaw back c.wr k E I⟩;obtain⟨a',Z,g2,C,et,g3,g4,g5⟩:=c.wr.obj m _ h1;rw[q] at Z;injection Z with Z;subst Z
  obtain⟨r1,y,r2,r3⟩:=g5 i z h5;refine⟨H2 I r1,y,?_,thaw back c.wr k r3 I⟩
  grind [o0]
 intro n ob a i u hn Y p;cases e:G.ro a.block i with
 |some z=>exact wr.apart n ob a i z hn Y e
 |none=>
  simp only[Gh.froze,e,Option.none_or,ak] at p;obtain⟨z,hz,_⟩:=p
  have:=(old _ _ _ (wr.below n a Y) hz).1;rw[e] at this;cases this
 intro b d hd;obtain⟨C,e,h1,q⟩:=wr.dim b d hd
 grind
 intro n a Y;exact hJ (wr.below n a Y) ext.size
 all_goals grind [Gh.froze,ak]
def ni(J:oM Q)(I: ∀i,0<Q.kmax i)(C:eO args=true)(hr:aq Q f (en args) s0 v s')(p:s'.ci=0)(z:fY s'.heap v u)(G:Gh)(h:aC aR)(w:World)(xs:List Value)(wr:WR G h w)(q:ck G args xs):
 mM Q.P f ⟨xs⟩ w fun y w'=> ∃G',WR G' h w'/\cZ G h w G' h w' 0 0/\VR G' u y:=by
 obtain⟨n,E⟩:=hr;refine aaz (n:=n) J I C (fun ch _=>⟨v,s',?_,z⟩) G h w xs wr q;have:(cy (Q.at Q.ch) n).call f (en args) [] s0=some (v,s'):=E;exact(tL Q n).call f (en args) [] Q.ch s0 v s' this ch (fun i hi=>by rw[p] at hi;omega)
