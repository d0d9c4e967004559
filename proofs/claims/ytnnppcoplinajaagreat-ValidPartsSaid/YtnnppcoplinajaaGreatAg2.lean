/- Lemmas for ValidParts. -/
import Derived.Test.YtnnppcoplinajaaGreatAg1
import Derived.Orders
import Derived.Scope
import Derived.LoopN
import Derived.OrdersIn
import Derived.LoopNIn
import Derived.RangeFuncRecord
set_option linter.all false
open Array renaming ext'→qa,getD_eq_getD_getElem?→tX,getElem?_eq_getElem→so,getElem?_replicate→Sa,getElem?_setIfInBounds→Sb
open Bool renaming and_eq_true→bm,false_eq_true→zt
open Classical renaming byContradiction→su
open List renaming all_eq_true→fu,getElem?_of_mem→t7,map_cons→eA
open List.cons renaming injEq→lW
open Go.Ag.bF renaming none→vK
open Nat renaming beq→aK,ble→bn,blt→bh,le_max_left→vM,le_max_right→t9,le_of_lt→zA,le_refl→bk,le_succ→jV,le_trans→eG,lt_of_lt_of_le→gj,lt_or_ge→nG,zero_add→eH,zero_le→jW
open Option renaming bind_eq_some_iff→aj,bind_some→bg,getD_some→zD,none_or→zF
open Option.some renaming injEq→aH
open Prod.mk renaming injEq→bu
open Go.Result renaming andThen_ok→lX
namespace Go.Ag
section
variable{mk:aI}{α β γ δ:Type}
def cH.none:cH (α:=α) mk (fun _ _=>.none):=by intro ch s v s' h;cases h
def cH.opt(x:Option β){k:β->(Nat->Nat)->St->Option (α×St)}(g: ∀b,x=some b->cH mk (k b)):cH mk (fun ch s=>x.bind fun b=>k b ch s):=by
 cases x with
 |none=>intro ch s v s' h;cases h
 |some b=>exact g b rfl
def cH.ret(a:α):cH mk (fun _ s=>some (a,s)):=by
 intro ch s v s' h;simp only[aH,bu] at h;obtain⟨rfl,rfl⟩:=h;exact⟨.refl mk _,fun g s2 _ x=>⟨s2,rfl,.refl x⟩⟩
def bF.ret(a:α)(b:β):bF mk (fun _ s=>some (a,b,s)):=by
 intro ch s v l s' h;simp only[aH,bu] at h;obtain⟨rfl,rfl,rfl⟩:=h;exact⟨.refl mk _,fun g s2 _ x=>⟨s2,rfl,.refl x⟩⟩
theorem cH.then3{x:(Nat->Nat)->St->Option (α×St)}{k:α->(Nat->Nat)->St->Option (β×γ×St)}(I:cH mk x)(J: ∀a,bF mk (k a)):bF mk (fun ch s=>(x ch s).bind fun r=>k r.1 ch r.2):=by
 intro ch s v l s' h;simp only[aj] at h;obtain⟨⟨a,s1⟩,h1,O⟩:=h;obtain⟨q,R⟩:=I ch s a s1 h1;obtain⟨p,e2⟩:=J a ch s1 v l s' O;refine⟨q.trans p,fun g s2 C y=>?_⟩;obtain⟨s2',U,z⟩:=R g s2 (fun i hi=>C i (gj hi p.ci)) y;obtain⟨s2'',T,E⟩:=e2 g s2' C (z.sees y q);exact⟨s2'',by grind,z.trans q p E⟩
theorem bF.then1{x:(Nat->Nat)->St->Option (α×β×St)}{k:α->β->(Nat->Nat)->St->Option (γ×St)}(I:bF mk x)(J: ∀a b,cH mk (k a b)):cH mk (fun ch s=>(x ch s).bind fun r=>k r.1 r.2.1 ch r.2.2):=by
 intro ch s v s' h;simp only[aj] at h;obtain⟨⟨a,b,s1⟩,h1,O⟩:=h;obtain⟨q,R⟩:=I ch s a b s1 h1;obtain⟨p,e2⟩:=J a b ch s1 v s' O;refine⟨q.trans p,fun g s2 C y=>?_⟩;obtain⟨s2',U,z⟩:=R g s2 (fun i hi=>C i (gj hi p.ci)) y;obtain⟨s2'',T,E⟩:=e2 g s2' C (z.sees y q);exact⟨s2'',by grind,z.trans q p E⟩
theorem bF.then3{x:(Nat->Nat)->St->Option (α×β×St)}{k:α->β->(Nat->Nat)->St->Option (γ×δ×St)}(I:bF mk x)(J: ∀a b,bF mk (k a b)):bF mk (fun ch s=>(x ch s).bind fun r=>k r.1 r.2.1 ch r.2.2):=by
 intro ch s v l s' h;simp only[aj] at h;obtain⟨⟨a,b,s1⟩,h1,O⟩:=h;obtain⟨q,R⟩:=I ch s a b s1 h1;obtain⟨p,e2⟩:=J a b ch s1 v l s' O;refine⟨q.trans p,fun g s2 C y=>?_⟩;obtain⟨s2',U,z⟩:=R g s2 (fun i hi=>C i (gj hi p.ci)) y;obtain⟨s2'',T,E⟩:=e2 g s2' C (z.sees y q);exact⟨s2'',by grind,z.trans q p E⟩
end
variable{α β:Type}{mk:aI}
theorem bF.weaken{p:aI}(Z: ∀n,dy mk n=true->dy p n=true){x:(Nat->Nat)->St->Option (α×β×St)}(T:bF p x):bF mk x:=by
 have E: ∀n,dy p n=false->dy mk n=false:=fun n h=>by
  grind
 have I: ∀ {s s':St} {n:Nat},mU p s s' n->mU mk s s' n:=fun t=>t.imp (fun t=>⟨E _ t.1,t.2⟩) id;intro ch s a b s' h;obtain⟨g,e⟩:=T ch s a b s' h;refine⟨⟨g.aL,g.ci,g.gt,fun n h=>g.frame n (fun t=>h (I t)),g.noted⟩,fun C s2 Y y=>?_⟩;obtain⟨s2',R,z⟩:=e C s2 Y ⟨y.aL,y.gt,y.ci,fun n o V U=>y.get n o (E n V) U⟩;refine⟨s2',R,⟨z.aL,z.gt,z.ci,fun n t=>?_,fun n t=>z.outside n (fun q=>t (I q))⟩⟩;by_cases q:mU p s s' n;exact z.inside n q;rw[z.outside n q,g.frame n q];rcases t with⟨O,J⟩|t
 cases h:s.heap.get n with
 |none=>exact absurd h J
 |some o=>exact y.get n o O h
 exact absurd (.inr t) q
variable{rs:List eZ}{bi n:Nat}
theorem Wc(h:dy mk n=true):dy (iH bi rs mk) n=true:=by
 induction rs with
 |nil=>exact h
 |cons r rs g=>
  grind [iH,dy]
def aD.at(Q:aD)(ch:Nat->Nat):aD:= {Q with ch:=ch }
theorem F4{mk:aI}{s s2:St}(y:iz mk s s2): ∀(x:Rd) (v:aa),fC (s.get mk) x=some v->fC (s2.get mk) x=some v
 | .ret _,_,h=>h
 | .ask n k,v,h=>by
   simp only[fC,aj] at h ⊢;obtain⟨o,h1,g⟩:=h;exact⟨o,y.look h1,F4 y (k o) v g⟩
theorem aqG(mk:aI)(x:Rd):cH mk (fun _ s=>(fC (s.get mk) x).bind fun v=>some (v,s)):=by
 intro ch s v s' h;simp only[aj,aH,bu] at h;obtain⟨u,h1,rfl,rfl⟩:=h;exact⟨.refl mk _,fun g s2 _ y=>⟨s2,by grind [F4],.refl y⟩⟩
structure KL (r:(Nat->Nat)->ow):Prop where
 ops: ∀f all mk l fr,cH mk (fun ch s=>(r ch).ops f all mk l fr s)
 draw: ∀f all bs mk rs i l fr,cH mk (fun ch s=>(r ch).draw f all bs mk rs i l fr s)
 code: ∀f c mk fr,bF mk (fun ch s=>(r ch).code f c mk fr s)
 call: ∀f args mk,cH mk (fun ch s=>(r ch).call f args mk s)
def aqx{k:aJ->(Nat->Nat)->St->Option (α×aJ×St)}(J: ∀o,bF mk (k o)):
 cH mk (fun ch s=>(s.get mk n).bind fun o=>(k o ch (s.put n none)).bind fun x=>some (x.1,x.2.2.put n (some x.2.1))):=by
 intro ch s v s' h;simp only[aj,aH,bu] at h;obtain⟨o,h1,⟨u,p,C⟩,R,rfl,rfl⟩:=h;obtain⟨g,e⟩:=J o ch (s.put n none) u p C R;refine⟨g.hide h1 p,fun z s2 O y=>?_⟩;obtain⟨q,I,E⟩:=e z (s2.put n none) O ((gn.put y h1 none).sees y (fG.put h1 none));exact⟨q.put n (some p),by simp only[y.look h1,bg,I],E.hide y h1 p⟩
section
variable{Q:aD}{r:(Nat->Nat)->ow}(hr:KL r)
include hr
theorem aqM(n:Nat)(args:List aa)(mk:aI):cH mk (fun ch s=>mO (r ch) n args mk s):=by
 unfold mO;refine aqx fun o=>?_;unfold Be;split;rename_i f env g p a b;cases p.all (fun t=>bh t g);exact vK;simp only[cT];refine bF.bind _ fun q _=>?_;refine bF.then3 (k:=fun x fr ch s=>zq (r ch) f env g p a b mk (x,fr,s)) (hr.code f a mk _) fun x fr=>?_;cases x with
 |normal=>
  refine bF.then3 (k:=fun x fr _ s=>Bd f env g p a b (x,fr,s)) (hr.code f b mk _) fun x fr=>?_;cases x<;>exact bF.ret _ _
 |exit i=>exact vK
 |ret=>exact vK
 exact vK
theorem Fm(f:FuncId)(o:Oper)(mk:aI)(fr:Fr):bF mk (fun ch s=>eW (Q.at ch) (r ch) f o mk fr s):=by
 unfold eW;split;split;exact Zc _ _ _ _;rename_i c _ _ _;cases oO fr.env c;unfold pj;exact bF.bind _ fun g _=>cH.then3 (hr.call g.1 g.2 mk) fun v=>bF.ret v fr.loc;unfold sn;exact bF.bind _ fun g _=>cH.then3 (aqM hr g.1 g.2 mk) fun v=>bF.ret v fr.loc;exact aqm _ _ _ _ _
theorem aqE(f:FuncId)(all:Array Oper)(mk:aI)(l:List Oper)(fr:Fr):cH mk (fun ch s=>mE (Q.at ch) (r ch) f all mk l fr s):=by
 unfold mE;split;exact cH.ret fr;rename_i o g;cases eP all fr.env o;exact cH.opt _ fun fr' _=>hr.ops f all mk g fr';exact bF.then1 (Fm hr f o mk fr) fun v l=>cH.opt (cN fr o.dst v l) fun fr' _=>hr.ops f all mk g fr'
theorem aqv(f:FuncId)(all:Array Oper)(bs:List Nat)(mk:aI)(rs:List eZ)(i:Nat)(l:List Oper)(fr:Fr):cH mk (fun ch s=>mg (Q.at ch) (r ch) f all bs mk rs i l fr s):=by
 unfold mg;split;exact cH.ret fr;rename_i o C;cases eP all fr.env o;exact cH.opt _ fun fr' _=>hr.draw f all bs.tail mk rs (i+1) C fr';intro ch s v s' h;simp only[cT,aj] at h;obtain⟨⟨u,l,s1⟩,h1,h⟩:=h;replace h:=aY h;obtain⟨hc,h⟩:=h;simp only[aj] at h;obtain⟨fr',U,h⟩:=h;have hl:=bF.weaken (fun n T=>Wc (bi:=bs.headD 0) (rs:=rs) T) (Fm (Q:=Q) hr f o (iH (bs.headD 0) rs mk) fr);obtain⟨O,e1⟩:=hl ch ⟨s.heap,s.aL,s.aL,s.ci⟩ u l s1 h1;obtain⟨Y,e2⟩:=hr.draw _ _ _ _ _ _ _ _ ch (s.Gt s1) v s' h;have I:(bif bn s.gt s1.gt then s.gt else s1.gt)<=s.gt/\(bif bn s.gt s1.gt then s.gt else s1.gt)<=s1.gt:=by
  cases e:bn s.gt s1.gt
  grind [tG]
  simp_all
 have q:fG mk s (s.Gt s1):=⟨O.aL,O.ci,I.1,O.frame,fun n T R=>eG I.2 (O.noted n T R)⟩;refine⟨q.trans Y,fun z s2 J y=>?_⟩;obtain⟨g,Z,p⟩:=e1 z ⟨s2.heap,s2.aL,s2.aL,s2.ci⟩ (fun j hj=>J j (gj hj Y.ci)) ⟨y.aL,y.aL,y.ci,y.get⟩;have E:gn mk s (s.Gt s1) s2 (s2.Gt g):=⟨p.aL,by show(bif bn s2.gt g.gt then s2.gt else g.gt)=(bif bn s.gt s1.gt then s.gt else s1.gt);rw[y.gt,p.gt],p.ci,p.inside,p.outside⟩;obtain⟨s2',q3,q4⟩:=e2 z (s2.Gt g) J (E.sees y q);refine⟨s2',?_,E.trans q Y q4⟩;simp only[cT];rw[y.aL,y.ci] at Z ⊢;simp only[Z,bg,p.gt,p.ci,p.aL];have V:(pw (bs.headD 0) (bD ((Q.at z).hint f) o.dst fr.env o.op) (s1.gt.blt s.aL||isStore o.op) rs&&s.ci.beq s1.ci)=true:=hc;rw[V];simp only[cT];rw[U];exact q3
theorem aqt(f:FuncId)(c:Code)(mk:aI)(fr:Fr):bF mk (fun ch s=>xZ (Q.at ch) (r ch) f c mk fr s):=by
 have C: ∀(x:Ex) (fr:Fr) (b:Code),bF mk (fun ch s=>pP (r ch) f b mk (x,fr,s)):=by
  intro x fr b;cases x with
  |normal=>exact hr.code f b mk fr
  |exit i=>exact bF.ret _ _
  |ret=>exact bF.ret _ _
 cases c<;>simp only[xZ]<;>first
  |exact vK
  |exact bF.ret _ _
  |exact bF.then3 (hr.code f _ mk fr) fun x fr=>C x fr _
  |exact hr.code f _ mk fr
  |skip
 ·
  rename_i id ops draw;unfold JP;cases draw;exact cH.then3 (k:=fun fr _ s=>some (Ex.normal,fr,s)) (hr.ops f ops mk ops.toList fr) fun fr=>bF.ret _ _;simp only[cT];cases nN ops 0 ops.toList (Region.before ops).toList;exact vK;exact cH.then3 (k:=fun fr _ s=>some (Ex.normal,fr,s)) (hr.draw f ops _ mk [] 0 ops.toList fr) fun fr=>bF.ret _ _
 ·
  rename_i x a b;refine bF.bind _ fun v _=>?_;unfold BQ;split;exact hr.code f _ mk fr;exact hr.code f _ mk fr;exact vK
 ·
  rename_i id b;refine bF.then3 (k:=fun x fr _ s=>some (qm id (x,fr,s))) (hr.code f b mk fr) fun x fr=>?_;cases x with
  |normal=>exact bF.ret _ _
  |ret=>exact bF.ret _ _
  |exit i=>
   simp only[qm];cases aK i id
   all_goals simp_all [bF.ret]
 ·
  rename_i g Y a b;refine bF.bind _ fun v _=>?_;unfold wZ;split;rename_i h first z _
  show bF mk (fun ch s=>bif tg Q.P h&&(fr.env.all jB&&(dv a&&dv b)) then _ else none);cases tg Q.P h&&(fr.env.all jB&&(dv a&&dv b));exact vK;simp only[cT];intro ch s x fr' s' h';simp only[aj] at h';obtain⟨⟨v,s1⟩,h1,Z⟩:=h';simp only[AQ,aj] at Z;obtain⟨o,R,q⟩:=Z;obtain⟨I,e1⟩:=hr.call h _ mk ch _ v s1 h1;have E:=fG.new mk s (.loop f fr.env fr.size Y.toList a b none);cases o with
  |loop f' a0 J a1 a' b' p=>
   simp only[aH,bu] at q;obtain⟨rfl,rfl,rfl⟩:=q;have g2:=fG.put R (mk:=mk) none;refine⟨(E.trans I).trans g2,fun T s2 hc y=>?_⟩;have s0:=gn.new y (.loop f fr.env fr.size Y.toList a b none);obtain⟨O,q1,V⟩:=e1 T _ hc (s0.sees y E);have hn:s2.aL=s.aL:=y.aL;have U:=V.sees (s0.sees y E) I;refine⟨O.put s.aL none,?_,(s0.trans E I V).trans (E.trans I) g2 (.put U R none)⟩;simp only[hn,q1,bg,AQ,U.look R]
  |cells _=>cases q
  |tok=>cases q
  |map _ _=>cases q
  |iter _ _ _ _=>cases q
  |fix _=>cases q
  exact vK
omit hr in
theorem Zd(mk:aI)(fr:Fr)(l:List ResultVar):RO mk (fun s=>iu Q mk fr s l):=by
 intro s s2 b h hl
 induction l generalizing b with
 |nil=>exact h
 |cons x l q=>
  simp only[iu,aj] at h ⊢;obtain⟨v,p,vs,g,h⟩:=h;refine⟨v,?_,vs,q vs g,h⟩;cases x with
  |tmp t=>exact p
  |cell a t=>exact ab0 t _ fr.loc s s2 v p hl
theorem aqr(f:FuncId)(args:List aa)(mk:aI):cH mk (fun ch s=>jx (Q.at ch) (r ch) f args mk s):=by
 unfold jx;show cH mk (fun ch s=>match Q.spec f with
  |some sp=>(sp args).bind fun v=>some (v,s)
  |none=>match Q.specH f with
   |some sp=>(fC (s.get mk) (sp args)).bind fun v=>some (v,s)
   |none=>match Q.specW f with
   |some sp=>(sp args).bind (wY mk s)
   |none=>(Q.P.funcs[f]?).bind fun fn=>fn.body.bind fun c=>
    ((r ch).code f c mk ⟨fT 0 args,bif bn args.length fn.ntmps then fn.ntmps else args.length,[]⟩ s).bind (qs (Q.at ch) fn mk))
 cases Q.spec f with
 |some sp=>exact cH.pureOpt _
 |none=>
  cases Q.specH f with
  |some sp=>exact aqG mk (sp args)
  |none=>
  cases Q.specW f with
  |some sp=>
   refine cH.opt (k:=fun p _ s=>wY mk s p) (sp args) fun p _=>?_;cases p with
   |none=>exact cH.ret _
   |some p=>
   refine cH.of_put (f:=fun s=>(s.get mk p.1).bind (Db mk s p)) ?_;intro s a s' h;simp only[aj] at h;obtain⟨o,h1,h⟩:=h;cases o<;>simp only[Db,aj,reduceCtorEq] at h;obtain⟨v,E,h⟩:=h;cases v<;>simp only[D1,aH,bu,reduceCtorEq] at h;obtain⟨rfl,rfl⟩:=h;exact⟨p.1,_,_,h1,rfl,fun s2 y=>by simp only[y.look h1,bg,Db,F4 y _ _ E,D1]⟩
  |none=>
  refine cH.opt _ fun fn _=>cH.opt _ fun c _=>?_;refine bF.then1 (k:=fun x fr ch s=>qs (Q.at ch) fn mk (x,fr,s)) (hr.code f c mk _) fun x fr=>?_;have fin:cH mk (fun(ch:Nat->Nat) s=>(iu (Q.at ch) mk fr s fn.results.toList).bind fun vs=>some (nq vs,s)):=by
   intro ch s v s' h;simp only[aj] at h;obtain⟨vs,g,h⟩:=h;simp only[aH,bu] at h;obtain⟨rfl,rfl⟩:=h;refine⟨.refl mk _,fun q s2 _ y=>⟨s2,?_,.refl y⟩⟩
   have:=Zd (Q:=Q.at ch) mk fr fn.results.toList s s2 vs g (fun n o C=>y.look C);have:iu (Q.at q) mk fr s2 fn.results.toList=some vs:=by
    rw[<-this];clear g this;generalize fn.results.toList=l
    induction l with
    |nil=>rfl
    |cons x l z=>simp only[iu,z];cases x<;>rfl
   simp[this]
  cases x with
  |normal=>exact fin
  |ret=>exact fin
  |exit i=>exact cH.none
end
def lN(Q:aD): ∀n:Nat,KL (fun ch=>b9 (Q.at ch) n)
 |0=>⟨fun _ _ _ _ _=>cH.none,fun _ _ _ _ _ _ _ _=>cH.none,fun _ _ _ _=>vK,fun _ _ _=>cH.none⟩
 |n+1=>⟨fun f all mk l fr=>aqE (lN Q n) f all mk l fr,fun f all bs mk rs i l fr=>aqv (lN Q n) f all bs mk rs i l fr,
  fun f c mk fr=>aqt (lN Q n) f c mk fr,fun f args mk=>aqr (lN Q n) f args mk⟩
def fX{α:Type}(x:(Nat->Nat)->St->Option (α×St)):Prop:=
 ∀ch s a s',x ch s=some (a,s')-> ∀g,(∀i,i<s'.ci->g i=ch i)->x g s=some (a,s')
def ff{α β:Type}(x:(Nat->Nat)->St->Option (α×β×St)):Prop:=
 ∀ch s a b s',x ch s=some (a,b,s')-> ∀g,(∀i,i<s'.ci->g i=ch i)->x g s=some (a,b,s')
def fX.const(f:St->Option (α×St)):fX (fun _ s=>f s):=fun _ _ _ _ h _ _=>h
def ff.const(f:St->Option (α×β×St)):ff (fun _ s=>f s):=fun _ _ _ _ _ h _ _=>h
section
variable{mk:aI}{α β γ δ:Type}
def fX.opt(x:Option β){k:β->(Nat->Nat)->St->Option (α×St)}(g: ∀b,x=some b->fX (k b)):fX (fun ch s=>x.bind fun b=>k b ch s):=by
 cases x with
 |none=>intro ch s v s' h;cases h
 |some b=>exact g b rfl
def ff.opt(x:Option β){k:β->(Nat->Nat)->St->Option (α×γ×St)}(g: ∀b,x=some b->ff (k b)):ff (fun ch s=>x.bind fun b=>k b ch s):=by
 cases x with
 |none=>intro ch s v l s' h;cases h
 |some b=>exact g b rfl
def fX.then3{x:(Nat->Nat)->St->Option (α×St)}{k:α->(Nat->Nat)->St->Option (β×γ×St)}(y:fX x)(z: ∀a,ff (k a))(C: ∀a,bF mk (k a)):ff (fun ch s=>(x ch s).bind fun r=>k r.1 ch r.2):=by
 intro ch s v l s' h g p;simp only[aj] at h ⊢;obtain⟨⟨a,s1⟩,h1,q⟩:=h;exact⟨(a,s1),y ch s a s1 h1 g (fun i hi=>p i (gj hi ((C a ch s1 v l s' q).1.ci))),z a ch s1 v l s' q g p⟩
def ff.then1{x:(Nat->Nat)->St->Option (α×β×St)}{k:α->β->(Nat->Nat)->St->Option (γ×St)}(y:ff x)(z: ∀a b,fX (k a b))(C: ∀a b,cH mk (k a b)):fX (fun ch s=>(x ch s).bind fun r=>k r.1 r.2.1 ch r.2.2):=by
 intro ch s v s' h g p;simp only[aj] at h ⊢;obtain⟨⟨a,b,s1⟩,h1,q⟩:=h;exact⟨(a,b,s1),y ch s a b s1 h1 g (fun i hi=>p i (gj hi ((C a b ch s1 v s' q).1.ci))),z a b ch s1 v s' q g p⟩
def ff.then3{x:(Nat->Nat)->St->Option (α×β×St)}{k:α->β->(Nat->Nat)->St->Option (γ×δ×St)}(y:ff x)(z: ∀a b,ff (k a b))(C: ∀a b,bF mk (k a b)):ff (fun ch s=>(x ch s).bind fun r=>k r.1 r.2.1 ch r.2.2):=by
 intro ch s v l s' h g p;simp only[aj] at h ⊢;obtain⟨⟨a,b,s1⟩,h1,q⟩:=h;exact⟨(a,b,s1),y ch s a b s1 h1 g (fun i hi=>p i (gj hi ((C a b ch s1 v l s' q).1.ci))),z a b ch s1 v l s' q g p⟩
end
theorem agD(mk:aI)(kmax:Nat->Nat)(it:aa)(g:Bool):fX (fun ch s=>oS mk ch kmax it g s):=by
 intro ch s u s' h R T;obtain⟨_,e⟩:=Zb (mk:=mk) kmax it g ch s u s' h;simp only[oS] at h ⊢;split at h
 ·rename_i n
  simp only[aj] at h ⊢;obtain⟨ob,E,h⟩:=h;refine⟨ob,E,?_⟩;split at h;exact h
  ·rename_i m z q p
   cases g
   ·simp only[cF,aj] at h ⊢
    obtain⟨C,y,h⟩:=h;refine⟨C,y,?_⟩;split at h
    ·rename_i O J
     replace h:=gu h;rcases h with⟨_,h⟩|⟨I,h⟩
     cases h
     ·simp only[I,cF]
      generalize lS q O=UL at h ⊢;unfold tH at h ⊢;split at h
      all_goals grind
    cases h
   cases h
  cases h
 cases h
variable{P:Program}
theorem agz(mk:aI)(kmax:Nat->Nat)(hint:Tmp->Nat)(dst:Option Tmp)(op:Op)(fr:Fr):ff (fun ch s=>lF P mk ch kmax hint dst op fr s):=by
 cases op<;>simp only[lF]<;>first
  |exact ff.const _
  |skip
 rename_i y g;refine ff.opt _ fun x _=>?_;intro ch s v l s' h p z;simp only[f8,aj] at h ⊢;obtain⟨⟨q,s1⟩,h1,h⟩:=h;refine⟨(q,s1),agD mk kmax x g ch s q s1 h1 p ?_,h⟩
 grind
structure Se (r:(Nat->Nat)->ow):Prop where
 ops: ∀f all mk l fr,fX (fun ch s=>(r ch).ops f all mk l fr s)
 draw: ∀f all bs mk rs i l fr,fX (fun ch s=>(r ch).draw f all bs mk rs i l fr s)
 code: ∀f c mk fr,ff (fun ch s=>(r ch).code f c mk fr s)
 call: ∀f args mk,fX (fun ch s=>(r ch).call f args mk s)
section
variable{Q:aD}{r:(Nat->Nat)->ow}(hl:KL r)(hr:Se r)
include hl hr
theorem agF(n:Nat)(args:List aa)(mk:aI):fX (fun ch s=>mO (r ch) n args mk s):=by
 intro ch s v s' h q I;simp only[mO,aj,aH,bu] at h ⊢;obtain⟨o,h1,⟨u,T,O⟩,g,rfl,rfl⟩:=h;refine⟨o,h1,(u,T,O),?_,rfl,rfl⟩;have I: ∀i,i<O.ci->q i=ch i:=I;unfold Be at g ⊢;split at g
 ·obtain⟨U,g⟩:=aY g
  simp only[U,cT,aj] at g ⊢;obtain⟨y,Z,⟨x,fr,E⟩,Y,J⟩:=g;refine⟨y,Z,(x,fr,E),?_,?_⟩
  all_goals cases x with
   |exit i=>cases J
   |ret=>cases J
   |normal=>
    simp only[zq,aj] at J ⊢;obtain⟨⟨z,p,C⟩,R,V⟩:=J;have e5:C=O:=by cases z<;>(grind [Bd])
    subst e5;have g2:=(hl.code _ _ mk _ ch E z p C R).1
    first
     |exact hr.code _ _ mk _ ch _ _ fr E Y q (fun i hi=>I i (gj hi g2.ci))
     |exact⟨(z,p,C),hr.code _ _ mk _ ch E z p C R q I,V⟩
 cases g
theorem Ea(f:FuncId)(o:Oper)(mk:aI)(fr:Fr):ff (fun ch s=>eW (Q.at ch) (r ch) f o mk fr s):=by
 have _:=hl;unfold eW;split
 ·split
  exact fun ch s a b s' h p _=>h
  ·rename_i c _ _ _
   cases oO fr.env c
   case' true=>
    unfold sn;exact ff.opt _ fun g _=>fX.then3 (mk:=mk) (k:=fun v _ s=>some (v,fr.loc,s)) (agF hl hr g.1 g.2 mk) (fun v=>ff.const _) fun v=>bF.ret v fr.loc
   unfold pj;exact ff.opt _ fun g _=>fX.then3 (mk:=mk) (k:=fun v _ s=>some (v,fr.loc,s)) (hr.call g.1 g.2 mk) (fun v=>ff.const _) fun v=>bF.ret v fr.loc
 exact agz _ _ _ _ _ _
theorem agE(f:FuncId)(all:Array Oper)(mk:aI)(l:List Oper)(fr:Fr):fX (fun ch s=>mE (Q.at ch) (r ch) f all mk l fr s):=by
 unfold mE;split;exact fX.const _;rename_i o g;cases eP all fr.env o;exact fX.opt _ fun fr' _=>hr.ops f all mk g fr';exact ff.then1 (mk:=mk) (k:=fun v l ch s=>(cN fr o.dst v l).bind fun fr'=>(r ch).ops f all mk g fr' s) (Ea hl hr f o mk fr) (fun v l=>fX.opt _ fun fr' _=>hr.ops f all mk g fr') fun v l=>cH.opt _ fun fr' _=>hl.ops f all mk g fr'
theorem agC(f:FuncId)(all:Array Oper)(bs:List Nat)(mk:aI)(rs:List eZ)(i:Nat)(l:List Oper)(fr:Fr):fX (fun ch s=>mg (Q.at ch) (r ch) f all bs mk rs i l fr s):=by
 unfold mg;split;exact fX.const _;rename_i o q;cases eP all fr.env o;exact fX.opt _ fun fr' _=>hr.draw f all bs.tail mk rs (i+1) q fr';intro ch s v s' h p C;simp only[cT,aj] at h ⊢;obtain⟨⟨u,l,s1⟩,h1,h⟩:=h;replace h:=aY h;obtain⟨g,h⟩:=h;simp only[aj] at h;obtain⟨fr',y,h⟩:=h;have I:=(hl.draw _ _ _ _ _ _ _ _ ch (s.Gt s1) v s' h).1;refine⟨(u,l,s1),Ea (Q:=Q) hl hr f o _ fr ch _ u l s1 h1 p (fun j E=>C j (gj E I.ci)),?_⟩;have z:(pw (bs.headD 0) (bD ((Q.at p).hint f) o.dst fr.env o.op) (s1.gt.blt s.aL||isStore o.op) rs&&s.ci.beq s1.ci)=true:=g;simp only[z,cT,y,bg];exact hr.draw _ _ _ _ _ _ _ _ ch (s.Gt s1) v s' h p C
theorem agB(f:FuncId)(c:Code)(mk:aI)(fr:Fr):ff (fun ch s=>xZ (Q.at ch) (r ch) f c mk fr s):=by
 have q: ∀(x:Ex) (fr:Fr) (b:Code),ff (fun ch s=>pP (r ch) f b mk (x,fr,s))/\bF mk (fun ch s=>pP (r ch) f b mk (x,fr,s)):=by
  intro x fr b;cases x with
  |normal=>exact⟨hr.code f b mk fr,hl.code f b mk fr⟩
  |exit i=>exact⟨ff.const _,bF.ret _ _⟩
  |ret=>exact⟨ff.const _,bF.ret _ _⟩
 cases c<;>simp only[xZ]<;>first
  |exact ff.const _
  |exact ff.then3 (mk:=mk) (hr.code f _ mk fr) (fun x fr=>(q x fr _).1) (fun x fr=>(q x fr _).2)
  |exact hr.code f _ mk fr
  |skip
 rename_i id ops draw;unfold JP;cases draw;exact fX.then3 (mk:=mk) (k:=fun fr _ s=>some (Ex.normal,fr,s)) (hr.ops f ops mk ops.toList fr) (fun _=>ff.const _) fun _=>bF.ret _ _;simp only[cT];cases nN ops 0 ops.toList (Region.before ops).toList;exact ff.const _;exact fX.then3 (mk:=mk) (k:=fun fr _ s=>some (Ex.normal,fr,s)) (hr.draw f ops _ mk [] 0 ops.toList fr) (fun _=>ff.const _) fun _=>bF.ret _ _;rename_i x a b;refine ff.opt _ fun v _=>?_;unfold BQ;split;exact hr.code f _ mk fr;exact hr.code f _ mk fr;exact ff.const _;rename_i id b;intro ch s x fr' s' h y I;simp only[aj] at h ⊢;obtain⟨⟨C,fr1,s1⟩,h1,h⟩:=h;refine⟨(C,fr1,s1),hr.code f b mk fr ch s C fr1 s1 h1 y ?_,h⟩;have:s1=s':=by
  simp only[aH] at h;cases C with
  |normal=>grind [qm]
  |ret=>grind [qm]
  |exit i=>
   grind [qm]
 rw[this];exact I;rename_i g U a b;refine ff.opt _ fun v _=>?_;unfold wZ;split;rename_i h first z _
 show ff (fun ch s=>bif tg Q.P h&&(fr.env.all jB&&(dv a&&dv b)) then _ else none);cases tg Q.P h&&(fr.env.all jB&&(dv a&&dv b));exact ff.const _;simp only[cT];intro ch s x fr' s' h' y I;simp only[aj] at h' ⊢;obtain⟨⟨v,s1⟩,h1,O⟩:=h';refine⟨(v,s1),?_,O⟩;have:s1.ci=s'.ci:=by
  simp only[AQ,aj] at O;obtain⟨o,_,J⟩:=O;cases o with
  |loop V R E T a' Y p=>
   simp only[aH,bu] at J;rw[<-J.2.2];rfl
  |_=>cases J
 exact hr.call h _ mk ch _ v s1 h1 y (by rw[this];exact I);exact ff.const _
omit hl in
theorem agA(f:FuncId)(args:List aa)(mk:aI):fX (fun ch s=>jx (Q.at ch) (r ch) f args mk s):=by
 unfold jx;show fX (fun ch s=>match Q.spec f with
  |some sp=>(sp args).bind fun v=>some (v,s)
  |none=>match Q.specH f with
   |some sp=>(fC (s.get mk) (sp args)).bind fun v=>some (v,s)
   |none=>match Q.specW f with
   |some sp=>(sp args).bind (wY mk s)
   |none=>(Q.P.funcs[f]?).bind fun fn=>fn.body.bind fun c=>
    ((r ch).code f c mk ⟨fT 0 args,bif bn args.length fn.ntmps then fn.ntmps else args.length,[]⟩ s).bind (qs (Q.at ch) fn mk))
 cases Q.spec f with
 |some sp=>exact fX.const _
 |none=>
  cases Q.specH f with
  |some sp=>exact fX.const _
  |none=>
  cases Q.specW f with
  |some sp=>simp_all [fX.const]
  |none=>
  refine fX.opt _ fun fn _=>fX.opt _ fun c _=>?_;intro ch s v s' h g z;simp only[aj] at h ⊢;obtain⟨⟨p,fr1,s1⟩,h1,h⟩:=h;have q: ∀l,iu (Q.at g) mk fr1 s1 l=iu (Q.at ch) mk fr1 s1 l:=by
   intro l
   induction l with
   |nil=>rfl
   |cons x l y=>simp only[iu,y];cases x<;>rfl
  have:s1=s'/\qs (Q.at g) fn mk (p,fr1,s1)=some (v,s'):=by
   cases p with
   |exit i=>cases h
   |normal=>
    grind [qs,aj]
   |ret=>
    grind [qs,aj]
  exact⟨(p,fr1,s1),hr.code f c mk _ ch s p fr1 s1 h1 g (by rw[this.1];exact z),this.2⟩
end
def tE(Q:aD): ∀n:Nat,Se (fun ch=>b9 (Q.at ch) n)
 |0=>⟨fun _ _ _ _ _=>fX.const _,fun _ _ _ _ _ _ _ _=>fX.const _,fun _ _ _ _=>ff.const _,fun _ _ _=>fX.const _⟩
 |n+1=>⟨fun f all mk l fr=>agE (lN Q n) (tE Q n) f all mk l fr,fun f all bs mk rs i l fr=>agC (lN Q n) (tE Q n) f all bs mk rs i l fr,
  fun f c mk fr=>agB (lN Q n) (tE Q n) f c mk fr,fun f args mk=>agA (tE Q n) f args mk⟩
variable{fr':Fr}{B':Nat->Nat}{dst:Option Tmp}{x:Value}{w':World}{h:aC aJ}
section
variable{P:Program}{mk:aI}{ch:Nat->Nat}{kmax:Nat->Nat}{hint:Tmp->Nat}{G:Gh}{s s':St}{B:Nat->Nat}{fr:Fr}{a:Act}{w:World}{o:Oper}{v:aa}{loc':Loc}
theorem afd(wr:WR G s.heap w)(fx:cz G s.heap B fr a.tmps w)(g:lF P mk ch kmax hint o.dst o.op fr s=some (v,loc',s'))(C: ∀n,s.aL<=n->n<s'.aL->G.at_ n=none)(I: ∀x b E,o.op= .next x b->evc fr.env x=some E->2<=ka mk E s->ch s.ci % ka mk E s=(w.tape w.drawn (.mapNext (ka mk E s))) % ka mk E s):
 fw P G s.heap w B fr.loc s.aL s'.aL a o v loc' s'.heap:=by
 cases hop:o.op<;>rw[hop] at g<;>simp only[lF] at g
 case move x=>replace g:=kR g;grind [atd]
 case assign x=>replace g:=kR g;grind [asT]
 case pick c p q=>replace g:=kR g;grind [atg]
 case alloc e=>exact asS hop wr fx g C
 case box e x=>exact asV hop wr fx g C
 case build t parts=>replace g:=kR g;grind [asW]
 case buildSlice t len parts=>exact asX hop wr fx g C
 case load t x=>exact as7 hop wr fx g
 case store t x z=>exact atj hop wr fx g
 case nilCheck x=>
  simp only[qM,aj] at g;obtain⟨u,J,g⟩:=g;replace g:=kR g
  grind [atf]
 case binOp op t x y yt=>exact asU hop wr fx g
 case unOp op t x=>exact atk hop wr fx g
 case convert src dst x=>exact asZ hop wr fx g
 case makeFunc fn first captured=>replace g:=kR g;grind [as9]
 case makeMap t r=>exact ata hop wr fx g C
 case makeSlice t l c=>exact atb hop wr fx g C
 case slice t x lo hi mx=>exact ati hop wr fx g
 case fieldAddr t x f=>exact as4 hop wr fx g
 case field t x f=>exact as3 hop wr fx g
 case indexAddr t x i=>exact as6 hop wr fx g
 case index t x i=>exact as5 hop wr fx g
 case lookup t x i ok=>exact as8 hop wr fx g
 case mapUpdate t m k x=>exact aaL (.inl hop) wr fx g
 case insert t m k x=>exact aaL (.inr hop) wr fx g
 case mapEntry t m k=>exact atc hop wr fx g
 case entryStore t m st x=>exact as1 hop wr fx g
 case range t x=>exact ath hop wr fx g C
 case next it isString=>
  grind [aj,ate]
 case entry it=>exact as0 hop wr fx g
 case extract x i=>exact as2 hop wr fx g
 all_goals grind [asY]
theorem getD_set(tmps:Array Value)(d t:Nat)(x:Value)(g:d<tmps.size):(tmps.setIfInBounds d x).getD t undef=if t=d then x else tmps.getD t undef:=by
 simp only[tX,Sb]
 grind
theorem cz.put{G G':Gh}{h':aC aJ}{B:Nat->Nat}{fr:Fr}{a:Act}{w:World}{v:aa}{loc':Loc}(fx:cz G h B fr a.tmps w)(g:cN fr dst v loc'=some fr')(hl:qe G' h' B' loc' w')(z:LV G' loc' B' v x)(p: ∀u y,LV G fr.loc B u y->LV G' loc' B' u y):cz G' h' B' fr' (a.put dst x).tmps w':=by
 unfold cN at g;cases dst with
 |none=>
  injection g with g;subst g
  exact⟨fx.size,fun t=>p _ _ (fx.env t),hl⟩
 |some d=>
  replace g:=aY g;obtain⟨q,g⟩:=g;injection g with g;subst g
  have q:=qo q;refine⟨by simp[Act.put,fx.size],fun t=>?_,hl⟩;show LV G' loc' B' (ac (fr.env.set d (some v)) t) ((a.tmps.setIfInBounds d x).getD t undef);rw[getD_set _ _ _ _ (by rw[fx.size];exact q)];unfold ac;rw[aC.get_set];by_cases e:t=d;rw[iP e,iP e];exact z;rw[iN e,iN e];exact p _ _ (fx.env t)
theorem cz.wanted{G:Gh}{B:Nat->Nat}{fr:Fr}{a:Act}{w:World}(fx:cz G h B fr a.tmps w)(ops:Array Oper)(o:Oper):Region.wanted o (yielded ops a.tmps)=eP ops fr.env o:=by
 unfold Region.wanted eP;cases hg:o.guard with
 |none=>rfl
 |some g=>
  obtain⟨j,q⟩:=g;simp only[yielded];cases hd:(ops[j]?).bind (·.dst) with
  |none=>simp
  |some d=>
   simp only[bg];have hl:=fx.env d;have p: ∀b,a.tmps[d]? =some (.bool b)↔a.tmps.getD d undef= .bool b:=by
    intro b;simp only[tX];cases hx:a.tmps[d]? with
    |none=>simp[undef]
    |some x=>simp
   cases hn:ac fr.env d with
   |bool b=>
    rw[hn] at hl;have hl:VR G (.bool b) (a.tmps.getD d undef):=hl;have:a.tmps[d]? =some (.bool b):=by
     rw[p];generalize a.tmps.getD d undef=x at hl;cases hl;rfl
    simp[this]
   |Ge t g y=>
    rw[hn] at hl;obtain⟨_,⟨C,z⟩,_⟩:=hl
    grind
   |_=>
    rw[hn] at hl;have hl:VR G _ (a.tmps.getD d undef):=hl;cases hx:a.tmps[d]? with
    |none=>simp
    |some x=>
     have e:a.tmps.getD d undef=x:=by simp[tX,hx]
     rw[e] at hl;cases hl<;>simp
end
variable{j:Nat}{D:Nat->Prop}
section
variable{α:Type}
open Classical in
noncomputable def mix(X:Nat->α)(D:Nat->Prop):Nat->α
 |0=>X 0
 |k+1=>if D k/\X (k+1)≠X k then X (k+1) else mix X D k
theorem Pw{X:Nat->α}{D:Nat->Prop}{j:Nat}: ∀ {n:Nat},j<=n->(∀k,j<=k->k<n->D k->X (k+1)=X k)->mix X D n=mix X D j
 |0,h,_=>by grind
 |n+1,h,hk=>by
  by_cases e:j=n+1;rw[e];rw[mix,iN (fun x=>x.2 (hk n (by omega) (by omega) x.1))];exact Pw (by omega) fun k h1 g=>hk k h1 (by omega)
theorem Py{X:Nat->α}{D:Nat->Prop}: ∀ {j:Nat},(∀i,i<j->X (i+1)≠X i->D i)->mix X D j=X j
 |0,_=>rfl
 |j+1,h=>by
  rw[mix];split;rfl;rename_i g;rw[Py fun i hi=>h i (by omega)]
  grind
def ZG{X:Nat->α}(g:j<=n)(p: ∀i,i<j->X (i+1)≠X i->D i)(q: ∀k,j<=k->k<n->D k->X (k+1)=X k):mix X D n=X j:=
 (Pw g q).trans (Py p)
theorem Fx{X:Nat->α}{D g:Nat->Prop}: ∀ {n:Nat},(∀k,k<n->X (k+1)≠X k->(D k↔g k))->mix X D n=mix X g n
 |0,_=>rfl
 |n+1,h=>by
  rw[mix,mix,Fx fun k p=>h k (by omega)]
  grind
def CC{X:Nat->α}(h:X (j+1)=X j):mix X (fun k=>D k\/k=j) n=mix X D n:=
 Fx fun p _ g=>⟨fun x=>x.elim id fun e=>absurd (e▸h) g,.inl⟩
theorem arf{X:Nat->α}(z:j<n)(C: ∀i,i<j->X (i+1)≠X i->D i)(q: ∀k,j<k->k<n->D k->X (k+1)=X k):
 mix X (fun k=>D k\/k=j) n=X (j+1):=
 ZG (j:=j+1) (by omega) (fun i hi g=>by
  grind) fun k h1 y p=>q k (by omega) y (p.resolve_right (by omega))
theorem Px{X:Nat->α}(h: ∀k,k<n->D k):mix X D n=X n:=Py fun i hi _=>h i hi
theorem Pz{X:Nat->α}(h: ∀k,k<n-> ¬D k):mix X D n=X 0:=
 (Pw (jW n) fun k _ g p=>absurd p (h k g))
end
inductive o6 (ops:Array Oper):Nat->Nat->Prop
 |one {j:Nat} {o:Oper} {e:Edge}:ops[j]? =some o->e∈o.after->Region.binds .any e=true->o6 ops e.on j
 |more {i j:Nat} {o:Oper} {e:Edge}:ops[j]? =some o->e∈o.after->Region.binds .any e=true->o6 ops i e.on->o6 ops i j
variable{ops:Array Oper}{i:Nat}
theorem o6.closed(z: ∀j o,D j->ops[j]? =some o-> ∀e∈o.after,Region.binds .any e=true->D e.on)(h:o6 ops i j):D j->D i:=by
 induction h with
 |one g p q=>exact fun y=>z _ _ y g _ p q
 |more g p q _ C=>grind
def o6.ready(C: ∀j o,D j->ops[j]? =some o-> ∀e∈o.after,Region.binds .any e=true->D e.on)(y: ∀o,ops[j]? =some o-> ∀e∈o.after,Region.binds .any e=true->D e.on)(h:o6 ops i j):D i:=by
 cases h with
 |one g p q=>exact y _ g _ p q
 |more g p q z=>exact z.closed C (y _ g _ p q)
variable{k:Nat}
theorem awL{s m:Nat}(h:(s ||| 2 ^ k ||| m).testBit i=true):s.testBit i=true\/i=k\/m.testBit i=true:=by
 grind
variable{b:Nat}
theorem afB(T:(Region.before ops)[j]? =some b)(hi:b.testBit i=true):o6 ops i j:=by
 have y: ∀(g:Array Nat) (j:Nat) (o:Oper),ops[j]? =some o->(∀k b,g[k]? =some b-> ∀i,b.testBit i=true->o6 ops i k)->
  ∀(l:List Edge) (s:Nat),(∀e∈l,e∈o.after)->(∀i,s.testBit i=true->o6 ops i j)->
  ∀i,(l.foldl (fun s e=>if Region.binds .any e then s ||| 2 ^ e.on ||| g.getD e.on 0 else s) s).testBit i=true->o6 ops i j:=by
  intro g j o R p l
  induction l with
  |nil=>intro s _ C i hi;exact C i hi
  |cons e l I=>
   intro s hl C i hi;refine I _ (fun e O=>hl e (by simp[O])) ?_ i hi;intro i hi;simp only at hi;split at hi;rename_i z;rcases awL hi with h|h|h
   exact C i h;subst h;exact .one R (hl e (by simp)) z;refine .more R (hl e (by simp)) z ?_;cases ha:g[e.on]? with
   |none=>grind
   |some b=>simp_all
   exact C i hi
 have E: ∀(l:List Oper) (g:Array Nat),(∀k o,l[k]? =some o->ops[g.size+k]? =some o)->(∀k b,g[k]? =some b-> ∀i,b.testBit i=true->o6 ops i k)->
  ∀k b,(l.foldl (fun g o=>g.push (o.after.foldl (fun s e=>if Region.binds .any e then s ||| 2 ^ e.on ||| g.getD e.on 0 else s) 0)) g)[k]? =some b->
   ∀i,b.testBit i=true->o6 ops i k:=by
  intro l
  induction l with
  |nil=>intro g _ p;exact p
  |cons o l I=>
   intro g hl p;refine I _ (fun k U q=>?_) ?_
   have:=hl (k+1) U (by simpa using q)
   grind
   intro k b q i hi;rw[Array.getElem?_push] at q;split at q;rename_i J;subst J;injection q with q
   subst q;rw[<-Array.foldl_toList] at hi;exact y g g.size o (by simpa using hl 0 o (by simp)) p o.after.toList 0 (fun e O=>by simpa using O) (fun i hi=>by simp at hi) i hi;exact p k b q i hi
 unfold Region.before at T;rw[<-Array.foldl_toList] at T
 grind
variable{c:Call}{f:FuncId}{parts:List (Nat×Operand)}{d:Nat}{ch kmax:Nat->Nat}{o:Oper}{s:St}{hint:Tmp->Nat}{t:TypeId}{Q:aD}
section
variable{e e2:aw}
theorem Mz{x:Operand}(h:ev e x=ev e2 x):evc e x=evc e2 x:=by simp[evc,h]
theorem BV: ∀ {l:List Operand},(∀x∈l,ev e x=ev e2 x)->evcs e l=evcs e2 l
 | [],_=>rfl
 |x::l,h=>by
  simp only[evcs];rw[Mz (h x (by simp)),BV fun y g=>h y (by simp[g])]
def MV(place:Nat->Option (Nat×Nat)): ∀ {l:List (Nat×Operand)} (cs:List aa),(∀p∈l,ev e p.2=ev e2 p.2)->bc place e cs l=bc place e2 cs l
 | [],_,_=>rfl
 |(i,x)::l,cs,h=>by
  simp only[bc];rw[Mz (h (i,x) (by simp))];have g:=fun cs=>MV place cs fun p q=>h p (List.mem_cons_of_mem _ q);simp only[g]
def PG{x:Option Operand}(h: ∀y,x=some y->ev e y=ev e2 y):eV e x d=eV e2 x d:=by
 cases x with
 |none=>rfl
 |some y=>simp[eV,h y rfl]
theorem afX(h: ∀p∈parts,ev e p.2=ev e2 p.2):sS P t parts e=sS P t parts e2:=by
 simp only[sS,MV _ _ h]
theorem afY{g:Bool}(h: ∀p∈parts,ev e p.2=ev e2 p.2):
 bj P t n parts g e s=bj P t n parts g e2 s:=by
 simp only[bj,MV _ _ h]
theorem avF{x:aa}{lo hi g:Option Operand}(h1: ∀y,lo=some y->ev e y=ev e2 y)(q: ∀y,hi=some y->ev e y=ev e2 y)(p: ∀y,g=some y->ev e y=ev e2 y):iZ P mk t x lo hi g e s=iZ P mk t x lo hi g e2 s:=by
 simp only[iZ,PG h1,PG q,PG p]
theorem Tz{op:Op}{n2:Nat}{loc:Loc}(h: ∀x∈op.operands,ev e x=ev e2 x):
 lF P mk ch kmax hint dst op ⟨e,n,loc⟩ s=lF P mk ch kmax hint dst op ⟨e2,n2,loc⟩ s:=by
 cases op<;>simp only[Op.operands] at h<;>simp only[lF,Jp,Jr,CU,CV,Jq,FI,Ju,Jv,CT,Jt,Jw,Js,u9,qM,mC]
 case build t ps=>grind [afX]
 case buildSlice t k ps=>grind [afY]
 case makeFunc fn a b=>simp only[pD,BV (l:=a.toList) fun x g=>h x (by simp_all),BV (l:=b.toList) fun x g=>h x (by simp_all)]
 case makeMap t r=>
  cases r with
  |none=>simp[mz]
  |some x=>simp[mz,h x (by simp)]
 case slice t x lo hi mx=>
  grind [Mz,avF]
 case call c=>
  grind [BV,Call.operands]
 all_goals grind [AM,evc]
theorem Uu(h: ∀x∈c.operands,ev e x=ev e2 x):callee e c=callee e2 c:=by
 unfold callee;cases hc:c.callee with
 |builtin b=>rfl
 |invoke a b=>rfl
 |value f=>grind [Call.operands,BV]
theorem WU(h: ∀x∈c.operands,ev e x=ev e2 x):oO e c=oO e2 c:=by
 grind [oO,Call.operands]
theorem adM(h: ∀x∈c.operands,ev e x=ev e2 x):yieldee e c=yieldee e2 c:=by
 unfold yieldee;cases hc:c.callee with
 |builtin b=>rfl
 |invoke a b=>rfl
 |value f=>grind [Call.operands,BV]
def atu{r:ow}{n2:Nat}{loc:Loc}(h: ∀x∈o.op.operands,ev e x=ev e2 x):
 eW Q r f o mk ⟨e,n,loc⟩ s=eW Q r f o mk ⟨e2,n2,loc⟩ s:=by
 unfold eW;split;rename_i c p;rw[p] at h;cases hb:c.callee with
 |builtin b=>
  have:=Tz (P:=Q.P) (mk:=mk) (ch:=Q.ch) (kmax:=Q.kmax) (hint:=Q.hint f) (dst:=o.dst) (op:=.call c) (n:=n) (n2:=n2) (loc:=loc) (s:=s) h;simpa only[lF] using this
 |value g=>simp only[pj,Uu h,sn,adM h,WU h]
 |invoke a b=>simp only[pj,Uu h,sn,adM h,WU h]
 exact Tz h
end
theorem FA(a b:Nat):bh a b=decide (a<b):=by
 show bn (a+1) b=_;rw[tG];rfl
def lB(l l2:Loc)(t:Nat):Prop:=l.gen t=l2.gen t/\ ∀g,l.get t g=l2.get t g
def lB.refl(l:Loc)(t:Nat):lB l l t:=⟨rfl,fun _=>rfl⟩
variable{l l2:Loc}
def lB.symm{t:Nat}(h:lB l l2 t):lB l2 l t:=⟨h.1.symm,fun g=>(h.2 g).symm⟩
theorem lB.set_same(t g:Nat)(cs:List aa):lB (l.set t g cs) (l2.set t g cs) t:=by
 constructor
 all_goals grind [Loc.gen_set,Loc.get_set]
variable{u:Nat}
theorem lB.set_other{t:Nat}(h:u≠t)(g:Nat)(cs:List aa):lB (l.set t g cs) l u:=by
 constructor
 all_goals grind [Loc.gen_set,Loc.get_set]
def rC(c:Nat)(F:cU)(m:aI):aI:=
 match F with
 | .all=>m
 | .obj n=>(0,n)::(n+1,c)::m
 |_=>(0,c)::m
variable{c:Nat}{m:aI}{F:cU}
theorem M3(h:dy (rC c F m) k=false):dy m k=false/\(F= .all\/F= .obj k\/c<=k):=by
 unfold rC at h
 grind [dy,tG,FA]
theorem M4(h:dy m k=true):dy (rC c F m) k=true:=by
 cases e:dy (rC c F m) k with
 |true=>rfl
 |false=>rw[(M3 e).1] at h;cases h
theorem M5{o:aJ}(h:s.get m n=some o):s.get (rC c (.obj n) m) n=some o:=by
 grind [dy,rC,tG,FA,St.get]
def bM(c:Nat)(F:cU)(q:Bool)(x:aI->Loc->Option (aa×Loc×St)):Prop:=
 ∀m loc v loc' s',x m loc=some (v,loc',s')-> ∀p,(∀t,F= .loc t->lB loc p t)->
  ∃g,x (rC c F m) p=some (v,g,s')/\(∀t,F= .loc t->lB loc' g t)/\(∀t,F≠ .loc t->lB loc' loc t/\lB g p t)/\(q=false->loc'=loc)
variable{st:Bool}
theorem bM.plain{g:aI->Option (aa×St)}(z: ∀t,F≠ .loc t)(y: ∀m r,g m=some r->g (rC c F m)=some r):bM c F st (fun m l=>f8 (g m) l):=by
 intro m loc v loc' s' h p _;simp only[f8,aj] at h;obtain⟨r,h1,h⟩:=h;simp only[aH,bu] at h;obtain⟨rfl,rfl,rfl⟩:=h;exact⟨p,by simp[f8,y m r h1],fun t q=>absurd q (z t),fun t _=>⟨.refl _ _,.refl _ _⟩,fun _=>rfl⟩
def bM.value{g:aI->Option aa}(z: ∀t,F≠ .loc t)(y: ∀m r,g m=some r->g (rC c F m)=some r):bM c F st (fun m l=>eX (g m) l s):=by
 intro m loc v loc' s' h p _;obtain⟨h1,rfl,rfl⟩:=kR h;exact⟨p,by simp[eX,y m v h1],fun t q=>absurd q (z t),fun t _=>⟨.refl _ _,.refl _ _⟩,fun _=>rfl⟩
def bM.none:bM c F st (fun _ _=>.none):=by intro m loc v loc' s' h;cases h
def bM.bind(y:Option α){k:α->aI->Loc->Option (aa×Loc×St)}(g: ∀a,y=some a->bM c F st (k a)):bM c F st (fun m l=>y.bind fun a=>k a m l):=by
 cases y with
 |none=>intro m loc v loc' s' h;cases h
 |some a=>exact g a rfl
theorem bM.gen{g:Loc->Option aa}(z: ∀l l2 r,(∀t,F= .loc t->lB l l2 t)->g l=some r->g l2=some r):bM c F st (fun _ l=>eX (g l) l s):=by
 intro m loc v loc' s' h p q;obtain⟨h1,rfl,rfl⟩:=kR h;exact⟨p,by simp[eX,z loc' p v q h1],fun t y=>q t y,fun t _=>⟨.refl _ _,.refl _ _⟩,fun _=>rfl⟩
def bM.box{cs:List aa}(z:st=true):bM c (Er hint dst) st (fun _ l=>rt (oN hint dst) dst cs l s):=by
 intro m loc v loc' s' h g q;unfold rt at h ⊢;cases dst with
 |none=>
  simp only[oN] at h ⊢;simp only[show aK 0 1=false from rfl,cF,aH,bu] at h ⊢;obtain⟨rfl,rfl,rfl⟩:=h;exact⟨g,by simp,fun t y=>by simp[Er] at y,fun t _=>⟨.refl _ _,.refl _ _⟩,fun _=>rfl⟩
 |some t=>
  simp only[oN,Er] at h q ⊢;cases e:aK (hint t) 1 with
  |false=>
   simp only[e,cF,aH,bu] at h q ⊢;obtain⟨rfl,rfl,rfl⟩:=h;exact⟨g,⟨rfl,rfl,rfl⟩,fun t y=>(by cases y),fun t _=>⟨.refl _ _,.refl _ _⟩,fun _=>rfl⟩
  |true=>
   simp only[e,cT,bg,aH,bu] at h q ⊢;obtain⟨rfl,rfl,rfl⟩:=h;have q:=q t rfl;refine⟨g.set t (loc.gen t+1) cs,by simp[q.1],?_,?_,by simp[z]⟩;intro u p;injection p with p;subst p;exact .set_same _ _ _
   intro u p;have p:u≠t:=fun e=>p (by rw[e]);exact⟨.set_other p _ _,.set_other p _ _⟩
section
variable{P:Program}{ch:Nat->Nat}{kmax:Nat->Nat}{hint:Tmp->Nat}{dst:Option Tmp}{e:aw}{n c:Nat}{s:St}
def aje(t:TypeId)(a:Operand):bM c (wu e a) false (fun m l=>CU P m t a ⟨e,n,l⟩ s):=by
 unfold CU wu;refine bM.bind (ev e a) fun u p=>?_;simp only[p];cases u<;>try (exact bM.none)
 case ptr k off=>
  simp_all [bM.value,lM,aj,M5]
 case Ge k g off=>
  refine bM.gen (g:=fun l=>lM P [] t (.Ge k g off) l s) fun l l2 r hl hr=>?_;simp only[lM] at hr ⊢;rw[<-(hl k rfl).2];exact hr
 simp_all [bM.value,lM]
def ajh(t:TypeId)(a x:Operand):bM c (wu e a) true (fun m l=>CV P m t a x ⟨e,n,l⟩ s):=by
 unfold CV wu;refine bM.bind (ev e a) fun u q=>bM.bind (evc e x) fun v _=>?_;simp only[q,tR];cases hs:df P t with
 |none=>exact bM.none
 |some k=>
  simp only[bg];cases hc:aK v.cells.length k&&bh 0 k with
  |false=>exact bM.none
  |true=>
   simp only[cT];cases u<;>try (exact bM.none)
   case ptr j off=>
    intro m loc I loc' s' h p _;simp only[aj] at h ⊢;obtain⟨r,⟨ob,E,h1⟩,C⟩:=h;cases ob<;>simp only[aj] at h1<;>try (cases h1;done)
    rename_i cs;obtain⟨z,y,h1⟩:=h1;injection h1 with h1;subst h1
    simp only[aH,bu] at C;obtain⟨rfl,rfl,rfl⟩:=C;exact⟨p,⟨(p,_),⟨_,M5 E,by simp only[y,bg];rfl⟩,rfl⟩,fun t O=>(by cases O),fun t _=>⟨.refl _ _,.refl _ _⟩,fun _=>rfl⟩
   case Ge j g off=>
    intro m loc I loc' s' h p hl;simp only[aj] at h ⊢;obtain⟨r,⟨cs,y,z,J,h1⟩,C⟩:=h;injection h1 with h1;subst h1
    simp only[aH,bu] at C;obtain⟨rfl,rfl,rfl⟩:=C;refine⟨p.set j g z,⟨(_,s),⟨cs,by rw[<-(hl j rfl).2];exact y,z,J,rfl⟩,rfl⟩,?_,?_,by simp⟩;intro u q;injection q with q;subst q;exact .set_same _ _ _
    intro u q;have q:u≠j:=fun e=>q (by rw[e]);exact⟨.set_other q _ _,.set_other q _ _⟩
def ajf(x:Operand):bM c (qy e x) false (fun _ l=>qM x (wP l) ⟨e,n,l⟩ s):=by
 unfold qM qy;refine bM.bind (ev e x) fun u p=>?_;simp only[p];refine bM.gen (g:=fun l=>wP l u) fun l l2 r hl hr=>?_;cases u
 case Ge=>
  simp only[wP] at hr ⊢;rw[<-(hl _ rfl).1];exact hr
 case func fn _ _=>cases fn<;>exact hr
 all_goals exact hr
def ajc(t:TypeId)(x:Operand)(f:Nat):bM c (qy e x) false (fun _ l=>qM x (fun x=>sY P l t x f) ⟨e,n,l⟩ s):=by
 unfold qM qy;refine bM.bind (ev e x) fun u p=>?_;simp only[p];refine bM.gen (g:=fun l=>sY P l t u f) fun l l2 r hl hr=>?_;cases u<;>try exact hr
 simp only[sY] at hr ⊢;rw[<-(hl _ rfl).1];exact hr
def ajd(t:TypeId)(x i:Operand):bM c (qy e x) false (fun _ l=>CT P t x i ⟨e,n,l⟩ s):=by
 unfold CT qy;refine bM.bind (ev e x) fun u p=>?_;simp only[p];refine bM.bind (ev e i) fun j _=>?_;refine bM.gen (g:=fun l=>ii P l t u j) fun l l2 r hl hr=>?_;cases u<;>try exact hr
 simp only[ii] at hr ⊢;rw[<-(hl _ rfl).1];exact hr
theorem avG{q:aI}{x:aa}{lo hi p:Option Operand}{r:aa}(C: ∀k g,x= .ptr k g-> ∀o,s.get m k=some o->s.get q k=some o)(h:iZ P m t x lo hi p e s=some r):
 iZ P q t x lo hi p e s=some r:=by
 simp only[iZ,aj] at h ⊢;obtain⟨d,z,h⟩:=h;refine⟨d,z,?_⟩;split at h;exact h;exact h;simp only[aj] at h ⊢;obtain⟨k,y,h⟩:=h;refine⟨k,y,?_⟩;split at h;simp only[aj] at h ⊢
 grind
 cases h;cases h
theorem ajg(t:TypeId)(x:Operand)(lo hi q:Option Operand):bM c (bD hint dst e (.slice t x lo hi q)) false (fun m l=>mC x (fun x=>iZ P m t x lo hi q e s) ⟨e,n,l⟩ s):=by
 unfold mC;refine bM.bind (evc e x) fun u p=>?_;have p:ev e x=some u:=by
  simp only[evc,aj] at p;obtain⟨y,z,p⟩:=p;rw[z,(aY p).2]
 simp only[bD,p];refine bM.value (g:=fun m=>iZ P m t u lo hi q e s) ?_ fun m r hr=>?_
 all_goals grind [avG,M5]
def bM.state{g:aI->Option St}(z: ∀t,F≠ .loc t)(y: ∀m r,g m=some r->g (rC c F m)=some r):bM c F st (fun m l=>nz (g m) l):=by
 intro m loc v loc' s' h p _;simp only[nz,aj] at h;obtain⟨r,h1,h⟩:=h;simp only[aH,bu] at h;obtain⟨rfl,rfl,rfl⟩:=h;exact⟨p,by simp[nz,y m r h1],fun t q=>absurd q (z t),fun t _=>⟨.refl _ _,.refl _ _⟩,fun _=>rfl⟩
def qg{g:aI->Option α}(m:aI)(r:α)(h:g m=some r):g (rC c .all m)=some r:=h
theorem VK(E:Call):bM c (bD hint dst e (.call E)) false (fun m l=>u9 P m hint dst E ⟨e,n,l⟩ s):=by
 obtain⟨callee,args,O⟩:=E;unfold u9;cases callee with
 |value f=>exact bM.none
 |invoke a b=>exact bM.none
 |builtin b=>
  refine bM.bind (evcs e args.toList) fun vs p=>?_;cases b
  case min=>exact bM.plain (g:=fun m=>je P m .min _ _ vs s) (by simp[bD]) fun m r hr=>by cases vs<;>exact hr
  case max=>exact bM.plain (g:=fun m=>je P m .max _ _ vs s) (by simp[bD]) fun m r hr=>by cases vs<;>exact hr
  case len=>
   refine bM.plain (g:=fun m=>je P m .len _ _ vs s) ?_ fun m r hr=>?_
   grind [bD]
   simp only[je] at hr ⊢;split at hr<;>try grind
   simp only[aj] at hr ⊢;obtain⟨v,z,hr⟩:=hr;refine⟨v,?_,hr⟩;obtain⟨args⟩:=args;simp only at p;cases args with
   |nil=>simp[evcs] at p
   |cons R l=>
    simp only[evcs,aj] at p;obtain⟨u,q,T,_,p⟩:=p;injection p with p
    injection p with C J
    subst C;have q:ev e R=some u:=by
     simp only[evc,aj] at q;obtain⟨y,I,q⟩:=q;rw[I,(aY q).2]
    simp only[iG,bD,List.getElem?_toArray,List.getElem?_cons_zero,q] at z ⊢;generalize P.underlying _=ud at z ⊢;cases ud with
    |none=>exact z
    |some d=>
     simp only[bg] at z ⊢;cases u<;>cases d<;>exact z
  all_goals exact bM.plain (g:=fun m=>je P m _ _ _ vs s) (by simp[bD]) qg
def ajb(op:Op):bM c (bD hint dst e op) (isStore op) (fun m l=>lF P m ch kmax hint dst op ⟨e,n,l⟩ s):=by
 cases op<;>simp only[lF]
 case load t a=>exact aje t a
 case store t a x=>exact ajh t a x
 case nilCheck x=>exact ajf x
 case fieldAddr t x f=>exact ajc t x f
 case indexAddr t x i=>exact ajd t x i
 case slice t x lo hi mx=>exact ajg t x lo hi mx
 case call cl=>exact VK cl
 case alloc t=>exact bM.bind (dX P t) fun z _=>bM.box (cs:=z.cells) rfl
 case box t x=>exact bM.bind (evc e x) fun z _=>bM.box (cs:=z.cells) rfl
 case move x=>simp_all [bM.value,bD]
 case assign x=>simp_all [bM.value,bD]
 case pick a b d=>simp_all [bM.value,bD]
 case build t ps=>simp_all [bM.value,bD]
 case buildSlice t k ps=>simp_all [bM.plain,bD]
 case binOp o t x y yt=>exact bM.bind (evc e x) fun u _=>bM.bind (evc e y) fun v _=>bM.value (g:=fun _=>dI P o t u v) (by simp[bD]) fun _ _ h=>h
 case unOp o t x=>exact bM.bind (evc e x) fun u _=>bM.value (g:=fun _=>A9 o u) (by simp[bD]) fun _ _ h=>h
 case convert a b x=>exact bM.bind (evc e x) fun u _=>bM.value (g:=fun _=>uB P a b u) (by simp[bD]) fun _ _ h=>h
 case makeFunc f a b=>simp_all [bM.value,bD]
 case makeMap t r=>simp_all [bM.plain,bD]
 case makeSlice t a b=>exact bM.bind (ev e a) fun u _=>bM.bind (ev e b) fun v _=>bM.plain (g:=fun _=>n9 P t u v _ s) (by simp[bD]) fun _ _ h=>h
 case field t x f=>exact bM.bind (evc e x) fun u _=>bM.value (g:=fun _=>wt P t u f) (by simp[bD]) fun _ _ h=>h
 case index t x i=>exact bM.bind (evc e x) fun u _=>bM.bind (ev e i) fun v _=>bM.value (g:=fun _=>Ak P t u v) (by simp[bD]) fun _ _ h=>h
 case extract x i=>exact bM.bind (ev e x) fun u _=>bM.value (g:=fun _=>ew i u) (by simp[bD]) fun _ _ h=>h
 case lookup t x i ok=>exact bM.bind (evc e x) fun u _=>bM.bind (evc e i) fun v _=>bM.value (g:=fun m=>n8 P m t u v ok s) (by simp[bD]) qg
 case mapEntry t x i=>exact bM.bind (evc e x) fun u _=>bM.bind (evc e i) fun v _=>bM.plain (g:=fun m=>rM P m t u v s) (by simp[bD]) qg
 case range t x=>exact bM.bind (evc e x) fun u _=>bM.plain (g:=fun m=>tM P m t u s) (by simp[bD]) qg
 case next x b=>exact bM.bind (evc e x) fun u _=>bM.plain (g:=fun m=>oS m ch kmax u b s) (by simp[bD]) qg
 case entry x=>exact bM.bind (evc e x) fun u _=>bM.value (g:=fun m=>wg m u s) (by simp[bD]) qg
 case mapUpdate t a b d=>exact bM.bind (evc e a) fun u _=>bM.bind (evc e b) fun v _=>bM.bind (evc e d) fun x _=>bM.state (g:=fun m=>qV P m t u v x s) (by simp[bD]) qg
 case insert t a b d=>exact bM.bind (evc e a) fun u _=>bM.bind (evc e b) fun v _=>bM.bind (evc e d) fun x _=>bM.state (g:=fun m=>qV P m t u v x s) (by simp[bD]) qg
 case entryStore t a b d=>exact bM.bind (evc e a) fun u _=>bM.bind (evc e b) fun v _=>bM.bind (evc e d) fun x _=>bM.state (g:=fun m=>uF m u v x s) (by simp[bD]) qg
 all_goals exact bM.none
def M6{r:ow}:bM c (bD (Q.hint f) o.dst e o.op) (isStore o.op) (fun m l=>eW Q r f o m ⟨e,n,l⟩ s):=by
 unfold eW;cases ho:o.op<;>simp only<;>try exact ajb _
 rename_i p;cases hc:p.callee with
 |builtin b=>exact VK p
 |value g=>
  obtain⟨callee,args,q⟩:=p;simp only at hc;subst hc;simp only;generalize hy:oO e _=y;cases y with
  |true=>
   simp only[cT];refine bM.bind (Ag.yieldee e _) fun g _=>?_;exact bM.plain (g:=fun m=>mO r g.1 g.2 m s) (by simp[bD]) qg
  |false=>
   simp only[cF];refine bM.bind (Ag.callee e _) fun g _=>?_;exact bM.plain (g:=fun m=>r.call g.1 g.2 m s) (by simp[bD]) qg
 |invoke a b=>
  obtain⟨callee,args,q⟩:=p;simp only at hc;subst hc;simp only;generalize hy:oO e _=y;cases y with
  |true=>
   simp only[cT];refine bM.bind (Ag.yieldee e _) fun g _=>?_;exact bM.plain (g:=fun m=>mO r g.1 g.2 m s) (by simp[bD]) qg
  |false=>
   simp only[cF];refine bM.bind (Ag.callee e _) fun g _=>?_;exact bM.plain (g:=fun m=>r.call g.1 g.2 m s) (by simp[bD]) qg
end
def GJ(bi:Nat)(r:eZ)(foot:cU)(loud:Bool)(m:aI):Prop:=
 bi.testBit r.i=true\/(((loud||r.loud)&&foot.meets r.foot)=false/\ ∀n,r.c0<=n->n<r.c1->dy m n=true)
theorem Zu{bi:Nat}{mk:aI}: ∀ {rs:List eZ} {r:eZ},r∈rs->bi.testBit r.i=false-> ∀n,r.c0<=n->n<r.c1->dy (iH bi rs mk) n=true
 | [],_,h,_,_,_,_=>by cases h
 |q::rs,r,h,hb,n,h0,h1=>by
  unfold iH;rcases List.mem_cons.1 h with rfl|h
  grind [fg,dy,tG,FA]
  have g:=Zu (mk:=mk) h hb n h0 h1
  grind [dy]
theorem ai3{foot:cU}{loud:Bool}(h:pw bi foot loud rs=true){r:eZ}(hr:r∈rs):GJ bi r foot loud (iH bi rs mk):=by
 have:=fu.1 h r hr;cases hb:bi.testBit r.i with
 |true=>exact .inl hb
 |false=>
  refine .inr ⟨?_,Zu hr hb⟩
  grind
section
variable(Q:aD)(f:FuncId)(all:Array Oper)(mk:aI)(F:Nat->Fr)(S:Nat->St)(M:Nat->aI)(lv:Nat->Nat)(Lo:Nat->Bool)
def GS(k:Nat)(o:Oper):Prop:=
 (eP all (F k).env o=true/\ ∃v loc' s1,eW Q (b9 Q (lv k)) f o (M k) (F k) ⟨(S k).heap,(S k).aL,(S k).aL,(S k).ci⟩=some (v,loc',s1)/\s1.ci=(S k).ci/\
  cN (F k) o.dst v loc'=some (F (k+1))/\S (k+1)=(S k).Gt s1/\Lo k=(bh s1.gt (S k).aL||isStore o.op))\/
 (eP all (F k).env o=false/\cN (F k) o.dst fN (F k).loc=some (F (k+1))/\S (k+1)=S k)
structure DY (i:Nat) (rs:List eZ) (bs:List Nat) (l:List Oper):Prop where
 step: ∀k o,l[k]? =some o->GS Q f all F S M lv Lo (i+k) o
 more: ∀k o,l[k]? =some o-> ∀n,dy mk n=true->dy (M (i+k)) n=true
 old: ∀k o,l[k]? =some o->eP all (F (i+k)).env o=true-> ∀r∈rs,GJ ((bs[k]?).getD 0) r (bD (Q.hint f) o.dst (F (i+k)).env o.op) (Lo (i+k)) (M (i+k))
 pair: ∀k k' o o',k'<k->l[k]? =some o->l[k']? =some o'->eP all (F (i+k)).env o=true->eP all (F (i+k')).env o'=true->
  GJ ((bs[k]?).getD 0) ⟨i+k',(S (i+k')).aL,(S (i+k'+1)).aL,bD (Q.hint f) o'.dst (F (i+k')).env o'.op,Lo (i+k')⟩ (bD (Q.hint f) o.dst (F (i+k)).env o.op) (Lo (i+k)) (M (i+k))
end
theorem Wb(bs:List Nat):(bs[0]?).getD 0=bs.headD 0:=by cases bs<;>rfl
def RE(bs:List Nat)(k:Nat):bs.tail[k]? =bs[k+1]? :=by cases bs<;>simp
def uG(i:Nat)(a:α)(F:Nat->α): ∃g:Nat->α,g i=a/\ ∀k,g (i+1+k)=F (i+1+k):=
 ⟨fun k=>if k=i then a else F k,by simp,fun k=>by simp only;rw[iN (by omega)]⟩
variable{bs:List Nat}{Lo:Nat->Bool}{F:Nat->Fr}{lv:Nat->Nat}{S:Nat->St}{M:Nat->aI}
theorem DY.cons{all:Array Oper}{E:Nat->Fr}{J:Nat->St}{O:Nat->aI}{z:Nat->Nat}{g:Nat->Bool}{y:List eZ}{l:List Oper}(t:DY Q f all mk F S M lv Lo (i+1) y bs.tail l)(I: ∀k,E (i+1+k)=F (i+1+k))(hS: ∀k,J (i+1+k)=S (i+1+k))(hM: ∀k,O (i+1+k)=M (i+1+k))(V: ∀k,z (i+1+k)=lv (i+1+k))(q: ∀k,g (i+1+k)=Lo (i+1+k))(R:GS Q f all E J O z g i o)(U: ∀n,dy mk n=true->dy (O i) n=true)(Y:eP all (E i).env o=true-> ∀r∈rs,GJ (bs.headD 0) r (bD (Q.hint f) o.dst (E i).env o.op) (g i) (O i))(T: ∀r∈rs,r∈y)(hr:eP all (E i).env o=true->⟨i,(J i).aL,(J (i+1)).aL,bD (Q.hint f) o.dst (E i).env o.op,g i⟩∈y):DY Q f all mk E J O z g i rs bs (o::l) where
 step k p hk:=by
  cases k with
  |zero=>simp at hk;subst hk;exact R
  |succ k=>
   have:=t.step k p (by simpa using hk);unfold GS at this ⊢;rw[show i+(k+1)=i+1+k by omega,show i+1+k+1=i+1+(k+1) by omega,I,I,hS,hS,hM,V,q];exact this
 more k p hk n hn:=by
  cases k with
  |zero=>exact U n hn
  |succ k=>rw[show i+(k+1)=i+1+k by omega,hM];exact t.more k p (by simpa using hk) n hn
 old k p hk hw r hr:=by
  cases k with
  |zero=>grind [Wb]
  |succ k=>
   rw[show i+(k+1)=i+1+k by omega] at hw ⊢;rw[I] at hw ⊢;rw[hM,q,<-RE];exact t.old k p (by simpa using hk) hw r (T r hr)
 pair k C p p' hlt hk hk' hw hw':=by
  cases k with
  |zero=>omega
  |succ k=>
   rw[show i+(k+1)=i+1+k by omega] at hw ⊢;rw[I] at hw ⊢;rw[hM,q,<-RE];cases C with
   |zero=>
    simp at hk';subst hk';exact t.old k p (by simpa using hk) hw _ (hr hw')
   |succ C=>
    rw[show i+(C+1)=i+1+C by omega] at hw' ⊢;rw[I] at hw' ⊢;rw[q,show i+1+C+1=i+1+(C+1) by omega,hS,hS];exact t.pair k C p p' (by omega) (by simpa using hk) (by simpa using hk') hw hw'
theorem Mr{Q:aD}{f:FuncId}{all:Array Oper}{mk:aI}: ∀ {l:List Oper} {n:Nat} {bs:List Nat} {rs:List eZ} {i:Nat} {fr fr':Fr} {s s':St},
 (b9 Q n).draw f all bs mk rs i l fr s=some (fr',s')->
 ∃F S M lv Lo,F i=fr/\S i=s/\F (i+l.length)=fr'/\S (i+l.length)=s'/\(∀k o,l[k]? =some o->lv (i+k)<n)/\DY Q f all mk F S M lv Lo i rs bs l
 |l,0,bs,rs,i,fr,fr',s,s',h=>by cases h
 | [],n+1,bs,rs,i,fr,fr',s,s',h=>by
   have h:some (fr,s)=some (fr',s'):=h;simp only[aH,bu] at h;obtain⟨rfl,rfl⟩:=h;exact⟨fun _=>fr,fun _=>s,fun _=>mk,fun _=>0,fun _=>false,rfl,rfl,rfl,rfl,by simp,⟨by simp,by simp,by simp,by simp⟩⟩
 |o::l,n+1,bs,rs,i,fr,fr',s,s',h=>by
  have h:mg Q (b9 Q n) f all bs mk rs i (o::l) fr s=some (fr',s'):=h;simp only[mg] at h;cases hw:eP all fr.env o with
  |true=>
   simp only[hw,cT,aj] at h;obtain⟨⟨v,loc',s1⟩,h1,h⟩:=h;obtain⟨hc,h⟩:=aY h;simp only[aj] at h;obtain⟨fr1,hf,h⟩:=h;simp only[bm] at hc;obtain⟨a0,C⟩:=hc;have C:=fg C;obtain⟨F,S,M,lv,Lo,Z,e2,e3,e4,V,t⟩:=Mr h;obtain⟨T,z,R⟩:=uG i fr F;obtain⟨J,I,E⟩:=uG i s S;obtain⟨M',M0,M1⟩:=uG i (iH (bs.headD 0) rs mk) M;obtain⟨p,U,g⟩:=uG i n lv;obtain⟨y,O,q⟩:=uG i (bh s1.gt s.aL||isStore o.op) Lo;have eF:T (i+1)=fr1:=(R 0).trans Z;have Y:J (i+1)=s.Gt s1:=(E 0).trans e2;refine⟨T,J,M',p,y,z,I,?_,?_,?_,t.cons R E M1 g q ?_ ?_ ?_ ?_ ?_⟩
   grind
   grind
   grind
   ·refine .inl ⟨by rw[z];exact hw,v,loc',s1,?_,?_,?_,?_,?_⟩
    all_goals grind
   grind [Wc]
   grind [ai3]
   grind
   intro _;rw[I,Y,z,O];exact List.mem_cons_self
  |false=>
   simp only[hw,cF,aj] at h;obtain⟨fr1,hf,h⟩:=h;obtain⟨F,S,M,lv,Lo,Z,e2,e3,e4,V,t⟩:=Mr h;obtain⟨T,z,R⟩:=uG i fr F;obtain⟨J,I,E⟩:=uG i s S;obtain⟨M',M0,M1⟩:=uG i mk M;obtain⟨p,U,g⟩:=uG i n lv;obtain⟨y,O,q⟩:=uG i false Lo;have eF:T (i+1)=fr1:=(R 0).trans Z;have Y:J (i+1)=s:=(E 0).trans e2;refine⟨T,J,M',p,y,z,I,?_,?_,?_,t.cons R E M1 g q ?_ ?_ ?_ ?_ ?_⟩
   grind
   grind
   grind
   exact .inr ⟨by rw[z];exact hw,by rw[z,eF];exact hf,by rw[I,Y]⟩
   all_goals grind
theorem TB{ops:Array Oper}: ∀ {l:List Oper} {bs:List Nat} {b:Nat},nN ops b l bs=true-> ∀i j x y,i<j->l[i]? =some x->l[j]? =some y->((bs[j]?).getD 0).testBit (b+i)=true\/Ej ops x y=true
 | [],_,_,_,i,j,x,y,_,hx,_=>by simp at hx
 |o::l,bs,b,h,i,j,x,y,hlt,hx,g=>by
  simp only[nN,bm] at h;obtain⟨_,h1,q⟩:=h;cases j with
  |zero=>omega
  |succ j=>
   rw[<-RE];cases i with
   |succ i=>
    have:=TB q i j x y (by omega) (by simpa using hx) (by simpa using g)
    grind
   |zero=>
    simp at hx;subst hx;have p: ∀ {l:List Oper} {bs:List Nat},GY ops o b l bs=true-> ∀(j:Nat) y,l[j]? =some y->((bs[j]?).getD 0).testBit b=true\/Ej ops o y=true:=by
     intro l
     induction l with
     |nil=>intro bs _ j y g;simp at g
     |cons z l C=>
      grind [GY,Wb]
    exact p h1 j y (by simpa using g)
def TA{ops:Array Oper}: ∀ {l:List Oper} {bs:List Nat} {b:Nat},nN ops b l bs=true-> ∀i x,l[i]? =some x-> ∀e∈x.after,Region.binds .any e=true->e.on<b+i
 | [],_,_,_,i,x,hx,_,_,_=>by simp at hx
 |o::l,bs,b,h,i,x,hx,e,he,hb=>by
  simp only[nN,bm] at h;obtain⟨h0,_,g⟩:=h;cases i with
  |zero=>
   simp at hx;subst hx
   have:=fu.1 h0 e (Array.mem_toList_iff.2 he)
   simp_all
  |succ i=>
   have:=TA g i x (by simpa using hx) e he hb;omega
structure aO (Q:aD) (f:FuncId) (all:Array Oper) (mk:aI) (F:Nat->Fr) (S:Nat->St) (M:Nat->aI) (lv:Nat->Nat) (Lo:Nat->Bool):Prop where
 tr:DY Q f all mk F S M lv Lo 0 [] (Region.before all).toList all.toList
 ap:nN all 0 all.toList (Region.before all).toList=true
 fresh: ∀n,(S 0).aL<=n->(S 0).heap.get n=none
variable{H:Nat->Option aJ}
section
variable{Q:aD}{f:FuncId}{all:Array Oper}{mk:aI}{F:Nat->Fr}{S:Nat->St}{M:Nat->aI}{lv:Nat->Nat}{Lo:Nat->Bool}
noncomputable def aO.foot(Q:aD)(f:FuncId)(F:Nat->Fr)(k:Nat)(o:Oper):cU:=bD (Q.hint f) o.dst (F k).env o.op
noncomputable def aO.fm(Q:aD)(f:FuncId)(F:Nat->Fr)(S:Nat->St)(M:Nat->aI)(k:Nat)(o:Oper):aI:=rC (S k).aL (aO.foot Q f F k o) (M k)
def aO.step(t:aO Q f all mk F S M lv Lo)(g:all[k]? =some o):GS Q f all F S M lv Lo k o:=by
 have:=t.tr.step k o (by simpa using g);rwa [eH] at this
def aO.done(t:aO Q f all mk F S M lv Lo)(q:all[k]? =some o)(p:eP all (F k).env o=true):
 ∃v loc' s1,eW Q (b9 Q (lv k)) f o (M k) (F k) ⟨(S k).heap,(S k).aL,(S k).aL,(S k).ci⟩=some (v,loc',s1)/\s1.ci=(S k).ci/\
  cN (F k) o.dst v loc'=some (F (k+1))/\S (k+1)=(S k).Gt s1/\Lo k=(bh s1.gt (S k).aL||isStore o.op)/\
  fG (aO.fm Q f F S M k o) ⟨(S k).heap,(S k).aL,(S k).aL,(S k).ci⟩ s1:=by
 rcases t.step q with⟨_,v,loc',s1,h1,I,E,C,z⟩|⟨h,_⟩
 refine⟨v,loc',s1,h1,I,E,C,z,?_⟩;obtain⟨g,y,_⟩:=M6 (c:=(S k).aL) (e:=(F k).env) (n:=(F k).size) (M k) (F k).loc v loc' s1 h1 (F k).loc (fun _ _=>.refl _ _);have hl:=Fm (Q:=Q) (lN Q (lv k)) f o (aO.fm Q f F S M k o) (F k);exact(hl Q.ch _ v g s1 y).1;rw[p] at h;cases h
theorem aO.next_le(t:aO Q f all mk F S M lv Lo)(p:all[k]? =some o):(S k).aL<=(S (k+1)).aL:=by
 cases hw:eP all (F k).env o with
 |true=>
  obtain⟨v,loc',s1,_,_,_,q,_,g⟩:=t.done p hw;rw[q];exact g.aL
 |false=>
  rcases t.step p with⟨h,_⟩|⟨_,_,h⟩
  all_goals grind
theorem aO.mono(t:aO Q f all mk F S M lv Lo): ∀ {j:Nat},i<=j->j<=all.size->(S i).aL<=(S j).aL
 |0,h,_=>by grind
 |j+1,h,hj=>by
  by_cases e:i=j+1;rw[e];exact bk _;exact eG (t.mono (by omega) (by omega)) (t.next_le (so (by omega)))
theorem aO.none_above(t:aO Q f all mk F S M lv Lo): ∀ {k:Nat},k<=all.size-> ∀n,(S k).aL<=n->(S k).heap.get n=none
 |0,_,n,h=>t.fresh n h
 |k+1,hk,n,h=>by
  have p:all[k]? =some all[k]:=so (by omega);have y:=t.next_le p;have q:=t.none_above (k:=k) (by omega) n (by omega);cases hw:eP all (F k).env all[k] with
  |true=>
   obtain⟨v,loc',s1,_,_,_,z,_,g⟩:=t.done p hw;rw[z] at h ⊢;refine(g.frame n ?_).trans q;rintro(⟨_,h'⟩|h');exact h' q;exact absurd h (by have:=h'.2;show¬s1.aL<=n;omega)
  |false=>
   rcases t.step p with⟨h',_⟩|⟨_,_,h'⟩
   all_goals grind
def aO.Th(Q:aD)(f:FuncId)(all:Array Oper)(F:Nat->Fr)(S:Nat->St)(M:Nat->aI)(k n:Nat):Prop:=
 ∃o,all[k]? =some o/\eP all (F k).env o=true/\mU (aO.fm Q f F S M k o) (S k) (S (k+1)) n
open Classical in
noncomputable def aO.X(Q:aD)(f:FuncId)(all:Array Oper)(F:Nat->Fr)(S:Nat->St)(M:Nat->aI)(H:Nat->Option aJ)(n:Nat):Nat->Option aJ
 |0=>H n
 |k+1=>if aO.Th Q f all F S M k n then(S (k+1)).heap.get n else aO.X Q f all F S M H n k
theorem aO.X_change(h:aO.X Q f all F S M H n (k+1)≠aO.X Q f all F S M H n k):aO.Th Q f all F S M k n:=by
 grind [aO.X]
theorem aO.X_sees(t:aO Q f all mk F S M lv Lo)(h0: ∀n o,dy mk n=false->(S 0).heap.get n=some o->H n=some o):
 ∀ {k:Nat},k<=all.size-> ∀n o,dy mk n=false->(S k).heap.get n=some o->aO.X Q f all F S M H n k=some o
 |0,_,n,o,hn,h=>h0 n o hn h
 |k+1,hk,n,o,hn,h=>by
  have p:all[k]? =some all[k]:=so (by omega);rw[aO.X];split;exact h
  ·rename_i z
   refine t.X_sees h0 (by omega) n o hn ?_;cases hw:eP all (F k).env all[k] with
   |true=>
    obtain⟨v,loc',s1,_,_,_,q,_,g⟩:=t.done p hw;rw[q] at h;refine(g.frame n fun y=>z ⟨_,p,hw,?_⟩).symm.trans h;rw[q];exact y
   |false=>
    rcases t.step p with⟨h',_⟩|⟨_,_,h'⟩
    all_goals grind
end
def sJ(all:Array Oper)(i j:Nat):Prop:=(((Region.before all).toList[j]?).getD 0).testBit i=true
theorem sJ.dep{all:Array Oper}(h:sJ all i j):o6 all i j:=by
 grind [sJ,afB]
section
variable{Q:aD}{f:FuncId}{all:Array Oper}{mk:aI}{F:Nat->Fr}{S:Nat->St}{M:Nat->aI}{lv:Nat->Nat}{Lo:Nat->Bool}
def aO.compat(t:aO Q f all mk F S M lv Lo){p g:Oper}(q:i<j)(hi:all[i]? =some p)(E:all[j]? =some g)(z:eP all (F i).env p=true)(y:eP all (F j).env g=true)(C: ¬sJ all i j):((Lo j||Lo i)&&(aO.foot Q f F j g).meets (aO.foot Q f F i p))=false/\ ∀n,(S i).aL<=n->n<(S (i+1)).aL->dy (M j) n=true:=by
 have:=t.tr.pair j i g p q (by simpa using E) (by simpa using hi) (by rw[eH];exact y) (by rw[eH];exact z);simp only[eH] at this;exact this.resolve_left C
def aO.lt_size(h:all[i]? =some o):i<all.size:=(Array.getElem?_eq_some_iff.1 h).1
theorem aO.loud(t:aO Q f all mk F S M lv Lo)(h0: ∀n o,dy mk n=false->(S 0).heap.get n=some o->H n=some o)(hi:all[i]? =some o)(w:eP all (F i).env o=true)(q:aO.X Q f all F S M H n (i+1)≠aO.X Q f all F S M H n i)(J:dy (aO.fm Q f F S M i o) n=false)(y:(S i).heap.get n≠none):Lo i=true:=by
 have E:=aO.X_change q;have p:n<(S i).aL:=by
  rcases nG n (S i).aL with h|h
  exact h;exact absurd (t.none_above (zA (aO.lt_size hi)) n h) y
 obtain⟨v,loc',s1,_,_,_,I,O,g⟩:=t.done hi w;have z:dy mk n=false:=by
  cases e:dy mk n with
  |false=>rfl
  |true=>
   have:=t.tr.more i o (by simpa using hi) n e
   grind [aO.fm,M4]
 cases ho:(S i).heap.get n with
 |none=>exact absurd ho y
 |some ob=>
  have C:=t.X_sees h0 (zA (aO.lt_size hi)) n ob z ho;rw[aO.X,iP E,C,<-ho,I] at q
  have:=g.noted n p q
  grind [FA]
def aq6{F1 g:cU}(h1:F1= .all\/F1= .obj n)(p:g= .all\/g= .obj n):F1.meets g=true:=by
 rcases h1 with rfl|rfl<;>rcases p with rfl|rfl<;>simp[cU.meets]
theorem aO.heap_apart(t:aO Q f all mk F S M lv Lo)(h0: ∀n o,dy mk n=false->(S 0).heap.get n=some o->H n=some o)(E:i<j)(hj:j<all.size)(hn: ¬sJ all i j):
 (aO.Th Q f all F S M j n->aO.X Q f all F S M H n (i+1)=aO.X Q f all F S M H n i)/\
 (aO.Th Q f all F S M i n->aO.X Q f all F S M H n (j+1)=aO.X Q f all F S M H n j):=by
 have Z:aO.Th Q f all F S M i n->aO.Th Q f all F S M j n->
  (aO.X Q f all F S M H n (i+1)≠aO.X Q f all F S M H n i\/aO.X Q f all F S M H n (j+1)≠aO.X Q f all F S M H n j)->False:=by
  rintro⟨T,hi,O,Y⟩ ⟨R,q,J,Tj⟩ I;obtain⟨y,c2⟩:=t.compat E hi q O J hn;have a1:(S (i+1)).aL<=(S j).aL:=t.mono (by omega) (by omega);have V:=t.next_le hi;have g:dy (aO.fm Q f F S M j R) n=false/\(S j).heap.get n≠none:=by
   rcases Tj with h|h
   exact h;exfalso;rcases Y with⟨_,hp⟩|h'
   exact hp (t.none_above (by omega) n (by omega));omega
  have z:=M3 g.1;have a0:n<(S j).aL:=by
   rcases nG n (S j).aL with h|h
   exact h;exact absurd (t.none_above (by omega) n h) g.2
  have p:dy (aO.fm Q f F S M i T) n=false/\(S i).heap.get n≠none:=by
   rcases Y with h|h
   exact h
   grind
  have C:=M3 p.1;have U:n<(S i).aL:=by
   rcases nG n (S i).aL with h|h
   exact h;exact absurd (t.none_above (by omega) n h) p.2
  have hm:(aO.foot Q f F j R).meets (aO.foot Q f F i T)=true:=
   aq6 (z.2.imp id fun h=>h.resolve_right (by omega)) (C.2.imp id fun h=>h.resolve_right (by omega))
  rw[hm,Bool.and_true] at y;rcases I with h|h
  rw[t.loud h0 hi O h p.1 p.2] at y;simp at y;rw[t.loud h0 q J h g.1 g.2] at y;simp at y
 grind [aO.X_change]
end
variable{fr:Fr}{v:aa}
theorem tL(h:cN fr dst v l=some fr'):
 fr'.size=fr.size/\fr'.loc=l/\(∀d,dst=some d->d<fr.size/\ac fr'.env d=v)/\ ∀t,dst≠some t->ac fr'.env t=ac fr.env t:=by
 unfold cN at h
 grind [qo,ac,P6,aC.get_set]
theorem ahN{x y:Oper}(h:Ej ops x y=true):(∀d,x.dst=some d->d ∉ Ay ops y/\y.dst≠some d)/\ ∀d,y.dst=some d->d ∉ Ay ops x:=by
 simp only[Ej,bm] at h;have g: ∀(d:Nat) (l:List Nat),l.any (aK d)=false->d ∉ l:=by
  intro d l hl p;rw[List.any_eq_false] at hl;exact hl d p (by simp)
 obtain⟨h1,q⟩:=h;refine⟨fun d p=>?_,fun d p=>?_⟩;rw[p] at h1;simp only[bm,Bool.not_eq_true'] at h1;refine⟨g d _ h1.1,fun e=>?_⟩
 simp_all
 grind
section
variable{Q:aD}{f:FuncId}{all:Array Oper}{mk:aI}{F:Nat->Fr}{S:Nat->St}{M:Nat->aI}{lv:Nat->Nat}{Lo:Nat->Bool}
def aO.Te(all:Array Oper)(k t:Nat):Prop:= ∃o,all[k]? =some o/\(t∈Ay all o\/o.dst=some t)
theorem aO.put(t:aO Q f all mk F S M lv Lo)(g:all[k]? =some o): ∃v l,cN (F k) o.dst v l=some (F (k+1)):=by
 rcases t.step g with⟨_,v,loc',s1,_,_,p,_⟩|⟨_,h,_⟩
 all_goals grind
def aO.env_change(t:aO Q f all mk F S M lv Lo)(p:all[k]? =some o)(h:ac (F (k+1)).env d≠ac (F k).env d):o.dst=some d:=by
 obtain⟨v,l,g⟩:=t.put p;by_cases e:o.dst=some d;exact e;exact absurd ((tL g).2.2.2 d e) h
def aO.size_eq(t:aO Q f all mk F S M lv Lo): ∀ {k:Nat},k<=all.size->(F k).size=(F 0).size
 |0,_=>rfl
 |k+1,h=>by
  obtain⟨v,l,g⟩:=t.put (so (show k<all.size by omega));rw[(tL g).1];exact t.size_eq (by omega)
theorem aO.env_apart(t:aO Q f all mk F S M lv Lo)(z:i<j)(J:j<all.size)(I: ¬sJ all i j):
 (aO.Te all j d->ac (F (i+1)).env d=ac (F i).env d)/\(aO.Te all i d->ac (F (j+1)).env d=ac (F j).env d):=by
 have y:all[i]? =some all[i]:=so (by omega);have q:all[j]? =some all[j]:=so J
 have:=TB t.ap i j all[i] all[j] z (by simp) (by simp);rw[eH] at this;obtain⟨h1,R⟩:=ahN (this.resolve_left I);constructor;rintro⟨o,g,C⟩;rw[q] at g;injection g with g;subst g
 apply su;intro p;obtain⟨E,O⟩:=h1 d (t.env_change y p);exact C.elim E O;rintro⟨o,g,C⟩;rw[y] at g;injection g with g;subst g
 apply su;intro p;have E:=t.env_change q p
 grind
def aO.L(F:Nat->Fr)(t k:Nat):Nat×(Nat->Option (List aa)):=((F k).loc.gen t,fun g=>(F k).loc.get t g)
theorem aO.L_eq{F:Nat->Fr}{t g:Nat}:aO.L F t k=aO.L F t g↔lB (F k).loc (F g).loc t:=by
 grind [aO.L,lB]
def aO.Tl(Q:aD)(f:FuncId)(all:Array Oper)(F:Nat->Fr)(k u:Nat):Prop:= ∃o,all[k]? =some o/\eP all (F k).env o=true/\aO.foot Q f F k o= .loc u
theorem aO.loc_change(t:aO Q f all mk F S M lv Lo)(y:k<all.size)(h:aO.L F u (k+1)≠aO.L F u k):aO.Tl Q f all F k u/\Lo k=true:=by
 have g:all[k]? =some all[k]:=so y;rcases t.step g with⟨w,v,loc',s1,h1,_,E,_,J⟩|⟨_,q,_⟩
 have hl:=(tL E).2.1;obtain⟨p,_,_,C,I⟩:=M6 (c:=(S k).aL) (e:=(F k).env) (n:=(F k).size) (M k) (F k).loc v loc' s1 h1 (F k).loc (fun _ _=>.refl _ _);constructor;apply su;intro z;apply h;rw[aO.L_eq,hl];exact(C u fun e=>z ⟨_,g,w,e⟩).1
 grind [aO.L_eq]
 exfalso;apply h;rw[aO.L_eq,(tL q).2.1];exact .refl _ _
def aO.loc_apart(t:aO Q f all mk F S M lv Lo)(y:i<j)(R:j<all.size)(O: ¬sJ all i j):
 (aO.Tl Q f all F j u->aO.L F u (i+1)=aO.L F u i)/\(aO.Tl Q f all F i u->aO.L F u (j+1)=aO.L F u j):=by
 have p:aO.Tl Q f all F i u->aO.Tl Q f all F j u->(Lo i=true\/Lo j=true)->False:=by
  rintro⟨Y,hi,J,U⟩ ⟨V,q,I,T⟩ hl;obtain⟨E,_⟩:=t.compat y hi q J I O;rw[U,T] at E;rcases hl with h|h<;>rw[h] at E<;>simp[cU.meets] at E
 constructor;intro z;apply su;intro g;obtain⟨h1,C⟩:=t.loc_change (by omega) g;exact p h1 z (.inl C);intro z;apply su;intro g;obtain⟨h1,C⟩:=t.loc_change R g;exact p z h1 (.inr C)
end
section
variable{Q:aD}{f:FuncId}{all:Array Oper}{mk:aI}{F:Nat->Fr}{S:Nat->St}{M:Nat->aI}{lv:Nat->Nat}{Lo:Nat->Bool}
structure kG (Q:aD) (f:FuncId) (all:Array Oper) (F:Nat->Fr) (S:Nat->St) (M:Nat->aI) (H:Nat->Option aJ) (D:Nat->Prop) (fr:Fr) (h:Nat->Option aJ):Prop where
 env: ∀t,ac fr.env t=mix (fun k=>ac (F k).env t) D all.size
 size:fr.size=(F 0).size
 loc: ∀u,(fr.loc.gen u,fun g=>fr.loc.get u g)=mix (aO.L F u) D all.size
 heap: ∀n,h n=mix (aO.X Q f all F S M H n) D all.size
def KK(all:Array Oper)(D:Nat->Prop):Prop:= ∀j o,D j->all[j]? =some o-> ∀e∈o.after,Region.binds .any e=true->D e.on
structure l9 (all:Array Oper) (D:Nat->Prop) (j:Nat) (o:Oper):Prop where
 closed:KK all D
 at_:all[j]? =some o
 new: ¬D j
 preds: ∀e∈o.after,Region.binds .any e=true->D e.on
def l9.ord{D:Nat->Prop}{j:Nat}{o:Oper}(x:l9 all D j o)(h:sJ all i j):D i:=
 h.dep.ready x.closed fun y g e p q=>by
  rw[x.at_] at g;injection g with g;subst g
  exact x.preds e p q
def l9.notOrd{D:Nat->Prop}{j:Nat}{o:Oper}(x:l9 all D j o)(g:D k): ¬sJ all j k:=fun h=>x.new (h.dep.closed x.closed g)
def l9.both{X:Nat->α}{D:Nat->Prop}{j:Nat}{o:Oper}(x:l9 all D j o)(E: ∀i,i<j-> ¬sJ all i j->X (i+1)=X i)(I: ∀k,j<k->k<all.size-> ¬sJ all j k->X (k+1)=X k):
 mix X D all.size=X j/\mix X (fun k=>D k\/k=j) all.size=X (j+1):=by
 have C:=aO.lt_size x.at_;have p: ∀i,i<j->X (i+1)≠X i->D i:=fun i hi y=>by
  apply su;intro g;exact y (E i hi fun h=>g (x.ord h))
 have q: ∀k,j<k->k<all.size->D k->X (k+1)=X k:=fun k h1 z g=>I k h1 z (x.notOrd g);refine⟨ZG (by omega) p fun k h1 z g=>?_,arf C p q⟩;by_cases e:k=j;exact absurd (e▸g) x.new;exact q k (by omega) z g
def l9.env(t:aO Q f all mk F S M lv Lo){D:Nat->Prop}{j:Nat}{o:Oper}(x:l9 all D j o)(p:aO.Te all j d):
 mix (fun k=>ac (F k).env d) D all.size=ac (F j).env d/\mix (fun k=>ac (F k).env d) (fun k=>D k\/k=j) all.size=ac (F (j+1)).env d:=
 x.both (X:=fun k=>ac (F k).env d) (fun z hi g=>(t.env_apart hi (aO.lt_size x.at_) g).1 p) fun y h1 q g=>(t.env_apart h1 q g).2 p
def l9.loc(t:aO Q f all mk F S M lv Lo){D:Nat->Prop}{j:Nat}{o:Oper}(x:l9 all D j o)(p:aO.Tl Q f all F j u):
 mix (aO.L F u) D all.size=aO.L F u j/\mix (aO.L F u) (fun k=>D k\/k=j) all.size=aO.L F u (j+1):=
 x.both (fun z hi g=>(t.loc_apart hi (aO.lt_size x.at_) g).1 p) fun y h1 q g=>(t.loc_apart h1 q g).2 p
def l9.heap(t:aO Q f all mk F S M lv Lo){H:Nat->Option aJ}(h0: ∀n o,dy mk n=false->(S 0).heap.get n=some o->H n=some o){D:Nat->Prop}{j:Nat}{o:Oper}(x:l9 all D j o)(p:aO.Th Q f all F S M j n):
 mix (aO.X Q f all F S M H n) D all.size=aO.X Q f all F S M H n j/\mix (aO.X Q f all F S M H n) (fun k=>D k\/k=j) all.size=aO.X Q f all F S M H n (j+1):=
 x.both (fun z hi g=>(t.heap_apart h0 hi (aO.lt_size x.at_) g).1 p) fun y h1 q g=>(t.heap_apart h0 h1 q g).2 p
variable{H:Nat->Option aJ}{D:Nat->Prop}{fr:Fr}{h:Nat->Option aJ}{j:Nat}{o:Oper}
def kG.ev(t:aO Q f all mk F S M lv Lo)(c:kG Q f all F S M H D fr h)(x:l9 all D j o): ∀y∈o.op.operands,Ag.ev fr.env y=Ag.ev (F j).env y:=by
 intro y g;cases y with
 |tmp d=>
  simp only[Ag.ev];rw[c.env d,(x.env t ⟨o,x.at_,.inl ?_⟩).1];unfold Ay;refine List.mem_append_left _ (List.mem_filterMap.2 ⟨.tmp d,by simpa using g,rfl⟩)
 |_=>rfl
theorem kG.wanted(t:aO Q f all mk F S M lv Lo)(c:kG Q f all F S M H D fr h)(x:l9 all D j o):eP all fr.env o=eP all (F j).env o:=by
 unfold eP;cases hg:o.guard with
 |none=>rfl
 |some g=>
  obtain⟨g,p⟩:=g;simp only;cases hd:(all[g]?).bind (·.dst) with
  |none=>rfl
  |some d=>
   simp only;rw[c.env d,(x.env t ⟨o,x.at_,.inl ?_⟩).1]
   grind [Ay]
end
def abE(h: ∀d,dst=some d->d<fr.size): ∃fr',cN fr dst v l=some fr':=by
 unfold cN;cases hd:dst with
 |none=>exact⟨_,rfl⟩
 |some d=>
  have:bh d fr.size=true:=by rw[FA];exact dQ (h d hd)
  simp only[this,cT];exact⟨_,rfl⟩
section
variable{Q:aD}{f:FuncId}{all:Array Oper}{mk:aI}{F:Nat->Fr}{S:Nat->St}{M:Nat->aI}{lv:Nat->Nat}{Lo:Nat->Bool}
variable{H:Nat->Option aJ}{D:Nat->Prop}{fr:Fr}{h:aC aJ}{j:Nat}{o:Oper}
def aO.from_(S:Nat->St)(j:Nat)(h:aC aJ):St:=⟨h,(S j).aL,(S j).aL,(S j).ci⟩
theorem kG.sees(t:aO Q f all mk F S M lv Lo)(h0: ∀n o,dy mk n=false->(S 0).heap.get n=some o->H n=some o)(c:kG Q f all F S M H D fr h.get)(x:l9 all D j o)(p:eP all (F j).env o=true):iz (aO.fm Q f F S M j o) (aO.from_ S j (S j).heap) (aO.from_ S j h) where
 aL:=rfl
 gt:=rfl
 ci:=rfl
 get n ob hn g:=by
  have g:(S j).heap.get n=some ob:=g;show h.get n=some ob;have q:aO.Th Q f all F S M j n:=⟨o,x.at_,p,.inl ⟨hn,by rw[g];simp⟩⟩;rw[c.heap n,(x.heap t h0 q).1];refine t.X_sees h0 (zA (aO.lt_size x.at_)) n ob ?_ g;cases e:dy mk n with
  |false=>rfl
  |true=>
   have:=t.tr.more j o (by simpa using x.at_) n e
   grind [aO.fm,M4]
def kG.run(t:aO Q f all mk F S M lv Lo)(h0: ∀n o,dy mk n=false->(S 0).heap.get n=some o->H n=some o)(c:kG Q f all F S M H D fr h.get)(x:l9 all D j o)(O:eP all (F j).env o=true):
 ∃v loc' s1 fr',eW Q (b9 Q (lv j)) f o (aO.fm Q f F S M j o) fr (aO.from_ S j (S j).heap)=some (v,loc',s1)/\s1.ci=(S j).ci/\s1.aL=(S (j+1)).aL/\cN fr o.dst v loc'=some fr'/\
  ∀s2',gn (aO.fm Q f F S M j o) (aO.from_ S j (S j).heap) s1 (aO.from_ S j h) s2'->kG Q f all F S M H (fun k=>D k\/k=j) fr' s2'.heap.get:=by
 obtain⟨v,I,s1,h1,h2,h3,U,h5,g⟩:=t.done x.at_ O;obtain⟨q,V,e2,e3,e4⟩:=M6 (c:=(S j).aL) (e:=(F j).env) (n:=(F j).size) (M j) (F j).loc v I s1 h1 fr.loc (fun u J=>by
  have p:aO.Tl Q f all F j u:=⟨o,x.at_,O,J⟩;have T:=(c.loc u).trans (x.loc t p).1;unfold aO.L at T;rw[bu] at T;exact⟨T.1.symm,fun g=>(congrFun T.2 g).symm⟩)
 have V:eW Q (b9 Q (lv j)) f o (aO.fm Q f F S M j o) ⟨(F j).env,(F j).size,fr.loc⟩ (aO.from_ S j (S j).heap)=some (v,q,s1):=V;rw[atu (e2:=fr.env) (n2:=fr.size) (fun y hy=>(c.ev t x y hy).symm)] at V;have Y:fr.size=(F j).size:=c.size.trans (t.size_eq (zA (aO.lt_size x.at_))).symm;obtain⟨p1,p2,Z,p4⟩:=tL h3;have R: ∃fr',cN fr o.dst v q=some fr':=abE fun d E=>by rw[Y];exact(Z d E).1
 obtain⟨fr',R⟩:=R;obtain⟨q1,q2,q3,q4⟩:=tL R;refine⟨v,q,s1,fr',V,h2,by rw[U];rfl,R,fun s2' same=>⟨fun d=>?_,q1.trans c.size,fun u=>?_,fun n=>?_⟩⟩;by_cases E:o.dst=some d;rw[(q3 d E).2,(x.env t ⟨o,x.at_,.inr E⟩).2,(Z d E).2];rw[q4 d E,c.env d]
 simp_all [CC]
 rw[q2];by_cases J:aO.foot Q f F j o= .loc u;rw[(x.loc t ⟨o,x.at_,O,J⟩).2]
 have:=e2 u J;unfold aO.L;rw[p2,this.1];rw[bu];exact⟨rfl,funext fun g=>(this.2 g).symm⟩;obtain⟨a1,a2⟩:=e3 u J;rw[CC (X:=aO.L F u) (aO.L_eq.2 (by rw[p2];exact a1)),<-c.loc u,bu];exact⟨a2.1,funext a2.2⟩;have C:aO.Th Q f all F S M j n↔mU (aO.fm Q f F S M j o) (aO.from_ S j (S j).heap) s1 n:=by
  constructor;rintro⟨o',z,_,p⟩;rw[x.at_] at z;injection z with z;subst z
  rw[U] at p;exact p;intro p;refine⟨o,x.at_,O,?_⟩;rw[U];exact p
 by_cases p:aO.Th Q f all F S M j n;rw[(x.heap t h0 p).2,aO.X,iP p,U];exact same.inside n (C.1 p);rw[CC (X:=aO.X Q f all F S M H n) (by rw[aO.X,iN p]),<-c.heap n];exact same.outside n (fun e=>p (C.2 e))
theorem kG.skip(t:aO Q f all mk F S M lv Lo)(c:kG Q f all F S M H D fr h.get)(x:l9 all D j o)(T:eP all (F j).env o=false):
 ∃fr',cN fr o.dst fN fr.loc=some fr'/\kG Q f all F S M H (fun k=>D k\/k=j) fr' h.get:=by
 rcases t.step x.at_ with⟨h',_⟩|⟨_,U,_⟩
 rw[T] at h';cases h';have q:fr.size=(F j).size:=c.size.trans (t.size_eq (zA (aO.lt_size x.at_))).symm;obtain⟨Y,O,z,V⟩:=tL U;have p: ∃fr',cN fr o.dst fN fr.loc=some fr':=abE fun d g=>by rw[q];exact(z d g).1
 obtain⟨fr',p⟩:=p;obtain⟨J,I,E,C⟩:=tL p;refine⟨fr',p,⟨fun d=>?_,J.trans c.size,fun u=>?_,fun n=>?_⟩⟩;by_cases g:o.dst=some d;rw[(E d g).2,(x.env t ⟨o,x.at_,.inr g⟩).2,(z d g).2];rw[C d g,c.env d]
 simp_all [CC]
 rw[I,CC (X:=aO.L F u) (aO.L_eq.2 (by rw[O];exact .refl _ _)),<-c.loc u];rw[CC (X:=aO.X Q f all F S M H n) ?_,<-c.heap n];rw[aO.X,iN];rintro⟨Z,y,R,_⟩;rw[x.at_] at y;grind
theorem kG.start{s2:aC aJ}(g: ∀k, ¬D k):kG Q f all F S M s2.get D (F 0) s2.get where
 env d:=(Pz (X:=fun k=>ac (F k).env d) fun k _=>g k).symm
 size:=rfl
 loc u:=by grind [Pz,aO.L]
 heap n:=by grind [Pz,aO.X]
theorem kG.fin(c:kG Q f all F S M H D fr h.get)(g: ∀k,k<all.size->D k):
 fr.size=(F 0).size/\(∀d,ac fr.env d=ac (F all.size).env d)/\(∀u,lB fr.loc (F all.size).loc u)/\ ∀n,h.get n=aO.X Q f all F S M H n all.size:=by
 refine⟨c.size,fun d=>?_,fun u=>?_,fun n=>?_⟩;rw[c.env d];grind [Px]
 have:=c.loc u;rw[Px g] at this;unfold aO.L at this;rw[bu] at this;exact⟨this.1,congrFun this.2⟩;rw[c.heap n];exact Px g
end
def mn:Option Nat->Fence
 |none=>Fence.wide
 |some l=>Fence.wide.inRound l
def Aa(ro:Option Nat)(f:FuncId):(mn ro).fn f:=by cases ro<;>exact trivial
def aiD(ro:Option Nat):(mn ro).depth=none:=by cases ro<;>rfl
def aiF(ro:Option Nat):(mn ro).round=ro:=by cases ro<;>rfl
def aiE(ro:Option Nat)(l:Nat):(mn ro).inRound l=mn (some l):=by cases ro<;>rfl
def MU(ro:Option Nat)(n:Nat):(mn ro).depth.isSome=true->1<=n:=by rw[aiD];intro h;cases h
variable{args:Array Value}{w:World}
def Vy{ro:Option Nat}{R:Ending->World->Prop}:CallsIn (mn ro) 0 P f args w R↔Calls P f args w R:=by
 cases ro with
 |none=>exact callsIn_wide
 |some l=>exact callsIn_wide (n:=0)
def qd:Obj->Prop
 | .loop _=>True
 | .deferred _=>True
 |_=>False
theorem qd.warm{o:Obj}(h:qd o):Obj.warm o:=by cases o<;>first|exact trivial|exact h.elim
variable{a:Addr}{tmps:Array Value}{B:Nat->Nat}
section
variable{G:Gh}{h:aC aJ}{w:World}{b:Nat}{o ob:Obj}
theorem Lv(g:w.heap[b]? =some o)(p:qd o){C:Array Value}{e:TypeId}{z:Nat×Nat}:w.heap[b]? ≠some (.cells C e z):=by
 rw[g];intro h;injection h with h;subst h;exact p.elim
def afo(g:w.heap[b]? =some o)(p:qd o)(i:Nat):w.cell? ⟨b,i,none⟩=none:=by
 cases o<;>first
  |exact p.elim
  |simp[World.cell?,g]
def WR.aside_ro(x:WR G h w)(p:w.heap[b]? =some o)(q:qd o)(i:Nat):G.ro b i=none:=by
 cases e:G.ro b i with
 |none=>rfl
 |some v=>
  obtain⟨_,y,g,_⟩:=x.ro b i v e;rw[afo p q] at g;cases g
theorem WR.aside(x:WR G h w)(g:w.heap[b]? =some o)(z:qd o)(p: ¬eB G h b):WR G h (dt w b ob) where
 obj n o' hn:=by
  obtain⟨a,h1,h2,h3⟩:=x.obj n o' hn;refine⟨a,h1,h2,h3.of_block ?_⟩;rw[jC w b _ ob (iT g),iN];intro e;exact p ⟨n,a,by rw[hn];simp,h1,e⟩
 sep:=x.sep
 ro c i v hv:=by
  have q:c≠b:=fun e=>by subst e;rw[x.aside_ro g z] at hv;cases hv
  obtain⟨h1,y,h2,h3⟩:=x.ro c i v hv
  grind [World.cell?,jC]
 apart:=x.apart
 dim c d hd:=by
  have q:c≠b:=fun e=>by
   subst e;obtain⟨C,e,h1,_⟩:=x.dim c d hd;exact Lv g z h1
  rw[jC w b _ ob (iT g),iN q];exact x.dim c d hd
 below n a ha':=by rw[C5];exact x.below n a ha'
theorem qe.aside{loc:Loc}(x:qe G h B loc w)(g:w.heap[b]? =some o)(p:qd o):qe G h B loc (dt w b ob) where
 cells t cs ht:=by
  obtain⟨C,e,h1,h2⟩:=x.cells t cs ht
  grind [jC,Lv]
 free:=x.free
 ro:=x.ro
 inj:=x.inj
def cz.aside(x:cz G h B fr tmps w)(g:w.heap[b]? =some o)(p:qd o):cz G h B fr tmps (dt w b ob):=
 ⟨x.size,x.env,x.locs.aside g p⟩
def cz.not_LB(x:cz G h B fr tmps w)(g:w.heap[b]? =some o)(p:qd o): ¬LB B fr.loc b:=by
 rintro⟨t,cs,h1,rfl⟩;obtain⟨C,e,q,_⟩:=x.locs.cells t cs h1;exact Lv g p q
def WR.not_deferred(x:WR G h w){d:Option (List Deferred)}(q:w.heap[b]? =some (.deferred d)): ¬eB G h b:=by
 rintro⟨n,a,h1,E,rfl⟩;cases e:h.get n with
 |none=>exact h1 e
 |some o=>
  obtain⟨a',y,_,p⟩:=x.obj n o e;rw[E] at y;injection y with y;subst y
  clear e
  induction o with
  |cells cs=>obtain⟨C,e,g,_⟩:=p;rw[q] at g;cases g
  |tok=>obtain⟨C,e,g⟩:=p;rw[q] at g;cases g
  |map J c=>obtain⟨O,g,_⟩:=p;rw[q] at g;cases g
  |iter m a b c=>obtain⟨_,I,g,_⟩:=p;rw[q] at g;cases g
  |loop _ _ _ _ _ _ _=>obtain⟨r,g,_⟩:=p;rw[q] at g;cases g
  |fix o z=>exact z p
theorem WR.back(x:WR G h w){lo:aJ}(E:G.at_ n=some a)(T:a.spot=none)(y: ¬eB G h a.block)(hr:nJ G w a lo)(O: ∀i,G.ro a.block i=none):WR G (h.set n (some lo)) w:=by
 refine⟨?_,?_,x.ro,?_,x.dim,x.below⟩;intro m I g;rw[aC.get_set] at g;by_cases e:m=n
 grind
 rw[iN e] at g;exact x.obj m I g;intro m k c d g z q p C;rw[aC.get_set] at g z;by_cases e1:m=n<;>by_cases e2:k=n;rw[e1,e2];rw[e1,E] at q;rw[iN e2] at z;injection q with q;subst q
 exact absurd ⟨k,d,z,p,C.symm⟩ y;rw[e2,E] at p;rw[iN e1] at g;injection p with p;subst p
 exact absurd ⟨m,c,g,q,C⟩ y;rw[iN e1] at g;rw[iN e2] at z;exact x.sep m k c d g z q p C;intro m ob b i v g R J;rw[aC.get_set] at g;by_cases e:m=n
 grind
 rw[iN e] at g;exact x.apart m ob b i v g R J
theorem atH{lo:aJ}(q:G.at_ n=some a)(h':eB G (h.set n (some lo)) c):c=a.block\/eB G h c:=by
 obtain⟨m,d,h1,p,g⟩:=h';rw[aC.get_set] at h1;by_cases e:m=n
 grind
 rw[iN e] at h1;exact .inr ⟨m,d,h1,p,g⟩
variable{G0:Gh}{h0:aC aJ}{w0:World}{lo hi:Nat}{L:Nat->Prop}
theorem atG{lo:aJ}(z:G.at_ n=some a)(h':kZ G (h.set n (some lo)) c):c=a.block\/kZ G h c:=by
 obtain⟨m,d,p,h1,g,y,q⟩:=h';rw[aC.get_set] at h1;by_cases e:m=n
 grind
 rw[iN e] at h1;exact .inr ⟨m,d,p,h1,g,y,q⟩
def ix.aside(x:ix G0 h0 w0 G h w lo hi L)(p:w.heap[b]? =some o)(y:qd o)(g:qd ob)(q:b<w0.heap.size->kZ G0 h0 b):ix G0 h0 w0 G h (dt w b ob) lo hi L where
 le:=x.le
 size:=by rw[C5];exact x.size
 ownsW:=x.ownsW
 keepW c hc ho hl:=by
  rw[jC w b c ob (iT p),iN];exact x.keepW c hc ho hl;intro e;subst e;exact ho (q hc)
 owns:=x.owns
 names:=x.names
 cells:=x.cells
 quiet:=x.quiet.trans (FU w p y.warm g.warm)
def ix.toExt(x:ix G0 h0 w0 G h w lo hi L)(q: ∀b, ¬L b):cJ G0 h0 w0 G h w lo hi:=
 ⟨x.le,x.size,fun b p g=>x.keepW b p g (q b),x.owns,x.names,x.cells,x.quiet,x.ownsW⟩
def cJ.aside(x:cJ G0 h0 w0 G h w lo hi)(q:w.heap[b]? =some o)(y:qd o)(g:qd ob)(p:b<w0.heap.size->kZ G0 h0 b):cJ G0 h0 w0 G h (dt w b ob) lo hi:=
 (ix.aside (x.toL fun _=>False) q y g p).toExt fun _ h=>h
end
def wK(r:Nat):Deferred:= {target:=.collected r,args:= #[] }
structure vP (lo:Nat) (w:World) (rs:List Nat):Prop where
 nodup:rs.Nodup
 at_: ∀r∈rs,lo<=r/\w.heap[r]? =some (.deferred (some []))
def vP.nil(lo:Nat)(w:World):vP lo w []:=⟨.nil,fun _ h=>by cases h⟩
def Qo(w:World)(b:Nat)(o:Obj):w.putObj b o=dt w b o:=rfl
def ach{G:Gh}: ∀ {ps:List Tmp} {args:List aa} {xs:List Value} {env g:aw} {size:Nat} {tmps:Array Value},Ga ps args env=some g->bR G args xs->
 (∀t∈ps,t<size)->tmps.size=size->(∀t,VR G (ac env t) (tmps.getD t undef))->
 xs.length=ps.length/\((ps.zip xs).foldl (fun tmps (t,a)=>tmps.setIfInBounds t a) tmps).size=size/\ ∀t,VR G (ac g t) (((ps.zip xs).foldl (fun tmps (t,a)=>tmps.setIfInBounds t a) tmps).getD t undef)
 | [],[],xs,env,g,size,tmps,he,hv,hp,hs,ht=>by
   cases hv;simp only[Ga,aH] at he;subst he;exact⟨rfl,hs,ht⟩
 | [],_::_,_,_,_,_,_,he,_,_,_,_=>by cases he
 |_::_,[],_,_,_,_,_,he,_,_,_,_=>by cases he
 |p::ps,v::args,xs,env,g,size,tmps,he,hv,hp,hs,ht=>by
  cases hv with
  |cons a b=>
   rename_i x xs;have q:p<tmps.size:=by rw[hs];exact hp p (by simp)
   have:=ach (tmps:=tmps.setIfInBounds p x) (ps:=ps) he b (fun t h=>hp t (by simp[h])) (by simpa using hs) (fun t=>by
    rw[Ag.getD_set _ _ _ _ q];unfold ac;rw[aC.get_set];by_cases e:t=p;rw[iP e,iP e];exact a;rw[iN e,iN e];exact ht t)
   exact⟨by simp[this.1],this.2⟩
def kY(k:Nat)(ch g:Nat->Nat):Prop:= ∀i,i<k->g i=ch i
def kY.refl(k:Nat)(ch:Nat->Nat):kY k ch ch:=fun _ _=>rfl
def kY.trans{q:Nat}{p g:Nat->Nat}(h:kY k ch p)(h':kY q p g)(y:k<=q):kY k ch g:=fun i hi=>(h' i (gj hi y)).trans (h i hi)
def lA(Q:aD)(ch:Nat->Nat):Prop:= ∀i,ch i<Q.kmax i
def GM(s:St):Prop:= ∀n,s.aL<=n->s.heap.get n=none
variable{s':St}
def GM.goes(h:GM s)(g:fG mk s s'):GM s':=fun n p=>by
 have h0:=h n (eG g.aL p);rw[g.frame n ?_];exact h0;rintro(⟨_,h'⟩|h');exact h' h0;omega
def lZ(P:Program)(f:FuncId)(args:Array Value)(w:World)(R:Value->World->Prop):Prop:=
 (∃y w',(callFunc f args).run P w= .ok (.value y) w'/\R y w')\/
 ((callFunc f args).run P w= .ok (.enter f args) w/\Calls P f args w (fun e w'=> ∃y,e= .returned y/\R y w'))
def lZ.mono{R p:Value->World->Prop}(h:lZ P f args w R)(hr: ∀y w',R y w'->p y w'):lZ P f args w p:=by
 rcases h with⟨y,w',h1,g⟩|⟨h1,g⟩
 exact .inl ⟨y,w',h1,hr y w' g⟩;exact .inr ⟨h1,g.mono fun e w' ⟨y,q,z⟩=>⟨y,q,hr y w' z⟩⟩
def ad9(Q:aD):Prop:=
 ∀f sp,Q.specH f=some sp-> ∀args v (G:Gh) (h:aC aJ) (w:World) (xs:List Value),WR G h w->bR G args xs->fC h.get (sp args)=some v->
  lZ Q.P f ⟨xs⟩ w fun y w'=> ∃G',WR G' h w'/\cJ G h w G' h w' 0 0/\VR G' v y
def aeb(Q:aD):Prop:=
 ∀f sp,Q.specW f=some sp-> ∀args (G:Gh) (h:aC aJ) (w:World) (xs:List Value),WR G h w->bR G args xs->
  (sp args=some none->lZ Q.P f ⟨xs⟩ w fun y w'=> ∃G',WR G' h w'/\cJ G h w G' h w' 0 0/\VR G' (.tup []) y)/\
  ∀n g cs p,sp args=some (some (n,g))->h.get n=some (.cells cs)->fC h.get (g cs)=some (.agg p)->
   lZ Q.P f ⟨xs⟩ w fun y w'=> ∃G',WR G' (h.set n (some (.cells p))) w'/\cJ G h w G' (h.set n (some (.cells p))) w' 0 0/\VR G' (.tup []) y
def aea(Q:aD):Prop:=
 ∀f sp,Q.spec f=some sp-> ∀args v,sp args=some v-> ∀(G:Gh) (h:aC aJ) (w:World) (xs:List Value),WR G h w->bR G args xs->
  lZ Q.P f ⟨xs⟩ w fun y w'=> ∃G',WR G' h w'/\cJ G h w G' h w' 0 0/\VR G' v y
structure lC (mk:aI) (A:Nat->Prop) (G:Gh) (s s2:St) (w:World):Prop where
 fresh:GM s
 sees:iz mk s s2
 wr:WR G s2.heap w
 free: ∀m,s.aL<=m->A m->G.at_ m=none
structure GI (Q:aD) (n:Nat) (f:FuncId) (args:List aa) (mk:aI) (ch:Nat->Nat) (G:Gh) (s s2:St) (w:World) (y:Value) (w':World)
 (ch':Nat->Nat) (v:aa) (s' s2':St) (G':Gh):Prop where
 agree:kY s.ci ch ch'
 inb:lA Q ch'
 eval:(b9 (Q.at ch') n).call f args mk s=some (v,s')
 same:gn mk s s' s2 s2'
 wr:WR G' s2'.heap w'
 ext:cJ G s2.heap w G' s2'.heap w' s.aL s'.aL
 val:VR G' v y
def xK(Q:aD)(n:Nat):Prop:=
 ∀(f:FuncId) (args:List aa) (mk:aI) (s s2:St) (G:Gh) (w:World) (xs:List Value) (ch:Nat->Nat) (A:Nat->Prop),
  lC mk A G s s2 w->bR G args xs->lA Q ch->
  (∀g,kY s.ci ch g->lA Q g-> ∃v s',(b9 (Q.at g) n).call f args mk s=some (v,s')/\ ∀m,s.aL<=m->m<s'.aL->A m)->
  lZ Q.P f ⟨xs⟩ w fun y w'=> ∃g v s' s2' G',GI Q n f args mk ch G s s2 w y w' g v s' s2' G'
section
variable{G G' G'':Gh}{h h' h'':aC aJ}{w w' w'':World}{lo mid hi:Nat}{L L':Nat->Prop}
def ix.trans(x:ix G h w G' h' w' lo mid L)(y:ix G' h' w' G'' h'' w'' mid hi L')(g: ∀b,L' b->L b\/w.heap.size<=b)(l1:lo<=mid)(l2:mid<=hi):
 ix G h w G'' h'' w'' lo hi L where
 le:=x.le.trans y.le
 size:=eG x.size y.size
 keepW b hb ho hl:=(y.keepW b (gj hb x.size) (fun o=>ho (x.ownsW b hb o)) (fun l=>(g b l).elim hl (fun h=>by omega))).trans (x.keepW b hb ho hl)
 ownsW b hb o:=x.ownsW b hb (y.ownsW b (gj hb x.size) o)
 owns b hb o:=x.owns b hb (y.owns b (gj hb x.size) o)
 names n a h h0:=by
  cases e:G'.at_ n with
  |none=>have:=y.names n a h e;omega
  |some b=>have:=x.names n b e h0;omega
 cells b o v hb h h0:=by
  cases e:G'.ro b o with
  |none=>exact x.owns b hb (y.cells b o v (gj hb x.size) h e)
  |some u=>exact x.cells b o u hb e h0
 quiet:=x.quiet.trans y.quiet
def ix.widen{lo' hi':Nat}(x:ix G h w G' h' w' lo hi L)(h1:lo'<=lo)(p:hi<=hi'):ix G h w G' h' w' lo' hi' L:=
 ⟨x.le,x.size,x.keepW,x.owns,fun n a e g=>by have:=x.names n a e g;omega,x.cells,x.quiet,x.ownsW⟩
end
def Vg{G' G'':Gh}{h' h'':aC aJ}{w'':World}{d d' g:List Deferred}{lo l1 l2:Nat}(wr:WR G' h' w')(fx:cz G' h' B' fr' tmps w')(x: ∃rs,d'=rs.map wK++d/\vP lo w' rs)(C:lo<=w'.heap.size)(ex:ix G' h' w' G'' h'' w'' l1 l2 (LB B' fr'.loc))(y: ∃rs,g=rs.map wK++d'/\vP w'.heap.size w'' rs):
 ∃rs,g=rs.map wK++d/\vP lo w'' rs:=by
 obtain⟨E,J,z⟩:=x;obtain⟨O,I,p⟩:=y;have keep: ∀r∈E,w''.heap[r]? =some (.deferred (some [])):=fun r hr=>by
  have h1:=(z.at_ r hr).2;exact(ex.keep r (iT h1) (wr.not_deferred h1) (fx.not_LB h1 trivial)).trans h1
 refine⟨O++E,by rw[I,J];simp,⟨?_,?_⟩⟩;rw[List.nodup_append];refine⟨p.nodup,z.nodup,fun r hr q R e=>?_⟩;subst e;have h1:=(p.at_ r hr).1;have T:=iT (z.at_ r R).2;omega;intro r hr;rcases List.mem_append.1 hr with hr|hr
 exact⟨eG C (p.at_ r hr).1,(p.at_ r hr).2⟩;exact⟨(z.at_ r hr).1,keep r hr⟩
structure o0 (mk:aI) (fr:Fr) (G:Gh) (B:Nat->Nat) (s s2:St) (a:Act) (w:World) (fr':Fr) (G':Gh) (B':Nat->Nat) (s' s2':St) (a':Act) (w':World):Prop where
 goes:fG mk s s'
 same:gn mk s s' s2 s2'
 wr:WR G' s2'.heap w'
 ext:ix G s2.heap w G' s2'.heap w' s.aL s'.aL (LB B fr.loc)
 fx:cz G' s2'.heap B' fr' a'.tmps w'
 boxes: ∀b,LB B' fr'.loc b->LB B fr.loc b\/w.heap.size<=b
 defers: ∃rs,a'.defers=rs.map wK++a.defers/\vP w.heap.size w' rs
section
variable{mk:aI}{A:Nat->Prop}{fr fr' fr'':Fr}{G G' G'':Gh}{B B' B'':Nat->Nat}{s s' s'' s2 s2' s2'':St}{a a' a'':Act}{w w' w'':World}
def o0.refl(p:lC mk A G s s2 w)(fx:cz G s2.heap B fr a.tmps w):o0 mk fr G B s s2 a w fr G B s s2 a w where
 goes:=.refl _ _
 same:=.refl p.sees
 wr:=p.wr
 ext:=cJ.refl.toL _
 fx:=fx
 boxes _ h:=.inl h
 defers:=⟨[],rfl,.nil _ _⟩
def o0.trans(x:o0 mk fr G B s s2 a w fr' G' B' s' s2' a' w')(y:o0 mk fr' G' B' s' s2' a' w' fr'' G'' B'' s'' s2'' a'' w''):
 o0 mk fr G B s s2 a w fr'' G'' B'' s'' s2'' a'' w'' where
 goes:=x.goes.trans y.goes
 same:=.trans x.goes y.goes x.same y.same
 wr:=y.wr
 ext:=x.ext.trans y.ext x.boxes x.goes.aL y.goes.aL
 fx:=y.fx
 boxes b h:=by
  rcases y.boxes b h with h|h
  exact x.boxes b h;exact .inr (eG x.ext.size h)
 defers:=Vg x.wr x.fx x.defers x.ext.size y.ext y.defers
def lC.after(p:lC mk A G s s2 w)(x:o0 mk fr G B s s2 a w fr' G' B' s' s2' a' w'):lC mk A G' s' s2' w' where
 fresh:=p.fresh.goes x.goes
 sees:=x.same.sees p.sees x.goes
 wr:=x.wr
 free m hm hA:=by
  cases e:G'.at_ m with
  |none=>rfl
  |some g=>
   have h0:=p.free m (eG x.goes.aL hm) hA
   have:=x.ext.names m g e h0;omega
def Lf(a:Act)(d:Option Tmp)(v:Value):(a.put d v).defers=a.defers:=by
 cases d<;>rfl
end
variable{a:Act}{fr1:Fr}{s2:St}
section
variable{α β:Type}
def sO(Q:aD)(A:Nat->Prop)(ch:Nat->Nat)(s:St)(E:(Nat->Nat)->Option (α×Fr×St)):Prop:=
 ∀g,kY s.ci ch g->lA Q g-> ∃x fr' s',E g=some (x,fr',s')/\ ∀m,s.aL<=m->m<s'.aL->A m
def ug(Q:aD)(mk:aI)(ch:Nat->Nat)(fr:Fr)(G:Gh)(B:Nat->Nat)(s s2:St)(a:Act)(w:World)(E:(Nat->Nat)->Option (α×Fr×St))(x:α)(a':Act)(w':World):Prop:=
 ∃g fr' s' s2' G' B',kY s.ci ch g/\lA Q g/\E g=some (x,fr',s')/\o0 mk fr G B s s2 a w fr' G' B' s' s2' a' w'
def KR(E:(Nat->Nat)->Option (α×Fr×St)):Prop:= ∀ch x fr' s',E ch=some (x,fr',s')-> ∀g,kY s'.ci ch g->E g=some (x,fr',s')
variable{Q:aD}{A:Nat->Prop}{ch ch1:Nat->Nat}{s s1:St}{E1:(Nat->Nat)->Option (α×Fr×St)}{E2:α->Fr->St->(Nat->Nat)->Option (β×Fr×St)}
theorem sO.first(q:sO Q A ch s (fun c=>(E1 c).bind fun r=>E2 r.1 r.2.1 r.2.2 c))(g: ∀x fr' s' c y fr'' s'',E2 x fr' s' c=some (y,fr'',s'')->s'.aL<=s''.aL):sO Q A ch s E1:=by
 intro p h1 z;obtain⟨x,fr',s',E,C⟩:=q p h1 z
 grind [aj]
theorem sO.second(z:sO Q A ch s (fun c=>(E1 c).bind fun r=>E2 r.1 r.2.1 r.2.2 c))(C:KR E1){x:α}(q:kY s.ci ch ch1)(J:E1 ch1=some (x,fr1,s1))(p:s.ci<=s1.ci)(E:s.aL<=s1.aL):
 sO Q A ch1 s1 (E2 x fr1 s1):=by
 intro g h1 I;obtain⟨y,fr',s',R,O⟩:=z g (q.trans h1 p) I
 have:=C ch1 x fr1 s1 J g h1
 grind
def ug.second{G G1:Gh}{J:Nat->Nat}{g:St}{I a':Act}{C:World}{x:α}{y:β}(O:KR E1)(z:kY s.ci ch ch1)(V:E1 ch1=some (x,fr1,s1))(E:o0 mk fr G B s s2 a w fr1 G1 J s1 g I C)(p:ug Q mk ch1 fr1 G1 J s1 g I C (E2 x fr1 s1) y a' w'):
 ug Q mk ch fr G B s s2 a w (fun c=>(E1 c).bind fun r=>E2 r.1 r.2.1 r.2.2 c) y a' w':=by
 obtain⟨q,fr',s',s2',G',B',h1,U,T,R⟩:=p;refine⟨q,fr',s',s2',G',B',z.trans h1 E.goes.ci,U,?_,E.trans R⟩;simp only[O ch1 x fr1 s1 V q h1,bg];exact T
end
def Ex.to:Ex->Exit
 | .normal=>.normal
 | .exit id=>.exit id
 | .ret=>.ret
noncomputable def lg(Q:aD)(n:Nat)(f:FuncId)(c:Code)(mk:aI)(fr:Fr)(s:St)(ch:Nat->Nat):Option (Ex×Fr×St):=(b9 (Q.at ch) n).code f c mk fr s
def xM(ro:Option Nat)(G:Gh)(h:aC aJ)(w:World):Prop:= ∀l,ro=some l->(∃r:Loop,w.heap[l]? =some (.loop r))/\ ¬eB G h l
def xM.none{G:Gh}:xM .none G h w:=fun _ h=>by cases h
def xM.after{ro:Option Nat}{G G':Gh}{s2':St}{a':Act}(h:xM ro G s2.heap w)(fx:cz G s2.heap B fr a.tmps w)(x:o0 mk fr G B s s2 a w fr' G' B' s' s2' a' w'):xM ro G' s2'.heap w':=fun l hl=>by
 obtain⟨⟨r,h1⟩,p⟩:=h l hl;have g:=iT h1;exact⟨⟨r,(x.ext.keep l g p (fx.not_LB h1 trivial)).trans h1⟩,fun o=>p (x.ext.owns l g o)⟩
def sF(Q:aD)(n:Nat):Prop:=
 ∀(ro:Option Nat) (f:FuncId) (c:Code) (mk:aI) (fr:Fr) (ch:Nat->Nat) (A:Nat->Prop) (G:Gh) (B:Nat->Nat) (s s2:St) (a:Act) (w:World),(ro≠none->dv c=true)->xM ro G s2.heap w->
  lC mk A G s s2 w->cz G s2.heap B fr a.tmps w->lA Q ch->sO Q A ch s (lg Q n f c mk fr s)->
  ∀K:Exit->Act->World->Prop,(∀x a' w',ug Q mk ch fr G B s s2 a w (lg Q n f c mk fr s) x a' w'->K x.to a' w')->
   c.wpIn (mn ro) 0 Q.P K a w/\ ∀b,c= .loop b->Code.roundsIn (mn ro) 0 Q.P b K n a w
def Mf(Q:aD)(n:Nat)(f:FuncId)(c:Code)(mk:aI)(fr:Fr)(s:St):KR (lg Q n f c mk fr s):=
 fun ch x fr' s' h p g=>(tE Q n).code f c mk fr ch s x fr' s' h p g
def Va{c:Code}{x:Ex}(h:lg Q n f c mk fr s ch=some (x,fr',s')):fG mk s s':=
 ((lN Q n).code f c mk fr ch s x fr' s' h).1
structure Ts (Q:aD) (n:Nat) (m:Nat) (args:List aa) (mk:aI) (ch:Nat->Nat) (G:Gh) (s s2:St) (w:World) (y:Value) (w':World)
 (ch':Nat->Nat) (v:aa) (s' s2':St) (G':Gh):Prop where
 agree:kY s.ci ch ch'
 inb:lA Q ch'
 eval:mO (b9 (Q.at ch') n) m args mk s=some (v,s')
 same:gn mk s s' s2 s2'
 wr:WR G' s2'.heap w'
 ext:cJ G s2.heap w G' s2'.heap w' s.aL s'.aL
 val:VR G' v y
variable{xs:List Value}{args:List aa}{m:Nat}{A:Nat->Prop}
theorem auK(d0:sF Q n)(ro:Option Nat){G:Gh}(p:lC mk A G s s2 w)(hv:bR G args xs)(hi:lA Q ch){ad:Addr}(hm:G.at_ m=some ad)(hs: ∀Y,kY s.ci ch Y->lA Q Y-> ∃v s',mO (b9 (Q.at Y) n) m args mk s=some (v,s')/\ ∀q,s.aL<=q->q<s'.aL->A q):
 ∃g:Loop,w.heap[ad.block]? =some (.loop g)/\xs.length=g.params.size/\
  RoundIn (mn ro) 0 Q.P ad.block g.fn ((g.params.zip ⟨xs⟩).foldl (fun tmps (t,a)=>tmps.setIfInBounds t a) g.tmps) g.assign g.body w
   (fun e w'=> ∃y,e= .returned y/\ ∃Y v s' s2' G',Ts Q n m args mk ch G s s2 w y w' Y v s' s2' G'):=by
 obtain⟨v0,s0,h0,_⟩:=hs ch (.refl _ _) hi;simp only[mO,aj] at h0;obtain⟨o,ho,⟨u,o',s3⟩,V,_⟩:=h0;unfold Be at V;split at V
 case h_2=>cases V
 rename_i f env C ps a b;obtain⟨c6,V⟩:=aY V;simp only[aj] at V;obtain⟨a6,b2,_⟩:=V;have b5:=(tf (p.sees.look ho)).2;obtain⟨f0,a9,e3,g,a0,U⟩:=p.wr.obj m _ b5;rw[hm] at a9;injection a9 with a9;subst a9
 have g1:=fG.put ho (mk:=mk) none;have y1:iz mk (s.put m none) (s2.put m none):=(gn.put p.sees ho none).sees p.sees g1;have d5:WR G (s2.put m none).heap w:=p.wr.killed m;have c7: ¬eB G (s2.put m none).heap ad.block:=Ji p.wr (by rw[b5];simp) hm;have E:kZ G s2.heap ad.block:=⟨m,ad,_,b5,rfl,hm,rfl⟩;have a8:eB G s2.heap ad.block:=E.owns;have hl:=iT a0;have p1:lC mk A G (s.put m none) (s2.put m none) w:=⟨p.fresh.goes g1,y1,d5,p.free⟩;have c5: ∀t∈ps,t<C:=fun t ht=>qo (fu.1 c6 t ht);obtain⟨c8,e0,c0⟩:=ach b2 hv c5 U.size U.env;have b8:(g.params.zip ⟨xs⟩).foldl (fun tmps (t,a)=>tmps.setIfInBounds t a) g.tmps=(ps.zip xs).foldl (fun tmps (t,a)=>tmps.setIfInBounds t a) g.tmps:=by
  rw[<-U.params];have:g.params.zip (⟨xs⟩:Array Value)=(⟨g.params.toList.zip xs⟩:Array (Tmp×Value)):=by apply qa;simp
  rw[this];simp
 have a3:g.params.size=ps.length:=by rw[<-U.params];simp
 have e7: ∀t,Loc.get [] t (Loc.gen [] t)=none:=fun t=>rfl;have e5:cz G (s2.put m none).heap (fun _=>0) ⟨a6,C,[]⟩ ((ps.zip xs).foldl (fun tmps (t,a)=>tmps.setIfInBounds t a) g.tmps) w:=
  ⟨e0,fun t=>LV.of_VR (c0 t),⟨(fun t cs h=>by cases h),(fun t cs h=>by cases h),(fun t cs h=>by cases h),(fun t u cs ds h=>by cases h)⟩⟩
 have b0: ∀c,mO (b9 (Q.at c) n) m args mk s=((lg Q n f a mk ⟨a6,C,[]⟩ (s.put m none) c).bind (zq (b9 (Q.at c) n) f env C ps a b mk)).bind fun x=>some (x.1,x.2.2.put m (some x.2.1)):=by
  intro c;simp only[mO,ho,bg,Be,c6,cT,b2];rfl
 refine⟨g,a0,by rw[c8,a3],?_⟩;rw[b8,U.assign,U.body];refine roundIn_of_wpIn (Aa ro _) ?_;rw[aiE];refine(d0 (some ad.block) f a mk ⟨a6,C,[]⟩ ch A G (fun _=>0) (s.put m none) (s2.put m none) ⟨_,[]⟩ w (fun _=>U.flatA) (fun l hl=>by grind) p1 e5 hi ?_ _ ?_).1;intro c h1 h2;obtain⟨v,s',h3,h4⟩:=hs c h1 h2;rw[b0] at h3;simp only[aj,aH,bu] at h3;obtain⟨⟨u,o',s5⟩,⟨⟨x,fr',s4⟩,h5,h6⟩,_,rfl⟩:=h3;refine⟨x,fr',s4,h5,fun q hq b4=>h4 q hq (gj b4 ?_)⟩;cases x with
 |exit i=>cases h6
 |ret=>cases h6
 |normal=>
  simp only[zq,aj] at h6;obtain⟨⟨T,a5,s6⟩,h7,h8⟩:=h6;have e6:s6=s5:=by cases T<;>(grind [Bd])
  subst e6;exact(Va (Q:=Q) (n:=n) (ch:=c) h7).aL
 rintro x a1 w1 ⟨c1,fr1,s3,Z,G1,B1,c3,c4,e1,z⟩;obtain⟨v,s',h3,h4⟩:=hs c1 c3 c4;have e8:=h3;rw[b0,e1] at h3;simp only[bg,aj,aH,bu] at h3;obtain⟨⟨u,o',s5⟩,h6,_,rfl⟩:=h3;have e4: ¬LB (fun _=>0) ([]:Loc) ad.block:=fun⟨t,cs,h,_⟩=>by cases h
 have O:w1.heap[ad.block]? =some (.loop g):=(z.ext.keep _ hl c7 e4).trans a0;have a4: ¬eB G1 Z.heap ad.block:=fun o=>c7 (z.ext.owns _ hl o);cases x with
 |exit i=>cases h6
 |ret=>cases h6
 |normal=>
  refine⟨_,run_beginRound O U.state,?_⟩;rw[Qo];have a7:=p1.after z;have p2:lC mk A G1 s3 Z (dt w1 ad.block (.loop {g with state:=.busy })):=⟨a7.fresh,a7.sees,a7.wr.aside O trivial a4,a7.free⟩;have d2:cz G1 Z.heap B1 fr1 a1.tmps (dt w1 ad.block (.loop {g with state:=.busy })):=z.fx.aside O trivial;have b7:=iT O;have d1:(dt w1 ad.block (.loop {g with state:=.busy })).heap[ad.block]? =some (.loop {g with state:=.busy }):=by rw[jC _ _ _ _ b7,iP rfl]
  refine(d0 (some ad.block) f b mk fr1 c1 A G1 B1 s3 Z a1 _ (fun _=>U.flatB) (fun l hl=>by grind) p2 d2 c4 ?_ _ ?_).1;intro c h1 h2;obtain⟨v,s',h7,h8⟩:=hs c (c3.trans h1 z.goes.ci) h2;rw[b0,Mf Q n f a mk _ _ c1 _ _ _ e1 c h1] at h7;simp only[bg,aj,aH,bu,zq] at h7;obtain⟨⟨u,o',s6⟩,⟨⟨T,a5,s7⟩,h9,e9⟩,_,rfl⟩:=h7;refine⟨T,a5,s7,h9,fun q hq b4=>h8 q (eG z.goes.aL hq) ?_⟩;have e6:s7=s6:=by cases T<;>(grind [Bd])
  subst e6;exact b4;rintro T a2 w3 ⟨c2,a5,s6,b3,G2,B2,d4,d6,e2,R⟩;have J:w3.heap[ad.block]? =some (.loop {g with state:=.busy }):=(R.ext.keep _ (by rw[C5];exact b7) a4 (d2.not_LB d1 trivial)).trans d1;have b1: ¬eB G2 b3.heap ad.block:=fun o=>a4 (R.ext.owns _ (by rw[C5];exact b7) o);have b6:G2.at_ m=some ad:=R.ext.le.at_ _ _ (z.ext.le.at_ _ _ hm);have fin: ∀(I:Option Code) (pe:Option Ex),I=pe.map Ex.code->Bd f env C ps a b (T,a5,s6)=some (.bool I.isNone,.loop f env C ps a b pe,s6)->
   ∃v w',(Instr.endRound ad.block I).run Q.P w3= .ok v w'/\ ∃y,Ending.returned v= .returned y/\ ∃Y v s' s2' G',Ts Q n m args mk ch G s s2 w y w' Y v s' s2' G':=by
   intro I pe hj d7;refine⟨_,_,run_endRound I J,_,rfl,c2,.bool I.isNone,s6.put m (some (.loop f env C ps a b pe)),b3.put m (some (.loop f env C ps a b pe)),G2,?_⟩;rw[Qo];have c9:ix G s2.heap w G2 b3.heap w3 s.aL s6.aL (fun _=>False):=by
    have x0:cJ G s2.heap w G (s2.put m none).heap w s.aL s.aL:=cJ.killed;have x1:ix G s2.heap w G1 Z.heap (dt w1 ad.block (.loop {g with state:=.busy })) s.aL s3.aL (fun _=>False):=
     ((x0.toL fun _=>False).trans z.ext (fun b h=>by obtain⟨t,cs,h,_⟩:=h;cases h) (bk _) z.goes.aL).aside O trivial trivial (fun _=>E)
    exact x1.trans R.ext (fun b h=>by
     rcases z.boxes b h with h|h
     obtain⟨t,cs,h,_⟩:=h;cases h;exact .inr h) z.goes.aL R.goes.aL
   refine⟨c3.trans d4 z.goes.ci,d6,?_,(gn.trans z.goes R.goes z.same R.same).hide p.sees ho _,?_,?_,.bool _⟩;rw[b0,Mf Q n f a mk _ _ c1 _ _ _ e1 c2 d4];have e2:(b9 (Q.at c2) n).code f b mk fr1 s3=some (T,a5,s6):=e2;simp only[bg,zq,e2,d7];refine(R.wr.aside J trivial b1).back b6 e3 b1 ⟨_,by rw[jC _ _ _ _ (iT J),iP rfl],?_⟩ (R.wr.aside_ro J trivial);refine⟨?_,hj,U.size,fun t=>(U.env t).mono (z.ext.le.trans R.ext.le),U.params,U.assign,U.body,U.flatA,U.flatB⟩;cases pe<;>(subst hj;rfl);have T:=(c9.toExt fun _ h=>h).aside (ob:=.loop { {g with state:=.busy } with state:=if I.isNone then .ready else .done,pending:=I }) J trivial trivial (fun _=>E);exact⟨T.le,T.size,T.keepW,fun c hc o=>by
    rcases atH b6 o with rfl|o
    exact a8;exact T.owns c hc o,T.names,T.cells,T.quiet,fun c hc o=>by
    rcases atG b6 o with rfl|o
    exact E;exact T.ownsW c hc o⟩
  cases T with
  |normal=>exact fin none none rfl rfl
  |exit id=>exact fin (some (.exit id)) (some (.exit id)) rfl rfl
  |ret=>exact fin (some .ret) (some .ret) rfl rfl
structure KP (Q:aD) (n:Nat) (f:FuncId) (o:Oper) (mk:aI) (fr:Fr) (ch:Nat->Nat) (G:Gh) (B:Nat->Nat) (s s2:St) (w:World) (x:Value) (w':World)
 (ch':Nat->Nat) (v:aa) (loc':Loc) (s' s2':St) (G':Gh) (B':Nat->Nat):Prop where
 agree:kY s.ci ch ch'
 inb:lA Q ch'
 eval:eW (Q.at ch') (b9 (Q.at ch') n) f o mk fr s=some (v,loc',s')
 same:gn mk s s' s2 s2'
 wr:WR G' s2'.heap w'
 ext:ix G s2.heap w G' s2'.heap w' s.aL s'.aL (LB B fr.loc)
 locs:qe G' s2'.heap B' loc' w'
 val:LV G' loc' B' v x
 old: ∀u y,LV G fr.loc B u y->LV G' loc' B' u y
 boxes: ∀b,LB B' loc' b->LB B fr.loc b\/w.heap.size<=b
def arN{it:aa}{b:Bool}{r:aa×St}(h:oS mk ch kmax it b s=some r)(z:2<=ka mk it s):ka mk it s<=kmax s.ci:=by
 unfold oS at h;split at h;rename_i n;simp only[aj] at h;obtain⟨ob,y,h⟩:=h;split at h;simp[ka,y] at z;rename_i m C g p;cases b;simp only[cF,aj] at h;obtain⟨J,q,h⟩:=h;split at h;rename_i I E;have O:ka mk (.ptr n 0) s=(lS g I).length:=by simp[ka,y,q]
 rw[O] at z ⊢;rcases gu h with⟨_,h⟩|⟨_,h⟩
 cases h;generalize lS g I=l at h z;unfold tH at h;split at h;simp at z;obtain⟨_,h⟩:=aY h;split at h;simp at z;obtain⟨h,_⟩:=aY h;exact kH h;cases h;cases h;cases h;cases h
theorem aaO(hc:xK Q n)(c5:sF Q n)(ro:Option Nat){G:Gh}(p:lC mk A G s s2 w)(fx:cz G s2.heap B fr a.tmps w)(hi:lA Q ch)(he: ∀q,kY s.ci ch q->lA Q q-> ∃v loc' s',eW (Q.at q) (b9 (Q.at q) n) f o mk fr s=some (v,loc',s')/\ ∀m,s.aL<=m->m<s'.aL->A m)(K:Act->World->Prop)(E:Exit->Act->World->Prop)(hK: ∀x w' q v loc' s' s2' G' B',KP Q n f o mk fr ch G B s s2 w x w' q v loc' s' s2' G' B'->K (a.put o.dst x) w'):o.wpIn (mn ro) 0 Q.P a w K E:=by
 have a4:bF mk (fun ch s=>eW (Q.at ch) (b9 (Q.at ch) n) f o mk fr s):=Fm (Q:=Q) (lN Q n) f o mk fr;have plain:(∀c,o.op≠ .defer c)->(∀q s,eW (Q.at q) (b9 (Q.at q) n) f o mk fr s=lF Q.P mk q Q.kmax (Q.hint f) o.dst o.op fr s)->o.wpIn (mn ro) 0 Q.P a w K E:=by
  intro a0 O;have a7: ∃q,kY s.ci ch q/\lA Q q/\ ∀x b U,o.op= .next x b->evc fr.env x=some U->2<=ka mk U s2->
   q s2.ci % ka mk U s2=(w.tape w.drawn (.mapNext (ka mk U s2))) % ka mk U s2:=by
   by_cases hn: ∃x b U,o.op= .next x b/\evc fr.env x=some U/\2<=ka mk U s2
   obtain⟨x,b,U,b1,b0,c0⟩:=hn;obtain⟨v,loc',s',h1,_⟩:=he ch (.refl _ _) hi;obtain⟨s2',h3,_⟩:=(a4 ch s v loc' s' h1).2 ch s2 (fun _ _=>rfl) p.sees;have c4:ka mk U s2<=Q.kmax s.ci:=by
    have h3:eW (Q.at ch) (b9 (Q.at ch) n) f o mk fr s2=some (v,loc',s2'):=h3;rw[O,b1] at h3;simp only[lF,b0,bg,f8,aj] at h3;obtain⟨r,hr,_⟩:=h3;rw[<-p.sees.ci];exact arN hr c0
   refine⟨fun i=>if i=s.ci then(w.tape w.drawn (.mapNext (ka mk U s2))) % ka mk U s2 else ch i,?_,?_,?_⟩;intro i c9
   grind
   intro i;simp only;split;rename_i e;subst e;exact gj (Nat.mod_lt _ (by omega)) c4;exact hi i;intro x' b' c8 a3 a2 _;rw[b1] at a3;injection a3 with e1 e2
   subst e1;rw[b0] at a2;injection a2 with e3
   subst e3;simp only;rw[iP p.sees.ci,Nat.mod_mod];exact⟨ch,.refl _ _,hi,fun x b U h1 h2 h3=>absurd ⟨x,b,U,h1,h2,h3⟩ hn⟩
  obtain⟨q,b7,b3,a7⟩:=a7;obtain⟨v,loc',s',h1,h2⟩:=he q b7 b3;obtain⟨g,hl⟩:=a4 q s v loc' s' h1;obtain⟨s2',h3,h4⟩:=hl q s2 (fun _ _=>rfl) p.sees;have c6:lF Q.P mk q Q.kmax (Q.hint f) o.dst o.op fr s2=some (v,loc',s2'):=by rw[<-O];exact h3
  have a6:=afd p.wr fx c6 (fun m b2 c3=>p.free m (by rw[<-p.sees.aL];exact b2) (h2 m (by rw[<-p.sees.aL];exact b2) (by rw[<-h4.aL];exact c3))) a7;obtain⟨nx,x,w',G',B',r1,r2,r3,r4,r5,r6,r7,r8⟩:=a6;have b8:ix G s2.heap w G' s2'.heap w' s.aL s'.aL (LB B fr.loc):=by rw[<-p.sees.aL,<-h4.aL];exact r4
  have hk:=hK x w' q v loc' s' s2' G' B' ⟨b7,b3,h1,h4,r3,b8,r5,r6,r7,r8⟩;refine⟨fun _ _=>Aa ro _,?_⟩;rw[Oper.semAt_eq _ _ _ a0,r1];rcases r2 with rfl|⟨rfl,rfl⟩<;>exact hk
 cases O:o.op
 case call c=>
  cases hcl:c.callee with
  |builtin b=>exact plain (fun c h=>by rw[O] at h;cases h) fun q s=>by simp only[eW,O,hcl,lF];rfl
  |invoke x y=>
   obtain⟨v,loc',s',h1,_⟩:=he ch (.refl _ _) hi
   simp_all [eW,pj,callee,oO]
  |value g=>
   have a0: ∀c,o.op≠ .defer c:=fun c h=>by rw[O] at h;cases h
   cases hyld:oO fr.env c with
   |true=>
    have J: ∀q s,eW (Q.at q) (b9 (Q.at q) n) f o mk fr s=sn (b9 (Q.at q) n) c mk fr s:=fun q s=>by grind [eW]
    obtain⟨v0,a9,s0,h0,_⟩:=he ch (.refl _ _) hi;rw[J] at h0;simp only[sn,aj] at h0;obtain⟨⟨m,args⟩,I,_⟩:=h0;have a5:=I;simp only[yieldee,hcl,aj] at I;obtain⟨gv,hg,I⟩:=I;have R:=fx.ev hg;cases gv<;>try (cases I;done)
    rename_i m';simp only[aj,aH,bu] at I;obtain⟨as,a8,rfl,rfl⟩:=I;have R:VR G (.yld m') (a.eval g):=R;generalize hgx:a.eval g=gx at R;cases R with
    |yld hm=>
     rename_i ad;have T:=(fx.evcs a8).1;obtain⟨V,q1,q2,q3⟩:=auK c5 ro p T hi hm (fun q ha hb=>by
      grind [sn,aj])
     have Z:(execOp a.eval o).run Q.P w= .ok (.round ad.block V.fn ((V.params.zip ⟨c.args.toList.map a.eval⟩).foldl (fun tmps (t,a)=>tmps.setIfInBounds t a) V.tmps) V.assign V.body) w:=by
      have c2:(⟨c.args.toList.map a.eval⟩:Array Value).size=V.params.size:=by rw[<-q2];rfl
      have:=run_yield (P:=Q.P) (args:=⟨c.args.toList.map a.eval⟩) q1 c2;have e:(#[]:Array Value)++c.args.map a.eval=⟨c.args.toList.map a.eval⟩:=by apply qa;simp
      simp only[execOp,O,resolve,hcl,hgx,Deferred.ofValue,Sem.run_bind,Sem.run_pure,lX,invoke,e];exact this
     refine⟨fun _ _=>Aa ro _,?_⟩;rw[Oper.semAt_eq _ _ _ a0,Z];refine⟨MU ro 0,q3.mono ?_⟩;rintro e w' ⟨y,rfl,q,v,s',s2',G',c1⟩;refine hK y w' q v fr.loc s' s2' G' B ⟨c1.agree,c1.inb,?_,c1.same,c1.wr,c1.ext.toL _,fx.locs.ext c1.ext,LV.of_VR c1.val,fun _ _ h=>h.mono c1.ext.le,fun _ h=>.inl h⟩;rw[J];simp only[sn,a5,bg,c1.eval]
   |false=>
   have J: ∀q s,eW (Q.at q) (b9 (Q.at q) n) f o mk fr s=pj (b9 (Q.at q) n) c mk fr s:=fun q s=>by grind [eW]
   obtain⟨v0,a9,s0,h0,_⟩:=he ch (.refl _ _) hi;rw[J] at h0;simp only[pj,aj] at h0;obtain⟨⟨fn,args⟩,z,_⟩:=h0;have Y:=z;simp only[callee,hcl,aj] at z;obtain⟨gv,hg,z⟩:=z;have R:=fx.ev hg;cases gv<;>try (cases z;done)
   rename_i c7 first C
   cases c7<;>try (cases z;done)
   rename_i a1;simp only[aj] at z;obtain⟨as,a8,z⟩:=z;simp only[aH,bu] at z;obtain⟨rfl,rfl⟩:=z;have R:VR G (.func (.func a1) first C) (a.eval g):=R;generalize hgx:a.eval g=gx at R;cases R with
   |func hf b5=>
    rename_i fs cs;have T:=(fx.evcs a8).1;have b6:bR G (first++(as++C)) (fs++(c.args.toList.map a.eval++cs)):=hf.append (T.append b5);have Z:(execOp a.eval o).run Q.P w=(callFunc a1 ⟨fs++(c.args.toList.map a.eval++cs)⟩).run Q.P w:=by
     have:(((⟨fs⟩:Array Value)++c.args.map a.eval)++(⟨cs⟩:Array Value))=⟨fs++(c.args.toList.map a.eval++cs)⟩:=by
      apply qa;simp
     simp only[execOp,O,resolve,hcl,hgx,Deferred.ofValue,Sem.run_bind,Sem.run_pure,lX,invoke,this]
    have b4:=hc a1 (first++(as++C)) mk s s2 G w _ ch A p b6 hi (fun q ha hb=>by
     grind [pj,aj])
    have fin: ∀y w',(∃q v s' s2' G',GI Q n a1 (first++(as++C)) mk ch G s s2 w y w' q v s' s2' G')->K (a.put o.dst y) w':=by
     rintro y w' ⟨q,v,s',s2',G',c⟩;refine hK y w' q v fr.loc s' s2' G' B ⟨c.agree,c.inb,?_,c.same,c.wr,c.ext.toL _,fx.locs.ext c.ext,LV.of_VR c.val,fun _ _ h=>h.mono c.ext.le,fun _ h=>.inl h⟩;rw[J];simp only[pj,Y,bg,c.eval]
    refine⟨fun _ _=>Aa ro _,?_⟩;rw[Oper.semAt_eq _ _ _ a0,Z];rcases b4 with⟨y,w',h1,h2⟩|⟨h1,h2⟩
    rw[h1];exact fin y w' h2;rw[h1];refine⟨MU ro 0,Vy.2 (h2.mono ?_)⟩
    grind
 case defer c=>
  obtain⟨v,loc',s',h1,_⟩:=he ch (.refl _ _) hi
  grind [eW,lF]
 all_goals exact plain (fun c h=>by rw[O] at h;cases h) fun q s=>by simp only[eW,O];rfl
section
variable{mk:aI}{A:Nat->Prop}{fr fr' fr'':Fr}{G G' G'':Gh}{B B' B'':Nat->Nat}{s s' s'' s2 s2' s2'':St}{a a' a'':Act}{w w' w'':World}
def KP.after{g:Nat->Nat}{loc':Loc}(fx:cz G s2.heap B fr a.tmps w)(q:KP Q n f o mk fr ch G B s s2 w x w' g v loc' s' s2' G' B')(hp:cN fr o.dst v loc'=some fr'):
 o0 mk fr G B s s2 a w fr' G' B' s' s2' (a.put o.dst x) w' where
 goes:=(Fm (Q:=Q) (lN Q n) f o mk fr g s v loc' s' q.eval).1
 same:=q.same
 wr:=q.wr
 ext:=q.ext
 fx:=fx.put hp q.locs q.val q.old
 boxes b h:=q.boxes b (by rw[(tL hp).2.1] at h;exact h)
 defers:=⟨[],Lf _ _ _,.nil _ _⟩
def RI(G:Gh):VR G fN undef:=.tup .nil
def o0.skip(p:lC mk A G s s2 w)(fx:cz G s2.heap B fr a.tmps w)(hp:cN fr dst fN fr.loc=some fr'):
 o0 mk fr G B s s2 a w fr' G B s s2 (a.put dst undef) w where
 goes:=.refl _ _
 same:=.refl p.sees
 wr:=p.wr
 ext:=cJ.refl.toL _
 fx:=fx.put hp fx.locs (LV.of_VR (RI G)) fun _ _ h=>h
 boxes b h:=.inl (by rw[(tL hp).2.1] at h;exact h)
 defers:=⟨[],Lf _ _ _,.nil _ _⟩
end
noncomputable def vd(Q:aD)(n:Nat)(f:FuncId)(all:Array Oper)(mk:aI)(l:List Oper)(fr:Fr)(s:St)(ch:Nat->Nat):Option (Ex×Fr×St):=
 ((b9 (Q.at ch) n).ops f all mk l fr s).bind fun x=>some (.normal,x.1,x.2)
def GQ(Q:aD)(n:Nat):Prop:=
 ∀(ro:Option Nat) (f:FuncId) (all:Array Oper) (mk:aI) (l:List Oper) (i:Nat) (fr:Fr) (ch:Nat->Nat) (A:Nat->Prop) (G:Gh) (B:Nat->Nat) (s s2:St) (a:Act) (w:World),
  lC mk A G s s2 w->cz G s2.heap B fr a.tmps w->lA Q ch->(∀k o,l[k]? =some o->all[i+k]? =some o)->sO Q A ch s (vd Q n f all mk l fr s)->
  ∀K:Exit->Act->World->Prop,(∀a' w',ug Q mk ch fr G B s s2 a w (vd Q n f all mk l fr s) .normal a' w'->K .normal a' w')->wpOpsIn (mn ro) 0 Q.P all K (List.range' i l.length) a w
def atv{all:Array Oper}{l:List Oper}{x:Ex}(h:vd Q n f all mk l fr s ch=some (x,fr',s')):fG mk s s':=by
 simp only[vd,aj,aH,bu] at h;obtain⟨⟨fr1,s1⟩,h1,_,_,rfl⟩:=h;exact((lN Q n).ops f all mk l fr ch s fr1 s1 h1).1
theorem atw(hc:xK Q n)(a2:sF Q n)(hn:GQ Q n):GQ Q (n+1):=by
 intro ro f all mk l i fr ch A G B s s2 a w p V hi hl O K hK;cases l with
 |nil=>
  simp only[List.length_nil,List.range'_zero,wpOpsIn];exact hK a w ⟨ch,fr,s,s2,G,B,.refl _ _,hi,rfl,.refl p V⟩
 |cons o g=>
  have ho:all[i]? =some o:=hl 0 o rfl;have T: ∀k o,g[k]? =some o->all[i+1+k]? =some o:=fun k o' hk=>by
   have:=hl (k+1) o' (by simpa using hk)
   grind
  simp only[List.length_cons,List.range'_succ,wpOpsIn,ho,V.wanted];cases hw:eP all fr.env o with
  |false=>
   simp only[zt,if_false];have z: ∀c,vd Q (n+1) f all mk (o::g) fr s c=((cN fr o.dst fN fr.loc).bind fun fr'=>vd Q n f all mk g fr' s c):=by
    intro c;show((mE (Q.at c) (b9 (Q.at c) n) f all mk (o::g) fr s).bind _)=_;simp only[mE,hw,cF,vd];cases cN fr o.dst fN fr.loc<;>rfl
   obtain⟨x0,Y,s0,h0,_⟩:=O ch (.refl _ _) hi;rw[z] at h0;simp only[aj] at h0;obtain⟨fr1,J,_⟩:=h0;have E:=o0.skip p V (a:=a) J;refine⟨fun _ _=>Aa ro _,?_⟩;refine hn ro f all mk g (i+1) fr1 ch A G B s s2 _ w p E.fx hi T ?_ K ?_;intro c h1 C
   have:=O c h1 C;rw[z,J] at this;exact this;intro a' w' ⟨c,fr',s',s2',G',B',h1,C,I,U⟩;refine hK a' w' ⟨c,fr',s',s2',G',B',h1,C,?_,E.trans U⟩;rw[z,J];exact I
  |true=>
   simp only[if_true];have z: ∀c,vd Q (n+1) f all mk (o::g) fr s c=((eW (Q.at c) (b9 (Q.at c) n) f o mk fr s).bind fun x=>(cN fr o.dst x.1 x.2.1).bind fun fr'=>vd Q n f all mk g fr' x.2.2 c):=by
    intro c;show((mE (Q.at c) (b9 (Q.at c) n) f all mk (o::g) fr s).bind _)=_;simp only[mE,hw,cT,vd];cases eW (Q.at c) (b9 (Q.at c) n) f o mk fr s with
    |none=>rfl
    |some x=>
     grind
   refine aaO (f:=f) (fr:=fr) hc a2 ro p V hi ?_ _ K ?_;intro c h1 C;obtain⟨x0,Y,s0,h0,hA⟩:=O c h1 C;rw[z] at h0;simp only[aj] at h0;obtain⟨⟨v,loc',s1⟩,I,fr1,_,h5⟩:=h0;exact⟨v,loc',s1,I,fun m hm a1=>hA m hm (gj a1 (atv h5).aL)⟩;intro x w' Z v loc' s1 a0 G1 B1 q;obtain⟨x0,Y,s0,h0,_⟩:=O Z q.agree q.inb;rw[z,q.eval] at h0;simp only[bg,aj] at h0;obtain⟨fr1,J,_⟩:=h0;have E:=q.after V J;have R: ∀c,kY s1.ci Z c->eW (Q.at c) (b9 (Q.at c) n) f o mk fr s=some (v,loc',s1):=fun c a3=>
    Ea (Q:=Q) (lN Q n) (tE Q n) f o mk fr Z s v loc' s1 q.eval c a3
   refine hn ro f all mk g (i+1) fr1 Z A G1 B1 s1 a0 _ w' (p.after E) E.fx q.inb T ?_ K ?_;intro c h1 C;obtain⟨y,fr',s',I,U⟩:=O c (q.agree.trans h1 E.goes.ci) C;rw[z,R c h1] at I;simp only[bg,J] at I;exact⟨y,fr',s',I,fun m hm=>U m (eG E.goes.aL hm)⟩;intro a' w'' ⟨c,fr',s',s2',G',B',h1,C,I,U⟩;refine hK a' w'' ⟨c,fr',s',s2',G',B',q.agree.trans h1 E.goes.ci,C,?_,E.trans U⟩
   grind
def LB.congr(h: ∀u,lB l l2 u):LB B l b->LB B l2 b:=by
 rintro⟨t,cs,h1,g⟩;refine⟨t,cs,?_,g⟩;rw[<-(h t).1,<-(h t).2];exact h1
def cz.congr{G:Gh}{g:Fr}(x:cz G h B fr tmps w)(hs:g.size=fr.size)(C: ∀d,ac g.env d=ac fr.env d)(hl: ∀u,lB fr.loc g.loc u):cz G h B g tmps w where
 size:=x.size.trans hs.symm
 env t:=by
  have:=x.env t;rw[C t];revert this;generalize ac fr.env t=v;generalize tmps.getD t undef=y;intro q;cases v<;>first
   |exact q
   |(obtain⟨h1,h2,h3⟩:=q
     exact⟨by rw[<-(hl _).1];exact h1,h2,fun e=>h3 (by rw[(hl _).1];exact e)⟩)
 locs:=by
  have p: ∀t cs,g.loc.get t (g.loc.gen t)=some cs->fr.loc.get t (fr.loc.gen t)=some cs:=fun t cs h=>by
   rw[(hl t).1,(hl t).2];exact h
  exact⟨fun t cs h=>x.locs.cells t cs (p t cs h),fun t cs h=>x.locs.free t cs (p t cs h),fun t cs h=>x.locs.ro t cs (p t cs h),
   fun t u cs z h h'=>x.locs.inj t u cs z (p t cs h) (p u z h')⟩
section
variable{Q:aD}{f:FuncId}{all:Array Oper}{mk:aI}{F:Nat->Fr}{S:Nat->St}{M:Nat->aI}{lv:Nat->Nat}{Lo:Nat->Bool}
theorem aO.untouched(t:aO Q f all mk F S M lv Lo)(z:k<all.size)(h: ¬aO.Th Q f all F S M k n):(S (k+1)).heap.get n=(S k).heap.get n:=by
 have p:all[k]? =some all[k]:=so z;cases hw:eP all (F k).env all[k] with
 |true=>
  obtain⟨v,loc',s1,_,_,_,q,_,g⟩:=t.done p hw;rw[q];refine g.frame n fun y=>h ⟨_,p,hw,?_⟩;rw[q];exact y
 |false=>
  rcases t.step p with⟨h',_⟩|⟨_,_,h'⟩
  all_goals grind
theorem aO.X_from(t:aO Q f all mk F S M lv Lo)(h:aO.X Q f all F S M H n k=(S k).heap.get n): ∀ {j:Nat},k<=j->j<=all.size->aO.X Q f all F S M H n j=(S j).heap.get n
 |0,h1,_=>by grind
 |j+1,h1,h2=>by
  by_cases e:k=j+1;subst e;exact h;have g:=t.X_from h (j:=j) (by omega) (by omega);rw[aO.X];split;rfl;rename_i p;rw[g,t.untouched (by omega) p]
def aO.Th_touch(t:aO Q f all mk F S M lv Lo): ∀ {k:Nat},k<=all.size->dy mk n=false->(S k).heap.get n≠none->mU mk (S 0) (S k) n
 |0,_,hn,h=>.inl ⟨hn,h⟩
 |k+1,hk,hn,h=>by
  have q:=t.next_le (so (show k<all.size by omega));by_cases hT:aO.Th Q f all F S M k n;obtain⟨o,z,y,p⟩:=hT;rcases p with⟨_,g⟩|g
  exact(t.Th_touch (k:=k) (by omega) hn g).imp id fun h=>⟨h.1,by omega⟩;exact .inr ⟨eG (t.mono (jW k) (by omega)) g.1,g.2⟩;rw[t.untouched (by omega) hT] at h;exact(t.Th_touch (k:=k) (by omega) hn h).imp id fun h=>⟨h.1,by omega⟩
theorem aO.hid(t:aO Q f all mk F S M lv Lo)(g:all[k]? =some o)(h:dy (aO.fm Q f F S M k o) n=false):dy mk n=false:=by
 cases e:dy mk n with
 |false=>rfl
 |true=>
  have:=t.tr.more k o (by simpa using g) n e
  grind [aO.fm,M4]
theorem aO.same(t:aO Q f all mk F S M lv Lo){s2:aC aJ}(h0: ∀n o,dy mk n=false->(S 0).heap.get n=some o->s2.get n=some o)(n:Nat):
 (mU mk (S 0) (S all.size) n->aO.X Q f all F S M s2.get n all.size=(S all.size).heap.get n)/\(¬mU mk (S 0) (S all.size) n->aO.X Q f all F S M s2.get n all.size=s2.get n):=by
 constructor
 ·rintro(⟨h1,p⟩|⟨h1,p⟩)
  refine t.X_from (k:=0) ?_ (jW _) (bk _);cases e:(S 0).heap.get n with
  |none=>exact absurd e p
  |some o=>exact h0 n o h1 e
  ·have: ∃k,k<all.size/\(S k).aL<=n/\n<(S (k+1)).aL:=by
    have g: ∀j,j<=all.size->n<(S j).aL-> ∃k,k<all.size/\(S k).aL<=n/\n<(S (k+1)).aL:=by
     intro j
     induction j with
     |zero=>intro _ h;omega
     |succ j z=>
      grind
    exact g _ (bk _) p
   obtain⟨k,J,R,O⟩:=this;have q:all[k]? =some all[k]:=so J;have y:eP all (F k).env all[k]=true:=by
    cases y:eP all (F k).env all[k] with
    |true=>rfl
    |false=>
     rcases t.step q with⟨h',_⟩|⟨_,_,h'⟩
     all_goals grind
   refine t.X_from (k:=k+1) ?_ (by omega) (bk _);rw[aO.X,iP ⟨_,q,y,.inr ⟨R,O⟩⟩]
 intro C;have g: ∀j,j<=all.size->aO.X Q f all F S M s2.get n j=s2.get n:=by
  intro j
  induction j with
  |zero=>intro _;rfl
  |succ j z=>
   intro U;rw[aO.X,iN];exact z (by omega);rintro⟨o,q,y,E⟩;have T:=t.mono (show j+1<=all.size by omega) (bk _);rcases E with⟨h1,p⟩|⟨h1,p⟩
   have I:=t.mono (show j<=all.size by omega) (bk _);exact C ((t.Th_touch (show j<=all.size by omega) (t.hid q h1) p).imp id fun h=>⟨h.1,by omega⟩);exact C (.inr ⟨eG (t.mono (jW j) (by omega)) h1,by omega⟩)
 exact g _ (bk _)
end
noncomputable def Mq(Q:aD)(n:Nat)(f:FuncId)(all:Array Oper)(mk:aI)(fr:Fr)(s:St)(ch:Nat->Nat):Option (Ex×Fr×St):=
 ((b9 (Q.at ch) n).draw f all (Region.before all).toList mk [] 0 all.toList fr s).bind fun x=>some (.normal,x.1,x.2)
structure Su (Q:aD) (f:FuncId) (all:Array Oper) (F:Nat->Fr) (S:Nat->St) (M:Nat->aI) (B:Nat->Nat) (G:Gh) (s2:St) (a:Act) (w:World) (listed:Array Bool) (a':Act) (w':World)
 (fr':Fr) (h:aC aJ) (G':Gh) (B':Nat->Nat):Prop where
 size:listed.size=all.size
 closed:KK all (fun k=>listed.getD k false=true)
 cur:kG Q f all F S M s2.heap.get (fun k=>listed.getD k false=true) fr' h.get
 wr:WR G' h w'
 ext:ix G s2.heap w G' h w' (S 0).aL (S all.size).aL (LB B (F 0).loc)
 fx:cz G' h B' fr' a'.tmps w'
 boxes: ∀b,LB B' fr'.loc b->LB B (F 0).loc b\/w.heap.size<=b
 defers: ∃rs,a'.defers=rs.map wK++a.defers/\vP w.heap.size w' rs
 free: ∀k,k<all.size->listed.getD k false=false-> ∀m,(S k).aL<=m->m<(S (k+1)).aL->G'.at_ m=none
def kG.congr{all:Array Oper}{q:Nat->Prop}{h:Nat->Option aJ}(c:kG Q f all F S M H D fr h)(p: ∀k,k<all.size->(D k↔q k)):kG Q f all F S M H q fr h where
 env t:=(c.env t).trans (Fx (X:=fun k=>ac (F k).env t) fun k g _=>p k g)
 size:=c.size
 loc u:=(c.loc u).trans (Fx (X:=aO.L F u) fun k g _=>p k g)
 heap n:=(c.heap n).trans (Fx (X:=aO.X Q f all F S M H n) fun k g _=>p k g)
theorem HB{listed:Array Bool}(hi:i<listed.size)(k:Nat):(listed.setIfInBounds i true).getD k false=true↔(listed.getD k false=true\/k=i):=by
 simp only[tX,Sb]
 grind
def vw(listed:Array Bool):Nat:=listed.toList.countP (fun b=> !b)
theorem axr{listed:Array Bool}(h:listed.getD i true=false):vw (listed.setIfInBounds i true)+1=vw listed:=by
 obtain⟨l⟩:=listed;simp only[vw,List.setIfInBounds_toArray,tX,List.getElem?_toArray] at*
 grind
def axq{listed:Array Bool}(h:vw listed=0)(k:Nat)(g:k<listed.size):listed.getD k false=true:=by
 obtain⟨l⟩:=listed;simp only[vw,List.countP_eq_zero] at h;simp only[List.size_toArray] at g
 have:=h l[k] (List.getElem_mem g)
 simp_all
theorem ahL{all:Array Oper}{G:Gh}(t:aO (Q.at ch) f all mk F S M lv Lo)(ro:Option Nat)(hc: ∀k,k<all.size->xK Q (lv k)/\sF Q (lv k))(hi:lA Q ch)(h0: ∀n o,dy mk n=false->(S 0).heap.get n=some o->s2.heap.get n=some o)(K:Exit->Act->World->Prop)(hK: ∀listed a' w' fr' h G' B',(∀k,k<all.size->listed.getD k false=true)->Su (Q.at ch) f all F S M B G s2 a w listed a' w' fr' h G' B'->K .normal a' w'):
 ∀(p:Nat) (listed:Array Bool) (a':Act) (w':World) (fr':Fr) (h:aC aJ) (G':Gh) (B':Nat->Nat),vw listed=p->
  Su (Q.at ch) f all F S M B G s2 a w listed a' w' fr' h G' B'->wpAnyIn (mn ro) 0 Q.P .any all K p listed a' w':=by
 intro p
 induction p with
 |zero=>
  intro listed a' w' fr' h G' B' hu m;have b0: ∀k,k<all.size->listed.getD k false=true:=fun k Y=>axq hu k (by rw[m.size];exact Y);refine⟨?_,hK listed a' w' fr' h G' B' b0 m⟩;rw[List.eq_nil_iff_forall_not_mem]
  grind [mem_ready]
 |succ p ih=>
  intro listed a' w' fr' h G' B' hu m;refine⟨fun hr=>?_,fun i hi'=>?_⟩
  ·
   exfalso;have b2: ∀k,k<all.size->listed.getD k false=true:=by
    intro k
    induction k using Nat.strongRecOn with
    |_ k c1=>
     intro Y;have U:all[k]? =some all[k]:=so Y;have V:k ∉ Region.ready .any all listed:=by rw[hr];simp
     rw[mem_ready] at V;have c2:k<listed.size:=by rw[m.size];exact Y
     cases e:listed.getD k false with
     |true=>rfl
     |false=>
      exfalso;apply V;refine⟨?_,all[k],U,fun ed b5 g=>?_⟩
      grind
      have z:=TA t.ap k all[k] (by simp) ed b5 g
      grind
   have hz:vw listed=0:=by
    obtain⟨l⟩:=listed;simp only[vw,List.countP_eq_zero];intro b g;obtain⟨k,Y,rfl⟩:=List.getElem_of_mem g;have hs:=m.size;simp only[List.size_toArray] at hs
    have:=b2 k (by omega);simp only[tX,List.getElem?_toArray,List.getElem?_eq_getElem Y,zD] at this;simp[this]
   omega
  rw[mem_ready] at hi';obtain⟨h1,o,U,h2⟩:=hi';have z:=aO.lt_size U;have O:i<listed.size:=by rw[m.size];exact z
  have a8: ¬listed.getD i false=true:=by
   simp only[tX,so O,zD] at h1 ⊢;rw[h1];simp
  have a7:listed.getD i false=false:=by simpa using a8
  have x:l9 all (fun k=>listed.getD k false=true) i o:=⟨m.closed,U,a8,h2⟩;have a5:vw (listed.setIfInBounds i true)=p:=by have:=axr h1;omega
  have T:(listed.setIfInBounds i true).size=all.size:=by rw[Array.size_setIfInBounds];exact m.size
  have a0:KK all (fun k=>(listed.setIfInBounds i true).getD k false=true):=by
   intro j oj J b3 e he g;rw[HB O] at J ⊢;rcases J with J|rfl
   exact .inl (m.closed j oj J b3 e he g)
   grind
  have Z: ∀ {G1:Gh} {b1:aC aJ} {w1:World} {L:Nat->Prop},ix G' h w' G1 b1 w1 (S i).aL (S (i+1)).aL L->
   ∀k,k<all.size->(listed.setIfInBounds i true).getD k false=false-> ∀q,(S k).aL<=q->q<(S (k+1)).aL->G1.at_ q=none:=by
   intro G1 b1 w1 L ex k Y c3 q a4 a3;have a9: ¬(listed.getD k false=true\/k=i):=fun h=>by
    grind [HB]
   have b4:listed.getD k false=false:=by
    cases e:listed.getD k false with
    |false=>rfl
    |true=>exact absurd (.inl e) a9
   have b8:=m.free k Y b4 q a4 a3;cases e:G1.at_ q with
   |none=>rfl
   |some ad=>
    obtain⟨e1,e2⟩:=ex.names q ad e b8;rcases Nat.lt_trichotomy k i with h|h|h
    have:=t.mono (show k+1<=i by omega) (by omega);omega;exact absurd (.inr h) a9
    have:=t.mono (show i+1<=k by omega) (by omega);omega
  unfold wpOpIn;simp only[U];rw[m.fx.wanted,m.cur.wanted t x];cases hw:eP all (F i).env o with
  |false=>
   simp only[zt,if_false];obtain⟨fr1,hp,I⟩:=m.cur.skip t x hw;refine⟨fun _ _=>Aa ro _,?_⟩;refine ih _ _ _ fr1 h G' B' a5 ⟨T,a0,I.congr fun k _=>(HB O k).symm,m.wr,m.ext,m.fx.put hp m.fx.locs (LV.of_VR (RI G')) fun _ _ h=>h,?_,?_,?_⟩;intro b g;rw[(tL hp).2.1] at g;exact m.boxes b g;rw[Lf];exact m.defers;exact Z (L:=fun _=>False) (cJ.refl.toL _)
  |true=>
   simp only[if_true];obtain⟨v,E,s1,fr1,e1,e2,e3,hp,I⟩:=m.cur.run t h0 x hw;have a2:=m.cur.sees t h0 x hw;have a6:lC (aO.fm (Q.at ch) f F S M i o) (fun q=>q<(S (i+1)).aL) G' (aO.from_ S i (S i).heap) (aO.from_ S i h) w':=
    ⟨fun n hn=>t.none_above (zA z) n hn,a2,m.wr,fun q a4 a3=>m.free i z a7 q a4 a3⟩
   refine aaO (hc i z).1 (hc i z).2 ro a6 m.fx hi (f:=f) (fr:=fr') ?_ _ K ?_;intro c b7 _
   have:=Ea (Q:=Q) (lN Q (lv i)) (tE Q (lv i)) f o (aO.fm (Q.at ch) f F S M i o) fr' ch (aO.from_ S i (S i).heap) v E s1 e1 c (fun j J=>b7 j (by rw[e2] at J;exact J))
   grind
   intro y w1 c v' loc' c0 a1 G1 B1 q
   have:=Ea (Q:=Q) (lN Q (lv i)) (tE Q (lv i)) f o (aO.fm (Q.at ch) f F S M i o) fr' ch (aO.from_ S i (S i).heap) v E s1 e1 c (fun j J=>q.agree j (by rw[e2] at J;exact J));have hq:=q.eval;have this:eW (Q.at c) (b9 (Q.at c) (lv i)) f o (aO.fm (Q.at ch) f F S M i o) fr' (aO.from_ S i (S i).heap)=some (v,E,s1):=this;rw[this] at hq;simp only[aH,bu] at hq;obtain⟨rfl,rfl,rfl⟩:=hq;have b6:=I a1 q.same;have af:=q.after m.fx hp;have ex:ix G' h w' G1 a1.heap w1 (S i).aL (S (i+1)).aL (LB B' fr'.loc):=by
    have:=q.ext;rw[e3] at this;exact this
   refine ih _ _ _ fr1 a1.heap G1 B1 a5 ⟨T,a0,b6.congr fun k _=>(HB O k).symm,q.wr,?_,af.fx,?_,Vg m.wr m.fx m.defers m.ext.size ex af.defers,Z ex⟩;have C:=m.ext;have R:=ex.widen (lo':=(S 0).aL) (hi':=(S all.size).aL) (t.mono (jW i) (zA z)) (t.mono (show i+1<=all.size by omega) (bk _));exact⟨C.le.trans R.le,eG C.size R.size,
    fun b g U hl=>(R.keepW b (gj g C.size) (fun o=>U (C.ownsW b g o)) (fun l=>(m.boxes b l).elim hl (fun h=>by omega))).trans (C.keepW b g U hl),
    fun b g o=>C.owns b g (R.owns b (gj g C.size) o),
    fun n ad h h0=>by
     cases e:G'.at_ n with
     |none=>exact R.names n ad h e
     |some b=>exact C.names n b e h0,
    fun b o v g h h0=>by
     cases e:G'.ro b o with
     |none=>exact C.owns b g (R.cells b o v (gj g C.size) h e)
     |some u=>exact C.cells b o u g e h0,
    C.quiet.trans R.quiet,
    fun b g o=>C.ownsW b g (R.ownsW b (gj g C.size) o)⟩
   intro b g;rcases af.boxes b g with h'|h'
   exact m.boxes b h';exact .inr (eG m.ext.size h')
theorem ahM(hm:Q.P.follows .mixedOrders=true)(ro:Option Nat)(hc: ∀k,k<n->xK Q k/\sF Q k){all:Array Oper}{G:Gh}{id:Nat}(p:lC mk A G s s2 w)(fx:cz G s2.heap B fr a.tmps w)(hi:lA Q ch)(V:nN all 0 all.toList (Region.before all).toList=true)(hs:sO Q A ch s (Mq Q n f all mk fr s))(K:Exit->Act->World->Prop)(hK: ∀a' w',ug Q mk ch fr G B s s2 a w (Mq Q n f all mk fr s) .normal a' w'->K .normal a' w'):(Code.region id all true).wpIn (mn ro) 0 Q.P K a w:=by
 obtain⟨x0,fr1,s1,h0,hA⟩:=hs ch (.refl _ _) hi;have Y:=h0;simp only[Mq,aj,aH,bu] at h0;obtain⟨⟨O,s2'⟩,hd,hx,hf,I⟩:=h0;subst hx;dsimp only at hf I;subst hf;subst I;obtain⟨F,S,M,lv,Lo,Z,E,z,g,a0,tr⟩:=Mr hd;rw[eH,Array.length_toList] at z g;have t:aO (Q.at ch) f all mk F S M lv Lo:=⟨tr,V,by rw[E];exact p.fresh⟩;have y: ∀n o,dy mk n=false->(S 0).heap.get n=some o->s2.heap.get n=some o:=by rw[E];exact p.sees.get
 have U:=((lN Q n).draw f all _ mk [] 0 all.toList fr ch s O s2' hd).1;refine wpIn_region_any hm ?_;refine ahL (G:=G) (B:=B) (s2:=s2) (a:=a) (w:=w) t ro (fun k C=>hc _ ?_) hi y K ?_ all.size _ a _ (F 0) s2.heap G B ?_ ?_
 simp_all
 ·intro listed a' w' fr' h G' B' J m
  obtain⟨c1,c2,c3,c4⟩:=m.cur.fin J;refine hK a' w' ⟨ch,O,s2',⟨h,s2'.aL,s2'.gt,s2'.ci⟩,G',B',.refl _ _,hi,Y,U,⟨rfl,rfl,rfl,?_,?_⟩,m.wr,?_,?_,?_,m.defers⟩;intro n R;show h.get n=_;rw[c4,<-g];exact(t.same y n).1 (by rw[E,g];exact R);intro n R;show h.get n=_;rw[c4];exact(t.same y n).2 (by rw[E,g];exact R)
  have:=m.ext;rw[E,g,Z] at this;exact this
  ·refine m.fx.congr ?_ ?_ ?_
   rw[<-z,c1];exact t.size_eq (bk _)
   all_goals grind
  intro b hb;rw[<-Z];refine m.boxes b (LB.congr (fun u=>?_) hb);rw[<-z];exact(c3 u).symm
 simp[vw,List.countP_replicate];refine⟨by simp,?_,?_,p.wr.of_heap rfl,(cJ.of_heap (w:=w) (w':= {w with drawn:=w.drawn+1 }) rfl ⟨rfl,rfl,rfl,jV _⟩).toL _,?_,fun b h=>.inl h,⟨[],rfl,.nil _ _⟩,?_⟩;intro j o T;simp[tX,Sa] at T;split at T<;>simp at T;refine kG.start fun k C=>?_;simp[tX,Sa] at C;split at C<;>simp at C;rw[Z];exact⟨fx.size,fx.env,⟨fx.locs.cells,fx.locs.free,fx.locs.ro,fx.locs.inj⟩⟩;intro k C _ q h1 h2;have l1:=t.mono (jW k) (zA C);have l2:=t.mono (show k+1<=all.size by omega) (bk _);rw[E] at l1;rw[g] at l2;exact p.free q (by omega) (hA q (by omega) (by omega))
structure Al (Q:aD):Prop where
 mixed:Q.P.follows .mixedOrders=true
 spec:aea Q
 specH:ad9 Q
 specW:aeb Q:=by intro f sp h;cases h
 names: ∀(f:Nat) (fn:Func),Q.P.funcs[f]? =some fn->(fn.name== "runtime.NumGoroutine")=false
section
variable{Q:aD}{n:Nat}
noncomputable def JZ(Q:aD)(n:Nat)(f:FuncId)(y:Code)(mk:aI)(x:Ex)(fr:Fr)(s:St)(c:Nat->Nat):Option (Ex×Fr×St):=pP (b9 (Q.at c) n) f y mk (x,fr,s)
theorem ace(hn:sF Q n)(ro:Option Nat){x y:Code}{G:Gh}(hf:ro≠none->dv x=true)(J:xM ro G s2.heap w)(p:lC mk A G s s2 w)(fx:cz G s2.heap B fr a.tmps w)(hi:lA Q ch)(V:sO Q A ch s (fun c=>(lg Q n f x mk fr s c).bind fun r=>JZ Q n f y mk r.1 r.2.1 r.2.2 c))(K:Exit->Act->World->Prop)(Y:Act->World->Prop)(R: ∀e a' w',ug Q mk ch fr G B s s2 a w (fun c=>(lg Q n f x mk fr s c).bind fun r=>JZ Q n f y mk r.1 r.2.1 r.2.2 c) e a' w'->K e.to a' w')(hY: ∀E q ch1 fr1 s1 g G1 I,xM ro G1 g.heap q->lC mk A G1 s1 g q->cz G1 g.heap I fr1 E.tmps q->lA Q ch1->sO Q A ch1 s1 (lg Q n f y mk fr1 s1)->
  (∀e a' w',ug Q mk ch1 fr1 G1 I s1 g E q (lg Q n f y mk fr1 s1) e a' w'->K e.to a' w')->Y E q):x.wpIn (mn ro) 0 Q.P (Exit.then Y K) a w:=by
 have z:=Mf Q n f x mk fr s;refine(hn ro f x mk fr ch A G B s s2 a w hf J p fx hi (V.first ?_) _ ?_).1;intro e fr' s' c e2 fr'' s'' h;unfold JZ at h;cases e with
 |normal=>exact(Va (n:=n) h).aL
 |exit id=>grind [pP]
 |ret=>grind [pP]
 rintro e E q ⟨U,fr1,s1,g,G1,I,h1,T,O,C⟩;cases e with
 |normal=>
  refine hY E q U fr1 s1 g G1 I (J.after fx C) (p.after C) C.fx T ?_ ?_;exact V.second z h1 O C.goes.ci C.goes.aL;intro e a' w' Z;exact R e a' w' (ug.second (E2:=fun x fr s c=>JZ Q n f y mk x fr s c) z h1 O C Z)
 |exit id=>
  refine R (.exit id) E q ⟨U,fr1,s1,g,G1,I,h1,T,?_,C⟩;simp only[O,bg];rfl
 |ret=>
  refine R .ret E q ⟨U,fr1,s1,g,G1,I,h1,T,?_,C⟩;simp only[O,bg];rfl
theorem ahm(g3:Al Q)(hn:sF Q n)(ho:GQ Q n)(e5:xK Q n)(hc: ∀k,k<n->xK Q k/\sF Q k):sF Q (n+1):=by
 intro ro f c mk fr ch A G B s s2 a w a3 a9 p fx hi hs K hK;cases c with
 |skip=>exact⟨wpIn_skip (hK .normal a w ⟨ch,fr,s,s2,G,B,.refl _ _,hi,rfl,.refl p fx⟩),by simp⟩
 |label l=>exact⟨wpIn_label (hK .normal a w ⟨ch,fr,s,s2,G,B,.refl _ _,hi,rfl,.refl p fx⟩),by simp⟩
 |ret=>exact⟨wpIn_ret (hK .ret a w ⟨ch,fr,s,s2,G,B,.refl _ _,hi,rfl,.refl p fx⟩),by simp⟩
 |exit id=>exact⟨wpIn_exit (hK (.exit id) a w ⟨ch,fr,s,s2,G,B,.refl _ _,hi,rfl,.refl p fx⟩),by simp⟩
 |seq x y=>
  have a3:ro≠none->dv x=true/\dv y=true:=fun h=>by simpa[dv] using a3 h
  refine⟨wpIn_seq (ace hn ro (fun h=>(a3 h).1) a9 p fx hi hs K _ hK ?_),by simp⟩;intro a1 Y ch1 fr1 s1 d1 G1 B1 d2 p1 e9 d6 b6 e8;exact(hn ro f y mk fr1 ch1 A G1 B1 s1 d1 a1 Y (fun h=>(a3 h).2) d2 p1 e9 d6 b6 K e8).1
 |cond x y z=>
  refine⟨?_,by simp⟩;obtain⟨e0,c3,s0,h0,_⟩:=hs ch (.refl _ _) hi;have h0:(ev fr.env x).bind (BQ (b9 (Q.at ch) n) f y z mk fr s)=some (e0,c3,s0):=h0;simp only[aj] at h0;obtain⟨v,hv,h0⟩:=h0;have hl:=fx.ev hv;cases v<;>try (cases h0;done)
  rename_i b;have hl:VR G (.bool b) (a.eval x):=hl;have hx:a.eval x= .bool b:=by
   generalize a.eval x=u at hl;cases hl;rfl
  have Z: ∀c,lg Q (n+1) f (.cond x y z) mk fr s c=lg Q n f (if b then y else z) mk fr s c:=by
   intro c;show(ev fr.env x).bind (BQ (b9 (Q.at c) n) f y z mk fr s)=_;rw[hv];cases b<;>rfl
  have a3:ro≠none->dv (if b then y else z)=true:=fun h=>by
   grind [dv]
  refine wpIn_cond hx (hn ro f _ mk fr ch A G B s s2 a w a3 a9 p fx hi ?_ K ?_).1;intro c h1 h2;have:=hs c h1 h2;rw[Z] at this;exact this;rintro e a' w' ⟨c,fr',s',s2',G',B',h1,h2,h3,h4⟩;exact hK e a' w' ⟨c,fr',s',s2',G',B',h1,h2,by rw[Z];exact h3,h4⟩
 |block id b=>
  refine⟨wpIn_block ?_,by simp⟩;have Z: ∀c,lg Q (n+1) f (.block id b) mk fr s c=(lg Q n f b mk fr s c).bind fun x=>some (qm id x):=fun _=>rfl;refine(hn ro f b mk fr ch A G B s s2 a w (fun h=>by simpa[dv] using a3 h) a9 p fx hi ?_ _ ?_).1;intro c h1 h2;obtain⟨e,fr',s',h3,h4⟩:=hs c h1 h2;rw[Z] at h3;simp only[aj] at h3;obtain⟨⟨e1,fr1,s1⟩,h5,h6⟩:=h3;refine⟨e1,fr1,s1,h5,?_⟩;have:s1=s':=by
   cases e1<;>simp only[qm,aH,bu] at h6;exact h6.2.2
   grind
   exact h6.2.2
  subst this;exact h4;rintro e a' w' ⟨c,fr',s',s2',G',B',h1,h2,h3,h4⟩;have V: ∀e',qm id (e,fr',s')=(e',fr',s')->K e'.to a' w':=fun e' he=>
   hK e' a' w' ⟨c,fr',s',s2',G',B',h1,h2,by rw[Z,h3,bg,he],h4⟩
  cases e with
  |normal=>exact V .normal rfl
  |ret=>exact V .ret rfl
  |exit i=>
   show(if i=id then K .normal a' w' else K (.exit i) a' w');by_cases e:i=id;rw[iP e];refine V .normal ?_;subst e;simp[qm];rw[iN e];refine V (.exit i) ?_
   grind [fg,qm]
 |scope b=>
  have i0:ro=none:=by
   cases ro with
   |none=>rfl
   |some l=>grind [dv]
  subst i0;refine⟨(wpIn_wide (n:=0)).2 (wp_scope_straight ((wpIn_wide (n:=0)).1 ?_)),by simp⟩;refine(hn none f b mk fr ch A G B s s2 a w (fun h=>absurd rfl h) .none p fx hi hs _ ?_).1;intro e a' w' h
  have:=hK e a' w' h;cases e<;>exact this
 |loop b=>
  have d7:ro≠none->dv b=true:=fun h=>by simpa[dv] using a3 h
  have f4:Code.roundsIn (mn ro) 0 Q.P b K (n+1) a w:=by
   rw[roundsIn_succ];refine ace (y:=.loop b) hn ro d7 a9 p fx hi hs K _ hK ?_;intro a1 Y ch1 fr1 s1 d1 G1 B1 d2 p1 e9 d6 b6 e8;exact(hn ro f (.loop b) mk fr1 ch1 A G1 B1 s1 d1 a1 Y a3 d2 p1 e9 d6 b6 K e8).2 b rfl
  grind [wpIn_loop_rounds]
 |region id ops draw=>
  refine⟨?_,by simp⟩;cases draw with
  |false=>
   refine wpIn_region ?_
   have:=ho ro f ops mk ops.toList 0 fr ch A G B s s2 a w p fx hi (fun k o hk=>by rw[eH];simpa using hk) hs K (fun a' w' h=>hK .normal a' w' h)
   grind [List.range_eq_range']
  |true=>
   have Z: ∀c,lg Q (n+1) f (.region id ops true) mk fr s c=(bif nN ops 0 ops.toList (Region.before ops).toList then(b9 (Q.at c) n).draw f ops (Region.before ops).toList mk [] 0 ops.toList fr s else none).bind fun x=>some (.normal,x.1,x.2):=fun _=>rfl;cases hap:nN ops 0 ops.toList (Region.before ops).toList with
   |false=>
    obtain⟨e0,c3,s0,h0,_⟩:=hs ch (.refl _ _) hi;rw[Z,hap] at h0;cases h0
   |true=>
    simp only[hap,cT] at Z;refine ahM g3.mixed ro hc p fx hi hap ?_ K ?_ (n:=n) (f:=f);intro c h1 h2;have:=hs c h1 h2;rw[Z] at this;exact this;rintro a' w' ⟨c,fr',s',s2',G',B',h1,h2,h3,h4⟩;exact hK .normal a' w' ⟨c,fr',s',s2',G',B',h1,h2,by rw[Z];exact h3,h4⟩
 |rangeFunc g U T R=>
  refine⟨?_,by simp⟩;obtain⟨e0,c3,s0,h0,k7⟩:=hs ch (.refl _ _) hi;have c5: ∀c,lg Q (n+1) f (.rangeFunc g U T R) mk fr s c=(ev fr.env g).bind (wZ (Q.at c) (b9 (Q.at c) n) f U.toList T R mk fr s):=fun _=>rfl;rw[c5] at h0;simp only[aj] at h0;obtain⟨gv,hg,h0⟩:=h0;unfold wZ at h0;split at h0
  case h_2=>cases h0
  rename_i h first E
  obtain⟨hb,h0⟩:=aY h0;have e6:=hb;simp only[bm] at hb;obtain⟨I,b7,i3,d7⟩:=hb;have b8:=fx.ev hg;have b8:VR G (.func (.func h) first E) (a.eval g):=b8;generalize hgx:a.eval g=gx at b8;cases b8 with
  |func g5 g6=>
  rename_i fs cs;have Z: ∀c,lg Q (n+1) f (.rangeFunc g U T R) mk fr s c=((b9 (Q.at c) n).call h (first++(.yld s.aL::E)) mk (s.new (.loop f fr.env fr.size U.toList T R none))).bind fun x=>AQ mk s.aL fr x.2:=by
   intro c;have e6:(tg (Q.at c).P h&&(fr.env.all jB&&(dv T&&dv R)))=true:=e6;rw[c5,hg];simp only[bg,wZ,e6,cT]
  have b3: ∀c x fr' s',lg Q (n+1) f (.rangeFunc g U T R) mk fr s c=some (x,fr',s')-> ∃v s1 o,(b9 (Q.at c) n).call h (first++(.yld s.aL::E)) mk (s.new (.loop f fr.env fr.size U.toList T R none))=some (v,s1)/\
   s1.get mk s.aL=some o/\(∃f' b4 a5 d4 a' b' pe,o= .loop f' b4 a5 d4 a' b' pe/\x=FS pe)/\fr'=fr/\s'=s1.put s.aL none:=by
   intro c x fr' s' h1;rw[Z] at h1;simp only[aj] at h1;obtain⟨⟨v,s1⟩,h2,h3⟩:=h1;simp only[AQ,aj] at h3;obtain⟨o,h4,h5⟩:=h3;cases o with
   |loop f' b4 a5 d4 a' b' pe=>
    grind
   |cells _=>cases h5
   |tok=>cases h5
   |map _ _=>cases h5
   |iter _ _ _ _=>cases h5
   |fix _=>cases h5
  have i2: ∀c v s1,(b9 (Q.at c) n).call h (first++(.yld s.aL::E)) mk (s.new (.loop f fr.env fr.size U.toList T R none))=some (v,s1)->s.aL+1<=s1.aL:=fun c v s1 h1=>
   ((lN Q n).call h _ mk c _ v s1 h1).1.aL
  obtain⟨e1,fr1,s1,h1,j4⟩:=hs ch (.refl _ _) hi;have j3:A s.aL:=by
   obtain⟨v,a8,o,q1,_,_,_,q5⟩:=b3 _ _ _ _ h1;refine j4 _ (bk _) ?_
   have:=i2 _ _ _ q1;rw[q5];exact this
  have b1:G.at_ s.aL=none:=p.free _ (bk _) j3;refine wpIn_rangeFunc ?_;intro fn _;obtain⟨a2,L,ds,Y,r1,f5,a7,x1,j8,i7,g2,c0,g1⟩: ∃(a2:Loop) (L:Nat) (ds:List Nat) (Y:World),(Instr.enterLoop fn a.tmps U T R (mn ro).round).run Q.P w= .ok (L,ds.map wK) Y/\
   (a2.state= .ready/\a2.pending=none/\a2.tmps=a.tmps/\a2.params=U/\a2.assign=T/\a2.body=R)/\WR G s2.heap Y/\cJ G s2.heap w G s2.heap Y s.aL s.aL/\w.heap.size<=L/\L<Y.heap.size/\Y.heap[L]? =some (.loop a2)/\vP w.heap.size Y ds/\ ¬eB G s2.heap L:=by
   cases ro with
   |none=>
    refine⟨{state:=.ready,pending:=none,fn,tmps:=a.tmps,params:=U,assign:=T,body:=R,defers:=w.heap.size },w.heap.size+1,[w.heap.size],_,run_enterLoop_outer fn a.tmps U T R,⟨rfl,rfl,rfl,rfl,rfl,rfl⟩,?_⟩;obtain⟨g8,xA⟩:=p.wr.fresh (.deferred (some [])) trivial;obtain⟨a7,xB⟩:=g8.fresh (.loop {state:=.ready,pending:=none,fn,tmps:=a.tmps,params:=U,assign:=T,body:=R,defers:=w.heap.size }) trivial;have h9:(w.alloc (.deferred (some []))).heap.size=w.heap.size+1:=by simp
    generalize hw1:(w.alloc (.deferred (some []))).alloc (.loop {state:=.ready,pending:=none,fn,tmps:=a.tmps,params:=U,assign:=T,body:=R,defers:=w.heap.size })=Y at*;have b6:Y.heap.size=w.heap.size+2:=by rw[<-hw1];simp
    refine⟨a7,(xA s.aL s.aL).trans (xB s.aL s.aL) (bk _) (bk _),jV _,by omega,by rw[<-hw1,o8,iP h9.symm],?_,fun o=>by have:=p.wr.owned_lt o;omega⟩;have c0:Y.heap[w.heap.size]? =some (.deferred (some [])):=by rw[<-hw1,o8,iN (by omega),o8,iP rfl]
    exact⟨by simp,fun r hr=>by
     grind⟩
   |some l0=>
    obtain⟨⟨r0,h0⟩,_⟩:=a9 l0 rfl;refine⟨{state:=.ready,pending:=none,fn,tmps:=a.tmps,params:=U,assign:=T,body:=R,defers:=r0.defers },w.heap.size,[],w.alloc (.loop {state:=.ready,pending:=none,fn,tmps:=a.tmps,params:=U,assign:=T,body:=R,defers:=r0.defers }),?_,⟨rfl,rfl,rfl,rfl,rfl,rfl⟩,?_⟩
    simp_all [aiF,Instr.enterLoop,run_getLoop]
    obtain⟨a7,xB⟩:=p.wr.fresh (.loop {state:=.ready,pending:=none,fn,tmps:=a.tmps,params:=U,assign:=T,body:=R,defers:=r0.defers }) trivial;refine⟨a7,xB s.aL s.aL,bk _,by simp,by rw[o8,iP rfl],.nil _ _,fun o=>by have:=p.wr.owned_lt o;omega⟩
  have i8:DU G a2 fr.env fr.size U.toList T R none:=by
   obtain⟨k1,k2,k3,k4,k5,k6⟩:=f5;refine⟨k1,k2,by rw[k3];exact fx.size,fun t=>?_,by rw[k4],k5,k6,i3,d7⟩;rw[k3]
   have:=fx.env t;have f6:jB (ac fr.env t)=true:=by
    unfold ac;cases hgt:fr.env.get t with
    |none=>rfl
    |some v=>exact aC.all_get b7 hgt
   cases hv:ac fr.env t<;>rw[hv] at this f6<;>first|exact this|cases f6
  have b5:=a7.named (n:=s.aL) (a:=⟨L,0,none⟩) (o:=.loop f fr.env fr.size U.toList T R none) b1 i7 rfl g1 ⟨a2,g2,i8⟩ (fun i v hv=>by
   rw[a7.aside_ro g2 trivial] at hv;cases hv)
  have b0:=G.name_le (⟨L,0,none⟩:Addr) b1;have g7:(G.name s.aL ⟨L,0,none⟩).at_ s.aL=some ⟨L,0,none⟩:=by simp[Gh.name]
  have b5:WR (G.name s.aL ⟨L,0,none⟩) (s2.new (.loop f fr.env fr.size U.toList T R none)).heap Y:=by
   show WR _ (s2.heap.set s2.aL _) _;rw[p.sees.aL];exact b5
  have g0:=fG.new mk s (.loop f fr.env fr.size U.toList T R none);have d0:=gn.new p.sees (.loop f fr.env fr.size U.toList T R none);have p2:lC mk A (G.name s.aL ⟨L,0,none⟩) (s.new (.loop f fr.env fr.size U.toList T R none)) (s2.new (.loop f fr.env fr.size U.toList T R none)) Y:=
   ⟨p.fresh.goes g0,d0.sees p.sees g0,b5,fun q hq j2=>by
    have hq:s.aL+1<=q:=hq;show(if q=s.aL then _ else G.at_ q)=none;rw[iN (by omega)];exact p.free q (by omega) j2⟩
  have e7:bR (G.name s.aL ⟨L,0,none⟩) (first++(.yld s.aL::E)) (fs++(.func (.yield L) #[] #[]::cs)):=
   (g5.mono b0).append (.cons (.yld g7) (g6.mono b0))
  have i5:=e5 h _ mk _ _ _ Y _ ch A p2 e7 hi (fun a4 ha hb=>by
   obtain⟨x,fr',s',q1,q2⟩:=hs a4 ha hb;obtain⟨v,a8,o,q3,_,_,_,q5⟩:=b3 _ _ _ _ q1;refine⟨v,a8,q3,fun q hq i1=>q2 q ?_ ?_⟩;have hq:s.aL+1<=q:=hq;omega;rw[q5];exact i1)
  have c6:(callFunc h ⟨fs++(.func (.yield L) #[] #[]::cs)⟩).run Q.P Y= .ok (.enter h ⟨fs++(.func (.yield L) #[] #[]::cs)⟩) Y:=by
   unfold tg at I;cases b2:(Q.at ch).P.funcs[h]? with
   |none=>rw[b2] at I;cases I
   |some c4=>
    rw[b2] at I;have b2:Q.P.funcs[h]? =some c4:=b2;have I:c4.body.isSome=true:=I;cases hbb:c4.body with
    |none=>rw[hbb] at I;cases I
    |some bb=>
     have j7:=g3.names h c4 b2
     simp_all [callFunc]
  have c1:Calls Q.P h ⟨fs++(.func (.yield L) #[] #[]::cs)⟩ Y (fun e w'=> ∃y,e= .returned y/\ ∃a4 v s' s2' G',GI Q n h (first++(.yld s.aL::E)) mk ch (G.name s.aL ⟨L,0,none⟩) (s.new (.loop f fr.env fr.size U.toList T R none)) (s2.new (.loop f fr.env fr.size U.toList T R none)) Y y w' a4 v s' s2' G'):=by
   rcases i5 with⟨y,w',h1,_⟩|⟨_,h2⟩
   rw[c6] at h1;cases h1;exact h2
  have f1:(⟨fs⟩:Array Value)++ #[.func (.yield L) #[] #[]]++(⟨cs⟩:Array Value)=⟨fs++(.func (.yield L) #[] #[]::cs)⟩:=by
   apply qa;simp
  refine⟨L,ds.map wK,Y, {target:=.fn (.func h) ⟨cs⟩,args:=⟨fs⟩++ #[.func (.yield L) #[] #[]] },Y,h,⟨fs++(.func (.yield L) #[] #[]::cs)⟩,Y,r1,?_,fun f' _=>Aa ro f',?_,MU ro 0,?_⟩
  simp_all [resolve,Act.eval,Deferred.ofValue]
  simp only[invoke,f1];exact c6;refine Vy.2 (c1.mono ?_);rintro e w3 ⟨y,rfl,a4,v,s',s2',G',c⟩;have c8:kY s.ci ch a4:=c.agree;obtain⟨xx,k8,sx,hx,k0⟩:=hs a4 c8 c.inb;obtain⟨v',a8,o,q3,q4,⟨f',b4,a5,d4,a',b',pe,rfl,rfl⟩,f0,rfl⟩:=b3 _ _ _ _ hx;replace f0:=f0.symm;subst f0;have e4:=c.eval;rw[q3] at e4;simp only[aH,bu] at e4;obtain⟨rfl,rfl⟩:=e4;have gC:=((lN Q n).call h _ mk a4 _ v' a8 q3).1;have y2:=c.same.sees (d0.sees p.sees g0) gC;have f2:=y2.look q4;have c7:G'.at_ s.aL=some ⟨L,0,none⟩:=c.ext.le.at_ _ _ g7;obtain⟨ad,c2,_,a0,a6,c9⟩:=c.wr.obj s.aL _ (tf f2).2;rw[c7] at c2;injection c2 with c2;subst c2
  have a6:w3.heap[L]? =some (.loop a0):=a6;have h8:a0.state≠ .busy:=by rw[c9.state];cases pe<;>simp
  have d5: ¬eB G' (s2'.put s.aL none).heap L:=Ji c.wr (by rw[(tf f2).2];simp) c7;have f3:WR G' (s2'.put s.aL none).heap (dt w3 L (.loop {a0 with state:=.exhausted })):=(c.wr.killed s.aL).aside a6 trivial d5;have i4: ∀r∈ds,w3.heap[r]? =some (.deferred (some [])):=fun r hr=>by
   have:=(c0.at_ r hr).2;exact(c.ext.keep _ (iT this) (b5.not_deferred this)).trans this
  have h7:ix G s2.heap w G' (s2'.put s.aL none).heap (dt w3 L (.loop {a0 with state:=.exhausted })) s.aL a8.aL (LB B fr.loc):=by
   have hC:=c.ext;refine ix.aside (o:=.loop a0) ?_ a6 trivial trivial (fun h=>by omega);refine⟨b0.trans hC.le,eG x1.size hC.size,?_,?_,?_,?_,x1.quiet.trans hC.quiet,?_⟩;intro b hb ho _;refine(hC.keepW b (by omega) ?_).trans (x1.keepW b hb ho);rintro⟨m,ad,pp,J,tp,O,t3⟩;have J:(s2.heap.set s2.aL _).get m=some pp:=J;rw[aC.get_set,p.sees.aL] at J;have O:(if m=s.aL then some ⟨L,0,none⟩ else G.at_ m)=some ad:=O;by_cases e:m=s.aL
   grind
   rw[iN e] at J O;exact ho ⟨m,ad,pp,J,tp,O,t3⟩;intro b hb ho;have ho:=hC.owns b (by omega) (AK ho);obtain⟨m,ad,J,O,t3⟩:=ho;have J:(s2.heap.set s2.aL _).get m≠none:=J;rw[aC.get_set,p.sees.aL] at J;have O:(if m=s.aL then some ⟨L,0,none⟩ else G.at_ m)=some ad:=O;by_cases e:m=s.aL
   grind
   rw[iN e] at J O;exact⟨m,ad,J,O,t3⟩;intro m ad hm h0;by_cases e:m=s.aL
   grind
   have j5:(G.name s.aL ⟨L,0,none⟩).at_ m=none:=by
    show(if m=s.aL then _ else G.at_ m)=none;rw[iN e];exact h0
   have:=hC.names m ad hm j5;have hq:s.aL+1<=m:=this.1;exact⟨by omega,this.2⟩;intro b o v hb hv h0;have ho:=hC.cells b o v (by omega) hv h0;obtain⟨m,ad,J,O,t3⟩:=ho;have J:(s2.heap.set s2.aL _).get m≠none:=J;rw[aC.get_set,p.sees.aL] at J;have O:(if m=s.aL then some ⟨L,0,none⟩ else G.at_ m)=some ad:=O;by_cases e:m=s.aL
   grind
   rw[iN e] at J O;exact⟨m,ad,J,O,t3⟩;intro b hb ho;have ho:=hC.ownsW b (by omega) (C0 ho);obtain⟨m,ad,pp,J,tp,O,t3⟩:=ho;have J:(s2.heap.set s2.aL _).get m=some pp:=J;rw[aC.get_set,p.sees.aL] at J;have O:(if m=s.aL then some ⟨L,0,none⟩ else G.at_ m)=some ad:=O;by_cases e:m=s.aL
   grind
   rw[iN e] at J O;exact⟨m,ad,pp,J,tp,O,t3⟩
  have g4:cz G' (s2'.put s.aL none).heap B fr a.tmps (dt w3 L (.loop {a0 with state:=.exhausted })):=by
   have e1:qe (G.name s.aL ⟨L,0,none⟩) (s2.new (.loop f fr.env fr.size U.toList T R none)).heap B fr.loc Y:=by
    have:=fx.locs.ext x1;refine⟨fun t cs ht=>?_,fun t cs ht ho=>?_,this.ro,this.inj⟩;obtain⟨C,e,u1,u2⟩:=this.cells t cs ht;exact⟨C,e,u1,fun i v hi=>let⟨v1,z,v2,v3⟩:=u2 i v hi;⟨v1,z,v2,v3.mono b0⟩⟩;obtain⟨m,ad,J,O,t3⟩:=ho;have J:(s2.heap.set s2.aL _).get m≠none:=J;rw[aC.get_set,p.sees.aL] at J;have O:(if m=s.aL then some ⟨L,0,none⟩ else G.at_ m)=some ad:=O;by_cases e:m=s.aL;rw[iP e] at O;injection O with O;subst O
    obtain⟨C,ty,u1,_⟩:=fx.locs.cells t cs ht
    grind
    rw[iN e] at J O;exact fx.locs.free t cs ht ⟨m,ad,J,O,t3⟩
   have e2:=e1.ext c.ext;have e3:qe G' (s2'.put s.aL none).heap B fr.loc w3:=⟨e2.cells,fun t cs ht ho=>e2.free t cs ht (AK ho),e2.ro,e2.inj⟩;exact⟨fx.size,fun t=>(fx.env t).mono (b0.trans c.ext.le),e3.aside a6 trivial⟩
  have gP:=fG.put q4 (mk:=mk) none;have V:ug Q mk ch fr G B s s2 a w (lg Q (n+1) f (.rangeFunc g U T R) mk fr s) (FS pe) {a with defers:=ds.map wK++a.defers } (dt w3 L (.loop {a0 with state:=.exhausted })):=by
   refine⟨a4,fr,a8.put s.aL none,s2'.put s.aL none,G',B,c8,c.inb,hx,⟨(g0.trans gC).trans gP,(d0.trans g0 gC c.same).trans (g0.trans gC) gP (.put y2 q4 none),f3,h7,g4,fun b h=>.inl h,ds,rfl,c0.nodup,?_⟩⟩;intro r hr;refine⟨(c0.at_ r hr).1,?_⟩
   have:=i4 r hr;rw[jC _ _ _ _ (iT a6),iN (fun e=>by
    grind)]
   exact this
  refine⟨_,_,run_endLoop a6 h8,?_⟩
  have:=hK _ _ _ V;rw[Qo];rw[c9.pending] at this ⊢;cases pe with
  |none=>exact this
  |some x=>
   cases x with
   |normal=>exact wpIn_skip this
   |exit id=>exact wpIn_exit this
   |ret=>exact wpIn_ret this
 |_=>
  obtain⟨e0,c3,s0,h0,_⟩:=hs ch (.refl _ _) hi;cases h0
end
variable{fn:Func}{u:aa}
section
variable{P:Program}{mk:aI}{G:Gh}{B:Nat->Nat}{fr:Fr}{s:St}{tmps:Array Value}{w:World}
theorem aqk(wr:WR G s.heap w)(fl:qe G s.heap B fr.loc w)(hl:LV G fr.loc B u x)(q:lM P mk t u fr.loc s=some v):
 ∃E y,x= .pointer (some E)/\(loadVar t E).run P w= .ok y w/\VR G v y:=by
 unfold lM at q;split at q;rename_i t' g Z;simp only[aj] at q;obtain⟨cs,U,q⟩:=q;obtain⟨h1,_,h2⟩:=hl;have hg:=Za U;replace h2:=h2 hg;subst hg;obtain⟨C,e,Y,V⟩:=fl.cells t' cs U;obtain⟨y,J,O,ht⟩:=y7 (w:=w) (b:=B t') (base:=0) q (fun i u hi=>by
  obtain⟨R,z,I,hr⟩:=V i u hi;exact⟨R,z,by rw[oE Y];simpa using I,hr⟩)
 grind
 rename_i n Z;simp only[aj] at q;obtain⟨ob,T,q⟩:=q;split at q;rename_i cs;have hl:VR G _ _:=hl;cases hl;rename_i E hn;obtain⟨a2,p,a0,C,e,Y,_,V⟩:=wr.obj n _ (ie T);rw[hn] at p;injection p with p;subst p
 obtain⟨y,J,O,ht⟩:=y7 (w:=w) (b:=E.block) (base:=E.off) q (fun i u hi=>by
  obtain⟨R,z,I,hr⟩:=V i u hi;exact⟨R,z,by rw[oE Y];exact I,hr⟩)
 exact⟨_,y,rfl,J,O⟩;rename_i cs;have hl:VR G _ _:=hl;cases hl;rename_i E hn;obtain⟨a2,p,a0,C,e,Y,_,V⟩:=wr.obj n _ (ie T);rw[hn] at p;injection p with p;subst p
 obtain⟨y,J,O,ht⟩:=y7 (w:=w) (b:=E.block) (base:=E.off) q (fun i u hi=>by
  obtain⟨R,z,I,hr⟩:=V i u hi;exact⟨R,z,by rw[oE Y];exact I,hr⟩)
 exact⟨_,y,rfl,J,O⟩;cases q;rename_i cs;have hl:VR G _ _:=hl;cases hl;rename_i b base a1;obtain⟨y,J,O,ht⟩:=y7 (w:=w) (b:=b) (base:=base) q (fun i u hi=>wr.ro _ _ _ (a1 i u hi))
 grind
 cases q
def JO(tmps:Array Value):ResultVar->Sem Value
 | .tmp t=>pure (tmps.getD t undef)
 | .cell a t=>do loadVar t (<-asAddr (tmps.getD a undef))
theorem abT{Q:aD}(wr:WR G s.heap w)(fx:cz G s.heap B fr tmps w): ∀ {l:List ResultVar} {vs:List aa},iu Q mk fr s l=some vs->
 ∃g,(l.mapM (JO tmps)).run Q.P w= .ok g w/\bR G vs g
 | [],_,h=>by
   simp only[iu,aH] at h;subst h;exact⟨[],by simp[Sem.run_pure],.nil⟩
 |r::l,_,h=>by
  simp only[iu,aj] at h;obtain⟨v,q,vs,p,h⟩:=h;obtain⟨C,h⟩:=aY h;injection h with h;subst h
  obtain⟨g,h1,J⟩:=abT wr fx p;have: ∃y,(JO tmps r).run Q.P w= .ok y w/\VR G v y:=by
   cases r with
   |tmp t=>
    have z:=cz.evc (a:=⟨tmps,[]⟩) fx q;exact⟨_,rfl,z.1⟩
   |cell a t=>
    obtain⟨T,y,R,e2,O⟩:=aqk wr fx.locs (fx.env a) q
    grind [JO,asAddr]
  obtain⟨y,I,E⟩:=this;refine⟨y::g,?_,.cons E J⟩;rw[List.mapM_cons];simp[I,h1]
def auC(wr:WR G s.heap w)(fx:cz G s.heap B fr tmps w){vs:List aa}(h:iu Q mk fr s fn.results.toList=some vs):
 ∃y,(results fn tmps).run Q.P w= .ok y w/\VR G (nq vs) y:=by
 obtain⟨z,h1,q⟩:=abT wr fx h;have hr:results fn tmps=(do let vs<-fn.results.mapM (JO tmps);pure (if h:vs.size=1 then vs[0] else .tuple vs)):=by
  unfold results;congr 1
 rw[hr,Array.mapM_eq_mapM_toList];simp only[Sem.run_bind,Sem.run_map,h1,lX,Sem.run_pure];cases q with
 |nil=>exact⟨.tuple ⟨[]⟩,by simp,.tup .nil⟩
 |cons a b=>
  rename_i v y p g;cases b with
  |nil=>exact⟨y,by simp,a⟩
  |cons c d=>exact⟨.tuple ⟨_⟩,by simp,.tup (.cons a (.cons c d))⟩
end
theorem aae: ∀(l:List aa) (n t:Nat),(fT n l).get t=if t<n then none else l[t-n]?
 | [],n,t=>by
   simp only[fT];have:(aC.nil:aw).get t=none:=rfl;rw[this];simp
 |v::l,n,t=>by
  rw[fT,aC.get_set,aae l (n+1) t]
  grind
theorem ahT{G:Gh}(q:bR G args xs)(g:Nat):
 cz G h (fun _=>0) ⟨fT 0 args,bif bn args.length g then g else args.length,[]⟩ ((⟨xs⟩:Array Value)++Array.replicate (g-(⟨xs⟩:Array Value).size) undef) w where
 size:=by
  have:=q.length
  grind [tG]
 env t:=by
  have p:=q.length;simp only[ac,aae,Nat.not_lt_zero,if_false,Nat.sub_zero];cases e:args[t]? with
  |some v=>
   obtain⟨x,C,hr⟩:=q.get e;have y:t<xs.length:=by
    rcases nG t xs.length with h|h
    exact h
    grind
   have:((⟨xs⟩:Array Value)++Array.replicate (g-(⟨xs⟩:Array Value).size) undef).getD t undef=x:=by
    rw[tX,Array.getElem?_append_left (by simpa using y)];simp[C]
   rw[this];exact LV.of_VR hr
  |none=>
   have z:xs.length<=t:=by rw[<-p];exact List.getElem?_eq_none_iff.1 e
   have:((⟨xs⟩:Array Value)++Array.replicate (g-(⟨xs⟩:Array Value).size) undef).getD t undef=undef:=by
    rw[tX,Array.getElem?_append_right (by simpa using z),Sa];split<;>rfl
   rw[this];exact LV.of_VR (RI G)
 locs:=⟨fun t cs h=>by simp[Loc.get] at h,fun t cs h=>by simp[Loc.get] at h,fun t cs h=>by simp[Loc.get] at h,fun t u cs E h=>by simp[Loc.get] at h⟩
theorem Y0{Q:aD}{fn:Func}{R:Ending->World->Prop}{G0 G:Gh}{h0:aC aJ}{w0:World}{B:Nat->Nat}{fr:Fr}{tmps:Array Value}{lo hi:Nat}{mk:aI}{s:St}{vs:List aa}(g:iu Q mk fr s fn.results.toList=some vs)(C: ∀y w',WR G s.heap w'->cJ G0 h0 w0 G s.heap w' lo hi->VR G (nq vs) y->R (.returned y) w'):
 ∀(rs:List Nat) (w:World),WR G s.heap w->cz G s.heap B fr tmps w->cJ G0 h0 w0 G s.heap w lo hi->vP w0.heap.size w rs->LeavesInM Fence.wide 0 Q.P fn tmps R (rs.map wK++[]) .returning w
 | [],w,wr,fx,ex,_=>by
   obtain⟨y,I,E⟩:=auC (Q:=Q) wr fx g;exact⟨y,I,C y w wr ex E⟩
 |r::rs,w,wr,fx,ex,m=>by
  obtain⟨h1,p⟩:=m.at_ r (by simp);have z:=List.nodup_cons.1 m.nodup;refine⟨by simp,.inl ⟨r,dt w r (.deferred none),rfl,run_takeDeferred p,?_⟩⟩;refine Y0 g C rs _ (wr.aside p trivial (wr.not_deferred p)) (fx.aside p trivial) (ex.aside p trivial trivial fun h=>by omega) ⟨z.2,fun q J=>?_⟩;obtain⟨T,O⟩:=m.at_ q (by simp[J])
  grind [jC]
theorem aga(hg:Al Q)(hn:sF Q n):xK Q (n+1):=by
 intro f args mk s s2 G w xs ch A p hv hi hs;have R: ∀c,(b9 (Q.at c) (n+1)).call f args mk s=jx (Q.at c) (b9 (Q.at c) n) f args mk s:=fun _=>rfl;cases hsp:Q.spec f with
 |some sp=>
  have z: ∀c,(b9 (Q.at c) (n+1)).call f args mk s=(sp args).bind fun v=>some (v,s):=by
   intro c;have:(Q.at c).spec f=some sp:=hsp;rw[R,jx,this]
  obtain⟨v,s',h0,_⟩:=hs ch (.refl _ _) hi;rw[z] at h0;simp only[aj,aH,bu] at h0;obtain⟨V,h1,rfl,rfl⟩:=h0;refine(hg.spec f sp hsp args V h1 G s2.heap w xs p.wr hv).mono ?_;rintro y w' ⟨G',I,g,C⟩;refine⟨ch,V,s,s2,G',.refl _ _,hi,by rw[z,h1];rfl,.refl p.sees,I,?_,C⟩;exact⟨g.le,g.size,g.keepW,g.owns,fun m a e Y=>by have:=g.names m a e Y;omega,g.cells,g.quiet,g.ownsW⟩
 |none=>
 cases hsh:Q.specH f with
 |some sp=>
  have z: ∀c,(b9 (Q.at c) (n+1)).call f args mk s=(fC (s.get mk) (sp args)).bind fun v=>some (v,s):=by
   intro c;have h1:(Q.at c).spec f=none:=hsp;have I:(Q.at c).specH f=some sp:=hsh;rw[R,jx,h1];simp only[I]
  obtain⟨v,s',h0,_⟩:=hs ch (.refl _ _) hi;rw[z] at h0;simp only[aj,aH,bu] at h0;obtain⟨V,h1,rfl,rfl⟩:=h0;have a4:fC s2.heap.get (sp args)=some V:=by
   have:=F4 p.sees (sp args) V h1;generalize sp args=x at this;clear h1 z
   induction x with
   |ret _=>exact this
   |ask m k ih=>
    simp only[fC,aj] at this ⊢;obtain⟨o,q1,q2⟩:=this;exact⟨o,(tf q1).2,ih o q2⟩
  refine(hg.specH f sp hsh args V G s2.heap w xs p.wr hv a4).mono ?_;rintro y w' ⟨G',I,g,C⟩;refine⟨ch,V,s,s2,G',.refl _ _,hi,by rw[z,h1];rfl,.refl p.sees,I,?_,C⟩;exact⟨g.le,g.size,g.keepW,g.owns,fun m a e Y=>by have:=g.names m a e Y;omega,g.cells,g.quiet,g.ownsW⟩
 |none=>
 cases hsw:Q.specW f with
 |some sp=>
  have z: ∀c,(b9 (Q.at c) (n+1)).call f args mk s=(sp args).bind (wY mk s):=by
   intro c;have h1:(Q.at c).spec f=none:=hsp;have I:(Q.at c).specH f=none:=hsh;have g:(Q.at c).specW f=some sp:=hsw;rw[R,jx,h1];simp only[I,g]
  obtain⟨v,s',h0,_⟩:=hs ch (.refl _ _) hi;have a1:=h0;rw[z] at h0;simp only[aj] at h0;obtain⟨q,h1,g⟩:=h0;cases q with
  |none=>
   simp only[wY,aH,bu] at g;obtain⟨rfl,rfl⟩:=g;refine((hg.specW f sp hsw args G s2.heap w xs p.wr hv).1 h1).mono ?_;rintro y w' ⟨G',k2,E,k4⟩;refine⟨ch,_,_,s2,G',.refl _ _,hi,a1,.refl p.sees,k2,?_,k4⟩;exact⟨E.le,E.size,E.keepW,E.owns,fun m a e Y=>by have:=E.names m a e Y;omega,E.cells,E.quiet,E.ownsW⟩
  |some q=>
   simp only[wY,aj] at g;obtain⟨o,I,g⟩:=g;cases o<;>simp only[Db,aj,reduceCtorEq] at g;obtain⟨u,C,g⟩:=g;cases u<;>simp only[D1,aH,bu,reduceCtorEq] at g;rename_i cs Z;obtain⟨rfl,rfl⟩:=g;have J:=(tf (p.sees.look I)).2;have C:fC s2.heap.get (q.2 cs)=some (.agg Z):=by
    have:=F4 p.sees (q.2 cs) _ C;generalize q.2 cs=x at this;clear C
    induction x with
    |ret _=>exact this
    |ask m k ih=>
     simp only[fC,aj] at this ⊢;obtain⟨o,q1,q2⟩:=this;exact⟨o,(tf q1).2,ih o q2⟩
   refine((hg.specW f sp hsw args G s2.heap w xs p.wr hv).2 q.1 q.2 _ Z h1 J C).mono ?_;rintro y w' ⟨G',k2,E,k4⟩;refine⟨ch,_,_,s2.put q.1 (some (.cells Z)),G',.refl _ _,hi,a1,.put p.sees I _,k2,?_,k4⟩;exact⟨E.le,E.size,E.keepW,E.owns,fun m a e Y=>by have:=E.names m a e Y;omega,E.cells,E.quiet,E.ownsW⟩
 |none=>
  have z: ∀c,(b9 (Q.at c) (n+1)).call f args mk s=(Q.P.funcs[f]?).bind fun fn=>fn.body.bind fun b=>
   (lg Q n f b mk ⟨fT 0 args,bif bn args.length fn.ntmps then fn.ntmps else args.length,[]⟩ s c).bind (qs (Q.at c) fn mk):=by
   intro c;have h1:(Q.at c).spec f=none:=hsp;have I:(Q.at c).specH f=none:=hsh;have g:(Q.at c).specW f=none:=hsw;rw[R,jx,h1];simp only[I,g];rfl
  obtain⟨v0,s0,h0,_⟩:=hs ch (.refl _ _) hi;rw[z] at h0;simp only[aj] at h0;obtain⟨fn,hf,b,hb,_⟩:=h0;have T: ∀c,(b9 (Q.at c) (n+1)).call f args mk s=(lg Q n f b mk ⟨fT 0 args,bif bn args.length fn.ntmps then fn.ntmps else args.length,[]⟩ s c).bind (qs (Q.at c) fn mk):=by
   intro c;rw[z,hf];simp only[bg,hb]
  right;have a6:=hg.names f fn hf;refine⟨?_,?_⟩
  simp_all [callFunc]
  refine(callsIn_wide (n:=0)).1 (callsIn_of_wp_marks hf hb trivial ?_);have fx:=ahT (G:=G) (h:=s2.heap) (w:=w) hv fn.ntmps;refine(hn none f b mk _ ch A G (fun _=>0) s s2 _ w (fun h=>absurd rfl h) .none p fx hi ?_ _ ?_).1;intro c h1 I;obtain⟨v,s',g,C⟩:=hs c h1 I;rw[T] at g;simp only[aj] at g;obtain⟨⟨x,fr',s1⟩,J,h6⟩:=g;refine⟨x,fr',s1,J,?_⟩;have:s1=s':=by
   cases x<;>simp only[qs,aj,aH,bu] at h6;obtain⟨_,_,_,e⟩:=h6;exact e;cases h6;obtain⟨_,_,_,e⟩:=h6;exact e
  subst this;exact C;rintro x a' w' ⟨c,fr',s',s2',G',B',h1,I,g,C⟩;obtain⟨v,s1,J,_⟩:=hs c h1 I;have a3:=J;rw[T,g] at J;simp only[bg] at J;have U: ∀vs,iu (Q.at c) mk fr' s' fn.results.toList=some vs->v=nq vs->s1=s'->
   LeavesInM Fence.wide 0 Q.P fn a'.tmps (fun e w'=> ∃y',e= .returned y'/\ ∃a5 v s' s2' G',GI Q (n+1) f args mk ch G s s2 w y' w' a5 v s' s2' G') a'.defers .returning w':=by
   intro vs O e1 e2;have a0:iu (Q.at c) mk fr' s2' fn.results.toList=some vs:=
    Zd (Q:=Q.at c) mk fr' fn.results.toList s' s2' vs O (fun m o hm=>(C.same.sees p.sees C.goes).look hm)
   obtain⟨rs,d1,d2⟩:=C.defers;rw[d1];have a2:cJ G s2.heap w G' s2'.heap w' s.aL s'.aL:=C.ext.toExt fun b ⟨t,cs,e,_⟩=>by simp[Loc.get] at e
   refine Y0 (Q:=Q.at c) a0 ?_ rs w' C.wr C.fx a2 d2;intro y w'' u1 u2 u3;refine⟨y,rfl,c,v,s1,s2',G',h1,I,a3,by rw[e2];exact C.same,u1,?_,by rw[e1];exact u3⟩;rw[e2];exact u2
  cases x with
  |exit id=>cases J
  |normal=>
   simp only[qs,aj,aH,bu] at J;obtain⟨vs,O,e1,e2⟩:=J;exact U vs O e1.symm e2.symm
  |ret=>
   simp only[qs,aj,aH,bu] at J;obtain⟨vs,O,e1,e2⟩:=J;exact U vs O e1.symm e2.symm
theorem Tx(J:Al Q)(n:Nat):xK Q n/\GQ Q n/\sF Q n:=by
 induction n using Nat.strongRecOn with
 |_ n E=>
  cases n with
  |zero=>
   refine⟨?_,?_,?_⟩;intro f args mk s s2 G w xs ch A p I hi g;obtain⟨v,s',h,_⟩:=g ch (.refl _ _) hi;cases h;intro ro f all mk l i fr ch A G B s s2 a w p C hi hl g K z;obtain⟨x,fr',s',h,_⟩:=g ch (.refl _ _) hi;cases h;intro ro f c mk fr ch A G B s s2 a w y q p C hi g K z;obtain⟨x,fr',s',h,_⟩:=g ch (.refl _ _) hi;cases h
  |succ n=>
   grind [aga,atw,ahm]
mutual
def bH:aa->Bool
 | .agg cs=>pures cs
 | .tup cs=>pures cs
 | .ptr _ _=>false
 | .Ge _ _ _=>false
 | .ro cs=>pures cs
 | .list _ xs r=>pures xs&&(match r with| .own _=>false|_=>true)
 | .arr _ _ _ _ _=>false
 | .map _=>false
 | .func _ a b=>pures a&&pures b
 | .iface _ v=>bH v
 | .yld _=>false
 | .roz _=>false
 |_=>true
def pures:List aa->Bool
 | []=>true
 |v::l=>bH v&&pures l
end
mutual
def cW:aa->aa
 | .agg cs=>.agg (dz cs)
 | .tup cs=>.tup (dz cs)
 | .ro cs=>.ro (dz cs)
 | .list n xs r=>.list n (dz xs) (match r with| .own _=>.no|r=>r)
 | .func f a b=>.func f (dz a) (dz b)
 | .iface t v=>.iface t (cW v)
 |v=>v
def dz:List aa->List aa
 | []=>[]
 |v::l=>cW v::dz l
end
variable{l:List aa}
theorem AP:pures l=true↔ ∀v∈l,bH v=true:=by
 induction l with
 |nil=>simp[pures]
 |cons v l g=>simp[pures,g]
mutual
def Gn: ∀ {v:aa},bH v=true->cW v=v
 | .agg cs,h=>by simp only[bH] at h;simp only[cW,kC h]
 | .tup cs,h=>by simp only[bH] at h;simp only[cW,kC h]
 | .ro cs,h=>by simp only[bH] at h;simp only[cW,kC h]
 | .list n xs r,h=>by
   simp only[bH,bm] at h;simp only[cW,kC h.1];cases r<;>first|rfl|(simp at h)
 | .func f a b,h=>by
   simp only[bH,bm] at h;simp only[cW,kC h.1,kC h.2]
 | .iface t v,h=>by simp only[bH] at h;simp only[cW,Gn h]
 | .bool _,_=>rfl
 | .int _ _,_=>rfl
 | .str _,_=>rfl
 | .nilp,_=>rfl
 | .ptr _ _,h=>by simp[bH] at h
 | .Ge _ _ _,h=>by simp[bH] at h
 | .AL,_=>rfl
 | .arr _ _ _ _ _,h=>by simp[bH] at h
 | .nilm,_=>rfl
 | .map _,h=>by simp[bH] at h
 | .nilf,_=>rfl
 | .nili,_=>rfl
def kC: ∀ {l:List aa},pures l=true->dz l=l
 | [],_=>rfl
 |v::l,h=>by
  simp only[pures,bm] at h;simp only[dz,Gn h.1,kC h.2]
end
theorem axJ(h:v.scal=true):(cW v).scal=true:=by
 cases v<;>simp_all [cW,aa.scal]
theorem avf(h:de l=true):de (dz l)=true:=by
 induction l with
 |nil=>rfl
 |cons v l g=>
  grind [de,dz,axJ]
def JI(h:pures l=true)(hi:l[i]? =some v):bH v=true:=AP.1 h v (List.mem_of_getElem? hi)
theorem abB(h:pures l=true):pures (aF l)=true:=by
 induction l with
 |nil=>rfl
 |cons v l g=>
  simp only[pures,bm] at h;have h1:pures v.cells=true:=by
   cases v<;>first
    |(simp only[aa.cells];simpa[bH] using h.1)
    |grind [aa.cells,pures]
  grind [AP,aF]
section
variable{G1 G2:Gh}
def DW(G1 G2:Gh):Prop:= ∀b o v,G1.ro b o=some v->bH v=true->G2.ro b o=some v
mutual
def VR.onto(k:DW G1 G2): ∀ {v:aa} {x:Value},VR G1 v x->bH v=true->VR G2 v x
 |_,_,.bool b,_=>.bool b
 |_,_,.int k n,_=>.int k n
 |_,_,.str s,_=>.str s
 |_,_,.agg hc hs,h=>.agg hc (bR.onto k hs (by simpa[bH] using h))
 |_,_,.tup hs,h=>.tup (bR.onto k hs (by simpa[bH] using h))
 |_,_,.nilp,_=>.nilp
 |_,_,.ptr e,h=>by simp[bH] at h
 |_,_,.ro e,h=>.ro fun i x g=>k _ _ _ (e i x g) (JI (by simpa[bH] using h) g)
 |_,_,.AL,_=>.AL
 |_,_,.list (r:=r) a b c d e f,h=>by
  simp only[bH,bm] at h;refine .list a b c d (fun i x g=>k _ _ _ (e i x g) (JI (abB h.1) g)) ?_;cases r with
  |GE=>exact f
  |own n=>simp at h
  |no=>exact trivial
 |_,_,.arr ..,h=>by simp[bH] at h
 |_,_,.nilm,_=>.nilm
 |_,_,.map e,h=>by simp[bH] at h
 |_,_,.nilf,_=>.nilf
 |_,_,.func a b,h=>by
  simp only[bH,bm] at h;exact .func (bR.onto k a h.1) (bR.onto k b h.2)
 |_,_,.nili,_=>.nili
 |_,_,.iface e,h=>.iface (VR.onto k e (by simpa[bH] using h))
def bR.onto(k:DW G1 G2): ∀ {vs:List aa} {xs:List Value},bR G1 vs xs->pures vs=true->bR G2 vs xs
 |_,_,.nil,_=>.nil
 |_,_,.cons a b,h=>by
  simp only[pures,bm] at h;exact .cons (VR.onto k a h.1) (bR.onto k b h.2)
end
end
def Gh.plain(G:Gh):Gh where
 at_ _:=none
 ro b o:=(G.ro b o).bind fun v=>if bH v=true then some v else none
 dim:=G.dim
def JH(G:Gh):DW G G.plain:=fun b o v h g=>by simp[Gh.plain,h,g]
variable{G:Gh}
theorem WR.plain(x:WR G h w):WR G.plain .nil w where
 obj n o h:=by cases h
 sep n m a b h:=absurd rfl h
 ro b o v g:=by
  simp only[Gh.plain,aj] at g;obtain⟨u,p,g⟩:=g;split at g;rename_i hp;injection g with g;subst g
  obtain⟨h1,y,h2,h3⟩:=x.ro b o u p;exact⟨h1,y,h2,h3.onto (JH G) hp⟩;cases g
 apart n ob a i v h:=by cases h
 dim:=x.dim
 below n a h:=by cases h
def s0:St:=⟨.nil,0,0,0⟩
def Jj: ¬eB G .nil b:=fun⟨_,_,h,_⟩=>h rfl
def cQ(P:Program)(f:FuncId)(sp:List aa->Option aa):Prop:=
 ∀args v,sp args=some v-> ∀(G:Gh) (h:aC aJ) (w:World) (xs:List Value),WR G h w->bR G args xs->
  lZ P f ⟨xs⟩ w fun y w'=> ∃G',WR G' h w'/\cJ G h w G' h w' 0 0/\VR G' v y
structure uf (r r':ow):Prop where
 ops: ∀f all mk l fr s x,r.ops f all mk l fr s=some x->r'.ops f all mk l fr s=some x
 draw: ∀f all bs mk rs i l fr s x,r.draw f all bs mk rs i l fr s=some x->r'.draw f all bs mk rs i l fr s=some x
 code: ∀f c mk fr s x,r.code f c mk fr s=some x->r'.code f c mk fr s=some x
 call: ∀f args mk s x,r.call f args mk s=some x->r'.call f args mk s=some x
def jP{x g:Option α}{k p:α->Option β}{b:β}(h:x.bind k=some b)(q: ∀a,x=some a->g=some a)(y: ∀a,k a=some b->p a=some b):g.bind p=some b:=by
 cases e:x with
 |none=>rw[e] at h;cases h
 |some a=>rw[e] at h;rw[q a e];exact y a h
variable{x:aa×Loc×St}
section
variable{Q:aD}{r r':ow}(hr:uf r r')
include hr
theorem RV{x:aa×St}(h:mO r n args mk s=some x):mO r' n args mk s=some x:=by
 unfold mO at h ⊢;refine jP h (fun _ h=>h) fun o h=>jP h (fun y h=>?_) fun _ h=>h;unfold Be at h ⊢;split at h;obtain⟨q,h⟩:=aY h;rw[q];refine jP h (fun _ h=>h) fun g h=>jP h (fun _ h=>hr.code _ _ _ _ _ _ h) fun p h=>?_;obtain⟨e,fr1,s1⟩:=p;cases e with
 |normal=>exact jP h (fun _ h=>hr.code _ _ _ _ _ _ h) fun _ h=>h
 |exit i=>cases h
 |ret=>cases h
 cases h
theorem aaN(h:eW Q r f o mk fr s=some x):eW Q r' f o mk fr s=some x:=by
 unfold eW at h ⊢;split at h;split at h;exact h;rename_i c _ _ _;cases hy:oO fr.env c with
 |true=>
  rw[hy] at h;simp only[cT] at h ⊢;unfold sn at h ⊢;exact jP h (fun _ h=>h) fun a h=>jP h (fun _ h=>RV hr h) fun _ h=>h
 |false=>
  rw[hy] at h;simp only[cF] at h ⊢;unfold pj at h ⊢;exact jP h (fun _ h=>h) fun a h=>jP h (fun _ h=>hr.call _ _ _ _ _ h) fun _ h=>h
 exact h
theorem ai7:uf (M2 Q r) (M2 Q r') where
 ops f all mk l fr s x h:=by
  have h:mE Q r f all mk l fr s=some x:=h;show mE Q r' f all mk l fr s=some x;unfold mE at h ⊢;split at h;exact h;cases hw:eP all fr.env _<;>rw[hw] at h<;>simp only[cT,cF] at h ⊢;exact jP h (fun _ h=>h) fun _ h=>hr.ops _ _ _ _ _ _ _ h;exact jP h (fun _ h=>aaN hr h) fun a h=>jP h (fun _ h=>h) fun _ h=>hr.ops _ _ _ _ _ _ _ h
 draw f all bs mk rs i l fr s x h:=by
  have h:mg Q r f all bs mk rs i l fr s=some x:=h;show mg Q r' f all bs mk rs i l fr s=some x;unfold mg at h ⊢;split at h;exact h;cases hw:eP all fr.env _<;>rw[hw] at h<;>simp only[cT,cF] at h ⊢;exact jP h (fun _ h=>h) fun _ h=>hr.draw _ _ _ _ _ _ _ _ _ _ h;refine jP h (fun _ h=>aaN hr h) fun a h=>?_;obtain⟨q,h⟩:=aY h;rw[q];exact jP h (fun _ h=>h) fun _ h=>hr.draw _ _ _ _ _ _ _ _ _ _ h
 code f c mk fr s x h:=by
  have h:xZ Q r f c mk fr s=some x:=h;show xZ Q r' f c mk fr s=some x;have g: ∀b y,pP r f b mk y=some x->pP r' f b mk y=some x:=by
   intro b y p;obtain⟨e,fr1,s1⟩:=y;cases e;exact hr.code _ _ _ _ _ _ p;exact p;exact p
  cases c<;>simp only[xZ] at h ⊢ <;>first
   |exact h
   |exact jP h (fun _ h=>hr.code _ _ _ _ _ _ h) fun _ h=>g _ _ h
   |exact jP h (fun _ h=>hr.code _ _ _ _ _ _ h) fun _ h=>h
   |exact hr.code _ _ _ _ _ _ h
   |skip
  case cond=>
   refine jP h (fun _ h=>h) fun v h=>?_;cases v<;>try (cases h;done)
   rename_i b;cases b<;>exact hr.code _ _ _ _ _ _ h
  case rangeFunc=>
   refine jP h (fun _ h=>h) fun v h=>?_;unfold wZ at h ⊢;split at h;obtain⟨z,h⟩:=aY h;rw[z];exact jP h (fun _ h=>hr.call _ _ _ _ _ h) fun _ h=>h;cases h
  case region=>
   rename_i id ops draw _;unfold JP at h ⊢;refine jP h (fun a h=>?_) fun _ h=>h;cases draw with
   |false=>exact hr.ops _ _ _ _ _ _ _ h
   |true=>
    simp only[cT] at h ⊢;obtain⟨q,h⟩:=aY h;rw[q];exact hr.draw _ _ _ _ _ _ _ _ _ _ h
 call f args mk s x h:=by
  have h:jx Q r f args mk s=some x:=h;show jx Q r' f args mk s=some x;unfold jx at h ⊢;split at h;exact h;split at h;exact h;split at h;exact h;exact jP h (fun _ h=>h) fun fn h=>jP h (fun _ h=>h) fun c h=>jP h (fun _ h=>hr.code _ _ _ _ _ _ h) fun _ h=>h
end
def Zl(Q:aD): ∀n,uf (b9 Q n) (b9 Q (n+1))
 |0=>⟨fun _ _ _ _ _ _ _ h=>(by cases h),fun _ _ _ _ _ _ _ _ _ _ h=>(by cases h),fun _ _ _ _ _ _ h=>(by cases h),fun _ _ _ _ _ h=>(by cases h)⟩
 |n+1=>ai7 (Zl Q n)
def uf.refl(r:ow):uf r r:=⟨fun _ _ _ _ _ _ _ h=>h,fun _ _ _ _ _ _ _ _ _ _ h=>h,fun _ _ _ _ _ _ h=>h,fun _ _ _ _ _ h=>h⟩
def uf.trans{a b c:ow}(x:uf a b)(y:uf b c):uf a c:=
 ⟨fun _ _ _ _ _ _ _ h=>y.ops _ _ _ _ _ _ _ (x.ops _ _ _ _ _ _ _ h),fun _ _ _ _ _ _ _ _ _ _ h=>y.draw _ _ _ _ _ _ _ _ _ _ (x.draw _ _ _ _ _ _ _ _ _ _ h),
  fun _ _ _ _ _ _ h=>y.code _ _ _ _ _ _ (x.code _ _ _ _ _ _ h),fun _ _ _ _ _ h=>y.call _ _ _ _ _ (x.call _ _ _ _ _ h)⟩
def m9(Q:aD)(h:n<=m):uf (b9 Q n) (b9 Q m):=by
 induction m with
 |zero=>have:n=0:=by omega
        subst this;exact .refl _
 |succ m g=>
  by_cases e:n=m+1;subst e;exact .refl _;exact(g (by omega)).trans (Zl Q m)
inductive SG where
 |aw
 |never
 |when (t:Tmp) (b:Bool)
structure au where
 dst:Option Tmp
 op:Op
 g:SG
abbrev sOa(d:Tmp)(o:Op):au:=⟨some d,o,.aw⟩
abbrev sOw(d:Tmp)(o:Op)(n:Tmp)(b:Bool):au:=⟨some d,o,.when n b⟩
abbrev uh:=List au
def Ng(all:Array Oper)(o:Oper):SG:=
 match o.guard with
 |none=>.aw
 |some (j,w)=>match(all[j]?).bind (·.dst) with
  |some d=>.when d w
  |none=>.never
def pT(all:Array Oper)(o:Oper):au:=⟨o.dst,o.op,Ng all o⟩
inductive SC where
 |skip
 |ret
 |exit (id:Nat)
 |seq (a b:SC)
 |cond (x:Operand) (a b:SC)
 |block (id:Nat) (b:SC)
 |scope (b:SC)
 |loop (b:SC)
 |region (ops:List au)
 |draw (ops:List au) (bs:List Nat)
 |rfun (g:Operand) (ps:List Tmp) (a b:Code)
 |bad
def dJ:Code->SC
 | .skip=>.skip
 | .label _=>.skip
 | .ret=>.ret
 | .exit id=>.exit id
 | .seq a b=>.seq (dJ a) (dJ b)
 | .cond x a b=>.cond x (dJ a) (dJ b)
 | .block id b=>.block id (dJ b)
 | .scope b=>.scope (dJ b)
 | .loop b=>.loop (dJ b)
 | .region _ ops false=>.region (ops.toList.map (pT ops))
 | .region _ ops true=>bif nN ops 0 ops.toList (Region.before ops).toList then .draw (ops.toList.map (pT ops)) (Region.before ops).toList else .bad
 | .rangeFunc g ps a b=>.rfun g ps.toList a b
 |_=>.bad
noncomputable def eY(e:aw):SG->Bool
 | .aw=>true
 | .never=>false
 | .when t b=>match ac e t with
   | .bool c=>c==b
   |_=>false
theorem Bc(all:Array Oper)(e:aw)(o:Oper):eY e (Ng all o)=eP all e o:=by
 unfold Ng eP;cases o.guard with
 |none=>rfl
 |some g=>
  obtain⟨j,w⟩:=g;simp only;cases (all[j]?).bind (·.dst)<;>rfl
section
variable(Q:aD)(f:FuncId)
noncomputable def cw(o:au)(mk:aI)(fr:Fr)(s:St):Option (aa×Loc×St):=
 match o.op with
 | .call c=>match c.callee with
   | .builtin _=>u9 Q.P mk (Q.hint f) o.dst c fr s
   |_=>(callee fr.env c).bind fun g=>(Q.spec g.1).bind fun sp=>(sp g.2).bind fun v=>some (v,fr.loc,s)
 |op=>lF Q.P mk Q.ch Q.kmax (Q.hint f) o.dst op fr s
noncomputable def sl(o:au)(fr:Fr)(s:St):Option (Fr×St):=
 bif eY fr.env o.g then(cw Q f o [] fr s).bind fun x=>(cN fr o.dst x.1 x.2.1).bind fun fr'=>some (fr',x.2.2)
 else(cN fr o.dst fN fr.loc).bind fun fr'=>some (fr',s)
noncomputable def vk:List au->Fr->St->Option (Fr×St)
 | [],fr,s=>some (fr,s)
 |o::l,fr,s=>(sl Q f o fr s).bind fun x=>vk l x.1 x.2
noncomputable def yY(bs:List Nat)(rs:List eZ)(i:Nat):List au->Fr->St->Option (Fr×St)
 | [],fr,s=>some (fr,s)
 |o::l,fr,s=>
  bif eY fr.env o.g then
   (cw Q f o (iH (bs.headD 0) rs []) fr ⟨s.heap,s.aL,s.aL,s.ci⟩).bind fun x=>
    bif pw (bs.headD 0) (bD (Q.hint f) o.dst fr.env o.op) (bh x.2.2.gt s.aL||isStore o.op) rs&&aK s.ci x.2.2.ci then
     (cN fr o.dst x.1 x.2.1).bind fun fr'=>
      yY bs.tail (⟨i,s.aL,x.2.2.aL,bD (Q.hint f) o.dst fr.env o.op,bh x.2.2.gt s.aL||isStore o.op⟩::rs) (i+1) l fr' (s.Gt x.2.2)
    else none
  else(cN fr o.dst fN fr.loc).bind fun fr'=>yY bs.tail rs (i+1) l fr' s
end
def Ex.block(id:Nat):Ex->Ex
 | .exit i=>bif aK i id then .normal else .exit i
 |x=>x
def aq(Q:aD)(g:FuncId)(args:List aa)(s:St)(v:aa)(s':St):Prop:= ∃n,(b9 Q n).call g args [] s=some (v,s')
def iy(Q:aD)(n:Nat)(args:List aa)(s:St)(v:aa)(s':St):Prop:= ∃k,mO (b9 Q k) n args [] s=some (v,s')
inductive rh (Q:aD) (f:FuncId):List au->Fr->St->Fr->St->Prop
 |nil {fr:Fr} {s:St}:rh Q f [] fr s fr s
 |step {o:au} {l:List au} {fr fr1 fr2:Fr} {s s1 s2:St}:sl Q f o fr s=some (fr1,s1)->rh Q f l fr1 s1 fr2 s2->rh Q f (o::l) fr s fr2 s2
 |call {o:au} {c:Call} {l:List au} {fr fr1 fr2:Fr} {s s1 s2:St} {g:FuncId} {args:List aa} {v:aa}:eY fr.env o.g=true->o.op= .call c->(∀b,c.callee≠ .builtin b)->callee fr.env c=some (g,args)->
  aq Q g args s v s1->cN fr o.dst v fr.loc=some fr1->rh Q f l fr1 s1 fr2 s2->rh Q f (o::l) fr s fr2 s2
 |yld {o:au} {c:Call} {l:List au} {fr fr1 fr2:Fr} {s s1 s2:St} {n:Nat} {args:List aa} {v:aa}:eY fr.env o.g=true->o.op= .call c->yieldee fr.env c=some (n,args)->
  iy Q n args s v s1->cN fr o.dst v fr.loc=some fr1->rh Q f l fr1 s1 fr2 s2->rh Q f (o::l) fr s fr2 s2
def KS(Q:aD)(g:FuncId)(args:List aa)(mk:aI)(s:St)(v:aa)(s':St):Prop:= ∃n,(b9 Q n).call g args mk s=some (v,s')
def Sy(Q:aD)(n:Nat)(args:List aa)(mk:aI)(s:St)(v:aa)(s':St):Prop:= ∃k,mO (b9 Q k) n args mk s=some (v,s')
inductive kw (Q:aD) (f:FuncId):List Nat->List eZ->Nat->List au->Fr->St->Fr->St->Prop
 |nil {bs:List Nat} {rs:List eZ} {i:Nat} {fr:Fr} {s:St}:kw Q f bs rs i [] fr s fr s
 |skip {bs:List Nat} {rs:List eZ} {i:Nat} {o:au} {l:List au} {fr fr1 fr2:Fr} {s s2:St}:eY fr.env o.g=false->cN fr o.dst fN fr.loc=some fr1->kw Q f bs.tail rs (i+1) l fr1 s fr2 s2->kw Q f bs rs i (o::l) fr s fr2 s2
 |step {bs:List Nat} {rs:List eZ} {i:Nat} {o:au} {l:List au} {fr fr1 fr2:Fr} {s s1 s2:St} {v:aa} {lc:Loc}:eY fr.env o.g=true->cw Q f o (iH (bs.headD 0) rs []) fr ⟨s.heap,s.aL,s.aL,s.ci⟩=some (v,lc,s1)->
  pw (bs.headD 0) (bD (Q.hint f) o.dst fr.env o.op) (bh s1.gt s.aL||isStore o.op) rs=true->s1.ci=s.ci->cN fr o.dst v lc=some fr1->
  kw Q f bs.tail (⟨i,s.aL,s1.aL,bD (Q.hint f) o.dst fr.env o.op,bh s1.gt s.aL||isStore o.op⟩::rs) (i+1) l fr1 (s.Gt s1) fr2 s2->kw Q f bs rs i (o::l) fr s fr2 s2
 |call {bs:List Nat} {rs:List eZ} {i:Nat} {o:au} {c:Call} {l:List au} {fr fr1 fr2:Fr} {s s1 s2:St} {g:FuncId} {args:List aa} {v:aa}:eY fr.env o.g=true->o.op= .call c->(∀b,c.callee≠ .builtin b)->callee fr.env c=some (g,args)->
  KS Q g args (iH (bs.headD 0) rs []) ⟨s.heap,s.aL,s.aL,s.ci⟩ v s1->
  pw (bs.headD 0) (bD (Q.hint f) o.dst fr.env o.op) (bh s1.gt s.aL||isStore o.op) rs=true->s1.ci=s.ci->cN fr o.dst v fr.loc=some fr1->
  kw Q f bs.tail (⟨i,s.aL,s1.aL,bD (Q.hint f) o.dst fr.env o.op,bh s1.gt s.aL||isStore o.op⟩::rs) (i+1) l fr1 (s.Gt s1) fr2 s2->kw Q f bs rs i (o::l) fr s fr2 s2
 |yld {bs:List Nat} {rs:List eZ} {i:Nat} {o:au} {c:Call} {l:List au} {fr fr1 fr2:Fr} {s s1 s2:St} {n:Nat} {args:List aa} {v:aa}:eY fr.env o.g=true->o.op= .call c->yieldee fr.env c=some (n,args)->
  Sy Q n args (iH (bs.headD 0) rs []) ⟨s.heap,s.aL,s.aL,s.ci⟩ v s1->
  pw (bs.headD 0) (bD (Q.hint f) o.dst fr.env o.op) (bh s1.gt s.aL||isStore o.op) rs=true->s1.ci=s.ci->cN fr o.dst v fr.loc=some fr1->
  kw Q f bs.tail (⟨i,s.aL,s1.aL,bD (Q.hint f) o.dst fr.env o.op,bh s1.gt s.aL||isStore o.op⟩::rs) (i+1) l fr1 (s.Gt s1) fr2 s2->kw Q f bs rs i (o::l) fr s fr2 s2
def kw.of{Q:aD}{f:FuncId}: ∀ {l:List au} {bs:List Nat} {rs:List eZ} {i:Nat} {fr fr':Fr} {s s':St},yY Q f bs rs i l fr s=some (fr',s')->kw Q f bs rs i l fr s fr' s'
 | [],bs,rs,i,fr,fr',s,s',h=>by
   simp only[yY,aH,bu] at h;obtain⟨rfl,rfl⟩:=h;exact .nil
 |o::l,bs,rs,i,fr,fr',s,s',h=>by
  simp only[yY] at h;cases hw:eY fr.env o.g with
  |true=>
   rw[hw] at h;simp only[cT,aj] at h;obtain⟨⟨v,y,s1⟩,h1,h⟩:=h;obtain⟨p,h⟩:=aY h;simp only[bm] at p;simp only[aj] at h;obtain⟨fr1,q,h⟩:=h;exact .step hw h1 p.1 (Nat.eq_of_beq_eq_true p.2).symm q (kw.of h)
  |false=>
   rw[hw] at h;simp only[cF,aj] at h;obtain⟨fr1,q,h⟩:=h;exact .skip hw q (kw.of h)
inductive jL (Q:aD) (f:FuncId):SC->Fr->St->Ex->Fr->St->Prop
 |skip {fr:Fr} {s:St}:jL Q f .skip fr s .normal fr s
 |ret {fr:Fr} {s:St}:jL Q f .ret fr s .ret fr s
 |exit {id:Nat} {fr:Fr} {s:St}:jL Q f (.exit id) fr s (.exit id) fr s
 |seqN {a b:SC} {fr fr1 fr2:Fr} {s s1 s2:St} {x:Ex}:jL Q f a fr s .normal fr1 s1->jL Q f b fr1 s1 x fr2 s2->jL Q f (.seq a b) fr s x fr2 s2
 |seqX {a b:SC} {fr fr1:Fr} {s s1:St} {x:Ex}:jL Q f a fr s x fr1 s1->x≠ .normal->jL Q f (.seq a b) fr s x fr1 s1
 |cond {o:Operand} {a b:SC} {t:Bool} {fr fr1:Fr} {s s1:St} {x:Ex}:ev fr.env o=some (.bool t)->jL Q f (if t then a else b) fr s x fr1 s1->jL Q f (.cond o a b) fr s x fr1 s1
 |block {id:Nat} {b:SC} {fr fr1:Fr} {s s1:St} {x:Ex}:jL Q f b fr s x fr1 s1->jL Q f (.block id b) fr s (x.block id) fr1 s1
 |scope {b:SC} {fr fr1:Fr} {s s1:St} {x:Ex}:jL Q f b fr s x fr1 s1->jL Q f (.scope b) fr s x fr1 s1
 |loopN {b:SC} {fr fr1 fr2:Fr} {s s1 s2:St} {x:Ex}:jL Q f b fr s .normal fr1 s1->jL Q f (.loop b) fr1 s1 x fr2 s2->jL Q f (.loop b) fr s x fr2 s2
 |loopX {b:SC} {fr fr1:Fr} {s s1:St} {x:Ex}:jL Q f b fr s x fr1 s1->x≠ .normal->jL Q f (.loop b) fr s x fr1 s1
 |region {ops:List au} {fr fr1:Fr} {s s1:St}:rh Q f ops fr s fr1 s1->jL Q f (.region ops) fr s .normal fr1 s1
 |draw {ops:List au} {bs:List Nat} {fr fr1:Fr} {s s1:St}:kw Q f bs [] 0 ops fr s fr1 s1->jL Q f (.draw ops bs) fr s .normal fr1 s1
 |rfun {g:Operand} {ps:List Tmp} {a b:Code} {fr:Fr} {s s1:St} {h:FuncId} {first captured:List aa} {v:aa} {f':FuncId} {env':aC aa} {size':Nat} {ps':List Tmp} {a' b':Code} {p:Option Ex}:ev fr.env g=some (.func (.func h) first captured)->
  (tg Q.P h&&(fr.env.all jB&&(dv a&&dv b)))=true->aq Q h (first++(.yld s.aL::captured)) (s.new (.loop f fr.env fr.size ps a b none)) v s1->s1.get [] s.aL=some (.loop f' env' size' ps' a' b' p)->
  jL Q f (.rfun g ps a b) fr s (FS p) fr (s1.put s.aL none)
theorem PK(n:Nat):aK n n=true:=by simp
variable{c:Call}{e:aw}
theorem Nx{g:FuncId×List aa}(h:callee e c=some g):oO e c=false:=by
 grind [callee,oO]
theorem WW{g:Nat×List aa}(h:yieldee e c=some g):oO e c=true/\ ∀b,c.callee≠ .builtin b:=by
 grind [yieldee,oO,aj]
variable{sc:SC}
section
variable{Q:aD}{f:FuncId}
theorem abu{all:Array Oper}(h:cw Q f (pT all o) mk fr s=some x)(n:Nat):eW Q (b9 Q (n+1)) f o mk fr s=some x:=by
 unfold cw at h;unfold eW;simp only[pT] at h;cases hop:o.op<;>rw[hop] at h<;>simp only at h ⊢ <;>try exact h
 ·rename_i c
  cases hcl:c.callee<;>rw[hcl] at h<;>simp only at h ⊢
  case builtin=>exact h
  all_goals
   simp only[aj] at h;obtain⟨g,y,sp,p,v,q,h⟩:=h;injection h with h;subst h
   have:(b9 Q (n+1)).call g.1 g.2 mk s=some (v,s):=by
    show jx Q (b9 Q n) g.1 g.2 mk s=_;unfold jx;simp only[p,q,bg]
   grind [Nx,pj]
theorem auZ{all:Array Oper}: ∀ {l:List Oper} {ops:List au} {fr fr':Fr} {s s':St},rh Q f ops fr s fr' s'->ops=l.map (pT all)-> ∃n,(b9 Q n).ops f all [] l fr s=some (fr',s'):=by
 intro l ops fr fr' s s' h
 induction h generalizing l with
 |nil=>
  intro e;cases l with
  |nil=>exact⟨1,rfl⟩
  |cons _ _=>cases e
 |step h1 _ C=>
  intro e;cases l with
  |nil=>cases e
  |cons p l=>
   simp only[eA,lW] at e;obtain⟨rfl,rfl⟩:=e;obtain⟨n,y⟩:=C rfl;refine⟨n+2,?_⟩;show mE Q (b9 Q (n+1)) f all [] (p::l) _ _=_;have y:=(m9 Q (jV n)).ops _ _ _ _ _ _ _ y;rename_i fr fr1 _ s s1 _ _ _;unfold sl at h1
   grind [pT,Bc,mE,aj,abu]
 |call z E T J q O _ C=>
  intro e;cases l with
  |nil=>cases e
  |cons p l=>
   simp only[eA,lW] at e;obtain⟨rfl,rfl⟩:=e;obtain⟨n,y⟩:=C rfl;obtain⟨m,I⟩:=q;refine⟨max n m+1,?_⟩;show mE Q (b9 Q (max n m)) f all [] (p::l) _ _=_;have y:=(m9 Q (vM n m)).ops _ _ _ _ _ _ _ y;have I:=(m9 Q (t9 n m)).call _ _ _ _ _ I;rename_i c fr fr1 R s s1 s2 g args v _ _ _;have z:eP all fr.env p=true:=by rw[<-Bc all];exact z
   simp only[mE];rw[z];simp only[cT,aj];have E:p.op= .call c:=E;refine⟨(v,fr.loc,s1),?_,fr1,O,y⟩
   grind [eW,pj,Nx]
 |yld z E J q O _ C=>
  intro e;cases l with
  |nil=>cases e
  |cons p l=>
   simp only[eA,lW] at e;obtain⟨rfl,rfl⟩:=e;obtain⟨n,y⟩:=C rfl;obtain⟨m,I⟩:=q;refine⟨max n m+1,?_⟩;show mE Q (b9 Q (max n m)) f all [] (p::l) _ _=_;have y:=(m9 Q (vM n m)).ops _ _ _ _ _ _ _ y;have I:=RV (m9 Q (t9 n m)) I;rename_i c fr fr1 R s s1 s2 g args v _ _ _;have z:eP all fr.env p=true:=by rw[<-Bc all];exact z
   simp only[mE];rw[z];simp only[cT,aj];have E:p.op= .call c:=E;refine⟨(v,fr.loc,s1),?_,fr1,O,y⟩
   grind [eW,sn,WW]
theorem au0{all:Array Oper}{ops:List au}(h:kw Q f bs rs i ops fr s fr' s'): ∀ {l:List Oper},ops=l.map (pT all)-> ∃n,(b9 Q n).draw f all bs [] rs i l fr s=some (fr',s'):=by
 induction h with
 |nil=>
  intro l e;cases l with
  |nil=>exact⟨1,rfl⟩
  |cons _ _=>cases e
 |skip q h1 _ C=>
  intro l e;cases l with
  |nil=>cases e
  |cons p l=>
   simp only[eA,lW] at e;obtain⟨rfl,rfl⟩:=e;obtain⟨n,z⟩:=C rfl;refine⟨n+1,?_⟩;have q:=(Bc all _ p).symm.trans q;show mg Q (b9 Q n) f all _ [] _ _ (p::l) _ _=_;simp only[mg];rw[q];simp only[cF,aj];exact⟨_,h1,z⟩
 |step q h1 R T U _ C=>
  intro l e;cases l with
  |nil=>cases e
  |cons p l=>
   simp only[eA,lW] at e;obtain⟨rfl,rfl⟩:=e;obtain⟨n,z⟩:=C rfl;refine⟨n+2,?_⟩;have q:=(Bc all _ p).symm.trans q;show mg Q (b9 Q (n+1)) f all _ [] _ _ (p::l) _ _=_;have z:=(m9 Q (jV n)).draw _ _ _ _ _ _ _ _ _ _ z
   grind [mg,abu,pT,PK]
 |call q J V I y R T U _ C=>
  intro l e;cases l with
  |nil=>cases e
  |cons p l=>
   simp only[eA,lW] at e;obtain⟨rfl,rfl⟩:=e;rename_i bs rs i c fr fr1 O s s1 s2 g args v _;obtain⟨n,z⟩:=C rfl;obtain⟨m,E⟩:=y;refine⟨max n m+1,?_⟩;have q:=(Bc all _ p).symm.trans q;show mg Q (b9 Q (max n m)) f all _ [] _ _ (p::l) _ _=_;have z:=(m9 Q (vM n m)).draw _ _ _ _ _ _ _ _ _ _ z;have E:=(m9 Q (t9 n m)).call _ _ _ _ _ E
   simp_all [mg,eW,pj,Nx,pT]
 |yld q J I y R T U _ C=>
  intro l e;cases l with
  |nil=>cases e
  |cons p l=>
   simp only[eA,lW] at e;obtain⟨rfl,rfl⟩:=e;rename_i bs rs i c fr fr1 O s s1 s2 g args v _;obtain⟨n,z⟩:=C rfl;obtain⟨m,E⟩:=y;refine⟨max n m+1,?_⟩;have q:=(Bc all _ p).symm.trans q;show mg Q (b9 Q (max n m)) f all _ [] _ _ (p::l) _ _=_;have z:=(m9 Q (vM n m)).draw _ _ _ _ _ _ _ _ _ _ z;have E:=RV (m9 Q (t9 n m)) E;have J:p.op= .call c:=J;simp only[mg]
   grind [eW,sn,WW,pT,PK]
theorem ahp{id:Nat}:dJ (.region id ops false)= .region (ops.toList.map (pT ops)):=by rw[dJ]
theorem aho{id:Nat}:dJ (.region id ops true)=bif nN ops 0 ops.toList (Region.before ops).toList then .draw (ops.toList.map (pT ops)) (Region.before ops).toList else .bad:=by rw[dJ]
theorem qp(c:Code):match dJ c with
 | .skip=>c= .skip\/ ∃l,c= .label l
 | .ret=>c= .ret
 | .exit id=>c= .exit id
 | .seq a b=> ∃x y,c= .seq x y/\dJ x=a/\dJ y=b
 | .cond o a b=> ∃x y,c= .cond o x y/\dJ x=a/\dJ y=b
 | .block id b=> ∃x,c= .block id x/\dJ x=b
 | .scope b=> ∃x,c= .scope x/\dJ x=b
 | .loop b=> ∃x,c= .loop x/\dJ x=b
 | .region l=> ∃id ops,c= .region id ops false/\ops.toList.map (pT ops)=l
 | .draw l bs=> ∃id ops,c= .region id ops true/\ops.toList.map (pT ops)=l/\(Region.before ops).toList=bs/\nN ops 0 ops.toList (Region.before ops).toList=true
 | .rfun g l a b=> ∃p,c= .rangeFunc g p a b/\p.toList=l
 | .bad=>True:=by
 cases c with
 |region id ops d=>
  cases d with
  |false=>grind [ahp]
  |true=>
   grind [aho]
 |skip=>exact .inl rfl
 |label l=>exact .inr ⟨l,rfl⟩
 |ret=>rfl
 |exit id=>rfl
 |seq a b=>exact⟨a,b,rfl,rfl,rfl⟩
 |cond x a b=>exact⟨a,b,rfl,rfl,rfl⟩
 |block id b=>exact⟨b,rfl,rfl⟩
 |scope b=>exact⟨b,rfl,rfl⟩
 |loop b=>exact⟨b,rfl,rfl⟩
 |rangeFunc g p a b=>exact⟨p,rfl,rfl⟩
 |_=>trivial
theorem QO{x:Ex}(h:jL Q f sc fr s x fr' s'): ∀ {c:Code},dJ c=sc-> ∃n,(b9 Q n).code f c [] fr s=some (x,fr',s'):=by
 induction h with
 |skip=>
  intro c e
  have:=qp c;rw[e] at this;rcases this with rfl|⟨l,rfl⟩<;>exact⟨1,rfl⟩
 |ret=>intro c e;have:=qp c;rw[e] at this;simp only at this;subst this;exact⟨1,rfl⟩
 |exit=>intro c e;have:=qp c;rw[e] at this;simp only at this;subst this;exact⟨1,rfl⟩
 |seqN _ _ p q=>
  intro c e
  have:=qp c;rw[e] at this;obtain⟨x,y,rfl,h1,z⟩:=this;obtain⟨n,g⟩:=p h1;obtain⟨m,I⟩:=q z;refine⟨max n m+1,?_⟩;show((b9 Q (max n m)).code f x [] _ _).bind (pP (b9 Q (max n m)) f y [])=_;rw[(m9 Q (vM n m)).code _ _ _ _ _ _ g];exact(m9 Q (t9 n m)).code _ _ _ _ _ _ I
 |seqX _ E p=>
  intro c e
  have:=qp c;rw[e] at this;obtain⟨a,b,rfl,h1,z⟩:=this;obtain⟨n,g⟩:=p h1;refine⟨n+1,?_⟩;show((b9 Q n).code f a [] _ _).bind (pP (b9 Q n) f b [])=_;rw[g];rename_i x _;cases x;exact absurd rfl E;rfl;rfl
 |cond J _ C=>
  intro c e
  have:=qp c;rw[e] at this;obtain⟨a,b,rfl,h1,z⟩:=this;rename_i t _ _ _ _ _ _;obtain⟨n,g⟩:=C (c:=if t then a else b) (by cases t<;>simp[h1,z]);refine⟨n+1,?_⟩;show(ev _ _).bind (BQ (b9 Q n) f a b [] _ _)=_;rw[J];cases t<;>exact g
 |block _ C=>
  intro c e
  have:=qp c;rw[e] at this;obtain⟨b,rfl,h1⟩:=this;obtain⟨n,g⟩:=C h1;refine⟨n+1,?_⟩;show((b9 Q n).code f b [] _ _).bind (fun x=>some (qm _ x))=_;rw[g];rename_i id _ _ _ _ _ x _;cases x
  all_goals grind [qm,Ex.block]
 |scope _ C=>
  intro c e
  have:=qp c;rw[e] at this;obtain⟨b,rfl,h1⟩:=this;obtain⟨n,g⟩:=C h1;exact⟨n+1,g⟩
 |loopN _ _ p q=>
  intro c e
  have:=qp c;rw[e] at this;obtain⟨b,rfl,h1⟩:=this;obtain⟨n,g⟩:=p h1;obtain⟨m,I⟩:=q (c:=.loop b) (by rw[dJ,h1]);refine⟨max n m+1,?_⟩;show((b9 Q (max n m)).code f b [] _ _).bind (pP (b9 Q (max n m)) f (.loop b) [])=_;rw[(m9 Q (vM n m)).code _ _ _ _ _ _ g];exact(m9 Q (t9 n m)).code _ _ _ _ _ _ I
 |loopX _ E p=>
  intro c e
  have:=qp c;rw[e] at this;obtain⟨b,rfl,h1⟩:=this;obtain⟨n,g⟩:=p h1;refine⟨n+1,?_⟩;show((b9 Q n).code f b [] _ _).bind (pP (b9 Q n) f (.loop b) [])=_;rw[g];rename_i x _;cases x;exact absurd rfl E;rfl;rfl
 |region hl=>
  intro c e
  have:=qp c;rw[e] at this;obtain⟨id,ops,rfl,h1⟩:=this;obtain⟨n,g⟩:=auZ (all:=ops) (l:=ops.toList) hl h1.symm;refine⟨n+1,?_⟩;show((b9 Q n).ops f ops [] ops.toList _ _).bind (fun x=>some (Ex.normal,x.1,x.2))=_;rw[g];rfl
 |draw hl=>
  intro c e
  have:=qp c;rw[e] at this;obtain⟨id,ops,rfl,h1,z,R⟩:=this;subst h1;subst z;obtain⟨n,g⟩:=au0 hl (l:=ops.toList) rfl;refine⟨n+1,?_⟩;show(bif nN ops 0 ops.toList (Region.before ops).toList then(b9 Q n).draw f ops (Region.before ops).toList [] [] 0 ops.toList _ _ else none).bind (fun x=>some (Ex.normal,x.1,x.2))=_;rw[R,cT,g];rfl
 |rfun J U hr T=>
  intro c e
  have:=qp c;rw[e] at this;obtain⟨O,rfl,rfl⟩:=this;obtain⟨n,g⟩:=hr;refine⟨n+1,?_⟩;show(ev _ _).bind (wZ Q (b9 Q n) f O.toList _ _ [] _ _)=_
  grind [wZ,AQ]
end
def W(Q:aD)(f:FuncId)(c:SC)(fr:Fr)(s:St)(K:Ex->Fr->St->Prop):Prop:= ∃x fr' s',jL Q f c fr s x fr' s'/\K x fr' s'
def WL(Q:aD)(f:FuncId)(l:List au)(fr:Fr)(s:St)(K:Fr->St->Prop):Prop:= ∃fr' s',rh Q f l fr s fr' s'/\K fr' s'
variable{ops:List au}{b:SC}{s1:St}
section
variable{Q:aD}{f:FuncId}{fr:Fr}{s:St}{K:Ex->Fr->St->Prop}
def Ex.next(K:Ex->Fr->St->Prop)(N:Fr->St->Prop):Ex->Fr->St->Prop
 | .normal=>N
 |x=>K x
def W.mono{c:SC}{g:Ex->Fr->St->Prop}(h:W Q f c fr s K)(p: ∀x fr s,K x fr s->g x fr s):W Q f c fr s g:=let⟨x,fr',s',h1,h2⟩:=h;⟨x,fr',s',h1,p _ _ _ h2⟩
def W.skip(h:K .normal fr s):W Q f .skip fr s K:=⟨_,_,_,.skip,h⟩
def W.ret(h:K .ret fr s):W Q f .ret fr s K:=⟨_,_,_,.ret,h⟩
def W.exit{id:Nat}(h:K (.exit id) fr s):W Q f (.exit id) fr s K:=⟨_,_,_,.exit,h⟩
def W.seq{a:SC}(h:W Q f a fr s (Ex.next K fun fr s=>W Q f b fr s K)):W Q f (.seq a b) fr s K:=by
 obtain⟨x,fr1,s1,h1,g⟩:=h;cases x with
 |normal=>obtain⟨y,p,s2,z,q⟩:=g;exact⟨y,p,s2,.seqN h1 z,q⟩
 |exit i=>exact⟨_,_,_,.seqX h1 (by simp),g⟩
 |ret=>exact⟨_,_,_,.seqX h1 (by simp),g⟩
def W.cond{o:Operand}{a:SC}{t:Bool}(g:ev fr.env o=some (.bool t))(h:W Q f (if t then a else b) fr s K):W Q f (.cond o a b) fr s K:=let⟨x,fr1,s1,h1,h2⟩:=h;⟨x,fr1,s1,.cond g h1,h2⟩
theorem W.block{id:Nat}(h:W Q f b fr s fun x=>K (x.block id)):W Q f (.block id b) fr s K:=let⟨_x,fr1,s1,h1,h2⟩:=h;⟨_,fr1,s1,.block h1,h2⟩
def W.scope(h:W Q f b fr s K):W Q f (.scope b) fr s K:=let⟨x,fr1,s1,h1,h2⟩:=h;⟨x,fr1,s1,.scope h1,h2⟩
def W.loop1(h:W Q f b fr s (Ex.next K fun fr s=>W Q f (.loop b) fr s K)):W Q f (.loop b) fr s K:=by
 obtain⟨x,fr1,s1,h1,g⟩:=h;cases x with
 |normal=>obtain⟨y,p,s2,z,q⟩:=g;exact⟨y,p,s2,.loopN h1 z,q⟩
 |exit i=>exact⟨_,_,_,.loopX h1 (by simp),g⟩
 |ret=>exact⟨_,_,_,.loopX h1 (by simp),g⟩
def W.region(h:WL Q f ops fr s fun fr s=>K .normal fr s):W Q f (.region ops) fr s K:=let⟨fr1,s1,h1,h2⟩:=h;⟨_,fr1,s1,.region h1,h2⟩
def W.draw(h:yY Q f bs [] 0 ops fr s=some (fr1,s1))(g:K .normal fr1 s1):W Q f (.draw ops bs) fr s K:=⟨_,_,_,.draw (.of h),g⟩
def W.rfun{g:Operand}{ps:List Tmp}{a b:Code}{h:FuncId}{first captured:List aa}{O:FuncId}{y:aC aa}{q:Nat}{z:List Tmp}{a' b':Code}{p:Option Ex}(C:ev fr.env g=some (.func (.func h) first captured))(J:(tg Q.P h&&(fr.env.all jB&&(dv a&&dv b)))=true)(hr:aq Q h (first++(.yld s.aL::captured)) (s.new (.loop f fr.env fr.size ps a b none)) v s1)(I:s1.get [] s.aL=some (.loop O y q z a' b' p))(E:K (FS p) fr (s1.put s.aL none)):W Q f (.rfun g ps a b) fr s K:=⟨_,_,_,.rfun C J hr I,E⟩
variable{N:Fr->St->Prop}
theorem QM: ∀ {a b:List au} {fr fr1 g:Fr} {s s1 s2:St},vk Q f a fr s=some (fr1,s1)->rh Q f b fr1 s1 g s2->rh Q f (a++b) fr s g s2
 | [],b,fr,fr1,g,s,s1,s2,h,h'=>by
   grind [vk]
 |o::a,b,fr,fr1,g,s,s1,s2,h,h'=>by
  simp only[vk,aj] at h;obtain⟨⟨x,y⟩,h1,p⟩:=h;exact .step h1 (QM p h')
def WL.run(h:vk Q f ops fr s=some (fr1,s1))(g:N fr1 s1):WL Q f ops fr s N:=
 ⟨fr1,s1,by have:=QM h .nil;rwa [List.append_nil] at this,g⟩
def WL.app{a b:List au}(h:vk Q f a fr s=some (fr1,s1))(g:WL Q f b fr1 s1 N):WL Q f (a++b) fr s N:=
 let⟨fr2,s2,h1,h2⟩:=g;⟨fr2,s2,QM h h1,h2⟩
def WL.call{o:au}{l:List au}{g:FuncId}(p:eY fr.env o.g=true)(y:o.op= .call c)(z: ∀b,c.callee≠ .builtin b)(E:callee fr.env c=some (g,args))(hr:aq Q g args s v s1)(q:cN fr o.dst v fr.loc=some fr1)(C:WL Q f l fr1 s1 N):WL Q f (o::l) fr s N:=
 let⟨fr2,s2,h1,h2⟩:=C;⟨fr2,s2,.call p y z E hr q h1,h2⟩
noncomputable def fZ(n:Nat)(args:List aa):Fr:=⟨fT 0 args,bif bn args.length n then n else args.length,[]⟩
theorem aq.of{c:Code}(y:Q.P.funcs[f]? =some fn)(z:fn.body=some c)(g:Q.spec f=none)(p:dJ c=sc)(h:W Q f sc (fZ fn.ntmps args) s fun x fr' s1=>s1=s'/\(x= .normal\/x= .ret)/\ ∃vs,iu Q [] fr' s1 fn.results.toList=some vs/\nq vs=v)(E:Q.specH f=none:=by rfl)(C:Q.specW f=none:=by rfl):aq Q f args s v s':=by
 obtain⟨x,fr',s1,h1,rfl,O,vs,J,I⟩:=h;obtain⟨n,q⟩:=QO h1 p;refine⟨n+1,?_⟩;show jx Q (b9 Q n) f args [] s=_;unfold jx;rw[g];simp only[E,C,y,bg,z];have q:(b9 Q n).code f c [] ⟨fT 0 args,bif bn args.length fn.ntmps then fn.ntmps else args.length,[]⟩ s=some (x,fr',s1):=q
 grind [qs]
def aq.specW{sp:List aa->Option o7}{g:List aa->Rd}{cs cs':List aa}(p:Q.spec f=none)(y:Q.specH f=none)(q:Q.specW f=some sp)(h1:sp args=some (some (n,g)))(C:s.get [] n=some (.cells cs))(z:fC (s.get []) (g cs)=some (.agg cs')):
 aq Q f args s (.tup []) (s.put n (some (.cells cs'))):=by
 refine⟨1,?_⟩;show jx Q (b9 Q 0) f args [] s=_
 simp_all [jx,wY,Db,D1]
def FV{x:Option (List aa)}{g:Nat->Option aJ}(h:fC g (tN x)=some (.agg l)):x=some l:=by
 cases x with
 |none=>cases h
 |some y=>
  injection h with h
  injection h with h
  rw[h]
theorem aq.specWp{sp:List aa->Option o7}{g:List aa->Option (List aa)}{cs cs':List aa}(p:Q.spec f=none)(y:Q.specH f=none)(q:Q.specW f=some sp)(h1:sp args=some (some (n,fun cs=>tN (g cs))))(z:s.get [] n=some (.cells cs))(C:g cs=some cs'):
 aq Q f args s (.tup []) (s.put n (some (.cells cs'))):=.specW p y q h1 z (by grind [fC,tN])
theorem aq.specW0{sp:List aa->Option o7}(g:Q.spec f=none)(q:Q.specH f=none)(p:Q.specW f=some sp)(h1:sp args=some none):aq Q f args s (.tup []) s:=by
 refine⟨1,?_⟩;show jx Q (b9 Q 0) f args [] s=_
 grind [jx,wY]
end
def dq(g:aa->Option aa):List aa->Option (List aa)
 | []=>some []
 |v::l=>(g v).bind fun a=>(dq g l).bind fun r=>some (a::r)
noncomputable def cC(h:aC aJ):Nat->aa->Option aa
 |0,_=>none
 |k+1,v=>match v with
  | .agg cs=>(dq (cC h k) cs).bind fun r=>some (.agg r)
  | .tup cs=>(dq (cC h k) cs).bind fun r=>some (.tup r)
  | .list sz xs r=>(dq (cC h k) xs).bind fun g=>some (.list sz g (match r with| .own _=>.no|r=>r))
  | .arr sz n off len _=>match h.get n with
    |some (.cells cs)=>(cut cs off (len*sz)).bind fun c=>(dq (cC h k) c).bind fun p=>(aZ (!aK sz 1) sz len p).bind fun xs=>some (.list sz xs .no)
    |_=>none
  | .bool b=>some (.bool b)
  | .int k n=>some (.int k n)
  | .str s=>some (.str s)
  | .nilp=>some .nilp
  | .AL=>some .AL
  | .nilm=>some .nilm
  | .nilf=>some .nilf
  | .nili=>some .nili
  |_=>none
theorem x9{g g':aa->Option aa}(p: ∀v u,g v=some u->g' v=some u): ∀ {l r:List aa},dq g l=some r->dq g' l=some r
 | [],_,h=>h
 |v::l,r,h=>by
  simp only[dq,aj] at h ⊢;obtain⟨a,h1,r',y,q⟩:=h;exact⟨a,p _ _ h1,r',x9 p y,q⟩
theorem VV(h:aC aJ): ∀(k:Nat) (v u:aa),cC h k v=some u->cC h (k+1) v=some u
 |0,_,_,e=>by cases e
 |k+1,v,u,e=>by
  have p:=VV h k;cases v<;>simp only[cC] at e ⊢ <;>first
   |exact e
   |(simp only[aj] at e ⊢
     obtain⟨r,h1,g⟩:=e;exact⟨r,x9 p h1,g⟩)
   |skip
  split at e;rename_i q;simp only[aj] at e ⊢;obtain⟨c,h1,z,g,y⟩:=e;exact⟨c,h1,z,x9 p g,y⟩;cases e
theorem Es(h:aC aJ)(p:k<=m)(e:cC h k v=some u):cC h m v=some u:=by
 induction m with
 |zero=>grind
 |succ m g=>
  grind [VV]
def gm(h:aC aJ)(v u:aa):Prop:= ∃k,cC h k v=some u
theorem gm.unique{g:aa}(a:gm h v u)(b:gm h v g):u=g:=by
 obtain⟨k,p⟩:=a;obtain⟨m,q⟩:=b;have h1:=Es h (vM k m) p
 grind [Es,t9]
noncomputable def Ad(h:aC aJ)(v:aa):Option aa:=by
 classical exact if e: ∃u,gm h v u then some e.choose else none
def VL(e:gm h v u):Ad h v=some u:=by
 unfold Ad;rw[dif_pos ⟨u,e⟩];exact congrArg some ((Exists.choose_spec (p:=fun u=>gm h v u) ⟨u,e⟩).unique e)
theorem VM(e:Ad h v=some u):gm h v u:=by
 unfold Ad at e;split at e
 all_goals grind
theorem Hw{g:aa->Option aa}: ∀ {l r:List aa},dq g l=some r-> ∀(i:Nat) u,r[i]? =some u-> ∃v,l[i]? =some v/\g v=some u
 | [],r,h,i,u,hi=>by
   grind [dq]
 |v::l,r,h,i,u,hi=>by
  simp only[dq,aj,aH] at h;obtain⟨a,h1,r',y,rfl⟩:=h;cases i with
  |zero=>grind
  |succ i=>simp at hi;obtain⟨x,q,p⟩:=Hw y i u hi;exact⟨x,by simpa using q,p⟩
theorem M8{g:aa->Option aa}: ∀ {l r:List aa},dq g l=some r->r.length=l.length
 | [],r,h=>by grind [dq]
 |v::l,r,h=>by
  simp only[dq,aj,aH] at h;obtain⟨a,h1,r',p,rfl⟩:=h;simp[M8 p]
theorem Hy(e:cC h k v=some u)(g:v.scal=true):u.scal=true:=by
 cases k with
 |zero=>cases e
 |succ k=>
  cases v<;>simp only[cC] at e<;>first
   |(simp[aa.scal] at g;done)
   |(injection e with e;subst e;rfl)
   |(cases e;done)
   |(simp only[aj,aH] at e;obtain⟨_,_,rfl⟩:=e;rfl)
   |(split at e
     simp only[aj,aH] at e;obtain⟨_,_,_,_,_,_,rfl⟩:=e;rfl;cases e)
theorem M9(e:cC h k v=some u): ∃m,dq (cC h m) v.cells=some u.cells:=by
 cases k with
 |zero=>cases e
 |succ k=>
  by_cases hv: ∃cs,v= .agg cs;obtain⟨cs,rfl⟩:=hv;simp only[cC,aj,aH] at e;obtain⟨r,h1,rfl⟩:=e;exact⟨k,h1⟩;have p:v.cells=[v]:=by cases v<;>first|rfl|exact absurd ⟨_,rfl⟩ hv
  have g:u.cells=[u]:=by
   cases v<;>simp only[cC] at e<;>first
    |exact absurd ⟨_,rfl⟩ hv
    |(injection e with e;subst e;rfl)
    |(cases e;done)
    |(simp only[aj,aH] at e;obtain⟨_,_,rfl⟩:=e;rfl)
    |(split at e
      simp only[aj,aH] at e;obtain⟨_,_,_,_,_,_,rfl⟩:=e;rfl;cases e)
  grind [dq]
theorem VO{h:aC aJ}{k:Nat}: ∀ {xs ys:List aa},dq (cC h k) xs=some ys-> ∃m,dq (cC h m) (aF xs)=some (aF ys)
 | [],ys,e=>by simp only[dq,aH] at e;subst e;exact⟨0,rfl⟩
 |x::xs,ys,e=>by
  simp only[dq,aj,aH] at e;obtain⟨a,h1,r,z,rfl⟩:=e;obtain⟨q,g⟩:=M9 h1;obtain⟨p,y⟩:=VO z;refine⟨max q p,?_⟩;simp only[aF];have g:=x9 (g':=cC h (max q p)) (fun v u e=>Es h (vM _ _) e) g;have y:=x9 (g':=cC h (max q p)) (fun v u e=>Es h (t9 _ _) e) y;clear h1 z;generalize x.cells=c at g;generalize a.cells=d at g
  induction c generalizing d with
  |nil=>grind [dq]
  |cons v c C=>
   simp only[dq,aj,aH] at g
   grind [dq]
theorem VU{h:aC aJ}: ∀ {k:Nat} {v u:aa},bH v=true->cC h k v=some u->u=v
 |0,_,_,_,e=>by cases e
 |k+1,v,u,g,e=>by
  have p: ∀ {l r:List aa},pures l=true->dq (cC h k) l=some r->r=l:=by
   intro l
   induction l with
   |nil=>intro r _ e;simp only[dq,aH] at e;exact e.symm
   |cons v l q=>
    intro r g e;simp only[pures,bm] at g;simp only[dq,aj,aH] at e;obtain⟨a,h1,r',y,rfl⟩:=e;rw[VU g.1 h1,q g.2 y]
  cases v<;>simp only[cC] at e<;>first
   |(injection e with e;exact e.symm)
   |(cases e;done)
   |(simp[bH] at g;done)
   |(simp only[bH] at g
     simp only[aj,aH] at e;obtain⟨r,h1,rfl⟩:=e;rw[p g h1])
   |skip
  rename_i C xs r;simp only[bH,bm] at g;simp only[aj,aH] at e;obtain⟨z,h1,rfl⟩:=e;rw[p g.1 h1];cases r<;>first|rfl|(simp at g)
def zJ(G:Gh)(h:aC aJ)(b o:Nat)(u:aa):Prop:= ∃n a cs i,h.get n=some (.cells cs)/\G.at_ n=some a/\a.block=b/\o=a.off+i/\cs[i]? =some u
variable{b o:Nat}
theorem zJ.unique(wr:WR G h w){g:aa}(x:zJ G h b o u)(y:zJ G h b o g):u=g:=by
 obtain⟨n,a,cs,i,h1,q,p,J,I⟩:=x;obtain⟨m,c,T,j,E,C,z,R,O⟩:=y;have e:n=m:=wr.sep n m a c (by rw[h1];simp) (by rw[E];simp) q C (by rw[p,z])
 grind
noncomputable def nR(G:Gh)(h:aC aJ)(b o:Nat):Option aa:=by
 classical exact(G.ro b o).or (if e: ∃u,zJ G h b o u then some e.choose else none)
def agx(e:G.ro b o=some u):nR G h b o=some u:=by simp[nR,e]
theorem agw(wr:WR G h w)(e:zJ G h b o u):nR G h b o=some u:=by
 have h0:G.ro b o=none:=by
  cases e':G.ro b o with
  |none=>rfl
  |some v=>
   obtain⟨n,a,cs,i,h1,p,g,y,q⟩:=e
   have:=wr.apart n _ a o v h1 p (by rw[g];exact e');cases this.1
 unfold nR;rw[h0,zF,dif_pos ⟨u,e⟩]
 grind [zJ.unique]
theorem G9(e:nR G h b o=some u):G.ro b o=some u\/zJ G h b o u:=by
 unfold nR at e;cases e':G.ro b o with
 |some v=>grind
 |none=>
  rw[e',zF] at e;split at e
  all_goals grind
noncomputable def Gh.froze(G G1:Gh)(h1:aC aJ):Gh where
 at_:=G.at_
 ro b o:=(G.ro b o).or ((nR G1 h1 b o).bind (Ad h1))
 dim:=G.dim
section
variable{G1 G2:Gh}{h1:aC aJ}
theorem thaw(O: ∀b o u u',nR G1 h1 b o=some u->gm h1 u u'->G2.ro b o=some u'){w:World}(wr:WR G1 h1 w): ∀(k:Nat) {v u:aa} {x:Value},VR G1 v x->cC h1 k v=some u->VR G2 u x
 |0,_,_,_,_,e=>by cases e
 |k+1,v,u,x,J,e=>by
  have ih: ∀ {vs I:List aa} {xs:List Value},bR G1 vs xs->dq (cC h1 k) vs=some I->bR G2 I xs:=by
   intro vs
   induction vs with
   |nil=>intro I xs h e;cases h;simp only[dq,aH] at e;subst e;exact .nil
   |cons v vs U=>
    intro I xs h e;cases h with
    |cons a b=>
     simp only[dq,aj,aH] at e;obtain⟨u,q,r,T,rfl⟩:=e;exact .cons (thaw O wr k a q) (U b T)
  have p: ∀ {cs I:List aa},de cs=true->dq (cC h1 k) cs=some I->de I=true:=by
   intro cs
   induction cs with
   |nil=>grind [dq]
   |cons v vs U=>
    grind [de,dq,aj,Hy]
  cases J with
  |bool b=>simp only[cC,aH] at e;subst e;exact .bool b
  |int k n=>simp only[cC,aH] at e;subst e;exact .int k n
  |str s=>simp only[cC,aH] at e;subst e;exact .str s
  |nilp=>simp only[cC,aH] at e;subst e;exact .nilp
  |AL=>simp only[cC,aH] at e;subst e;exact .AL
  |nilm=>simp only[cC,aH] at e;subst e;exact .nilm
  |nilf=>simp only[cC,aH] at e;subst e;exact .nilf
  |nili=>simp only[cC,aH] at e;subst e;exact .nili
  |ptr _=>simp[cC] at e
  |ro _=>simp[cC] at e
  |map _=>simp[cC] at e
  |func _ _=>simp[cC] at e
  |iface _=>simp[cC] at e
  |yld _=>simp[cC] at e
  |roz _=>simp[cC] at e
  |agg hc hs=>
   simp only[cC,aj,aH] at e;obtain⟨r,q,rfl⟩:=e;exact .agg (p hc q) (ih hs q)
  |tup hs=>
   simp only[cC,aj,aH] at e;obtain⟨r,q,rfl⟩:=e;exact .tup (ih hs q)
  |list a b c d e' f=>
   rename_i sz xs r ad Y;simp only[cC,aj,aH] at e;obtain⟨ys,q,rfl⟩:=e;have z:=M8 q;rw[<-z];refine .list a b ?_ (by rw[z];exact d) ?_ ?_
   grind [t7,Hw,M9,M8]
   intro i y Z;obtain⟨m,T⟩:=VO q;obtain⟨v,J,h5⟩:=Hw T i y Z;exact O _ _ v y (agx (e' i v J)) ⟨m,h5⟩;cases r with
   |GE=>rw[z];exact f
   |own n=>exact trivial
   |no=>exact trivial
  |arr a b c d e' f g i=>
   rename_i sz n a0 len a3 ad bd Y dm;simp only[cC] at e;split at e;rename_i cs V;simp only[aj,aH] at e;obtain⟨cc,q,c',T,xs,h5,rfl⟩:=e;obtain⟨a7,E,a6,C,et,a5,a4,a2⟩:=wr.obj n _ V;rw[a] at E;injection E with E;subst E
   have a1:de cc=true:=by
    simp only[de,fu];intro v J;obtain⟨j,hj⟩:=t7 J;exact(a2 _ v (Ei q hj)).1
   obtain⟨q1,q2,q3⟩:=BJ (g:= !aK sz 1) (sz:=sz) (fun hh=>by
    simp_all) h5 (p a1 T)
   have:VR G2 (.list sz xs .no) (.slice (some ad) xs.length Y):=by
    refine .list (.inr b) c q3 (by omega) ?_ trivial;intro j y Z;rw[q2] at Z;obtain⟨v,J,h6⟩:=Hw T j y Z;have R:=Ei q J;rcases f with f|⟨f1,f2⟩
    have hl:len=0:=by omega
    have:=(BS q).2
    grind
    refine O _ _ v y (agw wr ⟨n,bd,cs,a0+j,V,a,f1.symm,?_,R⟩) ⟨k,h6⟩;rw[f2];omega
   rw[q1] at this;exact this;cases e
end
mutual
def dL:aa->Bool
 | .agg cs=>ei cs
 | .tup cs=>ei cs
 | .list _ xs _=>pures xs
 |v=>bH v
def ei:List aa->Bool
 | []=>true
 |v::l=>dL v&&ei l
end
mutual
theorem VR.top{G1 G2:Gh}(k:DW G1 G2): ∀ {v:aa} {x:Value},VR G1 v x->dL v=true->VR G2 (cW v) x
 |_,_,.bool b,_=>.bool b
 |_,_,.int k n,_=>.int k n
 |_,_,.str s,_=>.str s
 |_,_,.agg hc hs,h=>.agg (avf hc) (bR.top k hs (by simpa[dL] using h))
 |_,_,.tup hs,h=>.tup (bR.top k hs (by simpa[dL] using h))
 |_,_,.nilp,_=>.nilp
 |_,_,.ptr e,h=>by simp[dL,bH] at h
 |_,_,.ro (cs:=cs) e,h=>by
  have h:pures cs=true:=by simpa[dL,bH] using h
  rw[cW,kC h];exact .ro fun i x p=>k _ _ _ (e i x p) (JI h p)
 |_,_,.AL,_=>.AL
 |_,_,.list (xs:=xs) (r:=r) a b c d e f,h=>by
  have h:pures xs=true:=by simpa[dL] using h
  simp only[cW,kC h];refine .list a b c d (fun i x p=>k _ _ _ (e i x p) (JI (abB h) p)) ?_;cases r with
  |GE=>exact f
  |own n=>exact trivial
  |no=>exact trivial
 |_,_,.arr ..,h=>by simp[dL,bH] at h
 |_,_,.nilm,_=>.nilm
 |_,_,.map e,h=>by simp[dL,bH] at h
 |_,_,.nilf,_=>.nilf
 |_,_,.func (first:=f) (captured:=g) a b,h=>by
  have h:pures f=true/\pures g=true:=by simpa[dL,bH] using h
  simp only[cW,kC h.1,kC h.2];exact .func (bR.onto k a h.1) (bR.onto k b h.2)
 |_,_,.nili,_=>.nili
 |_,_,.iface (v:=v) e,h=>by
  have h:bH v=true:=by simpa[dL,bH] using h
  simp only[cW,Gn h];exact .iface (VR.onto k e h)
 |_,_,.yld _,h=>by simp[dL,bH] at h
 |_,_,.roz _,h=>by simp[dL,bH] at h
theorem bR.top{G1 G2:Gh}(k:DW G1 G2): ∀ {vs:List aa} {xs:List Value},bR G1 vs xs->ei vs=true->bR G2 (dz vs) xs
 |_,_,.nil,_=>.nil
 |_,_,.cons a b,h=>by
  simp only[ei,bm] at h;exact .cons (VR.top k a h.1) (bR.top k b h.2)
end
def VS{h h':aC aJ}(y: ∀n o,h.get n=some o->h'.get n=some o): ∀(k:Nat) (v u:aa),cC h k v=some u->cC h' k v=some u
 |0,_,_,e=>by cases e
 |k+1,v,u,e=>by
  have q:=VS y k;cases v<;>simp only[cC] at e ⊢ <;>first
   |exact e
   |(simp only[aj] at e ⊢
     obtain⟨r,h1,p⟩:=e;exact⟨r,x9 q h1,p⟩)
   |skip
  split at e;rename_i g;rw[y _ _ g];simp only[aj] at e ⊢;obtain⟨c,h1,C,p,z⟩:=e;exact⟨c,h1,C,x9 q p,z⟩;cases e
theorem acF(hg:Al Q)(E: ∀i,0<Q.kmax i)(hp:ei args=true)(he: ∀ch,lA Q ch-> ∃v s',(b9 (Q.at ch) n).call f (dz args) [] s0=some (v,s')/\gm s'.heap v u)(G:Gh)(h:aC aJ)(w:World)(xs:List Value)(wr:WR G h w)(U:bR G args xs):
 lZ Q.P f ⟨xs⟩ w fun y w'=> ∃G',WR G' h w'/\cJ G h w G' h w' 0 0/\VR G' u y:=by
 have Z:lC [] (fun _=>True) G.plain s0 s0 w:=⟨fun n _=>rfl,.refl _ _,wr.plain,fun _ _ _=>rfl⟩;have hc:=(Tx hg n).1 f (dz args) [] s0 s0 G.plain w xs (fun _=>0) (fun _=>True) Z (U.top (JH G) hp) E (fun O _ hi=>by
  grind)
 refine hc.mono ?_;rintro y w' ⟨O,v,s',s2',G1,c⟩;have a1:gm s2'.heap v u:=by
  obtain⟨v1,s1,h1,p⟩:=he O c.inb;have q:=c.eval;rw[h1] at q;simp only[aH,bu] at q;obtain⟨rfl,rfl⟩:=q;have goes:fG [] s0 s1:=((lN Q n).call f (dz args) [] O s0 v1 s1 h1).1;have sees:iz [] s1 s2':=c.same.sees (.refl _ _) goes;obtain⟨k,E⟩:=p;exact⟨k,VS (fun n o e=>sees.get n o rfl e) k _ _ E⟩
 have ext:cJ G.plain .nil w G1 s2'.heap w' 0 s'.aL:=c.ext;have kept: ∀b,b<w.heap.size->w'.heap[b]? =w.heap[b]? :=fun b I=>ext.keep b I Jj;have old: ∀b o u,b<w.heap.size->nR G1 s2'.heap b o=some u->G.ro b o=some u/\bH u=true:=by
  intro b o u I g;rcases G9 g with g|⟨m,a,cs,i,h1,p,q,_,_⟩
  cases e:G.plain.ro b o with
  |none=>exact absurd (ext.cells b o u I g e) Jj
  |some R=>
   have:=ext.le.ro b o R e
   grind [Gh.plain,aj]
  exact absurd (ext.owns b I ⟨m,a,by rw[h1];simp,p,q⟩) Jj
 have J:G.le (G.froze G1 s2'.heap):=⟨fun _ _ h=>h,fun b o u h=>by simp[Gh.froze,h],fun _ _ h=>h⟩;have back: ∀b o u R,nR G1 s2'.heap b o=some u->gm s2'.heap u R->(G.froze G1 s2'.heap).ro b o=some R:=by
  intro b o u R g hf;cases e:G.ro b o with
  |none=>simp[Gh.froze,e,g,VL hf]
  |some z=>
   obtain⟨h1,p⟩:=old b o u (wr.ro_lt e) g;obtain⟨k,E⟩:=hf
   grind [VU,Gh.froze]
 have T: ∀b o x,b<w.heap.size->w.cell? ⟨b,o,none⟩=some x->w'.cell? ⟨b,o,none⟩=some x:=by
  intro b o x I U
  have:=kept b I;unfold World.cell? at U ⊢;rw[this];exact U
 obtain⟨kk,a2⟩:=a1;refine⟨G.froze G1 s2'.heap,⟨?_,?_,?_,?_,?_,?_⟩,⟨J,ext.size,fun b I _=>kept b I,fun b _ o=>o,?_,?_,ext.quiet,fun b _ o=>o⟩,thaw back c.wr kk c.val a2⟩;intro n o hn;obtain⟨a,h1,p,q⟩:=wr.obj n o hn;exact⟨a,h1,p,(q.mono J).of_block (kept _ (wr.below n a h1))⟩;exact wr.sep;intro b o u g;cases e:G.ro b o with
 |some z=>
  have:u=z:=by simp only[Gh.froze,e,Option.some_or,aH] at g;exact g.symm
  subst this;obtain⟨h1,y,p,q⟩:=wr.ro b o u e;exact⟨h1,y,T b o y (wr.ro_lt e) p,q.mono J⟩
 |none=>
  simp only[Gh.froze,e,zF,aj] at g;obtain⟨z,hz,g⟩:=g;obtain⟨k,E⟩:=VM g;rcases G9 hz with a0|⟨m,a,cs,i,h1,p,q,h4,h5⟩
  obtain⟨h1,y,p,q⟩:=c.wr.ro b o z a0;exact⟨Hy E h1,y,p,thaw back c.wr k q E⟩;obtain⟨a',Y,g2,C,et,g3,g4,g5⟩:=c.wr.obj m _ h1;rw[p] at Y;injection Y with Y;subst Y
  obtain⟨r1,y,r2,r3⟩:=g5 i z h5;refine⟨Hy E r1,y,?_,thaw back c.wr k r3 E⟩
  grind [oE]
 intro n ob a i u hn V g;cases e:G.ro a.block i with
 |some z=>exact wr.apart n ob a i z hn V e
 |none=>
  simp only[Gh.froze,e,zF,aj] at g;obtain⟨z,hz,_⟩:=g
  have:=(old _ _ _ (wr.below n a V) hz).1;rw[e] at this;cases this
 intro b d hd;obtain⟨C,e,h1,p⟩:=wr.dim b d hd
 grind
 intro n a V;exact gj (wr.below n a V) ext.size
 all_goals grind [Gh.froze,aj]
def nB(I:Al Q)(E: ∀i,0<Q.kmax i)(z:ei args=true)(hr:aq Q f (dz args) s0 v s')(g:s'.ci=0)(q:gm s'.heap v u)(G:Gh)(h:aC aJ)(w:World)(xs:List Value)(wr:WR G h w)(p:bR G args xs):
 lZ Q.P f ⟨xs⟩ w fun y w'=> ∃G',WR G' h w'/\cJ G h w G' h w' 0 0/\VR G' u y:=by
 obtain⟨n,C⟩:=hr;refine acF (n:=n) I E z (fun ch _=>⟨v,s',?_,q⟩) G h w xs wr p;have:(b9 (Q.at Q.ch) n).call f (dz args) [] s0=some (v,s'):=C;exact(tE Q n).call f (dz args) [] Q.ch s0 v s' this ch (fun i hi=>by rw[g] at hi;omega)
