/- Lemmas for ValidShown. -/
import Derived.Test.YtnnppcoplinajaaGreatAg1
import Derived.Orders
import Derived.Scope
import Derived.LoopN
import Derived.OrdersIn
import Derived.LoopNIn
import Derived.RangeFuncRecord
set_option linter.all false
open Array renaming ext'→qi,getD_eq_getD_getElem?→ui,getElem?_eq_getElem→sO,getElem?_replicate→SZ,getElem?_setIfInBounds→S4
open Bool renaming and_eq_true→bq,false_eq_true→KX
open Classical renaming byContradiction→ut
open List renaming all_eq_true→fD,getElem?_of_mem→uu,map_cons→eT
open List.cons renaming injEq→nQ
open Go.Ag.bI renaming none→vS
open Nat renaming beq→aK,ble→bu,blt→bh,le_max_left→vU,le_max_right→ux,le_of_lt→zZ,le_refl→bj,le_succ→jW,le_trans→eL,lt_of_lt_of_le→gh,lt_or_ge→pq,zero_add→eM,zero_le→jY
open Option renaming bind_eq_some_iff→ak,bind_some→bk,getD_some→BM
open Option.some renaming injEq→aM
open Prod.mk renaming injEq→bC
open Go.Result renaming andThen_ok→mh
namespace Go.Ag
section
variable{mk:aH}{α β γ δ:Type}
def cJ.none:cJ (α:=α) mk (fun _ _=>.none):=by intro ch s v s' h;cases h
def cJ.opt(x:Option β){k:β->(Nat->Nat)->St->Option (α×St)}(g: ∀b,x=some b->cJ mk (k b)):cJ mk (fun ch s=>x.bind fun b=>k b ch s):=by
 cases x with
 |none=>intro ch s v s' h;cases h
 |some b=>exact g b rfl
def cJ.ret(a:α):cJ mk (fun _ s=>some (a,s)):=by
 intro ch s v s' h;simp only[aM,bC] at h;obtain⟨rfl,rfl⟩:=h;exact⟨.refl mk _,fun g s2 _ x=>⟨s2,rfl,.refl x⟩⟩
def bI.ret(a:α)(b:β):bI mk (fun _ s=>some (a,b,s)):=by
 intro ch s v l s' h;simp only[aM,bC] at h;obtain⟨rfl,rfl,rfl⟩:=h;exact⟨.refl mk _,fun g s2 _ x=>⟨s2,rfl,.refl x⟩⟩
theorem cJ.then3{x:(Nat->Nat)->St->Option (α×St)}{k:α->(Nat->Nat)->St->Option (β×γ×St)}(I:cJ mk x)(J: ∀a,bI mk (k a)):bI mk (fun ch s=>(x ch s).bind fun r=>k r.1 ch r.2):=by
 intro ch s v l s' h;simp only[ak] at h;obtain⟨⟨a,s1⟩,h1,O⟩:=h;obtain⟨q,R⟩:=I ch s a s1 h1;obtain⟨p,e2⟩:=J a ch s1 v l s' O;refine⟨q.trans p,fun g s2 C y=>?_⟩;obtain⟨s2',U,z⟩:=R g s2 (fun i hi=>C i (gh hi p.ci)) y;obtain⟨s2'',T,E⟩:=e2 g s2' C (z.sees y q);exact⟨s2'',by grind,z.trans q p E⟩
theorem bI.then1{x:(Nat->Nat)->St->Option (α×β×St)}{k:α->β->(Nat->Nat)->St->Option (γ×St)}(I:bI mk x)(J: ∀a b,cJ mk (k a b)):cJ mk (fun ch s=>(x ch s).bind fun r=>k r.1 r.2.1 ch r.2.2):=by
 intro ch s v s' h;simp only[ak] at h;obtain⟨⟨a,b,s1⟩,h1,O⟩:=h;obtain⟨q,R⟩:=I ch s a b s1 h1;obtain⟨p,e2⟩:=J a b ch s1 v s' O;refine⟨q.trans p,fun g s2 C y=>?_⟩;obtain⟨s2',U,z⟩:=R g s2 (fun i hi=>C i (gh hi p.ci)) y;obtain⟨s2'',T,E⟩:=e2 g s2' C (z.sees y q);exact⟨s2'',by grind,z.trans q p E⟩
theorem bI.then3{x:(Nat->Nat)->St->Option (α×β×St)}{k:α->β->(Nat->Nat)->St->Option (γ×δ×St)}(I:bI mk x)(J: ∀a b,bI mk (k a b)):bI mk (fun ch s=>(x ch s).bind fun r=>k r.1 r.2.1 ch r.2.2):=by
 intro ch s v l s' h;simp only[ak] at h;obtain⟨⟨a,b,s1⟩,h1,O⟩:=h;obtain⟨q,R⟩:=I ch s a b s1 h1;obtain⟨p,e2⟩:=J a b ch s1 v l s' O;refine⟨q.trans p,fun g s2 C y=>?_⟩;obtain⟨s2',U,z⟩:=R g s2 (fun i hi=>C i (gh hi p.ci)) y;obtain⟨s2'',T,E⟩:=e2 g s2' C (z.sees y q);exact⟨s2'',by grind,z.trans q p E⟩
end
variable{α β:Type}{mk:aH}
theorem bI.weaken{p:aH}(Z: ∀n,dI mk n=true->dI p n=true){x:(Nat->Nat)->St->Option (α×β×St)}(T:bI p x):bI mk x:=by
 have E: ∀n,dI p n=false->dI mk n=false:=fun n h=>by
  grind
 have I: ∀ {s s':St} {n:Nat},nh p s s' n->nh mk s s' n:=fun t=>t.imp (fun t=>⟨E _ t.1,t.2⟩) id;intro ch s a b s' h;obtain⟨g,e⟩:=T ch s a b s' h;refine⟨⟨g.aL,g.ci,g.gE,fun n h=>g.frame n (fun t=>h (I t)),g.noted⟩,fun C s2 Y y=>?_⟩;obtain⟨s2',R,z⟩:=e C s2 Y ⟨y.aL,y.gE,y.ci,fun n o V U=>y.get n o (E n V) U⟩;refine⟨s2',R,⟨z.aL,z.gE,z.ci,fun n t=>?_,fun n t=>z.outside n (fun q=>t (I q))⟩⟩;by_cases q:nh p s s' n;exact z.inside n q;rw[z.outside n q,g.frame n q];rcases t with⟨O,J⟩|t
 cases h:s.heap.get n with
 |none=>exact absurd h J
 |some o=>exact y.get n o O h
 exact absurd (.inr t) q
variable{rs:List eZ}{bi n:Nat}
theorem Xe(h:dI mk n=true):dI (iO bi rs mk) n=true:=by
 induction rs with
 |nil=>exact h
 |cons r rs g=>
  grind [iO,dI]
def aF.at(Q:aF)(ch:Nat->Nat):aF:= {Q with ch:=ch }
theorem Gr{mk:aH}{s s2:St}(y:iJ mk s s2): ∀(x:Rd) (v:aa),fC (s.get mk) x=some v->fC (s2.get mk) x=some v
 | .ret _,_,h=>h
 | .ask n k,v,h=>by
   simp only[fC,ak] at h ⊢;obtain⟨o,h1,g⟩:=h;exact⟨o,y.look h1,Gr y (k o) v g⟩
theorem aso(mk:aH)(x:Rd):cJ mk (fun _ s=>(fC (s.get mk) x).bind fun v=>some (v,s)):=by
 intro ch s v s' h;simp only[ak,aM,bC] at h;obtain⟨u,h1,rfl,rfl⟩:=h;exact⟨.refl mk _,fun g s2 _ y=>⟨s2,by grind [Gr],.refl y⟩⟩
structure Lw (r:(Nat->Nat)->oG):Prop where
 ops: ∀f all mk l fr,cJ mk (fun ch s=>(r ch).ops f all mk l fr s)
 draw: ∀f all bs mk rs i l fr,cJ mk (fun ch s=>(r ch).draw f all bs mk rs i l fr s)
 code: ∀f c mk fr,bI mk (fun ch s=>(r ch).code f c mk fr s)
 call: ∀f args mk,cJ mk (fun ch s=>(r ch).call f args mk s)
def ase{k:aJ->(Nat->Nat)->St->Option (α×aJ×St)}(J: ∀o,bI mk (k o)):
 cJ mk (fun ch s=>(s.get mk n).bind fun o=>(k o ch (s.put n none)).bind fun x=>some (x.1,x.2.2.put n (some x.2.1))):=by
 intro ch s v s' h;simp only[ak,aM,bC] at h;obtain⟨o,h1,⟨u,p,C⟩,R,rfl,rfl⟩:=h;obtain⟨g,e⟩:=J o ch (s.put n none) u p C R;refine⟨g.hide h1 p,fun z s2 O y=>?_⟩;obtain⟨q,I,E⟩:=e z (s2.put n none) O ((gl.put y h1 none).sees y (fG.put h1 none));exact⟨q.put n (some p),by simp only[y.look h1,bk,I],E.hide y h1 p⟩
section
variable{Q:aF}{r:(Nat->Nat)->oG}(hr:Lw r)
include hr
theorem asv(n:Nat)(args:List aa)(mk:aH):cJ mk (fun ch s=>mX (r ch) n args mk s):=by
 unfold mX;refine ase fun o=>?_;unfold BD;split;rename_i f env g p a b;cases p.all (fun t=>bh t g);exact vS;simp only[cT];refine bI.bind _ fun q _=>?_;refine bI.then3 (k:=fun x fr ch s=>zL (r ch) f env g p a b mk (x,fr,s)) (hr.code f a mk _) fun x fr=>?_;cases x with
 |normal=>
  refine bI.then3 (k:=fun x fr _ s=>BC f env g p a b (x,fr,s)) (hr.code f b mk _) fun x fr=>?_;cases x<;>exact bI.ret _ _
 |exit i=>exact vS
 |ret=>exact vS
 exact vS
theorem FF(f:FuncId)(o:Oper)(mk:aH)(fr:Fr):bI mk (fun ch s=>eW (Q.at ch) (r ch) f o mk fr s):=by
 unfold eW;split;split;exact aag _ _ _ _;rename_i c _ _ _;cases oY fr.env c;unfold pF;exact bI.bind _ fun g _=>cJ.then3 (hr.call g.1 g.2 mk) fun v=>bI.ret v fr.loc;unfold sM;exact bI.bind _ fun g _=>cJ.then3 (asv hr g.1 g.2 mk) fun v=>bI.ret v fr.loc;exact ar3 _ _ _ _ _
theorem asm(f:FuncId)(all:Array Oper)(mk:aH)(l:List Oper)(fr:Fr):cJ mk (fun ch s=>mO (Q.at ch) (r ch) f all mk l fr s):=by
 unfold mO;split;exact cJ.ret fr;rename_i o g;cases eP all fr.env o;exact cJ.opt _ fun fr' _=>hr.ops f all mk g fr';exact bI.then1 (FF hr f o mk fr) fun v l=>cJ.opt (cR fr o.dst v l) fun fr' _=>hr.ops f all mk g fr'
theorem asc(f:FuncId)(all:Array Oper)(bs:List Nat)(mk:aH)(rs:List eZ)(i:Nat)(l:List Oper)(fr:Fr):cJ mk (fun ch s=>my (Q.at ch) (r ch) f all bs mk rs i l fr s):=by
 unfold my;split;exact cJ.ret fr;rename_i o C;cases eP all fr.env o;exact cJ.opt _ fun fr' _=>hr.draw f all bs.tail mk rs (i+1) C fr';intro ch s v s' h;simp only[cT,ak] at h;obtain⟨⟨u,l,s1⟩,h1,h⟩:=h;replace h:=bc h;obtain⟨hc,h⟩:=h;simp only[ak] at h;obtain⟨fr',U,h⟩:=h;have hl:=bI.weaken (fun n T=>Xe (bi:=bs.headD 0) (rs:=rs) T) (FF (Q:=Q) hr f o (iO (bs.headD 0) rs mk) fr);obtain⟨O,e1⟩:=hl ch ⟨s.heap,s.aL,s.aL,s.ci⟩ u l s1 h1;obtain⟨Y,e2⟩:=hr.draw _ _ _ _ _ _ _ _ ch (s.GE s1) v s' h;have I:(bif bu s.gE s1.gE then s.gE else s1.gE)<=s.gE/\(bif bu s.gE s1.gE then s.gE else s1.gE)<=s1.gE:=by
  cases e:bu s.gE s1.gE
  grind [tW]
  simp_all
 have q:fG mk s (s.GE s1):=⟨O.aL,O.ci,I.1,O.frame,fun n T R=>eL I.2 (O.noted n T R)⟩;refine⟨q.trans Y,fun z s2 J y=>?_⟩;obtain⟨g,Z,p⟩:=e1 z ⟨s2.heap,s2.aL,s2.aL,s2.ci⟩ (fun j hj=>J j (gh hj Y.ci)) ⟨y.aL,y.aL,y.ci,y.get⟩;have E:gl mk s (s.GE s1) s2 (s2.GE g):=⟨p.aL,by show(bif bu s2.gE g.gE then s2.gE else g.gE)=(bif bu s.gE s1.gE then s.gE else s1.gE);rw[y.gE,p.gE],p.ci,p.inside,p.outside⟩;obtain⟨s2',q3,q4⟩:=e2 z (s2.GE g) J (E.sees y q);refine⟨s2',?_,E.trans q Y q4⟩;simp only[cT];rw[y.aL,y.ci] at Z ⊢;simp only[Z,bk,p.gE,p.ci,p.aL];have V:(pJ (bs.headD 0) (bD ((Q.at z).hint f) o.dst fr.env o.op) (s1.gE.blt s.aL||isStore o.op) rs&&s.ci.beq s1.ci)=true:=hc;rw[V];simp only[cT];rw[U];exact q3
theorem asa(f:FuncId)(c:Code)(mk:aH)(fr:Fr):bI mk (fun ch s=>yh (Q.at ch) (r ch) f c mk fr s):=by
 have C: ∀(x:Ex) (fr:Fr) (b:Code),bI mk (fun ch s=>pV (r ch) f b mk (x,fr,s)):=by
  intro x fr b;cases x with
  |normal=>exact hr.code f b mk fr
  |exit i=>exact bI.ret _ _
  |ret=>exact bI.ret _ _
 cases c<;>simp only[yh]<;>first
  |exact vS
  |exact bI.ret _ _
  |exact bI.then3 (hr.code f _ mk fr) fun x fr=>C x fr _
  |exact hr.code f _ mk fr
  |skip
 ·
  rename_i id ops draw;unfold Kk;cases draw;exact cJ.then3 (k:=fun fr _ s=>some (Ex.normal,fr,s)) (hr.ops f ops mk ops.toList fr) fun fr=>bI.ret _ _;simp only[cT];cases nW ops 0 ops.toList (Region.before ops).toList;exact vS;exact cJ.then3 (k:=fun fr _ s=>some (Ex.normal,fr,s)) (hr.draw f ops _ mk [] 0 ops.toList fr) fun fr=>bI.ret _ _
 ·
  rename_i x a b;refine bI.bind _ fun v _=>?_;unfold Ca;split;exact hr.code f _ mk fr;exact hr.code f _ mk fr;exact vS
 ·
  rename_i id b;refine bI.then3 (k:=fun x fr _ s=>some (qz id (x,fr,s))) (hr.code f b mk fr) fun x fr=>?_;cases x with
  |normal=>exact bI.ret _ _
  |ret=>exact bI.ret _ _
  |exit i=>
   simp only[qz];cases aK i id
   all_goals simp_all [bI.ret]
 ·
  rename_i g Y a b;refine bI.bind _ fun v _=>?_;unfold xj;split;rename_i h first z _
  show bI mk (fun ch s=>bif tF Q.P h&&(fr.env.all jB&&(dB a&&dB b)) then _ else none);cases tF Q.P h&&(fr.env.all jB&&(dB a&&dB b));exact vS;simp only[cT];intro ch s x fr' s' h';simp only[ak] at h';obtain⟨⟨v,s1⟩,h1,Z⟩:=h';simp only[Bk,ak] at Z;obtain⟨o,R,q⟩:=Z;obtain⟨I,e1⟩:=hr.call h _ mk ch _ v s1 h1;have E:=fG.new mk s (.loop f fr.env fr.size Y.toList a b none);cases o with
  |loop f' a0 J a1 a' b' p=>
   simp only[aM,bC] at q;obtain⟨rfl,rfl,rfl⟩:=q;have g2:=fG.put R (mk:=mk) none;refine⟨(E.trans I).trans g2,fun T s2 hc y=>?_⟩;have s0:=gl.new y (.loop f fr.env fr.size Y.toList a b none);obtain⟨O,q1,V⟩:=e1 T _ hc (s0.sees y E);have hn:s2.aL=s.aL:=y.aL;have U:=V.sees (s0.sees y E) I;refine⟨O.put s.aL none,?_,(s0.trans E I V).trans (E.trans I) g2 (.put U R none)⟩;simp only[hn,q1,bk,Bk,U.look R]
  |cells _=>cases q
  |tok=>cases q
  |map _ _=>cases q
  |iter _ _ _ _=>cases q
  |fix _=>cases q
  exact vS
omit hr in
theorem aah(mk:aH)(fr:Fr)(l:List ResultVar):RO mk (fun s=>iE Q mk fr s l):=by
 intro s s2 b h hl
 induction l generalizing b with
 |nil=>exact h
 |cons x l q=>
  simp only[iE,ak] at h ⊢;obtain⟨v,p,vs,g,h⟩:=h;refine⟨v,?_,vs,q vs g,h⟩;cases x with
  |tmp t=>exact p
  |cell a t=>exact ac1 t _ fr.loc s s2 v p hl
theorem ar8(f:FuncId)(args:List aa)(mk:aH):cJ mk (fun ch s=>jw (Q.at ch) (r ch) f args mk s):=by
 unfold jw;show cJ mk (fun ch s=>match Q.spec f with
  |some sp=>(sp args).bind fun v=>some (v,s)
  |none=>match Q.specH f with
   |some sp=>(fC (s.get mk) (sp args)).bind fun v=>some (v,s)
   |none=>match Q.specW f with
   |some sp=>(sp args).bind (xi mk s)
   |none=>(Q.P.funcs[f]?).bind fun fn=>fn.body.bind fun c=>
    ((r ch).code f c mk ⟨fH 0 args,bif bu args.length fn.ntmps then fn.ntmps else args.length,[]⟩ s).bind (qF (Q.at ch) fn mk))
 cases Q.spec f with
 |some sp=>exact cJ.pureOpt _
 |none=>
  cases Q.specH f with
  |some sp=>exact aso mk (sp args)
  |none=>
  cases Q.specW f with
  |some sp=>
   refine cJ.opt (k:=fun p _ s=>xi mk s p) (sp args) fun p _=>?_;cases p with
   |none=>exact cJ.ret _
   |some p=>
   refine cJ.of_put (f:=fun s=>(s.get mk p.1).bind (Dy mk s p)) ?_;intro s a s' h;simp only[ak] at h;obtain⟨o,h1,h⟩:=h;cases o<;>simp only[Dy,ak,reduceCtorEq] at h;obtain⟨v,E,h⟩:=h;cases v<;>simp only[Ej,aM,bC,reduceCtorEq] at h;obtain⟨rfl,rfl⟩:=h;exact⟨p.1,_,_,h1,rfl,fun s2 y=>by simp only[y.look h1,bk,Dy,Gr y _ _ E,Ej]⟩
  |none=>
  refine cJ.opt _ fun fn _=>cJ.opt _ fun c _=>?_;refine bI.then1 (k:=fun x fr ch s=>qF (Q.at ch) fn mk (x,fr,s)) (hr.code f c mk _) fun x fr=>?_;have fin:cJ mk (fun(ch:Nat->Nat) s=>(iE (Q.at ch) mk fr s fn.results.toList).bind fun vs=>some (nK vs,s)):=by
   intro ch s v s' h;simp only[ak] at h;obtain⟨vs,g,h⟩:=h;simp only[aM,bC] at h;obtain⟨rfl,rfl⟩:=h;refine⟨.refl mk _,fun q s2 _ y=>⟨s2,?_,.refl y⟩⟩
   have:=aah (Q:=Q.at ch) mk fr fn.results.toList s s2 vs g (fun n o C=>y.look C);have:iE (Q.at q) mk fr s2 fn.results.toList=some vs:=by
    rw[<-this];clear g this;generalize fn.results.toList=l
    induction l with
    |nil=>rfl
    |cons x l z=>simp only[iE,z];cases x<;>rfl
   simp[this]
  cases x with
  |normal=>exact fin
  |ret=>exact fin
  |exit i=>exact cJ.none
end
def lU(Q:aF): ∀n:Nat,Lw (fun ch=>ce (Q.at ch) n)
 |0=>⟨fun _ _ _ _ _=>cJ.none,fun _ _ _ _ _ _ _ _=>cJ.none,fun _ _ _ _=>vS,fun _ _ _=>cJ.none⟩
 |n+1=>⟨fun f all mk l fr=>asm (lU Q n) f all mk l fr,fun f all bs mk rs i l fr=>asc (lU Q n) f all bs mk rs i l fr,
  fun f c mk fr=>asa (lU Q n) f c mk fr,fun f args mk=>ar8 (lU Q n) f args mk⟩
def fT{α:Type}(x:(Nat->Nat)->St->Option (α×St)):Prop:=
 ∀ch s a s',x ch s=some (a,s')-> ∀g,(∀i,i<s'.ci->g i=ch i)->x g s=some (a,s')
def fk{α β:Type}(x:(Nat->Nat)->St->Option (α×β×St)):Prop:=
 ∀ch s a b s',x ch s=some (a,b,s')-> ∀g,(∀i,i<s'.ci->g i=ch i)->x g s=some (a,b,s')
def fT.const(f:St->Option (α×St)):fT (fun _ s=>f s):=fun _ _ _ _ h _ _=>h
def fk.const(f:St->Option (α×β×St)):fk (fun _ s=>f s):=fun _ _ _ _ _ h _ _=>h
section
variable{mk:aH}{α β γ δ:Type}
def fT.opt(x:Option β){k:β->(Nat->Nat)->St->Option (α×St)}(g: ∀b,x=some b->fT (k b)):fT (fun ch s=>x.bind fun b=>k b ch s):=by
 cases x with
 |none=>intro ch s v s' h;cases h
 |some b=>exact g b rfl
def fk.opt(x:Option β){k:β->(Nat->Nat)->St->Option (α×γ×St)}(g: ∀b,x=some b->fk (k b)):fk (fun ch s=>x.bind fun b=>k b ch s):=by
 cases x with
 |none=>intro ch s v l s' h;cases h
 |some b=>exact g b rfl
def fT.then3{x:(Nat->Nat)->St->Option (α×St)}{k:α->(Nat->Nat)->St->Option (β×γ×St)}(y:fT x)(z: ∀a,fk (k a))(C: ∀a,bI mk (k a)):fk (fun ch s=>(x ch s).bind fun r=>k r.1 ch r.2):=by
 intro ch s v l s' h g p;simp only[ak] at h ⊢;obtain⟨⟨a,s1⟩,h1,q⟩:=h;exact⟨(a,s1),y ch s a s1 h1 g (fun i hi=>p i (gh hi ((C a ch s1 v l s' q).1.ci))),z a ch s1 v l s' q g p⟩
def fk.then1{x:(Nat->Nat)->St->Option (α×β×St)}{k:α->β->(Nat->Nat)->St->Option (γ×St)}(y:fk x)(z: ∀a b,fT (k a b))(C: ∀a b,cJ mk (k a b)):fT (fun ch s=>(x ch s).bind fun r=>k r.1 r.2.1 ch r.2.2):=by
 intro ch s v s' h g p;simp only[ak] at h ⊢;obtain⟨⟨a,b,s1⟩,h1,q⟩:=h;exact⟨(a,b,s1),y ch s a b s1 h1 g (fun i hi=>p i (gh hi ((C a b ch s1 v s' q).1.ci))),z a b ch s1 v s' q g p⟩
def fk.then3{x:(Nat->Nat)->St->Option (α×β×St)}{k:α->β->(Nat->Nat)->St->Option (γ×δ×St)}(y:fk x)(z: ∀a b,fk (k a b))(C: ∀a b,bI mk (k a b)):fk (fun ch s=>(x ch s).bind fun r=>k r.1 r.2.1 ch r.2.2):=by
 intro ch s v l s' h g p;simp only[ak] at h ⊢;obtain⟨⟨a,b,s1⟩,h1,q⟩:=h;exact⟨(a,b,s1),y ch s a b s1 h1 g (fun i hi=>p i (gh hi ((C a b ch s1 v l s' q).1.ci))),z a b ch s1 v l s' q g p⟩
end
theorem ahP(mk:aH)(kmax:Nat->Nat)(it:aa)(g:Bool):fT (fun ch s=>o6 mk ch kmax it g s):=by
 intro ch s u s' h R T;obtain⟨_,e⟩:=aaf (mk:=mk) kmax it g ch s u s' h;simp only[o6] at h ⊢;split at h
 ·rename_i n
  simp only[ak] at h ⊢;obtain⟨ob,E,h⟩:=h;refine⟨ob,E,?_⟩;split at h;exact h
  ·rename_i m z q p
   cases g
   ·simp only[cF,ak] at h ⊢
    obtain⟨C,y,h⟩:=h;refine⟨C,y,?_⟩;split at h
    ·rename_i O J
     replace h:=gn h;rcases h with⟨_,h⟩|⟨I,h⟩
     cases h
     ·simp only[I,cF]
      generalize l9 q O=UL at h ⊢;unfold tX at h ⊢;split at h
      all_goals grind
    cases h
   cases h
  cases h
 cases h
variable{P:Program}
theorem ahL(mk:aH)(kmax:Nat->Nat)(hint:Tmp->Nat)(dst:Option Tmp)(op:Op)(fr:Fr):fk (fun ch s=>lL P mk ch kmax hint dst op fr s):=by
 cases op<;>simp only[lL]<;>first
  |exact fk.const _
  |skip
 rename_i y g;refine fk.opt _ fun x _=>?_;intro ch s v l s' h p z;simp only[f9,ak] at h ⊢;obtain⟨⟨q,s1⟩,h1,h⟩:=h;refine⟨(q,s1),ahP mk kmax x g ch s q s1 h1 p ?_,h⟩
 grind
structure S9 (r:(Nat->Nat)->oG):Prop where
 ops: ∀f all mk l fr,fT (fun ch s=>(r ch).ops f all mk l fr s)
 draw: ∀f all bs mk rs i l fr,fT (fun ch s=>(r ch).draw f all bs mk rs i l fr s)
 code: ∀f c mk fr,fk (fun ch s=>(r ch).code f c mk fr s)
 call: ∀f args mk,fT (fun ch s=>(r ch).call f args mk s)
section
variable{Q:aF}{r:(Nat->Nat)->oG}(hl:Lw r)(hr:S9 r)
include hl hr
theorem ahR(n:Nat)(args:List aa)(mk:aH):fT (fun ch s=>mX (r ch) n args mk s):=by
 intro ch s v s' h q I;simp only[mX,ak,aM,bC] at h ⊢;obtain⟨o,h1,⟨u,T,O⟩,g,rfl,rfl⟩:=h;refine⟨o,h1,(u,T,O),?_,rfl,rfl⟩;have I: ∀i,i<O.ci->q i=ch i:=I;unfold BD at g ⊢;split at g
 ·obtain⟨U,g⟩:=bc g
  simp only[U,cT,ak] at g ⊢;obtain⟨y,Z,⟨x,fr,E⟩,Y,J⟩:=g;refine⟨y,Z,(x,fr,E),?_,?_⟩
  all_goals cases x with
   |exit i=>cases J
   |ret=>cases J
   |normal=>
    simp only[zL,ak] at J ⊢;obtain⟨⟨z,p,C⟩,R,V⟩:=J;have e5:C=O:=by cases z<;>(grind [BC])
    subst e5;have g2:=(hl.code _ _ mk _ ch E z p C R).1
    first
     |exact hr.code _ _ mk _ ch _ _ fr E Y q (fun i hi=>I i (gh hi g2.ci))
     |exact⟨(z,p,C),hr.code _ _ mk _ ch E z p C R q I,V⟩
 cases g
theorem Es(f:FuncId)(o:Oper)(mk:aH)(fr:Fr):fk (fun ch s=>eW (Q.at ch) (r ch) f o mk fr s):=by
 have _:=hl;unfold eW;split
 ·split
  exact fun ch s a b s' h p _=>h
  ·rename_i c _ _ _
   cases oY fr.env c
   case' true=>
    unfold sM;exact fk.opt _ fun g _=>fT.then3 (mk:=mk) (k:=fun v _ s=>some (v,fr.loc,s)) (ahR hl hr g.1 g.2 mk) (fun v=>fk.const _) fun v=>bI.ret v fr.loc
   unfold pF;exact fk.opt _ fun g _=>fT.then3 (mk:=mk) (k:=fun v _ s=>some (v,fr.loc,s)) (hr.call g.1 g.2 mk) (fun v=>fk.const _) fun v=>bI.ret v fr.loc
 exact ahL _ _ _ _ _ _
theorem ahQ(f:FuncId)(all:Array Oper)(mk:aH)(l:List Oper)(fr:Fr):fT (fun ch s=>mO (Q.at ch) (r ch) f all mk l fr s):=by
 unfold mO;split;exact fT.const _;rename_i o g;cases eP all fr.env o;exact fT.opt _ fun fr' _=>hr.ops f all mk g fr';exact fk.then1 (mk:=mk) (k:=fun v l ch s=>(cR fr o.dst v l).bind fun fr'=>(r ch).ops f all mk g fr' s) (Es hl hr f o mk fr) (fun v l=>fT.opt _ fun fr' _=>hr.ops f all mk g fr') fun v l=>cJ.opt _ fun fr' _=>hl.ops f all mk g fr'
theorem ahO(f:FuncId)(all:Array Oper)(bs:List Nat)(mk:aH)(rs:List eZ)(i:Nat)(l:List Oper)(fr:Fr):fT (fun ch s=>my (Q.at ch) (r ch) f all bs mk rs i l fr s):=by
 unfold my;split;exact fT.const _;rename_i o q;cases eP all fr.env o;exact fT.opt _ fun fr' _=>hr.draw f all bs.tail mk rs (i+1) q fr';intro ch s v s' h p C;simp only[cT,ak] at h ⊢;obtain⟨⟨u,l,s1⟩,h1,h⟩:=h;replace h:=bc h;obtain⟨g,h⟩:=h;simp only[ak] at h;obtain⟨fr',y,h⟩:=h;have I:=(hl.draw _ _ _ _ _ _ _ _ ch (s.GE s1) v s' h).1;refine⟨(u,l,s1),Es (Q:=Q) hl hr f o _ fr ch _ u l s1 h1 p (fun j E=>C j (gh E I.ci)),?_⟩;have z:(pJ (bs.headD 0) (bD ((Q.at p).hint f) o.dst fr.env o.op) (s1.gE.blt s.aL||isStore o.op) rs&&s.ci.beq s1.ci)=true:=g;simp only[z,cT,y,bk];exact hr.draw _ _ _ _ _ _ _ _ ch (s.GE s1) v s' h p C
theorem ahN(f:FuncId)(c:Code)(mk:aH)(fr:Fr):fk (fun ch s=>yh (Q.at ch) (r ch) f c mk fr s):=by
 have q: ∀(x:Ex) (fr:Fr) (b:Code),fk (fun ch s=>pV (r ch) f b mk (x,fr,s))/\bI mk (fun ch s=>pV (r ch) f b mk (x,fr,s)):=by
  intro x fr b;cases x with
  |normal=>exact⟨hr.code f b mk fr,hl.code f b mk fr⟩
  |exit i=>exact⟨fk.const _,bI.ret _ _⟩
  |ret=>exact⟨fk.const _,bI.ret _ _⟩
 cases c<;>simp only[yh]<;>first
  |exact fk.const _
  |exact fk.then3 (mk:=mk) (hr.code f _ mk fr) (fun x fr=>(q x fr _).1) (fun x fr=>(q x fr _).2)
  |exact hr.code f _ mk fr
  |skip
 rename_i id ops draw;unfold Kk;cases draw;exact fT.then3 (mk:=mk) (k:=fun fr _ s=>some (Ex.normal,fr,s)) (hr.ops f ops mk ops.toList fr) (fun _=>fk.const _) fun _=>bI.ret _ _;simp only[cT];cases nW ops 0 ops.toList (Region.before ops).toList;exact fk.const _;exact fT.then3 (mk:=mk) (k:=fun fr _ s=>some (Ex.normal,fr,s)) (hr.draw f ops _ mk [] 0 ops.toList fr) (fun _=>fk.const _) fun _=>bI.ret _ _;rename_i x a b;refine fk.opt _ fun v _=>?_;unfold Ca;split;exact hr.code f _ mk fr;exact hr.code f _ mk fr;exact fk.const _;rename_i id b;intro ch s x fr' s' h y I;simp only[ak] at h ⊢;obtain⟨⟨C,fr1,s1⟩,h1,h⟩:=h;refine⟨(C,fr1,s1),hr.code f b mk fr ch s C fr1 s1 h1 y ?_,h⟩;have:s1=s':=by
  simp only[aM] at h;cases C with
  |normal=>grind [qz]
  |ret=>grind [qz]
  |exit i=>
   grind [qz]
 rw[this];exact I;rename_i g U a b;refine fk.opt _ fun v _=>?_;unfold xj;split;rename_i h first z _
 show fk (fun ch s=>bif tF Q.P h&&(fr.env.all jB&&(dB a&&dB b)) then _ else none);cases tF Q.P h&&(fr.env.all jB&&(dB a&&dB b));exact fk.const _;simp only[cT];intro ch s x fr' s' h' y I;simp only[ak] at h' ⊢;obtain⟨⟨v,s1⟩,h1,O⟩:=h';refine⟨(v,s1),?_,O⟩;have:s1.ci=s'.ci:=by
  simp only[Bk,ak] at O;obtain⟨o,_,J⟩:=O;cases o with
  |loop V R E T a' Y p=>
   simp only[aM,bC] at J;rw[<-J.2.2];rfl
  |_=>cases J
 exact hr.call h _ mk ch _ v s1 h1 y (by rw[this];exact I);exact fk.const _
omit hl in
theorem ahM(f:FuncId)(args:List aa)(mk:aH):fT (fun ch s=>jw (Q.at ch) (r ch) f args mk s):=by
 unfold jw;show fT (fun ch s=>match Q.spec f with
  |some sp=>(sp args).bind fun v=>some (v,s)
  |none=>match Q.specH f with
   |some sp=>(fC (s.get mk) (sp args)).bind fun v=>some (v,s)
   |none=>match Q.specW f with
   |some sp=>(sp args).bind (xi mk s)
   |none=>(Q.P.funcs[f]?).bind fun fn=>fn.body.bind fun c=>
    ((r ch).code f c mk ⟨fH 0 args,bif bu args.length fn.ntmps then fn.ntmps else args.length,[]⟩ s).bind (qF (Q.at ch) fn mk))
 cases Q.spec f with
 |some sp=>exact fT.const _
 |none=>
  cases Q.specH f with
  |some sp=>exact fT.const _
  |none=>
  cases Q.specW f with
  |some sp=>simp_all [fT.const]
  |none=>
  refine fT.opt _ fun fn _=>fT.opt _ fun c _=>?_;intro ch s v s' h g z;simp only[ak] at h ⊢;obtain⟨⟨p,fr1,s1⟩,h1,h⟩:=h;have q: ∀l,iE (Q.at g) mk fr1 s1 l=iE (Q.at ch) mk fr1 s1 l:=by
   intro l
   induction l with
   |nil=>rfl
   |cons x l y=>simp only[iE,y];cases x<;>rfl
  have:s1=s'/\qF (Q.at g) fn mk (p,fr1,s1)=some (v,s'):=by
   cases p with
   |exit i=>cases h
   |normal=>
    grind [qF,ak]
   |ret=>
    grind [qF,ak]
  exact⟨(p,fr1,s1),hr.code f c mk _ ch s p fr1 s1 h1 g (by rw[this.1];exact z),this.2⟩
end
def tS(Q:aF): ∀n:Nat,S9 (fun ch=>ce (Q.at ch) n)
 |0=>⟨fun _ _ _ _ _=>fT.const _,fun _ _ _ _ _ _ _ _=>fT.const _,fun _ _ _ _=>fk.const _,fun _ _ _=>fT.const _⟩
 |n+1=>⟨fun f all mk l fr=>ahQ (lU Q n) (tS Q n) f all mk l fr,fun f all bs mk rs i l fr=>ahO (lU Q n) (tS Q n) f all bs mk rs i l fr,
  fun f c mk fr=>ahN (lU Q n) (tS Q n) f c mk fr,fun f args mk=>ahM (tS Q n) f args mk⟩
variable{fr':Fr}{B':Nat->Nat}{dst:Option Tmp}{x:Value}{w':World}{h:aD aJ}
section
variable{P:Program}{mk:aH}{ch:Nat->Nat}{kmax:Nat->Nat}{hint:Tmp->Nat}{G:Gh}{s s':St}{B:Nat->Nat}{fr:Fr}{a:Act}{w:World}{o:Oper}{v:aa}{loc':Loc}
theorem ago(wr:WR G s.heap w)(fx:cE G s.heap B fr a.tmps w)(g:lL P mk ch kmax hint o.dst o.op fr s=some (v,loc',s'))(C: ∀n,s.aL<=n->n<s'.aL->G.at_ n=none)(I: ∀x b E,o.op= .next x b->evc fr.env x=some E->2<=kj mk E s->ch s.ci % kj mk E s=(w.tape w.drawn (.mapNext (kj mk E s))) % kj mk E s):
 fu P G s.heap w B fr.loc s.aL s'.aL a o v loc' s'.heap:=by
 cases hop:o.op<;>rw[hop] at g<;>simp only[lL] at g
 case move x=>replace g:=ld g;grind [auW]
 case assign x=>replace g:=ld g;grind [auC]
 case pick c p q=>replace g:=ld g;grind [auZ]
 case alloc e=>exact auB hop wr fx g C
 case box e x=>exact auE hop wr fx g C
 case build t parts=>replace g:=ld g;grind [auF]
 case buildSlice t len parts=>exact auG hop wr fx g C
 case load t x=>exact auQ hop wr fx g
 case store t x z=>exact au2 hop wr fx g
 case nilCheck x=>
  simp only[qZ,ak] at g;obtain⟨u,J,g⟩:=g;replace g:=ld g
  grind [auY]
 case binOp op t x y yt=>exact auD hop wr fx g
 case unOp op t x=>exact au3 hop wr fx g
 case convert src dst x=>exact auI hop wr fx g
 case makeFunc fn first captured=>replace g:=ld g;grind [auS]
 case makeMap t r=>exact auT hop wr fx g C
 case makeSlice t l c=>exact auU hop wr fx g C
 case slice t x lo hi mx=>exact au1 hop wr fx g
 case fieldAddr t x f=>exact auN hop wr fx g
 case field t x f=>exact auM hop wr fx g
 case indexAddr t x i=>exact auP hop wr fx g
 case index t x i=>exact auO hop wr fx g
 case lookup t x i ok=>exact auR hop wr fx g
 case mapUpdate t m k x=>exact abL (.inl hop) wr fx g
 case insert t m k x=>exact abL (.inr hop) wr fx g
 case mapEntry t m k=>exact auV hop wr fx g
 case entryStore t m st x=>exact auK hop wr fx g
 case range t x=>exact au0 hop wr fx g C
 case next it isString=>
  grind [ak,auX]
 case entry it=>exact auJ hop wr fx g
 case extract x i=>exact auL hop wr fx g
 all_goals grind [auH]
theorem getD_set(tmps:Array Value)(d t:Nat)(x:Value)(g:d<tmps.size):(tmps.setIfInBounds d x).getD t undef=if t=d then x else tmps.getD t undef:=by
 simp only[ui,S4]
 grind
theorem cE.put{G G':Gh}{h':aD aJ}{B:Nat->Nat}{fr:Fr}{a:Act}{w:World}{v:aa}{loc':Loc}(fx:cE G h B fr a.tmps w)(g:cR fr dst v loc'=some fr')(hl:qr G' h' B' loc' w')(z:LV G' loc' B' v x)(p: ∀u y,LV G fr.loc B u y->LV G' loc' B' u y):cE G' h' B' fr' (a.put dst x).tmps w':=by
 unfold cR at g;cases dst with
 |none=>
  injection g with g;subst g
  exact⟨fx.size,fun t=>p _ _ (fx.env t),hl⟩
 |some d=>
  replace g:=bc g;obtain⟨q,g⟩:=g;injection g with g;subst g
  have q:=qB q;refine⟨by simp[Act.put,fx.size],fun t=>?_,hl⟩;show LV G' loc' B' (ac (fr.env.set d (some v)) t) ((a.tmps.setIfInBounds d x).getD t undef);rw[getD_set _ _ _ _ (by rw[fx.size];exact q)];unfold ac;rw[aD.get_set];by_cases e:t=d;rw[iP e,iP e];exact z;rw[iN e,iN e];exact p _ _ (fx.env t)
theorem cE.wanted{G:Gh}{B:Nat->Nat}{fr:Fr}{a:Act}{w:World}(fx:cE G h B fr a.tmps w)(ops:Array Oper)(o:Oper):Region.wanted o (yielded ops a.tmps)=eP ops fr.env o:=by
 unfold Region.wanted eP;cases hg:o.guard with
 |none=>rfl
 |some g=>
  obtain⟨j,q⟩:=g;simp only[yielded];cases hd:(ops[j]?).bind (·.dst) with
  |none=>simp
  |some d=>
   simp only[bk];have hl:=fx.env d;have p: ∀b,a.tmps[d]? =some (.bool b)↔a.tmps.getD d undef= .bool b:=by
    intro b;simp only[ui];cases hx:a.tmps[d]? with
    |none=>simp[undef]
    |some x=>simp
   cases hn:ac fr.env d with
   |bool b=>
    rw[hn] at hl;have hl:VR G (.bool b) (a.tmps.getD d undef):=hl;have:a.tmps[d]? =some (.bool b):=by
     rw[p];generalize a.tmps.getD d undef=x at hl;cases hl;rfl
    simp[this]
   |Gt t g y=>
    rw[hn] at hl;obtain⟨_,⟨C,z⟩,_⟩:=hl
    grind
   |_=>
    rw[hn] at hl;have hl:VR G _ (a.tmps.getD d undef):=hl;cases hx:a.tmps[d]? with
    |none=>simp
    |some x=>
     have e:a.tmps.getD d undef=x:=by simp[ui,hx]
     rw[e] at hl;cases hl<;>simp
end
variable{j:Nat}{D:Nat->Prop}
section
variable{α:Type}
open Classical in
noncomputable def mix(X:Nat->α)(D:Nat->Prop):Nat->α
 |0=>X 0
 |k+1=>if D k/\X (k+1)≠X k then X (k+1) else mix X D k
theorem Qh{X:Nat->α}{D:Nat->Prop}{j:Nat}: ∀ {n:Nat},j<=n->(∀k,j<=k->k<n->D k->X (k+1)=X k)->mix X D n=mix X D j
 |0,h,_=>by grind
 |n+1,h,hk=>by
  by_cases e:j=n+1;rw[e];rw[mix,iN (fun x=>x.2 (hk n (by omega) (by omega) x.1))];exact Qh (by omega) fun k h1 g=>hk k h1 (by omega)
theorem Qj{X:Nat->α}{D:Nat->Prop}: ∀ {j:Nat},(∀i,i<j->X (i+1)≠X i->D i)->mix X D j=X j
 |0,_=>rfl
 |j+1,h=>by
  rw[mix];split;rfl;rename_i g;rw[Qj fun i hi=>h i (by omega)]
  grind
def aaJ{X:Nat->α}(g:j<=n)(p: ∀i,i<j->X (i+1)≠X i->D i)(q: ∀k,j<=k->k<n->D k->X (k+1)=X k):mix X D n=X j:=
 (Qh g q).trans (Qj p)
theorem FO{X:Nat->α}{D g:Nat->Prop}: ∀ {n:Nat},(∀k,k<n->X (k+1)≠X k->(D k↔g k))->mix X D n=mix X g n
 |0,_=>rfl
 |n+1,h=>by
  rw[mix,mix,FO fun k p=>h k (by omega)]
  grind
def C4{X:Nat->α}(h:X (j+1)=X j):mix X (fun k=>D k\/k=j) n=mix X D n:=
 FO fun p _ g=>⟨fun x=>x.elim id fun e=>absurd (e▸h) g,.inl⟩
theorem as2{X:Nat->α}(z:j<n)(C: ∀i,i<j->X (i+1)≠X i->D i)(q: ∀k,j<k->k<n->D k->X (k+1)=X k):
 mix X (fun k=>D k\/k=j) n=X (j+1):=
 aaJ (j:=j+1) (by omega) (fun i hi g=>by
  grind) fun k h1 y p=>q k (by omega) y (p.resolve_right (by omega))
theorem Qi{X:Nat->α}(h: ∀k,k<n->D k):mix X D n=X n:=Qj fun i hi _=>h i hi
theorem Qk{X:Nat->α}(h: ∀k,k<n-> ¬D k):mix X D n=X 0:=
 (Qh (jY n) fun k _ g p=>absurd p (h k g))
end
inductive pz (ops:Array Oper):Nat->Nat->Prop
 |one {j:Nat} {o:Oper} {e:Edge}:ops[j]? =some o->e∈o.after->Region.binds .any e=true->pz ops e.on j
 |more {i j:Nat} {o:Oper} {e:Edge}:ops[j]? =some o->e∈o.after->Region.binds .any e=true->pz ops i e.on->pz ops i j
variable{ops:Array Oper}{i:Nat}
theorem pz.closed(z: ∀j o,D j->ops[j]? =some o-> ∀e∈o.after,Region.binds .any e=true->D e.on)(h:pz ops i j):D j->D i:=by
 induction h with
 |one g p q=>exact fun y=>z _ _ y g _ p q
 |more g p q _ C=>grind
def pz.ready(C: ∀j o,D j->ops[j]? =some o-> ∀e∈o.after,Region.binds .any e=true->D e.on)(y: ∀o,ops[j]? =some o-> ∀e∈o.after,Region.binds .any e=true->D e.on)(h:pz ops i j):D i:=by
 cases h with
 |one g p q=>exact y _ g _ p q
 |more g p q z=>exact z.closed C (y _ g _ p q)
variable{k:Nat}
theorem ayw{s m:Nat}(h:(s ||| 2 ^ k ||| m).testBit i=true):s.testBit i=true\/i=k\/m.testBit i=true:=by
 grind
variable{b:Nat}
theorem agN(T:(Region.before ops)[j]? =some b)(hi:b.testBit i=true):pz ops i j:=by
 have y: ∀(g:Array Nat) (j:Nat) (o:Oper),ops[j]? =some o->(∀k b,g[k]? =some b-> ∀i,b.testBit i=true->pz ops i k)->
  ∀(l:List Edge) (s:Nat),(∀e∈l,e∈o.after)->(∀i,s.testBit i=true->pz ops i j)->
  ∀i,(l.foldl (fun s e=>if Region.binds .any e then s ||| 2 ^ e.on ||| g.getD e.on 0 else s) s).testBit i=true->pz ops i j:=by
  intro g j o R p l
  induction l with
  |nil=>intro s _ C i hi;exact C i hi
  |cons e l I=>
   intro s hl C i hi;refine I _ (fun e O=>hl e (by simp[O])) ?_ i hi;intro i hi;simp only at hi;split at hi;rename_i z;rcases ayw hi with h|h|h
   exact C i h;subst h;exact .one R (hl e (by simp)) z;refine .more R (hl e (by simp)) z ?_;cases ha:g[e.on]? with
   |none=>grind
   |some b=>simp_all
   exact C i hi
 have E: ∀(l:List Oper) (g:Array Nat),(∀k o,l[k]? =some o->ops[g.size+k]? =some o)->(∀k b,g[k]? =some b-> ∀i,b.testBit i=true->pz ops i k)->
  ∀k b,(l.foldl (fun g o=>g.push (o.after.foldl (fun s e=>if Region.binds .any e then s ||| 2 ^ e.on ||| g.getD e.on 0 else s) 0)) g)[k]? =some b->
   ∀i,b.testBit i=true->pz ops i k:=by
  intro l
  induction l with
  |nil=>intro g _ p;exact p
  |cons o l I=>
   intro g hl p;refine I _ (fun k U q=>?_) ?_
   have:=hl (k+1) U (by simpa using q)
   grind
   intro k b q i hi;rw[Array.getElem?_push] at q;split at q;rename_i J;subst J;injection q with q
   subst q;rw[<-Array.foldl_toList] at hi;exact y g g.size o (by simpa using hl 0 o (by simp)) p o.after.toList 0 (fun e O=>by simpa using O) (fun i hi=>by simp at hi) i hi;exact p k b q i hi
 unfold Region.before at T;rw[<-Array.foldl_toList] at T
 grind
variable{c:Call}{f:FuncId}{parts:List (Nat×Operand)}{d:Nat}{ch kmax:Nat->Nat}{o:Oper}{s:St}{hint:Tmp->Nat}{t:TypeId}{Q:aF}
section
variable{e e2:aw}
theorem Ng{x:Operand}(h:ev e x=ev e2 x):evc e x=evc e2 x:=by simp[evc,h]
theorem Ci: ∀ {l:List Operand},(∀x∈l,ev e x=ev e2 x)->evcs e l=evcs e2 l
 | [],_=>rfl
 |x::l,h=>by
  simp only[evcs];rw[Ng (h x (by simp)),Ci fun y g=>h y (by simp[g])]
def ND(place:Nat->Option (Nat×Nat)): ∀ {l:List (Nat×Operand)} (cs:List aa),(∀p∈l,ev e p.2=ev e2 p.2)->aZ place e cs l=aZ place e2 cs l
 | [],_,_=>rfl
 |(i,x)::l,cs,h=>by
  simp only[aZ];rw[Ng (h (i,x) (by simp))];have g:=fun cs=>ND place cs fun p q=>h p (List.mem_cons_of_mem _ q);simp only[g]
def Qr{x:Option Operand}(h: ∀y,x=some y->ev e y=ev e2 y):eV e x d=eV e2 x d:=by
 cases x with
 |none=>rfl
 |some y=>simp[eV,h y rfl]
theorem ahc(h: ∀p∈parts,ev e p.2=ev e2 p.2):tl P t parts e=tl P t parts e2:=by
 simp only[tl,ND _ _ h]
theorem ahd{g:Bool}(h: ∀p∈parts,ev e p.2=ev e2 p.2):
 bf P t n parts g e s=bf P t n parts g e2 s:=by
 simp only[bf,ND _ _ h]
theorem axs{x:aa}{lo hi g:Option Operand}(h1: ∀y,lo=some y->ev e y=ev e2 y)(q: ∀y,hi=some y->ev e y=ev e2 y)(p: ∀y,g=some y->ev e y=ev e2 y):jd P mk t x lo hi g e s=jd P mk t x lo hi g e2 s:=by
 simp only[jd,Qr h1,Qr q,Qr p]
theorem Uw{op:Op}{n2:Nat}{loc:Loc}(h: ∀x∈op.operands,ev e x=ev e2 x):
 lL P mk ch kmax hint dst op ⟨e,n,loc⟩ s=lL P mk ch kmax hint dst op ⟨e2,n2,loc⟩ s:=by
 cases op<;>simp only[Op.operands] at h<;>simp only[lL,JQ,JS,Dh,Di,JR,FZ,JV,JW,Dg,JU,JX,JT,vm,qZ,mM]
 case build t ps=>grind [ahc]
 case buildSlice t k ps=>grind [ahd]
 case makeFunc fn a b=>simp only[nC,Ci (l:=a.toList) fun x g=>h x (by simp_all),Ci (l:=b.toList) fun x g=>h x (by simp_all)]
 case makeMap t r=>
  cases r with
  |none=>simp[mJ]
  |some x=>simp[mJ,h x (by simp)]
 case slice t x lo hi mx=>
  grind [Ng,axs]
 case call c=>
  grind [Ci,Call.operands]
 all_goals grind [Bg,evc]
theorem Vm(h: ∀x∈c.operands,ev e x=ev e2 x):callee e c=callee e2 c:=by
 unfold callee;cases hc:c.callee with
 |builtin b=>rfl
 |invoke a b=>rfl
 |value f=>grind [Call.operands,Ci]
theorem XP(h: ∀x∈c.operands,ev e x=ev e2 x):oY e c=oY e2 c:=by
 grind [oY,Call.operands]
theorem aeO(h: ∀x∈c.operands,ev e x=ev e2 x):yieldee e c=yieldee e2 c:=by
 unfold yieldee;cases hc:c.callee with
 |builtin b=>rfl
 |invoke a b=>rfl
 |value f=>grind [Call.operands,Ci]
def avb{r:oG}{n2:Nat}{loc:Loc}(h: ∀x∈o.op.operands,ev e x=ev e2 x):
 eW Q r f o mk ⟨e,n,loc⟩ s=eW Q r f o mk ⟨e2,n2,loc⟩ s:=by
 unfold eW;split;rename_i c p;rw[p] at h;cases hb:c.callee with
 |builtin b=>
  have:=Uw (P:=Q.P) (mk:=mk) (ch:=Q.ch) (kmax:=Q.kmax) (hint:=Q.hint f) (dst:=o.dst) (op:=.call c) (n:=n) (n2:=n2) (loc:=loc) (s:=s) h;simpa only[lL] using this
 |value g=>simp only[pF,Vm h,sM,aeO h,XP h]
 |invoke a b=>simp only[pF,Vm h,sM,aeO h,XP h]
 exact Uw h
end
theorem FR(a b:Nat):bh a b=decide (a<b):=by
 show bu (a+1) b=_;rw[tW];rfl
def lH(l l2:Loc)(t:Nat):Prop:=l.gen t=l2.gen t/\ ∀g,l.get t g=l2.get t g
def lH.refl(l:Loc)(t:Nat):lH l l t:=⟨rfl,fun _=>rfl⟩
variable{l l2:Loc}
def lH.symm{t:Nat}(h:lH l l2 t):lH l2 l t:=⟨h.1.symm,fun g=>(h.2 g).symm⟩
theorem lH.set_same(t g:Nat)(cs:List aa):lH (l.set t g cs) (l2.set t g cs) t:=by
 constructor
 all_goals grind [Loc.gen_set,Loc.get_set]
variable{u:Nat}
theorem lH.set_other{t:Nat}(h:u≠t)(g:Nat)(cs:List aa):lH (l.set t g cs) l u:=by
 constructor
 all_goals grind [Loc.gen_set,Loc.get_set]
def rS(c:Nat)(F:cW)(m:aH):aH:=
 match F with
 | .all=>m
 | .obj n=>(0,n)::(n+1,c)::m
 |_=>(0,c)::m
variable{c:Nat}{m:aH}{F:cW}
theorem NL(h:dI (rS c F m) k=false):dI m k=false/\(F= .all\/F= .obj k\/c<=k):=by
 unfold rS at h
 grind [dI,tW,FR]
theorem NM(h:dI m k=true):dI (rS c F m) k=true:=by
 cases e:dI (rS c F m) k with
 |true=>rfl
 |false=>rw[(NL e).1] at h;cases h
theorem NN{o:aJ}(h:s.get m n=some o):s.get (rS c (.obj n) m) n=some o:=by
 grind [dI,rS,tW,FR,St.get]
def bQ(c:Nat)(F:cW)(q:Bool)(x:aH->Loc->Option (aa×Loc×St)):Prop:=
 ∀m loc v loc' s',x m loc=some (v,loc',s')-> ∀p,(∀t,F= .loc t->lH loc p t)->
  ∃g,x (rS c F m) p=some (v,g,s')/\(∀t,F= .loc t->lH loc' g t)/\(∀t,F≠ .loc t->lH loc' loc t/\lH g p t)/\(q=false->loc'=loc)
variable{st:Bool}
theorem bQ.plain{g:aH->Option (aa×St)}(z: ∀t,F≠ .loc t)(y: ∀m r,g m=some r->g (rS c F m)=some r):bQ c F st (fun m l=>f9 (g m) l):=by
 intro m loc v loc' s' h p _;simp only[f9,ak] at h;obtain⟨r,h1,h⟩:=h;simp only[aM,bC] at h;obtain⟨rfl,rfl,rfl⟩:=h;exact⟨p,by simp[f9,y m r h1],fun t q=>absurd q (z t),fun t _=>⟨.refl _ _,.refl _ _⟩,fun _=>rfl⟩
def bQ.value{g:aH->Option aa}(z: ∀t,F≠ .loc t)(y: ∀m r,g m=some r->g (rS c F m)=some r):bQ c F st (fun m l=>eX (g m) l s):=by
 intro m loc v loc' s' h p _;obtain⟨h1,rfl,rfl⟩:=ld h;exact⟨p,by simp[eX,y m v h1],fun t q=>absurd q (z t),fun t _=>⟨.refl _ _,.refl _ _⟩,fun _=>rfl⟩
def bQ.none:bQ c F st (fun _ _=>.none):=by intro m loc v loc' s' h;cases h
def bQ.bind(y:Option α){k:α->aH->Loc->Option (aa×Loc×St)}(g: ∀a,y=some a->bQ c F st (k a)):bQ c F st (fun m l=>y.bind fun a=>k a m l):=by
 cases y with
 |none=>intro m loc v loc' s' h;cases h
 |some a=>exact g a rfl
theorem bQ.gen{g:Loc->Option aa}(z: ∀l l2 r,(∀t,F= .loc t->lH l l2 t)->g l=some r->g l2=some r):bQ c F st (fun _ l=>eX (g l) l s):=by
 intro m loc v loc' s' h p q;obtain⟨h1,rfl,rfl⟩:=ld h;exact⟨p,by simp[eX,z loc' p v q h1],fun t y=>q t y,fun t _=>⟨.refl _ _,.refl _ _⟩,fun _=>rfl⟩
def bQ.box{cs:List aa}(z:st=true):bQ c (EK hint dst) st (fun _ l=>rQ (oX hint dst) dst cs l s):=by
 intro m loc v loc' s' h g q;unfold rQ at h ⊢;cases dst with
 |none=>
  simp only[oX] at h ⊢;simp only[show aK 0 1=false from rfl,cF,aM,bC] at h ⊢;obtain⟨rfl,rfl,rfl⟩:=h;exact⟨g,by simp,fun t y=>by simp[EK] at y,fun t _=>⟨.refl _ _,.refl _ _⟩,fun _=>rfl⟩
 |some t=>
  simp only[oX,EK] at h q ⊢;cases e:aK (hint t) 1 with
  |false=>
   simp only[e,cF,aM,bC] at h q ⊢;obtain⟨rfl,rfl,rfl⟩:=h;exact⟨g,⟨rfl,rfl,rfl⟩,fun t y=>(by cases y),fun t _=>⟨.refl _ _,.refl _ _⟩,fun _=>rfl⟩
  |true=>
   simp only[e,cT,bk,aM,bC] at h q ⊢;obtain⟨rfl,rfl,rfl⟩:=h;have q:=q t rfl;refine⟨g.set t (loc.gen t+1) cs,by simp[q.1],?_,?_,by simp[z]⟩;intro u p;injection p with p;subst p;exact .set_same _ _ _
   intro u p;have p:u≠t:=fun e=>p (by rw[e]);exact⟨.set_other p _ _,.set_other p _ _⟩
section
variable{P:Program}{ch:Nat->Nat}{kmax:Nat->Nat}{hint:Tmp->Nat}{dst:Option Tmp}{e:aw}{n c:Nat}{s:St}
def akF(t:TypeId)(a:Operand):bQ c (wF e a) false (fun m l=>Dh P m t a ⟨e,n,l⟩ s):=by
 unfold Dh wF;refine bQ.bind (ev e a) fun u p=>?_;simp only[p];cases u<;>try (exact bQ.none)
 case ptr k off=>
  simp_all [bQ.value,lS,ak,NN]
 case Gt k g off=>
  refine bQ.gen (g:=fun l=>lS P [] t (.Gt k g off) l s) fun l l2 r hl hr=>?_;simp only[lS] at hr ⊢;rw[<-(hl k rfl).2];exact hr
 simp_all [bQ.value,lS]
def akI(t:TypeId)(a x:Operand):bQ c (wF e a) true (fun m l=>Di P m t a x ⟨e,n,l⟩ s):=by
 unfold Di wF;refine bQ.bind (ev e a) fun u q=>bQ.bind (evc e x) fun v _=>?_;simp only[q,ub];cases hs:dh P t with
 |none=>exact bQ.none
 |some k=>
  simp only[bk];cases hc:aK v.cells.length k&&bh 0 k with
  |false=>exact bQ.none
  |true=>
   simp only[cT];cases u<;>try (exact bQ.none)
   case ptr j off=>
    intro m loc I loc' s' h p _;simp only[ak] at h ⊢;obtain⟨r,⟨ob,E,h1⟩,C⟩:=h;cases ob<;>simp only[ak] at h1<;>try (cases h1;done)
    rename_i cs;obtain⟨z,y,h1⟩:=h1;injection h1 with h1;subst h1
    simp only[aM,bC] at C;obtain⟨rfl,rfl,rfl⟩:=C;exact⟨p,⟨(p,_),⟨_,NN E,by simp only[y,bk];rfl⟩,rfl⟩,fun t O=>(by cases O),fun t _=>⟨.refl _ _,.refl _ _⟩,fun _=>rfl⟩
   case Gt j g off=>
    intro m loc I loc' s' h p hl;simp only[ak] at h ⊢;obtain⟨r,⟨cs,y,z,J,h1⟩,C⟩:=h;injection h1 with h1;subst h1
    simp only[aM,bC] at C;obtain⟨rfl,rfl,rfl⟩:=C;refine⟨p.set j g z,⟨(_,s),⟨cs,by rw[<-(hl j rfl).2];exact y,z,J,rfl⟩,rfl⟩,?_,?_,by simp⟩;intro u q;injection q with q;subst q;exact .set_same _ _ _
    intro u q;have q:u≠j:=fun e=>q (by rw[e]);exact⟨.set_other q _ _,.set_other q _ _⟩
def akG(x:Operand):bQ c (qL e x) false (fun _ l=>qZ x (w8 l) ⟨e,n,l⟩ s):=by
 unfold qZ qL;refine bQ.bind (ev e x) fun u p=>?_;simp only[p];refine bQ.gen (g:=fun l=>w8 l u) fun l l2 r hl hr=>?_;cases u
 case Gt=>
  simp only[w8] at hr ⊢;rw[<-(hl _ rfl).1];exact hr
 case func fn _ _=>cases fn<;>exact hr
 all_goals exact hr
def akD(t:TypeId)(x:Operand)(f:Nat):bQ c (qL e x) false (fun _ l=>qZ x (fun x=>tz P l t x f) ⟨e,n,l⟩ s):=by
 unfold qZ qL;refine bQ.bind (ev e x) fun u p=>?_;simp only[p];refine bQ.gen (g:=fun l=>tz P l t u f) fun l l2 r hl hr=>?_;cases u<;>try exact hr
 simp only[tz] at hr ⊢;rw[<-(hl _ rfl).1];exact hr
def akE(t:TypeId)(x i:Operand):bQ c (qL e x) false (fun _ l=>Dg P t x i ⟨e,n,l⟩ s):=by
 unfold Dg qL;refine bQ.bind (ev e x) fun u p=>?_;simp only[p];refine bQ.bind (ev e i) fun j _=>?_;refine bQ.gen (g:=fun l=>gS P l t u j) fun l l2 r hl hr=>?_;cases u<;>try exact hr
 simp only[gS] at hr ⊢;rw[<-(hl _ rfl).1];exact hr
theorem axt{q:aH}{x:aa}{lo hi p:Option Operand}{r:aa}(C: ∀k g,x= .ptr k g-> ∀o,s.get m k=some o->s.get q k=some o)(h:jd P m t x lo hi p e s=some r):
 jd P q t x lo hi p e s=some r:=by
 simp only[jd,ak] at h ⊢;obtain⟨d,z,h⟩:=h;refine⟨d,z,?_⟩;split at h;exact h;exact h;simp only[ak] at h ⊢;obtain⟨k,y,h⟩:=h;refine⟨k,y,?_⟩;split at h;simp only[ak] at h ⊢
 grind
 cases h;cases h
theorem akH(t:TypeId)(x:Operand)(lo hi q:Option Operand):bQ c (bD hint dst e (.slice t x lo hi q)) false (fun m l=>mM x (fun x=>jd P m t x lo hi q e s) ⟨e,n,l⟩ s):=by
 unfold mM;refine bQ.bind (evc e x) fun u p=>?_;have p:ev e x=some u:=by
  simp only[evc,ak] at p;obtain⟨y,z,p⟩:=p;rw[z,(bc p).2]
 simp only[bD,p];refine bQ.value (g:=fun m=>jd P m t u lo hi q e s) ?_ fun m r hr=>?_
 all_goals grind [axt,NN]
def bQ.state{g:aH->Option St}(z: ∀t,F≠ .loc t)(y: ∀m r,g m=some r->g (rS c F m)=some r):bQ c F st (fun m l=>nN (g m) l):=by
 intro m loc v loc' s' h p _;simp only[nN,ak] at h;obtain⟨r,h1,h⟩:=h;simp only[aM,bC] at h;obtain⟨rfl,rfl,rfl⟩:=h;exact⟨p,by simp[nN,y m r h1],fun t q=>absurd q (z t),fun t _=>⟨.refl _ _,.refl _ _⟩,fun _=>rfl⟩
def qu{g:aH->Option α}(m:aH)(r:α)(h:g m=some r):g (rS c .all m)=some r:=h
theorem WI(E:Call):bQ c (bD hint dst e (.call E)) false (fun m l=>vm P m hint dst E ⟨e,n,l⟩ s):=by
 obtain⟨callee,args,O⟩:=E;unfold vm;cases callee with
 |value f=>exact bQ.none
 |invoke a b=>exact bQ.none
 |builtin b=>
  refine bQ.bind (evcs e args.toList) fun vs p=>?_;cases b
  case min=>exact bQ.plain (g:=fun m=>jg P m .min _ _ vs s) (by simp[bD]) fun m r hr=>by cases vs<;>exact hr
  case max=>exact bQ.plain (g:=fun m=>jg P m .max _ _ vs s) (by simp[bD]) fun m r hr=>by cases vs<;>exact hr
  case len=>
   refine bQ.plain (g:=fun m=>jg P m .len _ _ vs s) ?_ fun m r hr=>?_
   grind [bD]
   simp only[jg] at hr ⊢;split at hr<;>try grind
   simp only[ak] at hr ⊢;obtain⟨v,z,hr⟩:=hr;refine⟨v,?_,hr⟩;obtain⟨args⟩:=args;simp only at p;cases args with
   |nil=>simp[evcs] at p
   |cons R l=>
    simp only[evcs,ak] at p;obtain⟨u,q,T,_,p⟩:=p;injection p with p
    injection p with C J
    subst C;have q:ev e R=some u:=by
     simp only[evc,ak] at q;obtain⟨y,I,q⟩:=q;rw[I,(bc q).2]
    simp only[iM,bD,List.getElem?_toArray,List.getElem?_cons_zero,q] at z ⊢;generalize P.underlying _=ud at z ⊢;cases ud with
    |none=>exact z
    |some d=>
     simp only[bk] at z ⊢;cases u<;>cases d<;>exact z
  all_goals exact bQ.plain (g:=fun m=>jg P m _ _ _ vs s) (by simp[bD]) qu
def akC(op:Op):bQ c (bD hint dst e op) (isStore op) (fun m l=>lL P m ch kmax hint dst op ⟨e,n,l⟩ s):=by
 cases op<;>simp only[lL]
 case load t a=>exact akF t a
 case store t a x=>exact akI t a x
 case nilCheck x=>exact akG x
 case fieldAddr t x f=>exact akD t x f
 case indexAddr t x i=>exact akE t x i
 case slice t x lo hi mx=>exact akH t x lo hi mx
 case call cl=>exact WI cl
 case alloc t=>exact bQ.bind (ei P t) fun z _=>bQ.box (cs:=z.cells) rfl
 case box t x=>exact bQ.bind (evc e x) fun z _=>bQ.box (cs:=z.cells) rfl
 case move x=>simp_all [bQ.value,bD]
 case assign x=>simp_all [bQ.value,bD]
 case pick a b d=>simp_all [bQ.value,bD]
 case build t ps=>simp_all [bQ.value,bD]
 case buildSlice t k ps=>simp_all [bQ.plain,bD]
 case binOp o t x y yt=>exact bQ.bind (evc e x) fun u _=>bQ.bind (evc e y) fun v _=>bQ.value (g:=fun _=>dz P o t u v) (by simp[bD]) fun _ _ h=>h
 case unOp o t x=>exact bQ.bind (evc e x) fun u _=>bQ.value (g:=fun _=>Bx o u) (by simp[bD]) fun _ _ h=>h
 case convert a b x=>exact bQ.bind (evc e x) fun u _=>bQ.value (g:=fun _=>uM P a b u) (by simp[bD]) fun _ _ h=>h
 case makeFunc f a b=>simp_all [bQ.value,bD]
 case makeMap t r=>simp_all [bQ.plain,bD]
 case makeSlice t a b=>exact bQ.bind (ev e a) fun u _=>bQ.bind (ev e b) fun v _=>bQ.plain (g:=fun _=>og P t u v _ s) (by simp[bD]) fun _ _ h=>h
 case field t x f=>exact bQ.bind (evc e x) fun u _=>bQ.value (g:=fun _=>wD P t u f) (by simp[bD]) fun _ _ h=>h
 case index t x i=>exact bQ.bind (evc e x) fun u _=>bQ.bind (ev e i) fun v _=>bQ.value (g:=fun _=>AO P t u v) (by simp[bD]) fun _ _ h=>h
 case extract x i=>exact bQ.bind (ev e x) fun u _=>bQ.value (g:=fun _=>eA i u) (by simp[bD]) fun _ _ h=>h
 case lookup t x i ok=>exact bQ.bind (evc e x) fun u _=>bQ.bind (evc e i) fun v _=>bQ.value (g:=fun m=>oe P m t u v ok s) (by simp[bD]) qu
 case mapEntry t x i=>exact bQ.bind (evc e x) fun u _=>bQ.bind (evc e i) fun v _=>bQ.plain (g:=fun m=>sj P m t u v s) (by simp[bD]) qu
 case range t x=>exact bQ.bind (evc e x) fun u _=>bQ.plain (g:=fun m=>t6 P m t u s) (by simp[bD]) qu
 case next x b=>exact bQ.bind (evc e x) fun u _=>bQ.plain (g:=fun m=>o6 m ch kmax u b s) (by simp[bD]) qu
 case entry x=>exact bQ.bind (evc e x) fun u _=>bQ.value (g:=fun m=>wy m u s) (by simp[bD]) qu
 case mapUpdate t a b d=>exact bQ.bind (evc e a) fun u _=>bQ.bind (evc e b) fun v _=>bQ.bind (evc e d) fun x _=>bQ.state (g:=fun m=>rz P m t u v x s) (by simp[bD]) qu
 case insert t a b d=>exact bQ.bind (evc e a) fun u _=>bQ.bind (evc e b) fun v _=>bQ.bind (evc e d) fun x _=>bQ.state (g:=fun m=>rz P m t u v x s) (by simp[bD]) qu
 case entryStore t a b d=>exact bQ.bind (evc e a) fun u _=>bQ.bind (evc e b) fun v _=>bQ.bind (evc e d) fun x _=>bQ.state (g:=fun m=>uQ m u v x s) (by simp[bD]) qu
 all_goals exact bQ.none
def NP{r:oG}:bQ c (bD (Q.hint f) o.dst e o.op) (isStore o.op) (fun m l=>eW Q r f o m ⟨e,n,l⟩ s):=by
 unfold eW;cases ho:o.op<;>simp only<;>try exact akC _
 rename_i p;cases hc:p.callee with
 |builtin b=>exact WI p
 |value g=>
  obtain⟨callee,args,q⟩:=p;simp only at hc;subst hc;simp only;generalize hy:oY e _=y;cases y with
  |true=>
   simp only[cT];refine bQ.bind (Ag.yieldee e _) fun g _=>?_;exact bQ.plain (g:=fun m=>mX r g.1 g.2 m s) (by simp[bD]) qu
  |false=>
   simp only[cF];refine bQ.bind (Ag.callee e _) fun g _=>?_;exact bQ.plain (g:=fun m=>r.call g.1 g.2 m s) (by simp[bD]) qu
 |invoke a b=>
  obtain⟨callee,args,q⟩:=p;simp only at hc;subst hc;simp only;generalize hy:oY e _=y;cases y with
  |true=>
   simp only[cT];refine bQ.bind (Ag.yieldee e _) fun g _=>?_;exact bQ.plain (g:=fun m=>mX r g.1 g.2 m s) (by simp[bD]) qu
  |false=>
   simp only[cF];refine bQ.bind (Ag.callee e _) fun g _=>?_;exact bQ.plain (g:=fun m=>r.call g.1 g.2 m s) (by simp[bD]) qu
end
def G8(bi:Nat)(r:eZ)(foot:cW)(loud:Bool)(m:aH):Prop:=
 bi.testBit r.i=true\/(((loud||r.loud)&&foot.meets r.foot)=false/\ ∀n,r.c0<=n->n<r.c1->dI m n=true)
theorem aay{bi:Nat}{mk:aH}: ∀ {rs:List eZ} {r:eZ},r∈rs->bi.testBit r.i=false-> ∀n,r.c0<=n->n<r.c1->dI (iO bi rs mk) n=true
 | [],_,h,_,_,_,_=>by cases h
 |q::rs,r,h,hb,n,h0,h1=>by
  unfold iO;rcases List.mem_cons.1 h with rfl|h
  grind [fo,dI,tW,FR]
  have g:=aay (mk:=mk) h hb n h0 h1
  grind [dI]
theorem akv{foot:cW}{loud:Bool}(h:pJ bi foot loud rs=true){r:eZ}(hr:r∈rs):G8 bi r foot loud (iO bi rs mk):=by
 have:=fD.1 h r hr;cases hb:bi.testBit r.i with
 |true=>exact .inl hb
 |false=>
  refine .inr ⟨?_,aay hr hb⟩
  grind
section
variable(Q:aF)(f:FuncId)(all:Array Oper)(mk:aH)(F:Nat->Fr)(S:Nat->St)(M:Nat->aH)(lv:Nat->Nat)(Lo:Nat->Bool)
def Hg(k:Nat)(o:Oper):Prop:=
 (eP all (F k).env o=true/\ ∃v loc' s1,eW Q (ce Q (lv k)) f o (M k) (F k) ⟨(S k).heap,(S k).aL,(S k).aL,(S k).ci⟩=some (v,loc',s1)/\s1.ci=(S k).ci/\
  cR (F k) o.dst v loc'=some (F (k+1))/\S (k+1)=(S k).GE s1/\Lo k=(bh s1.gE (S k).aL||isStore o.op))\/
 (eP all (F k).env o=false/\cR (F k) o.dst fL (F k).loc=some (F (k+1))/\S (k+1)=S k)
structure Eg (i:Nat) (rs:List eZ) (bs:List Nat) (l:List Oper):Prop where
 step: ∀k o,l[k]? =some o->Hg Q f all F S M lv Lo (i+k) o
 more: ∀k o,l[k]? =some o-> ∀n,dI mk n=true->dI (M (i+k)) n=true
 old: ∀k o,l[k]? =some o->eP all (F (i+k)).env o=true-> ∀r∈rs,G8 ((bs[k]?).getD 0) r (bD (Q.hint f) o.dst (F (i+k)).env o.op) (Lo (i+k)) (M (i+k))
 pair: ∀k k' o o',k'<k->l[k]? =some o->l[k']? =some o'->eP all (F (i+k)).env o=true->eP all (F (i+k')).env o'=true->
  G8 ((bs[k]?).getD 0) ⟨i+k',(S (i+k')).aL,(S (i+k'+1)).aL,bD (Q.hint f) o'.dst (F (i+k')).env o'.op,Lo (i+k')⟩ (bD (Q.hint f) o.dst (F (i+k)).env o.op) (Lo (i+k)) (M (i+k))
end
theorem Xd(bs:List Nat):(bs[0]?).getD 0=bs.headD 0:=by cases bs<;>rfl
def Ss(bs:List Nat)(k:Nat):bs.tail[k]? =bs[k+1]? :=by cases bs<;>simp
def uS(i:Nat)(a:α)(F:Nat->α): ∃g:Nat->α,g i=a/\ ∀k,g (i+1+k)=F (i+1+k):=
 ⟨fun k=>if k=i then a else F k,by simp,fun k=>by simp only;rw[iN (by omega)]⟩
variable{bs:List Nat}{Lo:Nat->Bool}{F:Nat->Fr}{lv:Nat->Nat}{S:Nat->St}{M:Nat->aH}
theorem Eg.cons{all:Array Oper}{E:Nat->Fr}{J:Nat->St}{O:Nat->aH}{z:Nat->Nat}{g:Nat->Bool}{y:List eZ}{l:List Oper}(t:Eg Q f all mk F S M lv Lo (i+1) y bs.tail l)(I: ∀k,E (i+1+k)=F (i+1+k))(hS: ∀k,J (i+1+k)=S (i+1+k))(hM: ∀k,O (i+1+k)=M (i+1+k))(V: ∀k,z (i+1+k)=lv (i+1+k))(q: ∀k,g (i+1+k)=Lo (i+1+k))(R:Hg Q f all E J O z g i o)(U: ∀n,dI mk n=true->dI (O i) n=true)(Y:eP all (E i).env o=true-> ∀r∈rs,G8 (bs.headD 0) r (bD (Q.hint f) o.dst (E i).env o.op) (g i) (O i))(T: ∀r∈rs,r∈y)(hr:eP all (E i).env o=true->⟨i,(J i).aL,(J (i+1)).aL,bD (Q.hint f) o.dst (E i).env o.op,g i⟩∈y):Eg Q f all mk E J O z g i rs bs (o::l) where
 step k p hk:=by
  cases k with
  |zero=>simp at hk;subst hk;exact R
  |succ k=>
   have:=t.step k p (by simpa using hk);unfold Hg at this ⊢;rw[show i+(k+1)=i+1+k by omega,show i+1+k+1=i+1+(k+1) by omega,I,I,hS,hS,hM,V,q];exact this
 more k p hk n hn:=by
  cases k with
  |zero=>exact U n hn
  |succ k=>rw[show i+(k+1)=i+1+k by omega,hM];exact t.more k p (by simpa using hk) n hn
 old k p hk hw r hr:=by
  cases k with
  |zero=>grind [Xd]
  |succ k=>
   rw[show i+(k+1)=i+1+k by omega] at hw ⊢;rw[I] at hw ⊢;rw[hM,q,<-Ss];exact t.old k p (by simpa using hk) hw r (T r hr)
 pair k C p p' hlt hk hk' hw hw':=by
  cases k with
  |zero=>omega
  |succ k=>
   rw[show i+(k+1)=i+1+k by omega] at hw ⊢;rw[I] at hw ⊢;rw[hM,q,<-Ss];cases C with
   |zero=>
    simp at hk';subst hk';exact t.old k p (by simpa using hk) hw _ (hr hw')
   |succ C=>
    rw[show i+(C+1)=i+1+C by omega] at hw' ⊢;rw[I] at hw' ⊢;rw[q,show i+1+C+1=i+1+(C+1) by omega,hS,hS];exact t.pair k C p p' (by omega) (by simpa using hk) (by simpa using hk') hw hw'
theorem M8{Q:aF}{f:FuncId}{all:Array Oper}{mk:aH}: ∀ {l:List Oper} {n:Nat} {bs:List Nat} {rs:List eZ} {i:Nat} {fr fr':Fr} {s s':St},
 (ce Q n).draw f all bs mk rs i l fr s=some (fr',s')->
 ∃F S M lv Lo,F i=fr/\S i=s/\F (i+l.length)=fr'/\S (i+l.length)=s'/\(∀k o,l[k]? =some o->lv (i+k)<n)/\Eg Q f all mk F S M lv Lo i rs bs l
 |l,0,bs,rs,i,fr,fr',s,s',h=>by cases h
 | [],n+1,bs,rs,i,fr,fr',s,s',h=>by
   have h:some (fr,s)=some (fr',s'):=h;simp only[aM,bC] at h;obtain⟨rfl,rfl⟩:=h;exact⟨fun _=>fr,fun _=>s,fun _=>mk,fun _=>0,fun _=>false,rfl,rfl,rfl,rfl,by simp,⟨by simp,by simp,by simp,by simp⟩⟩
 |o::l,n+1,bs,rs,i,fr,fr',s,s',h=>by
  have h:my Q (ce Q n) f all bs mk rs i (o::l) fr s=some (fr',s'):=h;simp only[my] at h;cases hw:eP all fr.env o with
  |true=>
   simp only[hw,cT,ak] at h;obtain⟨⟨v,loc',s1⟩,h1,h⟩:=h;obtain⟨hc,h⟩:=bc h;simp only[ak] at h;obtain⟨fr1,hf,h⟩:=h;simp only[bq] at hc;obtain⟨a0,C⟩:=hc;have C:=fo C;obtain⟨F,S,M,lv,Lo,Z,e2,e3,e4,V,t⟩:=M8 h;obtain⟨T,z,R⟩:=uS i fr F;obtain⟨J,I,E⟩:=uS i s S;obtain⟨M',M0,M1⟩:=uS i (iO (bs.headD 0) rs mk) M;obtain⟨p,U,g⟩:=uS i n lv;obtain⟨y,O,q⟩:=uS i (bh s1.gE s.aL||isStore o.op) Lo;have eF:T (i+1)=fr1:=(R 0).trans Z;have Y:J (i+1)=s.GE s1:=(E 0).trans e2;refine⟨T,J,M',p,y,z,I,?_,?_,?_,t.cons R E M1 g q ?_ ?_ ?_ ?_ ?_⟩
   grind
   grind
   grind
   ·refine .inl ⟨by rw[z];exact hw,v,loc',s1,?_,?_,?_,?_,?_⟩
    all_goals grind
   grind [Xe]
   grind [akv]
   grind
   intro _;rw[I,Y,z,O];exact List.mem_cons_self
  |false=>
   simp only[hw,cF,ak] at h;obtain⟨fr1,hf,h⟩:=h;obtain⟨F,S,M,lv,Lo,Z,e2,e3,e4,V,t⟩:=M8 h;obtain⟨T,z,R⟩:=uS i fr F;obtain⟨J,I,E⟩:=uS i s S;obtain⟨M',M0,M1⟩:=uS i mk M;obtain⟨p,U,g⟩:=uS i n lv;obtain⟨y,O,q⟩:=uS i false Lo;have eF:T (i+1)=fr1:=(R 0).trans Z;have Y:J (i+1)=s:=(E 0).trans e2;refine⟨T,J,M',p,y,z,I,?_,?_,?_,t.cons R E M1 g q ?_ ?_ ?_ ?_ ?_⟩
   grind
   grind
   grind
   exact .inr ⟨by rw[z];exact hw,by rw[z,eF];exact hf,by rw[I,Y]⟩
   all_goals grind
theorem Uy{ops:Array Oper}: ∀ {l:List Oper} {bs:List Nat} {b:Nat},nW ops b l bs=true-> ∀i j x y,i<j->l[i]? =some x->l[j]? =some y->((bs[j]?).getD 0).testBit (b+i)=true\/ED ops x y=true
 | [],_,_,_,i,j,x,y,_,hx,_=>by simp at hx
 |o::l,bs,b,h,i,j,x,y,hlt,hx,g=>by
  simp only[nW,bq] at h;obtain⟨_,h1,q⟩:=h;cases j with
  |zero=>omega
  |succ j=>
   rw[<-Ss];cases i with
   |succ i=>
    have:=Uy q i j x y (by omega) (by simpa using hx) (by simpa using g)
    grind
   |zero=>
    simp at hx;subst hx;have p: ∀ {l:List Oper} {bs:List Nat},Hk ops o b l bs=true-> ∀(j:Nat) y,l[j]? =some y->((bs[j]?).getD 0).testBit b=true\/ED ops o y=true:=by
     intro l
     induction l with
     |nil=>intro bs _ j y g;simp at g
     |cons z l C=>
      grind [Hk,Xd]
    exact p h1 j y (by simpa using g)
def Ux{ops:Array Oper}: ∀ {l:List Oper} {bs:List Nat} {b:Nat},nW ops b l bs=true-> ∀i x,l[i]? =some x-> ∀e∈x.after,Region.binds .any e=true->e.on<b+i
 | [],_,_,_,i,x,hx,_,_,_=>by simp at hx
 |o::l,bs,b,h,i,x,hx,e,he,hb=>by
  simp only[nW,bq] at h;obtain⟨h0,_,g⟩:=h;cases i with
  |zero=>
   simp at hx;subst hx
   have:=fD.1 h0 e (Array.mem_toList_iff.2 he)
   simp_all
  |succ i=>
   have:=Ux g i x (by simpa using hx) e he hb;omega
structure aO (Q:aF) (f:FuncId) (all:Array Oper) (mk:aH) (F:Nat->Fr) (S:Nat->St) (M:Nat->aH) (lv:Nat->Nat) (Lo:Nat->Bool):Prop where
 tr:Eg Q f all mk F S M lv Lo 0 [] (Region.before all).toList all.toList
 ap:nW all 0 all.toList (Region.before all).toList=true
 fresh: ∀n,(S 0).aL<=n->(S 0).heap.get n=none
variable{H:Nat->Option aJ}
section
variable{Q:aF}{f:FuncId}{all:Array Oper}{mk:aH}{F:Nat->Fr}{S:Nat->St}{M:Nat->aH}{lv:Nat->Nat}{Lo:Nat->Bool}
noncomputable def aO.foot(Q:aF)(f:FuncId)(F:Nat->Fr)(k:Nat)(o:Oper):cW:=bD (Q.hint f) o.dst (F k).env o.op
noncomputable def aO.fm(Q:aF)(f:FuncId)(F:Nat->Fr)(S:Nat->St)(M:Nat->aH)(k:Nat)(o:Oper):aH:=rS (S k).aL (aO.foot Q f F k o) (M k)
def aO.step(t:aO Q f all mk F S M lv Lo)(g:all[k]? =some o):Hg Q f all F S M lv Lo k o:=by
 have:=t.tr.step k o (by simpa using g);rwa [eM] at this
def aO.done(t:aO Q f all mk F S M lv Lo)(q:all[k]? =some o)(p:eP all (F k).env o=true):
 ∃v loc' s1,eW Q (ce Q (lv k)) f o (M k) (F k) ⟨(S k).heap,(S k).aL,(S k).aL,(S k).ci⟩=some (v,loc',s1)/\s1.ci=(S k).ci/\
  cR (F k) o.dst v loc'=some (F (k+1))/\S (k+1)=(S k).GE s1/\Lo k=(bh s1.gE (S k).aL||isStore o.op)/\
  fG (aO.fm Q f F S M k o) ⟨(S k).heap,(S k).aL,(S k).aL,(S k).ci⟩ s1:=by
 rcases t.step q with⟨_,v,loc',s1,h1,I,E,C,z⟩|⟨h,_⟩
 refine⟨v,loc',s1,h1,I,E,C,z,?_⟩;obtain⟨g,y,_⟩:=NP (c:=(S k).aL) (e:=(F k).env) (n:=(F k).size) (M k) (F k).loc v loc' s1 h1 (F k).loc (fun _ _=>.refl _ _);have hl:=FF (Q:=Q) (lU Q (lv k)) f o (aO.fm Q f F S M k o) (F k);exact(hl Q.ch _ v g s1 y).1;rw[p] at h;cases h
theorem aO.next_le(t:aO Q f all mk F S M lv Lo)(p:all[k]? =some o):(S k).aL<=(S (k+1)).aL:=by
 cases hw:eP all (F k).env o with
 |true=>
  obtain⟨v,loc',s1,_,_,_,q,_,g⟩:=t.done p hw;rw[q];exact g.aL
 |false=>
  rcases t.step p with⟨h,_⟩|⟨_,_,h⟩
  all_goals grind
theorem aO.mono(t:aO Q f all mk F S M lv Lo): ∀ {j:Nat},i<=j->j<=all.size->(S i).aL<=(S j).aL
 |0,h,_=>by grind
 |j+1,h,hj=>by
  by_cases e:i=j+1;rw[e];exact bj _;exact eL (t.mono (by omega) (by omega)) (t.next_le (sO (by omega)))
theorem aO.none_above(t:aO Q f all mk F S M lv Lo): ∀ {k:Nat},k<=all.size-> ∀n,(S k).aL<=n->(S k).heap.get n=none
 |0,_,n,h=>t.fresh n h
 |k+1,hk,n,h=>by
  have p:all[k]? =some all[k]:=sO (by omega);have y:=t.next_le p;have q:=t.none_above (k:=k) (by omega) n (by omega);cases hw:eP all (F k).env all[k] with
  |true=>
   obtain⟨v,loc',s1,_,_,_,z,_,g⟩:=t.done p hw;rw[z] at h ⊢;refine(g.frame n ?_).trans q;rintro(⟨_,h'⟩|h');exact h' q;exact absurd h (by have:=h'.2;show¬s1.aL<=n;omega)
  |false=>
   rcases t.step p with⟨h',_⟩|⟨_,_,h'⟩
   all_goals grind
def aO.Th(Q:aF)(f:FuncId)(all:Array Oper)(F:Nat->Fr)(S:Nat->St)(M:Nat->aH)(k n:Nat):Prop:=
 ∃o,all[k]? =some o/\eP all (F k).env o=true/\nh (aO.fm Q f F S M k o) (S k) (S (k+1)) n
open Classical in
noncomputable def aO.X(Q:aF)(f:FuncId)(all:Array Oper)(F:Nat->Fr)(S:Nat->St)(M:Nat->aH)(H:Nat->Option aJ)(n:Nat):Nat->Option aJ
 |0=>H n
 |k+1=>if aO.Th Q f all F S M k n then(S (k+1)).heap.get n else aO.X Q f all F S M H n k
theorem aO.X_change(h:aO.X Q f all F S M H n (k+1)≠aO.X Q f all F S M H n k):aO.Th Q f all F S M k n:=by
 grind [aO.X]
theorem aO.X_sees(t:aO Q f all mk F S M lv Lo)(h0: ∀n o,dI mk n=false->(S 0).heap.get n=some o->H n=some o):
 ∀ {k:Nat},k<=all.size-> ∀n o,dI mk n=false->(S k).heap.get n=some o->aO.X Q f all F S M H n k=some o
 |0,_,n,o,hn,h=>h0 n o hn h
 |k+1,hk,n,o,hn,h=>by
  have p:all[k]? =some all[k]:=sO (by omega);rw[aO.X];split;exact h
  ·rename_i z
   refine t.X_sees h0 (by omega) n o hn ?_;cases hw:eP all (F k).env all[k] with
   |true=>
    obtain⟨v,loc',s1,_,_,_,q,_,g⟩:=t.done p hw;rw[q] at h;refine(g.frame n fun y=>z ⟨_,p,hw,?_⟩).symm.trans h;rw[q];exact y
   |false=>
    rcases t.step p with⟨h',_⟩|⟨_,_,h'⟩
    all_goals grind
end
def sZ(all:Array Oper)(i j:Nat):Prop:=(((Region.before all).toList[j]?).getD 0).testBit i=true
theorem sZ.dep{all:Array Oper}(h:sZ all i j):pz all i j:=by
 grind [sZ,agN]
section
variable{Q:aF}{f:FuncId}{all:Array Oper}{mk:aH}{F:Nat->Fr}{S:Nat->St}{M:Nat->aH}{lv:Nat->Nat}{Lo:Nat->Bool}
def aO.compat(t:aO Q f all mk F S M lv Lo){p g:Oper}(q:i<j)(hi:all[i]? =some p)(E:all[j]? =some g)(z:eP all (F i).env p=true)(y:eP all (F j).env g=true)(C: ¬sZ all i j):((Lo j||Lo i)&&(aO.foot Q f F j g).meets (aO.foot Q f F i p))=false/\ ∀n,(S i).aL<=n->n<(S (i+1)).aL->dI (M j) n=true:=by
 have:=t.tr.pair j i g p q (by simpa using E) (by simpa using hi) (by rw[eM];exact y) (by rw[eM];exact z);simp only[eM] at this;exact this.resolve_left C
def aO.lt_size(h:all[i]? =some o):i<all.size:=(Array.getElem?_eq_some_iff.1 h).1
theorem aO.loud(t:aO Q f all mk F S M lv Lo)(h0: ∀n o,dI mk n=false->(S 0).heap.get n=some o->H n=some o)(hi:all[i]? =some o)(w:eP all (F i).env o=true)(q:aO.X Q f all F S M H n (i+1)≠aO.X Q f all F S M H n i)(J:dI (aO.fm Q f F S M i o) n=false)(y:(S i).heap.get n≠none):Lo i=true:=by
 have E:=aO.X_change q;have p:n<(S i).aL:=by
  rcases pq n (S i).aL with h|h
  exact h;exact absurd (t.none_above (zZ (aO.lt_size hi)) n h) y
 obtain⟨v,loc',s1,_,_,_,I,O,g⟩:=t.done hi w;have z:dI mk n=false:=by
  cases e:dI mk n with
  |false=>rfl
  |true=>
   have:=t.tr.more i o (by simpa using hi) n e
   grind [aO.fm,NM]
 cases ho:(S i).heap.get n with
 |none=>exact absurd ho y
 |some ob=>
  have C:=t.X_sees h0 (zZ (aO.lt_size hi)) n ob z ho;rw[aO.X,iP E,C,<-ho,I] at q
  have:=g.noted n p q
  grind [FR]
def asT{F1 g:cW}(h1:F1= .all\/F1= .obj n)(p:g= .all\/g= .obj n):F1.meets g=true:=by
 rcases h1 with rfl|rfl<;>rcases p with rfl|rfl<;>simp[cW.meets]
theorem aO.heap_apart(t:aO Q f all mk F S M lv Lo)(h0: ∀n o,dI mk n=false->(S 0).heap.get n=some o->H n=some o)(E:i<j)(hj:j<all.size)(hn: ¬sZ all i j):
 (aO.Th Q f all F S M j n->aO.X Q f all F S M H n (i+1)=aO.X Q f all F S M H n i)/\
 (aO.Th Q f all F S M i n->aO.X Q f all F S M H n (j+1)=aO.X Q f all F S M H n j):=by
 have Z:aO.Th Q f all F S M i n->aO.Th Q f all F S M j n->
  (aO.X Q f all F S M H n (i+1)≠aO.X Q f all F S M H n i\/aO.X Q f all F S M H n (j+1)≠aO.X Q f all F S M H n j)->False:=by
  rintro⟨T,hi,O,Y⟩ ⟨R,q,J,Tj⟩ I;obtain⟨y,c2⟩:=t.compat E hi q O J hn;have a1:(S (i+1)).aL<=(S j).aL:=t.mono (by omega) (by omega);have V:=t.next_le hi;have g:dI (aO.fm Q f F S M j R) n=false/\(S j).heap.get n≠none:=by
   rcases Tj with h|h
   exact h;exfalso;rcases Y with⟨_,hp⟩|h'
   exact hp (t.none_above (by omega) n (by omega));omega
  have z:=NL g.1;have a0:n<(S j).aL:=by
   rcases pq n (S j).aL with h|h
   exact h;exact absurd (t.none_above (by omega) n h) g.2
  have p:dI (aO.fm Q f F S M i T) n=false/\(S i).heap.get n≠none:=by
   rcases Y with h|h
   exact h
   grind
  have C:=NL p.1;have U:n<(S i).aL:=by
   rcases pq n (S i).aL with h|h
   exact h;exact absurd (t.none_above (by omega) n h) p.2
  have hm:(aO.foot Q f F j R).meets (aO.foot Q f F i T)=true:=
   asT (z.2.imp id fun h=>h.resolve_right (by omega)) (C.2.imp id fun h=>h.resolve_right (by omega))
  rw[hm,Bool.and_true] at y;rcases I with h|h
  rw[t.loud h0 hi O h p.1 p.2] at y;simp at y;rw[t.loud h0 q J h g.1 g.2] at y;simp at y
 grind [aO.X_change]
end
variable{fr:Fr}{v:aa}
theorem t5(h:cR fr dst v l=some fr'):
 fr'.size=fr.size/\fr'.loc=l/\(∀d,dst=some d->d<fr.size/\ac fr'.env d=v)/\ ∀t,dst≠some t->ac fr'.env t=ac fr.env t:=by
 unfold cR at h
 grind [qB,ac,QV,aD.get_set]
theorem ai7{x y:Oper}(h:ED ops x y=true):(∀d,x.dst=some d->d ∉ A0 ops y/\y.dst≠some d)/\ ∀d,y.dst=some d->d ∉ A0 ops x:=by
 simp only[ED,bq] at h;have g: ∀(d:Nat) (l:List Nat),l.any (aK d)=false->d ∉ l:=by
  intro d l hl p;rw[List.any_eq_false] at hl;exact hl d p (by simp)
 obtain⟨h1,q⟩:=h;refine⟨fun d p=>?_,fun d p=>?_⟩;rw[p] at h1;simp only[bq,Bool.not_eq_true'] at h1;refine⟨g d _ h1.1,fun e=>?_⟩
 simp_all
 grind
section
variable{Q:aF}{f:FuncId}{all:Array Oper}{mk:aH}{F:Nat->Fr}{S:Nat->St}{M:Nat->aH}{lv:Nat->Nat}{Lo:Nat->Bool}
def aO.Te(all:Array Oper)(k t:Nat):Prop:= ∃o,all[k]? =some o/\(t∈A0 all o\/o.dst=some t)
theorem aO.put(t:aO Q f all mk F S M lv Lo)(g:all[k]? =some o): ∃v l,cR (F k) o.dst v l=some (F (k+1)):=by
 rcases t.step g with⟨_,v,loc',s1,_,_,p,_⟩|⟨_,h,_⟩
 all_goals grind
def aO.env_change(t:aO Q f all mk F S M lv Lo)(p:all[k]? =some o)(h:ac (F (k+1)).env d≠ac (F k).env d):o.dst=some d:=by
 obtain⟨v,l,g⟩:=t.put p;by_cases e:o.dst=some d;exact e;exact absurd ((t5 g).2.2.2 d e) h
def aO.size_eq(t:aO Q f all mk F S M lv Lo): ∀ {k:Nat},k<=all.size->(F k).size=(F 0).size
 |0,_=>rfl
 |k+1,h=>by
  obtain⟨v,l,g⟩:=t.put (sO (show k<all.size by omega));rw[(t5 g).1];exact t.size_eq (by omega)
theorem aO.env_apart(t:aO Q f all mk F S M lv Lo)(z:i<j)(J:j<all.size)(I: ¬sZ all i j):
 (aO.Te all j d->ac (F (i+1)).env d=ac (F i).env d)/\(aO.Te all i d->ac (F (j+1)).env d=ac (F j).env d):=by
 have y:all[i]? =some all[i]:=sO (by omega);have q:all[j]? =some all[j]:=sO J
 have:=Uy t.ap i j all[i] all[j] z (by simp) (by simp);rw[eM] at this;obtain⟨h1,R⟩:=ai7 (this.resolve_left I);constructor;rintro⟨o,g,C⟩;rw[q] at g;injection g with g;subst g
 apply ut;intro p;obtain⟨E,O⟩:=h1 d (t.env_change y p);exact C.elim E O;rintro⟨o,g,C⟩;rw[y] at g;injection g with g;subst g
 apply ut;intro p;have E:=t.env_change q p
 grind
def aO.L(F:Nat->Fr)(t k:Nat):Nat×(Nat->Option (List aa)):=((F k).loc.gen t,fun g=>(F k).loc.get t g)
theorem aO.L_eq{F:Nat->Fr}{t g:Nat}:aO.L F t k=aO.L F t g↔lH (F k).loc (F g).loc t:=by
 grind [aO.L,lH]
def aO.Tl(Q:aF)(f:FuncId)(all:Array Oper)(F:Nat->Fr)(k u:Nat):Prop:= ∃o,all[k]? =some o/\eP all (F k).env o=true/\aO.foot Q f F k o= .loc u
theorem aO.loc_change(t:aO Q f all mk F S M lv Lo)(y:k<all.size)(h:aO.L F u (k+1)≠aO.L F u k):aO.Tl Q f all F k u/\Lo k=true:=by
 have g:all[k]? =some all[k]:=sO y;rcases t.step g with⟨w,v,loc',s1,h1,_,E,_,J⟩|⟨_,q,_⟩
 have hl:=(t5 E).2.1;obtain⟨p,_,_,C,I⟩:=NP (c:=(S k).aL) (e:=(F k).env) (n:=(F k).size) (M k) (F k).loc v loc' s1 h1 (F k).loc (fun _ _=>.refl _ _);constructor;apply ut;intro z;apply h;rw[aO.L_eq,hl];exact(C u fun e=>z ⟨_,g,w,e⟩).1
 grind [aO.L_eq]
 exfalso;apply h;rw[aO.L_eq,(t5 q).2.1];exact .refl _ _
def aO.loc_apart(t:aO Q f all mk F S M lv Lo)(y:i<j)(R:j<all.size)(O: ¬sZ all i j):
 (aO.Tl Q f all F j u->aO.L F u (i+1)=aO.L F u i)/\(aO.Tl Q f all F i u->aO.L F u (j+1)=aO.L F u j):=by
 have p:aO.Tl Q f all F i u->aO.Tl Q f all F j u->(Lo i=true\/Lo j=true)->False:=by
  rintro⟨Y,hi,J,U⟩ ⟨V,q,I,T⟩ hl;obtain⟨E,_⟩:=t.compat y hi q J I O;rw[U,T] at E;rcases hl with h|h<;>rw[h] at E<;>simp[cW.meets] at E
 constructor;intro z;apply ut;intro g;obtain⟨h1,C⟩:=t.loc_change (by omega) g;exact p h1 z (.inl C);intro z;apply ut;intro g;obtain⟨h1,C⟩:=t.loc_change R g;exact p z h1 (.inr C)
end
section
variable{Q:aF}{f:FuncId}{all:Array Oper}{mk:aH}{F:Nat->Fr}{S:Nat->St}{M:Nat->aH}{lv:Nat->Nat}{Lo:Nat->Bool}
structure kP (Q:aF) (f:FuncId) (all:Array Oper) (F:Nat->Fr) (S:Nat->St) (M:Nat->aH) (H:Nat->Option aJ) (D:Nat->Prop) (fr:Fr) (h:Nat->Option aJ):Prop where
 env: ∀t,ac fr.env t=mix (fun k=>ac (F k).env t) D all.size
 size:fr.size=(F 0).size
 loc: ∀u,(fr.loc.gen u,fun g=>fr.loc.get u g)=mix (aO.L F u) D all.size
 heap: ∀n,h n=mix (aO.X Q f all F S M H n) D all.size
def Lv(all:Array Oper)(D:Nat->Prop):Prop:= ∀j o,D j->all[j]? =some o-> ∀e∈o.after,Region.binds .any e=true->D e.on
structure mp (all:Array Oper) (D:Nat->Prop) (j:Nat) (o:Oper):Prop where
 closed:Lv all D
 at_:all[j]? =some o
 new: ¬D j
 preds: ∀e∈o.after,Region.binds .any e=true->D e.on
def mp.ord{D:Nat->Prop}{j:Nat}{o:Oper}(x:mp all D j o)(h:sZ all i j):D i:=
 h.dep.ready x.closed fun y g e p q=>by
  rw[x.at_] at g;injection g with g;subst g
  exact x.preds e p q
def mp.notOrd{D:Nat->Prop}{j:Nat}{o:Oper}(x:mp all D j o)(g:D k): ¬sZ all j k:=fun h=>x.new (h.dep.closed x.closed g)
def mp.both{X:Nat->α}{D:Nat->Prop}{j:Nat}{o:Oper}(x:mp all D j o)(E: ∀i,i<j-> ¬sZ all i j->X (i+1)=X i)(I: ∀k,j<k->k<all.size-> ¬sZ all j k->X (k+1)=X k):
 mix X D all.size=X j/\mix X (fun k=>D k\/k=j) all.size=X (j+1):=by
 have C:=aO.lt_size x.at_;have p: ∀i,i<j->X (i+1)≠X i->D i:=fun i hi y=>by
  apply ut;intro g;exact y (E i hi fun h=>g (x.ord h))
 have q: ∀k,j<k->k<all.size->D k->X (k+1)=X k:=fun k h1 z g=>I k h1 z (x.notOrd g);refine⟨aaJ (by omega) p fun k h1 z g=>?_,as2 C p q⟩;by_cases e:k=j;exact absurd (e▸g) x.new;exact q k (by omega) z g
def mp.env(t:aO Q f all mk F S M lv Lo){D:Nat->Prop}{j:Nat}{o:Oper}(x:mp all D j o)(p:aO.Te all j d):
 mix (fun k=>ac (F k).env d) D all.size=ac (F j).env d/\mix (fun k=>ac (F k).env d) (fun k=>D k\/k=j) all.size=ac (F (j+1)).env d:=
 x.both (X:=fun k=>ac (F k).env d) (fun z hi g=>(t.env_apart hi (aO.lt_size x.at_) g).1 p) fun y h1 q g=>(t.env_apart h1 q g).2 p
def mp.loc(t:aO Q f all mk F S M lv Lo){D:Nat->Prop}{j:Nat}{o:Oper}(x:mp all D j o)(p:aO.Tl Q f all F j u):
 mix (aO.L F u) D all.size=aO.L F u j/\mix (aO.L F u) (fun k=>D k\/k=j) all.size=aO.L F u (j+1):=
 x.both (fun z hi g=>(t.loc_apart hi (aO.lt_size x.at_) g).1 p) fun y h1 q g=>(t.loc_apart h1 q g).2 p
def mp.heap(t:aO Q f all mk F S M lv Lo){H:Nat->Option aJ}(h0: ∀n o,dI mk n=false->(S 0).heap.get n=some o->H n=some o){D:Nat->Prop}{j:Nat}{o:Oper}(x:mp all D j o)(p:aO.Th Q f all F S M j n):
 mix (aO.X Q f all F S M H n) D all.size=aO.X Q f all F S M H n j/\mix (aO.X Q f all F S M H n) (fun k=>D k\/k=j) all.size=aO.X Q f all F S M H n (j+1):=
 x.both (fun z hi g=>(t.heap_apart h0 hi (aO.lt_size x.at_) g).1 p) fun y h1 q g=>(t.heap_apart h0 h1 q g).2 p
variable{H:Nat->Option aJ}{D:Nat->Prop}{fr:Fr}{h:Nat->Option aJ}{j:Nat}{o:Oper}
def kP.ev(t:aO Q f all mk F S M lv Lo)(c:kP Q f all F S M H D fr h)(x:mp all D j o): ∀y∈o.op.operands,Ag.ev fr.env y=Ag.ev (F j).env y:=by
 intro y g;cases y with
 |tmp d=>
  simp only[Ag.ev];rw[c.env d,(x.env t ⟨o,x.at_,.inl ?_⟩).1];unfold A0;refine List.mem_append_left _ (List.mem_filterMap.2 ⟨.tmp d,by simpa using g,rfl⟩)
 |_=>rfl
theorem kP.wanted(t:aO Q f all mk F S M lv Lo)(c:kP Q f all F S M H D fr h)(x:mp all D j o):eP all fr.env o=eP all (F j).env o:=by
 unfold eP;cases hg:o.guard with
 |none=>rfl
 |some g=>
  obtain⟨g,p⟩:=g;simp only;cases hd:(all[g]?).bind (·.dst) with
  |none=>rfl
  |some d=>
   simp only;rw[c.env d,(x.env t ⟨o,x.at_,.inl ?_⟩).1]
   grind [A0]
end
def acG(h: ∀d,dst=some d->d<fr.size): ∃fr',cR fr dst v l=some fr':=by
 unfold cR;cases hd:dst with
 |none=>exact⟨_,rfl⟩
 |some d=>
  have:bh d fr.size=true:=by rw[FR];exact dQ (h d hd)
  simp only[this,cT];exact⟨_,rfl⟩
section
variable{Q:aF}{f:FuncId}{all:Array Oper}{mk:aH}{F:Nat->Fr}{S:Nat->St}{M:Nat->aH}{lv:Nat->Nat}{Lo:Nat->Bool}
variable{H:Nat->Option aJ}{D:Nat->Prop}{fr:Fr}{h:aD aJ}{j:Nat}{o:Oper}
def aO.from_(S:Nat->St)(j:Nat)(h:aD aJ):St:=⟨h,(S j).aL,(S j).aL,(S j).ci⟩
theorem kP.sees(t:aO Q f all mk F S M lv Lo)(h0: ∀n o,dI mk n=false->(S 0).heap.get n=some o->H n=some o)(c:kP Q f all F S M H D fr h.get)(x:mp all D j o)(p:eP all (F j).env o=true):iJ (aO.fm Q f F S M j o) (aO.from_ S j (S j).heap) (aO.from_ S j h) where
 aL:=rfl
 gE:=rfl
 ci:=rfl
 get n ob hn g:=by
  have g:(S j).heap.get n=some ob:=g;show h.get n=some ob;have q:aO.Th Q f all F S M j n:=⟨o,x.at_,p,.inl ⟨hn,by rw[g];simp⟩⟩;rw[c.heap n,(x.heap t h0 q).1];refine t.X_sees h0 (zZ (aO.lt_size x.at_)) n ob ?_ g;cases e:dI mk n with
  |false=>rfl
  |true=>
   have:=t.tr.more j o (by simpa using x.at_) n e
   grind [aO.fm,NM]
def kP.run(t:aO Q f all mk F S M lv Lo)(h0: ∀n o,dI mk n=false->(S 0).heap.get n=some o->H n=some o)(c:kP Q f all F S M H D fr h.get)(x:mp all D j o)(O:eP all (F j).env o=true):
 ∃v loc' s1 fr',eW Q (ce Q (lv j)) f o (aO.fm Q f F S M j o) fr (aO.from_ S j (S j).heap)=some (v,loc',s1)/\s1.ci=(S j).ci/\s1.aL=(S (j+1)).aL/\cR fr o.dst v loc'=some fr'/\
  ∀s2',gl (aO.fm Q f F S M j o) (aO.from_ S j (S j).heap) s1 (aO.from_ S j h) s2'->kP Q f all F S M H (fun k=>D k\/k=j) fr' s2'.heap.get:=by
 obtain⟨v,I,s1,h1,h2,h3,U,h5,g⟩:=t.done x.at_ O;obtain⟨q,V,e2,e3,e4⟩:=NP (c:=(S j).aL) (e:=(F j).env) (n:=(F j).size) (M j) (F j).loc v I s1 h1 fr.loc (fun u J=>by
  have p:aO.Tl Q f all F j u:=⟨o,x.at_,O,J⟩;have T:=(c.loc u).trans (x.loc t p).1;unfold aO.L at T;rw[bC] at T;exact⟨T.1.symm,fun g=>(congrFun T.2 g).symm⟩)
 have V:eW Q (ce Q (lv j)) f o (aO.fm Q f F S M j o) ⟨(F j).env,(F j).size,fr.loc⟩ (aO.from_ S j (S j).heap)=some (v,q,s1):=V;rw[avb (e2:=fr.env) (n2:=fr.size) (fun y hy=>(c.ev t x y hy).symm)] at V;have Y:fr.size=(F j).size:=c.size.trans (t.size_eq (zZ (aO.lt_size x.at_))).symm;obtain⟨p1,p2,Z,p4⟩:=t5 h3;have R: ∃fr',cR fr o.dst v q=some fr':=acG fun d E=>by rw[Y];exact(Z d E).1
 obtain⟨fr',R⟩:=R;obtain⟨q1,q2,q3,q4⟩:=t5 R;refine⟨v,q,s1,fr',V,h2,by rw[U];rfl,R,fun s2' same=>⟨fun d=>?_,q1.trans c.size,fun u=>?_,fun n=>?_⟩⟩;by_cases E:o.dst=some d;rw[(q3 d E).2,(x.env t ⟨o,x.at_,.inr E⟩).2,(Z d E).2];rw[q4 d E,c.env d]
 simp_all [C4]
 rw[q2];by_cases J:aO.foot Q f F j o= .loc u;rw[(x.loc t ⟨o,x.at_,O,J⟩).2]
 have:=e2 u J;unfold aO.L;rw[p2,this.1];rw[bC];exact⟨rfl,funext fun g=>(this.2 g).symm⟩;obtain⟨a1,a2⟩:=e3 u J;rw[C4 (X:=aO.L F u) (aO.L_eq.2 (by rw[p2];exact a1)),<-c.loc u,bC];exact⟨a2.1,funext a2.2⟩;have C:aO.Th Q f all F S M j n↔nh (aO.fm Q f F S M j o) (aO.from_ S j (S j).heap) s1 n:=by
  constructor;rintro⟨o',z,_,p⟩;rw[x.at_] at z;injection z with z;subst z
  rw[U] at p;exact p;intro p;refine⟨o,x.at_,O,?_⟩;rw[U];exact p
 by_cases p:aO.Th Q f all F S M j n;rw[(x.heap t h0 p).2,aO.X,iP p,U];exact same.inside n (C.1 p);rw[C4 (X:=aO.X Q f all F S M H n) (by rw[aO.X,iN p]),<-c.heap n];exact same.outside n (fun e=>p (C.2 e))
theorem kP.skip(t:aO Q f all mk F S M lv Lo)(c:kP Q f all F S M H D fr h.get)(x:mp all D j o)(T:eP all (F j).env o=false):
 ∃fr',cR fr o.dst fL fr.loc=some fr'/\kP Q f all F S M H (fun k=>D k\/k=j) fr' h.get:=by
 rcases t.step x.at_ with⟨h',_⟩|⟨_,U,_⟩
 rw[T] at h';cases h';have q:fr.size=(F j).size:=c.size.trans (t.size_eq (zZ (aO.lt_size x.at_))).symm;obtain⟨Y,O,z,V⟩:=t5 U;have p: ∃fr',cR fr o.dst fL fr.loc=some fr':=acG fun d g=>by rw[q];exact(z d g).1
 obtain⟨fr',p⟩:=p;obtain⟨J,I,E,C⟩:=t5 p;refine⟨fr',p,⟨fun d=>?_,J.trans c.size,fun u=>?_,fun n=>?_⟩⟩;by_cases g:o.dst=some d;rw[(E d g).2,(x.env t ⟨o,x.at_,.inr g⟩).2,(z d g).2];rw[C d g,c.env d]
 simp_all [C4]
 rw[I,C4 (X:=aO.L F u) (aO.L_eq.2 (by rw[O];exact .refl _ _)),<-c.loc u];rw[C4 (X:=aO.X Q f all F S M H n) ?_,<-c.heap n];rw[aO.X,iN];rintro⟨Z,y,R,_⟩;rw[x.at_] at y;grind
theorem kP.start{s2:aD aJ}(g: ∀k, ¬D k):kP Q f all F S M s2.get D (F 0) s2.get where
 env d:=(Qk (X:=fun k=>ac (F k).env d) fun k _=>g k).symm
 size:=rfl
 loc u:=by grind [Qk,aO.L]
 heap n:=by grind [Qk,aO.X]
theorem kP.fin(c:kP Q f all F S M H D fr h.get)(g: ∀k,k<all.size->D k):
 fr.size=(F 0).size/\(∀d,ac fr.env d=ac (F all.size).env d)/\(∀u,lH fr.loc (F all.size).loc u)/\ ∀n,h.get n=aO.X Q f all F S M H n all.size:=by
 refine⟨c.size,fun d=>?_,fun u=>?_,fun n=>?_⟩;rw[c.env d];grind [Qi]
 have:=c.loc u;rw[Qi g] at this;unfold aO.L at this;rw[bC] at this;exact⟨this.1,congrFun this.2⟩;rw[c.heap n];exact Qi g
end
def mA:Option Nat->Fence
 |none=>Fence.wide
 |some l=>Fence.wide.inRound l
def AB(ro:Option Nat)(f:FuncId):(mA ro).fn f:=by cases ro<;>exact trivial
def aj3(ro:Option Nat):(mA ro).depth=none:=by cases ro<;>rfl
def aj5(ro:Option Nat):(mA ro).round=ro:=by cases ro<;>rfl
def aj4(ro:Option Nat)(l:Nat):(mA ro).inRound l=mA (some l):=by cases ro<;>rfl
def NB(ro:Option Nat)(n:Nat):(mA ro).depth.isSome=true->1<=n:=by rw[aj3];intro h;cases h
variable{args:Array Value}{w:World}
def Ws{ro:Option Nat}{R:Ending->World->Prop}:CallsIn (mA ro) 0 P f args w R↔Calls P f args w R:=by
 cases ro with
 |none=>exact callsIn_wide
 |some l=>exact callsIn_wide (n:=0)
def qp:Obj->Prop
 | .loop _=>True
 | .deferred _=>True
 |_=>False
theorem qp.warm{o:Obj}(h:qp o):Obj.warm o:=by cases o<;>first|exact trivial|exact h.elim
variable{a:Addr}{tmps:Array Value}{B:Nat->Nat}
section
variable{G:Gh}{h:aD aJ}{w:World}{b:Nat}{o ob:Obj}
theorem Mb(g:w.heap[b]? =some o)(p:qp o){C:Array Value}{e:TypeId}{z:Nat×Nat}:w.heap[b]? ≠some (.cells C e z):=by
 rw[g];intro h;injection h with h;subst h;exact p.elim
def agz(g:w.heap[b]? =some o)(p:qp o)(i:Nat):w.cell? ⟨b,i,none⟩=none:=by
 cases o<;>first
  |exact p.elim
  |simp[World.cell?,g]
def WR.aside_ro(x:WR G h w)(p:w.heap[b]? =some o)(q:qp o)(i:Nat):G.ro b i=none:=by
 cases e:G.ro b i with
 |none=>rfl
 |some v=>
  obtain⟨_,y,g,_⟩:=x.ro b i v e;rw[agz p q] at g;cases g
theorem WR.aside(x:WR G h w)(g:w.heap[b]? =some o)(z:qp o)(p: ¬eB G h b):WR G h (dw w b ob) where
 obj n o' hn:=by
  obtain⟨a,h1,h2,h3⟩:=x.obj n o' hn;refine⟨a,h1,h2,h3.of_block ?_⟩;rw[jD w b _ ob (i9 g),iN];intro e;exact p ⟨n,a,by rw[hn];simp,h1,e⟩
 sep:=x.sep
 ro c i v hv:=by
  have q:c≠b:=fun e=>by subst e;rw[x.aside_ro g z] at hv;cases hv
  obtain⟨h1,y,h2,h3⟩:=x.ro c i v hv
  grind [World.cell?,jD]
 apart:=x.apart
 dim c d hd:=by
  have q:c≠b:=fun e=>by
   subst e;obtain⟨C,e,h1,_⟩:=x.dim c d hd;exact Mb g z h1
  rw[jD w b _ ob (i9 g),iN q];exact x.dim c d hd
 below n a ha':=by rw[Ds];exact x.below n a ha'
theorem qr.aside{loc:Loc}(x:qr G h B loc w)(g:w.heap[b]? =some o)(p:qp o):qr G h B loc (dw w b ob) where
 cells t cs ht:=by
  obtain⟨C,e,h1,h2⟩:=x.cells t cs ht
  grind [jD,Mb]
 free:=x.free
 ro:=x.ro
 inj:=x.inj
def cE.aside(x:cE G h B fr tmps w)(g:w.heap[b]? =some o)(p:qp o):cE G h B fr tmps (dw w b ob):=
 ⟨x.size,x.env,x.locs.aside g p⟩
def cE.not_LB(x:cE G h B fr tmps w)(g:w.heap[b]? =some o)(p:qp o): ¬LB B fr.loc b:=by
 rintro⟨t,cs,h1,rfl⟩;obtain⟨C,e,q,_⟩:=x.locs.cells t cs h1;exact Mb g p q
def WR.not_deferred(x:WR G h w){d:Option (List Deferred)}(q:w.heap[b]? =some (.deferred d)): ¬eB G h b:=by
 rintro⟨n,a,h1,E,rfl⟩;cases e:h.get n with
 |none=>exact h1 e
 |some o=>
  obtain⟨a',y,_,p⟩:=x.obj n o e;rw[E] at y;injection y with y;subst y
  clear e
  induction o with
  |cells cs=>obtain⟨C,e,g,_⟩:=p;rw[q] at g;cases g
  |tok=>obtain⟨C,e,g⟩:=p;rw[q] at g;cases g
  |map J c=>obtain⟨O,g,_⟩:=p;rw[q] at g;cases g
  |iter m a b c=>obtain⟨_,I,g,_⟩:=p;rw[q] at g;cases g
  |loop _ _ _ _ _ _ _=>obtain⟨r,g,_⟩:=p;rw[q] at g;cases g
  |fix o z=>exact z p
theorem WR.back(x:WR G h w){lo:aJ}(E:G.at_ n=some a)(T:a.spot=none)(y: ¬eB G h a.block)(hr:nT G w a lo)(O: ∀i,G.ro a.block i=none):WR G (h.set n (some lo)) w:=by
 refine⟨?_,?_,x.ro,?_,x.dim,x.below⟩;intro m I g;rw[aD.get_set] at g;by_cases e:m=n
 grind
 rw[iN e] at g;exact x.obj m I g;intro m k c d g z q p C;rw[aD.get_set] at g z;by_cases e1:m=n<;>by_cases e2:k=n;rw[e1,e2];rw[e1,E] at q;rw[iN e2] at z;injection q with q;subst q
 exact absurd ⟨k,d,z,p,C.symm⟩ y;rw[e2,E] at p;rw[iN e1] at g;injection p with p;subst p
 exact absurd ⟨m,c,g,q,C⟩ y;rw[iN e1] at g;rw[iN e2] at z;exact x.sep m k c d g z q p C;intro m ob b i v g R J;rw[aD.get_set] at g;by_cases e:m=n
 grind
 rw[iN e] at g;exact x.apart m ob b i v g R J
theorem avo{lo:aJ}(q:G.at_ n=some a)(h':eB G (h.set n (some lo)) c):c=a.block\/eB G h c:=by
 obtain⟨m,d,h1,p,g⟩:=h';rw[aD.get_set] at h1;by_cases e:m=n
 grind
 rw[iN e] at h1;exact .inr ⟨m,d,h1,p,g⟩
variable{G0:Gh}{h0:aD aJ}{w0:World}{lo hi:Nat}{L:Nat->Prop}
theorem avn{lo:aJ}(z:G.at_ n=some a)(h':lk G (h.set n (some lo)) c):c=a.block\/lk G h c:=by
 obtain⟨m,d,p,h1,g,y,q⟩:=h';rw[aD.get_set] at h1;by_cases e:m=n
 grind
 rw[iN e] at h1;exact .inr ⟨m,d,p,h1,g,y,q⟩
def iH.aside(x:iH G0 h0 w0 G h w lo hi L)(p:w.heap[b]? =some o)(y:qp o)(g:qp ob)(q:b<w0.heap.size->lk G0 h0 b):iH G0 h0 w0 G h (dw w b ob) lo hi L where
 le:=x.le
 size:=by rw[Ds];exact x.size
 ownsW:=x.ownsW
 keepW c hc ho hl:=by
  rw[jD w b c ob (i9 p),iN];exact x.keepW c hc ho hl;intro e;subst e;exact ho (q hc)
 owns:=x.owns
 names:=x.names
 cells:=x.cells
 quiet:=x.quiet.trans (Gj w p y.warm g.warm)
def iH.toExt(x:iH G0 h0 w0 G h w lo hi L)(q: ∀b, ¬L b):cO G0 h0 w0 G h w lo hi:=
 ⟨x.le,x.size,fun b p g=>x.keepW b p g (q b),x.owns,x.names,x.cells,x.quiet,x.ownsW⟩
def cO.aside(x:cO G0 h0 w0 G h w lo hi)(q:w.heap[b]? =some o)(y:qp o)(g:qp ob)(p:b<w0.heap.size->lk G0 h0 b):cO G0 h0 w0 G h (dw w b ob) lo hi:=
 (iH.aside (x.toL fun _=>False) q y g p).toExt fun _ h=>h
end
def wV(r:Nat):Deferred:= {target:=.collected r,args:= #[] }
structure v6 (lo:Nat) (w:World) (rs:List Nat):Prop where
 nodup:rs.Nodup
 at_: ∀r∈rs,lo<=r/\w.heap[r]? =some (.deferred (some []))
def v6.nil(lo:Nat)(w:World):v6 lo w []:=⟨.nil,fun _ h=>by cases h⟩
def Rk(w:World)(b:Nat)(o:Obj):w.putObj b o=dw w b o:=rfl
def adj{G:Gh}: ∀ {ps:List Tmp} {args:List aa} {xs:List Value} {env g:aw} {size:Nat} {tmps:Array Value},Gy ps args env=some g->bV G args xs->
 (∀t∈ps,t<size)->tmps.size=size->(∀t,VR G (ac env t) (tmps.getD t undef))->
 xs.length=ps.length/\((ps.zip xs).foldl (fun tmps (t,a)=>tmps.setIfInBounds t a) tmps).size=size/\ ∀t,VR G (ac g t) (((ps.zip xs).foldl (fun tmps (t,a)=>tmps.setIfInBounds t a) tmps).getD t undef)
 | [],[],xs,env,g,size,tmps,he,hv,hp,hs,ht=>by
   cases hv;simp only[Gy,aM] at he;subst he;exact⟨rfl,hs,ht⟩
 | [],_::_,_,_,_,_,_,he,_,_,_,_=>by cases he
 |_::_,[],_,_,_,_,_,he,_,_,_,_=>by cases he
 |p::ps,v::args,xs,env,g,size,tmps,he,hv,hp,hs,ht=>by
  cases hv with
  |cons a b=>
   rename_i x xs;have q:p<tmps.size:=by rw[hs];exact hp p (by simp)
   have:=adj (tmps:=tmps.setIfInBounds p x) (ps:=ps) he b (fun t h=>hp t (by simp[h])) (by simpa using hs) (fun t=>by
    rw[Ag.getD_set _ _ _ _ q];unfold ac;rw[aD.get_set];by_cases e:t=p;rw[iP e,iP e];exact a;rw[iN e,iN e];exact ht t)
   exact⟨by simp[this.1],this.2⟩
def lj(k:Nat)(ch g:Nat->Nat):Prop:= ∀i,i<k->g i=ch i
def lj.refl(k:Nat)(ch:Nat->Nat):lj k ch ch:=fun _ _=>rfl
def lj.trans{q:Nat}{p g:Nat->Nat}(h:lj k ch p)(h':lj q p g)(y:k<=q):lj k ch g:=fun i hi=>(h' i (gh hi y)).trans (h i hi)
def lG(Q:aF)(ch:Nat->Nat):Prop:= ∀i,ch i<Q.kmax i
def Hb(s:St):Prop:= ∀n,s.aL<=n->s.heap.get n=none
variable{s':St}
def Hb.goes(h:Hb s)(g:fG mk s s'):Hb s':=fun n p=>by
 have h0:=h n (eL g.aL p);rw[g.frame n ?_];exact h0;rintro(⟨_,h'⟩|h');exact h' h0;omega
def mj(P:Program)(f:FuncId)(args:Array Value)(w:World)(R:Value->World->Prop):Prop:=
 (∃y w',(callFunc f args).run P w= .ok (.value y) w'/\R y w')\/
 ((callFunc f args).run P w= .ok (.enter f args) w/\Calls P f args w (fun e w'=> ∃y,e= .returned y/\R y w'))
def mj.mono{R p:Value->World->Prop}(h:mj P f args w R)(hr: ∀y w',R y w'->p y w'):mj P f args w p:=by
 rcases h with⟨y,w',h1,g⟩|⟨h1,g⟩
 exact .inl ⟨y,w',h1,hr y w' g⟩;exact .inr ⟨h1,g.mono fun e w' ⟨y,q,z⟩=>⟨y,q,hr y w' z⟩⟩
def afb(Q:aF):Prop:=
 ∀f sp,Q.specH f=some sp-> ∀args v (G:Gh) (h:aD aJ) (w:World) (xs:List Value),WR G h w->bV G args xs->fC h.get (sp args)=some v->
  mj Q.P f ⟨xs⟩ w fun y w'=> ∃G',WR G' h w'/\cO G h w G' h w' 0 0/\VR G' v y
def afd(Q:aF):Prop:=
 ∀f sp,Q.specW f=some sp-> ∀args (G:Gh) (h:aD aJ) (w:World) (xs:List Value),WR G h w->bV G args xs->
  (sp args=some none->mj Q.P f ⟨xs⟩ w fun y w'=> ∃G',WR G' h w'/\cO G h w G' h w' 0 0/\VR G' (.tup []) y)/\
  ∀n g cs p,sp args=some (some (n,g))->h.get n=some (.cells cs)->fC h.get (g cs)=some (.agg p)->
   mj Q.P f ⟨xs⟩ w fun y w'=> ∃G',WR G' (h.set n (some (.cells p))) w'/\cO G h w G' (h.set n (some (.cells p))) w' 0 0/\VR G' (.tup []) y
def afc(Q:aF):Prop:=
 ∀f sp,Q.spec f=some sp-> ∀args v,sp args=some v-> ∀(G:Gh) (h:aD aJ) (w:World) (xs:List Value),WR G h w->bV G args xs->
  mj Q.P f ⟨xs⟩ w fun y w'=> ∃G',WR G' h w'/\cO G h w G' h w' 0 0/\VR G' v y
structure lI (mk:aH) (A:Nat->Prop) (G:Gh) (s s2:St) (w:World):Prop where
 fresh:Hb s
 sees:iJ mk s s2
 wr:WR G s2.heap w
 free: ∀m,s.aL<=m->A m->G.at_ m=none
structure G7 (Q:aF) (n:Nat) (f:FuncId) (args:List aa) (mk:aH) (ch:Nat->Nat) (G:Gh) (s s2:St) (w:World) (y:Value) (w':World)
 (ch':Nat->Nat) (v:aa) (s' s2':St) (G':Gh):Prop where
 agree:lj s.ci ch ch'
 inb:lG Q ch'
 eval:(ce (Q.at ch') n).call f args mk s=some (v,s')
 same:gl mk s s' s2 s2'
 wr:WR G' s2'.heap w'
 ext:cO G s2.heap w G' s2'.heap w' s.aL s'.aL
 val:VR G' v y
def xU(Q:aF)(n:Nat):Prop:=
 ∀(f:FuncId) (args:List aa) (mk:aH) (s s2:St) (G:Gh) (w:World) (xs:List Value) (ch:Nat->Nat) (A:Nat->Prop),
  lI mk A G s s2 w->bV G args xs->lG Q ch->
  (∀g,lj s.ci ch g->lG Q g-> ∃v s',(ce (Q.at g) n).call f args mk s=some (v,s')/\ ∀m,s.aL<=m->m<s'.aL->A m)->
  mj Q.P f ⟨xs⟩ w fun y w'=> ∃g v s' s2' G',G7 Q n f args mk ch G s s2 w y w' g v s' s2' G'
section
variable{G G' G'':Gh}{h h' h'':aD aJ}{w w' w'':World}{lo mid hi:Nat}{L L':Nat->Prop}
def iH.trans(x:iH G h w G' h' w' lo mid L)(y:iH G' h' w' G'' h'' w'' mid hi L')(g: ∀b,L' b->L b\/w.heap.size<=b)(l1:lo<=mid)(l2:mid<=hi):
 iH G h w G'' h'' w'' lo hi L where
 le:=x.le.trans y.le
 size:=eL x.size y.size
 keepW b hb ho hl:=(y.keepW b (gh hb x.size) (fun o=>ho (x.ownsW b hb o)) (fun l=>(g b l).elim hl (fun h=>by omega))).trans (x.keepW b hb ho hl)
 ownsW b hb o:=x.ownsW b hb (y.ownsW b (gh hb x.size) o)
 owns b hb o:=x.owns b hb (y.owns b (gh hb x.size) o)
 names n a h h0:=by
  cases e:G'.at_ n with
  |none=>have:=y.names n a h e;omega
  |some b=>have:=x.names n b e h0;omega
 cells b o v hb h h0:=by
  cases e:G'.ro b o with
  |none=>exact x.owns b hb (y.cells b o v (gh hb x.size) h e)
  |some u=>exact x.cells b o u hb e h0
 quiet:=x.quiet.trans y.quiet
def iH.widen{lo' hi':Nat}(x:iH G h w G' h' w' lo hi L)(h1:lo'<=lo)(p:hi<=hi'):iH G h w G' h' w' lo' hi' L:=
 ⟨x.le,x.size,x.keepW,x.owns,fun n a e g=>by have:=x.names n a e g;omega,x.cells,x.quiet,x.ownsW⟩
end
def Wb{G' G'':Gh}{h' h'':aD aJ}{w'':World}{d d' g:List Deferred}{lo l1 l2:Nat}(wr:WR G' h' w')(fx:cE G' h' B' fr' tmps w')(x: ∃rs,d'=rs.map wV++d/\v6 lo w' rs)(C:lo<=w'.heap.size)(ex:iH G' h' w' G'' h'' w'' l1 l2 (LB B' fr'.loc))(y: ∃rs,g=rs.map wV++d'/\v6 w'.heap.size w'' rs):
 ∃rs,g=rs.map wV++d/\v6 lo w'' rs:=by
 obtain⟨E,J,z⟩:=x;obtain⟨O,I,p⟩:=y;have keep: ∀r∈E,w''.heap[r]? =some (.deferred (some [])):=fun r hr=>by
  have h1:=(z.at_ r hr).2;exact(ex.keep r (i9 h1) (wr.not_deferred h1) (fx.not_LB h1 trivial)).trans h1
 refine⟨O++E,by rw[I,J];simp,⟨?_,?_⟩⟩;rw[List.nodup_append];refine⟨p.nodup,z.nodup,fun r hr q R e=>?_⟩;subst e;have h1:=(p.at_ r hr).1;have T:=i9 (z.at_ r R).2;omega;intro r hr;rcases List.mem_append.1 hr with hr|hr
 exact⟨eL C (p.at_ r hr).1,(p.at_ r hr).2⟩;exact⟨(z.at_ r hr).1,keep r hr⟩
structure pw (mk:aH) (fr:Fr) (G:Gh) (B:Nat->Nat) (s s2:St) (a:Act) (w:World) (fr':Fr) (G':Gh) (B':Nat->Nat) (s' s2':St) (a':Act) (w':World):Prop where
 goes:fG mk s s'
 same:gl mk s s' s2 s2'
 wr:WR G' s2'.heap w'
 ext:iH G s2.heap w G' s2'.heap w' s.aL s'.aL (LB B fr.loc)
 fx:cE G' s2'.heap B' fr' a'.tmps w'
 boxes: ∀b,LB B' fr'.loc b->LB B fr.loc b\/w.heap.size<=b
 defers: ∃rs,a'.defers=rs.map wV++a.defers/\v6 w.heap.size w' rs
section
variable{mk:aH}{A:Nat->Prop}{fr fr' fr'':Fr}{G G' G'':Gh}{B B' B'':Nat->Nat}{s s' s'' s2 s2' s2'':St}{a a' a'':Act}{w w' w'':World}
def pw.refl(p:lI mk A G s s2 w)(fx:cE G s2.heap B fr a.tmps w):pw mk fr G B s s2 a w fr G B s s2 a w where
 goes:=.refl _ _
 same:=.refl p.sees
 wr:=p.wr
 ext:=cO.refl.toL _
 fx:=fx
 boxes _ h:=.inl h
 defers:=⟨[],rfl,.nil _ _⟩
def pw.trans(x:pw mk fr G B s s2 a w fr' G' B' s' s2' a' w')(y:pw mk fr' G' B' s' s2' a' w' fr'' G'' B'' s'' s2'' a'' w''):
 pw mk fr G B s s2 a w fr'' G'' B'' s'' s2'' a'' w'' where
 goes:=x.goes.trans y.goes
 same:=.trans x.goes y.goes x.same y.same
 wr:=y.wr
 ext:=x.ext.trans y.ext x.boxes x.goes.aL y.goes.aL
 fx:=y.fx
 boxes b h:=by
  rcases y.boxes b h with h|h
  exact x.boxes b h;exact .inr (eL x.ext.size h)
 defers:=Wb x.wr x.fx x.defers x.ext.size y.ext y.defers
def lI.after(p:lI mk A G s s2 w)(x:pw mk fr G B s s2 a w fr' G' B' s' s2' a' w'):lI mk A G' s' s2' w' where
 fresh:=p.fresh.goes x.goes
 sees:=x.same.sees p.sees x.goes
 wr:=x.wr
 free m hm hA:=by
  cases e:G'.at_ m with
  |none=>rfl
  |some g=>
   have h0:=p.free m (eL x.goes.aL hm) hA
   have:=x.ext.names m g e h0;omega
def LX(a:Act)(d:Option Tmp)(v:Value):(a.put d v).defers=a.defers:=by
 cases d<;>rfl
end
variable{a:Act}{fr1:Fr}{s2:St}
section
variable{α β:Type}
def te(Q:aF)(A:Nat->Prop)(ch:Nat->Nat)(s:St)(E:(Nat->Nat)->Option (α×Fr×St)):Prop:=
 ∀g,lj s.ci ch g->lG Q g-> ∃x fr' s',E g=some (x,fr',s')/\ ∀m,s.aL<=m->m<s'.aL->A m
def uC(Q:aF)(mk:aH)(ch:Nat->Nat)(fr:Fr)(G:Gh)(B:Nat->Nat)(s s2:St)(a:Act)(w:World)(E:(Nat->Nat)->Option (α×Fr×St))(x:α)(a':Act)(w':World):Prop:=
 ∃g fr' s' s2' G' B',lj s.ci ch g/\lG Q g/\E g=some (x,fr',s')/\pw mk fr G B s s2 a w fr' G' B' s' s2' a' w'
def LD(E:(Nat->Nat)->Option (α×Fr×St)):Prop:= ∀ch x fr' s',E ch=some (x,fr',s')-> ∀g,lj s'.ci ch g->E g=some (x,fr',s')
variable{Q:aF}{A:Nat->Prop}{ch ch1:Nat->Nat}{s s1:St}{E1:(Nat->Nat)->Option (α×Fr×St)}{E2:α->Fr->St->(Nat->Nat)->Option (β×Fr×St)}
theorem te.first(q:te Q A ch s (fun c=>(E1 c).bind fun r=>E2 r.1 r.2.1 r.2.2 c))(g: ∀x fr' s' c y fr'' s'',E2 x fr' s' c=some (y,fr'',s'')->s'.aL<=s''.aL):te Q A ch s E1:=by
 intro p h1 z;obtain⟨x,fr',s',E,C⟩:=q p h1 z
 grind [ak]
theorem te.second(z:te Q A ch s (fun c=>(E1 c).bind fun r=>E2 r.1 r.2.1 r.2.2 c))(C:LD E1){x:α}(q:lj s.ci ch ch1)(J:E1 ch1=some (x,fr1,s1))(p:s.ci<=s1.ci)(E:s.aL<=s1.aL):
 te Q A ch1 s1 (E2 x fr1 s1):=by
 intro g h1 I;obtain⟨y,fr',s',R,O⟩:=z g (q.trans h1 p) I
 have:=C ch1 x fr1 s1 J g h1
 grind
def uC.second{G G1:Gh}{I:Nat->Nat}{g:St}{E a':Act}{w1:World}{x:α}{y:β}(J:LD E1)(z:lj s.ci ch ch1)(U:E1 ch1=some (x,fr1,s1))(C:pw mk fr G B s s2 a w fr1 G1 I s1 g E w1)(p:uC Q mk ch1 fr1 G1 I s1 g E w1 (E2 x fr1 s1) y a' w'):
 uC Q mk ch fr G B s s2 a w (fun c=>(E1 c).bind fun r=>E2 r.1 r.2.1 r.2.2 c) y a' w':=by
 obtain⟨q,fr',s',s2',G',B',h1,T,R,O⟩:=p;refine⟨q,fr',s',s2',G',B',z.trans h1 C.goes.ci,T,?_,C.trans O⟩;simp only[J ch1 x fr1 s1 U q h1,bk];exact R
end
def Ex.to:Ex->Exit
 | .normal=>.normal
 | .exit id=>.exit id
 | .ret=>.ret
noncomputable def lu(Q:aF)(n:Nat)(f:FuncId)(c:Code)(mk:aH)(fr:Fr)(s:St)(ch:Nat->Nat):Option (Ex×Fr×St):=(ce (Q.at ch) n).code f c mk fr s
def xW(ro:Option Nat)(G:Gh)(h:aD aJ)(w:World):Prop:= ∀l,ro=some l->(∃r:Loop,w.heap[l]? =some (.loop r))/\ ¬eB G h l
def xW.none{G:Gh}:xW .none G h w:=fun _ h=>by cases h
def xW.after{ro:Option Nat}{G G':Gh}{s2':St}{a':Act}(h:xW ro G s2.heap w)(fx:cE G s2.heap B fr a.tmps w)(x:pw mk fr G B s s2 a w fr' G' B' s' s2' a' w'):xW ro G' s2'.heap w':=fun l hl=>by
 obtain⟨⟨r,h1⟩,p⟩:=h l hl;have g:=i9 h1;exact⟨⟨r,(x.ext.keep l g p (fx.not_LB h1 trivial)).trans h1⟩,fun o=>p (x.ext.owns l g o)⟩
def sX(Q:aF)(n:Nat):Prop:=
 ∀(ro:Option Nat) (f:FuncId) (c:Code) (mk:aH) (fr:Fr) (ch:Nat->Nat) (A:Nat->Prop) (G:Gh) (B:Nat->Nat) (s s2:St) (a:Act) (w:World),(ro≠none->dB c=true)->xW ro G s2.heap w->
  lI mk A G s s2 w->cE G s2.heap B fr a.tmps w->lG Q ch->te Q A ch s (lu Q n f c mk fr s)->
  ∀K:Exit->Act->World->Prop,(∀x a' w',uC Q mk ch fr G B s s2 a w (lu Q n f c mk fr s) x a' w'->K x.to a' w')->
   c.wpIn (mA ro) 0 Q.P K a w/\ ∀b,c= .loop b->Code.roundsIn (mA ro) 0 Q.P b K n a w
def MW(Q:aF)(n:Nat)(f:FuncId)(c:Code)(mk:aH)(fr:Fr)(s:St):LD (lu Q n f c mk fr s):=
 fun ch x fr' s' h p g=>(tS Q n).code f c mk fr ch s x fr' s' h p g
def V5{c:Code}{x:Ex}(h:lu Q n f c mk fr s ch=some (x,fr',s')):fG mk s s':=
 ((lU Q n).code f c mk fr ch s x fr' s' h).1
structure Uq (Q:aF) (n:Nat) (m:Nat) (args:List aa) (mk:aH) (ch:Nat->Nat) (G:Gh) (s s2:St) (w:World) (y:Value) (w':World)
 (ch':Nat->Nat) (v:aa) (s' s2':St) (G':Gh):Prop where
 agree:lj s.ci ch ch'
 inb:lG Q ch'
 eval:mX (ce (Q.at ch') n) m args mk s=some (v,s')
 same:gl mk s s' s2 s2'
 wr:WR G' s2'.heap w'
 ext:cO G s2.heap w G' s2'.heap w' s.aL s'.aL
 val:VR G' v y
variable{xs:List Value}{args:List aa}{m:Nat}{A:Nat->Prop}
theorem awt(d0:sX Q n)(ro:Option Nat){G:Gh}(p:lI mk A G s s2 w)(hv:bV G args xs)(hi:lG Q ch){ad:Addr}(hm:G.at_ m=some ad)(hs: ∀Y,lj s.ci ch Y->lG Q Y-> ∃v s',mX (ce (Q.at Y) n) m args mk s=some (v,s')/\ ∀q,s.aL<=q->q<s'.aL->A q):
 ∃g:Loop,w.heap[ad.block]? =some (.loop g)/\xs.length=g.params.size/\
  RoundIn (mA ro) 0 Q.P ad.block g.fn ((g.params.zip ⟨xs⟩).foldl (fun tmps (t,a)=>tmps.setIfInBounds t a) g.tmps) g.assign g.body w
   (fun e w'=> ∃y,e= .returned y/\ ∃Y v s' s2' G',Uq Q n m args mk ch G s s2 w y w' Y v s' s2' G'):=by
 obtain⟨v0,s0,h0,_⟩:=hs ch (.refl _ _) hi;simp only[mX,ak] at h0;obtain⟨o,ho,⟨u,o',s3⟩,V,_⟩:=h0;unfold BD at V;split at V
 case h_2=>cases V
 rename_i f env C ps a b;obtain⟨c6,V⟩:=bc V;simp only[ak] at V;obtain⟨a6,b2,_⟩:=V;have b5:=(tE (p.sees.look ho)).2;obtain⟨f0,a9,e3,g,a0,U⟩:=p.wr.obj m _ b5;rw[hm] at a9;injection a9 with a9;subst a9
 have g1:=fG.put ho (mk:=mk) none;have y1:iJ mk (s.put m none) (s2.put m none):=(gl.put p.sees ho none).sees p.sees g1;have d5:WR G (s2.put m none).heap w:=p.wr.killed m;have c7: ¬eB G (s2.put m none).heap ad.block:=JK p.wr (by rw[b5];simp) hm;have E:lk G s2.heap ad.block:=⟨m,ad,_,b5,rfl,hm,rfl⟩;have a8:eB G s2.heap ad.block:=E.owns;have hl:=i9 a0;have p1:lI mk A G (s.put m none) (s2.put m none) w:=⟨p.fresh.goes g1,y1,d5,p.free⟩;have c5: ∀t∈ps,t<C:=fun t ht=>qB (fD.1 c6 t ht);obtain⟨c8,e0,c0⟩:=adj b2 hv c5 U.size U.env;have b8:(g.params.zip ⟨xs⟩).foldl (fun tmps (t,a)=>tmps.setIfInBounds t a) g.tmps=(ps.zip xs).foldl (fun tmps (t,a)=>tmps.setIfInBounds t a) g.tmps:=by
  rw[<-U.params];have:g.params.zip (⟨xs⟩:Array Value)=(⟨g.params.toList.zip xs⟩:Array (Tmp×Value)):=by apply qi;simp
  rw[this];simp
 have a3:g.params.size=ps.length:=by rw[<-U.params];simp
 have e7: ∀t,Loc.get [] t (Loc.gen [] t)=none:=fun t=>rfl;have e5:cE G (s2.put m none).heap (fun _=>0) ⟨a6,C,[]⟩ ((ps.zip xs).foldl (fun tmps (t,a)=>tmps.setIfInBounds t a) g.tmps) w:=
  ⟨e0,fun t=>LV.of_VR (c0 t),⟨(fun t cs h=>by cases h),(fun t cs h=>by cases h),(fun t cs h=>by cases h),(fun t u cs ds h=>by cases h)⟩⟩
 have b0: ∀c,mX (ce (Q.at c) n) m args mk s=((lu Q n f a mk ⟨a6,C,[]⟩ (s.put m none) c).bind (zL (ce (Q.at c) n) f env C ps a b mk)).bind fun x=>some (x.1,x.2.2.put m (some x.2.1)):=by
  intro c;simp only[mX,ho,bk,BD,c6,cT,b2];rfl
 refine⟨g,a0,by rw[c8,a3],?_⟩;rw[b8,U.assign,U.body];refine roundIn_of_wpIn (AB ro _) ?_;rw[aj4];refine(d0 (some ad.block) f a mk ⟨a6,C,[]⟩ ch A G (fun _=>0) (s.put m none) (s2.put m none) ⟨_,[]⟩ w (fun _=>U.flatA) (fun l hl=>by grind) p1 e5 hi ?_ _ ?_).1;intro c h1 h2;obtain⟨v,s',h3,h4⟩:=hs c h1 h2;rw[b0] at h3;simp only[ak,aM,bC] at h3;obtain⟨⟨u,o',s5⟩,⟨⟨x,fr',s4⟩,h5,h6⟩,_,rfl⟩:=h3;refine⟨x,fr',s4,h5,fun q hq b4=>h4 q hq (gh b4 ?_)⟩;cases x with
 |exit i=>cases h6
 |ret=>cases h6
 |normal=>
  simp only[zL,ak] at h6;obtain⟨⟨T,a5,s6⟩,h7,h8⟩:=h6;have e6:s6=s5:=by cases T<;>(grind [BC])
  subst e6;exact(V5 (Q:=Q) (n:=n) (ch:=c) h7).aL
 rintro x a1 w1 ⟨c1,fr1,s3,Z,G1,B1,c3,c4,e1,z⟩;obtain⟨v,s',h3,h4⟩:=hs c1 c3 c4;have e8:=h3;rw[b0,e1] at h3;simp only[bk,ak,aM,bC] at h3;obtain⟨⟨u,o',s5⟩,h6,_,rfl⟩:=h3;have e4: ¬LB (fun _=>0) ([]:Loc) ad.block:=fun⟨t,cs,h,_⟩=>by cases h
 have O:w1.heap[ad.block]? =some (.loop g):=(z.ext.keep _ hl c7 e4).trans a0;have a4: ¬eB G1 Z.heap ad.block:=fun o=>c7 (z.ext.owns _ hl o);cases x with
 |exit i=>cases h6
 |ret=>cases h6
 |normal=>
  refine⟨_,run_beginRound O U.state,?_⟩;rw[Rk];have a7:=p1.after z;have p2:lI mk A G1 s3 Z (dw w1 ad.block (.loop {g with state:=.busy })):=⟨a7.fresh,a7.sees,a7.wr.aside O trivial a4,a7.free⟩;have d2:cE G1 Z.heap B1 fr1 a1.tmps (dw w1 ad.block (.loop {g with state:=.busy })):=z.fx.aside O trivial;have b7:=i9 O;have d1:(dw w1 ad.block (.loop {g with state:=.busy })).heap[ad.block]? =some (.loop {g with state:=.busy }):=by rw[jD _ _ _ _ b7,iP rfl]
  refine(d0 (some ad.block) f b mk fr1 c1 A G1 B1 s3 Z a1 _ (fun _=>U.flatB) (fun l hl=>by grind) p2 d2 c4 ?_ _ ?_).1;intro c h1 h2;obtain⟨v,s',h7,h8⟩:=hs c (c3.trans h1 z.goes.ci) h2;rw[b0,MW Q n f a mk _ _ c1 _ _ _ e1 c h1] at h7;simp only[bk,ak,aM,bC,zL] at h7;obtain⟨⟨u,o',s6⟩,⟨⟨T,a5,s7⟩,h9,e9⟩,_,rfl⟩:=h7;refine⟨T,a5,s7,h9,fun q hq b4=>h8 q (eL z.goes.aL hq) ?_⟩;have e6:s7=s6:=by cases T<;>(grind [BC])
  subst e6;exact b4;rintro T a2 w3 ⟨c2,a5,s6,b3,G2,B2,d4,d6,e2,R⟩;have J:w3.heap[ad.block]? =some (.loop {g with state:=.busy }):=(R.ext.keep _ (by rw[Ds];exact b7) a4 (d2.not_LB d1 trivial)).trans d1;have b1: ¬eB G2 b3.heap ad.block:=fun o=>a4 (R.ext.owns _ (by rw[Ds];exact b7) o);have b6:G2.at_ m=some ad:=R.ext.le.at_ _ _ (z.ext.le.at_ _ _ hm);have fin: ∀(I:Option Code) (pe:Option Ex),I=pe.map Ex.code->BC f env C ps a b (T,a5,s6)=some (.bool I.isNone,.loop f env C ps a b pe,s6)->
   ∃v w',(Instr.endRound ad.block I).run Q.P w3= .ok v w'/\ ∃y,Ending.returned v= .returned y/\ ∃Y v s' s2' G',Uq Q n m args mk ch G s s2 w y w' Y v s' s2' G':=by
   intro I pe hj d7;refine⟨_,_,run_endRound I J,_,rfl,c2,.bool I.isNone,s6.put m (some (.loop f env C ps a b pe)),b3.put m (some (.loop f env C ps a b pe)),G2,?_⟩;rw[Rk];have c9:iH G s2.heap w G2 b3.heap w3 s.aL s6.aL (fun _=>False):=by
    have x0:cO G s2.heap w G (s2.put m none).heap w s.aL s.aL:=cO.killed;have x1:iH G s2.heap w G1 Z.heap (dw w1 ad.block (.loop {g with state:=.busy })) s.aL s3.aL (fun _=>False):=
     ((x0.toL fun _=>False).trans z.ext (fun b h=>by obtain⟨t,cs,h,_⟩:=h;cases h) (bj _) z.goes.aL).aside O trivial trivial (fun _=>E)
    exact x1.trans R.ext (fun b h=>by
     rcases z.boxes b h with h|h
     obtain⟨t,cs,h,_⟩:=h;cases h;exact .inr h) z.goes.aL R.goes.aL
   refine⟨c3.trans d4 z.goes.ci,d6,?_,(gl.trans z.goes R.goes z.same R.same).hide p.sees ho _,?_,?_,.bool _⟩;rw[b0,MW Q n f a mk _ _ c1 _ _ _ e1 c2 d4];have e2:(ce (Q.at c2) n).code f b mk fr1 s3=some (T,a5,s6):=e2;simp only[bk,zL,e2,d7];refine(R.wr.aside J trivial b1).back b6 e3 b1 ⟨_,by rw[jD _ _ _ _ (i9 J),iP rfl],?_⟩ (R.wr.aside_ro J trivial);refine⟨?_,hj,U.size,fun t=>(U.env t).mono (z.ext.le.trans R.ext.le),U.params,U.assign,U.body,U.flatA,U.flatB⟩;cases pe<;>(subst hj;rfl);have T:=(c9.toExt fun _ h=>h).aside (ob:=.loop { {g with state:=.busy } with state:=if I.isNone then .ready else .done,pending:=I }) J trivial trivial (fun _=>E);exact⟨T.le,T.size,T.keepW,fun c hc o=>by
    rcases avo b6 o with rfl|o
    exact a8;exact T.owns c hc o,T.names,T.cells,T.quiet,fun c hc o=>by
    rcases avn b6 o with rfl|o
    exact E;exact T.ownsW c hc o⟩
  cases T with
  |normal=>exact fin none none rfl rfl
  |exit id=>exact fin (some (.exit id)) (some (.exit id)) rfl rfl
  |ret=>exact fin (some .ret) (some .ret) rfl rfl
structure LA (Q:aF) (n:Nat) (f:FuncId) (o:Oper) (mk:aH) (fr:Fr) (ch:Nat->Nat) (G:Gh) (B:Nat->Nat) (s s2:St) (w:World) (x:Value) (w':World)
 (ch':Nat->Nat) (v:aa) (loc':Loc) (s' s2':St) (G':Gh) (B':Nat->Nat):Prop where
 agree:lj s.ci ch ch'
 inb:lG Q ch'
 eval:eW (Q.at ch') (ce (Q.at ch') n) f o mk fr s=some (v,loc',s')
 same:gl mk s s' s2 s2'
 wr:WR G' s2'.heap w'
 ext:iH G s2.heap w G' s2'.heap w' s.aL s'.aL (LB B fr.loc)
 locs:qr G' s2'.heap B' loc' w'
 val:LV G' loc' B' v x
 old: ∀u y,LV G fr.loc B u y->LV G' loc' B' u y
 boxes: ∀b,LB B' loc' b->LB B fr.loc b\/w.heap.size<=b
def atx{it:aa}{b:Bool}{r:aa×St}(h:o6 mk ch kmax it b s=some r)(z:2<=kj mk it s):kj mk it s<=kmax s.ci:=by
 unfold o6 at h;split at h;rename_i n;simp only[ak] at h;obtain⟨ob,y,h⟩:=h;split at h;simp[kj,y] at z;rename_i m C g p;cases b;simp only[cF,ak] at h;obtain⟨J,q,h⟩:=h;split at h;rename_i I E;have O:kj mk (.ptr n 0) s=(l9 g I).length:=by simp[kj,y,q]
 rw[O] at z ⊢;rcases gn h with⟨_,h⟩|⟨_,h⟩
 cases h;generalize l9 g I=l at h z;unfold tX at h;split at h;simp at z;obtain⟨_,h⟩:=bc h;split at h;simp at z;obtain⟨h,_⟩:=bc h;exact kR h;cases h;cases h;cases h;cases h
theorem abP(hc:xU Q n)(c5:sX Q n)(ro:Option Nat){G:Gh}(p:lI mk A G s s2 w)(fx:cE G s2.heap B fr a.tmps w)(hi:lG Q ch)(he: ∀q,lj s.ci ch q->lG Q q-> ∃v loc' s',eW (Q.at q) (ce (Q.at q) n) f o mk fr s=some (v,loc',s')/\ ∀m,s.aL<=m->m<s'.aL->A m)(K:Act->World->Prop)(E:Exit->Act->World->Prop)(hK: ∀x w' q v loc' s' s2' G' B',LA Q n f o mk fr ch G B s s2 w x w' q v loc' s' s2' G' B'->K (a.put o.dst x) w'):o.wpIn (mA ro) 0 Q.P a w K E:=by
 have a4:bI mk (fun ch s=>eW (Q.at ch) (ce (Q.at ch) n) f o mk fr s):=FF (Q:=Q) (lU Q n) f o mk fr;have plain:(∀c,o.op≠ .defer c)->(∀q s,eW (Q.at q) (ce (Q.at q) n) f o mk fr s=lL Q.P mk q Q.kmax (Q.hint f) o.dst o.op fr s)->o.wpIn (mA ro) 0 Q.P a w K E:=by
  intro a0 O;have a7: ∃q,lj s.ci ch q/\lG Q q/\ ∀x b U,o.op= .next x b->evc fr.env x=some U->2<=kj mk U s2->
   q s2.ci % kj mk U s2=(w.tape w.drawn (.mapNext (kj mk U s2))) % kj mk U s2:=by
   by_cases hn: ∃x b U,o.op= .next x b/\evc fr.env x=some U/\2<=kj mk U s2
   obtain⟨x,b,U,b1,b0,c0⟩:=hn;obtain⟨v,loc',s',h1,_⟩:=he ch (.refl _ _) hi;obtain⟨s2',h3,_⟩:=(a4 ch s v loc' s' h1).2 ch s2 (fun _ _=>rfl) p.sees;have c4:kj mk U s2<=Q.kmax s.ci:=by
    have h3:eW (Q.at ch) (ce (Q.at ch) n) f o mk fr s2=some (v,loc',s2'):=h3;rw[O,b1] at h3;simp only[lL,b0,bk,f9,ak] at h3;obtain⟨r,hr,_⟩:=h3;rw[<-p.sees.ci];exact atx hr c0
   refine⟨fun i=>if i=s.ci then(w.tape w.drawn (.mapNext (kj mk U s2))) % kj mk U s2 else ch i,?_,?_,?_⟩;intro i c9
   grind
   intro i;simp only;split;rename_i e;subst e;exact gh (Nat.mod_lt _ (by omega)) c4;exact hi i;intro x' b' c8 a3 a2 _;rw[b1] at a3;injection a3 with e1 e2
   subst e1;rw[b0] at a2;injection a2 with e3
   subst e3;simp only;rw[iP p.sees.ci,Nat.mod_mod];exact⟨ch,.refl _ _,hi,fun x b U h1 h2 h3=>absurd ⟨x,b,U,h1,h2,h3⟩ hn⟩
  obtain⟨q,b7,b3,a7⟩:=a7;obtain⟨v,loc',s',h1,h2⟩:=he q b7 b3;obtain⟨g,hl⟩:=a4 q s v loc' s' h1;obtain⟨s2',h3,h4⟩:=hl q s2 (fun _ _=>rfl) p.sees;have c6:lL Q.P mk q Q.kmax (Q.hint f) o.dst o.op fr s2=some (v,loc',s2'):=by rw[<-O];exact h3
  have a6:=ago p.wr fx c6 (fun m b2 c3=>p.free m (by rw[<-p.sees.aL];exact b2) (h2 m (by rw[<-p.sees.aL];exact b2) (by rw[<-h4.aL];exact c3))) a7;obtain⟨nx,x,w',G',B',r1,r2,r3,r4,r5,r6,r7,r8⟩:=a6;have b8:iH G s2.heap w G' s2'.heap w' s.aL s'.aL (LB B fr.loc):=by rw[<-p.sees.aL,<-h4.aL];exact r4
  have hk:=hK x w' q v loc' s' s2' G' B' ⟨b7,b3,h1,h4,r3,b8,r5,r6,r7,r8⟩;refine⟨fun _ _=>AB ro _,?_⟩;rw[Oper.semAt_eq _ _ _ a0,r1];rcases r2 with rfl|⟨rfl,rfl⟩<;>exact hk
 cases O:o.op
 case call c=>
  cases hcl:c.callee with
  |builtin b=>exact plain (fun c h=>by rw[O] at h;cases h) fun q s=>by simp only[eW,O,hcl,lL];rfl
  |invoke x y=>
   obtain⟨v,loc',s',h1,_⟩:=he ch (.refl _ _) hi
   simp_all [eW,pF,callee,oY]
  |value g=>
   have a0: ∀c,o.op≠ .defer c:=fun c h=>by rw[O] at h;cases h
   cases hyld:oY fr.env c with
   |true=>
    have J: ∀q s,eW (Q.at q) (ce (Q.at q) n) f o mk fr s=sM (ce (Q.at q) n) c mk fr s:=fun q s=>by grind [eW]
    obtain⟨v0,a9,s0,h0,_⟩:=he ch (.refl _ _) hi;rw[J] at h0;simp only[sM,ak] at h0;obtain⟨⟨m,args⟩,I,_⟩:=h0;have a5:=I;simp only[yieldee,hcl,ak] at I;obtain⟨gv,hg,I⟩:=I;have R:=fx.ev hg;cases gv<;>try (cases I;done)
    rename_i m';simp only[ak,aM,bC] at I;obtain⟨as,a8,rfl,rfl⟩:=I;have R:VR G (.yld m') (a.eval g):=R;generalize hgx:a.eval g=gx at R;cases R with
    |yld hm=>
     rename_i ad;have T:=(fx.evcs a8).1;obtain⟨V,q1,q2,q3⟩:=awt c5 ro p T hi hm (fun q ha hb=>by
      grind [sM,ak])
     have Z:(execOp a.eval o).run Q.P w= .ok (.round ad.block V.fn ((V.params.zip ⟨c.args.toList.map a.eval⟩).foldl (fun tmps (t,a)=>tmps.setIfInBounds t a) V.tmps) V.assign V.body) w:=by
      have c2:(⟨c.args.toList.map a.eval⟩:Array Value).size=V.params.size:=by rw[<-q2];rfl
      have:=run_yield (P:=Q.P) (args:=⟨c.args.toList.map a.eval⟩) q1 c2;have e:(#[]:Array Value)++c.args.map a.eval=⟨c.args.toList.map a.eval⟩:=by apply qi;simp
      simp only[execOp,O,resolve,hcl,hgx,Deferred.ofValue,Sem.run_bind,Sem.run_pure,mh,invoke,e];exact this
     refine⟨fun _ _=>AB ro _,?_⟩;rw[Oper.semAt_eq _ _ _ a0,Z];refine⟨NB ro 0,q3.mono ?_⟩;rintro e w' ⟨y,rfl,q,v,s',s2',G',c1⟩;refine hK y w' q v fr.loc s' s2' G' B ⟨c1.agree,c1.inb,?_,c1.same,c1.wr,c1.ext.toL _,fx.locs.ext c1.ext,LV.of_VR c1.val,fun _ _ h=>h.mono c1.ext.le,fun _ h=>.inl h⟩;rw[J];simp only[sM,a5,bk,c1.eval]
   |false=>
   have J: ∀q s,eW (Q.at q) (ce (Q.at q) n) f o mk fr s=pF (ce (Q.at q) n) c mk fr s:=fun q s=>by grind [eW]
   obtain⟨v0,a9,s0,h0,_⟩:=he ch (.refl _ _) hi;rw[J] at h0;simp only[pF,ak] at h0;obtain⟨⟨fn,args⟩,z,_⟩:=h0;have Y:=z;simp only[callee,hcl,ak] at z;obtain⟨gv,hg,z⟩:=z;have R:=fx.ev hg;cases gv<;>try (cases z;done)
   rename_i c7 first C
   cases c7<;>try (cases z;done)
   rename_i a1;simp only[ak] at z;obtain⟨as,a8,z⟩:=z;simp only[aM,bC] at z;obtain⟨rfl,rfl⟩:=z;have R:VR G (.func (.func a1) first C) (a.eval g):=R;generalize hgx:a.eval g=gx at R;cases R with
   |func hf b5=>
    rename_i fs cs;have T:=(fx.evcs a8).1;have b6:bV G (first++(as++C)) (fs++(c.args.toList.map a.eval++cs)):=hf.append (T.append b5);have Z:(execOp a.eval o).run Q.P w=(callFunc a1 ⟨fs++(c.args.toList.map a.eval++cs)⟩).run Q.P w:=by
     have:(((⟨fs⟩:Array Value)++c.args.map a.eval)++(⟨cs⟩:Array Value))=⟨fs++(c.args.toList.map a.eval++cs)⟩:=by
      apply qi;simp
     simp only[execOp,O,resolve,hcl,hgx,Deferred.ofValue,Sem.run_bind,Sem.run_pure,mh,invoke,this]
    have b4:=hc a1 (first++(as++C)) mk s s2 G w _ ch A p b6 hi (fun q ha hb=>by
     grind [pF,ak])
    have fin: ∀y w',(∃q v s' s2' G',G7 Q n a1 (first++(as++C)) mk ch G s s2 w y w' q v s' s2' G')->K (a.put o.dst y) w':=by
     rintro y w' ⟨q,v,s',s2',G',c⟩;refine hK y w' q v fr.loc s' s2' G' B ⟨c.agree,c.inb,?_,c.same,c.wr,c.ext.toL _,fx.locs.ext c.ext,LV.of_VR c.val,fun _ _ h=>h.mono c.ext.le,fun _ h=>.inl h⟩;rw[J];simp only[pF,Y,bk,c.eval]
    refine⟨fun _ _=>AB ro _,?_⟩;rw[Oper.semAt_eq _ _ _ a0,Z];rcases b4 with⟨y,w',h1,h2⟩|⟨h1,h2⟩
    rw[h1];exact fin y w' h2;rw[h1];refine⟨NB ro 0,Ws.2 (h2.mono ?_)⟩
    grind
 case defer c=>
  obtain⟨v,loc',s',h1,_⟩:=he ch (.refl _ _) hi
  grind [eW,lL]
 all_goals exact plain (fun c h=>by rw[O] at h;cases h) fun q s=>by simp only[eW,O];rfl
section
variable{mk:aH}{A:Nat->Prop}{fr fr' fr'':Fr}{G G' G'':Gh}{B B' B'':Nat->Nat}{s s' s'' s2 s2' s2'':St}{a a' a'':Act}{w w' w'':World}
def LA.after{g:Nat->Nat}{loc':Loc}(fx:cE G s2.heap B fr a.tmps w)(q:LA Q n f o mk fr ch G B s s2 w x w' g v loc' s' s2' G' B')(hp:cR fr o.dst v loc'=some fr'):
 pw mk fr G B s s2 a w fr' G' B' s' s2' (a.put o.dst x) w' where
 goes:=(FF (Q:=Q) (lU Q n) f o mk fr g s v loc' s' q.eval).1
 same:=q.same
 wr:=q.wr
 ext:=q.ext
 fx:=fx.put hp q.locs q.val q.old
 boxes b h:=q.boxes b (by rw[(t5 hp).2.1] at h;exact h)
 defers:=⟨[],LX _ _ _,.nil _ _⟩
def Sy(G:Gh):VR G fL undef:=.tup .nil
def pw.skip(p:lI mk A G s s2 w)(fx:cE G s2.heap B fr a.tmps w)(hp:cR fr dst fL fr.loc=some fr'):
 pw mk fr G B s s2 a w fr' G B s s2 (a.put dst undef) w where
 goes:=.refl _ _
 same:=.refl p.sees
 wr:=p.wr
 ext:=cO.refl.toL _
 fx:=fx.put hp fx.locs (LV.of_VR (Sy G)) fun _ _ h=>h
 boxes b h:=.inl (by rw[(t5 hp).2.1] at h;exact h)
 defers:=⟨[],LX _ _ _,.nil _ _⟩
end
noncomputable def vo(Q:aF)(n:Nat)(f:FuncId)(all:Array Oper)(mk:aH)(l:List Oper)(fr:Fr)(s:St)(ch:Nat->Nat):Option (Ex×Fr×St):=
 ((ce (Q.at ch) n).ops f all mk l fr s).bind fun x=>some (.normal,x.1,x.2)
def He(Q:aF)(n:Nat):Prop:=
 ∀(ro:Option Nat) (f:FuncId) (all:Array Oper) (mk:aH) (l:List Oper) (i:Nat) (fr:Fr) (ch:Nat->Nat) (A:Nat->Prop) (G:Gh) (B:Nat->Nat) (s s2:St) (a:Act) (w:World),
  lI mk A G s s2 w->cE G s2.heap B fr a.tmps w->lG Q ch->(∀k o,l[k]? =some o->all[i+k]? =some o)->te Q A ch s (vo Q n f all mk l fr s)->
  ∀K:Exit->Act->World->Prop,(∀a' w',uC Q mk ch fr G B s s2 a w (vo Q n f all mk l fr s) .normal a' w'->K .normal a' w')->wpOpsIn (mA ro) 0 Q.P all K (List.range' i l.length) a w
def avc{all:Array Oper}{l:List Oper}{x:Ex}(h:vo Q n f all mk l fr s ch=some (x,fr',s')):fG mk s s':=by
 simp only[vo,ak,aM,bC] at h;obtain⟨⟨fr1,s1⟩,h1,_,_,rfl⟩:=h;exact((lU Q n).ops f all mk l fr ch s fr1 s1 h1).1
theorem avd(hc:xU Q n)(a2:sX Q n)(hn:He Q n):He Q (n+1):=by
 intro ro f all mk l i fr ch A G B s s2 a w p V hi hl O K hK;cases l with
 |nil=>
  simp only[List.length_nil,List.range'_zero,wpOpsIn];exact hK a w ⟨ch,fr,s,s2,G,B,.refl _ _,hi,rfl,.refl p V⟩
 |cons o g=>
  have ho:all[i]? =some o:=hl 0 o rfl;have T: ∀k o,g[k]? =some o->all[i+1+k]? =some o:=fun k o' hk=>by
   have:=hl (k+1) o' (by simpa using hk)
   grind
  simp only[List.length_cons,List.range'_succ,wpOpsIn,ho,V.wanted];cases hw:eP all fr.env o with
  |false=>
   simp only[KX,if_false];have z: ∀c,vo Q (n+1) f all mk (o::g) fr s c=((cR fr o.dst fL fr.loc).bind fun fr'=>vo Q n f all mk g fr' s c):=by
    intro c;show((mO (Q.at c) (ce (Q.at c) n) f all mk (o::g) fr s).bind _)=_;simp only[mO,hw,cF,vo];cases cR fr o.dst fL fr.loc<;>rfl
   obtain⟨x0,Y,s0,h0,_⟩:=O ch (.refl _ _) hi;rw[z] at h0;simp only[ak] at h0;obtain⟨fr1,J,_⟩:=h0;have E:=pw.skip p V (a:=a) J;refine⟨fun _ _=>AB ro _,?_⟩;refine hn ro f all mk g (i+1) fr1 ch A G B s s2 _ w p E.fx hi T ?_ K ?_;intro c h1 C
   have:=O c h1 C;rw[z,J] at this;exact this;intro a' w' ⟨c,fr',s',s2',G',B',h1,C,I,U⟩;refine hK a' w' ⟨c,fr',s',s2',G',B',h1,C,?_,E.trans U⟩;rw[z,J];exact I
  |true=>
   simp only[if_true];have z: ∀c,vo Q (n+1) f all mk (o::g) fr s c=((eW (Q.at c) (ce (Q.at c) n) f o mk fr s).bind fun x=>(cR fr o.dst x.1 x.2.1).bind fun fr'=>vo Q n f all mk g fr' x.2.2 c):=by
    intro c;show((mO (Q.at c) (ce (Q.at c) n) f all mk (o::g) fr s).bind _)=_;simp only[mO,hw,cT,vo];cases eW (Q.at c) (ce (Q.at c) n) f o mk fr s with
    |none=>rfl
    |some x=>
     grind
   refine abP (f:=f) (fr:=fr) hc a2 ro p V hi ?_ _ K ?_;intro c h1 C;obtain⟨x0,Y,s0,h0,hA⟩:=O c h1 C;rw[z] at h0;simp only[ak] at h0;obtain⟨⟨v,loc',s1⟩,I,fr1,_,h5⟩:=h0;exact⟨v,loc',s1,I,fun m hm a1=>hA m hm (gh a1 (avc h5).aL)⟩;intro x w' Z v loc' s1 a0 G1 B1 q;obtain⟨x0,Y,s0,h0,_⟩:=O Z q.agree q.inb;rw[z,q.eval] at h0;simp only[bk,ak] at h0;obtain⟨fr1,J,_⟩:=h0;have E:=q.after V J;have R: ∀c,lj s1.ci Z c->eW (Q.at c) (ce (Q.at c) n) f o mk fr s=some (v,loc',s1):=fun c a3=>
    Es (Q:=Q) (lU Q n) (tS Q n) f o mk fr Z s v loc' s1 q.eval c a3
   refine hn ro f all mk g (i+1) fr1 Z A G1 B1 s1 a0 _ w' (p.after E) E.fx q.inb T ?_ K ?_;intro c h1 C;obtain⟨y,fr',s',I,U⟩:=O c (q.agree.trans h1 E.goes.ci) C;rw[z,R c h1] at I;simp only[bk,J] at I;exact⟨y,fr',s',I,fun m hm=>U m (eL E.goes.aL hm)⟩;intro a' w'' ⟨c,fr',s',s2',G',B',h1,C,I,U⟩;refine hK a' w'' ⟨c,fr',s',s2',G',B',q.agree.trans h1 E.goes.ci,C,?_,E.trans U⟩
   grind
def LB.congr(h: ∀u,lH l l2 u):LB B l b->LB B l2 b:=by
 rintro⟨t,cs,h1,g⟩;refine⟨t,cs,?_,g⟩;rw[<-(h t).1,<-(h t).2];exact h1
def cE.congr{G:Gh}{g:Fr}(x:cE G h B fr tmps w)(hs:g.size=fr.size)(C: ∀d,ac g.env d=ac fr.env d)(hl: ∀u,lH fr.loc g.loc u):cE G h B g tmps w where
 size:=x.size.trans hs.symm
 env t:=by
  have:=x.env t;rw[C t];revert this;generalize ac fr.env t=v;generalize tmps.getD t undef=y;intro q;cases v<;>first
   |exact q
   |(obtain⟨h1,h2,h3⟩:=q
     exact⟨by rw[<-(hl _).1];exact h1,h2,fun e=>h3 (by rw[(hl _).1];exact e)⟩)
 locs:=by
  have p: ∀t cs,g.loc.get t (g.loc.gen t)=some cs->fr.loc.get t (fr.loc.gen t)=some cs:=fun t cs h=>by
   rw[(hl t).1,(hl t).2];exact h
  exact⟨fun t cs h=>x.locs.cells t cs (p t cs h),fun t cs h=>x.locs.free t cs (p t cs h),fun t cs h=>x.locs.ro t cs (p t cs h),
   fun t u cs z h h'=>x.locs.inj t u cs z (p t cs h) (p u z h')⟩
section
variable{Q:aF}{f:FuncId}{all:Array Oper}{mk:aH}{F:Nat->Fr}{S:Nat->St}{M:Nat->aH}{lv:Nat->Nat}{Lo:Nat->Bool}
theorem aO.untouched(t:aO Q f all mk F S M lv Lo)(z:k<all.size)(h: ¬aO.Th Q f all F S M k n):(S (k+1)).heap.get n=(S k).heap.get n:=by
 have p:all[k]? =some all[k]:=sO z;cases hw:eP all (F k).env all[k] with
 |true=>
  obtain⟨v,loc',s1,_,_,_,q,_,g⟩:=t.done p hw;rw[q];refine g.frame n fun y=>h ⟨_,p,hw,?_⟩;rw[q];exact y
 |false=>
  rcases t.step p with⟨h',_⟩|⟨_,_,h'⟩
  all_goals grind
theorem aO.X_from(t:aO Q f all mk F S M lv Lo)(h:aO.X Q f all F S M H n k=(S k).heap.get n): ∀ {j:Nat},k<=j->j<=all.size->aO.X Q f all F S M H n j=(S j).heap.get n
 |0,h1,_=>by grind
 |j+1,h1,h2=>by
  by_cases e:k=j+1;subst e;exact h;have g:=t.X_from h (j:=j) (by omega) (by omega);rw[aO.X];split;rfl;rename_i p;rw[g,t.untouched (by omega) p]
def aO.Th_touch(t:aO Q f all mk F S M lv Lo): ∀ {k:Nat},k<=all.size->dI mk n=false->(S k).heap.get n≠none->nh mk (S 0) (S k) n
 |0,_,hn,h=>.inl ⟨hn,h⟩
 |k+1,hk,hn,h=>by
  have q:=t.next_le (sO (show k<all.size by omega));by_cases hT:aO.Th Q f all F S M k n;obtain⟨o,z,y,p⟩:=hT;rcases p with⟨_,g⟩|g
  exact(t.Th_touch (k:=k) (by omega) hn g).imp id fun h=>⟨h.1,by omega⟩;exact .inr ⟨eL (t.mono (jY k) (by omega)) g.1,g.2⟩;rw[t.untouched (by omega) hT] at h;exact(t.Th_touch (k:=k) (by omega) hn h).imp id fun h=>⟨h.1,by omega⟩
theorem aO.hid(t:aO Q f all mk F S M lv Lo)(g:all[k]? =some o)(h:dI (aO.fm Q f F S M k o) n=false):dI mk n=false:=by
 cases e:dI mk n with
 |false=>rfl
 |true=>
  have:=t.tr.more k o (by simpa using g) n e
  grind [aO.fm,NM]
theorem aO.same(t:aO Q f all mk F S M lv Lo){s2:aD aJ}(h0: ∀n o,dI mk n=false->(S 0).heap.get n=some o->s2.get n=some o)(n:Nat):
 (nh mk (S 0) (S all.size) n->aO.X Q f all F S M s2.get n all.size=(S all.size).heap.get n)/\(¬nh mk (S 0) (S all.size) n->aO.X Q f all F S M s2.get n all.size=s2.get n):=by
 constructor
 ·rintro(⟨h1,p⟩|⟨h1,p⟩)
  refine t.X_from (k:=0) ?_ (jY _) (bj _);cases e:(S 0).heap.get n with
  |none=>exact absurd e p
  |some o=>exact h0 n o h1 e
  ·have: ∃k,k<all.size/\(S k).aL<=n/\n<(S (k+1)).aL:=by
    have g: ∀j,j<=all.size->n<(S j).aL-> ∃k,k<all.size/\(S k).aL<=n/\n<(S (k+1)).aL:=by
     intro j
     induction j with
     |zero=>intro _ h;omega
     |succ j z=>
      grind
    exact g _ (bj _) p
   obtain⟨k,J,R,O⟩:=this;have q:all[k]? =some all[k]:=sO J;have y:eP all (F k).env all[k]=true:=by
    cases y:eP all (F k).env all[k] with
    |true=>rfl
    |false=>
     rcases t.step q with⟨h',_⟩|⟨_,_,h'⟩
     all_goals grind
   refine t.X_from (k:=k+1) ?_ (by omega) (bj _);rw[aO.X,iP ⟨_,q,y,.inr ⟨R,O⟩⟩]
 intro C;have g: ∀j,j<=all.size->aO.X Q f all F S M s2.get n j=s2.get n:=by
  intro j
  induction j with
  |zero=>intro _;rfl
  |succ j z=>
   intro U;rw[aO.X,iN];exact z (by omega);rintro⟨o,q,y,E⟩;have T:=t.mono (show j+1<=all.size by omega) (bj _);rcases E with⟨h1,p⟩|⟨h1,p⟩
   have I:=t.mono (show j<=all.size by omega) (bj _);exact C ((t.Th_touch (show j<=all.size by omega) (t.hid q h1) p).imp id fun h=>⟨h.1,by omega⟩);exact C (.inr ⟨eL (t.mono (jY j) (by omega)) h1,by omega⟩)
 exact g _ (bj _)
end
noncomputable def M7(Q:aF)(n:Nat)(f:FuncId)(all:Array Oper)(mk:aH)(fr:Fr)(s:St)(ch:Nat->Nat):Option (Ex×Fr×St):=
 ((ce (Q.at ch) n).draw f all (Region.before all).toList mk [] 0 all.toList fr s).bind fun x=>some (.normal,x.1,x.2)
structure Tt (Q:aF) (f:FuncId) (all:Array Oper) (F:Nat->Fr) (S:Nat->St) (M:Nat->aH) (B:Nat->Nat) (G:Gh) (s2:St) (a:Act) (w:World) (listed:Array Bool) (a':Act) (w':World)
 (fr':Fr) (h:aD aJ) (G':Gh) (B':Nat->Nat):Prop where
 size:listed.size=all.size
 closed:Lv all (fun k=>listed.getD k false=true)
 cur:kP Q f all F S M s2.heap.get (fun k=>listed.getD k false=true) fr' h.get
 wr:WR G' h w'
 ext:iH G s2.heap w G' h w' (S 0).aL (S all.size).aL (LB B (F 0).loc)
 fx:cE G' h B' fr' a'.tmps w'
 boxes: ∀b,LB B' fr'.loc b->LB B (F 0).loc b\/w.heap.size<=b
 defers: ∃rs,a'.defers=rs.map wV++a.defers/\v6 w.heap.size w' rs
 free: ∀k,k<all.size->listed.getD k false=false-> ∀m,(S k).aL<=m->m<(S (k+1)).aL->G'.at_ m=none
def kP.congr{all:Array Oper}{q:Nat->Prop}{h:Nat->Option aJ}(c:kP Q f all F S M H D fr h)(p: ∀k,k<all.size->(D k↔q k)):kP Q f all F S M H q fr h where
 env t:=(c.env t).trans (FO (X:=fun k=>ac (F k).env t) fun k g _=>p k g)
 size:=c.size
 loc u:=(c.loc u).trans (FO (X:=aO.L F u) fun k g _=>p k g)
 heap n:=(c.heap n).trans (FO (X:=aO.X Q f all F S M H n) fun k g _=>p k g)
theorem HZ{listed:Array Bool}(hi:i<listed.size)(k:Nat):(listed.setIfInBounds i true).getD k false=true↔(listed.getD k false=true\/k=i):=by
 simp only[ui,S4]
 grind
def vJ(listed:Array Bool):Nat:=listed.toList.countP (fun b=> !b)
theorem azc{listed:Array Bool}(h:listed.getD i true=false):vJ (listed.setIfInBounds i true)+1=vJ listed:=by
 obtain⟨l⟩:=listed;simp only[vJ,List.setIfInBounds_toArray,ui,List.getElem?_toArray] at*
 grind
def azb{listed:Array Bool}(h:vJ listed=0)(k:Nat)(g:k<listed.size):listed.getD k false=true:=by
 obtain⟨l⟩:=listed;simp only[vJ,List.countP_eq_zero] at h;simp only[List.size_toArray] at g
 have:=h l[k] (List.getElem_mem g)
 simp_all
theorem ai5{all:Array Oper}{G:Gh}(t:aO (Q.at ch) f all mk F S M lv Lo)(ro:Option Nat)(hc: ∀k,k<all.size->xU Q (lv k)/\sX Q (lv k))(hi:lG Q ch)(h0: ∀n o,dI mk n=false->(S 0).heap.get n=some o->s2.heap.get n=some o)(K:Exit->Act->World->Prop)(hK: ∀listed a' w' fr' h G' B',(∀k,k<all.size->listed.getD k false=true)->Tt (Q.at ch) f all F S M B G s2 a w listed a' w' fr' h G' B'->K .normal a' w'):
 ∀(p:Nat) (listed:Array Bool) (a':Act) (w':World) (fr':Fr) (h:aD aJ) (G':Gh) (B':Nat->Nat),vJ listed=p->
  Tt (Q.at ch) f all F S M B G s2 a w listed a' w' fr' h G' B'->wpAnyIn (mA ro) 0 Q.P .any all K p listed a' w':=by
 intro p
 induction p with
 |zero=>
  intro listed a' w' fr' h G' B' hu m;have b0: ∀k,k<all.size->listed.getD k false=true:=fun k Y=>azb hu k (by rw[m.size];exact Y);refine⟨?_,hK listed a' w' fr' h G' B' b0 m⟩;rw[List.eq_nil_iff_forall_not_mem]
  grind [mem_ready]
 |succ p ih=>
  intro listed a' w' fr' h G' B' hu m;refine⟨fun hr=>?_,fun i hi'=>?_⟩
  ·
   exfalso;have b2: ∀k,k<all.size->listed.getD k false=true:=by
    intro k
    induction k using Nat.strongRecOn with
    |_ k c1=>
     intro Y;have U:all[k]? =some all[k]:=sO Y;have V:k ∉ Region.ready .any all listed:=by rw[hr];simp
     rw[mem_ready] at V;have c2:k<listed.size:=by rw[m.size];exact Y
     cases e:listed.getD k false with
     |true=>rfl
     |false=>
      exfalso;apply V;refine⟨?_,all[k],U,fun ed b5 g=>?_⟩
      grind
      have z:=Ux t.ap k all[k] (by simp) ed b5 g
      grind
   have hz:vJ listed=0:=by
    obtain⟨l⟩:=listed;simp only[vJ,List.countP_eq_zero];intro b g;obtain⟨k,Y,rfl⟩:=List.getElem_of_mem g;have hs:=m.size;simp only[List.size_toArray] at hs
    have:=b2 k (by omega);simp only[ui,List.getElem?_toArray,List.getElem?_eq_getElem Y,BM] at this;simp[this]
   omega
  rw[mem_ready] at hi';obtain⟨h1,o,U,h2⟩:=hi';have z:=aO.lt_size U;have O:i<listed.size:=by rw[m.size];exact z
  have a8: ¬listed.getD i false=true:=by
   simp only[ui,sO O,BM] at h1 ⊢;rw[h1];simp
  have a7:listed.getD i false=false:=by simpa using a8
  have x:mp all (fun k=>listed.getD k false=true) i o:=⟨m.closed,U,a8,h2⟩;have a5:vJ (listed.setIfInBounds i true)=p:=by have:=azc h1;omega
  have T:(listed.setIfInBounds i true).size=all.size:=by rw[Array.size_setIfInBounds];exact m.size
  have a0:Lv all (fun k=>(listed.setIfInBounds i true).getD k false=true):=by
   intro j oj J b3 e he g;rw[HZ O] at J ⊢;rcases J with J|rfl
   exact .inl (m.closed j oj J b3 e he g)
   grind
  have Z: ∀ {G1:Gh} {b1:aD aJ} {w1:World} {L:Nat->Prop},iH G' h w' G1 b1 w1 (S i).aL (S (i+1)).aL L->
   ∀k,k<all.size->(listed.setIfInBounds i true).getD k false=false-> ∀q,(S k).aL<=q->q<(S (k+1)).aL->G1.at_ q=none:=by
   intro G1 b1 w1 L ex k Y c3 q a4 a3;have a9: ¬(listed.getD k false=true\/k=i):=fun h=>by
    grind [HZ]
   have b4:listed.getD k false=false:=by
    cases e:listed.getD k false with
    |false=>rfl
    |true=>exact absurd (.inl e) a9
   have b8:=m.free k Y b4 q a4 a3;cases e:G1.at_ q with
   |none=>rfl
   |some ad=>
    obtain⟨e1,e2⟩:=ex.names q ad e b8;rcases Nat.lt_trichotomy k i with h|h|h
    have:=t.mono (show k+1<=i by omega) (by omega);omega;exact absurd (.inr h) a9
    have:=t.mono (show i+1<=k by omega) (by omega);omega
  unfold wpOpIn;simp only[U];rw[m.fx.wanted,m.cur.wanted t x];cases hw:eP all (F i).env o with
  |false=>
   simp only[KX,if_false];obtain⟨fr1,hp,I⟩:=m.cur.skip t x hw;refine⟨fun _ _=>AB ro _,?_⟩;refine ih _ _ _ fr1 h G' B' a5 ⟨T,a0,I.congr fun k _=>(HZ O k).symm,m.wr,m.ext,m.fx.put hp m.fx.locs (LV.of_VR (Sy G')) fun _ _ h=>h,?_,?_,?_⟩;intro b g;rw[(t5 hp).2.1] at g;exact m.boxes b g;rw[LX];exact m.defers;exact Z (L:=fun _=>False) (cO.refl.toL _)
  |true=>
   simp only[if_true];obtain⟨v,E,s1,fr1,e1,e2,e3,hp,I⟩:=m.cur.run t h0 x hw;have a2:=m.cur.sees t h0 x hw;have a6:lI (aO.fm (Q.at ch) f F S M i o) (fun q=>q<(S (i+1)).aL) G' (aO.from_ S i (S i).heap) (aO.from_ S i h) w':=
    ⟨fun n hn=>t.none_above (zZ z) n hn,a2,m.wr,fun q a4 a3=>m.free i z a7 q a4 a3⟩
   refine abP (hc i z).1 (hc i z).2 ro a6 m.fx hi (f:=f) (fr:=fr') ?_ _ K ?_;intro c b7 _
   have:=Es (Q:=Q) (lU Q (lv i)) (tS Q (lv i)) f o (aO.fm (Q.at ch) f F S M i o) fr' ch (aO.from_ S i (S i).heap) v E s1 e1 c (fun j J=>b7 j (by rw[e2] at J;exact J))
   grind
   intro y w1 c v' loc' c0 a1 G1 B1 q
   have:=Es (Q:=Q) (lU Q (lv i)) (tS Q (lv i)) f o (aO.fm (Q.at ch) f F S M i o) fr' ch (aO.from_ S i (S i).heap) v E s1 e1 c (fun j J=>q.agree j (by rw[e2] at J;exact J));have hq:=q.eval;have this:eW (Q.at c) (ce (Q.at c) (lv i)) f o (aO.fm (Q.at ch) f F S M i o) fr' (aO.from_ S i (S i).heap)=some (v,E,s1):=this;rw[this] at hq;simp only[aM,bC] at hq;obtain⟨rfl,rfl,rfl⟩:=hq;have b6:=I a1 q.same;have af:=q.after m.fx hp;have ex:iH G' h w' G1 a1.heap w1 (S i).aL (S (i+1)).aL (LB B' fr'.loc):=by
    have:=q.ext;rw[e3] at this;exact this
   refine ih _ _ _ fr1 a1.heap G1 B1 a5 ⟨T,a0,b6.congr fun k _=>(HZ O k).symm,q.wr,?_,af.fx,?_,Wb m.wr m.fx m.defers m.ext.size ex af.defers,Z ex⟩;have C:=m.ext;have R:=ex.widen (lo':=(S 0).aL) (hi':=(S all.size).aL) (t.mono (jY i) (zZ z)) (t.mono (show i+1<=all.size by omega) (bj _));exact⟨C.le.trans R.le,eL C.size R.size,
    fun b g U hl=>(R.keepW b (gh g C.size) (fun o=>U (C.ownsW b g o)) (fun l=>(m.boxes b l).elim hl (fun h=>by omega))).trans (C.keepW b g U hl),
    fun b g o=>C.owns b g (R.owns b (gh g C.size) o),
    fun n ad h h0=>by
     cases e:G'.at_ n with
     |none=>exact R.names n ad h e
     |some b=>exact C.names n b e h0,
    fun b o v g h h0=>by
     cases e:G'.ro b o with
     |none=>exact C.owns b g (R.cells b o v (gh g C.size) h e)
     |some u=>exact C.cells b o u g e h0,
    C.quiet.trans R.quiet,
    fun b g o=>C.ownsW b g (R.ownsW b (gh g C.size) o)⟩
   intro b g;rcases af.boxes b g with h'|h'
   exact m.boxes b h';exact .inr (eL m.ext.size h')
theorem ai6(hm:Q.P.follows .mixedOrders=true)(ro:Option Nat)(hc: ∀k,k<n->xU Q k/\sX Q k){all:Array Oper}{G:Gh}{id:Nat}(p:lI mk A G s s2 w)(fx:cE G s2.heap B fr a.tmps w)(hi:lG Q ch)(V:nW all 0 all.toList (Region.before all).toList=true)(hs:te Q A ch s (M7 Q n f all mk fr s))(K:Exit->Act->World->Prop)(hK: ∀a' w',uC Q mk ch fr G B s s2 a w (M7 Q n f all mk fr s) .normal a' w'->K .normal a' w'):(Code.region id all true).wpIn (mA ro) 0 Q.P K a w:=by
 obtain⟨x0,fr1,s1,h0,hA⟩:=hs ch (.refl _ _) hi;have Y:=h0;simp only[M7,ak,aM,bC] at h0;obtain⟨⟨O,s2'⟩,hd,hx,hf,I⟩:=h0;subst hx;dsimp only at hf I;subst hf;subst I;obtain⟨F,S,M,lv,Lo,Z,E,z,g,a0,tr⟩:=M8 hd;rw[eM,Array.length_toList] at z g;have t:aO (Q.at ch) f all mk F S M lv Lo:=⟨tr,V,by rw[E];exact p.fresh⟩;have y: ∀n o,dI mk n=false->(S 0).heap.get n=some o->s2.heap.get n=some o:=by rw[E];exact p.sees.get
 have U:=((lU Q n).draw f all _ mk [] 0 all.toList fr ch s O s2' hd).1;refine wpIn_region_any hm ?_;refine ai5 (G:=G) (B:=B) (s2:=s2) (a:=a) (w:=w) t ro (fun k C=>hc _ ?_) hi y K ?_ all.size _ a _ (F 0) s2.heap G B ?_ ?_
 simp_all
 ·intro listed a' w' fr' h G' B' J m
  obtain⟨c1,c2,c3,c4⟩:=m.cur.fin J;refine hK a' w' ⟨ch,O,s2',⟨h,s2'.aL,s2'.gE,s2'.ci⟩,G',B',.refl _ _,hi,Y,U,⟨rfl,rfl,rfl,?_,?_⟩,m.wr,?_,?_,?_,m.defers⟩;intro n R;show h.get n=_;rw[c4,<-g];exact(t.same y n).1 (by rw[E,g];exact R);intro n R;show h.get n=_;rw[c4];exact(t.same y n).2 (by rw[E,g];exact R)
  have:=m.ext;rw[E,g,Z] at this;exact this
  ·refine m.fx.congr ?_ ?_ ?_
   rw[<-z,c1];exact t.size_eq (bj _)
   all_goals grind
  intro b hb;rw[<-Z];refine m.boxes b (LB.congr (fun u=>?_) hb);rw[<-z];exact(c3 u).symm
 simp[vJ,List.countP_replicate];refine⟨by simp,?_,?_,p.wr.of_heap rfl,(cO.of_heap (w:=w) (w':= {w with drawn:=w.drawn+1 }) rfl ⟨rfl,rfl,rfl,jW _⟩).toL _,?_,fun b h=>.inl h,⟨[],rfl,.nil _ _⟩,?_⟩;intro j o T;simp[ui,SZ] at T;split at T<;>simp at T;refine kP.start fun k C=>?_;simp[ui,SZ] at C;split at C<;>simp at C;rw[Z];exact⟨fx.size,fx.env,⟨fx.locs.cells,fx.locs.free,fx.locs.ro,fx.locs.inj⟩⟩;intro k C _ q h1 h2;have l1:=t.mono (jY k) (zZ C);have l2:=t.mono (show k+1<=all.size by omega) (bj _);rw[E] at l1;rw[g] at l2;exact p.free q (by omega) (hA q (by omega) (by omega))
structure AL (Q:aF):Prop where
 mixed:Q.P.follows .mixedOrders=true
 spec:afc Q
 specH:afb Q
 specW:afd Q:=by intro f sp h;cases h
 names: ∀(f:Nat) (fn:Func),Q.P.funcs[f]? =some fn->(fn.name== "runtime.NumGoroutine")=false
section
variable{Q:aF}{n:Nat}
noncomputable def Kx(Q:aF)(n:Nat)(f:FuncId)(y:Code)(mk:aH)(x:Ex)(fr:Fr)(s:St)(c:Nat->Nat):Option (Ex×Fr×St):=pV (ce (Q.at c) n) f y mk (x,fr,s)
theorem adg(hn:sX Q n)(ro:Option Nat){x y:Code}{G:Gh}(hf:ro≠none->dB x=true)(J:xW ro G s2.heap w)(p:lI mk A G s s2 w)(fx:cE G s2.heap B fr a.tmps w)(hi:lG Q ch)(V:te Q A ch s (fun c=>(lu Q n f x mk fr s c).bind fun r=>Kx Q n f y mk r.1 r.2.1 r.2.2 c))(K:Exit->Act->World->Prop)(Y:Act->World->Prop)(R: ∀e a' w',uC Q mk ch fr G B s s2 a w (fun c=>(lu Q n f x mk fr s c).bind fun r=>Kx Q n f y mk r.1 r.2.1 r.2.2 c) e a' w'->K e.to a' w')(hY: ∀E q ch1 fr1 s1 g G1 I,xW ro G1 g.heap q->lI mk A G1 s1 g q->cE G1 g.heap I fr1 E.tmps q->lG Q ch1->te Q A ch1 s1 (lu Q n f y mk fr1 s1)->
  (∀e a' w',uC Q mk ch1 fr1 G1 I s1 g E q (lu Q n f y mk fr1 s1) e a' w'->K e.to a' w')->Y E q):x.wpIn (mA ro) 0 Q.P (Exit.then Y K) a w:=by
 have z:=MW Q n f x mk fr s;refine(hn ro f x mk fr ch A G B s s2 a w hf J p fx hi (V.first ?_) _ ?_).1;intro e fr' s' c e2 fr'' s'' h;unfold Kx at h;cases e with
 |normal=>exact(V5 (n:=n) h).aL
 |exit id=>grind [pV]
 |ret=>grind [pV]
 rintro e E q ⟨U,fr1,s1,g,G1,I,h1,T,O,C⟩;cases e with
 |normal=>
  refine hY E q U fr1 s1 g G1 I (J.after fx C) (p.after C) C.fx T ?_ ?_;exact V.second z h1 O C.goes.ci C.goes.aL;intro e a' w' Z;exact R e a' w' (uC.second (E2:=fun x fr s c=>Kx Q n f y mk x fr s c) z h1 O C Z)
 |exit id=>
  refine R (.exit id) E q ⟨U,fr1,s1,g,G1,I,h1,T,?_,C⟩;simp only[O,bk];rfl
 |ret=>
  refine R .ret E q ⟨U,fr1,s1,g,G1,I,h1,T,?_,C⟩;simp only[O,bk];rfl
theorem aiB(g3:AL Q)(hn:sX Q n)(ho:He Q n)(e5:xU Q n)(hc: ∀k,k<n->xU Q k/\sX Q k):sX Q (n+1):=by
 intro ro f c mk fr ch A G B s s2 a w a3 a9 p fx hi hs K hK;cases c with
 |skip=>exact⟨wpIn_skip (hK .normal a w ⟨ch,fr,s,s2,G,B,.refl _ _,hi,rfl,.refl p fx⟩),by simp⟩
 |label l=>exact⟨wpIn_label (hK .normal a w ⟨ch,fr,s,s2,G,B,.refl _ _,hi,rfl,.refl p fx⟩),by simp⟩
 |ret=>exact⟨wpIn_ret (hK .ret a w ⟨ch,fr,s,s2,G,B,.refl _ _,hi,rfl,.refl p fx⟩),by simp⟩
 |exit id=>exact⟨wpIn_exit (hK (.exit id) a w ⟨ch,fr,s,s2,G,B,.refl _ _,hi,rfl,.refl p fx⟩),by simp⟩
 |seq x y=>
  have a3:ro≠none->dB x=true/\dB y=true:=fun h=>by simpa[dB] using a3 h
  refine⟨wpIn_seq (adg hn ro (fun h=>(a3 h).1) a9 p fx hi hs K _ hK ?_),by simp⟩;intro a1 Y ch1 fr1 s1 d1 G1 B1 d2 p1 e9 d6 b6 e8;exact(hn ro f y mk fr1 ch1 A G1 B1 s1 d1 a1 Y (fun h=>(a3 h).2) d2 p1 e9 d6 b6 K e8).1
 |cond x y z=>
  refine⟨?_,by simp⟩;obtain⟨e0,c3,s0,h0,_⟩:=hs ch (.refl _ _) hi;have h0:(ev fr.env x).bind (Ca (ce (Q.at ch) n) f y z mk fr s)=some (e0,c3,s0):=h0;simp only[ak] at h0;obtain⟨v,hv,h0⟩:=h0;have hl:=fx.ev hv;cases v<;>try (cases h0;done)
  rename_i b;have hl:VR G (.bool b) (a.eval x):=hl;have hx:a.eval x= .bool b:=by
   generalize a.eval x=u at hl;cases hl;rfl
  have Z: ∀c,lu Q (n+1) f (.cond x y z) mk fr s c=lu Q n f (if b then y else z) mk fr s c:=by
   intro c;show(ev fr.env x).bind (Ca (ce (Q.at c) n) f y z mk fr s)=_;rw[hv];cases b<;>rfl
  have a3:ro≠none->dB (if b then y else z)=true:=fun h=>by
   grind [dB]
  refine wpIn_cond hx (hn ro f _ mk fr ch A G B s s2 a w a3 a9 p fx hi ?_ K ?_).1;intro c h1 h2;have:=hs c h1 h2;rw[Z] at this;exact this;rintro e a' w' ⟨c,fr',s',s2',G',B',h1,h2,h3,h4⟩;exact hK e a' w' ⟨c,fr',s',s2',G',B',h1,h2,by rw[Z];exact h3,h4⟩
 |block id b=>
  refine⟨wpIn_block ?_,by simp⟩;have Z: ∀c,lu Q (n+1) f (.block id b) mk fr s c=(lu Q n f b mk fr s c).bind fun x=>some (qz id x):=fun _=>rfl;refine(hn ro f b mk fr ch A G B s s2 a w (fun h=>by simpa[dB] using a3 h) a9 p fx hi ?_ _ ?_).1;intro c h1 h2;obtain⟨e,fr',s',h3,h4⟩:=hs c h1 h2;rw[Z] at h3;simp only[ak] at h3;obtain⟨⟨e1,fr1,s1⟩,h5,h6⟩:=h3;refine⟨e1,fr1,s1,h5,?_⟩;have:s1=s':=by
   cases e1<;>simp only[qz,aM,bC] at h6;exact h6.2.2
   grind
   exact h6.2.2
  subst this;exact h4;rintro e a' w' ⟨c,fr',s',s2',G',B',h1,h2,h3,h4⟩;have V: ∀e',qz id (e,fr',s')=(e',fr',s')->K e'.to a' w':=fun e' he=>
   hK e' a' w' ⟨c,fr',s',s2',G',B',h1,h2,by rw[Z,h3,bk,he],h4⟩
  cases e with
  |normal=>exact V .normal rfl
  |ret=>exact V .ret rfl
  |exit i=>
   show(if i=id then K .normal a' w' else K (.exit i) a' w');by_cases e:i=id;rw[iP e];refine V .normal ?_;subst e;simp[qz];rw[iN e];refine V (.exit i) ?_
   grind [fo,qz]
 |scope b=>
  have i0:ro=none:=by
   cases ro with
   |none=>rfl
   |some l=>grind [dB]
  subst i0;refine⟨(wpIn_wide (n:=0)).2 (wp_scope_straight ((wpIn_wide (n:=0)).1 ?_)),by simp⟩;refine(hn none f b mk fr ch A G B s s2 a w (fun h=>absurd rfl h) .none p fx hi hs _ ?_).1;intro e a' w' h
  have:=hK e a' w' h;cases e<;>exact this
 |loop b=>
  have d7:ro≠none->dB b=true:=fun h=>by simpa[dB] using a3 h
  have f4:Code.roundsIn (mA ro) 0 Q.P b K (n+1) a w:=by
   rw[roundsIn_succ];refine adg (y:=.loop b) hn ro d7 a9 p fx hi hs K _ hK ?_;intro a1 Y ch1 fr1 s1 d1 G1 B1 d2 p1 e9 d6 b6 e8;exact(hn ro f (.loop b) mk fr1 ch1 A G1 B1 s1 d1 a1 Y a3 d2 p1 e9 d6 b6 K e8).2 b rfl
  grind [wpIn_loop_rounds]
 |region id ops draw=>
  refine⟨?_,by simp⟩;cases draw with
  |false=>
   refine wpIn_region ?_
   have:=ho ro f ops mk ops.toList 0 fr ch A G B s s2 a w p fx hi (fun k o hk=>by rw[eM];simpa using hk) hs K (fun a' w' h=>hK .normal a' w' h)
   grind [List.range_eq_range']
  |true=>
   have Z: ∀c,lu Q (n+1) f (.region id ops true) mk fr s c=(bif nW ops 0 ops.toList (Region.before ops).toList then(ce (Q.at c) n).draw f ops (Region.before ops).toList mk [] 0 ops.toList fr s else none).bind fun x=>some (.normal,x.1,x.2):=fun _=>rfl;cases hap:nW ops 0 ops.toList (Region.before ops).toList with
   |false=>
    obtain⟨e0,c3,s0,h0,_⟩:=hs ch (.refl _ _) hi;rw[Z,hap] at h0;cases h0
   |true=>
    simp only[hap,cT] at Z;refine ai6 g3.mixed ro hc p fx hi hap ?_ K ?_ (n:=n) (f:=f);intro c h1 h2;have:=hs c h1 h2;rw[Z] at this;exact this;rintro a' w' ⟨c,fr',s',s2',G',B',h1,h2,h3,h4⟩;exact hK .normal a' w' ⟨c,fr',s',s2',G',B',h1,h2,by rw[Z];exact h3,h4⟩
 |rangeFunc g U T R=>
  refine⟨?_,by simp⟩;obtain⟨e0,c3,s0,h0,j7⟩:=hs ch (.refl _ _) hi;have c5: ∀c,lu Q (n+1) f (.rangeFunc g U T R) mk fr s c=(ev fr.env g).bind (xj (Q.at c) (ce (Q.at c) n) f U.toList T R mk fr s):=fun _=>rfl;rw[c5] at h0;simp only[ak] at h0;obtain⟨gv,hg,h0⟩:=h0;unfold xj at h0;split at h0
  case h_2=>cases h0
  rename_i h first E
  obtain⟨hb,h0⟩:=bc h0;have e6:=hb;simp only[bq] at hb;obtain⟨I,b7,i3,d7⟩:=hb;have b8:=fx.ev hg;have b8:VR G (.func (.func h) first E) (a.eval g):=b8;generalize hgx:a.eval g=gx at b8;cases b8 with
  |func g5 g6=>
  rename_i fs cs;have Z: ∀c,lu Q (n+1) f (.rangeFunc g U T R) mk fr s c=((ce (Q.at c) n).call h (first++(.yld s.aL::E)) mk (s.new (.loop f fr.env fr.size U.toList T R none))).bind fun x=>Bk mk s.aL fr x.2:=by
   intro c;have e6:(tF (Q.at c).P h&&(fr.env.all jB&&(dB T&&dB R)))=true:=e6;rw[c5,hg];simp only[bk,xj,e6,cT]
  have b3: ∀c x fr' s',lu Q (n+1) f (.rangeFunc g U T R) mk fr s c=some (x,fr',s')-> ∃v s1 o,(ce (Q.at c) n).call h (first++(.yld s.aL::E)) mk (s.new (.loop f fr.env fr.size U.toList T R none))=some (v,s1)/\
   s1.get mk s.aL=some o/\(∃f' b4 a5 d4 a' b' pe,o= .loop f' b4 a5 d4 a' b' pe/\x=Gf pe)/\fr'=fr/\s'=s1.put s.aL none:=by
   intro c x fr' s' h1;rw[Z] at h1;simp only[ak] at h1;obtain⟨⟨v,s1⟩,h2,h3⟩:=h1;simp only[Bk,ak] at h3;obtain⟨o,h4,h5⟩:=h3;cases o with
   |loop f' b4 a5 d4 a' b' pe=>
    grind
   |cells _=>cases h5
   |tok=>cases h5
   |map _ _=>cases h5
   |iter _ _ _ _=>cases h5
   |fix _=>cases h5
  have i2: ∀c v s1,(ce (Q.at c) n).call h (first++(.yld s.aL::E)) mk (s.new (.loop f fr.env fr.size U.toList T R none))=some (v,s1)->s.aL+1<=s1.aL:=fun c v s1 h1=>
   ((lU Q n).call h _ mk c _ v s1 h1).1.aL
  obtain⟨e1,fr1,s1,h1,j1⟩:=hs ch (.refl _ _) hi;have j0:A s.aL:=by
   obtain⟨v,a8,o,q1,_,_,_,q5⟩:=b3 _ _ _ _ h1;refine j1 _ (bj _) ?_
   have:=i2 _ _ _ q1;rw[q5];exact this
  have b1:G.at_ s.aL=none:=p.free _ (bj _) j0;refine wpIn_rangeFunc ?_;intro fn _;obtain⟨a2,L,ds,Y,r1,f5,a7,x1,j4,i6,g2,c0,g1⟩: ∃(a2:Loop) (L:Nat) (ds:List Nat) (Y:World),(Instr.enterLoop fn a.tmps U T R (mA ro).round).run Q.P w= .ok (L,ds.map wV) Y/\
   (a2.state= .ready/\a2.pending=none/\a2.tmps=a.tmps/\a2.params=U/\a2.assign=T/\a2.body=R)/\WR G s2.heap Y/\cO G s2.heap w G s2.heap Y s.aL s.aL/\w.heap.size<=L/\L<Y.heap.size/\Y.heap[L]? =some (.loop a2)/\v6 w.heap.size Y ds/\ ¬eB G s2.heap L:=by
   cases ro with
   |none=>
    refine⟨{state:=.ready,pending:=none,fn,tmps:=a.tmps,params:=U,assign:=T,body:=R,defers:=w.heap.size },w.heap.size+1,[w.heap.size],_,run_enterLoop_outer fn a.tmps U T R,⟨rfl,rfl,rfl,rfl,rfl,rfl⟩,?_⟩;obtain⟨g8,xA⟩:=p.wr.fresh (.deferred (some [])) trivial;obtain⟨a7,xB⟩:=g8.fresh (.loop {state:=.ready,pending:=none,fn,tmps:=a.tmps,params:=U,assign:=T,body:=R,defers:=w.heap.size }) trivial;have h9:(w.alloc (.deferred (some []))).heap.size=w.heap.size+1:=by simp
    generalize hw1:(w.alloc (.deferred (some []))).alloc (.loop {state:=.ready,pending:=none,fn,tmps:=a.tmps,params:=U,assign:=T,body:=R,defers:=w.heap.size })=Y at*;have b6:Y.heap.size=w.heap.size+2:=by rw[<-hw1];simp
    refine⟨a7,(xA s.aL s.aL).trans (xB s.aL s.aL) (bj _) (bj _),jW _,by omega,by rw[<-hw1,pC,iP h9.symm],?_,fun o=>by have:=p.wr.owned_lt o;omega⟩;have c0:Y.heap[w.heap.size]? =some (.deferred (some [])):=by rw[<-hw1,pC,iN (by omega),pC,iP rfl]
    exact⟨by simp,fun r hr=>by
     grind⟩
   |some l0=>
    obtain⟨⟨r0,h0⟩,_⟩:=a9 l0 rfl;refine⟨{state:=.ready,pending:=none,fn,tmps:=a.tmps,params:=U,assign:=T,body:=R,defers:=r0.defers },w.heap.size,[],w.alloc (.loop {state:=.ready,pending:=none,fn,tmps:=a.tmps,params:=U,assign:=T,body:=R,defers:=r0.defers }),?_,⟨rfl,rfl,rfl,rfl,rfl,rfl⟩,?_⟩
    simp_all [aj5,Instr.enterLoop,run_getLoop]
    obtain⟨a7,xB⟩:=p.wr.fresh (.loop {state:=.ready,pending:=none,fn,tmps:=a.tmps,params:=U,assign:=T,body:=R,defers:=r0.defers }) trivial;refine⟨a7,xB s.aL s.aL,bj _,by simp,by rw[pC,iP rfl],.nil _ _,fun o=>by have:=p.wr.owned_lt o;omega⟩
  have i7:Ec G a2 fr.env fr.size U.toList T R none:=by
   obtain⟨k1,k2,k3,k4,k5,k6⟩:=f5;refine⟨k1,k2,by rw[k3];exact fx.size,fun t=>?_,by rw[k4],k5,k6,i3,d7⟩;rw[k3]
   have:=fx.env t;have f6:jB (ac fr.env t)=true:=by
    unfold ac;cases hgt:fr.env.get t with
    |none=>rfl
    |some v=>exact aD.all_get b7 hgt
   cases hv:ac fr.env t<;>rw[hv] at this f6<;>first|exact this|cases f6
  have b5:=a7.named (n:=s.aL) (a:=⟨L,0,none⟩) (o:=.loop f fr.env fr.size U.toList T R none) b1 i6 rfl g1 ⟨a2,g2,i7⟩ (fun i v hv=>by
   rw[a7.aside_ro g2 trivial] at hv;cases hv)
  have b0:=G.name_le (⟨L,0,none⟩:Addr) b1;have g7:(G.name s.aL ⟨L,0,none⟩).at_ s.aL=some ⟨L,0,none⟩:=by simp[Gh.name]
  have b5:WR (G.name s.aL ⟨L,0,none⟩) (s2.new (.loop f fr.env fr.size U.toList T R none)).heap Y:=by
   show WR _ (s2.heap.set s2.aL _) _;rw[p.sees.aL];exact b5
  have g0:=fG.new mk s (.loop f fr.env fr.size U.toList T R none);have d0:=gl.new p.sees (.loop f fr.env fr.size U.toList T R none);have p2:lI mk A (G.name s.aL ⟨L,0,none⟩) (s.new (.loop f fr.env fr.size U.toList T R none)) (s2.new (.loop f fr.env fr.size U.toList T R none)) Y:=
   ⟨p.fresh.goes g0,d0.sees p.sees g0,b5,fun q hq i8=>by
    have hq:s.aL+1<=q:=hq;show(if q=s.aL then _ else G.at_ q)=none;rw[iN (by omega)];exact p.free q (by omega) i8⟩
  have e7:bV (G.name s.aL ⟨L,0,none⟩) (first++(.yld s.aL::E)) (fs++(.func (.yield L) #[] #[]::cs)):=
   (g5.mono b0).append (.cons (.yld g7) (g6.mono b0))
  have i5:=e5 h _ mk _ _ _ Y _ ch A p2 e7 hi (fun a4 ha hb=>by
   obtain⟨x,fr',s',q1,q2⟩:=hs a4 ha hb;obtain⟨v,a8,o,q3,_,_,_,q5⟩:=b3 _ _ _ _ q1;refine⟨v,a8,q3,fun q hq i1=>q2 q ?_ ?_⟩;have hq:s.aL+1<=q:=hq;omega;rw[q5];exact i1)
  have c6:(callFunc h ⟨fs++(.func (.yield L) #[] #[]::cs)⟩).run Q.P Y= .ok (.enter h ⟨fs++(.func (.yield L) #[] #[]::cs)⟩) Y:=by
   unfold tF at I;cases b2:(Q.at ch).P.funcs[h]? with
   |none=>rw[b2] at I;cases I
   |some c4=>
    rw[b2] at I;have b2:Q.P.funcs[h]? =some c4:=b2;have I:c4.body.isSome=true:=I;cases hbb:c4.body with
    |none=>rw[hbb] at I;cases I
    |some bb=>
     have j3:=g3.names h c4 b2
     simp_all [callFunc]
  have c1:Calls Q.P h ⟨fs++(.func (.yield L) #[] #[]::cs)⟩ Y (fun e w'=> ∃y,e= .returned y/\ ∃a4 v s' s2' G',G7 Q n h (first++(.yld s.aL::E)) mk ch (G.name s.aL ⟨L,0,none⟩) (s.new (.loop f fr.env fr.size U.toList T R none)) (s2.new (.loop f fr.env fr.size U.toList T R none)) Y y w' a4 v s' s2' G'):=by
   rcases i5 with⟨y,w',h1,_⟩|⟨_,h2⟩
   rw[c6] at h1;cases h1;exact h2
  have f1:(⟨fs⟩:Array Value)++ #[.func (.yield L) #[] #[]]++(⟨cs⟩:Array Value)=⟨fs++(.func (.yield L) #[] #[]::cs)⟩:=by
   apply qi;simp
  refine⟨L,ds.map wV,Y, {target:=.fn (.func h) ⟨cs⟩,args:=⟨fs⟩++ #[.func (.yield L) #[] #[]] },Y,h,⟨fs++(.func (.yield L) #[] #[]::cs)⟩,Y,r1,?_,fun f' _=>AB ro f',?_,NB ro 0,?_⟩
  simp_all [resolve,Act.eval,Deferred.ofValue]
  simp only[invoke,f1];exact c6;refine Ws.2 (c1.mono ?_);rintro e w3 ⟨y,rfl,a4,v,s',s2',G',c⟩;have c8:lj s.ci ch a4:=c.agree;obtain⟨xx,j8,sx,hx,j5⟩:=hs a4 c8 c.inb;obtain⟨v',a8,o,q3,q4,⟨f',b4,a5,d4,a',b',pe,rfl,rfl⟩,f0,rfl⟩:=b3 _ _ _ _ hx;replace f0:=f0.symm;subst f0;have e4:=c.eval;rw[q3] at e4;simp only[aM,bC] at e4;obtain⟨rfl,rfl⟩:=e4;have gC:=((lU Q n).call h _ mk a4 _ v' a8 q3).1;have y2:=c.same.sees (d0.sees p.sees g0) gC;have f2:=y2.look q4;have c7:G'.at_ s.aL=some ⟨L,0,none⟩:=c.ext.le.at_ _ _ g7;obtain⟨ad,c2,_,a0,a6,c9⟩:=c.wr.obj s.aL _ (tE f2).2;rw[c7] at c2;injection c2 with c2;subst c2
  have a6:w3.heap[L]? =some (.loop a0):=a6;have h8:a0.state≠ .busy:=by rw[c9.state];cases pe<;>simp
  have d5: ¬eB G' (s2'.put s.aL none).heap L:=JK c.wr (by rw[(tE f2).2];simp) c7;have f3:WR G' (s2'.put s.aL none).heap (dw w3 L (.loop {a0 with state:=.exhausted })):=(c.wr.killed s.aL).aside a6 trivial d5;have i4: ∀r∈ds,w3.heap[r]? =some (.deferred (some [])):=fun r hr=>by
   have:=(c0.at_ r hr).2;exact(c.ext.keep _ (i9 this) (b5.not_deferred this)).trans this
  have h7:iH G s2.heap w G' (s2'.put s.aL none).heap (dw w3 L (.loop {a0 with state:=.exhausted })) s.aL a8.aL (LB B fr.loc):=by
   have hC:=c.ext;refine iH.aside (o:=.loop a0) ?_ a6 trivial trivial (fun h=>by omega);refine⟨b0.trans hC.le,eL x1.size hC.size,?_,?_,?_,?_,x1.quiet.trans hC.quiet,?_⟩;intro b hb ho _;refine(hC.keepW b (by omega) ?_).trans (x1.keepW b hb ho);rintro⟨m,ad,pp,J,tp,O,t3⟩;have J:(s2.heap.set s2.aL _).get m=some pp:=J;rw[aD.get_set,p.sees.aL] at J;have O:(if m=s.aL then some ⟨L,0,none⟩ else G.at_ m)=some ad:=O;by_cases e:m=s.aL
   grind
   rw[iN e] at J O;exact ho ⟨m,ad,pp,J,tp,O,t3⟩;intro b hb ho;have ho:=hC.owns b (by omega) (Bf ho);obtain⟨m,ad,J,O,t3⟩:=ho;have J:(s2.heap.set s2.aL _).get m≠none:=J;rw[aD.get_set,p.sees.aL] at J;have O:(if m=s.aL then some ⟨L,0,none⟩ else G.at_ m)=some ad:=O;by_cases e:m=s.aL
   grind
   rw[iN e] at J O;exact⟨m,ad,J,O,t3⟩;intro m ad hm h0;by_cases e:m=s.aL
   grind
   have j2:(G.name s.aL ⟨L,0,none⟩).at_ m=none:=by
    show(if m=s.aL then _ else G.at_ m)=none;rw[iN e];exact h0
   have:=hC.names m ad hm j2;have hq:s.aL+1<=m:=this.1;exact⟨by omega,this.2⟩;intro b o v hb hv h0;have ho:=hC.cells b o v (by omega) hv h0;obtain⟨m,ad,J,O,t3⟩:=ho;have J:(s2.heap.set s2.aL _).get m≠none:=J;rw[aD.get_set,p.sees.aL] at J;have O:(if m=s.aL then some ⟨L,0,none⟩ else G.at_ m)=some ad:=O;by_cases e:m=s.aL
   grind
   rw[iN e] at J O;exact⟨m,ad,J,O,t3⟩;intro b hb ho;have ho:=hC.ownsW b (by omega) (Dn ho);obtain⟨m,ad,pp,J,tp,O,t3⟩:=ho;have J:(s2.heap.set s2.aL _).get m=some pp:=J;rw[aD.get_set,p.sees.aL] at J;have O:(if m=s.aL then some ⟨L,0,none⟩ else G.at_ m)=some ad:=O;by_cases e:m=s.aL
   grind
   rw[iN e] at J O;exact⟨m,ad,pp,J,tp,O,t3⟩
  have g4:cE G' (s2'.put s.aL none).heap B fr a.tmps (dw w3 L (.loop {a0 with state:=.exhausted })):=by
   have e1:qr (G.name s.aL ⟨L,0,none⟩) (s2.new (.loop f fr.env fr.size U.toList T R none)).heap B fr.loc Y:=by
    have:=fx.locs.ext x1;refine⟨fun t cs ht=>?_,fun t cs ht ho=>?_,this.ro,this.inj⟩;obtain⟨C,e,u1,u2⟩:=this.cells t cs ht;exact⟨C,e,u1,fun i v hi=>let⟨v1,z,v2,v3⟩:=u2 i v hi;⟨v1,z,v2,v3.mono b0⟩⟩;obtain⟨m,ad,J,O,t3⟩:=ho;have J:(s2.heap.set s2.aL _).get m≠none:=J;rw[aD.get_set,p.sees.aL] at J;have O:(if m=s.aL then some ⟨L,0,none⟩ else G.at_ m)=some ad:=O;by_cases e:m=s.aL;rw[iP e] at O;injection O with O;subst O
    obtain⟨C,ty,u1,_⟩:=fx.locs.cells t cs ht
    grind
    rw[iN e] at J O;exact fx.locs.free t cs ht ⟨m,ad,J,O,t3⟩
   have e2:=e1.ext c.ext;have e3:qr G' (s2'.put s.aL none).heap B fr.loc w3:=⟨e2.cells,fun t cs ht ho=>e2.free t cs ht (Bf ho),e2.ro,e2.inj⟩;exact⟨fx.size,fun t=>(fx.env t).mono (b0.trans c.ext.le),e3.aside a6 trivial⟩
  have gP:=fG.put q4 (mk:=mk) none;have V:uC Q mk ch fr G B s s2 a w (lu Q (n+1) f (.rangeFunc g U T R) mk fr s) (Gf pe) {a with defers:=ds.map wV++a.defers } (dw w3 L (.loop {a0 with state:=.exhausted })):=by
   refine⟨a4,fr,a8.put s.aL none,s2'.put s.aL none,G',B,c8,c.inb,hx,⟨(g0.trans gC).trans gP,(d0.trans g0 gC c.same).trans (g0.trans gC) gP (.put y2 q4 none),f3,h7,g4,fun b h=>.inl h,ds,rfl,c0.nodup,?_⟩⟩;intro r hr;refine⟨(c0.at_ r hr).1,?_⟩
   have:=i4 r hr;rw[jD _ _ _ _ (i9 a6),iN (fun e=>by
    grind)]
   exact this
  refine⟨_,_,run_endLoop a6 h8,?_⟩
  have:=hK _ _ _ V;rw[Rk];rw[c9.pending] at this ⊢;cases pe with
  |none=>exact this
  |some x=>
   cases x with
   |normal=>exact wpIn_skip this
   |exit id=>exact wpIn_exit this
   |ret=>exact wpIn_ret this
 |_=>
  obtain⟨e0,c3,s0,h0,_⟩:=hs ch (.refl _ _) hi;cases h0
end
variable{fn:Func}{u:aa}
section
variable{P:Program}{mk:aH}{G:Gh}{B:Nat->Nat}{fr:Fr}{s:St}{tmps:Array Value}{w:World}
theorem ar1(wr:WR G s.heap w)(fl:qr G s.heap B fr.loc w)(hl:LV G fr.loc B u x)(q:lS P mk t u fr.loc s=some v):
 ∃E y,x= .pointer (some E)/\(loadVar t E).run P w= .ok y w/\VR G v y:=by
 unfold lS at q;split at q;rename_i t' g Z;simp only[ak] at q;obtain⟨cs,U,q⟩:=q;obtain⟨h1,_,h2⟩:=hl;have hg:=aae U;replace h2:=h2 hg;subst hg;obtain⟨C,e,Y,V⟩:=fl.cells t' cs U;obtain⟨y,J,O,ht⟩:=zy (w:=w) (b:=B t') (base:=0) q (fun i u hi=>by
  obtain⟨R,z,I,hr⟩:=V i u hi;exact⟨R,z,by rw[oL Y];simpa using I,hr⟩)
 grind
 rename_i n Z;simp only[ak] at q;obtain⟨ob,T,q⟩:=q;split at q;rename_i cs;have hl:VR G _ _:=hl;cases hl;rename_i E hn;obtain⟨a2,p,a0,C,e,Y,_,V⟩:=wr.obj n _ (ix T);rw[hn] at p;injection p with p;subst p
 obtain⟨y,J,O,ht⟩:=zy (w:=w) (b:=E.block) (base:=E.off) q (fun i u hi=>by
  obtain⟨R,z,I,hr⟩:=V i u hi;exact⟨R,z,by rw[oL Y];exact I,hr⟩)
 exact⟨_,y,rfl,J,O⟩;rename_i cs;have hl:VR G _ _:=hl;cases hl;rename_i E hn;obtain⟨a2,p,a0,C,e,Y,_,V⟩:=wr.obj n _ (ix T);rw[hn] at p;injection p with p;subst p
 obtain⟨y,J,O,ht⟩:=zy (w:=w) (b:=E.block) (base:=E.off) q (fun i u hi=>by
  obtain⟨R,z,I,hr⟩:=V i u hi;exact⟨R,z,by rw[oL Y];exact I,hr⟩)
 exact⟨_,y,rfl,J,O⟩;cases q;rename_i cs;have hl:VR G _ _:=hl;cases hl;rename_i b base a1;obtain⟨y,J,O,ht⟩:=zy (w:=w) (b:=b) (base:=base) q (fun i u hi=>wr.ro _ _ _ (a1 i u hi))
 grind
 cases q
def Kj(tmps:Array Value):ResultVar->Sem Value
 | .tmp t=>pure (tmps.getD t undef)
 | .cell a t=>do loadVar t (<-asAddr (tmps.getD a undef))
theorem acU{Q:aF}(wr:WR G s.heap w)(fx:cE G s.heap B fr tmps w): ∀ {l:List ResultVar} {vs:List aa},iE Q mk fr s l=some vs->
 ∃g,(l.mapM (Kj tmps)).run Q.P w= .ok g w/\bV G vs g
 | [],_,h=>by
   simp only[iE,aM] at h;subst h;exact⟨[],by simp[Sem.run_pure],.nil⟩
 |r::l,_,h=>by
  simp only[iE,ak] at h;obtain⟨v,q,vs,p,h⟩:=h;obtain⟨C,h⟩:=bc h;injection h with h;subst h
  obtain⟨g,h1,J⟩:=acU wr fx p;have: ∃y,(Kj tmps r).run Q.P w= .ok y w/\VR G v y:=by
   cases r with
   |tmp t=>
    have z:=cE.evc (a:=⟨tmps,[]⟩) fx q;exact⟨_,rfl,z.1⟩
   |cell a t=>
    obtain⟨T,y,R,e2,O⟩:=ar1 wr fx.locs (fx.env a) q
    grind [Kj,asAddr]
  obtain⟨y,I,E⟩:=this;refine⟨y::g,?_,.cons E J⟩;rw[List.mapM_cons];simp[I,h1]
def awl(wr:WR G s.heap w)(fx:cE G s.heap B fr tmps w){vs:List aa}(h:iE Q mk fr s fn.results.toList=some vs):
 ∃y,(results fn tmps).run Q.P w= .ok y w/\VR G (nK vs) y:=by
 obtain⟨z,h1,q⟩:=acU wr fx h;have hr:results fn tmps=(do let vs<-fn.results.mapM (Kj tmps);pure (if h:vs.size=1 then vs[0] else .tuple vs)):=by
  unfold results;congr 1
 rw[hr,Array.mapM_eq_mapM_toList];simp only[Sem.run_bind,Sem.run_map,h1,mh,Sem.run_pure];cases q with
 |nil=>exact⟨.tuple ⟨[]⟩,by simp,.tup .nil⟩
 |cons a b=>
  rename_i v y p g;cases b with
  |nil=>exact⟨y,by simp,a⟩
  |cons c d=>exact⟨.tuple ⟨_⟩,by simp,.tup (.cons a (.cons c d))⟩
end
theorem abh: ∀(l:List aa) (n t:Nat),(fH n l).get t=if t<n then none else l[t-n]?
 | [],n,t=>by
   simp only[fH];have:(aD.nil:aw).get t=none:=rfl;rw[this];simp
 |v::l,n,t=>by
  rw[fH,aD.get_set,abh l (n+1) t]
  grind
theorem aje{G:Gh}(q:bV G args xs)(g:Nat):
 cE G h (fun _=>0) ⟨fH 0 args,bif bu args.length g then g else args.length,[]⟩ ((⟨xs⟩:Array Value)++Array.replicate (g-(⟨xs⟩:Array Value).size) undef) w where
 size:=by
  have:=q.length
  grind [tW]
 env t:=by
  have p:=q.length;simp only[ac,abh,Nat.not_lt_zero,if_false,Nat.sub_zero];cases e:args[t]? with
  |some v=>
   obtain⟨x,C,hr⟩:=q.get e;have y:t<xs.length:=by
    rcases pq t xs.length with h|h
    exact h
    grind
   have:((⟨xs⟩:Array Value)++Array.replicate (g-(⟨xs⟩:Array Value).size) undef).getD t undef=x:=by
    rw[ui,Array.getElem?_append_left (by simpa using y)];simp[C]
   rw[this];exact LV.of_VR hr
  |none=>
   have z:xs.length<=t:=by rw[<-p];exact List.getElem?_eq_none_iff.1 e
   have:((⟨xs⟩:Array Value)++Array.replicate (g-(⟨xs⟩:Array Value).size) undef).getD t undef=undef:=by
    rw[ui,Array.getElem?_append_right (by simpa using z),SZ];split<;>rfl
   rw[this];exact LV.of_VR (Sy G)
 locs:=⟨fun t cs h=>by simp[Loc.get] at h,fun t cs h=>by simp[Loc.get] at h,fun t cs h=>by simp[Loc.get] at h,fun t u cs E h=>by simp[Loc.get] at h⟩
theorem Z4{Q:aF}{fn:Func}{R:Ending->World->Prop}{G0 G:Gh}{h0:aD aJ}{w0:World}{B:Nat->Nat}{fr:Fr}{tmps:Array Value}{lo hi:Nat}{mk:aH}{s:St}{vs:List aa}(g:iE Q mk fr s fn.results.toList=some vs)(C: ∀y w',WR G s.heap w'->cO G0 h0 w0 G s.heap w' lo hi->VR G (nK vs) y->R (.returned y) w'):
 ∀(rs:List Nat) (w:World),WR G s.heap w->cE G s.heap B fr tmps w->cO G0 h0 w0 G s.heap w lo hi->v6 w0.heap.size w rs->LeavesInM Fence.wide 0 Q.P fn tmps R (rs.map wV++[]) .returning w
 | [],w,wr,fx,ex,_=>by
   obtain⟨y,I,E⟩:=awl (Q:=Q) wr fx g;exact⟨y,I,C y w wr ex E⟩
 |r::rs,w,wr,fx,ex,m=>by
  obtain⟨h1,p⟩:=m.at_ r (by simp);have z:=List.nodup_cons.1 m.nodup;refine⟨by simp,.inl ⟨r,dw w r (.deferred none),rfl,run_takeDeferred p,?_⟩⟩;refine Z4 g C rs _ (wr.aside p trivial (wr.not_deferred p)) (fx.aside p trivial) (ex.aside p trivial trivial fun h=>by omega) ⟨z.2,fun q J=>?_⟩;obtain⟨T,O⟩:=m.at_ q (by simp[J])
  grind [jD]
theorem ahn(hg:AL Q)(hn:sX Q n):xU Q (n+1):=by
 intro f args mk s s2 G w xs ch A p hv hi hs;have R: ∀c,(ce (Q.at c) (n+1)).call f args mk s=jw (Q.at c) (ce (Q.at c) n) f args mk s:=fun _=>rfl;cases hsp:Q.spec f with
 |some sp=>
  have z: ∀c,(ce (Q.at c) (n+1)).call f args mk s=(sp args).bind fun v=>some (v,s):=by
   intro c;have:(Q.at c).spec f=some sp:=hsp;rw[R,jw,this]
  obtain⟨v,s',h0,_⟩:=hs ch (.refl _ _) hi;rw[z] at h0;simp only[ak,aM,bC] at h0;obtain⟨V,h1,rfl,rfl⟩:=h0;refine(hg.spec f sp hsp args V h1 G s2.heap w xs p.wr hv).mono ?_;rintro y w' ⟨G',I,g,C⟩;refine⟨ch,V,s,s2,G',.refl _ _,hi,by rw[z,h1];rfl,.refl p.sees,I,?_,C⟩;exact⟨g.le,g.size,g.keepW,g.owns,fun m a e Y=>by have:=g.names m a e Y;omega,g.cells,g.quiet,g.ownsW⟩
 |none=>
 cases hsh:Q.specH f with
 |some sp=>
  have z: ∀c,(ce (Q.at c) (n+1)).call f args mk s=(fC (s.get mk) (sp args)).bind fun v=>some (v,s):=by
   intro c;have h1:(Q.at c).spec f=none:=hsp;have I:(Q.at c).specH f=some sp:=hsh;rw[R,jw,h1];simp only[I]
  obtain⟨v,s',h0,_⟩:=hs ch (.refl _ _) hi;rw[z] at h0;simp only[ak,aM,bC] at h0;obtain⟨V,h1,rfl,rfl⟩:=h0;have a4:fC s2.heap.get (sp args)=some V:=by
   have:=Gr p.sees (sp args) V h1;generalize sp args=x at this;clear h1 z
   induction x with
   |ret _=>exact this
   |ask m k ih=>
    simp only[fC,ak] at this ⊢;obtain⟨o,q1,q2⟩:=this;exact⟨o,(tE q1).2,ih o q2⟩
  refine(hg.specH f sp hsh args V G s2.heap w xs p.wr hv a4).mono ?_;rintro y w' ⟨G',I,g,C⟩;refine⟨ch,V,s,s2,G',.refl _ _,hi,by rw[z,h1];rfl,.refl p.sees,I,?_,C⟩;exact⟨g.le,g.size,g.keepW,g.owns,fun m a e Y=>by have:=g.names m a e Y;omega,g.cells,g.quiet,g.ownsW⟩
 |none=>
 cases hsw:Q.specW f with
 |some sp=>
  have z: ∀c,(ce (Q.at c) (n+1)).call f args mk s=(sp args).bind (xi mk s):=by
   intro c;have h1:(Q.at c).spec f=none:=hsp;have I:(Q.at c).specH f=none:=hsh;have g:(Q.at c).specW f=some sp:=hsw;rw[R,jw,h1];simp only[I,g]
  obtain⟨v,s',h0,_⟩:=hs ch (.refl _ _) hi;have a1:=h0;rw[z] at h0;simp only[ak] at h0;obtain⟨q,h1,g⟩:=h0;cases q with
  |none=>
   simp only[xi,aM,bC] at g;obtain⟨rfl,rfl⟩:=g;refine((hg.specW f sp hsw args G s2.heap w xs p.wr hv).1 h1).mono ?_;rintro y w' ⟨G',k2,E,k4⟩;refine⟨ch,_,_,s2,G',.refl _ _,hi,a1,.refl p.sees,k2,?_,k4⟩;exact⟨E.le,E.size,E.keepW,E.owns,fun m a e Y=>by have:=E.names m a e Y;omega,E.cells,E.quiet,E.ownsW⟩
  |some q=>
   simp only[xi,ak] at g;obtain⟨o,I,g⟩:=g;cases o<;>simp only[Dy,ak,reduceCtorEq] at g;obtain⟨u,C,g⟩:=g;cases u<;>simp only[Ej,aM,bC,reduceCtorEq] at g;rename_i cs Z;obtain⟨rfl,rfl⟩:=g;have J:=(tE (p.sees.look I)).2;have C:fC s2.heap.get (q.2 cs)=some (.agg Z):=by
    have:=Gr p.sees (q.2 cs) _ C;generalize q.2 cs=x at this;clear C
    induction x with
    |ret _=>exact this
    |ask m k ih=>
     simp only[fC,ak] at this ⊢;obtain⟨o,q1,q2⟩:=this;exact⟨o,(tE q1).2,ih o q2⟩
   refine((hg.specW f sp hsw args G s2.heap w xs p.wr hv).2 q.1 q.2 _ Z h1 J C).mono ?_;rintro y w' ⟨G',k2,E,k4⟩;refine⟨ch,_,_,s2.put q.1 (some (.cells Z)),G',.refl _ _,hi,a1,.put p.sees I _,k2,?_,k4⟩;exact⟨E.le,E.size,E.keepW,E.owns,fun m a e Y=>by have:=E.names m a e Y;omega,E.cells,E.quiet,E.ownsW⟩
 |none=>
  have z: ∀c,(ce (Q.at c) (n+1)).call f args mk s=(Q.P.funcs[f]?).bind fun fn=>fn.body.bind fun b=>
   (lu Q n f b mk ⟨fH 0 args,bif bu args.length fn.ntmps then fn.ntmps else args.length,[]⟩ s c).bind (qF (Q.at c) fn mk):=by
   intro c;have h1:(Q.at c).spec f=none:=hsp;have I:(Q.at c).specH f=none:=hsh;have g:(Q.at c).specW f=none:=hsw;rw[R,jw,h1];simp only[I,g];rfl
  obtain⟨v0,s0,h0,_⟩:=hs ch (.refl _ _) hi;rw[z] at h0;simp only[ak] at h0;obtain⟨fn,hf,b,hb,_⟩:=h0;have T: ∀c,(ce (Q.at c) (n+1)).call f args mk s=(lu Q n f b mk ⟨fH 0 args,bif bu args.length fn.ntmps then fn.ntmps else args.length,[]⟩ s c).bind (qF (Q.at c) fn mk):=by
   intro c;rw[z,hf];simp only[bk,hb]
  right;have a6:=hg.names f fn hf;refine⟨?_,?_⟩
  simp_all [callFunc]
  refine(callsIn_wide (n:=0)).1 (callsIn_of_wp_marks hf hb trivial ?_);have fx:=aje (G:=G) (h:=s2.heap) (w:=w) hv fn.ntmps;refine(hn none f b mk _ ch A G (fun _=>0) s s2 _ w (fun h=>absurd rfl h) .none p fx hi ?_ _ ?_).1;intro c h1 I;obtain⟨v,s',g,C⟩:=hs c h1 I;rw[T] at g;simp only[ak] at g;obtain⟨⟨x,fr',s1⟩,J,h6⟩:=g;refine⟨x,fr',s1,J,?_⟩;have:s1=s':=by
   cases x<;>simp only[qF,ak,aM,bC] at h6;obtain⟨_,_,_,e⟩:=h6;exact e;cases h6;obtain⟨_,_,_,e⟩:=h6;exact e
  subst this;exact C;rintro x a' w' ⟨c,fr',s',s2',G',B',h1,I,g,C⟩;obtain⟨v,s1,J,_⟩:=hs c h1 I;have a3:=J;rw[T,g] at J;simp only[bk] at J;have U: ∀vs,iE (Q.at c) mk fr' s' fn.results.toList=some vs->v=nK vs->s1=s'->
   LeavesInM Fence.wide 0 Q.P fn a'.tmps (fun e w'=> ∃y',e= .returned y'/\ ∃a5 v s' s2' G',G7 Q (n+1) f args mk ch G s s2 w y' w' a5 v s' s2' G') a'.defers .returning w':=by
   intro vs O e1 e2;have a0:iE (Q.at c) mk fr' s2' fn.results.toList=some vs:=
    aah (Q:=Q.at c) mk fr' fn.results.toList s' s2' vs O (fun m o hm=>(C.same.sees p.sees C.goes).look hm)
   obtain⟨rs,d1,d2⟩:=C.defers;rw[d1];have a2:cO G s2.heap w G' s2'.heap w' s.aL s'.aL:=C.ext.toExt fun b ⟨t,cs,e,_⟩=>by simp[Loc.get] at e
   refine Z4 (Q:=Q.at c) a0 ?_ rs w' C.wr C.fx a2 d2;intro y w'' u1 u2 u3;refine⟨y,rfl,c,v,s1,s2',G',h1,I,a3,by rw[e2];exact C.same,u1,?_,by rw[e1];exact u3⟩;rw[e2];exact u2
  cases x with
  |exit id=>cases J
  |normal=>
   simp only[qF,ak,aM,bC] at J;obtain⟨vs,O,e1,e2⟩:=J;exact U vs O e1.symm e2.symm
  |ret=>
   simp only[qF,ak,aM,bC] at J;obtain⟨vs,O,e1,e2⟩:=J;exact U vs O e1.symm e2.symm
theorem Uv(J:AL Q)(n:Nat):xU Q n/\He Q n/\sX Q n:=by
 induction n using Nat.strongRecOn with
 |_ n E=>
  cases n with
  |zero=>
   refine⟨?_,?_,?_⟩;intro f args mk s s2 G w xs ch A p I hi g;obtain⟨v,s',h,_⟩:=g ch (.refl _ _) hi;cases h;intro ro f all mk l i fr ch A G B s s2 a w p C hi hl g K z;obtain⟨x,fr',s',h,_⟩:=g ch (.refl _ _) hi;cases h;intro ro f c mk fr ch A G B s s2 a w y q p C hi g K z;obtain⟨x,fr',s',h,_⟩:=g ch (.refl _ _) hi;cases h
  |succ n=>
   grind [ahn,avd,aiB]
mutual
def bG:aa->Bool
 | .agg cs=>pures cs
 | .tup cs=>pures cs
 | .ptr _ _=>false
 | .Gt _ _ _=>false
 | .ro cs=>pures cs
 | .list _ xs r=>pures xs&&(match r with| .own _=>false|_=>true)
 | .arr _ _ _ _ _=>false
 | .map _=>false
 | .func _ a b=>pures a&&pures b
 | .iface _ v=>bG v
 | .yld _=>false
 | .roz _=>false
 |_=>true
def pures:List aa->Bool
 | []=>true
 |v::l=>bG v&&pures l
end
mutual
def cu:aa->aa
 | .agg cs=>.agg (dj cs)
 | .tup cs=>.tup (dj cs)
 | .ro cs=>.ro (dj cs)
 | .list n xs r=>.list n (dj xs) (match r with| .own _=>.no|r=>r)
 | .func f a b=>.func f (dj a) (dj b)
 | .iface t v=>.iface t (cu v)
 |v=>v
def dj:List aa->List aa
 | []=>[]
 |v::l=>cu v::dj l
end
variable{l:List aa}
theorem Bj:pures l=true↔ ∀v∈l,bG v=true:=by
 induction l with
 |nil=>simp[pures]
 |cons v l g=>simp[pures,g]
mutual
def DX: ∀ {v:aa},bG v=true->cu v=v
 | .agg cs,h=>by simp only[bG] at h;simp only[cu,kw h]
 | .tup cs,h=>by simp only[bG] at h;simp only[cu,kw h]
 | .ro cs,h=>by simp only[bG] at h;simp only[cu,kw h]
 | .list n xs r,h=>by
   simp only[bG,bq] at h;simp only[cu,kw h.1];cases r<;>first|rfl|(simp at h)
 | .func f a b,h=>by
   simp only[bG,bq] at h;simp only[cu,kw h.1,kw h.2]
 | .iface t v,h=>by simp only[bG] at h;simp only[cu,DX h]
 | .bool _,_=>rfl
 | .int _ _,_=>rfl
 | .str _,_=>rfl
 | .nilp,_=>rfl
 | .ptr _ _,h=>by simp[bG] at h
 | .Gt _ _ _,h=>by simp[bG] at h
 | .Ge,_=>rfl
 | .arr _ _ _ _ _,h=>by simp[bG] at h
 | .nilm,_=>rfl
 | .map _,h=>by simp[bG] at h
 | .nilf,_=>rfl
 | .nili,_=>rfl
def kw: ∀ {l:List aa},pures l=true->dj l=l
 | [],_=>rfl
 |v::l,h=>by
  simp only[pures,bq] at h;simp only[dj,DX h.1,kw h.2]
end
theorem azu(h:v.scal=true):(cu v).scal=true:=by
 cases v<;>simp_all [cu,aa.scal]
theorem awY(h:dg l=true):dg (dj l)=true:=by
 induction l with
 |nil=>rfl
 |cons v l g=>
  grind [dg,dj,azu]
def Kd(h:pures l=true)(hi:l[i]? =some v):bG v=true:=Bj.1 h v (List.mem_of_getElem? hi)
theorem acD(h:pures l=true):pures (aG l)=true:=by
 induction l with
 |nil=>rfl
 |cons v l g=>
  simp only[pures,bq] at h;have h1:pures v.cells=true:=by
   cases v<;>first
    |(simp only[aa.cells];simpa[bG] using h.1)
    |grind [aa.cells,pures]
  grind [Bj,aG]
section
variable{G1 G2:Gh}
def Ee(G1 G2:Gh):Prop:= ∀b o v,G1.ro b o=some v->bG v=true->G2.ro b o=some v
mutual
def VR.onto(k:Ee G1 G2): ∀ {v:aa} {x:Value},VR G1 v x->bG v=true->VR G2 v x
 |_,_,.bool b,_=>.bool b
 |_,_,.int k n,_=>.int k n
 |_,_,.str s,_=>.str s
 |_,_,.agg hc hs,h=>.agg hc (bV.onto k hs (by simpa[bG] using h))
 |_,_,.tup hs,h=>.tup (bV.onto k hs (by simpa[bG] using h))
 |_,_,.nilp,_=>.nilp
 |_,_,.ptr e,h=>by simp[bG] at h
 |_,_,.ro e,h=>.ro fun i x g=>k _ _ _ (e i x g) (Kd (by simpa[bG] using h) g)
 |_,_,.Ge,_=>.Ge
 |_,_,.list (r:=r) a b c d e f,h=>by
  simp only[bG,bq] at h;refine .list a b c d (fun i x g=>k _ _ _ (e i x g) (Kd (acD h.1) g)) ?_;cases r with
  |GT=>exact f
  |own n=>simp at h
  |no=>exact trivial
 |_,_,.arr ..,h=>by simp[bG] at h
 |_,_,.nilm,_=>.nilm
 |_,_,.map e,h=>by simp[bG] at h
 |_,_,.nilf,_=>.nilf
 |_,_,.func a b,h=>by
  simp only[bG,bq] at h;exact .func (bV.onto k a h.1) (bV.onto k b h.2)
 |_,_,.nili,_=>.nili
 |_,_,.iface e,h=>.iface (VR.onto k e (by simpa[bG] using h))
def bV.onto(k:Ee G1 G2): ∀ {vs:List aa} {xs:List Value},bV G1 vs xs->pures vs=true->bV G2 vs xs
 |_,_,.nil,_=>.nil
 |_,_,.cons a b,h=>by
  simp only[pures,bq] at h;exact .cons (VR.onto k a h.1) (bV.onto k b h.2)
end
end
def Gh.plain(G:Gh):Gh where
 at_ _:=none
 ro b o:=(G.ro b o).bind fun v=>if bG v=true then some v else none
 dim:=G.dim
def Kc(G:Gh):Ee G G.plain:=fun b o v h g=>by simp[Gh.plain,h,g]
variable{G:Gh}
theorem WR.plain(x:WR G h w):WR G.plain .nil w where
 obj n o h:=by cases h
 sep n m a b h:=absurd rfl h
 ro b o v g:=by
  simp only[Gh.plain,ak] at g;obtain⟨u,p,g⟩:=g;split at g;rename_i hp;injection g with g;subst g
  obtain⟨h1,y,h2,h3⟩:=x.ro b o u p;exact⟨h1,y,h2,h3.onto (Kc G) hp⟩;cases g
 apart n ob a i v h:=by cases h
 dim:=x.dim
 below n a h:=by cases h
def s0:St:=⟨.nil,0,0,0⟩
def JL: ¬eB G .nil b:=fun⟨_,_,h,_⟩=>h rfl
def cL(P:Program)(f:FuncId)(sp:List aa->Option aa):Prop:=
 ∀args v,sp args=some v-> ∀(G:Gh) (h:aD aJ) (w:World) (xs:List Value),WR G h w->bV G args xs->
  mj P f ⟨xs⟩ w fun y w'=> ∃G',WR G' h w'/\cO G h w G' h w' 0 0/\VR G' v y
structure uB (r r':oG):Prop where
 ops: ∀f all mk l fr s x,r.ops f all mk l fr s=some x->r'.ops f all mk l fr s=some x
 draw: ∀f all bs mk rs i l fr s x,r.draw f all bs mk rs i l fr s=some x->r'.draw f all bs mk rs i l fr s=some x
 code: ∀f c mk fr s x,r.code f c mk fr s=some x->r'.code f c mk fr s=some x
 call: ∀f args mk s x,r.call f args mk s=some x->r'.call f args mk s=some x
def jQ{x g:Option α}{k p:α->Option β}{b:β}(h:x.bind k=some b)(q: ∀a,x=some a->g=some a)(y: ∀a,k a=some b->p a=some b):g.bind p=some b:=by
 cases e:x with
 |none=>rw[e] at h;cases h
 |some a=>rw[e] at h;rw[q a e];exact y a h
variable{x:aa×Loc×St}
section
variable{Q:aF}{r r':oG}(hr:uB r r')
include hr
theorem SN{x:aa×St}(h:mX r n args mk s=some x):mX r' n args mk s=some x:=by
 unfold mX at h ⊢;refine jQ h (fun _ h=>h) fun o h=>jQ h (fun y h=>?_) fun _ h=>h;unfold BD at h ⊢;split at h;obtain⟨q,h⟩:=bc h;rw[q];refine jQ h (fun _ h=>h) fun g h=>jQ h (fun _ h=>hr.code _ _ _ _ _ _ h) fun p h=>?_;obtain⟨e,fr1,s1⟩:=p;cases e with
 |normal=>exact jQ h (fun _ h=>hr.code _ _ _ _ _ _ h) fun _ h=>h
 |exit i=>cases h
 |ret=>cases h
 cases h
theorem abO(h:eW Q r f o mk fr s=some x):eW Q r' f o mk fr s=some x:=by
 unfold eW at h ⊢;split at h;split at h;exact h;rename_i c _ _ _;cases hy:oY fr.env c with
 |true=>
  rw[hy] at h;simp only[cT] at h ⊢;unfold sM at h ⊢;exact jQ h (fun _ h=>h) fun a h=>jQ h (fun _ h=>SN hr h) fun _ h=>h
 |false=>
  rw[hy] at h;simp only[cF] at h ⊢;unfold pF at h ⊢;exact jQ h (fun _ h=>h) fun a h=>jQ h (fun _ h=>hr.call _ _ _ _ _ h) fun _ h=>h
 exact h
theorem aky:uB (NK Q r) (NK Q r') where
 ops f all mk l fr s x h:=by
  have h:mO Q r f all mk l fr s=some x:=h;show mO Q r' f all mk l fr s=some x;unfold mO at h ⊢;split at h;exact h;cases hw:eP all fr.env _<;>rw[hw] at h<;>simp only[cT,cF] at h ⊢;exact jQ h (fun _ h=>h) fun _ h=>hr.ops _ _ _ _ _ _ _ h;exact jQ h (fun _ h=>abO hr h) fun a h=>jQ h (fun _ h=>h) fun _ h=>hr.ops _ _ _ _ _ _ _ h
 draw f all bs mk rs i l fr s x h:=by
  have h:my Q r f all bs mk rs i l fr s=some x:=h;show my Q r' f all bs mk rs i l fr s=some x;unfold my at h ⊢;split at h;exact h;cases hw:eP all fr.env _<;>rw[hw] at h<;>simp only[cT,cF] at h ⊢;exact jQ h (fun _ h=>h) fun _ h=>hr.draw _ _ _ _ _ _ _ _ _ _ h;refine jQ h (fun _ h=>abO hr h) fun a h=>?_;obtain⟨q,h⟩:=bc h;rw[q];exact jQ h (fun _ h=>h) fun _ h=>hr.draw _ _ _ _ _ _ _ _ _ _ h
 code f c mk fr s x h:=by
  have h:yh Q r f c mk fr s=some x:=h;show yh Q r' f c mk fr s=some x;have g: ∀b y,pV r f b mk y=some x->pV r' f b mk y=some x:=by
   intro b y p;obtain⟨e,fr1,s1⟩:=y;cases e;exact hr.code _ _ _ _ _ _ p;exact p;exact p
  cases c<;>simp only[yh] at h ⊢ <;>first
   |exact h
   |exact jQ h (fun _ h=>hr.code _ _ _ _ _ _ h) fun _ h=>g _ _ h
   |exact jQ h (fun _ h=>hr.code _ _ _ _ _ _ h) fun _ h=>h
   |exact hr.code _ _ _ _ _ _ h
   |skip
  case cond=>
   refine jQ h (fun _ h=>h) fun v h=>?_;cases v<;>try (cases h;done)
   rename_i b;cases b<;>exact hr.code _ _ _ _ _ _ h
  case rangeFunc=>
   refine jQ h (fun _ h=>h) fun v h=>?_;unfold xj at h ⊢;split at h;obtain⟨z,h⟩:=bc h;rw[z];exact jQ h (fun _ h=>hr.call _ _ _ _ _ h) fun _ h=>h;cases h
  case region=>
   rename_i id ops draw _;unfold Kk at h ⊢;refine jQ h (fun a h=>?_) fun _ h=>h;cases draw with
   |false=>exact hr.ops _ _ _ _ _ _ _ h
   |true=>
    simp only[cT] at h ⊢;obtain⟨q,h⟩:=bc h;rw[q];exact hr.draw _ _ _ _ _ _ _ _ _ _ h
 call f args mk s x h:=by
  have h:jw Q r f args mk s=some x:=h;show jw Q r' f args mk s=some x;unfold jw at h ⊢;split at h;exact h;split at h;exact h;split at h;exact h;exact jQ h (fun _ h=>h) fun fn h=>jQ h (fun _ h=>h) fun c h=>jQ h (fun _ h=>hr.code _ _ _ _ _ _ h) fun _ h=>h
end
def aap(Q:aF): ∀n,uB (ce Q n) (ce Q (n+1))
 |0=>⟨fun _ _ _ _ _ _ _ h=>(by cases h),fun _ _ _ _ _ _ _ _ _ _ h=>(by cases h),fun _ _ _ _ _ _ h=>(by cases h),fun _ _ _ _ _ h=>(by cases h)⟩
 |n+1=>aky (aap Q n)
def uB.refl(r:oG):uB r r:=⟨fun _ _ _ _ _ _ _ h=>h,fun _ _ _ _ _ _ _ _ _ _ h=>h,fun _ _ _ _ _ _ h=>h,fun _ _ _ _ _ h=>h⟩
def uB.trans{a b c:oG}(x:uB a b)(y:uB b c):uB a c:=
 ⟨fun _ _ _ _ _ _ _ h=>y.ops _ _ _ _ _ _ _ (x.ops _ _ _ _ _ _ _ h),fun _ _ _ _ _ _ _ _ _ _ h=>y.draw _ _ _ _ _ _ _ _ _ _ (x.draw _ _ _ _ _ _ _ _ _ _ h),
  fun _ _ _ _ _ _ h=>y.code _ _ _ _ _ _ (x.code _ _ _ _ _ _ h),fun _ _ _ _ _ h=>y.call _ _ _ _ _ (x.call _ _ _ _ _ h)⟩
def nB(Q:aF)(h:n<=m):uB (ce Q n) (ce Q m):=by
 induction m with
 |zero=>have:n=0:=by omega
        subst this;exact .refl _
 |succ m g=>
  by_cases e:n=m+1;subst e;exact .refl _;exact(g (by omega)).trans (aap Q m)
inductive SG where
 |aw
 |never
 |when (t:Tmp) (b:Bool)
structure ay where
 dst:Option Tmp
 op:Op
 g:SG
abbrev sOa(d:Tmp)(o:Op):ay:=⟨some d,o,.aw⟩
abbrev sOw(d:Tmp)(o:Op)(n:Tmp)(b:Bool):ay:=⟨some d,o,.when n b⟩
abbrev uD:=List ay
def N3(all:Array Oper)(o:Oper):SG:=
 match o.guard with
 |none=>.aw
 |some (j,w)=>match(all[j]?).bind (·.dst) with
  |some d=>.when d w
  |none=>.never
def pY(all:Array Oper)(o:Oper):ay:=⟨o.dst,o.op,N3 all o⟩
inductive SC where
 |skip
 |ret
 |exit (id:Nat)
 |seq (a b:SC)
 |cond (x:Operand) (a b:SC)
 |block (id:Nat) (b:SC)
 |scope (b:SC)
 |loop (b:SC)
 |region (ops:List ay)
 |draw (ops:List ay) (bs:List Nat)
 |rfun (g:Operand) (ps:List Tmp) (a b:Code)
 |bad
def dY:Code->SC
 | .skip=>.skip
 | .label _=>.skip
 | .ret=>.ret
 | .exit id=>.exit id
 | .seq a b=>.seq (dY a) (dY b)
 | .cond x a b=>.cond x (dY a) (dY b)
 | .block id b=>.block id (dY b)
 | .scope b=>.scope (dY b)
 | .loop b=>.loop (dY b)
 | .region _ ops false=>.region (ops.toList.map (pY ops))
 | .region _ ops true=>bif nW ops 0 ops.toList (Region.before ops).toList then .draw (ops.toList.map (pY ops)) (Region.before ops).toList else .bad
 | .rangeFunc g ps a b=>.rfun g ps.toList a b
 |_=>.bad
noncomputable def eY(e:aw):SG->Bool
 | .aw=>true
 | .never=>false
 | .when t b=>match ac e t with
   | .bool c=>c==b
   |_=>false
theorem BB(all:Array Oper)(e:aw)(o:Oper):eY e (N3 all o)=eP all e o:=by
 unfold N3 eP;cases o.guard with
 |none=>rfl
 |some g=>
  obtain⟨j,w⟩:=g;simp only;cases (all[j]?).bind (·.dst)<;>rfl
section
variable(Q:aF)(f:FuncId)
noncomputable def cy(o:ay)(mk:aH)(fr:Fr)(s:St):Option (aa×Loc×St):=
 match o.op with
 | .call c=>match c.callee with
   | .builtin _=>vm Q.P mk (Q.hint f) o.dst c fr s
   |_=>(callee fr.env c).bind fun g=>(Q.spec g.1).bind fun sp=>(sp g.2).bind fun v=>some (v,fr.loc,s)
 |op=>lL Q.P mk Q.ch Q.kmax (Q.hint f) o.dst op fr s
noncomputable def sK(o:ay)(fr:Fr)(s:St):Option (Fr×St):=
 bif eY fr.env o.g then(cy Q f o [] fr s).bind fun x=>(cR fr o.dst x.1 x.2.1).bind fun fr'=>some (fr',x.2.2)
 else(cR fr o.dst fL fr.loc).bind fun fr'=>some (fr',s)
noncomputable def vA:List ay->Fr->St->Option (Fr×St)
 | [],fr,s=>some (fr,s)
 |o::l,fr,s=>(sK Q f o fr s).bind fun x=>vA l x.1 x.2
noncomputable def zu(bs:List Nat)(rs:List eZ)(i:Nat):List ay->Fr->St->Option (Fr×St)
 | [],fr,s=>some (fr,s)
 |o::l,fr,s=>
  bif eY fr.env o.g then
   (cy Q f o (iO (bs.headD 0) rs []) fr ⟨s.heap,s.aL,s.aL,s.ci⟩).bind fun x=>
    bif pJ (bs.headD 0) (bD (Q.hint f) o.dst fr.env o.op) (bh x.2.2.gE s.aL||isStore o.op) rs&&aK s.ci x.2.2.ci then
     (cR fr o.dst x.1 x.2.1).bind fun fr'=>
      zu bs.tail (⟨i,s.aL,x.2.2.aL,bD (Q.hint f) o.dst fr.env o.op,bh x.2.2.gE s.aL||isStore o.op⟩::rs) (i+1) l fr' (s.GE x.2.2)
    else none
  else(cR fr o.dst fL fr.loc).bind fun fr'=>zu bs.tail rs (i+1) l fr' s
end
def Ex.block(id:Nat):Ex->Ex
 | .exit i=>bif aK i id then .normal else .exit i
 |x=>x
def aq(Q:aF)(g:FuncId)(args:List aa)(s:St)(v:aa)(s':St):Prop:= ∃n,(ce Q n).call g args [] s=some (v,s')
def iI(Q:aF)(n:Nat)(args:List aa)(s:St)(v:aa)(s':St):Prop:= ∃k,mX (ce Q k) n args [] s=some (v,s')
inductive rH (Q:aF) (f:FuncId):List ay->Fr->St->Fr->St->Prop
 |nil {fr:Fr} {s:St}:rH Q f [] fr s fr s
 |step {o:ay} {l:List ay} {fr fr1 fr2:Fr} {s s1 s2:St}:sK Q f o fr s=some (fr1,s1)->rH Q f l fr1 s1 fr2 s2->rH Q f (o::l) fr s fr2 s2
 |call {o:ay} {c:Call} {l:List ay} {fr fr1 fr2:Fr} {s s1 s2:St} {g:FuncId} {args:List aa} {v:aa}:eY fr.env o.g=true->o.op= .call c->(∀b,c.callee≠ .builtin b)->callee fr.env c=some (g,args)->
  aq Q g args s v s1->cR fr o.dst v fr.loc=some fr1->rH Q f l fr1 s1 fr2 s2->rH Q f (o::l) fr s fr2 s2
 |yld {o:ay} {c:Call} {l:List ay} {fr fr1 fr2:Fr} {s s1 s2:St} {n:Nat} {args:List aa} {v:aa}:eY fr.env o.g=true->o.op= .call c->yieldee fr.env c=some (n,args)->
  iI Q n args s v s1->cR fr o.dst v fr.loc=some fr1->rH Q f l fr1 s1 fr2 s2->rH Q f (o::l) fr s fr2 s2
def LF(Q:aF)(g:FuncId)(args:List aa)(mk:aH)(s:St)(v:aa)(s':St):Prop:= ∃n,(ce Q n).call g args mk s=some (v,s')
def Tx(Q:aF)(n:Nat)(args:List aa)(mk:aH)(s:St)(v:aa)(s':St):Prop:= ∃k,mX (ce Q k) n args mk s=some (v,s')
inductive kE (Q:aF) (f:FuncId):List Nat->List eZ->Nat->List ay->Fr->St->Fr->St->Prop
 |nil {bs:List Nat} {rs:List eZ} {i:Nat} {fr:Fr} {s:St}:kE Q f bs rs i [] fr s fr s
 |skip {bs:List Nat} {rs:List eZ} {i:Nat} {o:ay} {l:List ay} {fr fr1 fr2:Fr} {s s2:St}:eY fr.env o.g=false->cR fr o.dst fL fr.loc=some fr1->kE Q f bs.tail rs (i+1) l fr1 s fr2 s2->kE Q f bs rs i (o::l) fr s fr2 s2
 |step {bs:List Nat} {rs:List eZ} {i:Nat} {o:ay} {l:List ay} {fr fr1 fr2:Fr} {s s1 s2:St} {v:aa} {lc:Loc}:eY fr.env o.g=true->cy Q f o (iO (bs.headD 0) rs []) fr ⟨s.heap,s.aL,s.aL,s.ci⟩=some (v,lc,s1)->
  pJ (bs.headD 0) (bD (Q.hint f) o.dst fr.env o.op) (bh s1.gE s.aL||isStore o.op) rs=true->s1.ci=s.ci->cR fr o.dst v lc=some fr1->
  kE Q f bs.tail (⟨i,s.aL,s1.aL,bD (Q.hint f) o.dst fr.env o.op,bh s1.gE s.aL||isStore o.op⟩::rs) (i+1) l fr1 (s.GE s1) fr2 s2->kE Q f bs rs i (o::l) fr s fr2 s2
 |call {bs:List Nat} {rs:List eZ} {i:Nat} {o:ay} {c:Call} {l:List ay} {fr fr1 fr2:Fr} {s s1 s2:St} {g:FuncId} {args:List aa} {v:aa}:eY fr.env o.g=true->o.op= .call c->(∀b,c.callee≠ .builtin b)->callee fr.env c=some (g,args)->
  LF Q g args (iO (bs.headD 0) rs []) ⟨s.heap,s.aL,s.aL,s.ci⟩ v s1->
  pJ (bs.headD 0) (bD (Q.hint f) o.dst fr.env o.op) (bh s1.gE s.aL||isStore o.op) rs=true->s1.ci=s.ci->cR fr o.dst v fr.loc=some fr1->
  kE Q f bs.tail (⟨i,s.aL,s1.aL,bD (Q.hint f) o.dst fr.env o.op,bh s1.gE s.aL||isStore o.op⟩::rs) (i+1) l fr1 (s.GE s1) fr2 s2->kE Q f bs rs i (o::l) fr s fr2 s2
 |yld {bs:List Nat} {rs:List eZ} {i:Nat} {o:ay} {c:Call} {l:List ay} {fr fr1 fr2:Fr} {s s1 s2:St} {n:Nat} {args:List aa} {v:aa}:eY fr.env o.g=true->o.op= .call c->yieldee fr.env c=some (n,args)->
  Tx Q n args (iO (bs.headD 0) rs []) ⟨s.heap,s.aL,s.aL,s.ci⟩ v s1->
  pJ (bs.headD 0) (bD (Q.hint f) o.dst fr.env o.op) (bh s1.gE s.aL||isStore o.op) rs=true->s1.ci=s.ci->cR fr o.dst v fr.loc=some fr1->
  kE Q f bs.tail (⟨i,s.aL,s1.aL,bD (Q.hint f) o.dst fr.env o.op,bh s1.gE s.aL||isStore o.op⟩::rs) (i+1) l fr1 (s.GE s1) fr2 s2->kE Q f bs rs i (o::l) fr s fr2 s2
def kE.of{Q:aF}{f:FuncId}: ∀ {l:List ay} {bs:List Nat} {rs:List eZ} {i:Nat} {fr fr':Fr} {s s':St},zu Q f bs rs i l fr s=some (fr',s')->kE Q f bs rs i l fr s fr' s'
 | [],bs,rs,i,fr,fr',s,s',h=>by
   simp only[zu,aM,bC] at h;obtain⟨rfl,rfl⟩:=h;exact .nil
 |o::l,bs,rs,i,fr,fr',s,s',h=>by
  simp only[zu] at h;cases hw:eY fr.env o.g with
  |true=>
   rw[hw] at h;simp only[cT,ak] at h;obtain⟨⟨v,y,s1⟩,h1,h⟩:=h;obtain⟨p,h⟩:=bc h;simp only[bq] at p;simp only[ak] at h;obtain⟨fr1,q,h⟩:=h;exact .step hw h1 p.1 (Nat.eq_of_beq_eq_true p.2).symm q (kE.of h)
  |false=>
   rw[hw] at h;simp only[cF,ak] at h;obtain⟨fr1,q,h⟩:=h;exact .skip hw q (kE.of h)
inductive jN (Q:aF) (f:FuncId):SC->Fr->St->Ex->Fr->St->Prop
 |skip {fr:Fr} {s:St}:jN Q f .skip fr s .normal fr s
 |ret {fr:Fr} {s:St}:jN Q f .ret fr s .ret fr s
 |exit {id:Nat} {fr:Fr} {s:St}:jN Q f (.exit id) fr s (.exit id) fr s
 |seqN {a b:SC} {fr fr1 fr2:Fr} {s s1 s2:St} {x:Ex}:jN Q f a fr s .normal fr1 s1->jN Q f b fr1 s1 x fr2 s2->jN Q f (.seq a b) fr s x fr2 s2
 |seqX {a b:SC} {fr fr1:Fr} {s s1:St} {x:Ex}:jN Q f a fr s x fr1 s1->x≠ .normal->jN Q f (.seq a b) fr s x fr1 s1
 |cond {o:Operand} {a b:SC} {t:Bool} {fr fr1:Fr} {s s1:St} {x:Ex}:ev fr.env o=some (.bool t)->jN Q f (if t then a else b) fr s x fr1 s1->jN Q f (.cond o a b) fr s x fr1 s1
 |block {id:Nat} {b:SC} {fr fr1:Fr} {s s1:St} {x:Ex}:jN Q f b fr s x fr1 s1->jN Q f (.block id b) fr s (x.block id) fr1 s1
 |scope {b:SC} {fr fr1:Fr} {s s1:St} {x:Ex}:jN Q f b fr s x fr1 s1->jN Q f (.scope b) fr s x fr1 s1
 |loopN {b:SC} {fr fr1 fr2:Fr} {s s1 s2:St} {x:Ex}:jN Q f b fr s .normal fr1 s1->jN Q f (.loop b) fr1 s1 x fr2 s2->jN Q f (.loop b) fr s x fr2 s2
 |loopX {b:SC} {fr fr1:Fr} {s s1:St} {x:Ex}:jN Q f b fr s x fr1 s1->x≠ .normal->jN Q f (.loop b) fr s x fr1 s1
 |region {ops:List ay} {fr fr1:Fr} {s s1:St}:rH Q f ops fr s fr1 s1->jN Q f (.region ops) fr s .normal fr1 s1
 |draw {ops:List ay} {bs:List Nat} {fr fr1:Fr} {s s1:St}:kE Q f bs [] 0 ops fr s fr1 s1->jN Q f (.draw ops bs) fr s .normal fr1 s1
 |rfun {g:Operand} {ps:List Tmp} {a b:Code} {fr:Fr} {s s1:St} {h:FuncId} {first captured:List aa} {v:aa} {f':FuncId} {env':aD aa} {size':Nat} {ps':List Tmp} {a' b':Code} {p:Option Ex}:ev fr.env g=some (.func (.func h) first captured)->
  (tF Q.P h&&(fr.env.all jB&&(dB a&&dB b)))=true->aq Q h (first++(.yld s.aL::captured)) (s.new (.loop f fr.env fr.size ps a b none)) v s1->s1.get [] s.aL=some (.loop f' env' size' ps' a' b' p)->
  jN Q f (.rfun g ps a b) fr s (Gf p) fr (s1.put s.aL none)
theorem Qu(n:Nat):aK n n=true:=by simp
variable{c:Call}{e:aw}
theorem Oi{g:FuncId×List aa}(h:callee e c=some g):oY e c=false:=by
 grind [callee,oY]
theorem XQ{g:Nat×List aa}(h:yieldee e c=some g):oY e c=true/\ ∀b,c.callee≠ .builtin b:=by
 grind [yieldee,oY,ak]
variable{sc:SC}
section
variable{Q:aF}{f:FuncId}
theorem acx{all:Array Oper}(h:cy Q f (pY all o) mk fr s=some x)(n:Nat):eW Q (ce Q (n+1)) f o mk fr s=some x:=by
 unfold cy at h;unfold eW;simp only[pY] at h;cases hop:o.op<;>rw[hop] at h<;>simp only at h ⊢ <;>try exact h
 ·rename_i c
  cases hcl:c.callee<;>rw[hcl] at h<;>simp only at h ⊢
  case builtin=>exact h
  all_goals
   simp only[ak] at h;obtain⟨g,y,sp,p,v,q,h⟩:=h;injection h with h;subst h
   have:(ce Q (n+1)).call g.1 g.2 mk s=some (v,s):=by
    show jw Q (ce Q n) g.1 g.2 mk s=_;unfold jw;simp only[p,q,bk]
   grind [Oi,pF]
theorem awI{all:Array Oper}: ∀ {l:List Oper} {ops:List ay} {fr fr':Fr} {s s':St},rH Q f ops fr s fr' s'->ops=l.map (pY all)-> ∃n,(ce Q n).ops f all [] l fr s=some (fr',s'):=by
 intro l ops fr fr' s s' h
 induction h generalizing l with
 |nil=>
  intro e;cases l with
  |nil=>exact⟨1,rfl⟩
  |cons _ _=>cases e
 |step h1 _ C=>
  intro e;cases l with
  |nil=>cases e
  |cons p l=>
   simp only[eT,nQ] at e;obtain⟨rfl,rfl⟩:=e;obtain⟨n,y⟩:=C rfl;refine⟨n+2,?_⟩;show mO Q (ce Q (n+1)) f all [] (p::l) _ _=_;have y:=(nB Q (jW n)).ops _ _ _ _ _ _ _ y;rename_i fr fr1 _ s s1 _ _ _;unfold sK at h1
   grind [pY,BB,mO,ak,acx]
 |call z E T J q O _ C=>
  intro e;cases l with
  |nil=>cases e
  |cons p l=>
   simp only[eT,nQ] at e;obtain⟨rfl,rfl⟩:=e;obtain⟨n,y⟩:=C rfl;obtain⟨m,I⟩:=q;refine⟨max n m+1,?_⟩;show mO Q (ce Q (max n m)) f all [] (p::l) _ _=_;have y:=(nB Q (vU n m)).ops _ _ _ _ _ _ _ y;have I:=(nB Q (ux n m)).call _ _ _ _ _ I;rename_i c fr fr1 R s s1 s2 g args v _ _ _;have z:eP all fr.env p=true:=by rw[<-BB all];exact z
   simp only[mO];rw[z];simp only[cT,ak];have E:p.op= .call c:=E;refine⟨(v,fr.loc,s1),?_,fr1,O,y⟩
   grind [eW,pF,Oi]
 |yld z E J q O _ C=>
  intro e;cases l with
  |nil=>cases e
  |cons p l=>
   simp only[eT,nQ] at e;obtain⟨rfl,rfl⟩:=e;obtain⟨n,y⟩:=C rfl;obtain⟨m,I⟩:=q;refine⟨max n m+1,?_⟩;show mO Q (ce Q (max n m)) f all [] (p::l) _ _=_;have y:=(nB Q (vU n m)).ops _ _ _ _ _ _ _ y;have I:=SN (nB Q (ux n m)) I;rename_i c fr fr1 R s s1 s2 g args v _ _ _;have z:eP all fr.env p=true:=by rw[<-BB all];exact z
   simp only[mO];rw[z];simp only[cT,ak];have E:p.op= .call c:=E;refine⟨(v,fr.loc,s1),?_,fr1,O,y⟩
   grind [eW,sM,XQ]
theorem awJ{all:Array Oper}{ops:List ay}(h:kE Q f bs rs i ops fr s fr' s'): ∀ {l:List Oper},ops=l.map (pY all)-> ∃n,(ce Q n).draw f all bs [] rs i l fr s=some (fr',s'):=by
 induction h with
 |nil=>
  intro l e;cases l with
  |nil=>exact⟨1,rfl⟩
  |cons _ _=>cases e
 |skip q h1 _ C=>
  intro l e;cases l with
  |nil=>cases e
  |cons p l=>
   simp only[eT,nQ] at e;obtain⟨rfl,rfl⟩:=e;obtain⟨n,z⟩:=C rfl;refine⟨n+1,?_⟩;have q:=(BB all _ p).symm.trans q;show my Q (ce Q n) f all _ [] _ _ (p::l) _ _=_;simp only[my];rw[q];simp only[cF,ak];exact⟨_,h1,z⟩
 |step q h1 R T U _ C=>
  intro l e;cases l with
  |nil=>cases e
  |cons p l=>
   simp only[eT,nQ] at e;obtain⟨rfl,rfl⟩:=e;obtain⟨n,z⟩:=C rfl;refine⟨n+2,?_⟩;have q:=(BB all _ p).symm.trans q;show my Q (ce Q (n+1)) f all _ [] _ _ (p::l) _ _=_;have z:=(nB Q (jW n)).draw _ _ _ _ _ _ _ _ _ _ z
   grind [my,acx,pY,Qu]
 |call q J V I y R T U _ C=>
  intro l e;cases l with
  |nil=>cases e
  |cons p l=>
   simp only[eT,nQ] at e;obtain⟨rfl,rfl⟩:=e;rename_i bs rs i c fr fr1 O s s1 s2 g args v _;obtain⟨n,z⟩:=C rfl;obtain⟨m,E⟩:=y;refine⟨max n m+1,?_⟩;have q:=(BB all _ p).symm.trans q;show my Q (ce Q (max n m)) f all _ [] _ _ (p::l) _ _=_;have z:=(nB Q (vU n m)).draw _ _ _ _ _ _ _ _ _ _ z;have E:=(nB Q (ux n m)).call _ _ _ _ _ E
   simp_all [my,eW,pF,Oi,pY]
 |yld q J I y R T U _ C=>
  intro l e;cases l with
  |nil=>cases e
  |cons p l=>
   simp only[eT,nQ] at e;obtain⟨rfl,rfl⟩:=e;rename_i bs rs i c fr fr1 O s s1 s2 g args v _;obtain⟨n,z⟩:=C rfl;obtain⟨m,E⟩:=y;refine⟨max n m+1,?_⟩;have q:=(BB all _ p).symm.trans q;show my Q (ce Q (max n m)) f all _ [] _ _ (p::l) _ _=_;have z:=(nB Q (vU n m)).draw _ _ _ _ _ _ _ _ _ _ z;have E:=SN (nB Q (ux n m)) E;have J:p.op= .call c:=J;simp only[my]
   grind [eW,sM,XQ,pY,Qu]
theorem aiE{id:Nat}:dY (.region id ops false)= .region (ops.toList.map (pY ops)):=by rw[dY]
theorem aiD{id:Nat}:dY (.region id ops true)=bif nW ops 0 ops.toList (Region.before ops).toList then .draw (ops.toList.map (pY ops)) (Region.before ops).toList else .bad:=by rw[dY]
theorem qC(c:Code):match dY c with
 | .skip=>c= .skip\/ ∃l,c= .label l
 | .ret=>c= .ret
 | .exit id=>c= .exit id
 | .seq a b=> ∃x y,c= .seq x y/\dY x=a/\dY y=b
 | .cond o a b=> ∃x y,c= .cond o x y/\dY x=a/\dY y=b
 | .block id b=> ∃x,c= .block id x/\dY x=b
 | .scope b=> ∃x,c= .scope x/\dY x=b
 | .loop b=> ∃x,c= .loop x/\dY x=b
 | .region l=> ∃id ops,c= .region id ops false/\ops.toList.map (pY ops)=l
 | .draw l bs=> ∃id ops,c= .region id ops true/\ops.toList.map (pY ops)=l/\(Region.before ops).toList=bs/\nW ops 0 ops.toList (Region.before ops).toList=true
 | .rfun g l a b=> ∃p,c= .rangeFunc g p a b/\p.toList=l
 | .bad=>True:=by
 cases c with
 |region id ops d=>
  cases d with
  |false=>grind [aiE]
  |true=>
   grind [aiD]
 |skip=>exact .inl rfl
 |label l=>exact .inr ⟨l,rfl⟩
 |ret=>rfl
 |exit id=>rfl
 |seq a b=>exact⟨a,b,rfl,rfl,rfl⟩
 |cond x a b=>exact⟨a,b,rfl,rfl,rfl⟩
 |block id b=>exact⟨b,rfl,rfl⟩
 |scope b=>exact⟨b,rfl,rfl⟩
 |loop b=>exact⟨b,rfl,rfl⟩
 |rangeFunc g p a b=>exact⟨p,rfl,rfl⟩
 |_=>trivial
theorem RJ{x:Ex}(h:jN Q f sc fr s x fr' s'): ∀ {c:Code},dY c=sc-> ∃n,(ce Q n).code f c [] fr s=some (x,fr',s'):=by
 induction h with
 |skip=>
  intro c e
  have:=qC c;rw[e] at this;rcases this with rfl|⟨l,rfl⟩<;>exact⟨1,rfl⟩
 |ret=>intro c e;have:=qC c;rw[e] at this;simp only at this;subst this;exact⟨1,rfl⟩
 |exit=>intro c e;have:=qC c;rw[e] at this;simp only at this;subst this;exact⟨1,rfl⟩
 |seqN _ _ p q=>
  intro c e
  have:=qC c;rw[e] at this;obtain⟨x,y,rfl,h1,z⟩:=this;obtain⟨n,g⟩:=p h1;obtain⟨m,I⟩:=q z;refine⟨max n m+1,?_⟩;show((ce Q (max n m)).code f x [] _ _).bind (pV (ce Q (max n m)) f y [])=_;rw[(nB Q (vU n m)).code _ _ _ _ _ _ g];exact(nB Q (ux n m)).code _ _ _ _ _ _ I
 |seqX _ E p=>
  intro c e
  have:=qC c;rw[e] at this;obtain⟨a,b,rfl,h1,z⟩:=this;obtain⟨n,g⟩:=p h1;refine⟨n+1,?_⟩;show((ce Q n).code f a [] _ _).bind (pV (ce Q n) f b [])=_;rw[g];rename_i x _;cases x;exact absurd rfl E;rfl;rfl
 |cond J _ C=>
  intro c e
  have:=qC c;rw[e] at this;obtain⟨a,b,rfl,h1,z⟩:=this;rename_i t _ _ _ _ _ _;obtain⟨n,g⟩:=C (c:=if t then a else b) (by cases t<;>simp[h1,z]);refine⟨n+1,?_⟩;show(ev _ _).bind (Ca (ce Q n) f a b [] _ _)=_;rw[J];cases t<;>exact g
 |block _ C=>
  intro c e
  have:=qC c;rw[e] at this;obtain⟨b,rfl,h1⟩:=this;obtain⟨n,g⟩:=C h1;refine⟨n+1,?_⟩;show((ce Q n).code f b [] _ _).bind (fun x=>some (qz _ x))=_;rw[g];rename_i id _ _ _ _ _ x _;cases x
  all_goals grind [qz,Ex.block]
 |scope _ C=>
  intro c e
  have:=qC c;rw[e] at this;obtain⟨b,rfl,h1⟩:=this;obtain⟨n,g⟩:=C h1;exact⟨n+1,g⟩
 |loopN _ _ p q=>
  intro c e
  have:=qC c;rw[e] at this;obtain⟨b,rfl,h1⟩:=this;obtain⟨n,g⟩:=p h1;obtain⟨m,I⟩:=q (c:=.loop b) (by rw[dY,h1]);refine⟨max n m+1,?_⟩;show((ce Q (max n m)).code f b [] _ _).bind (pV (ce Q (max n m)) f (.loop b) [])=_;rw[(nB Q (vU n m)).code _ _ _ _ _ _ g];exact(nB Q (ux n m)).code _ _ _ _ _ _ I
 |loopX _ E p=>
  intro c e
  have:=qC c;rw[e] at this;obtain⟨b,rfl,h1⟩:=this;obtain⟨n,g⟩:=p h1;refine⟨n+1,?_⟩;show((ce Q n).code f b [] _ _).bind (pV (ce Q n) f (.loop b) [])=_;rw[g];rename_i x _;cases x;exact absurd rfl E;rfl;rfl
 |region hl=>
  intro c e
  have:=qC c;rw[e] at this;obtain⟨id,ops,rfl,h1⟩:=this;obtain⟨n,g⟩:=awI (all:=ops) (l:=ops.toList) hl h1.symm;refine⟨n+1,?_⟩;show((ce Q n).ops f ops [] ops.toList _ _).bind (fun x=>some (Ex.normal,x.1,x.2))=_;rw[g];rfl
 |draw hl=>
  intro c e
  have:=qC c;rw[e] at this;obtain⟨id,ops,rfl,h1,z,R⟩:=this;subst h1;subst z;obtain⟨n,g⟩:=awJ hl (l:=ops.toList) rfl;refine⟨n+1,?_⟩;show(bif nW ops 0 ops.toList (Region.before ops).toList then(ce Q n).draw f ops (Region.before ops).toList [] [] 0 ops.toList _ _ else none).bind (fun x=>some (Ex.normal,x.1,x.2))=_;rw[R,cT,g];rfl
 |rfun J U hr T=>
  intro c e
  have:=qC c;rw[e] at this;obtain⟨O,rfl,rfl⟩:=this;obtain⟨n,g⟩:=hr;refine⟨n+1,?_⟩;show(ev _ _).bind (xj Q (ce Q n) f O.toList _ _ [] _ _)=_
  grind [xj,Bk]
end
def W(Q:aF)(f:FuncId)(c:SC)(fr:Fr)(s:St)(K:Ex->Fr->St->Prop):Prop:= ∃x fr' s',jN Q f c fr s x fr' s'/\K x fr' s'
def WL(Q:aF)(f:FuncId)(l:List ay)(fr:Fr)(s:St)(K:Fr->St->Prop):Prop:= ∃fr' s',rH Q f l fr s fr' s'/\K fr' s'
variable{ops:List ay}{b:SC}{s1:St}
section
variable{Q:aF}{f:FuncId}{fr:Fr}{s:St}{K:Ex->Fr->St->Prop}
def Ex.next(K:Ex->Fr->St->Prop)(N:Fr->St->Prop):Ex->Fr->St->Prop
 | .normal=>N
 |x=>K x
def W.mono{c:SC}{g:Ex->Fr->St->Prop}(h:W Q f c fr s K)(p: ∀x fr s,K x fr s->g x fr s):W Q f c fr s g:=let⟨x,fr',s',h1,h2⟩:=h;⟨x,fr',s',h1,p _ _ _ h2⟩
def W.skip(h:K .normal fr s):W Q f .skip fr s K:=⟨_,_,_,.skip,h⟩
def W.ret(h:K .ret fr s):W Q f .ret fr s K:=⟨_,_,_,.ret,h⟩
def W.exit{id:Nat}(h:K (.exit id) fr s):W Q f (.exit id) fr s K:=⟨_,_,_,.exit,h⟩
def W.seq{a:SC}(h:W Q f a fr s (Ex.next K fun fr s=>W Q f b fr s K)):W Q f (.seq a b) fr s K:=by
 obtain⟨x,fr1,s1,h1,g⟩:=h;cases x with
 |normal=>obtain⟨y,p,s2,z,q⟩:=g;exact⟨y,p,s2,.seqN h1 z,q⟩
 |exit i=>exact⟨_,_,_,.seqX h1 (by simp),g⟩
 |ret=>exact⟨_,_,_,.seqX h1 (by simp),g⟩
def W.cond{o:Operand}{a:SC}{t:Bool}(g:ev fr.env o=some (.bool t))(h:W Q f (if t then a else b) fr s K):W Q f (.cond o a b) fr s K:=let⟨x,fr1,s1,h1,h2⟩:=h;⟨x,fr1,s1,.cond g h1,h2⟩
theorem W.block{id:Nat}(h:W Q f b fr s fun x=>K (x.block id)):W Q f (.block id b) fr s K:=let⟨_x,fr1,s1,h1,h2⟩:=h;⟨_,fr1,s1,.block h1,h2⟩
def W.scope(h:W Q f b fr s K):W Q f (.scope b) fr s K:=let⟨x,fr1,s1,h1,h2⟩:=h;⟨x,fr1,s1,.scope h1,h2⟩
def W.loop1(h:W Q f b fr s (Ex.next K fun fr s=>W Q f (.loop b) fr s K)):W Q f (.loop b) fr s K:=by
 obtain⟨x,fr1,s1,h1,g⟩:=h;cases x with
 |normal=>obtain⟨y,p,s2,z,q⟩:=g;exact⟨y,p,s2,.loopN h1 z,q⟩
 |exit i=>exact⟨_,_,_,.loopX h1 (by simp),g⟩
 |ret=>exact⟨_,_,_,.loopX h1 (by simp),g⟩
def W.region(h:WL Q f ops fr s fun fr s=>K .normal fr s):W Q f (.region ops) fr s K:=let⟨fr1,s1,h1,h2⟩:=h;⟨_,fr1,s1,.region h1,h2⟩
def W.draw(h:zu Q f bs [] 0 ops fr s=some (fr1,s1))(g:K .normal fr1 s1):W Q f (.draw ops bs) fr s K:=⟨_,_,_,.draw (.of h),g⟩
def W.rfun{g:Operand}{ps:List Tmp}{a b:Code}{h:FuncId}{first captured:List aa}{O:FuncId}{y:aD aa}{q:Nat}{z:List Tmp}{a' b':Code}{p:Option Ex}(C:ev fr.env g=some (.func (.func h) first captured))(J:(tF Q.P h&&(fr.env.all jB&&(dB a&&dB b)))=true)(hr:aq Q h (first++(.yld s.aL::captured)) (s.new (.loop f fr.env fr.size ps a b none)) v s1)(I:s1.get [] s.aL=some (.loop O y q z a' b' p))(E:K (Gf p) fr (s1.put s.aL none)):W Q f (.rfun g ps a b) fr s K:=⟨_,_,_,.rfun C J hr I,E⟩
variable{N:Fr->St->Prop}
theorem RH: ∀ {a b:List ay} {fr fr1 g:Fr} {s s1 s2:St},vA Q f a fr s=some (fr1,s1)->rH Q f b fr1 s1 g s2->rH Q f (a++b) fr s g s2
 | [],b,fr,fr1,g,s,s1,s2,h,h'=>by
   grind [vA]
 |o::a,b,fr,fr1,g,s,s1,s2,h,h'=>by
  simp only[vA,ak] at h;obtain⟨⟨x,y⟩,h1,p⟩:=h;exact .step h1 (RH p h')
def WL.run(h:vA Q f ops fr s=some (fr1,s1))(g:N fr1 s1):WL Q f ops fr s N:=
 ⟨fr1,s1,by have:=RH h .nil;rwa [List.append_nil] at this,g⟩
def WL.app{a b:List ay}(h:vA Q f a fr s=some (fr1,s1))(g:WL Q f b fr1 s1 N):WL Q f (a++b) fr s N:=
 let⟨fr2,s2,h1,h2⟩:=g;⟨fr2,s2,RH h h1,h2⟩
def WL.call{o:ay}{l:List ay}{g:FuncId}(p:eY fr.env o.g=true)(y:o.op= .call c)(z: ∀b,c.callee≠ .builtin b)(E:callee fr.env c=some (g,args))(hr:aq Q g args s v s1)(q:cR fr o.dst v fr.loc=some fr1)(C:WL Q f l fr1 s1 N):WL Q f (o::l) fr s N:=
 let⟨fr2,s2,h1,h2⟩:=C;⟨fr2,s2,.call p y z E hr q h1,h2⟩
noncomputable def fP(n:Nat)(args:List aa):Fr:=⟨fH 0 args,bif bu args.length n then n else args.length,[]⟩
theorem aq.of{c:Code}(y:Q.P.funcs[f]? =some fn)(z:fn.body=some c)(g:Q.spec f=none)(p:dY c=sc)(h:W Q f sc (fP fn.ntmps args) s fun x fr' s1=>s1=s'/\(x= .normal\/x= .ret)/\ ∃vs,iE Q [] fr' s1 fn.results.toList=some vs/\nK vs=v)(E:Q.specH f=none:=by rfl)(C:Q.specW f=none:=by rfl):aq Q f args s v s':=by
 obtain⟨x,fr',s1,h1,rfl,O,vs,J,I⟩:=h;obtain⟨n,q⟩:=RJ h1 p;refine⟨n+1,?_⟩;show jw Q (ce Q n) f args [] s=_;unfold jw;rw[g];simp only[E,C,y,bk,z];have q:(ce Q n).code f c [] ⟨fH 0 args,bif bu args.length fn.ntmps then fn.ntmps else args.length,[]⟩ s=some (x,fr',s1):=q
 grind [qF]
def aq.specW{sp:List aa->Option pA}{g:List aa->Rd}{cs cs':List aa}(p:Q.spec f=none)(y:Q.specH f=none)(q:Q.specW f=some sp)(h1:sp args=some (some (n,g)))(C:s.get [] n=some (.cells cs))(z:fC (s.get []) (g cs)=some (.agg cs')):
 aq Q f args s (.tup []) (s.put n (some (.cells cs'))):=by
 refine⟨1,?_⟩;show jw Q (ce Q 0) f args [] s=_
 simp_all [jw,xi,Dy,Ej]
def Gk{x:Option (List aa)}{g:Nat->Option aJ}(h:fC g (t7 x)=some (.agg l)):x=some l:=by
 cases x with
 |none=>cases h
 |some y=>
  injection h with h
  injection h with h
  rw[h]
theorem aq.specWp{sp:List aa->Option pA}{g:List aa->Option (List aa)}{cs cs':List aa}(p:Q.spec f=none)(y:Q.specH f=none)(q:Q.specW f=some sp)(h1:sp args=some (some (n,fun cs=>t7 (g cs))))(z:s.get [] n=some (.cells cs))(C:g cs=some cs'):
 aq Q f args s (.tup []) (s.put n (some (.cells cs'))):=.specW p y q h1 z (by grind [fC,t7])
theorem aq.specW0{sp:List aa->Option pA}(g:Q.spec f=none)(q:Q.specH f=none)(p:Q.specW f=some sp)(h1:sp args=some none):aq Q f args s (.tup []) s:=by
 refine⟨1,?_⟩;show jw Q (ce Q 0) f args [] s=_
 grind [jw,xi]
end
def dt(g:aa->Option aa):List aa->Option (List aa)
 | []=>some []
 |v::l=>(g v).bind fun a=>(dt g l).bind fun r=>some (a::r)
noncomputable def cG(h:aD aJ):Nat->aa->Option aa
 |0,_=>none
 |k+1,v=>match v with
  | .agg cs=>(dt (cG h k) cs).bind fun r=>some (.agg r)
  | .tup cs=>(dt (cG h k) cs).bind fun r=>some (.tup r)
  | .list sz xs r=>(dt (cG h k) xs).bind fun g=>some (.list sz g (match r with| .own _=>.no|r=>r))
  | .arr sz n off len _=>match h.get n with
    |some (.cells cs)=>(cut cs off (len*sz)).bind fun c=>(dt (cG h k) c).bind fun p=>(aY (!aK sz 1) sz len p).bind fun xs=>some (.list sz xs .no)
    |_=>none
  | .bool b=>some (.bool b)
  | .int k n=>some (.int k n)
  | .str s=>some (.str s)
  | .nilp=>some .nilp
  | .Ge=>some .Ge
  | .nilm=>some .nilm
  | .nilf=>some .nilf
  | .nili=>some .nili
  |_=>none
theorem yy{g g':aa->Option aa}(p: ∀v u,g v=some u->g' v=some u): ∀ {l r:List aa},dt g l=some r->dt g' l=some r
 | [],_,h=>h
 |v::l,r,h=>by
  simp only[dt,ak] at h ⊢;obtain⟨a,h1,r',y,q⟩:=h;exact⟨a,p _ _ h1,r',yy p y,q⟩
theorem WY(h:aD aJ): ∀(k:Nat) (v u:aa),cG h k v=some u->cG h (k+1) v=some u
 |0,_,_,e=>by cases e
 |k+1,v,u,e=>by
  have p:=WY h k;cases v<;>simp only[cG] at e ⊢ <;>first
   |exact e
   |(simp only[ak] at e ⊢
     obtain⟨r,h1,g⟩:=e;exact⟨r,yy p h1,g⟩)
   |skip
  split at e;rename_i q;simp only[ak] at e ⊢;obtain⟨c,h1,z,g,y⟩:=e;exact⟨c,h1,z,yy p g,y⟩;cases e
theorem EL(h:aD aJ)(p:k<=m)(e:cG h k v=some u):cG h m v=some u:=by
 induction m with
 |zero=>grind
 |succ m g=>
  grind [WY]
def fU(h:aD aJ)(v u:aa):Prop:= ∃k,cG h k v=some u
theorem fU.unique{g:aa}(a:fU h v u)(b:fU h v g):u=g:=by
 obtain⟨k,p⟩:=a;obtain⟨m,q⟩:=b;have h1:=EL h (vU k m) p
 grind [EL,ux]
noncomputable def AE(h:aD aJ)(v:aa):Option aa:=by
 classical exact if e: ∃u,fU h v u then some e.choose else none
def WJ(e:fU h v u):AE h v=some u:=by
 unfold AE;rw[dif_pos ⟨u,e⟩];exact congrArg some ((Exists.choose_spec (p:=fun u=>fU h v u) ⟨u,e⟩).unique e)
theorem WK(e:AE h v=some u):fU h v u:=by
 unfold AE at e;split at e
 all_goals grind
theorem HU{g:aa->Option aa}: ∀ {l r:List aa},dt g l=some r-> ∀(i:Nat) u,r[i]? =some u-> ∃v,l[i]? =some v/\g v=some u
 | [],r,h,i,u,hi=>by
   grind [dt]
 |v::l,r,h,i,u,hi=>by
  simp only[dt,ak,aM] at h;obtain⟨a,h1,r',y,rfl⟩:=h;cases i with
  |zero=>grind
  |succ i=>simp at hi;obtain⟨x,q,p⟩:=HU y i u hi;exact⟨x,by simpa using q,p⟩
theorem NR{g:aa->Option aa}: ∀ {l r:List aa},dt g l=some r->r.length=l.length
 | [],r,h=>by grind [dt]
 |v::l,r,h=>by
  simp only[dt,ak,aM] at h;obtain⟨a,h1,r',p,rfl⟩:=h;simp[NR p]
theorem HW(e:cG h k v=some u)(g:v.scal=true):u.scal=true:=by
 cases k with
 |zero=>cases e
 |succ k=>
  cases v<;>simp only[cG] at e<;>first
   |(simp[aa.scal] at g;done)
   |(injection e with e;subst e;rfl)
   |(cases e;done)
   |(simp only[ak,aM] at e;obtain⟨_,_,rfl⟩:=e;rfl)
   |(split at e
     simp only[ak,aM] at e;obtain⟨_,_,_,_,_,_,rfl⟩:=e;rfl;cases e)
theorem NS(e:cG h k v=some u): ∃m,dt (cG h m) v.cells=some u.cells:=by
 cases k with
 |zero=>cases e
 |succ k=>
  by_cases hv: ∃cs,v= .agg cs;obtain⟨cs,rfl⟩:=hv;simp only[cG,ak,aM] at e;obtain⟨r,h1,rfl⟩:=e;exact⟨k,h1⟩;have p:v.cells=[v]:=by cases v<;>first|rfl|exact absurd ⟨_,rfl⟩ hv
  have g:u.cells=[u]:=by
   cases v<;>simp only[cG] at e<;>first
    |exact absurd ⟨_,rfl⟩ hv
    |(injection e with e;subst e;rfl)
    |(cases e;done)
    |(simp only[ak,aM] at e;obtain⟨_,_,rfl⟩:=e;rfl)
    |(split at e
      simp only[ak,aM] at e;obtain⟨_,_,_,_,_,_,rfl⟩:=e;rfl;cases e)
  grind [dt]
theorem WN{h:aD aJ}{k:Nat}: ∀ {xs ys:List aa},dt (cG h k) xs=some ys-> ∃m,dt (cG h m) (aG xs)=some (aG ys)
 | [],ys,e=>by simp only[dt,aM] at e;subst e;exact⟨0,rfl⟩
 |x::xs,ys,e=>by
  simp only[dt,ak,aM] at e;obtain⟨a,h1,r,z,rfl⟩:=e;obtain⟨q,g⟩:=NS h1;obtain⟨p,y⟩:=WN z;refine⟨max q p,?_⟩;simp only[aG];have g:=yy (g':=cG h (max q p)) (fun v u e=>EL h (vU _ _) e) g;have y:=yy (g':=cG h (max q p)) (fun v u e=>EL h (ux _ _) e) y;clear h1 z;generalize x.cells=c at g;generalize a.cells=d at g
  induction c generalizing d with
  |nil=>grind [dt]
  |cons v c C=>
   simp only[dt,ak,aM] at g
   grind [dt]
theorem WW{h:aD aJ}: ∀ {k:Nat} {v u:aa},bG v=true->cG h k v=some u->u=v
 |0,_,_,_,e=>by cases e
 |k+1,v,u,g,e=>by
  have p: ∀ {l r:List aa},pures l=true->dt (cG h k) l=some r->r=l:=by
   intro l
   induction l with
   |nil=>intro r _ e;simp only[dt,aM] at e;exact e.symm
   |cons v l q=>
    intro r g e;simp only[pures,bq] at g;simp only[dt,ak,aM] at e;obtain⟨a,h1,r',y,rfl⟩:=e;rw[WW g.1 h1,q g.2 y]
  cases v<;>simp only[cG] at e<;>first
   |(injection e with e;exact e.symm)
   |(cases e;done)
   |(simp[bG] at g;done)
   |(simp only[bG] at g
     simp only[ak,aM] at e;obtain⟨r,h1,rfl⟩:=e;rw[p g h1])
   |skip
  rename_i C xs r;simp only[bG,bq] at g;simp only[ak,aM] at e;obtain⟨z,h1,rfl⟩:=e;rw[p g.1 h1];cases r<;>first|rfl|(simp at g)
def Ac(G:Gh)(h:aD aJ)(b o:Nat)(u:aa):Prop:= ∃n a cs i,h.get n=some (.cells cs)/\G.at_ n=some a/\a.block=b/\o=a.off+i/\cs[i]? =some u
variable{b o:Nat}
theorem Ac.unique(wr:WR G h w){g:aa}(x:Ac G h b o u)(y:Ac G h b o g):u=g:=by
 obtain⟨n,a,cs,i,h1,q,p,J,I⟩:=x;obtain⟨m,c,T,j,E,C,z,R,O⟩:=y;have e:n=m:=wr.sep n m a c (by rw[h1];simp) (by rw[E];simp) q C (by rw[p,z])
 grind
noncomputable def nZ(G:Gh)(h:aD aJ)(b o:Nat):Option aa:=by
 classical exact(G.ro b o).or (if e: ∃u,Ac G h b o u then some e.choose else none)
def ahJ(e:G.ro b o=some u):nZ G h b o=some u:=by simp[nZ,e]
theorem ahI(wr:WR G h w)(e:Ac G h b o u):nZ G h b o=some u:=by
 have h0:G.ro b o=none:=by
  cases e':G.ro b o with
  |none=>rfl
  |some v=>
   obtain⟨n,a,cs,i,h1,p,g,y,q⟩:=e
   have:=wr.apart n _ a o v h1 p (by rw[g];exact e');cases this.1
 unfold nZ;rw[h0,Option.none_or,dif_pos ⟨u,e⟩]
 grind [Ac.unique]
theorem Hu(e:nZ G h b o=some u):G.ro b o=some u\/Ac G h b o u:=by
 unfold nZ at e;cases e':G.ro b o with
 |some v=>grind
 |none=>
  rw[e',Option.none_or] at e;split at e
  all_goals grind
noncomputable def Gh.froze(G G1:Gh)(h1:aD aJ):Gh where
 at_:=G.at_
 ro b o:=(G.ro b o).or ((nZ G1 h1 b o).bind (AE h1))
 dim:=G.dim
section
variable{G1 G2:Gh}{h1:aD aJ}
theorem thaw(O: ∀b o u u',nZ G1 h1 b o=some u->fU h1 u u'->G2.ro b o=some u'){w:World}(wr:WR G1 h1 w): ∀(k:Nat) {v u:aa} {x:Value},VR G1 v x->cG h1 k v=some u->VR G2 u x
 |0,_,_,_,_,e=>by cases e
 |k+1,v,u,x,J,e=>by
  have ih: ∀ {vs I:List aa} {xs:List Value},bV G1 vs xs->dt (cG h1 k) vs=some I->bV G2 I xs:=by
   intro vs
   induction vs with
   |nil=>intro I xs h e;cases h;simp only[dt,aM] at e;subst e;exact .nil
   |cons v vs U=>
    intro I xs h e;cases h with
    |cons a b=>
     simp only[dt,ak,aM] at e;obtain⟨u,q,r,T,rfl⟩:=e;exact .cons (thaw O wr k a q) (U b T)
  have p: ∀ {cs I:List aa},dg cs=true->dt (cG h1 k) cs=some I->dg I=true:=by
   intro cs
   induction cs with
   |nil=>grind [dt]
   |cons v vs U=>
    grind [dg,dt,ak,HW]
  cases J with
  |bool b=>simp only[cG,aM] at e;subst e;exact .bool b
  |int k n=>simp only[cG,aM] at e;subst e;exact .int k n
  |str s=>simp only[cG,aM] at e;subst e;exact .str s
  |nilp=>simp only[cG,aM] at e;subst e;exact .nilp
  |Ge=>simp only[cG,aM] at e;subst e;exact .Ge
  |nilm=>simp only[cG,aM] at e;subst e;exact .nilm
  |nilf=>simp only[cG,aM] at e;subst e;exact .nilf
  |nili=>simp only[cG,aM] at e;subst e;exact .nili
  |ptr _=>simp[cG] at e
  |ro _=>simp[cG] at e
  |map _=>simp[cG] at e
  |func _ _=>simp[cG] at e
  |iface _=>simp[cG] at e
  |yld _=>simp[cG] at e
  |roz _=>simp[cG] at e
  |agg hc hs=>
   simp only[cG,ak,aM] at e;obtain⟨r,q,rfl⟩:=e;exact .agg (p hc q) (ih hs q)
  |tup hs=>
   simp only[cG,ak,aM] at e;obtain⟨r,q,rfl⟩:=e;exact .tup (ih hs q)
  |list a b c d e' f=>
   rename_i sz xs r ad Y;simp only[cG,ak,aM] at e;obtain⟨ys,q,rfl⟩:=e;have z:=NR q;rw[<-z];refine .list a b ?_ (by rw[z];exact d) ?_ ?_
   grind [uu,HU,NS,NR]
   intro i y Z;obtain⟨m,T⟩:=WN q;obtain⟨v,J,h5⟩:=HU T i y Z;exact O _ _ v y (ahJ (e' i v J)) ⟨m,h5⟩;cases r with
   |GT=>rw[z];exact f
   |own n=>exact trivial
   |no=>exact trivial
  |arr a b c d e' f g i=>
   rename_i sz n a0 len a3 ad bd Y dm;simp only[cG] at e;split at e;rename_i cs V;simp only[ak,aM] at e;obtain⟨cc,q,c',T,xs,h5,rfl⟩:=e;obtain⟨a7,E,a6,C,et,a5,a4,a2⟩:=wr.obj n _ V;rw[a] at E;injection E with E;subst E
   have a1:dg cc=true:=by
    simp only[dg,fD];intro v J;obtain⟨j,hj⟩:=uu J;exact(a2 _ v (EC q hj)).1
   obtain⟨q1,q2,q3⟩:=B6 (g:= !aK sz 1) (sz:=sz) (fun hh=>by
    simp_all) h5 (p a1 T)
   have:VR G2 (.list sz xs .no) (.slice (some ad) xs.length Y):=by
    refine .list (.inr b) c q3 (by omega) ?_ trivial;intro j y Z;rw[q2] at Z;obtain⟨v,J,h6⟩:=HU T j y Z;have R:=EC q J;rcases f with f|⟨f1,f2⟩
    have hl:len=0:=by omega
    have:=(Cd q).2
    grind
    refine O _ _ v y (ahI wr ⟨n,bd,cs,a0+j,V,a,f1.symm,?_,R⟩) ⟨k,h6⟩;rw[f2];omega
   rw[q1] at this;exact this;cases e
end
mutual
def dy:aa->Bool
 | .agg cs=>dK cs
 | .tup cs=>dK cs
 | .list _ xs _=>pures xs
 |v=>bG v
def dK:List aa->Bool
 | []=>true
 |v::l=>dy v&&dK l
end
mutual
theorem VR.top{G1 G2:Gh}(k:Ee G1 G2): ∀ {v:aa} {x:Value},VR G1 v x->dy v=true->VR G2 (cu v) x
 |_,_,.bool b,_=>.bool b
 |_,_,.int k n,_=>.int k n
 |_,_,.str s,_=>.str s
 |_,_,.agg hc hs,h=>.agg (awY hc) (bV.top k hs (by simpa[dy] using h))
 |_,_,.tup hs,h=>.tup (bV.top k hs (by simpa[dy] using h))
 |_,_,.nilp,_=>.nilp
 |_,_,.ptr e,h=>by simp[dy,bG] at h
 |_,_,.ro (cs:=cs) e,h=>by
  have h:pures cs=true:=by simpa[dy,bG] using h
  rw[cu,kw h];exact .ro fun i x p=>k _ _ _ (e i x p) (Kd h p)
 |_,_,.Ge,_=>.Ge
 |_,_,.list (xs:=xs) (r:=r) a b c d e f,h=>by
  have h:pures xs=true:=by simpa[dy] using h
  simp only[cu,kw h];refine .list a b c d (fun i x p=>k _ _ _ (e i x p) (Kd (acD h) p)) ?_;cases r with
  |GT=>exact f
  |own n=>exact trivial
  |no=>exact trivial
 |_,_,.arr ..,h=>by simp[dy,bG] at h
 |_,_,.nilm,_=>.nilm
 |_,_,.map e,h=>by simp[dy,bG] at h
 |_,_,.nilf,_=>.nilf
 |_,_,.func (first:=f) (captured:=g) a b,h=>by
  have h:pures f=true/\pures g=true:=by simpa[dy,bG] using h
  simp only[cu,kw h.1,kw h.2];exact .func (bV.onto k a h.1) (bV.onto k b h.2)
 |_,_,.nili,_=>.nili
 |_,_,.iface (v:=v) e,h=>by
  have h:bG v=true:=by simpa[dy,bG] using h
  simp only[cu,DX h];exact .iface (VR.onto k e h)
 |_,_,.yld _,h=>by simp[dy,bG] at h
 |_,_,.roz _,h=>by simp[dy,bG] at h
theorem bV.top{G1 G2:Gh}(k:Ee G1 G2): ∀ {vs:List aa} {xs:List Value},bV G1 vs xs->dK vs=true->bV G2 (dj vs) xs
 |_,_,.nil,_=>.nil
 |_,_,.cons a b,h=>by
  simp only[dK,bq] at h;exact .cons (VR.top k a h.1) (bV.top k b h.2)
end
def WS{h h':aD aJ}(y: ∀n o,h.get n=some o->h'.get n=some o): ∀(k:Nat) (v u:aa),cG h k v=some u->cG h' k v=some u
 |0,_,_,e=>by cases e
 |k+1,v,u,e=>by
  have q:=WS y k;cases v<;>simp only[cG] at e ⊢ <;>first
   |exact e
   |(simp only[ak] at e ⊢
     obtain⟨r,h1,p⟩:=e;exact⟨r,yy q h1,p⟩)
   |skip
  split at e;rename_i g;rw[y _ _ g];simp only[ak] at e ⊢;obtain⟨c,h1,C,p,z⟩:=e;exact⟨c,h1,C,yy q p,z⟩;cases e
theorem adK(hg:AL Q)(E: ∀i,0<Q.kmax i)(hp:dK args=true)(he: ∀ch,lG Q ch-> ∃v s',(ce (Q.at ch) n).call f (dj args) [] s0=some (v,s')/\fU s'.heap v u)(G:Gh)(h:aD aJ)(w:World)(xs:List Value)(wr:WR G h w)(U:bV G args xs):
 mj Q.P f ⟨xs⟩ w fun y w'=> ∃G',WR G' h w'/\cO G h w G' h w' 0 0/\VR G' u y:=by
 have Z:lI [] (fun _=>True) G.plain s0 s0 w:=⟨fun n _=>rfl,.refl _ _,wr.plain,fun _ _ _=>rfl⟩;have hc:=(Uv hg n).1 f (dj args) [] s0 s0 G.plain w xs (fun _=>0) (fun _=>True) Z (U.top (Kc G) hp) E (fun O _ hi=>by
  grind)
 refine hc.mono ?_;rintro y w' ⟨O,v,s',s2',G1,c⟩;have a1:fU s2'.heap v u:=by
  obtain⟨v1,s1,h1,p⟩:=he O c.inb;have q:=c.eval;rw[h1] at q;simp only[aM,bC] at q;obtain⟨rfl,rfl⟩:=q;have goes:fG [] s0 s1:=((lU Q n).call f (dj args) [] O s0 v1 s1 h1).1;have sees:iJ [] s1 s2':=c.same.sees (.refl _ _) goes;obtain⟨k,E⟩:=p;exact⟨k,WS (fun n o e=>sees.get n o rfl e) k _ _ E⟩
 have ext:cO G.plain .nil w G1 s2'.heap w' 0 s'.aL:=c.ext;have kept: ∀b,b<w.heap.size->w'.heap[b]? =w.heap[b]? :=fun b I=>ext.keep b I JL;have old: ∀b o u,b<w.heap.size->nZ G1 s2'.heap b o=some u->G.ro b o=some u/\bG u=true:=by
  intro b o u I g;rcases Hu g with g|⟨m,a,cs,i,h1,p,q,_,_⟩
  cases e:G.plain.ro b o with
  |none=>exact absurd (ext.cells b o u I g e) JL
  |some R=>
   have:=ext.le.ro b o R e
   grind [Gh.plain,ak]
  exact absurd (ext.owns b I ⟨m,a,by rw[h1];simp,p,q⟩) JL
 have J:G.le (G.froze G1 s2'.heap):=⟨fun _ _ h=>h,fun b o u h=>by simp[Gh.froze,h],fun _ _ h=>h⟩;have back: ∀b o u R,nZ G1 s2'.heap b o=some u->fU s2'.heap u R->(G.froze G1 s2'.heap).ro b o=some R:=by
  intro b o u R g hf;cases e:G.ro b o with
  |none=>simp[Gh.froze,e,g,WJ hf]
  |some z=>
   obtain⟨h1,p⟩:=old b o u (wr.ro_lt e) g;obtain⟨k,E⟩:=hf
   grind [WW,Gh.froze]
 have T: ∀b o x,b<w.heap.size->w.cell? ⟨b,o,none⟩=some x->w'.cell? ⟨b,o,none⟩=some x:=by
  intro b o x I U
  have:=kept b I;unfold World.cell? at U ⊢;rw[this];exact U
 obtain⟨kk,a2⟩:=a1;refine⟨G.froze G1 s2'.heap,⟨?_,?_,?_,?_,?_,?_⟩,⟨J,ext.size,fun b I _=>kept b I,fun b _ o=>o,?_,?_,ext.quiet,fun b _ o=>o⟩,thaw back c.wr kk c.val a2⟩;intro n o hn;obtain⟨a,h1,p,q⟩:=wr.obj n o hn;exact⟨a,h1,p,(q.mono J).of_block (kept _ (wr.below n a h1))⟩;exact wr.sep;intro b o u g;cases e:G.ro b o with
 |some z=>
  have:u=z:=by simp only[Gh.froze,e,Option.some_or,aM] at g;exact g.symm
  subst this;obtain⟨h1,y,p,q⟩:=wr.ro b o u e;exact⟨h1,y,T b o y (wr.ro_lt e) p,q.mono J⟩
 |none=>
  simp only[Gh.froze,e,Option.none_or,ak] at g;obtain⟨z,hz,g⟩:=g;obtain⟨k,E⟩:=WK g;rcases Hu hz with a0|⟨m,a,cs,i,h1,p,q,h4,h5⟩
  obtain⟨h1,y,p,q⟩:=c.wr.ro b o z a0;exact⟨HW E h1,y,p,thaw back c.wr k q E⟩;obtain⟨a',Y,g2,C,et,g3,g4,g5⟩:=c.wr.obj m _ h1;rw[p] at Y;injection Y with Y;subst Y
  obtain⟨r1,y,r2,r3⟩:=g5 i z h5;refine⟨HW E r1,y,?_,thaw back c.wr k r3 E⟩
  grind [oL]
 intro n ob a i u hn V g;cases e:G.ro a.block i with
 |some z=>exact wr.apart n ob a i z hn V e
 |none=>
  simp only[Gh.froze,e,Option.none_or,ak] at g;obtain⟨z,hz,_⟩:=g
  have:=(old _ _ _ (wr.below n a V) hz).1;rw[e] at this;cases this
 intro b d hd;obtain⟨C,e,h1,p⟩:=wr.dim b d hd
 grind
 intro n a V;exact gh (wr.below n a V) ext.size
 all_goals grind [Gh.froze,ak]
def mT(I:AL Q)(E: ∀i,0<Q.kmax i)(z:dK args=true)(hr:aq Q f (dj args) s0 v s')(g:s'.ci=0)(q:fU s'.heap v u)(G:Gh)(h:aD aJ)(w:World)(xs:List Value)(wr:WR G h w)(p:bV G args xs):
 mj Q.P f ⟨xs⟩ w fun y w'=> ∃G',WR G' h w'/\cO G h w G' h w' 0 0/\VR G' u y:=by
 obtain⟨n,C⟩:=hr;refine adK (n:=n) I E z (fun ch _=>⟨v,s',?_,q⟩) G h w xs wr p;have:(ce (Q.at Q.ch) n).call f (dj args) [] s0=some (v,s'):=C;exact(tS Q n).call f (dj args) [] Q.ch s0 v s' this ch (fun i hi=>by rw[g] at hi;omega)
