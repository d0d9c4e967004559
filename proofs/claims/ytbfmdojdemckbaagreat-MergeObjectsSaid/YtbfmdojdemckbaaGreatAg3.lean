/- Operations of the evaluator are sound: maps, ranges, new rows. -/
import Derived.Test.YtbfmdojdemckbaaGreatAg2
import Derived.IntWalk
namespace Go.Ag
open _root_.Array renaming ext'→kS
open _root_.Bool renaming and_eq_true→cU,false_eq_true→qj
open Builtin renaming len_→rd
open _root_.List renaming all_cons→l8,filter_cons→yd,getElem?_eq_none→jg
open _root_.List.cons renaming injEq→mQ
open _root_.Nat renaming beq→aY,ble→cr,le_refl→bv,lt_irrefl→fL
open _root_.Option renaming bind_eq_some_iff→aF
open _root_.Option.some renaming injEq→a7
open _root_.Prod.mk renaming injEq→bK
open Result renaming andThen_ok→iH
section
variable {P:Program} {G:Gh}
theorem Fq {rec:TypeId→ai→Bool} {d:Nat} {emp:Bool} {xs:List ai} {xv:List Value} (hx:cg G xs xv) (sx:dG xs=true)
 (hrec: ∀ {e:TypeId} {x:ai} {X:Value},rec e x=true→VR G x X→ ∀w:World,(Instr.checkKey emp d e X).run P w= .ok () w) (w:World):
 ∀(fs:List Field),xn P rec xs fs=true→
  (forIn (m:=Sem) fs PUnit.unit fun f _=>do
   if f.name≠ "_" then do
    Instr.checkKey emp d f.type (←part f.type ⟨xv⟩ f.offset)
    pure (ForInStep.yield PUnit.unit)
   else pure (ForInStep.yield PUnit.unit)).run P w= .ok PUnit.unit w
 | [],_=>by simp
 |f::fs,h=>by
  simp only [xn] at h
  rw [List.forIn_cons]
  cases hn:(f.name== "_")
  ·simp only [hn,cF] at h
   have hn:f.name≠ "_" :=by simpa using hn
   split at h
   ·rename_i a ha
    simp only [cU] at h
    obtain⟨X,hX,vX,_⟩:=su ha hx sx
    simp only [if_pos hn,Sem.run_bind,hX,iH,hrec h.1 vX,Sem.run_pure]
    exact Fq hx sx hrec w fs h.2
   ·cases h
  ·simp only [hn,cT] at h
   have hn: ¬f.name≠ "_" :=by simpa using hn
   simp only [if_neg hn,Sem.run_bind,iH,Sem.run_pure]
   exact Fq hx sx hrec w fs h
theorem Sv {rec:TypeId→ai→Bool} {d:Nat} {emp:Bool} {e:TypeId} {n:Nat} {xs:List ai} {xv:List Value} (hx:cg G xs xv) (sx:dG xs=true) (hn:eX P e=some n)
 (hrec: ∀ {x:ai} {X:Value},rec e x=true→VR G x X→ ∀w:World,(Instr.checkKey emp d e X).run P w= .ok () w) (w:World):
 ∀(k i:Nat),zJ P rec e n xs k i=true→
  (forIn (m:=Sem) (List.range' i k) PUnit.unit fun i _=>do
   Instr.checkKey emp d e (←part e ⟨xv⟩ (i*(←sizeOf e)))
   pure (ForInStep.yield PUnit.unit)).run P w= .ok PUnit.unit w
 |0,_,_=>by simp
 |k+1,i,h=>by
  simp only [zJ] at h
  rw [List.range'_succ,List.forIn_cons]
  split at h
  ·rename_i a ha
   simp only [cU] at h
   obtain⟨X,hX,vX,_⟩:=su ha hx sx
   simp only [Sem.run_bind,gS hn,hX,iH,hrec h.1 vX,Sem.run_pure]
   exact Sv hx sx hn hrec w k (i+1) h.2
  ·cases h
theorem xS {emp:Bool}: ∀(d:Nat) {t:TypeId} {x:ai} {X:Value},r0 P d t x=true→VR G x X→ ∀(D:Nat),d≤D→ ∀w:World,(Instr.checkKey emp D t X).run P w= .ok () w
 |0,_,_,_,h,_=>by simp [r0] at h
 |d+1,t,x,X,h,hx=>by
  intro D hD w
  obtain⟨D,rfl⟩: ∃E,D=E+1:=⟨D-1,by omega⟩
  simp only [r0] at h
  split at h
  ·rename_i ht;cases hx;simp [Instr.checkKey,dp ht]
  ·rename_i ht;cases hx;simp [Instr.checkKey,dp ht]
  ·rename_i ht;cases hx;simp [Instr.checkKey,dp ht]
  ·rename_i ht
   cases hx with|agg sx hx=>
   have:=Fq (emp:=emp) hx sx (d:=D) (fun {e x X} hr vx w=>xS d hr vx D (by omega) w) w _ h
   simp only [Instr.checkKey,Sem.run_bind,dp ht,iH]
   rw [←Array.forIn_toList]
   simp at this ⊢
   rw [this]
   rfl
  ·rename_i len e xs ht
   cases hx with|agg sx hx=>
   split at h
   ·rename_i n hn
    have:=Sv (emp:=emp) hx sx hn (d:=D) (fun {x X} hr vx w=>xS d hr vx D (by omega) w) w len 0 h
    simp only [Instr.checkKey,Sem.run_bind,dp ht,iH]
    rw [Std.Legacy.Range.forIn_eq_forIn_range']
    simp at this ⊢
    rw [this]
    rfl
   ·cases h
  ·cases h
theorem gW.length {es:List cV} {ms:List MapEntry} (h:gW G es ms):es.length=ms.length:=by
 induction h with
 |nil=>rfl
 |cons _ _ ih=>simp [ih]
theorem gW.get {es:List cV} {ms:List MapEntry} (h:gW G es ms) {i:Nat} {e:cV} (hi:es[i]? =some e): ∃m,ms[i]? =some m∧rp G e m:=by
 induction h generalizing i with
 |nil=>simp at hi
 |cons a _ ih=>
  cases i with
  |zero=>simp at hi;subst hi;exact⟨_,by simp,a⟩
  |succ i=>simp at hi;obtain⟨m,hm,hr⟩:=ih hi;exact⟨m,by simpa using hm,hr⟩
theorem gW.append {a b:List cV} {x y:List MapEntry} (h:gW G a x) (h':gW G b y):gW G (a++b) (x++y):=by
 induction h with
 |nil=>simpa using h'
 |cons p _ ih=>exact .cons p ih
theorem gW.set {es:List cV} {ms:List MapEntry} (h:gW G es ms) (i:Nat) {e:cV} {m:MapEntry} (hr:rp G e m):gW G (es.set i e) (ms.set i m):=by
 induction h generalizing i with
 |nil=>simpa using gW.nil
 |cons a b ih=>
  cases i with
  |zero=>exact .cons hr b
  |succ i=>exact .cons a (ih i)
def Cy (G:Gh) (es:List cV) (i0:Nat):Option (Nat×cV)→Option (Nat×Value)→Prop
 |none,none=>True
 |some (i,e),some (j,v)=>i=j∧i0≤i∧es[i-i0]? =some e∧VR G e.val v
 |_,_=>False
theorem Su {kt:TypeId} {k:ai} {K:Value} (hk:VR G k K) (w:World): ∀ {es:List cV} {ms:List MapEntry} {i:Nat} {r:Option (Nat×cV)},gW G es ms→jZ P kt k es i=some r→
 ∃q,(Instr.findAsking kt K ms i).run P w= .ok q w∧Cy G es i r q
 |_,_,i,r,.nil,h=>by simp [jZ] at h;subst h;exact⟨none,by simp [Instr.findAsking],trivial⟩
 |_,_,i,r,.cons (e:=e) (m:=m) (es:=es) (ms:=ms) he hs,h=>by
  simp only [jZ,aF] at h
  obtain⟨b,hb,h⟩:=h
  have hrun:=Av 8 hb hk he.key 10000 (by omega) w
  have hrun:(Op.equal kt K m.key).run P w= .ok b w:=hrun
  cases b
  ·simp only [cF] at h
   obtain⟨q,hq,hf⟩:=Su hk w hs h
   refine⟨q,by simp [Instr.findAsking,hrun,hq],?_⟩
   cases r<;>cases q<;>first
    |trivial
    |(obtain⟨h1,h2,h3,h4⟩:=hf
      refine⟨h1,by omega,?_,h4⟩
      rename_i p _
      have:p.1-i=(p.1-(i+1))+1:=by omega
      rw [this];simpa using h3)
    |exact hf.elim
  ·simp only [cT,a7] at h
   subst h
   exact⟨some (i,m.val),by simp [Instr.findAsking,hrun],rfl,bv _,by simp,he.val⟩
theorem Sy {kt:TypeId} {desc:TypeDesc} {x y:ai} {X Y:Value} {b r:Bool} (ht:P.underlying kt=some desc) (hb:jX P 8 kt x y=some b) (hx:VR G x X) (hy:VR G y Y)
 (hs:Instr.sameNow desc X Y=some r):r=b:=by
 simp only [jX,ht,Option.bind_some] at hb
 cases hx<;>cases hy<;>cases desc<;>simp [Instr.sameNow] at hs hb
 all_goals first
  |(rw [←hs,←hb];done)
  |(obtain⟨h1,h2⟩:=hs;subst h1;simp [bL] at hb;rw [←h2,←hb];done)
  |skip
 ·rename_i a b'
  rw [←hs,←hb]
  rw [beq_toListBytes]
  have e1: ∀l:List UInt8,(ByteArray.mk ⟨l⟩).toList=l:=fun l=>ByteArray.toList_mk l
  rw [e1,e1]
theorem HC {kt:TypeId} {desc:TypeDesc} {k:ai} {K:Value} (ht:P.underlying kt=some desc) (hk:VR G k K): ∀ {es:List cV} {ms:List MapEntry} {i:Nat} {r:Option (Nat×cV)} {q:Option (Nat×Value)},
 gW G es ms→jZ P kt k es i=some r→Instr.findNow desc K ms i=some q→Cy G es i r q
 |_,_,i,r,q,.nil,h,hn=>by
  simp [jZ] at h;subst h
  simp [Instr.findNow] at hn;subst hn
  trivial
 |_,_,i,r,q,.cons (e:=e) (m:=m) (es:=es) (ms:=ms) he hs,h,hn=>by
  simp only [jZ,aF] at h
  obtain⟨b,hb,h⟩:=h
  simp only [Instr.findNow] at hn
  split at hn
  ·rename_i hsn
   have:=Sy ht hb hk he.key hsn
   subst this
   simp only [cT,a7] at h
   subst h
   injection hn with hn;subst hn
   exact⟨rfl,bv _,by simp,he.val⟩
  ·rename_i hsn
   have:=Sy ht hb hk he.key hsn
   subst this
   simp only [cF] at h
   have hf:=HC ht hk hs h hn
   cases r<;>cases q<;>first
    |trivial
    |(obtain⟨h1,h2,h3,h4⟩:=hf
      refine⟨h1,by omega,?_,h4⟩
      rename_i p _
      have:p.1-i=(p.1-(i+1))+1:=by omega
      rw [this];simpa using h3)
    |exact hf.elim
  ·cases hn
theorem Ax {kt:TypeId} {k:ai} {K:Value} (hk:VR G k K) (w:World) {es:List cV} {ms:List MapEntry} {r:Option (Nat×cV)} {desc:TypeDesc} (ht:P.underlying kt=some desc) (hs:gW G es ms) (h:jZ P kt k es 0=some r):
 ∃q,(Instr.findKey kt K ms).run P w= .ok q w∧Cy G es 0 r q:=by
 simp only [Instr.findKey,Sem.run_bind,dp ht,iH]
 cases hn:Instr.findNow desc K ms 0 with
 |some q=>exact⟨q,by simp,HC ht hk hs h hn⟩
 |none=>exact Su hk w hs h
end
section
variable {P:Program} {mk:bj} {G:Gh} {s s':St} {B:Nat→Nat} {fr:Fr} {a:Act} {w:World} {o:Oper} {lo hi:Nat} {v:ai} {loc':Loc}
theorem mG {r:Nat} {ES:Array MapEntry} {c:Nat} (h:w.heap[r]? =some (.map ES c)):(getObj r).run P w= .ok (.map ES c) w:=by
 simp [getObj,Sem.run,h]
theorem vT {r:Nat} {ES:Array MapEntry} {c:Nat} (ob:Obj) (h:w.heap[r]? =some (.map ES c)):(setObj r ob).run P w= .ok () (dK w r ob):=by
 simp [setObj,Sem.run,h,dK]
theorem xR {r:Nat} {m:Option Nat} {since st:Nat} {seen:Array Nat} (h:w.heap[r]? =some (.mapIter m since seen st)):(getObj r).run P w= .ok (.mapIter m since seen st) w:=by
 simp [getObj,Sem.run,h]
theorem Sx {r:Nat} {m:Option Nat} {since st:Nat} {seen:Array Nat} (ob:Obj) (h:w.heap[r]? =some (.mapIter m since seen st)):(setObj r ob).run P w= .ok () (dK w r ob):=by
 simp [setObj,Sem.run,h,dK]
theorem Er {t:TypeId} {k:ai} {ke:TypeId×TypeId} (h:nl P t k=some ke):P.underlying t=some (.map ke.1 ke.2)∧r0 P 8 ke.1 k=true∧ ∃d,P.underlying ke.1=some d:=by
 simp only [nl,aF] at h
 obtain⟨d,hd,h⟩:=h
 split at h
 ·replace h:=bW h
  obtain⟨hk,h⟩:=h
  injection h with h;subst h
  refine⟨hd,hk,?_⟩
  simp only [r0] at hk
  split at hk<;>first|(rename_i hu;exact⟨_,hu⟩)|cases hk
 ·cases h
theorem qP (wr:WR G s.heap w) {n:Nat} {es:List cV} {clock:Nat} (hg:s.get mk n=some (.map es clock)):
 ∃ad ES,G.at_ n=some ad∧ad.spot=none∧w.heap[ad.block]? =some (.map ES clock)∧gW G es ES.toList:=by
 obtain⟨ad,h1,h2,ES,h3,h4⟩:=wr.obj n _ (iL hg)
 exact⟨ad,ES,h1,h2,h3,h4⟩
theorem ai3 {t:TypeId} {x i:Operand} {ok:Bool} (ho:o.op= .lookup t x i ok) (wr:WR G s.heap w) (fx:c8 G s.heap B fr a.tmps w)
 (he:Ad P mk t x i ok fr s=some (v,loc',s')):fO P G s.heap w B fr.loc lo hi a o v loc' s'.heap:=by
 simp only [Ad,aF] at he
 obtain⟨p,hp,k,hk,he⟩:=he
 replace he:=jG he
 obtain⟨he,rfl,rfl⟩:=he
 have hm:=(fx.evc hp).1
 have hK:=(fx.evc hk).1
 simp only [lk,aF] at he
 obtain⟨ke,hke,z,hz,r,hr,he⟩:=he
 obtain⟨hd,hko,desc,hdk⟩:=Er hke
 obtain⟨ti,zv,hi,hzv,hov⟩:=x9 hz
 obtain⟨hzr,hzt⟩:=qV G hov
 have hck: ∀(b:Bool) (w:World),(Instr.checkKey b 10000 ke.1 (a.eval i)).run P w= .ok () w:=fun b w=>xS 8 hko hK 10000 (by omega) w
 have key: ∃ES:List MapEntry,(∃q,(Instr.findKey ke.1 (a.eval i) ES).run P w= .ok q w∧(match r with|none=>q=none|some e=> ∃j u,q=some (j,u)∧VR G e.2.val u))∧
  ((a.eval x= .map none∧ES=[])∨ ∃b E c,a.eval x= .map (some b)∧w.heap[b]? =some (.map E c)∧E.toList=ES):=by
  unfold xu at hr
  generalize hX:a.eval x=X at hm
  split at hr
  ·injection hr with hr;subst hr
   cases hm
   obtain⟨q,hq,hf⟩:=Ax (P:=P) (G:=G) (kt:=ke.1) hK w hdk .nil (r:=none) (by simp [jZ])
   cases q with
   |none=>exact⟨[],⟨none,hq,rfl⟩,.inl ⟨rfl,rfl⟩⟩
   |some q=>exact hf.elim
  ·rename_i n
   simp only [aF] at hr
   obtain⟨ob,hob,hr⟩:=hr
   split at hr
   ·cases hm with
    |map hat=>
    obtain⟨ad,ES,h1,h2,h3,h4⟩:=qP wr hob
    rw [hat] at h1;injection h1 with h1;subst h1
    obtain⟨q,hq,hf⟩:=Ax hK w hdk h4 hr
    refine⟨ES.toList,⟨q,hq,?_⟩,.inr ⟨_,ES,_,rfl,h3,rfl⟩⟩
    cases r<;>cases q<;>first
     |rfl
     |exact hf.elim
     |(obtain⟨h1,h2,h3,h4⟩:=hf;exact⟨_,_,rfl,h4⟩)
   ·cases hr
  ·cases hr
 obtain⟨ES,⟨q,hq,hqr⟩,hcase⟩:=key
 have hrun: ∃y ys,(execOp a.eval o).run P w= .ok (.value (if ok then .tuple #[y,.bool ys] else y)) w∧VR G v (if ok then .tuple #[y,.bool ys] else y):=by
  have fin: ∀(y:Value) (ys:Bool),(q=none∧y=zv∧ys=false∨ ∃j,q=some (j,y)∧ys=true)→(execOp a.eval o).run P w= .ok (.value (if ok then .tuple #[y,.bool ys] else y)) w:=by
   intro y ys hy
   rcases hcase with⟨hX,rfl⟩|⟨b,E,c,hX,hb,rfl⟩
   ·rcases hy with⟨rfl,rfl,rfl⟩|⟨j,rfl,rfl⟩
    ·have hq':(Instr.findKey ke.1 (a.eval i) (#[]:Array MapEntry).toList).run P w= .ok none w:=hq
     simp [execOp,ho,hX,Instr.lookup,dp hd,hck,hq,qd hi hzv]
    ·simp [execOp,ho,hX,Instr.lookup,dp hd,hck,hq]
   ·rcases hy with⟨rfl,rfl,rfl⟩|⟨j,rfl,rfl⟩
    ·simp [execOp,ho,hX,Instr.lookup,dp hd,mG hb,hck,hq,qd hi hzv]
    ·simp [execOp,ho,hX,Instr.lookup,dp hd,mG hb,hck,hq]
  cases r with
  |none=>
   simp only [a7] at he
   subst he
   refine⟨zv,false,fin zv false (.inl ⟨hqr,rfl,rfl⟩),?_⟩
   cases ok
   ·exact hzr
   ·exact .tup (.cons hzr (.cons (.bool _) .nil))
  |some e=>
   obtain⟨j,u,hj,hu⟩:=hqr
   simp only [a7] at he
   subst he
   refine⟨u,true,fin u true (.inr ⟨j,hj,rfl⟩),?_⟩
   cases ok
   ·exact hu
   ·exact .tup (.cons hu (.cons (.bool _) .nil))
 obtain⟨y,ys,h1,h2⟩:=hrun
 exact .pure wr fx h1 (LV.of_VR h2)
theorem Sz {x y:ai} {X Y:Value} (h:vV x y=true) (hx:VR G x X) (hy:VR G y Y): ∀n,Instr.sameBits n X Y=true:=by
 intro n
 unfold vV at h
 split at h
 ·cases hx;cases hy;cases n<;>simpa [Instr.sameBits] using h
 ·rename_i j p k q
  cases hx;cases hy
  simp only [cU] at h
  have h1:=h.1
  have h2:p=q:=by simpa [bL] using h.2
  cases n<;>simp [Instr.sameBits,h2]<;>simpa using h1
 ·rename_i p q
  cases hx;cases hy
  have h:p=q:=by simpa using h
  subst h
  have e:(ByteArray.mk ⟨p⟩==ByteArray.mk ⟨p⟩)=true:=by rw [beq_toListBytes];simp
  cases n<;>simp only [Instr.sameBits]<;>exact e
 ·cases h
theorem GN {n:Nat}: ∀ {x y:List ai} {X Y:List Value},tj x y=true→cg G x X→cg G y Y→X.length=Y.length∧((X.zip Y).all fun p=>Instr.sameBits n p.1 p.2)=true
 | [],[],_,_,_,.nil,.nil=>by simp
 |x::xs,y::ys,_,_,h,.cons a b,.cons c d=>by
  simp only [tj,cU] at h
  obtain⟨h1,h2⟩:=GN (n:=n) h.2 b d
  refine⟨by simp [h1],?_⟩
  simp only [List.zip_cons_cons,l8,cU]
  exact⟨Sz h.1 a c n,h2⟩
 | [],_::_,_,_,h,_,_=>by simp [tj] at h
 |_::_,[],_,_,h,_,_=>by simp [tj] at h
theorem QE {x y:ai} {X Y:Value} (h:r9 x y=true) (hx:VR G x X) (hy:VR G y Y):Instr.sameBits 10000 X Y=true:=by
 unfold r9 at h
 split at h
 ·cases hx with|agg _ hx=>cases hy with|agg _ hy=>
  obtain⟨h1,h2⟩:=GN (n:=9999) h hx hy
  show Instr.sameBits (9999+1) _ _=true
  simp only [Instr.sameBits,cU]
  exact⟨by simpa using h1,by simpa using h2⟩
 ·exact Sz h hx hy 10000
theorem vl (wr:WR G s.heap w) {n:Nat} {es es':List cV} {clock clock':Nat} (hg:s.get mk n=some (.map es clock)) {ad:Addr} (hat:G.at_ n=some ad) {ES ES':Array MapEntry} (hb:w.heap[ad.block]? =some (.map ES clock))
 (hs:gW G es' ES'.toList):
 WR G (s.put n (some (.map es' clock'))).heap (dK w ad.block (.map ES' clock'))∧ ∀lo hi,dh G s.heap w G (s.put n (some (.map es' clock'))).heap (dK w ad.block (.map ES' clock')) lo hi:=by
 refine wr.changed (iL hg) hat ⟨ES',by rw [iO _ _ _ _ (gH hb),if_pos rfl],hs⟩ ?_ ?_
 ·intro i v hv
  have:=(wr.apart n _ ad i v (iL hg) hat hv).1
  cases this
 ·intro d hd
  obtain⟨C,e,hC,_⟩:=wr.dim _ d hd
  rw [hb] at hC;cases hC
theorem EN (ES:Array MapEntry) (j:Nat) (f:MapEntry→MapEntry) {m:MapEntry} (hm:ES.toList[j]? =some m):(ES.modify j f).toList=ES.toList.set j (f m):=by
 apply List.ext_getElem?
 intro q
 rw [Array.getElem?_toList,Array.getElem?_modify,List.getElem?_set]
 by_cases e:j=q
 ·subst e
  have hm':ES[j]? =some m:=by simpa using hm
  have hlt:j<ES.toList.length:=by
   rcases Nat.lt_or_ge j ES.toList.length with h|h
   ·exact h
   ·simp [jg h] at hm
  rw [if_pos rfl,if_pos rfl,if_pos hlt,hm'];rfl
 ·rw [if_neg e,if_neg e];simp
theorem RQ {t:TypeId} {m k x:Operand} (ho:o.op= .mapUpdate t m k x∨o.op= .insert t m k x) (wr:WR G s.heap w) (fx:c8 G s.heap B fr a.tmps w)
 (he:xH P mk t m k x fr s=some (v,loc',s')):fO P G s.heap w B fr.loc lo hi a o v loc' s'.heap:=by
 simp only [xH,aF] at he
 obtain⟨mv,hm,kv,hk,xv,hx,he⟩:=he
 simp only [lr,aF] at he
 obtain⟨s1,he,hq⟩:=he
 simp only [a7,bK] at hq
 obtain⟨rfl,rfl,rfl⟩:=hq
 have hM:=(fx.evc hm).1
 have hK:=(fx.evc hk).1
 have hX:=(fx.evc hx).1
 have hex:(execOp a.eval o).run P w=((Instr.mapUpdate t (a.eval m) (a.eval k) (a.eval x)).run P w).andThen fun _ w'=>.ok .skip w':=by
  rcases ho with ho|ho<;>simp [execOp,ho]
 simp only [lB,aF] at he
 obtain⟨ke,hke,he⟩:=he
 obtain⟨hd,hko,desc,hdk⟩:=Er hke
 have hck: ∀(b:Bool) (w:World),(Instr.checkKey b 10000 ke.1 (a.eval k)).run P w= .ok () w:=fun b w=>xS 8 hko hK 10000 (by omega) w
 split at he
 ·rename_i n
  simp only [aF] at he
  obtain⟨ob,hob,he⟩:=he
  split at he
  ·rename_i es clock
   generalize hMv:a.eval m=M at hM
   cases hM with
   |map hat=>
   rename_i ad
   obtain⟨ad',ES,h1,h2,h3,h4⟩:=qP wr hob
   rw [hat] at h1;injection h1 with h1;subst h1
   simp only [aF] at he
   obtain⟨r,hr,he⟩:=he
   obtain⟨q,hq,hf⟩:=Ax hK w hdk h4 hr
   split at he
   ·rename_i e
    obtain⟨j,e⟩:=e
    replace he:=bW he
    obtain⟨hks,he⟩:=he
    injection he with he;subst he
    cases q with
    |none=>exact hf.elim
    |some q=>
     obtain⟨j',u⟩:=q
     obtain⟨rfl,_,hje,hu⟩:=hf
     simp only [Nat.sub_zero] at hje
     obtain⟨me,hme,her⟩:=h4.get hje
     have hsb:=QE hks her.key hK
     have hme':ES[j]? =some me:=by simpa using hme
     obtain⟨c1,c2⟩:=vl (clock':=clock) (es':=es.set j ⟨kv,xv,e.born⟩) (ES':=ES.modify j fun e=> {e with key:=a.eval k,val:=a.eval x }) wr hob hat h3
      (by rw [EN ES j _ hme];exact h4.set j ⟨hK,hX,her.born⟩)
     refine .heap fx ?_ (.inr ⟨rfl,rfl⟩) c1 (c2 _ _) (LV.of_VR (.tup .nil))
     rw [hex]
     simp [hMv,Instr.mapUpdate,dp hd,mG h3,hck,hq,Instr.keyThatStays,hme',hsb,vT _ h3]
   ·injection he with he;subst he
    cases q with
    |some q=>exact hf.elim
    |none=>
     obtain⟨c1,c2⟩:=vl (clock':=clock+1) (es':=es++[⟨kv,xv,clock⟩]) (ES':=ES.push {key:=a.eval k,val:=a.eval x,born:=clock }) wr hob hat h3
      (by simpa using h4.append (.cons ⟨hK,hX,rfl⟩ .nil))
     refine .heap fx ?_ (.inr ⟨rfl,rfl⟩) c1 (c2 _ _) (LV.of_VR (.tup .nil))
     rw [hex]
     simp [hMv,Instr.mapUpdate,dp hd,mG h3,hck,hq,vT _ h3]
  ·cases he
 ·cases he
theorem ai7 {t:TypeId} {m k:Operand} (ho:o.op= .mapEntry t m k) (wr:WR G s.heap w) (fx:c8 G s.heap B fr a.tmps w)
 (he:Af P mk t m k fr s=some (v,loc',s')):fO P G s.heap w B fr.loc lo hi a o v loc' s'.heap:=by
 simp only [Af,aF] at he
 obtain⟨mv,hm,kv,hk,he⟩:=he
 simp only [gR,aF] at he
 obtain⟨⟨v1,s1⟩,he,hq⟩:=he
 simp only [a7,bK] at hq
 obtain⟨rfl,rfl,rfl⟩:=hq
 have hM:=(fx.evc hm).1
 have hK:=(fx.evc hk).1
 simp only [tH,aF] at he
 obtain⟨ke,hke,z,hz,he⟩:=he
 obtain⟨hd,hko,desc,hdk⟩:=Er hke
 obtain⟨ti,zv,hi,hzv,hov⟩:=x9 hz
 obtain⟨hzr,hzt⟩:=qV G hov
 have hck: ∀(b:Bool) (w:World),(Instr.checkKey b 10000 ke.1 (a.eval k)).run P w= .ok () w:=fun b w=>xS 8 hko hK 10000 (by omega) w
 split at he
 ·rename_i n
  simp only [aF] at he
  obtain⟨ob,hob,he⟩:=he
  split at he
  ·rename_i es clock
   generalize hMv:a.eval m=M at hM
   cases hM with
   |map hat=>
   rename_i ad
   obtain⟨ad',ES,h1,h2,h3,h4⟩:=qP wr hob
   rw [hat] at h1;injection h1 with h1;subst h1
   simp only [aF] at he
   obtain⟨r,hr,he⟩:=he
   obtain⟨q,hq,hf⟩:=Ax hK w hdk h4 hr
   split at he
   ·rename_i e
    obtain⟨j,e⟩:=e
    replace he:=bW he
    obtain⟨hks,he⟩:=he
    simp only [a7,bK] at he
    obtain⟨rfl,rfl⟩:=he
    cases q with
    |none=>exact hf.elim
    |some q=>
     obtain⟨j',u⟩:=q
     obtain⟨rfl,_,hje,hu⟩:=hf
     simp only [Nat.sub_zero] at hje
     obtain⟨me,hme,her⟩:=h4.get hje
     have hsb:=QE hks her.key hK
     have hme':ES[j]? =some me:=by simpa using hme
     obtain⟨c1,c2⟩:=vl (clock':=clock) (es':=es.set j ⟨kv,e.val,e.born⟩) (ES':=ES.modify j fun e=> {e with key:=a.eval k }) wr hob hat h3
      (by rw [EN ES j _ hme];exact h4.set j ⟨hK,her.val,her.born⟩)
     refine .heap fx (y:=.tuple #[u,.int .i64 me.born]) ?_ (.inl rfl) c1 (c2 _ _) (LV.of_VR ?_)
     ·simp [execOp,ho,hMv,Instr.mapEntry,dp hd,mG h3,hck,hq,Instr.keyThatStays,hme',hsb,vT _ h3,goInt]
     ·rw [her.born];exact .tup (.cons hu (.cons (.int _ _) .nil))
   ·simp only [a7,bK] at he
    obtain⟨rfl,rfl⟩:=he
    cases q with
    |some q=>exact hf.elim
    |none=>
     obtain⟨c1,c2⟩:=vl (clock':=clock+1) (es':=es++[⟨kv,z,clock⟩]) (ES':=ES.push {key:=a.eval k,val:=zv,born:=clock }) wr hob hat h3
      (by simpa using h4.append (.cons ⟨hK,hzr,rfl⟩ .nil))
     refine .heap fx (y:=.tuple #[zv,.int .i64 clock]) ?_ (.inl rfl) c1 (c2 _ _) (LV.of_VR (.tup (.cons hzr (.cons (.int _ _) .nil))))
     simp [execOp,ho,hMv,Instr.mapEntry,dp hd,mG h3,hck,hq,qd hi hzv,vT _ h3,goInt]
  ·cases he
 ·cases he
theorem SI {b:Nat} {u:ai}: ∀ {es es':List cV} {ms:List MapEntry} {U:Value},xT b u es=some es'→gW G es ms→VR G u U→
 ∃j m,ms.findIdx? (fun e=>(e.born:Int)==(b:Int))=some j∧ms[j]? =some m∧gW G es' (ms.set j {m with val:=U })
 | [],_,_,_,h,_,_=>by simp [xT] at h
 |e::es,es',_,U,h,.cons (m:=m) (ms:=ms) he hs,hu=>by
  simp only [xT] at h
  replace h:=gr h
  rcases h with⟨hb,h⟩|⟨hb,h⟩
  ·injection h with h;subst h
   have hb:=eU hb
   have hmb:m.born=b:=by rw [←he.born,hb]
   exact⟨0,m,by simp [List.findIdx?_cons,hmb],by simp,.cons ⟨he.key,hu,he.born⟩ hs⟩
  ·have hb:=uB hb
   simp only [aF] at h
   obtain⟨r,hr,h⟩:=h
   injection h with h;subst h
   obtain⟨j,m',h1,h2,h3⟩:=SI hr hs hu
   have hmb: ¬m.born=b:=by rw [←he.born];exact hb
   refine⟨j+1,m',?_,by simpa using h2,.cons he h3⟩
   have hmb':((m.born:Int)==(b:Int))=false:=by
    simp only [beq_eq_false_iff_ne,ne_eq]
    intro e;exact hmb (Int.ofNat_inj.1 e)
   simp [List.findIdx?_cons,hmb',h1]
theorem aiW {t:TypeId} {m st x:Operand} (ho:o.op= .entryStore t m st x) (wr:WR G s.heap w) (fx:c8 G s.heap B fr a.tmps w)
 (he:Ab mk m st x fr s=some (v,loc',s')):fO P G s.heap w B fr.loc lo hi a o v loc' s'.heap:=by
 simp only [Ab,aF] at he
 obtain⟨mv,hm,sv,hsv,xv,hx,he⟩:=he
 simp only [lr,aF] at he
 obtain⟨s1,he,hq⟩:=he
 simp only [a7,bK] at hq
 obtain⟨rfl,rfl,rfl⟩:=hq
 have hM:=(fx.evc hm).1
 have hS:=(fx.evc hsv).1
 have hX:=(fx.evc hx).1
 simp only [uL,aF] at he
 obtain⟨b,hb,he⟩:=he
 obtain⟨k,rfl⟩:=vu hb
 generalize hSv:a.eval st=S at hS
 cases hS
 split at he
 ·rename_i n
  simp only [aF] at he
  obtain⟨ob,hob,he⟩:=he
  split at he
  ·rename_i es clock
   generalize hMv:a.eval m=M at hM
   cases hM with
   |map hat=>
   rename_i ad
   obtain⟨ad',ES,h1,h2,h3,h4⟩:=qP wr hob
   rw [hat] at h1;injection h1 with h1;subst h1
   simp only [aF] at he
   obtain⟨es',hes,he⟩:=he
   injection he with he;subst he
   obtain⟨j,me,hj,hme,hr⟩:=SI hes h4 hX
   have hj':ES.findIdx? (fun e=>(e.born:Int)==(b:Int))=some j:=by cases ES with|mk l=>simpa using hj
   obtain⟨c1,c2⟩:=vl (clock':=clock) (es':=es') (ES':=ES.modify j fun e=> {e with val:=a.eval x }) wr hob hat h3
    (by rw [EN ES j _ hme];exact hr)
   refine .heap fx ?_ (.inr ⟨rfl,rfl⟩) c1 (c2 _ _) (LV.of_VR (.tup .nil))
   simp [execOp,ho,hMv,hSv,Instr.entryStore,mG h3,asInt,asIntOf,hj',vT _ h3]
  ·cases he
 ·cases he
theorem ajc {t:TypeId} {x:Operand} (ho:o.op= .range t x) (wr:WR G s.heap w) (fx:c8 G s.heap B fr a.tmps w)
 (he:((evc fr.env x).bind fun x=>gR (kO P mk t x s) fr.loc)=some (v,loc',s')) (hfree: ∀n,s.next≤n→n<s'.next→G.at_ n=none):
 fO P G s.heap w B fr.loc s.next s'.next a o v loc' s'.heap:=by
 simp only [aF] at he
 obtain⟨xv,hx,he⟩:=he
 simp only [gR,aF] at he
 obtain⟨⟨v1,s1⟩,he,hq⟩:=he
 simp only [a7,bK] at hq
 obtain⟨rfl,rfl,rfl⟩:=hq
 have hX:=(fx.evc hx).1
 simp only [kO,aF] at he
 obtain⟨d,hd,he⟩:=he
 have fin: ∀(m:Option Nat) (m':Option Nat) (c:Nat),Ir G m m'→v1= .ptr s.next 0→s1=s.new (.iter m c [] c)→
  (execOp a.eval o).run P w= .ok (.value (.pointer (some ⟨w.heap.size,0,none⟩))) (w.alloc (.mapIter m' c #[] c))→fO P G s.heap w B fr.loc s.next s1.next a o v1 fr.loc s1.heap:=by
  rintro m m' c hm rfl rfl hrun
  have hn0:G.at_ s.next=none:=hfree s.next (bv _) (by simp [St.new])
  obtain⟨h1,h2⟩:=wr.fresh (.mapIter m' c #[] c)
  have hno: ¬ez G s.heap w.heap.size:=fun ho=>fL _ (wr.owned_lt ho)
  have h3:=h1.named (n:=s.next) (a:=⟨w.heap.size,0,none⟩) (o:=.iter m c [] c) hn0 (by simp) rfl hno
   ⟨rfl,m',by rw [mf,if_pos rfl],hm⟩
   (fun i v hv=>absurd (wr.ro_lt hv) (fL _))
  have e2:=h2 s.next (s.next+1)
  refine .heap fx hrun (.inl rfl) h3 ⟨e2.le.trans (Gh.name_le _ _ hn0),e2.size,e2.keep,?_,?_,?_,e2.quiet⟩ (LV.of_VR (by simpa using VR.ptr (G:=G.name s.next ⟨w.heap.size,0,none⟩) (n:=s.next) (off:=0) (a:=⟨w.heap.size,0,none⟩) (by simp [Gh.name])))
  ·intro b hb ho
   rcases vF ho with rfl|ho
   ·exact absurd hb (fL _)
   ·exact ho
  ·intro m a' hm h0
   simp only [Gh.name] at hm
   by_cases em:m=s.next
   ·subst em;exact⟨bv _,by simp [St.new]⟩
   ·rw [if_neg em,h0] at hm;cases hm
  ·intro b o' u hb hv h0
   exact e2.cells b o' u hb hv h0
 generalize hXv:a.eval x=X at hX
 split at he
 ·split at he
  ·simp only [a7,bK] at he
   cases hX
   exact fin none none 0 trivial he.1.symm he.2.symm (by simp [execOp,ho,hXv,Instr.range,dp hd])
  ·rename_i m
   simp only [aF] at he
   obtain⟨ob,hob,he⟩:=he
   split at he
   ·simp only [a7,bK] at he
    cases hX with
    |map hat=>
    rename_i ad
    obtain⟨ad',ES,h1,h2,h3,h4⟩:=qP wr hob
    rw [hat] at h1;injection h1 with h1;subst h1
    exact fin (some m) (some ad.block) _ ⟨ad,hat,rfl⟩ he.1.symm he.2.symm (by simp [execOp,ho,hXv,Instr.range,dp hd,mG h3])
   ·cases he
  ·cases he
 ·cases he
theorem EW (a b:Nat):aY a b=(a==b):=by
 cases h:aY a b
 ·exact(beq_eq_false_iff_ne.2 (uB h)).symm
 ·exact(beq_iff_eq.2 (eU h)).symm
theorem ol (a b:Nat):cr a b=decide (a≤b):=by
 cases h:cr a b
 ·have: ¬a≤b:=fun h'=>by rw [Nat.ble_eq_true_of_le h'] at h;cases h
  exact(decide_eq_false this).symm
 ·exact(decide_eq_true (iZ h)).symm
theorem Uu {es:List cV} {ms:List MapEntry} (h:gW G es ms) (st:Nat):ms.all (fun e=>decide (e.born≥st))=es.all (fun e=>cr st e.born):=by
 induction h with
 |nil=>rfl
 |cons a b ih=>simp only [l8,ih,ol,a.born]
theorem alG {seen:List Nat} {es:List cV} {ms:List MapEntry} (h:gW G es ms):gW G (dq seen es) (ms.filter fun e=> !(⟨seen⟩:Array Nat).contains e.born):=by
 induction h with
 |nil=>exact .nil
 |cons a b ih=>
  rename_i e m es ms
  have e1:seen.any (aY e.born)=(⟨seen⟩:Array Nat).contains m.born:=by
   rw [a.born]
   have: ∀l:List Nat,l.any (aY m.born)=(⟨l⟩:Array Nat).contains m.born:=by
    intro l
    have h0:(⟨l⟩:Array Nat).contains m.born=l.contains m.born:=by simp
    rw [h0]
    clear h0
    induction l with
    |nil=>rfl
    |cons y l ihl=>
     simp only [List.any_cons,List.contains_cons,ihl,EW]
   exact this seen
  unfold dq at ih ⊢
  simp only [yd,e1]
  split
  ·exact .cons a ih
  ·exact ih
theorem Xg {es:List cV} {ms:List MapEntry} (h:gW G es ms) {since:Nat} (ha:es.all (fun e=>Nat.blt e.born since)=true):
 ms.filter (fun e=>decide (e.born<since))=ms∧ms.filter (fun e=>decide (e.born≥since))=[]:=by
 induction h with
 |nil=>exact⟨rfl,rfl⟩
 |cons a b ih=>
  rename_i e m es ms
  simp only [l8,cU] at ha
  obtain⟨h1,h2⟩:=ih ha.2
  have hlt:=mi ha.1
  rw [a.born] at hlt
  refine⟨?_,?_⟩
  ·rw [yd,if_pos (by simpa using hlt),h1]
  ·rw [yd,if_neg (by simp;omega),h2]
noncomputable def jn (mk:bj) (it:ai) (s:St):Nat:=
 match it with
 | .ptr n _=>match s.get mk n with
   |some (.iter (some m) _ seen _)=>match s.get mk m with
    |some (.map es _)=>(dq seen es).length
    |_=>0
   |_=>0
 |_=>0
theorem ai9 {ch:Nat→Nat} {kmax:Nat→Nat} {x:Operand} {isString:Bool} {xv:ai} (ho:o.op= .next x isString) (wr:WR G s.heap w) (fx:c8 G s.heap B fr a.tmps w)
 (hx:evc fr.env x=some xv) (he:gR (j5 mk ch kmax xv isString s) fr.loc=some (v,loc',s'))
 (hch:2≤jn mk xv s→ch s.ci % jn mk xv s=(w.tape w.drawn (.mapNext (jn mk xv s))) % jn mk xv s):
 fO P G s.heap w B fr.loc lo hi a o v loc' s'.heap:=by
 simp only [gR,aF] at he
 obtain⟨⟨v1,s1⟩,he,hq⟩:=he
 simp only [a7,bK] at hq
 obtain⟨rfl,rfl,rfl⟩:=hq
 have hX:=(fx.evc hx).1
 generalize hXv:a.eval x=X at hX
 unfold j5 at he
 split at he
 ·rename_i n
  simp only [aF] at he
  obtain⟨ob,hob,he⟩:=he
  cases hX with
  |ptr hat=>
  rename_i ad
  obtain⟨ad',hat',hsp,hobj⟩:=wr.obj n _ (iL hob)
  rw [hat] at hat';injection hat' with hat';subst hat'
  split at he
  ·replace he:=gr he
   rcases he with⟨_,he⟩|⟨hstr,he⟩
   ·cases he
   ·obtain⟨h0,m',hb,hm⟩:=hobj
    cases m' with
    |some _=>exact hm.elim
    |none=>
     simp only [a7,bK] at he
     obtain⟨rfl,rfl⟩:=he
     refine .pure wr fx (y:=.tuple #[.bool false]) ?_ (LV.of_VR (.tup (.cons (.bool _) .nil)))
     simp [execOp,ho,hXv,h0,Instr.next,xR hb,hstr]
  ·rename_i m since seen stepped
   replace he:=gr he
   rcases he with⟨_,he⟩|⟨hstr,he⟩
   ·cases he
   ·obtain⟨h0,m',hb,hm⟩:=hobj
    cases m' with
    |none=>exact hm.elim
    |some mb=>
     obtain⟨am,ham,rfl⟩:=hm
     simp only [aF] at he
     obtain⟨ob2,hob2,he⟩:=he
     split at he
     ·rename_i es clock
      obtain⟨am',ES,h1,h2,h3,h4⟩:=qP wr hob2
      rw [ham] at h1;injection h1 with h1;subst h1
      have hcount:jn mk (.ptr n 0) s=(dq seen es).length:=by simp [jn,hob,hob2]
      rw [hcount] at hch
      replace he:=gr he
      rcases he with⟨_,he⟩|⟨hgo,he⟩
      ·cases he
      ·have hL:=alG (seen:=seen) h4
       have hgo':(!(⟨seen⟩:Array Nat).isEmpty&& !ES.isEmpty&&ES.all (fun e=>decide (e.born≥stepped)))=false:=by
        rw [←hgo]
        have q1:(⟨seen⟩:Array Nat).isEmpty=seen.isEmpty:=by cases seen<;>rfl
        have q2:ES.isEmpty=es.isEmpty:=by
         cases ES with|mk l=>
         have:=h4.length
         cases l<;>cases es<;>first|rfl|simp at this
        have q3:ES.all (fun e=>decide (e.born≥stepped))=es.all (fun e=>cr stepped e.born):=by
         rw [←Uu h4 stepped]
         cases ES with|mk l=>simp
        rw [q1,q2,q3]
       have hbase: ∀(K:Value→World→Prop),True:=fun _=>trivial
       have hleft:(ES.filter fun e=> !(⟨seen⟩:Array Nat).contains e.born)=⟨ES.toList.filter fun e=> !(⟨seen⟩:Array Nat).contains e.born⟩:=by
        apply kS;simp
       have hXv':a.eval x= .pointer (some ⟨ad.block,0,none⟩):=by rw [hXv,h0]
       generalize hML:(ES.toList.filter fun e=> !(⟨seen⟩:Array Nat).contains e.born)=ML at hL hleft
       generalize hUL:dq seen es=UL at hL he hch
       clear hbase hUL
       unfold my at he
       split at he
       ·
        simp only [a7,bK] at he
        obtain⟨rfl,rfl⟩:=he
        cases hL
        refine .pure wr fx (y:=.tuple #[.bool false]) ?_ (LV.of_VR (.tup (.cons (.bool _) .nil)))
        simp only [execOp,ho,hXv',Instr.next,Sem.run_bind,xR hb,iH,hstr,mG h3,hgo',hleft]
        simp [Question.forced]
       ·rename_i e r
        replace he:=bW he
        obtain⟨hall,he⟩:=he
        obtain⟨f1,f2⟩:=Xg hL hall
        have g1:(⟨ML⟩:Array MapEntry).filter (fun e=>decide (e.born<since))=⟨ML⟩:=by apply kS;simpa using f1
        have g2:(⟨ML⟩:Array MapEntry).filter (fun e=>decide (e.born≥since))= #[]:=by apply kS;simpa using f2
        have hlen:=hL.length
        have hne:(⟨ML⟩:Array MapEntry).isEmpty=false:=by
         cases ML with
         |nil=>simp at hlen
         |cons _ _=>rfl
        have hcand:((if(⟨ML⟩:Array MapEntry).isEmpty=true then #[none] else #[])++((⟨ML⟩:Array MapEntry)++ #[]).map some)=(⟨ML.map some⟩:Array (Option MapEntry)):=by
         rw [hne];apply kS;simp
        have step: ∀(j:Nat) (e1:cV) (w1:World),w1.heap=w.heap→m7 w w1→(e::r)[j]? =some e1→ ∃m1,ML[j]? =some m1∧rp G e1 m1∧
         WR G (oD n m since clock seen e1 s).2.heap (dK w1 ad.block (.mapIter (some am.block) since ((⟨seen⟩:Array Nat).push m1.born) clock))∧
         ∀lo hi,dh G s.heap w G (oD n m since clock seen e1 s).2.heap (dK w1 ad.block (.mapIter (some am.block) since ((⟨seen⟩:Array Nat).push m1.born) clock)) lo hi:=by
         intro j e1 w1 hw1 hq1 hj
         obtain⟨m1,hm1,hr1⟩:=hL.get hj
         refine⟨m1,hm1,hr1,?_⟩
         have wr1:=wr.of_heap hw1
         have hb1:w1.heap[ad.block]? =some (.mapIter (some am.block) since ⟨seen⟩ stepped):=by rw [hw1];exact hb
         obtain⟨c1,c2⟩:=wr1.changed (o':=.iter (some m) since (seen++[e1.born]) clock) (ob:=.mapIter (some am.block) since ((⟨seen⟩:Array Nat).push m1.born) clock) (iL hob) hat
          ⟨h0,some am.block,by rw [iO _ _ _ _ (gH hb1),if_pos rfl,hr1.born];congr 2;apply kS;simp,am,ham,rfl⟩
          (fun i u hu=>by have:=(wr.apart n _ ad i u (iL hob) hat hu).1;cases this)
          (fun d hd=>by obtain⟨C,e',hC,_⟩:=wr.dim _ d hd;rw [hb] at hC;cases hC)
         refine⟨c1,fun lo hi=>?_⟩
         have:=c2 lo hi
         exact⟨this.le,by rw [←hw1];exact this.size,fun b hb=>by rw [←hw1] at hb ⊢;exact this.keep b hb,fun b hb=>by rw [←hw1] at hb;exact this.owns b hb,this.names,fun b o v hb=>by rw [←hw1] at hb;exact this.cells b o v hb,hq1.trans this.quiet⟩
        cases r with
        |nil=>
         simp only [a7] at he
         obtain⟨m1,hm1,hr1,c1,c2⟩:=step 0 e w rfl (.refl w) (by simp)
         have hML1:ML=[m1]:=by
          cases ML with
          |nil=>simp at hlen
          |cons y ys=>
           cases ys with
           |nil=>simp at hm1;rw [hm1]
           |cons _ _=>simp at hlen
         have e1:v1=(oD n m since clock seen e s).1:=by rw [he]
         have e2:s1=(oD n m since clock seen e s).2:=by rw [he]
         subst e1;subst e2
         refine .heap fx (y:=.tuple #[.bool true,m1.key,m1.val]) ?_ (.inl rfl) c1 (c2 _ _) (LV.of_VR (.tup (.cons (.bool _) (.cons hr1.key (.cons hr1.val .nil)))))
         subst hML1
         simp only [execOp,ho,hXv',Instr.next,Sem.run_bind,xR hb,iH,hstr,mG h3,hgo',hleft,g1,g2,hcand]
         simp [Question.forced,Sx _ hb]
        |cons e' r'=>
         replace he:=bW he
         obtain⟨_,he⟩:=he
         simp only [aF] at he
         obtain⟨e1,hj,he⟩:=he
         simp only [a7,bK] at he
         obtain⟨m1,hm1,hr1,c1,c2⟩:=step _ e1 w.drew rfl ⟨rfl,rfl,bv _,fun _ _=>rfl,rfl,Nat.le_succ _⟩ hj
         obtain⟨rfl,rfl⟩:=he
         have hMLlen:ML.length=(e::e'::r').length:=hlen.symm
         have hnf: ¬ML.length≤1:=by rw [hMLlen];simp
         have hidx:(w.tape w.drawn (.mapNext ML.length)) % ML.length=ch s.ci % (e::e'::r').length:=by rw [hMLlen];exact(hch (by simp)).symm
         refine .heap fx (y:=.tuple #[.bool true,m1.key,m1.val]) ?_ (.inl rfl) c1 (c2 _ _) (LV.of_VR (.tup (.cons (.bool _) (.cons hr1.key (.cons hr1.val .nil)))))
         generalize ch s.ci % (e::e'::r').length=J at hm1 hidx
         have hb':w.drew.heap[ad.block]? =some (.mapIter (some am.block) since ⟨seen⟩ stepped):=hb
         simp only [execOp,ho,hXv',Instr.next,Sem.run_bind,xR hb,iH,hstr,mG h3,hgo',hleft,g1,g2,hcand]
         simp [Question.forced,Question.cut,hnf,hidx,hm1,Sx _ hb']
     ·cases he
  ·cases he
 ·cases he
theorem HB {b:Nat}: ∀ {es:List cV} {e:cV} {ms:List MapEntry},qG b es=some e→gW G es ms→ ∃m,ms.find? (fun e=>e.born==b)=some m∧rp G e m
 | [],_,_,h,_=>by simp [qG] at h
 |e::es,e',_,h,.cons (m:=m) (ms:=ms) he hs=>by
  simp only [qG] at h
  replace h:=gr h
  rcases h with⟨hb,h⟩|⟨hb,h⟩
  ·injection h with h;subst h
   have hb:=eU hb
   exact⟨m,by rw [List.find?_cons_of_pos];rw [←he.born,hb];simp,he⟩
  ·have hb:=uB hb
   obtain⟨m',h1,h2⟩:=HB h hs
   refine⟨m',?_,h2⟩
   rw [List.find?_cons_of_neg];·exact h1
   rw [←he.born];simpa using hb
theorem aiV {x:Operand} (ho:o.op= .entry x) (wr:WR G s.heap w) (fx:c8 G s.heap B fr a.tmps w)
 (he:ky x (fun it=>oS mk it s) fr s=some (v,loc',s')):fO P G s.heap w B fr.loc lo hi a o v loc' s'.heap:=by
 simp only [ky,aF] at he
 obtain⟨xv,hx,he⟩:=he
 replace he:=jG he
 obtain⟨he,rfl,rfl⟩:=he
 have hX:=(fx.evc hx).1
 generalize hXv:a.eval x=X at hX
 unfold oS at he
 split at he
 ·rename_i n
  simp only [aF] at he
  obtain⟨ob,hob,he⟩:=he
  cases hX with
  |ptr hat=>
  rename_i ad
  obtain⟨ad',hat',hsp,hobj⟩:=wr.obj n _ (iL hob)
  rw [hat] at hat';injection hat' with hat';subst hat'
  split at he
  ·rename_i m since seen stepped
   obtain⟨h0,m',hb,hm⟩:=hobj
   cases m' with
   |none=>exact hm.elim
   |some mb=>
    obtain⟨am,ham,rfl⟩:=hm
    simp only [aF] at he
    obtain⟨ob2,hob2,he⟩:=he
    split at he
    ·rename_i es clock
     obtain⟨am',ES,h1,h2,h3,h4⟩:=qP wr hob2
     rw [ham] at h1;injection h1 with h1;subst h1
     replace he:=bW he
     obtain⟨hc,he⟩:=he
     obtain rfl:=eU hc
     simp only [aF] at he
     obtain⟨b,hlast,e,hfe,he⟩:=he
     injection he with he;subst he
     obtain⟨me,hme,her⟩:=HB hfe h4
     have hme':ES.find? (fun e=>e.born==b)=some me:=by cases ES with|mk l=>simpa using hme
     have hback:(⟨seen⟩:Array Nat).back?=some b:=by
      rw [←hlast];simp
     refine .pure wr fx (y:=.tuple #[me.key,me.val]) ?_ (LV.of_VR (.tup (.cons her.key (.cons her.val .nil))))
     simp [execOp,ho,hXv,h0,Instr.entry,xR hb,hback,mG h3,hme']
    ·cases he
  ·cases he
 ·cases he
end
theorem TC {n:Nat} (h:n<9223372036854775808):IntKind.i64.wrap (Int.ofNat n)=Int.ofNat n:=by
 have:=IntWalk.i64_in (Int.ofNat n) (by constructor<;>simp<;>omega)
 exact this
section
variable {P:Program} {mk:bj} {G:Gh} {s s':St} {B:Nat→Nat} {fr:Fr} {a:Act} {w:World} {o:Oper} {lo hi:Nat} {v:ai} {loc':Loc}
def Gh.listed (G:Gh) (w:World) (n:Nat) (cs:List ai) (size:Nat):Gh:=(G.more w.heap.size (fun i=>cs[i]?) (some size)).name n ⟨w.heap.size,cs.length,none⟩
theorem Gh.listed_at (G:Gh) (w:World) (n:Nat) (cs:List ai) (size:Nat):(G.listed w n cs size).at_ n=some ⟨w.heap.size,cs.length,none⟩:=by simp [Gh.listed,Gh.name]
theorem Gh.listed_dim (G:Gh) (w:World) (n:Nat) (cs:List ai) (size:Nat):(G.listed w n cs size).dim w.heap.size=some size:=by simp [Gh.listed,Gh.name,Gh.more]
theorem Gh.listed_ro (G:Gh) (w:World) (n:Nat) (cs:List ai) (size i:Nat):(G.listed w n cs size).ro w.heap.size i=cs[i]? :=by simp [Gh.listed,Gh.name,Gh.more]
theorem WR.listed {h:bq bE} (x:WR G h w) {n:Nat} (hn:G.at_ n=none) (C:Array Value) (e:TypeId) (cs:List ai)
 (hc: ∀(i:Nat) v,cs[i]? =some v→v.scal=true∧ ∃y,C[i]? =some y∧VR G v y):
 WR (G.listed w n cs C.size) (h.set n (some .tok)) (w.alloc (.cells C e))∧dh G h w (G.listed w n cs C.size) (h.set n (some .tok)) (w.alloc (.cells C e)) n (n+1):=by
 obtain⟨h1,h2⟩:=x.alloc (.cells C e) (fun i=>cs[i]?) (some C.size) (fun i v hi=>by
  obtain⟨hs,y,hy,hv⟩:=hc i v hi
  exact⟨hs,C,e,rfl,y,hy,hv.mono (x.more_le _ _)⟩) (fun d hd=>⟨C,e,rfl,by injection hd⟩)
 have hno: ¬ez (G.more w.heap.size (fun i=>cs[i]?) (some C.size)) h w.heap.size:=by
  rintro⟨m,a,hm,ha,hb⟩
  have:=x.below m a ha
  omega
 have h3:=h1.named (n:=n) (a:=⟨w.heap.size,cs.length,none⟩) (o:=.tok) hn (by simp) rfl hno
  ⟨C,e,by rw [mf,if_pos rfl]⟩
  (fun i v hv=>by
   simp only [Gh.more,if_true] at hv
   refine⟨rfl,?_⟩
   rcases Nat.lt_or_ge i cs.length with h|h
   ·exact h
   ·simp [jg h] at hv)
 refine⟨h3,⟨(h2 0 0).le.trans (Gh.name_le _ _ hn),(h2 0 0).size,(h2 0 0).keep,?_,?_,?_,(h2 0 0).quiet⟩⟩
 ·intro b hb ho
  rcases vF ho with rfl|ho
  ·exact absurd hb (fL _)
  ·exact(h2 0 0).owns b hb ho
 ·intro m a hm h0
  simp only [Gh.listed,Gh.name,Gh.more] at hm
  by_cases em:m=n
  ·omega
  ·rw [if_neg em,h0] at hm;cases hm
 ·intro b o v hb hv h0
  exact(h2 0 0).cells b o v hb hv h0
theorem ai6 {hint:Tmp→Nat} {dst:Option Tmp} {t:TypeId} {l c:Operand} (ho:o.op= .makeSlice t l c) (wr:WR G s.heap w) (fx:c8 G s.heap B fr a.tmps w)
 (he:Ae P hint dst t l c fr s=some (v,loc',s')) (hfree: ∀n,s.next≤n→n<s'.next→G.at_ n=none):
 fO P G s.heap w B fr.loc s.next s'.next a o v loc' s'.heap:=by
 simp only [Ae,aF] at he
 obtain⟨lv,hl,cv,hc,he⟩:=he
 simp only [gR,aF] at he
 obtain⟨⟨v1,s1⟩,he,hq⟩:=he
 simp only [a7,bK] at hq
 obtain⟨rfl,rfl,rfl⟩:=hq
 simp only [sf,aF] at he
 obtain⟨E,hE,ln,hln,cn,hcn,he⟩:=he
 obtain⟨e,hd,hE⟩:=xV hE
 obtain⟨hn,_,hg,hpos,hg1,i,zv,_,hi,hzv,hov,hzs,hib⟩:=rH hE
 obtain⟨hzr,hzt⟩:=qV G hov
 obtain⟨kl,rfl⟩:=vu hln
 obtain⟨kc,rfl⟩:=vu hcn
 have hL:VR G _ _:=fx.ev hl
 have hC:VR G _ _:=fx.ev hc
 generalize hLv:a.eval l=L at hL
 generalize hCv:a.eval c=C at hC
 cases hL;cases hC
 replace he:=bW he
 obtain⟨hcond,he⟩:=he
 simp only [cU] at hcond
 have h1:=iZ hcond.1.1
 have h2:=iZ hcond.1.2
 have h3:=iZ hcond.2
 obtain⟨R,hR,hRl,hRg⟩:=Ar hzr.cells cn
 have hrow:=FV (zs:=zv.cells) hRl hRg
 rw [hzs] at hrow
 have hRlen:R.length=cn*E.n:=by rw [hRl,Array.length_toList,hzs]
 have hrun:(execOp a.eval o).run P w= .ok (.value (.slice (some ⟨w.heap.size,0,none⟩) ln cn)) (w.alloc (.cells ⟨R⟩ e)):=by
  have w1:=TC (n:=ln) (by omega)
  have w2:=TC (n:=cn) (by omega)
  have t1: ¬((cn:Int)<0):=by omega
  have t2: ¬((i.bytes:Int)*(cn:Int)>2 ^ 48):=by
   rw [hib]
   have:((E.b:Int)*(cn:Int))=((cn*E.b:Nat):Int):=by rw [Nat.mul_comm];simp
   rw [this];omega
  have t3: ¬((ln:Int)<0):=by omega
  have t4: ¬((ln:Int)>(cn:Int)):=by omega
  simp only [execOp,ho,hLv,hCv,Instr.makeSlice,Sem.run_bind,dp hd,iH,asInt,asIntOf,Sem.run_pure,typeInfo,run_program,hi,w1,w2]
  by_cases hz:cn*E.n=0
  ·have hR0:R=[]:=List.length_eq_zero_iff.1 (by rw [hRlen];exact hz)
   subst hR0
   have hm0: ∀(f:Nat→Value),Array.map f (Array.range 0)= #[]:=fun f=>by apply kS;simp
   simp [t4,gS hn,hz,hm0,newRow]
   rintro((hh|hh)|hh)
   ·exact absurd hh t1
   ·exact absurd hh (by simpa using t2)
   ·exact absurd hh t3
  ·simp [t4,gS hn,hz,qd hi hzv,hzs,hrow,newRow]
   rintro((hh|hh)|hh)
   ·exact absurd hh t1
   ·exact absurd hh (by simpa using t2)
   ·exact absurd hh t3
 have hzr':=Au (hzr.scals_cells hzt)
 have hpre: ∀(i:Nat) u,(gg E.z.cells ln)[i]? =some u→u.scal=true∧ ∃y,(⟨R⟩:Array Value)[i]? =some y∧VR G u y:=by
  intro i u hu
  have hle: ∀(p q:Nat),p≤q→ ∀(i:Nat) u,(gg E.z.cells p)[i]? =some u→(gg E.z.cells q)[i]? =some u:=by
   intro p
   induction p with
   |zero=>intro q _ i u hu;simp [gg] at hu
   |succ p ih=>
    intro q hq i u hu
    obtain⟨q,rfl⟩: ∃q',q=q'+1:=⟨q-1,by omega⟩
    simp only [gg] at hu ⊢
    by_cases hi:i<E.z.cells.length
    ·rw [List.getElem?_append_left hi] at hu ⊢;exact hu
    ·rw [List.getElem?_append_right (by omega)] at hu ⊢;exact ih q (by omega) _ _ hu
  have:=hR.rows (C:=⟨R⟩) (hzr' cn) i u (hle ln cn h1 i u hu)
  exact this
 replace he:=gr he
 rcases he with⟨hz,he⟩|⟨_,he⟩
 ·simp only [cU] at hz
  obtain rfl:=eU hz.1
  simp only [a7,bK] at he
  obtain⟨rfl,rfl⟩:=he
  have hn0:G.at_ s.next=none:=hfree s.next (bv _) (by simp [St.new])
  obtain⟨c1,c2⟩:=wr.listed hn0 ⟨R⟩ e [] (by simp)
  refine .heap fx hrun (.inl rfl) c1 c2 (LV.of_VR ?_)
  exact .list (.inr rfl) hpos (by simp) (Nat.zero_le _) (by simp [bO]) ⟨by simpa using Gh.listed_at G w s.next [] R.length,R.length,Gh.listed_dim G w s.next [] R.length,by simp [hRlen]⟩
 ·simp only [a7,bK] at he
  obtain⟨rfl,rfl⟩:=he
  have hn0:G.at_ s.next=none:=hfree s.next (bv _) (by simp [St.new])
  obtain⟨c1,c2⟩:=wr.boxed hn0 ⟨R⟩ e _ hpre
  refine .heap fx hrun (.inl rfl) c1 c2 (LV.of_VR ?_)
  exact .arr (Gh.boxed_at G w s.next _) rfl hpos (bv _) h1 (.inr ⟨rfl,rfl⟩) (Gh.boxed_dim G w s.next _) (by simp [hRlen])
end
section
variable {P:Program} {mk:bj} {G:Gh} {s s':St} {B:Nat→Nat} {fr:Fr} {a:Act} {w:World} {o:Oper} {lo hi:Nat} {v:ai} {loc':Loc}
theorem aks {t ty:TypeId} {x:ai} {X:Value} (h:gG P mk t x s=some v) (hx:VR G x X) (wr:WR G s.heap w): ∃y,(rd #[t] ty #[X]).run P w= .ok y w∧VR G v y:=by
 simp only [gG,aF] at h
 obtain⟨d,hd,h⟩:=h
 split at h
 ·injection h with h;subst h;cases hx
  exact⟨_,by simp [rd,dp hd,goInt]<;>rfl,.int _ _⟩
 ·injection h with h;subst h
  exact⟨_,by simp [rd,dp hd,goInt]<;>rfl,.int _ _⟩
 ·injection h with h;subst h;cases hx
  exact⟨_,by simp [rd,dp hd,goInt]<;>rfl,.int _ _⟩
 ·injection h with h;subst h;cases hx
  exact⟨_,by simp [rd,dp hd,goInt]<;>rfl,.int _ _⟩
 ·injection h with h;subst h;cases hx
  exact⟨_,by simp [rd,dp hd,goInt]<;>rfl,.int _ _⟩
 ·injection h with h;subst h;cases hx
  exact⟨_,by simp [rd,dp hd,goInt]<;>rfl,.int _ _⟩
 ·simp only [aF] at h
  obtain⟨ob,hob,h⟩:=h
  split at h
  ·injection h with h;subst h
   cases hx with
   |map hat=>
   obtain⟨ad,ES,h1,h2,h3,h4⟩:=qP wr hob
   rw [hat] at h1;injection h1 with h1;subst h1
   refine⟨.int .i64 ES.size,by simp [rd,dp hd,mG h3,goInt],?_⟩
   have:=h4.length
   rw [this];simpa using VR.int (G:=G) .i64 (ES.size:Int)
  ·cases h
 ·cases h
theorem Sw {isMax:Bool} (w:World): ∀ {l:List ai} {x v:ai} {X:Value} {L:List Value},qS isMax x l=some v→VR G x X→cg G l L→
 ∃y,(L.foldlM (if isMax then Builtin.max2 else Builtin.min2) X).run P w= .ok y w∧VR G v y:=by
 have e1: ∀l:List UInt8,(ByteArray.mk ⟨l⟩).toList=l:=fun l=>ByteArray.toList_mk l
 intro l
 induction l with
 |nil=>
  intro x v X L h hx hl
  cases hl
  unfold qS at h
  split at h<;>first
   |(simp at*;done)
   |(injection h with h;subst h;exact⟨X,by simp,hx⟩)
   |(cases h)
 |cons y l ih=>
  intro x v X L h hx hl
  cases hl with
  |cons hy hl=>
  rename_i Y L
  unfold qS at h
  split at h
  ·rename_i heq;cases heq
  ·rename_i k p k' q l' heq
   simp only [mQ] at heq
   obtain⟨rfl,rfl⟩:=heq
   replace h:=bW h
   obtain⟨hk,h⟩:=h
   cases hx;cases hy
   cases isMax
   ·obtain⟨z,hz,hv⟩:=ih h (.int _ _) hl
    refine⟨z,?_,hv⟩
    simp only [List.foldlM_cons,qj,if_false,Sem.run_bind,Builtin.min2,Sem.run_pure,iH]
    simp only [qj,if_false,cF,du] at hz
    rw [←hz]
    congr 3
    by_cases hq:q<p<;>simp [hq]
   ·obtain⟨z,hz,hv⟩:=ih h (.int _ _) hl
    refine⟨z,?_,hv⟩
    simp only [List.foldlM_cons,if_true,Sem.run_bind,Builtin.max2,Sem.run_pure,iH]
    simp only [if_true,cT,du] at hz
    rw [←hz]
    congr 3
    by_cases hq:p<q<;>simp [hq]
  ·rename_i heq;cases heq
  ·rename_i p q l' heq
   simp only [mQ] at heq
   obtain⟨rfl,rfl⟩:=heq
   cases hx;cases hy
   cases isMax
   ·obtain⟨z,hz,hv⟩:=ih h (.str _) hl
    refine⟨z,?_,hv⟩
    simp only [List.foldlM_cons,qj,if_false,Sem.run_bind,Builtin.min2,Op.stringOp,asBool,Sem.run_pure,iH,e1]
    simp only [qj,if_false,cF,QJ] at hz
    rw [←hz]
    cases hq:(Op.bytesLess p q||p==q)<;>simp
   ·obtain⟨z,hz,hv⟩:=ih h (.str _) hl
    refine⟨z,?_,hv⟩
    simp only [List.foldlM_cons,if_true,Sem.run_bind,Builtin.max2,Op.stringOp,asBool,Sem.run_pure,iH,e1]
    simp only [if_true,cT] at hz
    rw [←hz]
    cases hq:(Op.bytesLess p q)<;>simp
  ·cases h
end
end Go.Ag
