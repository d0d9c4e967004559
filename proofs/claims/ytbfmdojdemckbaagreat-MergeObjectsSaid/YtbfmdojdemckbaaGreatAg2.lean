/- Operations of the evaluator are sound: boxes, cells, fields, indexes, literals. -/
import Derived.Test.YtbfmdojdemckbaaGreatAg1
import Derived.Laws.StructEq
import Derived.Laws.Concat
namespace Go.Ag
open _root_.Array renaming ext'→kS,length_toList→sO
open _root_.Bool renaming and_eq_true→cU,true_and→iP
open _root_.List renaming all_cons→l8,all_eq_true→mP,getElem?_append_left→oJ,getElem?_append_right→pC,getElem?_drop→re,getElem?_eq_getElem→jf,getElem?_eq_none→jg,getElem?_take→uj,length_cons→aK,mem_of_getElem?→nK,mem_of_mem_drop→ul,mem_of_mem_take→rg
open _root_.Nat renaming add_assoc→nL,add_zero→cY,beq→aY,le_of_ble_eq_true→io,le_refl→bv,lt_irrefl→fL,lt_or_ge→gY,min_eq_left→wu,succ_mul→uq,zero_add→aM
open Op renaming equalIn→sX
open _root_.Option renaming bind_eq_some_iff→aF
open _root_.Option.some renaming injEq→a7
open _root_.Prod.mk renaming injEq→bK
open Result renaming andThen_ok→iH
theorem eU {a b:Nat} (h:aY a b=true):a=b:=Nat.eq_of_beq_eq_true h
theorem uB {a b:Nat} (h:aY a b=false):a≠b:=Nat.ne_of_beq_eq_false h
theorem mi {a b:Nat} (h:Nat.blt a b=true):a<b:=io h
theorem iZ {a b:Nat} (h:Nat.ble a b=true):a≤b:=io h
theorem gr {α:Type} {c:Bool} {x y:Option α} {a:α} (h:(bif c then x else y)=some a):(c=true∧x=some a)∨(c=false∧y=some a):=by
 cases c<;>simp_all
theorem bW {α:Type} {c:Bool} {x:Option α} {a:α} (h:(bif c then x else none)=some a):c=true∧x=some a:=by
 cases c<;>simp_all
theorem RM (G:Gh) {c:Value} {v:ai} (h:fk c=some v):VR G v c∧v.scal=true:=by
 unfold fk at h
 split at h<;>first
  |(injection h with h;subst h;exact⟨by constructor,rfl⟩)
  |(cases h)
theorem RN (G:Gh): ∀ {l:List Value} {vs:List ai},xF l=some vs→cg G vs l∧dG vs=true
 | [],_,h=>by simp [xF] at h;subst h;exact⟨.nil,rfl⟩
 |c::l,_,h=>by
  simp only [xF,aF] at h
  obtain⟨a,ha,r,hr,h⟩:=h
  injection h with h;subst h
  obtain⟨h1,h2⟩:=RM G ha
  obtain⟨h3,h4⟩:=RN G hr
  exact⟨.cons h1 h3,by simp only [dG,l8,h2,iP];exact h4⟩
theorem qV (G:Gh) {c:Value} {v:ai} (h:ofValue c=some v):VR G v c∧ ∀l,v≠ .tup l:=by
 unfold ofValue at h
 split at h
 ·rename_i cs
  simp only [aF] at h
  obtain⟨l,hl,h⟩:=h
  injection h with h;subst h
  obtain⟨h1,h2⟩:=RN G hl
  exact⟨by simpa using VR.agg h2 h1,by simp⟩
 ·obtain⟨h1,h2⟩:=RM G h
  exact⟨h1,fun l e=>by subst e;simp [ai.scal] at h2⟩
def LV (G:Gh) (loc:Loc) (B:Nat→Nat) (v:ai) (x:Value):Prop:=
 match v with
 | .lref t g off=>g≤loc.gen t∧(∃ad,x= .pointer (some ad))∧(g=loc.gen t→x= .pointer (some ⟨B t,off,none⟩))
 |v=>VR G v x
theorem LV.of_VR {G:Gh} {loc:Loc} {B:Nat→Nat} {v:ai} {x:Value} (h:VR G v x):LV G loc B v x:=by
 cases h<;>(unfold LV;constructor<;>assumption)
theorem LV.clean {G:Gh} {loc:Loc} {B:Nat→Nat} {v:ai} {x:Value} (h:LV G loc B v x) (hc:v.clean=true):VR G v x∧ ∀l,v≠ .tup l:=by
 cases v<;>first
  |(simp [ai.clean] at hc;done)
  |exact⟨h,by simp⟩
theorem LV.mono {G G':Gh} (hle:G.le G') {loc:Loc} {B:Nat→Nat} {v:ai} {x:Value} (h:LV G loc B v x):LV G' loc B v x:=by
 cases v<;>first
  |exact VR.mono hle h
  |exact h
structure mY (G:Gh) (h:bq bE) (B:Nat→Nat) (loc:Loc) (w:World):Prop where
 cells: ∀t cs,loc.get t (loc.gen t)=some cs→ ∃C e,w.heap[B t]? =some (.cells C e (0,0))∧ ∀(i:Nat) v,cs[i]? =some v→v.scal=true∧ ∃x,C[i]? =some x∧VR G v x
 free: ∀t cs,loc.get t (loc.gen t)=some cs→ ¬ez G h (B t)
 ro: ∀t cs,loc.get t (loc.gen t)=some cs→ ∀o,G.ro (B t) o=none
 inj: ∀t u cs ds,loc.get t (loc.gen t)=some cs→loc.get u (loc.gen u)=some ds→B t=B u→t=u
theorem mY.ext {G G':Gh} {h h':bq bE} {B:Nat→Nat} {loc:Loc} {w w':World} {lo hi:Nat} (x:mY G h B loc w) (e:dh G h w G' h' w' lo hi):
 mY G' h' B loc w' where
 cells t cs ht:=by
  obtain⟨C,ty,hb,hc⟩:=x.cells t cs ht
  refine⟨C,ty,(e.keep _ (gH hb) (x.free t cs ht)).trans hb,fun i v hi=>?_⟩
  obtain⟨hs,y,hy,hv⟩:=hc i v hi
  exact⟨hs,y,hy,hv.mono e.le⟩
 free t cs ht ho:=by
  obtain⟨C,ty,hb,hc⟩:=x.cells t cs ht
  exact x.free t cs ht (e.owns _ (gH hb) ho)
 ro t cs ht o:=by
  obtain⟨C,ty,hb,hc⟩:=x.cells t cs ht
  cases hr:G'.ro (B t) o with
  |none=>rfl
  |some v=>exact absurd (e.cells _ o v (gH hb) hr (x.ro t cs ht o)) (x.free t cs ht)
 inj:=x.inj
structure c8 (G:Gh) (h:bq bE) (B:Nat→Nat) (fr:Fr) (tmps:Array Value) (w:World):Prop where
 size:tmps.size=fr.size
 env: ∀t,LV G fr.loc B (aq fr.env t) (tmps.getD t undef)
 locs:mY G h B fr.loc w
section
variable {G:Gh} {h:bq bE} {B:Nat→Nat} {fr:Fr} {a:Act} {w:World}
theorem c8.ev (x:c8 G h B fr a.tmps w) {o:Operand} {v:ai} (he:ev fr.env o=some v):LV G fr.loc B v (a.eval o):=by
 cases o with
 |tmp t=>simp [Ag.ev] at he;subst he;exact x.env t
 |const c=>exact LV.of_VR (qV G he).1
 |func f=>simp [Ag.ev] at he;subst he;exact LV.of_VR (.func .nil .nil)
 |global g=>simp [Ag.ev] at he
theorem c8.evc (x:c8 G h B fr a.tmps w) {o:Operand} {v:ai} (he:evc fr.env o=some v):VR G v (a.eval o)∧ ∀l,v≠ .tup l:=by
 simp only [Ag.evc,aF] at he
 obtain⟨u,hu,he⟩:=he
 replace he:=bW he
 obtain⟨hc,he⟩:=he
 injection he with he;subst he
 exact(x.ev hu).clean hc
theorem c8.evcs (x:c8 G h B fr a.tmps w): ∀ {l:List Operand} {vs:List ai},evcs fr.env l=some vs→cg G vs (l.map a.eval)∧ ∀v∈vs, ∀l,v≠ .tup l
 | [],_,he=>by simp [Ag.evcs] at he;subst he;exact⟨.nil,by simp⟩
 |o::l,_,he=>by
  simp only [Ag.evcs,aF] at he
  obtain⟨v,hv,r,hr,he⟩:=he
  injection he with he;subst he
  obtain⟨h1,h2⟩:=x.evc hv
  obtain⟨h3,h4⟩:=c8.evcs x hr
  exact⟨.cons h1 h3,by intro u hu;simp at hu;rcases hu with rfl|hu<;>first|exact h2|exact h4 u hu⟩
end
def LB (B:Nat→Nat) (loc:Loc) (b:Nat):Prop:= ∃t cs,loc.get t (loc.gen t)=some cs∧B t=b
structure iI (G:Gh) (h:bq bE) (w:World) (G':Gh) (h':bq bE) (w':World) (lo hi:Nat) (L:Nat→Prop):Prop where
 le:G.le G'
 size:w.heap.size≤w'.heap.size
 keep: ∀b,b<w.heap.size→ ¬ez G h b→ ¬L b→w'.heap[b]? =w.heap[b]?
 owns: ∀b,b<w.heap.size→ez G' h' b→ez G h b
 names: ∀n a,G'.at_ n=some a→G.at_ n=none→lo≤n∧n<hi
 cells: ∀b o v,b<w.heap.size→G'.ro b o=some v→G.ro b o=none→ez G h b
 quiet:m7 w w'
theorem dh.toL {G G':Gh} {h h':bq bE} {w w':World} {lo hi:Nat} (x:dh G h w G' h' w' lo hi) (L:Nat→Prop):iI G h w G' h' w' lo hi L:=
 ⟨x.le,x.size,fun b hb ho _=>x.keep b hb ho,x.owns,x.names,x.cells,x.quiet⟩
def fO (P:Program) (G:Gh) (h:bq bE) (w:World) (B:Nat→Nat) (loc:Loc) (lo hi:Nat) (a:Act) (o:Oper) (v:ai) (loc':Loc) (h':bq bE):Prop:=
 ∃nx x w' G' B',(execOp a.eval o).run P w= .ok nx w'∧(nx= .value x∨(nx= .skip∧x=undef))∧WR G' h' w'∧iI G h w G' h' w' lo hi (LB B loc)∧
  mY G' h' B' loc' w'∧LV G' loc' B' v x∧(∀u y,LV G loc B u y→LV G' loc' B' u y)∧ ∀b,LB B' loc' b→LB B loc b∨w.heap.size≤b
section
variable {P:Program} {G:Gh} {h:bq bE} {B:Nat→Nat} {fr:Fr} {a:Act} {w:World} {o:Oper} {lo hi:Nat}
theorem fO.pure (wr:WR G h w) (x:c8 G h B fr a.tmps w) {v:ai} {y:Value} (hrun:(execOp a.eval o).run P w= .ok (.value y) w) (hv:LV G fr.loc B v y):
 fO P G h w B fr.loc lo hi a o v fr.loc h:=
 ⟨_,y,w,G,B,hrun,.inl rfl,wr,dh.refl.toL _,x.locs,hv,fun _ _ h=>h,fun _ h=>.inl h⟩
theorem fO.heap (x:c8 G h B fr a.tmps w) {v:ai} {y:Value} {nx:Next} {w':World} {G':Gh} {h':bq bE} (hrun:(execOp a.eval o).run P w= .ok nx w')
 (hn:nx= .value y∨(nx= .skip∧y=undef)) (wr:WR G' h' w') (e:dh G h w G' h' w' lo hi) (hv:LV G' fr.loc B v y):
 fO P G h w B fr.loc lo hi a o v fr.loc h':=
 ⟨nx,y,w',G',B,hrun,hn,wr,e.toL _,x.locs.ext e,hv,fun _ _ h=>h.mono e.le,fun _ h=>.inl h⟩
end
section
variable {P:Program} {mk:bj} {G:Gh} {h:bq bE} {B:Nat→Nat} {fr:Fr} {a:Act} {w:World} {o:Oper} {lo hi:Nat}
theorem jG {x:Option ai} {l l':Loc} {s s':St} {v:ai} (e:fJ x l s=some (v,l',s')):x=some v∧l'=l∧s'=s:=by
 cases x with
 |none=>simp [fJ] at e
 |some u=>simp [fJ] at e;exact⟨by rw [e.1],e.2.1.symm,e.2.2.symm⟩
theorem ai8 {x:Operand} (ho:o.op= .move x) (wr:WR G h w) (fx:c8 G h B fr a.tmps w) {v:ai} (he:ev fr.env x=some v):
 fO P G h w B fr.loc lo hi a o v fr.loc h:=
 .pure wr fx (y:=a.eval x) (by simp [execOp,ho]) (fx.ev he)
theorem aiO {x:Operand} (ho:o.op= .assign x) (wr:WR G h w) (fx:c8 G h B fr a.tmps w) {v:ai} (he:ev fr.env x=some v):
 fO P G h w B fr.loc lo hi a o v fr.loc h:=
 .pure wr fx (y:=a.eval x) (by simp [execOp,ho]) (fx.ev he)
theorem ajb {c p q:Operand} (ho:o.op= .pick c p q) (wr:WR G h w) (fx:c8 G h B fr a.tmps w) {v:ai} (he:sl fr.env c p q=some v):
 fO P G h w B fr.loc lo hi a o v fr.loc h:=by
 simp only [sl,aF] at he
 obtain⟨b,hb,he⟩:=he
 have hc:=fx.ev hb
 split at he
 ·have hc:VR G (.bool true) (a.eval c):=hc
  generalize hx:a.eval c=x at hc
  cases hc
  exact .pure wr fx (y:=a.eval p) (by simp [execOp,ho,hx,asBool]) (fx.ev he)
 ·have hc:VR G (.bool false) (a.eval c):=hc
  generalize hx:a.eval c=x at hc
  cases hc
  exact .pure wr fx (y:=a.eval q) (by simp [execOp,ho,hx,asBool]) (fx.ev he)
 ·cases he
theorem aja {x:Operand} (ho:o.op= .nilCheck x) (wr:WR G h w) (fx:c8 G h B fr a.tmps w) {u v:ai} (hu:ev fr.env x=some u) (he:si fr.loc u=some v):
 fO P G h w B fr.loc lo hi a o v fr.loc h:=by
 have hl:=fx.ev hu
 unfold si at he
 split at he
 ·rename_i t g off
  replace he:=bW he
  obtain⟨hg,he⟩:=he
  injection he with he;subst he
  have hg:=eU hg
  obtain⟨h1,_,h2⟩:g≤fr.loc.gen t∧(∃ad,a.eval x= .pointer (some ad))∧(g=fr.loc.gen t→a.eval x= .pointer (some ⟨B t,off,none⟩)):=hl
  have h2:=h2 hg.symm
  exact .pure wr fx (y:=a.eval x) (by simp [execOp,ho,h2]) ⟨h1,⟨_,h2⟩,fun _=>h2⟩
 ·injection he with he;subst he
  generalize hx:a.eval x=y at hl
  have hl':VR G _ y:=hl
  cases hl'
  exact .pure wr fx (y:=a.eval x) (by simp [execOp,ho,hx]) (by rw [hx];exact hl)
 ·injection he with he;subst he
  generalize hx:a.eval x=y at hl
  have hl':VR G _ y:=hl
  cases hl'
  exact .pure wr fx (y:=a.eval x) (by simp [execOp,ho,hx]) (by rw [hx];exact hl)
 ·injection he with he;subst he
  generalize hx:a.eval x=y at hl
  have hl':VR G _ y:=hl
  cases hl'
  exact .pure wr fx (y:=a.eval x) (by simp [execOp,ho,hx]) (by rw [hx];exact hl)
 ·cases he
end
theorem Loc.gen_set (l:Loc) (t g u:Nat) (cs:List ai):(Loc.set l t g cs).gen u=if u=t then g else Loc.gen l u:=by
 induction l with
 |nil=>
  simp only [Loc.set,Loc.gen]
  by_cases h:u=t
  ·subst h;simp
  ·have:aY t u=false:=by cases e:aY t u;rfl;exact absurd (eU e).symm h
   simp [this,h]
 |cons x l ih=>
  obtain⟨k,g',d⟩:=x
  simp only [Loc.set]
  cases e:aY k t
  ·simp only [cF,Loc.gen]
   rw [ih]
   by_cases h:u=t
   ·subst h;simp [e]
   ·simp [h]
  ·have:=eU e;subst this
   simp only [cT,Loc.gen]
   by_cases h:u=k
   ·subst h;simp
   ·have:aY k u=false:=by cases e:aY k u;rfl;exact absurd (eU e).symm h
    simp [this,h]
theorem Loc.get_set (l:Loc) (t g u k:Nat) (cs:List ai):(Loc.set l t g cs).get u k=if u=t then(if k=g then some cs else none) else Loc.get l u k:=by
 have hb: ∀a b:Nat,aY a b=decide (a=b):=fun a b=>by
  cases e:aY a b
  ·exact(decide_eq_false (uB e)).symm
  ·exact(decide_eq_true (eU e)).symm
 induction l with
 |nil=>
  simp only [Loc.set,Loc.get,hb]
  by_cases h:u=t
  ·subst h
   by_cases h':k=g
   ·simp [h']
   ·simp [h',Ne.symm h']
  ·simp [h,Ne.symm h]
 |cons x l ih=>
  obtain⟨j,g',d⟩:=x
  simp only [Loc.set,hb]
  by_cases e:j=t
  ·subst e
   simp only [dT,cT,Loc.get,hb]
   by_cases h:u=j
   ·subst h
    by_cases h':k=g
    ·simp [h']
    ·simp [h',Ne.symm h']
   ·simp [h,Ne.symm h]
  ·simp only [e,decide_false,cF,Loc.get,hb]
   rw [ih]
   by_cases h:u=t
   ·subst h;simp [e]
   ·simp [h]
section
variable {P:Program} {G:Gh} {h:bq bE} {w:World}
theorem Gh.more_none (x:WR G h w):G.more w.heap.size (fun _=>none) none=G:=by
 cases G with
 |mk A R D=>
  simp only [Gh.more]
  congr 1
  ·funext c o
   by_cases e:c=w.heap.size
   ·rw [if_pos e]
    cases hr:R c o with
    |none=>rfl
    |some v=>have:=x.ro_lt (b:=c) (o:=o) (v:=v) hr;omega
   ·rw [if_neg e]
  ·funext c
   by_cases e:c=w.heap.size
   ·rw [if_pos e]
    cases hr:D c with
    |none=>rfl
    |some d=>obtain⟨C,t,hb,_⟩:=x.dim c d hr;have:=gH hb;omega
   ·rw [if_neg e]
theorem WR.fresh (x:WR G h w) (ob:Obj) (hwm:Obj.warm ob:=by trivial):WR G h (w.alloc ob)∧ ∀lo hi,dh G h w G h (w.alloc ob) lo hi:=by
 have:=x.alloc ob (fun _=>none) none (by simp) (by simp) hwm
 rwa [Gh.more_none x] at this
def Gh.boxed (G:Gh) (w:World) (n size:Nat):Gh:=(G.more w.heap.size (fun _=>none) (some size)).name n ⟨w.heap.size,0,none⟩
theorem WR.boxed (x:WR G h w) {n:Nat} (hn:G.at_ n=none) (C:Array Value) (e:TypeId) (cs:List ai)
 (hc: ∀(i:Nat) v,cs[i]? =some v→v.scal=true∧ ∃y,C[i]? =some y∧VR G v y):
 WR (G.boxed w n C.size) (h.set n (some (.cells cs))) (w.alloc (.cells C e))∧dh G h w (G.boxed w n C.size) (h.set n (some (.cells cs))) (w.alloc (.cells C e)) n (n+1):=by
 obtain⟨h1,h2⟩:=x.alloc (.cells C e) (fun _=>none) (some C.size) (by simp) (fun d hd=>⟨C,e,rfl,by injection hd⟩)
 have hno: ¬ez (G.more w.heap.size (fun _=>none) (some C.size)) h w.heap.size:=by
  rintro⟨m,a,hm,ha,hb⟩
  have:=x.below m a ha
  omega
 have h3:=h1.named (n:=n) (a:=⟨w.heap.size,0,none⟩) (o:=.cells cs) hn (by simp) rfl hno
  ⟨C,e,by rw [mf,if_pos rfl],by simp [Gh.more],fun i v hi=>by
    obtain⟨hs,y,hy,hv⟩:=hc i v hi
    exact⟨hs,y,by simpa using hy,hv.mono (h2 0 0).le⟩⟩
  (by simp [Gh.more])
 refine⟨h3,⟨(h2 0 0).le.trans (Gh.name_le _ _ hn),(h2 0 0).size,(h2 0 0).keep,?_,?_,?_,(h2 0 0).quiet⟩⟩
 ·intro b hb ho
  rcases vF ho with rfl|ho
  ·exact absurd hb (fL _)
  ·exact(h2 0 0).owns b hb ho
 ·intro m a hm h0
  simp only [Gh.boxed,Gh.name,Gh.more] at hm
  by_cases em:m=n
  ·omega
  ·rw [if_neg em,h0] at hm;cases hm
 ·intro b o v hb hv h0
  exact(h2 0 0).cells b o v hb hv h0
theorem Gh.boxed_at (G:Gh) (w:World) (n size:Nat):(G.boxed w n size).at_ n=some ⟨w.heap.size,0,none⟩:=by simp [Gh.boxed,Gh.name]
theorem Gh.boxed_dim (G:Gh) (w:World) (n size:Nat):(G.boxed w n size).dim w.heap.size=some size:=by simp [Gh.boxed,Gh.name,Gh.more]
theorem cg.rows {vs:List ai} {C:Array Value} (hv:cg G vs C.toList) (hs:dG vs=true):
 ∀(i:Nat) v,vs[i]? =some v→v.scal=true∧ ∃y,C[i]? =some y∧VR G v y:=by
 intro i v hi
 refine⟨?_,?_⟩
 ·have:=nK hi
  simp only [dG,mP] at hs
  exact hs v this
 ·obtain⟨y,hy,hr⟩:=hv.get hi
  exact⟨y,by simpa using hy,hr⟩
end
section
variable {P:Program} {mk:bj} {G:Gh} {s s':St} {B:Nat→Nat} {fr:Fr} {a:Act} {w:World} {o:Oper}
theorem RP {hh:Nat} {dst:Option Tmp} {cs:List ai} {v:ai} {loc':Loc} {C:Array Value} {e:TypeId} (wr:WR G s.heap w) (fx:c8 G s.heap B fr a.tmps w)
 (hrun:(execOp a.eval o).run P w= .ok (.value (.pointer (some ⟨w.heap.size,0,none⟩))) (w.alloc (.cells C e)))
 (hc: ∀(i:Nat) v,cs[i]? =some v→v.scal=true∧ ∃y,C[i]? =some y∧VR G v y)
 (he:n7 hh dst cs fr.loc s=some (v,loc',s')) (hfree: ∀n,s.next≤n→n<s'.next→G.at_ n=none):
 fO P G s.heap w B fr.loc s.next s'.next a o v loc' s'.heap:=by
 unfold n7 at he
 rcases gr he with⟨_,he⟩|⟨_,he⟩
 ·simp only [aF] at he
  obtain⟨t,_,he⟩:=he
  simp only [a7,bK] at he
  obtain⟨rfl,rfl,rfl⟩:=he
  obtain⟨h1,h2⟩:=wr.fresh (.cells C e)
  have h3:=fx.locs.ext (h2 s.next s.next)
  refine⟨_,_,_,G,fun u=>if u=t then w.heap.size else B u,hrun,.inl rfl,h1,(h2 _ _).toL _,⟨?_,?_,?_,?_⟩,?_,?_,?_⟩
  ·intro u ds hu
   rw [Loc.gen_set,Loc.get_set] at hu
   by_cases eu:u=t
   ·rw [if_pos eu,if_pos eu,if_pos rfl] at hu
    injection hu with hu;subst hu
    rw [if_pos eu]
    exact⟨C,e,by rw [mf,if_pos rfl],hc⟩
   ·rw [if_neg eu,if_neg eu] at hu
    rw [if_neg eu]
    exact h3.cells u ds hu
  ·intro u ds hu
   rw [Loc.gen_set,Loc.get_set] at hu
   by_cases eu:u=t
   ·rw [if_pos eu]
    intro ho
    exact fL _ (wr.owned_lt ho)
   ·rw [if_neg eu,if_neg eu] at hu
    rw [if_neg eu]
    exact h3.free u ds hu
  ·intro u ds hu k
   rw [Loc.gen_set,Loc.get_set] at hu
   by_cases eu:u=t
   ·rw [if_pos eu]
    cases hr:G.ro w.heap.size k with
    |none=>rfl
    |some v=>exact absurd (wr.ro_lt hr) (fL _)
   ·rw [if_neg eu,if_neg eu] at hu
    rw [if_neg eu]
    exact h3.ro u ds hu k
  ·intro u u' ds ds' hu hu' hB
   rw [Loc.gen_set,Loc.get_set] at hu hu'
   have old: ∀ {q:Nat} {cs:List ai},fr.loc.get q (fr.loc.gen q)=some cs→B q<w.heap.size:=fun {q cs} hq=>by
    obtain⟨C,e,hb,_⟩:=fx.locs.cells q cs hq;exact gH hb
   by_cases eu:u=t<;>by_cases eu':u'=t
   ·rw [eu,eu']
   ·rw [if_neg eu',if_neg eu'] at hu'
    rw [if_pos eu,if_neg eu'] at hB
    have:=old hu';omega
   ·rw [if_neg eu,if_neg eu] at hu
    rw [if_neg eu,if_pos eu'] at hB
    have:=old hu;omega
   ·rw [if_neg eu,if_neg eu] at hu
    rw [if_neg eu',if_neg eu'] at hu'
    rw [if_neg eu,if_neg eu'] at hB
    exact fx.locs.inj u u' ds ds' hu hu' hB
  ·show _≤_∧_
   rw [Loc.gen_set,if_pos rfl]
   exact⟨bv _,⟨_,rfl⟩,fun _=>by simp⟩
  ·intro u y hl
   cases u with
   |lref q g off=>
    obtain⟨l1,l3,l2⟩:=hl
    show _≤_∧_
    rw [Loc.gen_set]
    by_cases eq:q=t
    ·subst eq
     rw [if_pos rfl]
     exact⟨by omega,l3,fun hg=>by omega⟩
    ·rw [if_neg eq]
     exact⟨l1,l3,fun hg=>by simp only [if_neg eq];exact l2 hg⟩
   |_=>exact hl
  ·rintro b ⟨u,ds,hu,rfl⟩
   rw [Loc.gen_set,Loc.get_set] at hu
   by_cases eu:u=t
   ·simp only [if_pos eu];exact .inr (bv _)
   ·rw [if_neg eu,if_neg eu] at hu
    simp only [if_neg eu]
    exact .inl ⟨u,ds,hu,rfl⟩
 ·simp only [a7,bK] at he
  obtain⟨rfl,rfl,rfl⟩:=he
  have hn:G.at_ s.next=none:=hfree s.next (bv _) (by simp [St.new])
  obtain⟨h1,h2⟩:=wr.boxed hn C e cs hc
  exact .heap fx hrun (.inl rfl) h1 h2 (LV.of_VR (by simpa using VR.ptr (off:=0) (Gh.boxed_at G w s.next C.size)))
theorem x9 {t:TypeId} {z:ai} (hz:eK P t=some z): ∃i zv,P.info? t=some i∧i.zero=some zv∧ofValue zv=some z:=by
 simp only [eK,aF] at hz
 obtain⟨i,hi,zv,hzv,h⟩:=hz
 exact⟨i,zv,hi,hzv,h⟩
theorem qd {t:TypeId} {i:TypeInfo} {zv:Value} (hi:P.info? t=some i) (hz:i.zero=some zv) (w:World):(zeroValue t).run P w= .ok zv w:=by
 simp [zeroValue,typeInfo,hi,hz]
theorem aiN {hint:Tmp→Nat} {dst:Option Tmp} {e:TypeId} {v:ai} {loc':Loc} (ho:o.op= .alloc e) (wr:WR G s.heap w) (fx:c8 G s.heap B fr a.tmps w)
 (he:z7 P hint dst e fr s=some (v,loc',s')) (hfree: ∀n,s.next≤n→n<s'.next→G.at_ n=none):
 fO P G s.heap w B fr.loc s.next s'.next a o v loc' s'.heap:=by
 simp only [z7,aF] at he
 obtain⟨z,hz,he⟩:=he
 obtain⟨i,zv,hi,hzv,hov⟩:=x9 hz
 obtain⟨hv,ht⟩:=qV G hov
 exact RP (C:=zv.cells) (e:=e) wr fx (by simp [execOp,ho,Instr.alloc,qd hi hzv,newVar,newRow]) (hv.cells.rows (hv.scals_cells ht)) he hfree
theorem aiQ {hint:Tmp→Nat} {dst:Option Tmp} {e:TypeId} {x:Operand} {v:ai} {loc':Loc} (ho:o.op= .box e x) (wr:WR G s.heap w) (fx:c8 G s.heap B fr a.tmps w)
 (he:Aa hint dst x fr s=some (v,loc',s')) (hfree: ∀n,s.next≤n→n<s'.next→G.at_ n=none):
 fO P G s.heap w B fr.loc s.next s'.next a o v loc' s'.heap:=by
 simp only [Aa,aF] at he
 obtain⟨u,hu,he⟩:=he
 obtain⟨hv,ht⟩:=fx.evc hu
 exact RP (C:=(a.eval x).cells) (e:=e) wr fx (by simp [execOp,ho,Instr.box,newVar,newRow]) (hv.cells.rows (hv.scals_cells ht)) he hfree
end
section
variable {P:Program} {mk:bj} {G:Gh} {s s':St} {B:Nat→Nat} {fr:Fr} {a:Act} {w:World} {o:Oper} {lo hi:Nat}
theorem dp {t:TypeId} {d:TypeDesc} (h:P.underlying t=some d) (w:World):(underlying t).run P w= .ok d w:=by
 simp [underlying,h]
theorem Ay {t:TypeId} {b:Bool} (h:w5 P t=some b) (w:World):(isAgg t).run P w= .ok b w:=by
 simp only [w5,aF] at h
 obtain⟨d,hd,h⟩:=h
 cases d<;>simp at h<;>subst h<;>simp [isAgg,dp hd]
theorem gS {t:TypeId} {n:Nat} (h:eX P t=some n) (w:World):(sizeOf t).run P w= .ok n w:=by
 simp only [eX,aF] at h
 obtain⟨i,hi,h⟩:=h
 injection h with h;subst h
 simp [sizeOf,typeInfo,hi]
theorem uK {cs r:List ai} {off n:Nat} (h:cut cs off n=some r):r=(cs.drop off).take n∧r.length=n:=by
 simp only [cut] at h
 obtain⟨h1,h2⟩:=bW h
 injection h2 with h2
 exact⟨h2.symm,by rw [←h2];exact eU h1⟩
theorem wL {cs r:List ai} {off n:Nat} (h:cut cs off n=some r) {i:Nat} {v:ai} (hi:r[i]? =some v):cs[off+i]? =some v:=by
 obtain⟨h1,h2⟩:=uK h
 rw [h1,uj] at hi
 split at hi
 ·rwa [re] at hi
 ·cases hi
theorem Fi {cs:List ai} {f:Nat→Option Value} (hc: ∀(i:Nat) u,cs[i]? =some u→u.scal=true∧ ∃x,f i=some x∧VR G u x):
 ∃vs:List Value,cg G cs vs∧dG cs=true∧ ∀(i:Nat) x,vs[i]? =some x→f i=some x:=by
 induction cs generalizing f with
 |nil=>exact⟨[],.nil,rfl,by simp⟩
 |cons c cs ih=>
  obtain⟨hs,x,hx,hv⟩:=hc 0 c (by simp)
  obtain⟨vs,h1,h2,h3⟩:=ih (f:=fun i=>f (i+1)) (fun i u hi=>hc (i+1) u (by simpa using hi))
  refine⟨x::vs,.cons hv h1,by simp only [dG,l8,hs,iP];exact h2,?_⟩
  intro i y hi
  cases i with
  |zero=>simp at hi;subst hi;exact hx
  |succ i=>simp at hi;exact h3 i y hi
theorem vS {t:TypeId} {cs:List ai} {off:Nat} {v:ai} {b base:Nat} (h:eN P t cs off=some v)
 (hc: ∀(i:Nat) u,cs[i]? =some u→u.scal=true∧ ∃x,w.cell? ⟨b,base+i,none⟩=some x∧VR G u x):
 ∃y,(loadVar t ⟨b,base+off,none⟩).run P w= .ok y w∧VR G v y∧ ∀l,v≠ .tup l:=by
 simp only [eN,aF] at h
 obtain⟨g,hg,h⟩:=h
 replace h:=gr h
 rcases h with⟨g1,h⟩|⟨g1,h⟩<;>subst g1
 ·simp only [aF] at h
  obtain⟨n,hn,r,hr,h⟩:=h
  injection h with h;subst h
  obtain⟨vs,h1,h2,h3⟩:=Fi (G:=G) (cs:=r) (f:=fun i=>w.cell? ⟨b,base+off+i,none⟩) (fun i u hi=>by
   have:=hc (off+i) u (wL hr hi)
   rwa [←nL] at this)
  have hlen:vs.length=n:=by rw [←h1.length];exact(uK hr).2
  refine⟨.agg ⟨vs⟩,?_,.agg h2 h1,by simp⟩
  have hl:=run_loadCells_list (P:=P) (w:=w) ⟨b,base+off,none⟩ vs (fun j v hj=>by rw [lH];exact h3 j v hj)
  rw [hlen] at hl
  simp [loadVar,Ay hg,gS hn,hl]
 ·split at h
  ·rename_i u rest hd
   injection h with h;subst h
   have hi:cs[off]? =some u:=by
    have:(cs.drop off)[0]? =some u:=by rw [hd];rfl
    simpa [re] using this
   obtain⟨hs,x,hx,hv⟩:=hc off u hi
   refine⟨x,?_,hv,fun l e=>by subst e;simp [ai.scal] at hs⟩
   simp [loadVar,Ay hg,hx]
  ·cases h
theorem iL {n:Nat} {ob:bE} (h:s.get mk n=some ob):s.heap.get n=some ob:=by
 unfold St.get at h
 cases e:dF mk n<;>simp [e] at h
 exact h
theorem ai2 {t:TypeId} {x:Operand} {v:ai} {loc':Loc} (ho:o.op= .load t x) (wr:WR G s.heap w) (fx:c8 G s.heap B fr a.tmps w)
 (he:vC P mk t x fr s=some (v,loc',s')):fO P G s.heap w B fr.loc lo hi a o v loc' s'.heap:=by
 simp only [vC,aF] at he
 obtain⟨u,hu,he⟩:=he
 replace he:=jG he
 obtain⟨he,rfl,rfl⟩:=he
 have hl:=fx.ev hu
 unfold kK at he
 split at he
 ·rename_i t' g off
  simp only [aF] at he
  obtain⟨cs,hcs,he⟩:=he
  obtain⟨h1,_,h2⟩:=hl
  have hg:g=fr.loc.gen t':=by
   clear he h2
   revert hcs
   generalize fr.loc=l at*
   induction l with
   |nil=>intro hcs;simp [Loc.get] at hcs
   |cons y l ih=>
    obtain⟨k,g',d⟩:=y
    intro hcs
    simp only [Loc.get,Loc.gen] at*
    cases e:aY k t'
    ·rw [e] at hcs h1;simp only [cF] at hcs h1 ⊢;exact ih h1 hcs
    ·rw [e] at hcs h1;simp only [cT] at hcs h1 ⊢
     obtain⟨e',_⟩:=bW hcs
     exact(eU e').symm
  replace h2:=h2 hg
  subst hg
  obtain⟨C,e,hb,hc⟩:=fx.locs.cells t' cs hcs
  obtain⟨y,hy,hv,ht⟩:=vS (w:=w) (b:=B t') (base:=0) he (fun i u hi=>by
   obtain⟨hs,z,hz,hr⟩:=hc i u hi
   exact⟨hs,z,by rw [nb hb];simpa using hz,hr⟩)
  refine .pure wr fx (y:=y) ?_ (LV.of_VR hv)
  simp only [aM] at hy
  simp [execOp,ho,h2,Instr.loadAt,Instr.sureAddr,hy]
 ·rename_i n off
  simp only [aF] at he
  obtain⟨ob,hob,he⟩:=he
  split at he
  ·rename_i cs
   have hl:VR G _ _:=hl
   generalize hx:a.eval x=y at hl
   cases hl
   rename_i ad hn
   obtain⟨ad',hn',hsp,C,e,hb,_,hc⟩:=wr.obj n _ (iL hob)
   rw [hn] at hn';injection hn' with hn';subst hn'
   obtain⟨y,hy,hv,ht⟩:=vS (w:=w) (b:=ad.block) (base:=ad.off) he (fun i u hi=>by
    obtain⟨hs,z,hz,hr⟩:=hc i u hi
    exact⟨hs,z,by rw [nb hb];exact hz,hr⟩)
   refine .pure wr fx (y:=y) ?_ (LV.of_VR hv)
   simp [execOp,ho,hx,Instr.loadAt,Instr.sureAddr,hy]
  ·cases he
 ·rename_i cs
  have hl:VR G _ _:=hl
  generalize hx:a.eval x=y at hl
  cases hl
  rename_i b base hro
  obtain⟨y,hy,hv,ht⟩:=vS (w:=w) (b:=b) (base:=base) he (fun i u hi=>wr.ro _ _ _ (hro i u hi))
  refine .pure wr fx (y:=y) ?_ (LV.of_VR hv)
  simp only [cY] at hy
  simp [execOp,ho,hx,Instr.loadAt,Instr.sureAddr,hy]
 ·cases he
theorem QZ {l:Loc} {t g:Nat} {cs:List ai} (h:l.get t g=some cs):g=l.gen t:=by
 induction l with
 |nil=>simp [Loc.get] at h
 |cons y l ih=>
  obtain⟨k,g',d⟩:=y
  simp only [Loc.get,Loc.gen] at*
  cases e:aY k t
  ·rw [e] at h;simp only [cF] at h ⊢;exact ih h
  ·rw [e] at h;simp only [cT] at h ⊢
   exact(eU (bW h).1).symm
theorem TD {cs new cs':List ai} {off:Nat} (h:cI cs off new=some cs'):
 off+new.length≤cs.length∧cs'.length=cs.length∧ ∀i:Nat,cs'[i]? =if off≤i∧i<off+new.length then new[i-off]? else cs[i]? :=by
 simp only [cI] at h
 obtain⟨h1,h2⟩:=bW h
 have h1:=iZ h1
 injection h2 with h2
 refine⟨h1,by rw [←h2];simp;omega,fun i=>?_⟩
 rw [←h2]
 by_cases c1:i<off
 ·rw [oJ (by simp;omega),if_neg (by omega),uj,if_pos c1]
 ·rw [pC (by simp;omega)]
  simp only [List.length_take,wu (by omega:off≤cs.length)]
  by_cases c2:i<off+new.length
  ·rw [oJ (by omega),if_pos ⟨by omega,c2⟩]
  ·rw [pC (by omega),if_neg (by omega),re]
   congr 1;omega
theorem xO {cs new cs':List ai} {off base:Nat} {C:Array Value} {ys:List Value} (h:cI cs off new=some cs') (hy:cg G new ys) (hs:dG new=true) (hne:new≠ [])
 (hc: ∀(i:Nat) u,cs[i]? =some u→u.scal=true∧ ∃x,C[base+i]? =some x∧VR G u x):
 base+off+ys.length≤C.size∧ ∀(i:Nat) u,cs'[i]? =some u→u.scal=true∧ ∃x,(iV C (base+off) ys)[base+i]? =some x∧VR G u x:=by
 obtain⟨h1,h2,h3⟩:=TD h
 have hl:=hy.length
 have hpos:0<new.length:=List.length_pos_iff.2 hne
 have hsz:base+off+ys.length≤C.size:=by
  have hi:off+new.length-1<cs.length:=by omega
  obtain⟨_,x,hx,_⟩:=hc (off+new.length-1) cs[off+new.length-1] (jf hi)
  have:base+(off+new.length-1)<C.size:=by
   rcases gY (base+(off+new.length-1)) C.size with h|h
   ·exact h
   ·simp [Array.getElem?_eq_none h] at hx
  omega
 refine⟨hsz,fun i u hi=>?_⟩
 rw [h3] at hi
 rw [AV _ _ _ _ hsz]
 by_cases c:off≤i∧i<off+new.length
 ·rw [if_pos c] at hi
  rw [if_pos (by omega)]
  obtain⟨x,hx,hv⟩:=hy.get hi
  refine⟨?_,x,?_,hv⟩
  ·have:=nK hi
   simp only [dG,mP] at hs
   exact hs u this
  ·rw [←hx];congr 1;omega
 ·rw [if_neg c] at hi
  rw [if_neg (by omega)]
  exact hc i u hi
theorem cg.ones {vs:List ai} {ys:List Value} (hy:cg G vs ys) (hs:dG vs=true): ∀y∈ys,y.oneCell'=true:=by
 induction vs generalizing ys with
 |nil=>cases hy;simp
 |cons v vs ih=>
  cases hy with
  |cons p q=>
   simp only [dG,l8,cU] at hs
   intro y hm
   simp at hm
   rcases hm with rfl|hm
   ·exact p.one hs.1
   ·exact ih q hs.2 y hm
theorem WR.putFree {h:bq bE} (x:WR G h w) {b:Nat} {C C':Array Value} {e:TypeId} (hb:w.heap[b]? =some (.cells C e (0,0))) (hs:C'.size=C.size) (ho: ¬ez G h b)
 (hr: ∀o,G.ro b o=none):WR G h (dK w b (.cells C' e (0,0))):=by
 have hlt:=gH hb
 have hblk: ∀c,(dK w b (.cells C' e (0,0))).heap[c]? =if c=b then some (.cells C' e (0,0)) else w.heap[c]? :=fun c=>iO w b c _ hlt
 refine⟨?_,x.sep,?_,x.apart,?_,fun n a ha=>by simp;exact x.below n a ha⟩
 ·intro n o hn
  obtain⟨a,ha,hsp,hr⟩:=x.obj n o hn
  refine⟨a,ha,hsp,hr.of_block ?_⟩
  rw [hblk,if_neg]
  intro e'
  exact ho ⟨n,a,by rw [hn];simp,ha,e'⟩
 ·intro c o v hv
  by_cases e':c=b
  ·subst e';rw [hr] at hv;cases hv
  ·obtain⟨h1,y,hy,h2⟩:=x.ro c o v hv
   exact⟨h1,y,by rw [←hy];simp [World.cell?,hblk,e'],h2⟩
 ·intro c d hd
  obtain⟨D,t,hc,hsz⟩:=x.dim c d hd
  rw [hblk]
  by_cases e':c=b
  ·subst e'
   rw [hb] at hc
   simp only [a7,Obj.cells.injEq] at hc
   obtain⟨rfl,rfl,_⟩:=hc
   exact⟨C',e,if_pos rfl,by omega⟩
  ·rw [if_neg e'];exact⟨D,t,hc,hsz⟩
theorem aje {t:TypeId} {x z:Operand} {v:ai} {loc':Loc} (ho:o.op= .store t x z) (wr:WR G s.heap w) (fx:c8 G s.heap B fr a.tmps w)
 (he:vD P mk t x z fr s=some (v,loc',s')):fO P G s.heap w B fr.loc lo hi a o v loc' s'.heap:=by
 simp only [vD,aF] at he
 obtain⟨u,hu,nv,hnv,r,hr,he⟩:=he
 simp only [a7,bK] at he
 obtain⟨rfl,rfl,rfl⟩:=he
 have hl:=fx.ev hu
 obtain⟨hv,ht⟩:=fx.evc hnv
 have hcs:=hv.cells
 have hsc:=hv.scals_cells ht
 simp only [pq,aF] at hr
 obtain⟨n,hn,hr⟩:=hr
 replace hr:=bW hr
 obtain⟨hcond,hr⟩:=hr
 simp only [cU] at hcond
 have hlen:=eU hcond.1
 have hpos:=mi hcond.2
 have hne:nv.cells≠ []:=by intro e;rw [e] at hlen;simp at hlen;omega
 have hsize:(a.eval z).cells.size=n:=by
  have:=hcs.length
  rw [hlen] at this
  simpa using this.symm
 have hrun: ∀(b off:Nat) (C:Array Value) (e:TypeId),w.heap[b]? =some (.cells C e (0,0))→off+(a.eval z).cells.toList.length≤C.size→a.eval x= .pointer (some ⟨b,off,none⟩)→
  (execOp a.eval o).run P w= .ok .skip (dK w b (.cells (iV C off (a.eval z).cells.toList) e (0,0))):=by
  intro b off C e hb hle hx
  have h1:=Az (P:=P) b off e (a.eval z).cells.toList 0 w C hb (by omega) (hcs.ones hsc)
  simp only [cY] at h1
  simp [execOp,ho,hx,Instr.storeAt,Instr.sureAddr,storeVar,gS hn,hsize,h1]
 split at hr
 ·rename_i l g off
  simp only [aF] at hr
  obtain⟨cs,hcs',cs',hw,hr⟩:=hr
  simp only [a7] at hr
  obtain⟨rfl,rfl⟩:=hr
  have hg:=QZ hcs'
  obtain⟨h1,_,h2⟩:=hl
  replace h2:=h2 hg
  subst hg
  obtain⟨C,e,hb,hc⟩:=fx.locs.cells l cs hcs'
  obtain⟨hle,hrows⟩:=xO (base:=0) hw hcs hsc hne (fun i u hi=>by simpa using hc i u hi)
  simp only [aM] at hle hrows
  have hfree:=fx.locs.free l cs hcs'
  have hro:=fx.locs.ro l cs hcs'
  have hlt:=gH hb
  have hblk: ∀c,(dK w (B l) (.cells (iV C off (a.eval z).cells.toList) e (0,0))).heap[c]? =if c=B l then some (.cells (iV C off (a.eval z).cells.toList) e (0,0)) else w.heap[c]? :=fun c=>iO w _ c _ hlt
  have hgens: ∀q,(fr.loc.set l (fr.loc.gen l) cs').gen q=fr.loc.gen q:=fun q=>by
   rw [Loc.gen_set]
   by_cases e':q=l
   ·rw [if_pos e',e']
   ·rw [if_neg e']
  have hgets: ∀q ds,(fr.loc.set l (fr.loc.gen l) cs').get q ((fr.loc.set l (fr.loc.gen l) cs').gen q)=some ds→
   (q=l∧ds=cs')∨(q≠l∧fr.loc.get q (fr.loc.gen q)=some ds):=fun q ds hq=>by
   rw [hgens,Loc.get_set] at hq
   by_cases e':q=l
   ·subst e'
    rw [if_pos rfl,if_pos rfl] at hq
    injection hq with hq
    exact .inl ⟨rfl,hq.symm⟩
   ·rw [if_neg e'] at hq;exact .inr ⟨e',hq⟩
  have hpres: ∀q ds,(fr.loc.set l (fr.loc.gen l) cs').get q ((fr.loc.set l (fr.loc.gen l) cs').gen q)=some ds→ ∃ds',fr.loc.get q (fr.loc.gen q)=some ds':=fun q ds hq=>by
   rcases hgets q ds hq with⟨rfl,_⟩|⟨_,hq⟩
   ·exact⟨cs,hcs'⟩
   ·exact⟨ds,hq⟩
  refine⟨_,undef,_,G,B,hrun (B l) off C e hb hle h2,.inr ⟨rfl,rfl⟩,wr.putFree hb (by simp) hfree hro,
   ⟨.refl G,by simp,?_,fun _ _ h=>h,fun n a h h'=>(by rw [h] at h';cases h'),fun b o v _ h h'=>(by rw [h] at h';cases h'),xL w hb rfl rfl⟩,⟨?_,?_,?_,?_⟩,LV.of_VR (.tup .nil),?_,?_⟩
  ·intro b _ _ hnl
   rw [hblk,if_neg]
   intro e'
   exact hnl ⟨l,cs,hcs',e'.symm⟩
  ·intro q ds hq
   rcases hgets q ds hq with⟨rfl,rfl⟩|⟨hne',hq⟩
   ·exact⟨_,e,by rw [hblk,if_pos rfl],hrows⟩
   ·obtain⟨C',e',hb',hc'⟩:=fx.locs.cells q ds hq
    refine⟨C',e',?_,hc'⟩
    rw [hblk,if_neg];·exact hb'
    intro e''
    exact hne' (fx.locs.inj q l ds cs hq hcs' e'')
  ·intro q ds hq;obtain⟨ds',hq'⟩:=hpres q ds hq;exact fx.locs.free q ds' hq'
  ·intro q ds hq;obtain⟨ds',hq'⟩:=hpres q ds hq;exact fx.locs.ro q ds' hq'
  ·intro q q' ds ds' hq hq' hB
   obtain⟨d1,h1⟩:=hpres q ds hq
   obtain⟨d2,h2⟩:=hpres q' ds' hq'
   exact fx.locs.inj q q' d1 d2 h1 h2 hB
  ·intro u y hu
   cases u with
   |lref q g off=>show _≤_∧_;rw [hgens];exact hu
   |_=>exact hu
  ·rintro b ⟨q,ds,hq,rfl⟩
   obtain⟨ds',hq'⟩:=hpres q ds hq
   exact .inl ⟨q,ds',hq',rfl⟩
 ·rename_i m off
  simp only [aF] at hr
  obtain⟨ob,hob,hr⟩:=hr
  split at hr
  ·rename_i cs
   simp only [aF] at hr
   obtain⟨cs',hw,hr⟩:=hr
   simp only [a7] at hr
   obtain⟨rfl,rfl⟩:=hr
   have hl:VR G _ _:=hl
   generalize hx:a.eval x=y at hl
   cases hl
   rename_i ad had
   obtain⟨ad',had',hsp,C,e,hb,hdm,hc⟩:=wr.obj m _ (iL hob)
   rw [had] at had';injection had' with had';subst had'
   obtain⟨hle,hrows⟩:=xO (base:=ad.off) hw hcs hsc hne hc
   obtain⟨h1,h2⟩:=wr.changed (o':=.cells cs') (ob:=.cells (iV C (ad.off+off) (a.eval z).cells.toList) e (0,0)) (iL hob) had
    ⟨_,e,by rw [iO _ _ _ _ (gH hb),if_pos rfl],by rw [hdm];simp,hrows⟩
    (fun i v hv=>by have:=(wr.apart m _ ad i v (iL hob) had hv).1;cases this)
    (fun d hd=>by
     obtain⟨D,t',hD,hsz⟩:=wr.dim _ d hd
     rw [hb] at hD
     simp only [a7,Obj.cells.injEq] at hD
     obtain⟨rfl,rfl,_⟩:=hD
     exact⟨_,e,rfl,by simpa using hsz⟩)
   exact .heap fx (hrun ad.block (ad.off+off) C e hb hle hx) (.inr ⟨rfl,rfl⟩) h1 (h2 _ _) (LV.of_VR (.tup .nil))
  ·cases hr
 ·cases hr
end
section
variable {P:Program} {G:Gh}
theorem su {t:TypeId} {cs:List ai} {off:Nat} {v:ai} {vs:List Value} (h:eN P t cs off=some v) (hv:cg G cs vs) (hs:dG cs=true):
 ∃y,(∀w:World,(part t ⟨vs⟩ off).run P w= .ok y w)∧VR G v y∧ ∀l,v≠ .tup l:=by
 simp only [eN,aF] at h
 obtain⟨g,hg,h⟩:=h
 replace h:=gr h
 rcases h with⟨g1,h⟩|⟨g1,h⟩<;>subst g1
 ·simp only [aF] at h
  obtain⟨n,hn,r,hr,h⟩:=h
  injection h with h;subst h
  obtain⟨h1,h2⟩:=uK hr
  refine⟨.agg ⟨(vs.drop off).take n⟩,fun w=>?_,.agg ?_ ?_,by simp⟩
  ·have:(⟨vs⟩:Array Value).extract off (off+n)=⟨(vs.drop off).take n⟩:=by
    apply kS
    simp [List.extract]
   simp only [part,Sem.run_bind,Ay hg,iH,if_true,gS hn,Sem.run_pure,this]
  ·rw [h1]
   simp only [dG,mP] at hs ⊢
   exact fun x hx=>hs x (ul (rg hx))
  ·rw [h1];exact(hv.drop off).take n
 ·split at h
  ·rename_i u rest hd
   injection h with h;subst h
   have hi:cs[off]? =some u:=by
    have:(cs.drop off)[0]? =some u:=by rw [hd];rfl
    simpa [re] using this
   obtain⟨y,hy,hr⟩:=hv.get hi
   refine⟨y,fun w=>?_,hr,fun l e=>?_⟩
   ·simp [part,Ay hg,hy]
   ·subst e
    simp only [dG,mP] at hs
    have:=hs _ (nK hi)
    simp [ai.scal] at this
  ·cases h
theorem Ss {rec:TypeId→ai→ai→Option Bool} {d:Nat} {e:TypeId} {n:Nat} {xs ys:List ai} {xv yv:List Value} (hx:cg G xs xv) (hy:cg G ys yv) (sx:dG xs=true) (sy:dG ys=true)
 (hrec: ∀ {x y:ai} {X Y:Value} {r:Bool},rec e x y=some r→VR G x X→VR G y Y→ ∀w:World,(sX d e X Y).run P w= .ok r w) (w:World):
 ∀(k i:Nat) {r:Bool},wQ P rec e n xs ys k i=some r→
  ((forIn (m:=Sem) (List.range' i k) ((none,()):Option Bool×Unit) fun i _=>do
   let a←part e ⟨xv⟩ (i*n)
   let b←part e ⟨yv⟩ (i*n)
   let q←sX d e a b
   if(!q)=true then pure (ForInStep.done (some false,())) else pure (ForInStep.yield (none,()))).run P w)= .ok (bif r then none else some false,()) w
 |0,i,r,h=>by simp [wQ] at h;subst h;simp
 |k+1,i,r,h=>by
  simp only [wQ,aF] at h
  obtain⟨x,hx1,y,hy1,q,hq,h⟩:=h
  obtain⟨X,hX,vX,_⟩:=su hx1 hx sx
  obtain⟨Y,hY,vY,_⟩:=su hy1 hy sy
  have hrun:=hrec hq vX vY
  rw [List.range'_succ,List.forIn_cons]
  simp only [Sem.run_bind,hX,hY,hrun,iH]
  cases q
  ·simp at h;subst h;simp
  ·simp at h
   simpa using Ss hx hy sx sy hrec w k (i+1) h
theorem Fp {rec:TypeId→ai→ai→Option Bool} {d:Nat} {xs ys:List ai} {xv yv:List Value} (hx:cg G xs xv) (hy:cg G ys yv) (sx:dG xs=true) (sy:dG ys=true)
 (hrec: ∀ {e:TypeId} {x y:ai} {X Y:Value} {r:Bool},rec e x y=some r→VR G x X→VR G y Y→ ∀w:World,(sX d e X Y).run P w= .ok r w) (w:World):
 ∀(fs:List Field) {r:Bool},uN P rec xs ys fs=some r→(Op.eqFields d ⟨xv⟩ ⟨yv⟩ fs).run P w= .ok r w
 | [],r,h=>by simp [uN] at h;subst h;simp [Op.eqFields]
 |f::fs,r,h=>by
  simp only [uN] at h
  replace h:=gr h
  rcases h with⟨hn,h⟩|⟨hn,h⟩
  ·have hn:f.name= "_" :=by simpa using hn
   simp only [Op.eqFields,hn]
   simpa using Fp hx hy sx sy hrec w fs h
  ·have hn:f.name≠ "_" :=by simpa using hn
   simp only [aF] at h
   obtain⟨x,hx1,y,hy1,q,hq,h⟩:=h
   obtain⟨X,hX,vX,_⟩:=su hx1 hx sx
   obtain⟨Y,hY,vY,_⟩:=su hy1 hy sy
   have hrun:=hrec hq vX vY
   simp only [Op.eqFields,if_pos hn,Sem.run_bind,hX,hY,hrun,iH]
   cases q
   ·simp at h;subst h;simp
   ·simp at h
    simpa using Fp hx hy sx sy hrec w fs h
theorem Hy {t:TypeId} {fs:Array Field} (h:P.underlying t=some (.struct fs)):P.fieldsOf t=fs:=by simp [Program.fieldsOf,h]
theorem Av: ∀(d:Nat) {t:TypeId} {x y:ai} {X Y:Value} {r:Bool},jX P d t x y=some r→VR G x X→VR G y Y→
 ∀(D:Nat),d≤D→ ∀w:World,(sX D t X Y).run P w= .ok r w
 |0,_,_,_,_,_,_,h,_,_=>by simp [jX] at h
 |d+1,t,x,y,X,Y,r,h,hx,hy=>by
  intro D hD w
  obtain⟨D,rfl⟩: ∃E,D=E+1:=⟨D-1,by omega⟩
  simp only [jX,aF] at h
  obtain⟨desc,ht,h⟩:=h
  have hu:=dp (w:=w) ht
  split at h
  ·cases hx;cases hy;injection h with h;subst h;simp [sX,hu]
  ·cases hx;cases hy
   replace h:=bW h
   obtain⟨hk,h⟩:=h
   injection h with h;subst h
   have hk:=of_decide_eq_true (by simpa using hk)
   subst hk
   simp [sX,hu,bL]
  ·cases hx;cases hy;injection h with h;subst h
   rename_i a b
   have:=run_equalIn_string (P:=P) w D t ⟨⟨a⟩⟩ ⟨⟨b⟩⟩ ht
   rw [this]
   have e1: ∀l:List UInt8,(ByteArray.mk ⟨l⟩).toList=l:=fun l=>ByteArray.toList_mk l
   rw [e1,e1]
  ·rename_i fs xs ys
   cases hx with|agg sx hx=>cases hy with|agg sy hy=>
   replace h:=gr h
   rcases h with⟨_,h⟩|⟨hp,h⟩
   ·cases h
   ·rw [run_equalIn_struct w D t _ _ (by rw [Hy ht];exact ht) hp,Hy ht]
    exact Fp hx hy sx sy (fun {e x y X Y r} hr vx vy w=>Av d hr vx vy D (by omega) w) w _ h
  ·rename_i len e xs ys
   cases hx with|agg sx hx=>cases hy with|agg sy hy=>
   simp only [aF] at h
   obtain⟨n,hn,h⟩:=h
   have:=Ss hx hy sx sy (d:=D) (fun {x y X Y r} hr vx vy w=>Av d hr vx vy D (by omega) w) w len 0 h
   simp only [sX,Sem.run_bind,hu,iH,gS hn]
   rw [Std.Legacy.Range.forIn_eq_forIn_range']
   simp only [Std.Legacy.Range.size,Nat.sub_zero,Nat.add_sub_cancel,Nat.div_one]
   rw [this]
   cases r<;>simp
  all_goals first
   |(cases hx;cases hy;injection h with h;subst h;simp [sX,hu];done)
   |(cases h)
end
section
variable {P:Program} {G:Gh}
theorem akr {op:BinOp} {k:IntKind} {a b:Int} {v:ai} (h:CR op k a b=some v) (t:TypeId) (w:World) (h1:op≠ .shl) (h2:op≠ .shr):
 ∃y,(binOp op t (.int k a) (.int k b)).run P w= .ok y w∧VR G v y:=by
 cases op<;>simp only [CR,a7,reduceCtorEq] at h<;>first
  |(subst h;exact⟨_,by simp [binOp];rfl,by constructor⟩)
  |(replace h:=gr h
    rcases h with⟨_,h⟩|⟨h0,h⟩
    ·cases h
    ·injection h with h;subst h
     have h0:b≠0:=by simpa [bL] using h0
     exact⟨_,by simp [binOp,Op.intDiv,h0];rfl,by constructor⟩)
  |exact absurd rfl h1
  |exact absurd rfl h2
theorem QJ (a b:List UInt8):leBytes a b=(Op.bytesLess a b||a==b):=rfl
theorem aku {op:BinOp} {a b:List UInt8} {v:ai} (h:FD op a b=some v) (t:TypeId) (w:World):
 ∃y,(binOp op t (.string ⟨⟨a⟩⟩) (.string ⟨⟨b⟩⟩)).run P w= .ok y w∧VR G v y:=by
 have e1: ∀l:List UInt8,(ByteArray.mk ⟨l⟩).toList=l:=fun l=>ByteArray.toList_mk l
 cases op<;>simp only [FD,a7,reduceCtorEq] at h<;>first
  |(subst h;exact⟨_,by simp [binOp,Op.stringOp,e1];rfl,by constructor⟩)
  |(subst h;exact⟨_,by simp [binOp,Op.stringOp,e1,←QJ];rfl,by constructor⟩)
  |(replace h:=bW h
    obtain⟨h0,h⟩:=h
    injection h with h;subst h
    have h0:=iZ h0
    refine⟨.string ⟨⟨a++b⟩⟩,?_,.str _⟩
    have:=run_string_add_sum (P:=P) w ⟨⟨a⟩⟩ ⟨⟨b⟩⟩ (by show a.length+b.length≤_;omega)
    rw [show(ByteArray.mk ⟨a⟩++ByteArray.mk ⟨b⟩)=ByteArray.mk ⟨a++b⟩ from ByteArray.mk_append_mk a b] at this
    simpa [binOp] using this)
set_option maxHeartbeats 1000000 in
theorem Sr {t:TypeId} {x y:ai} {X Y:Value} {r:Bool} (h:rI P t x y=some r) (hx:VR G x X) (hy:VR G y Y) (ox oy:Operand) (op:BinOp) (w:World):
 (eqGuard op t ox oy X Y).run P w= .ok () w∧ ∀w:World,(Op.equal t X Y).run P w= .ok r w:=by
 have h8: ∀ {x y},jX P 8 t x y=some r→VR G x X→VR G y Y→ ∀w:World,(Op.equal t X Y).run P w= .ok r w:=fun h hx hy w=>Av 8 h hx hy 10000 (by omega) w
 unfold rI at h
 split at h
 ·replace h:=gr h
  rcases h with⟨_,h⟩|⟨hg,h⟩
  ·cases h
  ·refine⟨?_,h8 h hx hy⟩
   cases hx;cases hy
   exact run_eqGuard_agg w op t ox oy _ _ hg
 ·refine⟨?_,h8 h hx hy⟩
  rename_i hne
  simp only [jX,aF] at h
  obtain⟨desc,ht,h⟩:=h
  cases hx<;>cases hy<;>first
   |(exact absurd rfl (hne _ _ rfl))
   |(simp at h;done)
   |(cases op<;>simp [eqGuard])
theorem ako {op:BinOp} {t:TypeId} {x y v:ai} {X Y:Value} (h:fR P op t x y=some v) (hx:VR G x X) (hy:VR G y Y) (ox oy:Operand) (w:World):
 ∃z,((do eqGuard op t ox oy X Y;binOp op t X Y):Sem Value).run P w= .ok z w∧VR G v z:=by
 unfold fR at h
 split at h
 ·rename_i k a k' b
  cases hx;cases hy
  have hg: ∀w:World,(eqGuard op t ox oy (.int k a) (.int k' b)).run P w= .ok () w:=fun w=>by cases op<;>simp [eqGuard]
  simp only [Sem.run_bind,hg,iH]
  split at h
  ·replace h:=gr h
   rcases h with⟨_,h⟩|⟨h0,h⟩
   ·cases h
   ·injection h with h;subst h
    have h0: ¬b<0:=by simpa [du] using h0
    exact⟨_,by simp [binOp,Op.shift,h0];rfl,by constructor⟩
  ·replace h:=gr h
   rcases h with⟨_,h⟩|⟨h0,h⟩
   ·cases h
   ·injection h with h;subst h
    have h0: ¬b<0:=by simpa [du] using h0
    exact⟨_,by simp [binOp,Op.shift,h0];rfl,by constructor⟩
  ·rename_i h1 h2
   replace h:=bW h
   obtain⟨hk,h⟩:=h
   have hk:k=k':=by simpa using hk
   subst hk
   exact akr h t w h1 h2
 ·cases hx;cases hy
  have hg: ∀(a b:ByteArray) (w:World),(eqGuard op t ox oy (.string a) (.string b)).run P w= .ok () w:=fun a b w=>by cases op<;>simp [eqGuard]
  simp only [Sem.run_bind,hg,iH]
  exact aku h t w
 ·rename_i hni hns
  split at h
  ·simp only [aF] at h
   obtain⟨b,hb,h⟩:=h
   injection h with h;subst h
   obtain⟨hg,he⟩:=Sr hb hx hy ox oy .eql w
   refine⟨.bool b,?_,.bool b⟩
   simp only [Sem.run_bind,hg,iH]
   cases hx<;>cases hy<;>first
    |(exact absurd rfl (hni _ _ _ _ rfl))
    |(exact absurd rfl (hns _ _ rfl))
    |(simp [binOp,he])
  ·simp only [aF] at h
   obtain⟨b,hb,h⟩:=h
   injection h with h;subst h
   obtain⟨hg,he⟩:=Sr hb hx hy ox oy .neq w
   refine⟨.bool (!b),?_,.bool (!b)⟩
   simp only [Sem.run_bind,hg,iH]
   cases hx<;>cases hy<;>first
    |(exact absurd rfl (hni _ _ _ _ rfl))
    |(exact absurd rfl (hns _ _ rfl))
    |(simp [binOp,he])
  ·cases h
end
theorem HJ {sz:Nat} {xs:List ai} (hsz: ∀x∈xs,x.cells.length=sz) {j:Nat} (hj:j<xs.length) {i:Nat} (hi:i<sz):
 (bO xs)[j*sz+i]? =(iu xs j).cells[i]? :=by
 induction xs generalizing j with
 |nil=>simp at hj
 |cons x xs ih=>
  have hx:=hsz x (by simp)
  cases j with
  |zero=>simp only [bO,iu,Nat.zero_mul,aM];rw [oJ (by omega)]
  |succ j=>
   simp only [bO,iu]
   rw [pC (by rw [hx,uq];omega),hx]
   have:(j+1)*sz+i-sz=j*sz+i:=by rw [uq];omega
   rw [this]
   exact ih (fun y hy=>hsz y (by simp [hy])) (by simpa using hj)
theorem aiG {xs:List ai} {j:Nat} (hj:j<xs.length):iu xs j∈xs:=by
 induction xs generalizing j with
 |nil=>simp at hj
 |cons x xs ih=>
  cases j with
  |zero=>simp [iu]
  |succ j=>simp only [iu];exact List.mem_cons_of_mem _ (ih (by simpa using hj))
theorem ki {sz:Nat} {xs:List ai} (hsz: ∀x∈xs,x.cells.length=sz):(bO xs).length=xs.length*sz:=by
 induction xs with
 |nil=>simp [bO]
 |cons x xs ih=>simp only [bO,List.length_append,aK,hsz x (by simp),ih (fun y hy=>hsz y (by simp [hy])),uq];omega
section
variable {P:Program} {mk:bj} {G:Gh} {s s':St} {B:Nat→Nat} {fr:Fr} {a:Act} {w:World} {o:Oper} {lo hi:Nat} {v:ai} {loc':Loc}
theorem aiP {op:BinOp} {t yt:TypeId} {x y:Operand} (ho:o.op= .binOp op t x y yt) (wr:WR G s.heap w) (fx:c8 G s.heap B fr a.tmps w)
 (he:z8 P op t x y fr s=some (v,loc',s')):fO P G s.heap w B fr.loc lo hi a o v loc' s'.heap:=by
 simp only [z8,aF] at he
 obtain⟨p,hp,q,hq,he⟩:=he
 replace he:=jG he
 obtain⟨he,rfl,rfl⟩:=he
 obtain⟨z,hz,hv⟩:=ako he (fx.evc hp).1 (fx.evc hq).1 x y w
 refine .pure wr fx (y:=z) ?_ (LV.of_VR hv)
 simp only [execOp,ho]
 rw [Sem.run_bind,hz]
 rfl
theorem ajf {op:UnOp} {t:TypeId} {x:Operand} (ho:o.op= .unOp op t x) (wr:WR G s.heap w) (fx:c8 G s.heap B fr a.tmps w)
 (he:ky x (wd op) fr s=some (v,loc',s')):fO P G s.heap w B fr.loc lo hi a o v loc' s'.heap:=by
 simp only [ky,aF] at he
 obtain⟨p,hp,he⟩:=he
 replace he:=jG he
 obtain⟨he,rfl,rfl⟩:=he
 have hv:=(fx.evc hp).1
 generalize hx:a.eval x=X at hv
 unfold wd at he
 split at he
 ·injection he with he;subst he;cases hv
  exact .pure wr fx (by simp [execOp,ho,hx,Op.unary,Op.intArith]) (LV.of_VR (.int _ _))
 ·injection he with he;subst he;cases hv
  exact .pure wr fx (by simp [execOp,ho,hx,Op.unary]) (LV.of_VR (.bool _))
 ·cases he
theorem aiU {src dst:TypeId} {x:Operand} (ho:o.op= .convert src dst x) (wr:WR G s.heap w) (fx:c8 G s.heap B fr a.tmps w)
 (he:ky x (yD P src dst) fr s=some (v,loc',s')):fO P G s.heap w B fr.loc lo hi a o v loc' s'.heap:=by
 simp only [ky,aF] at he
 obtain⟨p,hp,he⟩:=he
 replace he:=jG he
 obtain⟨he,rfl,rfl⟩:=he
 have hv:=(fx.evc hp).1
 generalize hx:a.eval x=X at hv
 simp only [yD,aF] at he
 obtain⟨d1,h1,d2,h2,he⟩:=he
 split at he
 ·injection he with he;subst he;cases hv
  exact .pure wr fx (by simp [execOp,ho,hx,convert,dp h1,dp h2,Conv.intToInt]) (LV.of_VR (.int _ _))
 ·injection he with he;subst he;cases hv
  exact .pure wr fx (by simp [execOp,ho,hx,convert,dp h1,dp h2]) (LV.of_VR (.str _))
 ·cases he
theorem ai4 {fn:Fn} {first captured:Array Operand} (ho:o.op= .makeFunc fn first captured) (wr:WR G s.heap w) (fx:c8 G s.heap B fr a.tmps w)
 (he:oe fr.env fn first captured=some v):fO P G s.heap w B fr.loc lo hi a o v fr.loc s.heap:=by
 unfold oe at he
 split at he
 ·simp only [aF] at he
  obtain⟨p,hp,q,hq,he⟩:=he
  injection he with he;subst he
  rename_i f
  refine .pure wr fx (y:=.func (.func f) (first.map a.eval) (captured.map a.eval)) (by simp [execOp,ho,Instr.makeFunc]) (LV.of_VR ?_)
  have h1:=(fx.evcs hp).1
  have h2:=(fx.evcs hq).1
  have e1:first.map a.eval=⟨first.toList.map a.eval⟩:=by apply kS;simp
  have e2:captured.map a.eval=⟨captured.toList.map a.eval⟩:=by apply kS;simp
  rw [e1,e2]
  exact .func h1 h2
 ·cases he
theorem aiX {x:Operand} {i:Nat} (ho:o.op= .extract x i) (wr:WR G s.heap w) (fx:c8 G s.heap B fr a.tmps w)
 (he:nq x (gu i) fr s=some (v,loc',s')):fO P G s.heap w B fr.loc lo hi a o v loc' s'.heap:=by
 simp only [nq,aF] at he
 obtain⟨p,hp,he⟩:=he
 replace he:=jG he
 obtain⟨he,rfl,rfl⟩:=he
 have hl:=fx.ev hp
 unfold gu at he
 split at he
 ·have hl:VR G _ _:=hl
  generalize hx:a.eval x=X at hl
  cases hl with
  |tup hs=>
   obtain⟨y,hy,hv⟩:=hs.get he
   exact .pure wr fx (y:=y) (by simp [execOp,ho,hx,Instr.extract,hy]) (LV.of_VR hv)
 ·cases he
theorem aiZ {t:TypeId} {x:Operand} {f:Nat} (ho:o.op= .fieldAddr t x f) (wr:WR G s.heap w) (fx:c8 G s.heap B fr a.tmps w)
 (he:nq x (fun x=>fE P fr.loc t x f) fr s=some (v,loc',s')):fO P G s.heap w B fr.loc lo hi a o v loc' s'.heap:=by
 simp only [nq,aF] at he
 obtain⟨p,hp,he⟩:=he
 replace he:=jG he
 obtain⟨he,rfl,rfl⟩:=he
 have hl:=fx.ev hp
 simp only [fE,aF] at he
 obtain⟨d,hd,he⟩:=he
 split at he
 ·rename_i fields
  simp only [aF] at he
  obtain⟨fd,hfd,n,hn,he⟩:=he
  replace he:=gr he
  rcases he with⟨_,he⟩|⟨h0,he⟩
  ·cases he
  ·have h0:=uB h0
   have hrun: ∀b off,a.eval x= .pointer (some ⟨b,off,none⟩)→(execOp a.eval o).run P w= .ok (.value (.pointer (some ⟨b,off+fd.offset,none⟩))) w:=by
    intro b off hx
    simp [execOp,ho,hx,Instr.fieldAt,dp hd,hfd,Instr.sureAddr,fieldPlace,gS hn,h0,lH]
   split at he
   ·rename_i l g off
    replace he:=bW he
    obtain⟨hg,he⟩:=he
    have hg:=(eU hg).symm
    injection he with he;subst he
    obtain⟨h1,_,h2⟩:=hl
    exact .pure wr fx (hrun _ _ (h2 hg)) ⟨h1,⟨_,rfl⟩,fun _=>rfl⟩
   ·injection he with he;subst he
    have hl:VR G _ _:=hl
    generalize hx:a.eval x=X at hl
    cases hl with
    |ptr hn=>exact .pure wr fx (hrun _ _ hx) (LV.of_VR (by rw [nL];exact .ptr hn))
   ·injection he with he;subst he
    have hl:VR G _ _:=hl
    generalize hx:a.eval x=X at hl
    cases hl with
    |ro hro=>exact .pure wr fx (hrun _ _ hx) (LV.of_VR (.ro fun i y hy=>by rw [nL];exact hro _ _ (by rwa [re] at hy)))
   ·cases he
 ·cases he
theorem aiY {t:TypeId} {x:Operand} {f:Nat} (ho:o.op= .field t x f) (wr:WR G s.heap w) (fx:c8 G s.heap B fr a.tmps w)
 (he:ky x (fun x=>yK P t x f) fr s=some (v,loc',s')):fO P G s.heap w B fr.loc lo hi a o v loc' s'.heap:=by
 simp only [ky,aF] at he
 obtain⟨p,hp,he⟩:=he
 replace he:=jG he
 obtain⟨he,rfl,rfl⟩:=he
 have hv:=(fx.evc hp).1
 simp only [yK,aF] at he
 obtain⟨d,hd,he⟩:=he
 split at he
 ·simp only [aF] at he
  obtain⟨fd,hfd,he⟩:=he
  split at he
  ·generalize hx:a.eval x=X at hv
   cases hv with
   |agg hs hvs=>
    obtain⟨y,hy,hr,_⟩:=su he hvs hs
    exact .pure wr fx (y:=y) (by simp [execOp,ho,hx,Instr.field,dp hd,hfd,asAgg,hy]) (LV.of_VR hr)
  ·cases he
 ·cases he
theorem vu {i:ai} {n:Nat} (h:fF i=some n): ∃k,i= .int k (.ofNat n):=by
 unfold fF at h
 split at h
 ·injection h with h;subst h;exact⟨_,rfl⟩
 ·cases h
theorem ai1 {t:TypeId} {x i:Operand} (ho:o.op= .indexAddr t x i) (wr:WR G s.heap w) (fx:c8 G s.heap B fr a.tmps w)
 (he:vB P t x i fr s=some (v,loc',s')):fO P G s.heap w B fr.loc lo hi a o v loc' s'.heap:=by
 simp only [vB,aF] at he
 obtain⟨p,hp,q,hq,he⟩:=he
 replace he:=jG he
 obtain⟨he,rfl,rfl⟩:=he
 have hl:=fx.ev hp
 have hi:=fx.ev hq
 simp only [iq,aF] at he
 obtain⟨j,hj,d,hd,he⟩:=he
 obtain⟨k,rfl⟩:=vu hj
 have hi:VR G (.int k (.ofNat j)) (a.eval i):=hi
 generalize hI:a.eval i=I at hi
 cases hi
 split at he
 ·rename_i len e
  simp only [aF] at he
  obtain⟨n,hn,he⟩:=he
  replace he:=bW he
  obtain⟨hlt,he⟩:=he
  have hlt:=mi hlt
  have hrun: ∀b off,a.eval x= .pointer (some ⟨b,off,none⟩)→(execOp a.eval o).run P w= .ok (.value (.pointer (some ⟨b,off+j*n,none⟩))) w:=by
   intro b off hx
   simp [execOp,ho,hx,hI,Instr.indexAt,asIntOf,dp hd,Instr.sureAddr,gS hn,hlt,lH]
  split at he
  ·rename_i l g off
   replace he:=bW he
   obtain⟨hg,he⟩:=he
   have hg:=(eU hg).symm
   injection he with he;subst he
   obtain⟨h1,_,h2⟩:=hl
   exact .pure wr fx (hrun _ _ (h2 hg)) ⟨h1,⟨_,rfl⟩,fun _=>rfl⟩
  ·injection he with he;subst he
   have hl:VR G _ _:=hl
   generalize hx:a.eval x=X at hl
   cases hl with
   |ptr hn=>exact .pure wr fx (hrun _ _ hx) (LV.of_VR (by rw [nL];exact .ptr hn))
  ·injection he with he;subst he
   have hl:VR G _ _:=hl
   generalize hx:a.eval x=X at hl
   cases hl with
   |ro hro=>exact .pure wr fx (hrun _ _ hx) (LV.of_VR (.ro fun i y hy=>by rw [nL];exact hro _ _ (by rwa [re] at hy)))
  ·cases he
 ·rename_i e
  simp only [aF] at he
  obtain⟨n,hn,he⟩:=he
  split at he
  ·rename_i sz xs r
   replace he:=bW he
   obtain⟨hc,he⟩:=he
   simp only [cU] at hc
   obtain rfl:=eU hc.1
   have hlt:=mi hc.2
   injection he with he;subst he
   have hl:VR G _ _:=hl
   generalize hx:a.eval x=X at hl
   cases hl with
   |list hsp hpos hsz hcap hro hr=>
    rename_i ad cap
    obtain⟨b,off,sp⟩:=ad
    have hsp:sp=none:=by
     rcases hsp with h|h
     ·omega
     ·exact h
    subst hsp
    refine .pure wr fx (y:=.pointer (some ⟨b,off+j*sz,none⟩)) ?_ (LV.of_VR (.ro ?_))
    ·simp [execOp,ho,hx,hI,Instr.indexAt,asIntOf,dp hd,gS hn,hlt,lH]
    ·intro i y hy
     rw [nL]
     refine hro _ _ ?_
     have hi:i<sz:=by
      have:=hsz _ (aiG hlt)
      rcases gY i (iu xs j).cells.length with h|h
      ·omega
      ·simp [jg h] at hy
     rw [HJ hsz hlt hi]
     exact hy
  ·rename_i sz m off len lcap
   replace he:=bW he
   obtain⟨hc,he⟩:=he
   simp only [cU] at hc
   obtain rfl:=eU hc.1
   have hlt:=mi hc.2
   injection he with he;subst he
   have hl:VR G _ _:=hl
   generalize hx:a.eval x=X at hl
   cases hl with
   |arr hat hsp hpos hlen hcap hadr hdim hd'=>
    rename_i ad bd cap dm
    obtain⟨b,o',sp⟩:=ad
    simp only at hsp;subst hsp
    rcases hadr with h0|⟨rfl,rfl⟩
    ·omega
    ·refine .pure wr fx (y:=.pointer (some ⟨bd.block,bd.off+off+j*sz,none⟩)) ?_ (LV.of_VR ?_)
     ·simp [execOp,ho,hx,hI,Instr.indexAt,asIntOf,dp hd,gS hn,hlt,lH]
     ·rw [nL];exact .ptr hat
  ·cases he
 ·cases he
theorem ai0 {t:TypeId} {x i:Operand} (ho:o.op= .index t x i) (wr:WR G s.heap w) (fx:c8 G s.heap B fr a.tmps w)
 (he:Ac P t x i fr s=some (v,loc',s')):fO P G s.heap w B fr.loc lo hi a o v loc' s'.heap:=by
 simp only [Ac,aF] at he
 obtain⟨p,hp,q,hq,he⟩:=he
 replace he:=jG he
 obtain⟨he,rfl,rfl⟩:=he
 have hl:=(fx.evc hp).1
 have hi:=fx.ev hq
 simp only [pR,aF] at he
 obtain⟨j,hj,d,hd,he⟩:=he
 obtain⟨k,rfl⟩:=vu hj
 have hi:VR G (.int k (.ofNat j)) (a.eval i):=hi
 generalize hI:a.eval i=I at hi
 cases hi
 generalize hx:a.eval x=X at hl
 split at he
 ·rename_i len e
  simp only [aF] at he
  obtain⟨n,hn,he⟩:=he
  replace he:=bW he
  obtain⟨hlt,he⟩:=he
  have hlt:=mi hlt
  split at he
  ·cases hl with
   |agg hs hvs=>
    obtain⟨y,hy,hr,_⟩:=su he hvs hs
    exact .pure wr fx (y:=y) (by simp [execOp,ho,hx,hI,Instr.index,asIntOf,dp hd,gS hn,hlt,hy]) (LV.of_VR hr)
  ·cases he
 ·split at he
  ·rename_i bs
   split at he
   ·rename_i b rest hb
    injection he with he;subst he
    cases hl
    have hg:bs[j]? =some b:=by
     have:(bs.drop j)[0]? =some b:=by rw [hb];rfl
     simpa [re] using this
    refine .pure wr fx (y:=.int .u8 b.toNat) ?_ (LV.of_VR (.int _ _))
    have hg':(ByteArray.mk ⟨bs⟩)[j]? =some b:=by
     have hlt:j<bs.length:=by
      rcases gY j bs.length with h|h
      ·exact h
      ·simp [jg h] at hg
     rw [jf hlt] at hg
     rw [getElem?_pos (ByteArray.mk ⟨bs⟩) j (by exact hlt)]
     exact hg
    simp [execOp,ho,hx,hI,Instr.index,asIntOf,dp hd,hg']
   ·cases he
  ·cases he
 ·cases he
end
section
variable {P:Program} {G:Gh} {h:bq bE} {B:Nat→Nat} {fr:Fr} {a:Act} {w:World}
theorem al4 {cs new cs':List ai} {off:Nat} {vs ys:List Value} (hw:cI cs off new=some cs') (hv:cg G cs vs) (hy:cg G new ys):
 off+ys.length≤vs.length∧cg G cs' (vs.take off++(ys++vs.drop (off+ys.length))):=by
 simp only [cI] at hw
 obtain⟨h1,h2⟩:=bW hw
 have h1:=iZ h1
 injection h2 with h2;subst h2
 have:=hv.length
 have:=hy.length
 refine⟨by omega,?_⟩
 rw [←hy.length]
 exact(hv.take off).append (hy.append (hv.drop _))
theorem SA {a b:List ai}:dG (a++b)=(dG a&&dG b):=by simp [dG]
theorem al5 {cs new cs':List ai} {off:Nat} (hw:cI cs off new=some cs') (hv:dG cs=true) (hy:dG new=true):dG cs'=true:=by
 simp only [cI] at hw
 obtain⟨h1,h2⟩:=bW hw
 injection h2 with h2;subst h2
 simp only [dG,mP,List.mem_append] at hv hy ⊢
 rintro x (hx|hx|hx)
 ·exact hv x (rg hx)
 ·exact hy x hx
 ·exact hv x (ul hx)
theorem Xw (cells:List Value) (off:Nat): ∀(ys:List Value) (k:Nat),off+k+ys.length≤cells.length→ ∀(C:Array Value),C.toList=cells→
 ((ys.zipIdx k).foldl (fun cs (x:Value×Nat)=>cs.setIfInBounds (off+x.2) x.1) C).toList=cells.take (off+k)++(ys++cells.drop (off+k+ys.length)):=by
 intro ys
 induction ys generalizing cells with
 |nil=>intro k _ C hC;simp [hC]
 |cons y ys ih=>
  intro k hk C hC
  simp only [aK] at hk
  simp only [List.zipIdx_cons,List.foldl_cons]
  rw [ih (cells.set (off+k) y) (k+1) (by simp;omega) _ (by simp [hC])]
  have e1:off+(k+1)=off+k+1:=by omega
  rw [e1]
  simp only [aK]
  have e2:(cells.set (off+k) y).take (off+k+1)=cells.take (off+k)++[y]:=by
   rw [List.take_set]
   apply List.ext_getElem?
   intro i
   by_cases h1:i<off+k
   ·rw [oJ (by simp;omega),List.getElem?_set_ne (by omega),uj,uj,if_pos (by omega),if_pos h1]
   ·by_cases h2:i=off+k
    ·subst h2
     rw [pC (by simp;omega),List.getElem?_set_self (by simp;omega)]
     simp [wu (by omega:off+k≤cells.length)]
    ·rw [jg (by simp;omega),jg (by simp;omega)]
  have e3:(cells.set (off+k) y).drop (off+k+1+ys.length)=cells.drop (off+k+(ys.length+1)):=by
   rw [List.drop_set,if_pos (by omega)]
   congr 1;omega
  rw [e2,e3]
  simp
theorem Aw {place:Nat→Option (Nat×Nat)} (fx:c8 G h B fr a.tmps w): ∀ {parts:List (Nat×Operand)} {cells cs:List ai} {C:Array Value},dL place fr.env cells parts=some cs→cg G cells C.toList→dG cells=true→
 ∃D:Array Value,Instr.fill place C (parts.map fun(x:Nat×Operand)=>(x.1,a.eval x.2))=some D∧cg G cs D.toList∧dG cs=true
 | [],_,_,C,hf,hv,hs=>by simp [dL] at hf;subst hf;exact⟨C,rfl,hv,hs⟩
 |(i,x)::rest,cells,cs,C,hf,hv,hs=>by
  simp only [dL,aF] at hf
  obtain⟨u,hu,⟨off,size⟩,hp,hf⟩:=hf
  replace hf:=bW hf
  obtain⟨hl,hf⟩:=hf
  have hl:=eU hl
  simp only [aF] at hf
  obtain⟨c1,hw,hf⟩:=hf
  obtain⟨hx,ht⟩:=fx.evc hu
  have hc:=hx.cells
  obtain⟨hle,hv1⟩:=al4 hw hv hc
  have hs1:=al5 hw hs (hx.scals_cells ht)
  have hlen:=hc.length
  rw [hl] at hlen
  simp only [sO] at hlen hle
  let C1:Array Value:=(a.eval x).cells.zipIdx.foldl (fun cs (x:Value×Nat)=>cs.setIfInBounds (off+x.2) x.1) C
  have hC1:C1.toList=C.toList.take off++((a.eval x).cells.toList++C.toList.drop (off+(a.eval x).cells.toList.length)):=by
   have:=Xw C.toList off (a.eval x).cells.toList 0 (by simp;omega) C rfl
   simp only [cY] at this
   rw [←this]
   simp only [C1]
   rw [←Array.foldl_toList,Array.toList_zipIdx]
  rw [←hC1] at hv1
  obtain⟨D,hD,h2,h3⟩:=Aw fx (place:=place) (parts:=rest) hf hv1 hs1
  refine⟨D,?_,h2,h3⟩
  simp only [List.map_cons,Instr.fill,hp]
  rw [if_neg]
  ·exact hD
  ·simp;omega
end
section
variable {P:Program} {mk:bj} {G:Gh} {s s':St} {B:Nat→Nat} {fr:Fr} {a:Act} {w:World} {o:Oper} {lo hi:Nat} {v:ai} {loc':Loc}
theorem Rg (w:World): ∀ {fs:List Field} {pl:List (Nat×Nat)},xJ P fs=some pl→
 ((fs.mapM fun f=>do pure (f.offset,←sizeOf f.type):Sem (List (Nat×Nat)))).run P w= .ok pl w
 | [],_,h=>by simp [xJ] at h;subst h;simp
 |f::fs,_,h=>by
  simp only [xJ,aF] at h
  obtain⟨n,hn,r,hr,h⟩:=h
  injection h with h;subst h
  simp only [List.mapM_cons,Sem.run_bind,gS hn,iH,Sem.run_pure,Rg w hr]
theorem aiR {t:TypeId} {parts:Array (Nat×Operand)} (ho:o.op= .build t parts) (wr:WR G s.heap w) (fx:c8 G s.heap B fr a.tmps w)
 (he:fY P t parts.toList fr.env=some v):fO P G s.heap w B fr.loc lo hi a o v fr.loc s.heap:=by
 simp only [fY,aF] at he
 obtain⟨z,hz,d,hd,he⟩:=he
 obtain⟨i,zv,hi,hzv,hov⟩:=x9 hz
 obtain⟨hzr,hzt⟩:=qV G hov
 split at he
 ·rename_i fields
  simp only [aF] at he
  obtain⟨pl,hpl,cs,hf,he⟩:=he
  injection he with he;subst he
  obtain⟨D,hD,hv,hs⟩:=Aw fx hf hzr.cells (hzr.scals_cells hzt)
  refine .pure wr fx (y:=.agg D) ?_ (LV.of_VR (by simpa using VR.agg hs hv))
  have hm:=Rg (P:=P) w hpl
  simp at hm
  have hD':Instr.fill (fun x=>pl[x]?) zv.cells (parts.toList.map fun(x:Nat×Operand)=>(x.1,a.eval x.2))=some D:=hD
  simp [execOp,ho,Instr.build,qd hi hzv,dp hd,Array.mapM_eq_mapM_toList,hm,hD']
 ·rename_i len e
  simp only [aF] at he
  obtain⟨n,hn,cs,hf,he⟩:=he
  injection he with he;subst he
  obtain⟨D,hD,hv,hs⟩:=Aw fx hf hzr.cells (hzr.scals_cells hzt)
  refine .pure wr fx (y:=.agg D) ?_ (LV.of_VR (by simpa using VR.agg hs hv))
  simp [execOp,ho,Instr.build,qd hi hzv,dp hd,gS hn,hD]
 ·cases he
theorem Ar {z:List ai} {zs:List Value} (hz:cg G z zs): ∀n:Nat, ∃R:List Value,cg G (gg z n) R∧R.length=n*zs.length∧ ∀i:Nat,i<n*zs.length→R[i]? =zs[i % zs.length]?
 |0=>⟨[],.nil,by simp,by simp⟩
 |n+1=>by
  obtain⟨R,h1,h2,h3⟩:=Ar hz n
  refine⟨zs++R,hz.append h1,by simp [h2,uq];omega,fun i hi=>?_⟩
  by_cases h:i<zs.length
  ·rw [oJ h,Nat.mod_eq_of_lt h]
  ·rw [pC (by omega)]
   have:i-zs.length<n*zs.length:=by rw [uq] at hi;omega
   rw [h3 _ this,Nat.mod_eq_sub_mod (by omega:i≥zs.length)]
theorem Au {z:List ai} (hz:dG z=true): ∀n:Nat,dG (gg z n)=true
 |0=>rfl
 |n+1=>by simp [gg,SA,hz,Au hz n]
theorem FV {zs:Array Value} {R:List Value} {n:Nat} (h1:R.length=n*zs.toList.length) (h2: ∀i:Nat,i<n*zs.toList.length→R[i]? =zs.toList[i % zs.toList.length]?):
 ((Array.range (n*zs.size)).map (fun i=>zs[i % zs.size]!))=⟨R⟩:=by
 apply kS
 simp only [Array.toList_map,Array.toList_range]
 apply List.ext_getElem?
 intro i
 simp only [sO] at h1 h2
 by_cases hi:i<n*zs.size
 ·rw [h2 i hi]
  have hpos:0<zs.size:=by
   rcases Nat.eq_zero_or_pos zs.size with h|h
   ·rw [h] at hi;omega
   ·exact h
  simp [hi,Nat.mod_lt i hpos]
 ·rw [jg (by simp;omega),jg (by omega)]
theorem uE {g:Bool} {sz:Nat} (hg:g=false→sz=1): ∀ {n:Nat} {cs xs:List ai},ie g sz n cs=some xs→dG cs=true→xs.length=n∧bO xs=cs∧ ∀x∈xs,x.cells.length=sz
 |0,[],_,h,_=>by simp [ie] at h;subst h;exact⟨rfl,rfl,by simp⟩
 |0,_::_,_,h,_=>by simp [ie] at h
 |n+1,cs,xs,h,hs=>by
  simp only [ie] at h
  replace h:=gr h
  rcases h with⟨g1,h⟩|⟨g1,h⟩
  ·simp only [aF] at h
   obtain⟨e,hc,r,hr,h⟩:=h
   injection h with h;subst h
   obtain⟨h1,h2⟩:=uK hc
   have hs':dG (cs.drop sz)=true:=by
    simp only [dG,mP] at hs ⊢
    exact fun x hx=>hs x (ul hx)
   obtain⟨a1,a2,a3⟩:=uE hg hr hs'
   refine⟨by simp [a1],?_,?_⟩
   ·simp only [bO,ai.cells,a2,h1,List.drop_zero,List.take_append_drop]
   ·intro x hx
    simp at hx
    rcases hx with rfl|hx
    ·exact h2
    ·exact a3 x hx
  ·split at h
   ·rename_i u rest
    simp only [aF] at h
    obtain⟨r,hr,h⟩:=h
    injection h with h;subst h
    simp only [dG,l8,cU] at hs
    obtain⟨a1,a2,a3⟩:=uE hg hr hs.2
    have hu:u.cells=[u]:=by cases u<;>first|rfl|(simp [ai.scal] at hs)
    refine⟨by simp [a1],by simp [bO,hu,a2],?_⟩
    intro x hx
    simp at hx
    rcases hx with rfl|hx
    ·rw [hu,hg g1];rfl
    ·exact a3 x hx
   ·cases h
def Gh.fixed (G:Gh) (w:World) (cs:List ai):Gh:=G.more w.heap.size (fun i=>cs[i]?) (none)
theorem Gh.fixed_ro (G:Gh) (w:World) (cs:List ai) (i:Nat):(G.fixed w cs).ro w.heap.size i=cs[i]? :=by simp [Gh.fixed,Gh.more]
theorem WR.fixed {h:bq bE} (x:WR G h w) {cs:List ai} {C:Array Value} (e:TypeId) (hv:cg G cs C.toList) (hs:dG cs=true):
 WR (G.fixed w cs) h (w.alloc (.cells C e))∧ ∀lo hi,dh G h w (G.fixed w cs) h (w.alloc (.cells C e)) lo hi:=
 x.alloc (.cells C e) (fun i=>cs[i]?) none (fun i v hi=>by
  obtain⟨h1,y,hy,h2⟩:=hv.rows hs i v hi
  exact⟨h1,C,e,rfl,y,hy,h2.mono (x.more_le _ _)⟩) (by simp)
theorem rH {e:TypeId} {E:EI} (h:tl P e=some E):eX P e=some E.n∧BD P e=some E.b∧w5 P e=some E.g∧0<E.n∧(E.g=false→E.n=1)∧
 ∃i zv,0<E.b∧P.info? e=some i∧i.zero=some zv∧ofValue zv=some E.z∧zv.cells.size=E.n∧i.bytes=E.b:=by
 simp only [tl,aF] at h
 obtain⟨n,hn,b,hb,g,hg,z,hz,h⟩:=h
 replace h:=bW h
 obtain⟨hc,h⟩:=h
 injection h with h;subst h
 simp only [cU,Bool.or_eq_true] at hc
 obtain⟨i,zv,hi,hzv,hov⟩:=x9 hz
 refine⟨hn,hb,hg,mi hc.1.1.1,?_,i,zv,mi hc.2,hi,hzv,hov,?_,?_⟩
 ·intro hg'
  rcases hc.1.2 with h|h
  ·have hg':g=false:=hg'
   rw [hg'] at h;cases h
  ·exact eU h
 ·have:=((qV ⟨fun _=>none,fun _ _=>none,fun _=>none⟩ hov).1.cells).length
  rw [eU hc.1.1.2] at this
  simpa using this.symm
 ·simp only [BD,aF] at hb
  obtain⟨i',hi',hb⟩:=hb
  rw [hi] at hi';injection hi' with hi';subst hi'
  injection hb
theorem xV {t:TypeId} {E:EI} (h:jc P t=some E): ∃e,P.underlying t=some (.slice e)∧tl P e=some E:=by
 simp only [jc,aF] at h
 obtain⟨d,hd,h⟩:=h
 split at h
 ·exact⟨_,hd,h⟩
 ·cases h
theorem aiS {hh:Nat} {t:TypeId} {len:Nat} {parts:Array (Nat×Operand)} (ho:o.op= .buildSlice t len parts) (wr:WR G s.heap w) (fx:c8 G s.heap B fr a.tmps w)
 (he:gR (dR P t len parts.toList (aY hh 2) fr.env s) fr.loc=some (v,loc',s')) (hfree: ∀n,s.next≤n→n<s'.next→G.at_ n=none):
 fO P G s.heap w B fr.loc s.next s'.next a o v loc' s'.heap:=by
 simp only [gR,aF] at he
 obtain⟨⟨v1,s1⟩,he,hq⟩:=he
 simp only [a7,bK] at hq
 obtain⟨rfl,rfl,rfl⟩:=hq
 simp only [dR,aF] at he
 obtain⟨E,hE,he⟩:=he
 obtain⟨e,hd,hE⟩:=xV hE
 obtain⟨hn,_,hg,hpos,hg1,i,zv,_,hi,hzv,hov,hzs,_⟩:=rH hE
 replace he:=bW he
 obtain⟨hle,he⟩:=he
 have hle:=iZ hle
 obtain⟨hzr,hzt⟩:=qV G hov
 simp only [aF] at he
 obtain⟨cs,hf,he⟩:=he
 obtain⟨R,hR,hRl,hRg⟩:=Ar hzr.cells len
 obtain⟨D,hD,hv,hs⟩:=Aw (C:=⟨R⟩) fx hf hR (Au (hzr.scals_cells hzt) len)
 have hrow:=FV (zs:=zv.cells) hRl hRg
 rw [hzs] at hrow
 have hlen:D.size=len*E.n:=by
  have h1:=hv.length
  have h2:cs.length=len*E.n:=by
   clear he hD hv hs
   have hl:(gg E.z.cells len).length=len*E.n:=by rw [hR.length,hRl];simp [hzs]
   revert hf
   generalize gg E.z.cells len=c0 at hl
   generalize parts.toList=ps
   intro hf
   induction ps generalizing c0 with
   |nil=>simp [dL] at hf;subst hf;exact hl
   |cons p ps ih=>
    obtain⟨k,x⟩:=p
    simp only [dL,aF] at hf
    obtain⟨u,hu,⟨off,size⟩,hp,hf⟩:=hf
    replace hf:=bW hf
    obtain⟨_,hf⟩:=hf
    simp only [aF] at hf
    obtain⟨c1,hw,hf⟩:=hf
    exact ih c1 (by rw [(TD hw).2.1];exact hl) hf
  simp at h1;omega
 have hrun:(execOp a.eval o).run P w= .ok (.value (.slice (some ⟨w.heap.size,0,none⟩) len len)) (w.alloc (.cells D e)):=by
  have h0: ¬len*E.n>2 ^ 24:=by omega
  by_cases hz:len*E.n=0
  ·have hR0:R=[]:=by
    have:R.length=0:=by rw [hRl,sO,hzs];exact hz
    exact List.length_eq_zero_iff.1 this
   subst hR0
   have hD':Instr.fill (fun i=>some (i*E.n,E.n)) #[] (parts.toList.map fun(x:Nat×Operand)=>(x.1,a.eval x.2))=some D:=hD
   have hm0: ∀(f:Nat→Value),Array.map f (Array.range 0)= #[]:=fun f=>by apply kS;simp
   simp [execOp,ho,Instr.buildSlice,dp hd,gS hn,hz,hm0,hD',newRow]
  ·have hD':Instr.fill (fun i=>some (i*E.n,E.n)) ⟨R⟩ (parts.toList.map fun(x:Nat×Operand)=>(x.1,a.eval x.2))=some D:=hD
   simp [execOp,ho,Instr.buildSlice,dp hd,gS hn,hz,qd hi hzv,hzs,hrow,hD',newRow,h0]
 replace he:=gr he
 rcases he with⟨_,he⟩|⟨_,he⟩
 ·simp only [a7,bK] at he
  obtain⟨rfl,rfl⟩:=he
  have hn0:G.at_ s.next=none:=hfree s.next (bv _) (by simp [St.new])
  obtain⟨h1,h2⟩:=wr.boxed hn0 D e cs (hv.rows hs)
  refine .heap fx hrun (.inl rfl) h1 h2 (LV.of_VR ?_)
  exact .arr (Gh.boxed_at G w s.next D.size) rfl hpos (bv _) (bv _) (.inr ⟨rfl,rfl⟩) (Gh.boxed_dim G w s.next D.size) (by simp [hlen])
 ·simp only [aF] at he
  obtain⟨xs,hx,he⟩:=he
  simp only [a7,bK] at he
  obtain⟨rfl,rfl⟩:=he
  obtain⟨c1,c2,c3⟩:=uE hg1 hx hs
  obtain⟨h1,h2⟩:=wr.fixed e hv hs
  refine .heap fx hrun (.inl rfl) h1 (h2 _ _) (LV.of_VR ?_)
  subst c1
  exact .list (.inr rfl) hpos c3 (bv _) (fun i x hx=>by rw [c2] at hx;simpa [Gh.fixed_ro] using hx) rfl
theorem ai5 {t:TypeId} {r:Option Operand} (ho:o.op= .makeMap t r) (wr:WR G s.heap w) (fx:c8 G s.heap B fr a.tmps w)
 (he:gR (lX P t fr.env r s) fr.loc=some (v,loc',s')) (hfree: ∀n,s.next≤n→n<s'.next→G.at_ n=none):
 fO P G s.heap w B fr.loc s.next s'.next a o v loc' s'.heap:=by
 simp only [gR,aF] at he
 obtain⟨⟨v1,s1⟩,he,hq⟩:=he
 simp only [a7,bK] at hq
 obtain⟨rfl,rfl,rfl⟩:=hq
 have fin:v1= .map s.next→s1=s.new (.map [] 0)→(execOp a.eval o).run P w= .ok (.value (.map (some w.heap.size))) (w.alloc (.map #[] 0))→fO P G s.heap w B fr.loc s.next s1.next a o v1 fr.loc s1.heap:=by
  rintro rfl rfl hrun
  have hn0:G.at_ s.next=none:=hfree s.next (bv _) (by simp [St.new])
  obtain⟨h1,h2⟩:=wr.fresh (.map #[] 0)
  have hno: ¬ez G s.heap w.heap.size:=fun ho=>fL _ (wr.owned_lt ho)
  have h3:=h1.named (n:=s.next) (a:=⟨w.heap.size,0,none⟩) (o:=.map [] 0) hn0 (by simp) rfl hno
   ⟨#[],by rw [mf,if_pos rfl],.nil⟩
   (fun i v hv=>absurd (wr.ro_lt hv) (fL _))
  have e2:=h2 s.next (s.next+1)
  refine .heap fx hrun (.inl rfl) h3 ⟨e2.le.trans (Gh.name_le _ _ hn0),e2.size,e2.keep,?_,?_,?_,e2.quiet⟩ (LV.of_VR (.map (a:=⟨w.heap.size,0,none⟩) (by simp [Gh.name])))
  ·intro b hb ho
   rcases vF ho with rfl|ho
   ·exact absurd hb (fL _)
   ·exact ho
  ·intro m a' hm h0
   simp only [Gh.name] at hm
   by_cases em:m=s.next
   ·subst em;exact⟨bv _,by simp [St.new]⟩
   ·rw [if_neg em,h0] at hm;cases hm
  ·intro b o' u hb hv h0
   exact e2.cells b o' u hb hv h0
 unfold lX at he
 rcases r with _|x
 ·simp only [a7,bK] at he
  exact fin he.1.symm he.2.symm (by simp [execOp,ho,Instr.makeMap])
 ·simp only [aF] at he
  obtain⟨d,hd,he⟩:=he
  split at he
  ·simp only [aF] at he
   obtain⟨u,hu,he⟩:=he
   have hl:=fx.ev hu
   split at he
   ·simp only [a7,bK] at he
    have hl:VR G _ _:=hl
    generalize hx:a.eval x=X at hl
    cases hl
    exact fin he.1.symm he.2.symm (by simp [execOp,ho,hx,Instr.makeMap,dp hd,asInt,asIntOf])
   ·cases he
  ·cases he
end
end Go.Ag
