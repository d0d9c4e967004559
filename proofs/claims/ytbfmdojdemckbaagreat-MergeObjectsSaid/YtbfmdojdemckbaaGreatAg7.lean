/- The evaluator is sound. -/
import Derived.Test.YtbfmdojdemckbaaGreatAg6
import Derived.OrdersIn
import Derived.LoopNIn
import Derived.RangeFuncRecord
import Derived.Scope
namespace Go.Ag
open _root_.Array renaming ext'→kS,getD_eq_getD_getElem?→kT,getElem?_eq_getElem→l7,getElem?_replicate→F4,length_toList→sO
open _root_.Bool renaming false_eq_true→qj
open _root_.List renaming getElem?_eq_getElem→jf,getElem?_toArray→A3,size_toArray→un
open _root_.Nat renaming le_of_lt→sW,le_refl→bv,le_trans→fX,lt_of_lt_of_le→gn,zero_add→aM,zero_le→ix
open _root_.Option renaming bind_eq_some_iff→aF,bind_some→ak,getD_some→nM
open _root_.Option.some renaming injEq→a7
open _root_.Prod.mk renaming injEq→bK
open Result renaming andThen_ok→iH
def kG:Option Nat→Fence
 |none=>Fence.wide
 |some l=>Fence.wide.inRound l
theorem tt (ro:Option Nat) (f:FuncId):(kG ro).fn f:=by cases ro<;>exact trivial
theorem W3 (ro:Option Nat):(kG ro).depth=none:=by cases ro<;>rfl
theorem W4 (ro:Option Nat) (l:Nat):(kG ro).inRound l=kG (some l):=by cases ro<;>rfl
theorem Cc (ro:Option Nat) (n:Nat):(kG ro).depth.isSome=true→1≤n:=by rw [W3];intro h;cases h
theorem Hw {ro:Option Nat} {P:Program} {f:FuncId} {args:Array Value} {w:World} {R:Ending→World→Prop}:CallsIn (kG ro) 0 P f args w R↔Calls P f args w R:=by
 cases ro with
 |none=>exact callsIn_wide
 |some l=>exact callsIn_wide (n:=0)
def mV:Obj→Prop
 | .loop _=>True
 | .deferred _=>True
 |_=>False
theorem mV.warm {o:Obj} (h:mV o):Obj.warm o:=by cases o<;>first|exact trivial|exact h.elim
section
variable {G:Gh} {h:bq bE} {w:World} {b:Nat} {o ob:Obj}
theorem Bw (hb:w.heap[b]? =some o) (ha:mV o) {C:Array Value} {e:TypeId} {z:Nat×Nat}:w.heap[b]? ≠some (.cells C e z):=by
 rw [hb];intro h;injection h with h;subst h;exact ha.elim
theorem UF (hb:w.heap[b]? =some o) (ha:mV o) (i:Nat):w.cell? ⟨b,i,none⟩=none:=by
 cases o<;>first
  |exact ha.elim
  |simp [World.cell?,hb]
theorem WR.aside_ro (x:WR G h w) (hb:w.heap[b]? =some o) (ha:mV o) (i:Nat):G.ro b i=none:=by
 cases e:G.ro b i with
 |none=>rfl
 |some v=>
  obtain⟨_,y,hy,_⟩:=x.ro b i v e
  rw [UF hb ha] at hy;cases hy
theorem WR.aside (x:WR G h w) (hb:w.heap[b]? =some o) (ha:mV o) (hno: ¬ez G h b):WR G h (dK w b ob) where
 obj n o' hn:=by
  obtain⟨a,h1,h2,h3⟩:=x.obj n o' hn
  refine⟨a,h1,h2,h3.of_block ?_⟩
  rw [iO w b _ ob (gH hb),if_neg]
  intro e
  exact hno ⟨n,a,by rw [hn];simp,h1,e⟩
 sep:=x.sep
 ro c i v hv:=by
  have hc:c≠b:=fun e=>by subst e;rw [x.aside_ro hb ha] at hv;cases hv
  obtain⟨h1,y,h2,h3⟩:=x.ro c i v hv
  refine⟨h1,y,?_,h3⟩
  rw [←h2];simp [World.cell?,iO w b _ ob (gH hb),hc]
 apart:=x.apart
 dim c d hd:=by
  have hc:c≠b:=fun e=>by
   subst e
   obtain⟨C,e,h1,_⟩:=x.dim c d hd
   exact Bw hb ha h1
  rw [iO w b _ ob (gH hb),if_neg hc];exact x.dim c d hd
 below n a ha':=by rw [vM];exact x.below n a ha'
theorem mY.aside {B:Nat→Nat} {loc:Loc} (x:mY G h B loc w) (hb:w.heap[b]? =some o) (ha:mV o):mY G h B loc (dK w b ob) where
 cells t cs ht:=by
  obtain⟨C,e,h1,h2⟩:=x.cells t cs ht
  refine⟨C,e,?_,h2⟩
  rw [iO w b _ ob (gH hb),if_neg]
  ·exact h1
  ·intro e';rw [e'] at h1;exact Bw hb ha h1
 free:=x.free
 ro:=x.ro
 inj:=x.inj
theorem c8.aside {B:Nat→Nat} {fr:Fr} {tmps:Array Value} (x:c8 G h B fr tmps w) (hb:w.heap[b]? =some o) (ha:mV o):c8 G h B fr tmps (dK w b ob):=
 ⟨x.size,x.env,x.locs.aside hb ha⟩
theorem c8.not_LB {B:Nat→Nat} {fr:Fr} {tmps:Array Value} (x:c8 G h B fr tmps w) (hb:w.heap[b]? =some o) (ha:mV o): ¬LB B fr.loc b:=by
 rintro⟨t,cs,h1,rfl⟩
 obtain⟨C,e,h2,_⟩:=x.locs.cells t cs h1
 exact Bw hb ha h2
theorem WR.not_deferred (x:WR G h w) {d:Option (List Deferred)} (hb:w.heap[b]? =some (.deferred d)): ¬ez G h b:=by
 rintro⟨n,a,h1,h2,rfl⟩
 cases e:h.get n with
 |none=>exact h1 e
 |some o=>
  obtain⟨a',h3,_,h4⟩:=x.obj n o e
  rw [h2] at h3;injection h3 with h3;subst h3
  cases o with
  |cells cs=>obtain⟨C,e,h5,_⟩:=h4;rw [hb] at h5;cases h5
  |tok=>obtain⟨C,e,h5⟩:=h4;rw [hb] at h5;cases h5
  |map es c=>obtain⟨ES,h5,_⟩:=h4;rw [hb] at h5;cases h5
  |iter m a b c=>obtain⟨_,m',h5,_⟩:=h4;rw [hb] at h5;cases h5
  |loop _ _ _ _ _ _ _=>obtain⟨r,h5,_⟩:=h4;rw [hb] at h5;cases h5
theorem WR.back (x:WR G h w) {n:Nat} {a:Addr} {lo:bE} (ha:G.at_ n=some a) (hs:a.spot=none) (hno: ¬ez G h a.block) (hr:nP G w a lo) (hro: ∀i,G.ro a.block i=none):WR G (h.set n (some lo)) w:=by
 refine⟨?_,?_,x.ro,?_,x.dim,x.below⟩
 ·intro m o' hm
  rw [bq.get_set] at hm
  by_cases e:m=n
  ·rw [if_pos e] at hm
   injection hm with hm;subst hm;subst e
   exact⟨a,ha,hs,hr⟩
  ·rw [if_neg e] at hm;exact x.obj m o' hm
 ·intro m k c d hm hk hc hd he
  rw [bq.get_set] at hm hk
  by_cases e1:m=n<;>by_cases e2:k=n
  ·rw [e1,e2]
  ·rw [e1,ha] at hc
   rw [if_neg e2] at hk
   injection hc with hc;subst hc
   exact absurd ⟨k,d,hk,hd,he.symm⟩ hno
  ·rw [e2,ha] at hd
   rw [if_neg e1] at hm
   injection hd with hd;subst hd
   exact absurd ⟨m,c,hm,hc,he⟩ hno
  ·rw [if_neg e1] at hm
   rw [if_neg e2] at hk
   exact x.sep m k c d hm hk hc hd he
 ·intro m ob b i v hm hb hv
  rw [bq.get_set] at hm
  by_cases e:m=n
  ·subst e;rw [ha] at hb;injection hb with hb;subst hb
   rw [hro] at hv;cases hv
  ·rw [if_neg e] at hm
   exact x.apart m ob b i v hm hb hv
theorem ajz {n c:Nat} {a:Addr} {lo:bE} (ha:G.at_ n=some a) (h':ez G (h.set n (some lo)) c):c=a.block∨ez G h c:=by
 obtain⟨m,d,h1,h2,h3⟩:=h'
 rw [bq.get_set] at h1
 by_cases e:m=n
 ·subst e;rw [ha] at h2;injection h2 with h2;subst h2;exact .inl h3.symm
 ·rw [if_neg e] at h1;exact .inr ⟨m,d,h1,h2,h3⟩
variable {G0:Gh} {h0:bq bE} {w0:World} {lo hi:Nat} {L:Nat→Prop}
theorem iI.aside (x:iI G0 h0 w0 G h w lo hi L) (hb:w.heap[b]? =some o) (ha:mV o) (ha':mV ob) (hk:b<w0.heap.size→ez G0 h0 b):iI G0 h0 w0 G h (dK w b ob) lo hi L where
 le:=x.le
 size:=by rw [vM];exact x.size
 keep c hc ho hl:=by
  rw [iO w b c ob (gH hb),if_neg]
  ·exact x.keep c hc ho hl
  ·intro e;subst e;exact ho (hk hc)
 owns:=x.owns
 names:=x.names
 cells:=x.cells
 quiet:=x.quiet.trans (xL w hb ha.warm ha'.warm)
theorem iI.toExt (x:iI G0 h0 w0 G h w lo hi L) (hL: ∀b, ¬L b):dh G0 h0 w0 G h w lo hi:=
 ⟨x.le,x.size,fun b hb ho=>x.keep b hb ho (hL b),x.owns,x.names,x.cells,x.quiet⟩
theorem dh.aside (x:dh G0 h0 w0 G h w lo hi) (hb:w.heap[b]? =some o) (ha:mV o) (ha':mV ob) (hk:b<w0.heap.size→ez G0 h0 b):dh G0 h0 w0 G h (dK w b ob) lo hi:=
 (iI.aside (x.toL fun _=>False) hb ha ha' hk).toExt fun _ h=>h
end
def qR (r:Nat):Deferred:= {target:=.collected r,args:= #[] }
structure rq (lo:Nat) (w:World) (rs:List Nat):Prop where
 nodup:rs.Nodup
 at_: ∀r∈rs,lo≤r∧w.heap[r]? =some (.deferred (some []))
theorem rq.nil (lo:Nat) (w:World):rq lo w []:=⟨.nil,fun _ h=>by cases h⟩
theorem Fc (w:World) (b:Nat) (o:Obj):w.putObj b o=dK w b o:=rfl
theorem SJ {G:Gh}: ∀ {ps:List Tmp} {args:List ai} {xs:List Value} {env env':bc} {size:Nat} {tmps:Array Value},xU ps args env=some env'→cg G args xs→
 (∀t∈ps,t<size)→tmps.size=size→(∀t,VR G (aq env t) (tmps.getD t undef))→
 xs.length=ps.length∧((ps.zip xs).foldl (fun tmps (t,a)=>tmps.setIfInBounds t a) tmps).size=size∧ ∀t,VR G (aq env' t) (((ps.zip xs).foldl (fun tmps (t,a)=>tmps.setIfInBounds t a) tmps).getD t undef)
 | [],[],xs,env,env',size,tmps,he,hv,hp,hs,ht=>by
   cases hv
   simp only [xU,a7] at he
   subst he
   exact⟨rfl,hs,ht⟩
 | [],_::_,_,_,_,_,_,he,_,_,_,_=>by cases he
 |_::_,[],_,_,_,_,_,he,_,_,_,_=>by cases he
 |p::ps,v::args,xs,env,env',size,tmps,he,hv,hp,hs,ht=>by
  cases hv with
  |cons a b=>
   rename_i x xs
   have hpl:p<tmps.size:=by rw [hs];exact hp p (by simp)
   have:=SJ (tmps:=tmps.setIfInBounds p x) (ps:=ps) he b (fun t h=>hp t (by simp [h])) (by simpa using hs) (fun t=>by
    rw [Ag.getD_set _ _ _ _ hpl]
    unfold aq
    rw [bq.get_set]
    by_cases e:t=p
    ·rw [if_pos e,if_pos e];exact a
    ·rw [if_neg e,if_neg e];exact ht t)
   exact⟨by simp [this.1],this.2⟩
def jK (k:Nat) (ch ch':Nat→Nat):Prop:= ∀i,i<k→ch' i=ch i
theorem jK.refl (k:Nat) (ch:Nat→Nat):jK k ch ch:=fun _ _=>rfl
theorem jK.trans {k k':Nat} {ch ch' ch'':Nat→Nat} (h:jK k ch ch') (h':jK k' ch' ch'') (hk:k≤k'):jK k ch ch'':=fun i hi=>(h' i (gn hi hk)).trans (h i hi)
def jT (Q:ck) (ch:Nat→Nat):Prop:= ∀i,ch i<Q.kmax i
def yj (s:St):Prop:= ∀n,s.next≤n→s.heap.get n=none
theorem yj.goes {mk:bj} {s s':St} (h:yj s) (g:fN mk s s'):yj s':=fun n hn=>by
 have h0:=h n (fX g.next hn)
 rw [g.frame n ?_]
 ·exact h0
 ·rintro(⟨_,h'⟩|h')
  ·exact h' h0
  ·omega
def kb (P:Program) (f:FuncId) (args:Array Value) (w:World) (R:Value→World→Prop):Prop:=
 (∃y w',(callFunc f args).run P w= .ok (.value y) w'∧R y w')∨
 ((callFunc f args).run P w= .ok (.enter f args) w∧Calls P f args w (fun e w'=> ∃y,e= .returned y∧R y w'))
theorem kb.mono {P:Program} {f:FuncId} {args:Array Value} {w:World} {R R':Value→World→Prop} (h:kb P f args w R) (hr: ∀y w',R y w'→R' y w'):kb P f args w R':=by
 rcases h with⟨y,w',h1,h2⟩|⟨h1,h2⟩
 ·exact .inl ⟨y,w',h1,hr y w' h2⟩
 ·exact .inr ⟨h1,h2.mono fun e w' ⟨y,he,h3⟩=>⟨y,he,hr y w' h3⟩⟩
def TV (Q:ck):Prop:=
 ∀f sp,Q.specH f=some sp→ ∀args v (G:Gh) (h:bq bE) (w:World) (xs:List Value),WR G h w→cg G args xs→mF h.get (sp args)=some v→
  kb Q.P f ⟨xs⟩ w fun y w'=> ∃G',WR G' h w'∧dh G h w G' h w' 0 0∧VR G' v y
def TX (Q:ck):Prop:=
 ∀f sp,Q.specW f=some sp→ ∀args (G:Gh) (h:bq bE) (w:World) (xs:List Value),WR G h w→cg G args xs→
  (sp args=some none→kb Q.P f ⟨xs⟩ w fun y w'=> ∃G',WR G' h w'∧dh G h w G' h w' 0 0∧VR G' (.tup []) y)∧
  ∀n g cs cs',sp args=some (some (n,g))→h.get n=some (.cells cs)→g cs=some cs'→
   kb Q.P f ⟨xs⟩ w fun y w'=> ∃G',WR G' (h.set n (some (.cells cs'))) w'∧dh G h w G' (h.set n (some (.cells cs'))) w' 0 0∧VR G' (.tup []) y
def TW (Q:ck):Prop:=
 ∀f sp,Q.spec f=some sp→ ∀args v,sp args=some v→ ∀(G:Gh) (h:bq bE) (w:World) (xs:List Value),WR G h w→cg G args xs→
  kb Q.P f ⟨xs⟩ w fun y w'=> ∃G',WR G' h w'∧dh G h w G' h w' 0 0∧VR G' v y
structure kd (mk:bj) (A:Nat→Prop) (G:Gh) (s s2:St) (w:World):Prop where
 fresh:yj s
 sees:ip mk s s2
 wr:WR G s2.heap w
 free: ∀m,s.next≤m→A m→G.at_ m=none
structure yg (Q:ck) (n:Nat) (f:FuncId) (args:List ai) (mk:bj) (ch:Nat→Nat) (G:Gh) (s s2:St) (w:World) (y:Value) (w':World)
 (ch':Nat→Nat) (v:ai) (s' s2':St) (G':Gh):Prop where
 agree:jK s.ci ch ch'
 inb:jT Q ch'
 eval:(cG (Q.at ch') n).call f args mk s=some (v,s')
 same:gq mk s s' s2 s2'
 wr:WR G' s2'.heap w'
 ext:dh G s2.heap w G' s2'.heap w' s.next s'.next
 val:VR G' v y
def rm (Q:ck) (n:Nat):Prop:=
 ∀(f:FuncId) (args:List ai) (mk:bj) (s s2:St) (G:Gh) (w:World) (xs:List Value) (ch:Nat→Nat) (A:Nat→Prop),
  kd mk A G s s2 w→cg G args xs→jT Q ch→
  (∀ch',jK s.ci ch ch'→jT Q ch'→ ∃v s',(cG (Q.at ch') n).call f args mk s=some (v,s')∧ ∀m,s.next≤m→m<s'.next→A m)→
  kb Q.P f ⟨xs⟩ w fun y w'=> ∃ch' v s' s2' G',yg Q n f args mk ch G s s2 w y w' ch' v s' s2' G'
section
variable {G G' G'':Gh} {h h' h'':bq bE} {w w' w'':World} {lo mid hi:Nat} {L L':Nat→Prop}
theorem iI.trans (x:iI G h w G' h' w' lo mid L) (y:iI G' h' w' G'' h'' w'' mid hi L') (hL: ∀b,L' b→L b∨w.heap.size≤b) (l1:lo≤mid) (l2:mid≤hi):
 iI G h w G'' h'' w'' lo hi L where
 le:=x.le.trans y.le
 size:=fX x.size y.size
 keep b hb ho hl:=(y.keep b (gn hb x.size) (fun o=>ho (x.owns b hb o)) (fun l=>(hL b l).elim hl (fun h=>by omega))).trans (x.keep b hb ho hl)
 owns b hb o:=x.owns b hb (y.owns b (gn hb x.size) o)
 names n a h h0:=by
  cases e:G'.at_ n with
  |none=>have:=y.names n a h e;omega
  |some b=>have:=x.names n b e h0;omega
 cells b o v hb h h0:=by
  cases e:G'.ro b o with
  |none=>exact x.owns b hb (y.cells b o v (gn hb x.size) h e)
  |some u=>exact x.cells b o u hb e h0
 quiet:=x.quiet.trans y.quiet
theorem iI.widen {lo' hi':Nat} (x:iI G h w G' h' w' lo hi L) (h1:lo'≤lo) (h2:hi≤hi'):iI G h w G' h' w' lo' hi' L:=
 ⟨x.le,x.size,x.keep,x.owns,fun n a e e0=>by have:=x.names n a e e0;omega,x.cells,x.quiet⟩
end
theorem He {G' G'':Gh} {h' h'':bq bE} {w' w'':World} {B':Nat→Nat} {fr':Fr} {tmps:Array Value} {d d' d'':List Deferred} {lo l1 l2:Nat} (wr:WR G' h' w') (fx:c8 G' h' B' fr' tmps w')
 (x: ∃rs,d'=rs.map qR++d∧rq lo w' rs) (hlo:lo≤w'.heap.size) (ex:iI G' h' w' G'' h'' w'' l1 l2 (LB B' fr'.loc)) (y: ∃rs,d''=rs.map qR++d'∧rq w'.heap.size w'' rs):
 ∃rs,d''=rs.map qR++d∧rq lo w'' rs:=by
 obtain⟨rx,x1,x2⟩:=x
 obtain⟨ry,y1,y2⟩:=y
 have keep: ∀r∈rx,w''.heap[r]? =some (.deferred (some [])):=fun r hr=>by
  have h1:=(x2.at_ r hr).2
  exact(ex.keep r (gH h1) (wr.not_deferred h1) (fx.not_LB h1 trivial)).trans h1
 refine⟨ry++rx,by rw [y1,x1];simp,⟨?_,?_⟩⟩
 ·rw [List.nodup_append]
  refine⟨y2.nodup,x2.nodup,fun r hr q hq e=>?_⟩
  subst e
  have h1:=(y2.at_ r hr).1
  have h2:=gH (x2.at_ r hq).2
  omega
 ·intro r hr
  rcases List.mem_append.1 hr with hr|hr
  ·exact⟨fX hlo (y2.at_ r hr).1,(y2.at_ r hr).2⟩
  ·exact⟨(x2.at_ r hr).1,keep r hr⟩
structure mU (mk:bj) (fr:Fr) (G:Gh) (B:Nat→Nat) (s s2:St) (a:Act) (w:World) (fr':Fr) (G':Gh) (B':Nat→Nat) (s' s2':St) (a':Act) (w':World):Prop where
 goes:fN mk s s'
 same:gq mk s s' s2 s2'
 wr:WR G' s2'.heap w'
 ext:iI G s2.heap w G' s2'.heap w' s.next s'.next (LB B fr.loc)
 fx:c8 G' s2'.heap B' fr' a'.tmps w'
 boxes: ∀b,LB B' fr'.loc b→LB B fr.loc b∨w.heap.size≤b
 defers: ∃rs,a'.defers=rs.map qR++a.defers∧rq w.heap.size w' rs
section
variable {mk:bj} {A:Nat→Prop} {fr fr' fr'':Fr} {G G' G'':Gh} {B B' B'':Nat→Nat} {s s' s'' s2 s2' s2'':St} {a a' a'':Act} {w w' w'':World}
theorem mU.refl (p:kd mk A G s s2 w) (fx:c8 G s2.heap B fr a.tmps w):mU mk fr G B s s2 a w fr G B s s2 a w where
 goes:=.refl _ _
 same:=.refl p.sees
 wr:=p.wr
 ext:=dh.refl.toL _
 fx:=fx
 boxes _ h:=.inl h
 defers:=⟨[],rfl,.nil _ _⟩
theorem mU.trans (x:mU mk fr G B s s2 a w fr' G' B' s' s2' a' w') (y:mU mk fr' G' B' s' s2' a' w' fr'' G'' B'' s'' s2'' a'' w''):
 mU mk fr G B s s2 a w fr'' G'' B'' s'' s2'' a'' w'' where
 goes:=x.goes.trans y.goes
 same:=.trans x.goes y.goes x.same y.same
 wr:=y.wr
 ext:=x.ext.trans y.ext x.boxes x.goes.next y.goes.next
 fx:=y.fx
 boxes b h:=by
  rcases y.boxes b h with h|h
  ·exact x.boxes b h
  ·exact .inr (fX x.ext.size h)
 defers:=He x.wr x.fx x.defers x.ext.size y.ext y.defers
theorem kd.after (p:kd mk A G s s2 w) (x:mU mk fr G B s s2 a w fr' G' B' s' s2' a' w'):kd mk A G' s' s2' w' where
 fresh:=p.fresh.goes x.goes
 sees:=x.same.sees p.sees x.goes
 wr:=x.wr
 free m hm hA:=by
  cases e:G'.at_ m with
  |none=>rfl
  |some ad=>
   have h0:=p.free m (fX x.goes.next hm) hA
   have:=x.ext.names m ad e h0
   omega
theorem Bs (a:Act) (d:Option Tmp) (v:Value):(a.put d v).defers=a.defers:=by
 cases d<;>rfl
end
section
variable {α β:Type}
def oO (Q:ck) (A:Nat→Prop) (ch:Nat→Nat) (s:St) (E:(Nat→Nat)→Option (α×Fr×St)):Prop:=
 ∀ch',jK s.ci ch ch'→jT Q ch'→ ∃x fr' s',E ch'=some (x,fr',s')∧ ∀m,s.next≤m→m<s'.next→A m
def pG (Q:ck) (mk:bj) (ch:Nat→Nat) (fr:Fr) (G:Gh) (B:Nat→Nat) (s s2:St) (a:Act) (w:World) (E:(Nat→Nat)→Option (α×Fr×St)) (x:α) (a':Act) (w':World):Prop:=
 ∃ch' fr' s' s2' G' B',jK s.ci ch ch'∧jT Q ch'∧E ch'=some (x,fr',s')∧mU mk fr G B s s2 a w fr' G' B' s' s2' a' w'
def Bb (E:(Nat→Nat)→Option (α×Fr×St)):Prop:= ∀ch x fr' s',E ch=some (x,fr',s')→ ∀ch',jK s'.ci ch ch'→E ch'=some (x,fr',s')
variable {Q:ck} {A:Nat→Prop} {ch ch1:Nat→Nat} {s s1:St} {E1:(Nat→Nat)→Option (α×Fr×St)} {E2:α→Fr→St→(Nat→Nat)→Option (β×Fr×St)}
theorem oO.first (hs:oO Q A ch s (fun c=>(E1 c).bind fun r=>E2 r.1 r.2.1 r.2.2 c)) (g: ∀x fr' s' c y fr'' s'',E2 x fr' s' c=some (y,fr'',s'')→s'.next≤s''.next):oO Q A ch s E1:=by
 intro ch' h1 h2
 obtain⟨x,fr',s',h3,h4⟩:=hs ch' h1 h2
 simp only [aF] at h3
 obtain⟨⟨x1,fr1,s1⟩,h5,h6⟩:=h3
 exact⟨x1,fr1,s1,h5,fun m hm hm'=>h4 m hm (gn hm' (g _ _ _ _ _ _ _ h6))⟩
theorem oO.second (hs:oO Q A ch s (fun c=>(E1 c).bind fun r=>E2 r.1 r.2.1 r.2.2 c)) (ho:Bb E1) {x:α} {fr1:Fr} (hag:jK s.ci ch ch1) (e1:E1 ch1=some (x,fr1,s1)) (hci:s.ci≤s1.ci) (hnx:s.next≤s1.next):
 oO Q A ch1 s1 (E2 x fr1 s1):=by
 intro ch' h1 h2
 obtain⟨y,fr',s',h3,h4⟩:=hs ch' (hag.trans h1 hci) h2
 have:=ho ch1 x fr1 s1 e1 ch' h1
 simp only [this,ak] at h3
 exact⟨y,fr',s',h3,fun m hm=>h4 m (fX hnx hm)⟩
theorem pG.second {mk:bj} {fr fr1:Fr} {G G1:Gh} {B B1:Nat→Nat} {s2 s21:St} {a a1 a':Act} {w w1 w':World} {x:α} {y:β} (ho:Bb E1) (hag:jK s.ci ch ch1)
 (e1:E1 ch1=some (x,fr1,s1)) (af:mU mk fr G B s s2 a w fr1 G1 B1 s1 s21 a1 w1) (p:pG Q mk ch1 fr1 G1 B1 s1 s21 a1 w1 (E2 x fr1 s1) y a' w'):
 pG Q mk ch fr G B s s2 a w (fun c=>(E1 c).bind fun r=>E2 r.1 r.2.1 r.2.2 c) y a' w':=by
 obtain⟨ch',fr',s',s2',G',B',h1,h2,h3,h4⟩:=p
 refine⟨ch',fr',s',s2',G',B',hag.trans h1 af.goes.ci,h2,?_,af.trans h4⟩
 simp only [ho ch1 x fr1 s1 e1 ch' h1,ak]
 exact h3
end
def Ex.to:Ex→Exit
 | .normal=>.normal
 | .exit id=>.exit id
 | .ret=>.ret
noncomputable def jN (Q:ck) (n:Nat) (f:FuncId) (c:Code) (mk:bj) (fr:Fr) (s:St) (ch:Nat→Nat):Option (Ex×Fr×St):=(cG (Q.at ch) n).code f c mk fr s
def oM (Q:ck) (n:Nat):Prop:=
 ∀(ro:Option Nat) (f:FuncId) (c:Code) (mk:bj) (fr:Fr) (ch:Nat→Nat) (A:Nat→Prop) (G:Gh) (B:Nat→Nat) (s s2:St) (a:Act) (w:World),(ro≠none→eV c=true)→
  kd mk A G s s2 w→c8 G s2.heap B fr a.tmps w→jT Q ch→oO Q A ch s (jN Q n f c mk fr s)→
  ∀K:Exit→Act→World→Prop,(∀x a' w',pG Q mk ch fr G B s s2 a w (jN Q n f c mk fr s) x a' w'→K x.to a' w')→
   c.wpIn (kG ro) 0 Q.P K a w∧ ∀b,c= .loop b→Code.roundsIn (kG ro) 0 Q.P b K n a w
theorem BO (Q:ck) (n:Nat) (f:FuncId) (c:Code) (mk:bj) (fr:Fr) (s:St):Bb (jN Q n f c mk fr s):=
 fun ch x fr' s' h ch' hag=>(o0 Q n).code f c mk fr ch s x fr' s' h ch' hag
theorem Ha {Q:ck} {n:Nat} {f:FuncId} {c:Code} {mk:bj} {fr:Fr} {s:St} {ch:Nat→Nat} {x:Ex} {fr':Fr} {s':St} (h:jN Q n f c mk fr s ch=some (x,fr',s')):fN mk s s':=
 ((j1 Q n).code f c mk fr ch s x fr' s' h).1
structure Gp (Q:ck) (n:Nat) (m:Nat) (args:List ai) (mk:bj) (ch:Nat→Nat) (G:Gh) (s s2:St) (w:World) (y:Value) (w':World)
 (ch':Nat→Nat) (v:ai) (s' s2':St) (G':Gh):Prop where
 agree:jK s.ci ch ch'
 inb:jT Q ch'
 eval:kR (cG (Q.at ch') n) m args mk s=some (v,s')
 same:gq mk s s' s2 s2'
 wr:WR G' s2'.heap w'
 ext:dh G s2.heap w G' s2'.heap w' s.next s'.next
 val:VR G' v y
theorem akh {Q:ck} {n:Nat} (hcs:oM Q n) (ro:Option Nat) {m:Nat} {args:List ai} {mk:bj} {s s2:St} {G:Gh} {w:World} {xs:List Value} {ch:Nat→Nat} {A:Nat→Prop}
 (p:kd mk A G s s2 w) (hv:cg G args xs) (hi:jT Q ch) {ad:Addr} (hm:G.at_ m=some ad)
 (hs: ∀ch',jK s.ci ch ch'→jT Q ch'→ ∃v s',kR (cG (Q.at ch') n) m args mk s=some (v,s')∧ ∀q,s.next≤q→q<s'.next→A q):
 ∃rec:Loop,w.heap[ad.block]? =some (.loop rec)∧xs.length=rec.params.size∧
  RoundIn (kG ro) 0 Q.P ad.block rec.fn ((rec.params.zip ⟨xs⟩).foldl (fun tmps (t,a)=>tmps.setIfInBounds t a) rec.tmps) rec.assign rec.body w
   (fun e w'=> ∃y,e= .returned y∧ ∃ch' v s' s2' G',Gp Q n m args mk ch G s s2 w y w' ch' v s' s2' G'):=by
 obtain⟨v0,s0,h0,_⟩:=hs ch (.refl _ _) hi
 simp only [kR,aF] at h0
 obtain⟨o,ho,⟨u,o',s3⟩,hin,_⟩:=h0
 unfold uc at hin
 split at hin
 case h_2=>cases hin
 rename_i f env size ps a b
 obtain⟨hps,hin⟩:=bW hin
 simp only [aF] at hin
 obtain⟨env',henv,_⟩:=hin
 have ho2:=(oX (p.sees.look ho)).2
 obtain⟨ad',hm',hsp,rec,hrec,hL⟩:=p.wr.obj m _ ho2
 rw [hm] at hm';injection hm' with hm';subst hm'
 have g1:=fN.put ho (mk:=mk) none
 have y1:ip mk (s.put m none) (s2.put m none):=(gq.put p.sees ho none).sees p.sees g1
 have wr1:WR G (s2.put m none).heap w:=p.wr.killed m
 have hno: ¬ez G (s2.put m none).heap ad.block:=zY p.wr (by rw [ho2];simp) hm
 have howned:ez G s2.heap ad.block:=⟨m,ad,by rw [ho2];simp,hm,rfl⟩
 have hl:=gH hrec
 have p1:kd mk A G (s.put m none) (s2.put m none) w:=⟨p.fresh.goes g1,y1,wr1,p.free⟩
 have hps': ∀t∈ps,t<size:=fun t ht=>mi (List.all_eq_true.1 hps t ht)
 obtain⟨hlen,hsz,henvR⟩:=SJ henv hv hps' hL.size hL.env
 have hfold:(rec.params.zip ⟨xs⟩).foldl (fun tmps (t,a)=>tmps.setIfInBounds t a) rec.tmps=(ps.zip xs).foldl (fun tmps (t,a)=>tmps.setIfInBounds t a) rec.tmps:=by
  rw [←hL.params]
  have:rec.params.zip (⟨xs⟩:Array Value)=(⟨rec.params.toList.zip xs⟩:Array (Tmp×Value)):=by apply kS;simp
  rw [this];simp
 have hparams:rec.params.size=ps.length:=by rw [←hL.params];simp
 have hnil: ∀t,Loc.get [] t (Loc.gen [] t)=none:=fun t=>rfl
 have fx1:c8 G (s2.put m none).heap (fun _=>0) ⟨env',size,[]⟩ ((ps.zip xs).foldl (fun tmps (t,a)=>tmps.setIfInBounds t a) rec.tmps) w:=
  ⟨hsz,fun t=>LV.of_VR (henvR t),⟨(fun t cs h=>by cases h),(fun t cs h=>by cases h),(fun t cs h=>by cases h),(fun t u cs ds h=>by cases h)⟩⟩
 have hev: ∀c,kR (cG (Q.at c) n) m args mk s=((jN Q n f a mk ⟨env',size,[]⟩ (s.put m none) c).bind (sN (cG (Q.at c) n) f env size ps a b mk)).bind fun x=>some (x.1,x.2.2.put m (some x.2.1)):=by
  intro c
  simp only [kR,ho,ak,uc,hps,cT,henv];rfl
 refine⟨rec,hrec,by rw [hlen,hparams],?_⟩
 rw [hfold,hL.assign,hL.body]
 refine roundIn_of_wpIn (tt ro _) ?_
 rw [W4]
 refine(hcs (some ad.block) f a mk ⟨env',size,[]⟩ ch A G (fun _=>0) (s.put m none) (s2.put m none) ⟨_,[]⟩ w (fun _=>hL.flatA) p1 fx1 hi ?_ _ ?_).1
 ·intro c h1 h2
  obtain⟨v,s',h3,h4⟩:=hs c h1 h2
  rw [hev] at h3
  simp only [aF,a7,bK] at h3
  obtain⟨⟨u,o',s5⟩,⟨⟨x,fr',s4⟩,h5,h6⟩,_,rfl⟩:=h3
  refine⟨x,fr',s4,h5,fun q hq hq'=>h4 q hq (gn hq' ?_)⟩
  cases x with
  |exit i=>cases h6
  |ret=>cases h6
  |normal=>
   simp only [sN,aF] at h6
   obtain⟨⟨x2,fr2,s6⟩,h7,h8⟩:=h6
   have e6:s6=s5:=by cases x2<;>(simp only [ub,a7,bK] at h8;exact h8.2.2)
   subst e6
   exact(Ha (Q:=Q) (n:=n) (ch:=c) h7).next
 ·rintro x a1 w1 ⟨c1,fr1,s3,s23,G1,B1,ag1,in1,e1,af1⟩
  obtain⟨v,s',h3,h4⟩:=hs c1 ag1 in1
  have h3':=h3
  rw [hev,e1] at h3
  simp only [ak,aF,a7,bK] at h3
  obtain⟨⟨u,o',s5⟩,h6,_,rfl⟩:=h3
  have hnL: ¬LB (fun _=>0) ([]:Loc) ad.block:=fun⟨t,cs,h,_⟩=>by cases h
  have keep1:w1.heap[ad.block]? =some (.loop rec):=(af1.ext.keep _ hl hno hnL).trans hrec
  have hno1: ¬ez G1 s23.heap ad.block:=fun o=>hno (af1.ext.owns _ hl o)
  cases x with
  |exit i=>cases h6
  |ret=>cases h6
  |normal=>
   refine⟨_,run_beginRound keep1 hL.state,?_⟩
   rw [Fc]
   have p1':=p1.after af1
   have p2:kd mk A G1 s3 s23 (dK w1 ad.block (.loop {rec with state:=.busy })):=⟨p1'.fresh,p1'.sees,p1'.wr.aside keep1 trivial hno1,p1'.free⟩
   have fx2:c8 G1 s23.heap B1 fr1 a1.tmps (dK w1 ad.block (.loop {rec with state:=.busy })):=af1.fx.aside keep1 trivial
   have hl1:=gH keep1
   have hb1:(dK w1 ad.block (.loop {rec with state:=.busy })).heap[ad.block]? =some (.loop {rec with state:=.busy }):=by rw [iO _ _ _ _ hl1,if_pos rfl]
   refine(hcs (some ad.block) f b mk fr1 c1 A G1 B1 s3 s23 a1 _ (fun _=>hL.flatB) p2 fx2 in1 ?_ _ ?_).1
   ·intro c h1 h2
    obtain⟨v,s',h7,h8⟩:=hs c (ag1.trans h1 af1.goes.ci) h2
    rw [hev,BO Q n f a mk _ _ c1 _ _ _ e1 c h1] at h7
    simp only [ak,aF,a7,bK,sN] at h7
    obtain⟨⟨u,o',s6⟩,⟨⟨x2,fr2,s7⟩,h9,h10⟩,_,rfl⟩:=h7
    refine⟨x2,fr2,s7,h9,fun q hq hq'=>h8 q (fX af1.goes.next hq) ?_⟩
    have e6:s7=s6:=by cases x2<;>(simp only [ub,a7,bK] at h10;exact h10.2.2)
    subst e6;exact hq'
   ·rintro x2 a2 w3 ⟨c2,fr2,s6,s26,G2,B2,ag2,in2,e2,af2⟩
    have keep2:w3.heap[ad.block]? =some (.loop {rec with state:=.busy }):=(af2.ext.keep _ (by rw [vM];exact hl1) hno1 (fx2.not_LB hb1 trivial)).trans hb1
    have hno2: ¬ez G2 s26.heap ad.block:=fun o=>hno1 (af2.ext.owns _ (by rw [vM];exact hl1) o)
    have hm2:G2.at_ m=some ad:=af2.ext.le.at_ _ _ (af1.ext.le.at_ _ _ hm)
    have fin: ∀(jump:Option Code) (pe:Option Ex),jump=pe.map Ex.code→ub f env size ps a b (x2,fr2,s6)=some (.bool jump.isNone,.loop f env size ps a b pe,s6)→
     ∃v w',(Instr.endRound ad.block jump).run Q.P w3= .ok v w'∧ ∃y,Ending.returned v= .returned y∧ ∃ch' v s' s2' G',Gp Q n m args mk ch G s s2 w y w' ch' v s' s2' G':=by
     intro jump pe hj hy2
     refine⟨_,_,run_endRound jump keep2,_,rfl,c2,.bool jump.isNone,s6.put m (some (.loop f env size ps a b pe)),s26.put m (some (.loop f env size ps a b pe)),G2,?_⟩
     rw [Fc]
     have hext:iI G s2.heap w G2 s26.heap w3 s.next s6.next (fun _=>False):=by
      have x0:dh G s2.heap w G (s2.put m none).heap w s.next s.next:=dh.killed
      have x1:iI G s2.heap w G1 s23.heap (dK w1 ad.block (.loop {rec with state:=.busy })) s.next s3.next (fun _=>False):=
       ((x0.toL fun _=>False).trans af1.ext (fun b h=>by obtain⟨t,cs,h,_⟩:=h;cases h) (bv _) af1.goes.next).aside keep1 trivial trivial (fun _=>howned)
      exact x1.trans af2.ext (fun b h=>by
       rcases af1.boxes b h with h|h
       ·obtain⟨t,cs,h,_⟩:=h;cases h
       ·exact .inr h) af1.goes.next af2.goes.next
     refine⟨ag1.trans ag2 af1.goes.ci,in2,?_,(gq.trans af1.goes af2.goes af1.same af2.same).hide p.sees ho _,?_,?_,.bool _⟩
     ·rw [hev,BO Q n f a mk _ _ c1 _ _ _ e1 c2 ag2]
      have e2:(cG (Q.at c2) n).code f b mk fr1 s3=some (x2,fr2,s6):=e2
      simp only [ak,sN,e2,hy2]
     ·refine(af2.wr.aside keep2 trivial hno2).back hm2 hsp hno2 ⟨_,by rw [iO _ _ _ _ (gH keep2),if_pos rfl],?_⟩ (af2.wr.aside_ro keep2 trivial)
      refine⟨?_,hj,hL.size,fun t=>(hL.env t).mono (af1.ext.le.trans af2.ext.le),hL.params,hL.assign,hL.body,hL.flatA,hL.flatB⟩
      cases pe<;>(subst hj;rfl)
     ·have x2:=(hext.toExt fun _ h=>h).aside (ob:=.loop { {rec with state:=.busy } with state:=if jump.isNone then .ready else .done,pending:=jump }) keep2 trivial trivial (fun _=>howned)
      exact⟨x2.le,x2.size,x2.keep,fun c hc o=>by
       rcases ajz hm2 o with rfl|o
       ·exact howned
       ·exact x2.owns c hc o,x2.names,x2.cells,x2.quiet⟩
    cases x2 with
    |normal=>exact fin none none rfl rfl
    |exit id=>exact fin (some (.exit id)) (some (.exit id)) rfl rfl
    |ret=>exact fin (some .ret) (some .ret) rfl rfl
structure Ba (Q:ck) (n:Nat) (f:FuncId) (o:Oper) (mk:bj) (fr:Fr) (ch:Nat→Nat) (G:Gh) (B:Nat→Nat) (s s2:St) (w:World) (x:Value) (w':World)
 (ch':Nat→Nat) (v:ai) (loc':Loc) (s' s2':St) (G':Gh) (B':Nat→Nat):Prop where
 agree:jK s.ci ch ch'
 inb:jT Q ch'
 eval:fp (Q.at ch') (cG (Q.at ch') n) f o mk fr s=some (v,loc',s')
 same:gq mk s s' s2 s2'
 wr:WR G' s2'.heap w'
 ext:iI G s2.heap w G' s2'.heap w' s.next s'.next (LB B fr.loc)
 locs:mY G' s2'.heap B' loc' w'
 val:LV G' loc' B' v x
 old: ∀u y,LV G fr.loc B u y→LV G' loc' B' u y
 boxes: ∀b,LB B' loc' b→LB B fr.loc b∨w.heap.size≤b
theorem aiE {mk:bj} {ch:Nat→Nat} {kmax:Nat→Nat} {it:ai} {b:Bool} {s:St} {r:ai×St} (h:j5 mk ch kmax it b s=some r) (h2:2≤jn mk it s):jn mk it s≤kmax s.ci:=by
 unfold j5 at h
 split at h
 ·rename_i n
  simp only [aF] at h
  obtain⟨ob,hob,h⟩:=h
  split at h
  ·simp [jn,hob] at h2
  ·rename_i m since seen stepped
   cases b
   ·simp only [cF,aF] at h
    obtain⟨ob2,hob2,h⟩:=h
    split at h
    ·rename_i es clock
     have hc:jn mk (.ptr n 0) s=(dq seen es).length:=by simp [jn,hob,hob2]
     rw [hc] at h2 ⊢
     rcases gr h with⟨_,h⟩|⟨_,h⟩
     ·cases h
     ·generalize dq seen es=l at h h2
      unfold my at h
      split at h
      ·simp at h2
      ·obtain⟨_,h⟩:=bW h
       split at h
       ·simp at h2
       ·obtain⟨h,_⟩:=bW h
        exact iZ h
    ·cases h
   ·cases h
  ·cases h
 ·cases h
theorem RS {Q:ck} {n:Nat} (hc:rm Q n) (hcs:oM Q n) (ro:Option Nat) {f:FuncId} {o:Oper} {mk:bj} {fr:Fr} {ch:Nat→Nat} {A:Nat→Prop} {G:Gh} {B:Nat→Nat} {s s2:St} {a:Act} {w:World}
 (p:kd mk A G s s2 w) (fx:c8 G s2.heap B fr a.tmps w) (hi:jT Q ch)
 (he: ∀ch',jK s.ci ch ch'→jT Q ch'→ ∃v loc' s',fp (Q.at ch') (cG (Q.at ch') n) f o mk fr s=some (v,loc',s')∧ ∀m,s.next≤m→m<s'.next→A m)
 (K:Act→World→Prop) (E:Exit→Act→World→Prop)
 (hK: ∀x w' ch' v loc' s' s2' G' B',Ba Q n f o mk fr ch G B s s2 w x w' ch' v loc' s' s2' G' B'→K (a.put o.dst x) w'):o.wpIn (kG ro) 0 Q.P a w K E:=by
 have hloc:bV mk (fun ch s=>fp (Q.at ch) (cG (Q.at ch) n) f o mk fr s):=xq (Q:=Q) (j1 Q n) f o mk fr
 have plain:(∀c,o.op≠ .defer c)→(∀ch' s,fp (Q.at ch') (cG (Q.at ch') n) f o mk fr s=jV Q.P mk ch' Q.kmax (Q.hint f) o.dst o.op fr s)→o.wpIn (kG ro) 0 Q.P a w K E:=by
  intro hnd hop
  have hch: ∃ch',jK s.ci ch ch'∧jT Q ch'∧ ∀x b xv,o.op= .next x b→evc fr.env x=some xv→2≤jn mk xv s2→
   ch' s2.ci % jn mk xv s2=(w.tape w.drawn (.mapNext (jn mk xv s2))) % jn mk xv s2:=by
   by_cases hn: ∃x b xv,o.op= .next x b∧evc fr.env x=some xv∧2≤jn mk xv s2
   ·obtain⟨x,b,xv,hx1,hx2,hx3⟩:=hn
    obtain⟨v,loc',s',h1,_⟩:=he ch (.refl _ _) hi
    obtain⟨s2',h3,_⟩:=(hloc ch s v loc' s' h1).2 ch s2 (fun _ _=>rfl) p.sees
    have hle:jn mk xv s2≤Q.kmax s.ci:=by
     have h3:fp (Q.at ch) (cG (Q.at ch) n) f o mk fr s2=some (v,loc',s2'):=h3
     rw [hop,hx1] at h3
     simp only [jV,hx2,ak,gR,aF] at h3
     obtain⟨r,hr,_⟩:=h3
     rw [←p.sees.ci];exact aiE hr hx3
    refine⟨fun i=>if i=s.ci then(w.tape w.drawn (.mapNext (jn mk xv s2))) % jn mk xv s2 else ch i,?_,?_,?_⟩
    ·intro i hi'
     simp only
     rw [if_neg (by omega)]
    ·intro i
     simp only
     split
     ·rename_i e;subst e
      exact gn (Nat.mod_lt _ (by omega)) hle
     ·exact hi i
    ·intro x' b' xv' hx1' hx2' _
     rw [hx1] at hx1'
     injection hx1' with e1 e2
     subst e1
     rw [hx2] at hx2'
     injection hx2' with e3
     subst e3
     simp only
     rw [if_pos p.sees.ci,Nat.mod_mod]
   ·exact⟨ch,.refl _ _,hi,fun x b xv h1 h2 h3=>absurd ⟨x,b,xv,h1,h2,h3⟩ hn⟩
  obtain⟨ch',hag,hin,hch⟩:=hch
  obtain⟨v,loc',s',h1,h2⟩:=he ch' hag hin
  obtain⟨g,hl⟩:=hloc ch' s v loc' s' h1
  obtain⟨s2',h3,h4⟩:=hl ch' s2 (fun _ _=>rfl) p.sees
  have h3':jV Q.P mk ch' Q.kmax (Q.hint f) o.dst o.op fr s2=some (v,loc',s2'):=by rw [←hop];exact h3
  have hpost:=Uy p.wr fx h3' (fun m hm1 hm2=>p.free m (by rw [←p.sees.next];exact hm1) (h2 m (by rw [←p.sees.next];exact hm1) (by rw [←h4.next];exact hm2))) hch
  obtain⟨nx,x,w',G',B',r1,r2,r3,r4,r5,r6,r7,r8⟩:=hpost
  have r4':iI G s2.heap w G' s2'.heap w' s.next s'.next (LB B fr.loc):=by rw [←p.sees.next,←h4.next];exact r4
  have hk:=hK x w' ch' v loc' s' s2' G' B' ⟨hag,hin,h1,h4,r3,r4',r5,r6,r7,r8⟩
  refine⟨fun _ _=>tt ro _,?_⟩
  rw [Oper.semAt_eq _ _ _ hnd,r1]
  rcases r2 with rfl|⟨rfl,rfl⟩<;>exact hk
 cases hop:o.op
 case call c=>
  cases hcl:c.callee with
  |builtin b=>exact plain (fun c h=>by rw [hop] at h;cases h) fun ch' s=>by simp only [fp,hop,hcl,jV];rfl
  |invoke x y=>
   obtain⟨v,loc',s',h1,_⟩:=he ch (.refl _ _) hi
   simp [fp,hop,hcl,lf,callee,lS] at h1
  |value g=>
   have hnd: ∀c,o.op≠ .defer c:=fun c h=>by rw [hop] at h;cases h
   cases hyld:lS fr.env c with
   |true=>
    have heval: ∀ch' s,fp (Q.at ch') (cG (Q.at ch') n) f o mk fr s=oG (cG (Q.at ch') n) c mk fr s:=fun ch' s=>by simp only [fp,hop,hcl,hyld,cT]
    obtain⟨v0,loc0,s0,h0,_⟩:=he ch (.refl _ _) hi
    rw [heval] at h0
    simp only [oG,aF] at h0
    obtain⟨⟨m,args⟩,hyee,_⟩:=h0
    have hyee':=hyee
    simp only [yieldee,hcl,aF] at hyee
    obtain⟨gv,hg,hyee⟩:=hyee
    have hgl:=fx.ev hg
    cases gv<;>try (cases hyee;done)
    rename_i m'
    simp only [aF,a7,bK] at hyee
    obtain⟨as,has,rfl,rfl⟩:=hyee
    have hgl:VR G (.yld m') (a.eval g):=hgl
    generalize hgx:a.eval g=gx at hgl
    cases hgl with
    |yld hm=>
     rename_i ad
     have hargs:=(fx.evcs has).1
     obtain⟨rec,q1,q2,q3⟩:=akh hcs ro p hargs hi hm (fun ch' ha hb=>by
      obtain⟨v,loc',s',h1,h2⟩:=he ch' ha hb
      rw [heval] at h1
      simp only [oG,hyee',ak,aF,a7,bK] at h1
      obtain⟨⟨v1,s1⟩,h3,rfl,rfl,rfl⟩:=h1
      exact⟨v1,s1,h3,h2⟩)
     have hrun:(execOp a.eval o).run Q.P w= .ok (.round ad.block rec.fn ((rec.params.zip ⟨c.args.toList.map a.eval⟩).foldl (fun tmps (t,a)=>tmps.setIfInBounds t a) rec.tmps) rec.assign rec.body) w:=by
      have hsz:(⟨c.args.toList.map a.eval⟩:Array Value).size=rec.params.size:=by rw [←q2];rfl
      have:=run_yield (P:=Q.P) (args:=⟨c.args.toList.map a.eval⟩) q1 hsz
      have e:(#[]:Array Value)++c.args.map a.eval=⟨c.args.toList.map a.eval⟩:=by apply kS;simp
      simp only [execOp,hop,resolve,hcl,hgx,Deferred.ofValue,Sem.run_bind,Sem.run_pure,iH,invoke,e]
      exact this
     refine⟨fun _ _=>tt ro _,?_⟩
     rw [Oper.semAt_eq _ _ _ hnd,hrun]
     refine⟨Cc ro 0,q3.mono ?_⟩
     rintro e w' ⟨y,rfl,ch',v,s',s2',G',c1⟩
     refine hK y w' ch' v fr.loc s' s2' G' B ⟨c1.agree,c1.inb,?_,c1.same,c1.wr,c1.ext.toL _,fx.locs.ext c1.ext,LV.of_VR c1.val,fun _ _ h=>h.mono c1.ext.le,fun _ h=>.inl h⟩
     rw [heval]
     simp only [oG,hyee',ak,c1.eval]
   |false=>
   have heval: ∀ch' s,fp (Q.at ch') (cG (Q.at ch') n) f o mk fr s=lf (cG (Q.at ch') n) c mk fr s:=fun ch' s=>by simp only [fp,hop,hcl,hyld,cF]
   obtain⟨v0,loc0,s0,h0,_⟩:=he ch (.refl _ _) hi
   rw [heval] at h0
   simp only [lf,aF] at h0
   obtain⟨⟨fn,args⟩,hcallee,_⟩:=h0
   have hcallee':=hcallee
   simp only [callee,hcl,aF] at hcallee
   obtain⟨gv,hg,hcallee⟩:=hcallee
   have hgl:=fx.ev hg
   cases gv<;>try (cases hcallee;done)
   rename_i fn' first captured
   cases fn'<;>try (cases hcallee;done)
   rename_i fid
   simp only [aF] at hcallee
   obtain⟨as,has,hcallee⟩:=hcallee
   simp only [a7,bK] at hcallee
   obtain⟨rfl,rfl⟩:=hcallee
   have hgl:VR G (.func (.func fid) first captured) (a.eval g):=hgl
   generalize hgx:a.eval g=gx at hgl
   cases hgl with
   |func hf hcap=>
    rename_i fs cs
    have hargs:=(fx.evcs has).1
    have hall:cg G (first++(as++captured)) (fs++(c.args.toList.map a.eval++cs)):=hf.append (hargs.append hcap)
    have hrun:(execOp a.eval o).run Q.P w=(callFunc fid ⟨fs++(c.args.toList.map a.eval++cs)⟩).run Q.P w:=by
     have:(((⟨fs⟩:Array Value)++c.args.map a.eval)++(⟨cs⟩:Array Value))=⟨fs++(c.args.toList.map a.eval++cs)⟩:=by
      apply kS;simp
     simp only [execOp,hop,resolve,hcl,hgx,Deferred.ofValue,Sem.run_bind,Sem.run_pure,iH,invoke,this]
    have hcs':=hc fid (first++(as++captured)) mk s s2 G w _ ch A p hall hi (fun ch' ha hb=>by
     obtain⟨v,loc',s',h1,h2⟩:=he ch' ha hb
     rw [heval] at h1
     simp only [lf,hcallee',ak,aF] at h1
     obtain⟨⟨v1,s1⟩,h3,h1⟩:=h1
     simp only [a7,bK] at h1
     obtain⟨rfl,rfl,rfl⟩:=h1
     exact⟨v1,s1,h3,h2⟩)
    have fin: ∀y w',(∃ch' v s' s2' G',yg Q n fid (first++(as++captured)) mk ch G s s2 w y w' ch' v s' s2' G')→K (a.put o.dst y) w':=by
     rintro y w' ⟨ch',v,s',s2',G',c⟩
     refine hK y w' ch' v fr.loc s' s2' G' B ⟨c.agree,c.inb,?_,c.same,c.wr,c.ext.toL _,fx.locs.ext c.ext,LV.of_VR c.val,fun _ _ h=>h.mono c.ext.le,fun _ h=>.inl h⟩
     rw [heval]
     simp only [lf,hcallee',ak,c.eval]
    refine⟨fun _ _=>tt ro _,?_⟩
    rw [Oper.semAt_eq _ _ _ hnd,hrun]
    rcases hcs' with⟨y,w',h1,h2⟩|⟨h1,h2⟩
    ·rw [h1];exact fin y w' h2
    ·rw [h1]
     refine⟨Cc ro 0,Hw.2 (h2.mono ?_)⟩
     rintro e w' ⟨y,rfl,h3⟩
     exact fin y w' h3
 case defer c=>
  obtain⟨v,loc',s',h1,_⟩:=he ch (.refl _ _) hi
  simp only [fp,hop,jV] at h1
  cases h1
 all_goals exact plain (fun c h=>by rw [hop] at h;cases h) fun ch' s=>by simp only [fp,hop];rfl
section
variable {mk:bj} {A:Nat→Prop} {fr fr' fr'':Fr} {G G' G'':Gh} {B B' B'':Nat→Nat} {s s' s'' s2 s2' s2'':St} {a a' a'':Act} {w w' w'':World}
theorem Ba.after {Q:ck} {n:Nat} {f:FuncId} {o:Oper} {ch ch':Nat→Nat} {x:Value} {v:ai} {loc':Loc}
 (fx:c8 G s2.heap B fr a.tmps w) (q:Ba Q n f o mk fr ch G B s s2 w x w' ch' v loc' s' s2' G' B') (hp:d7 fr o.dst v loc'=some fr'):
 mU mk fr G B s s2 a w fr' G' B' s' s2' (a.put o.dst x) w' where
 goes:=(xq (Q:=Q) (j1 Q n) f o mk fr ch' s v loc' s' q.eval).1
 same:=q.same
 wr:=q.wr
 ext:=q.ext
 fx:=fx.put hp q.locs q.val q.old
 boxes b h:=q.boxes b (by rw [(pn hp).2.1] at h;exact h)
 defers:=⟨[],Bs _ _ _,.nil _ _⟩
theorem FL (G:Gh):VR G gX undef:=.tup .nil
theorem mU.skip (p:kd mk A G s s2 w) (fx:c8 G s2.heap B fr a.tmps w) {dst:Option Tmp} (hp:d7 fr dst gX fr.loc=some fr'):
 mU mk fr G B s s2 a w fr' G B s s2 (a.put dst undef) w where
 goes:=.refl _ _
 same:=.refl p.sees
 wr:=p.wr
 ext:=dh.refl.toL _
 fx:=fx.put hp fx.locs (LV.of_VR (FL G)) fun _ _ h=>h
 boxes b h:=.inl (by rw [(pn hp).2.1] at h;exact h)
 defers:=⟨[],Bs _ _ _,.nil _ _⟩
end
noncomputable def pZ (Q:ck) (n:Nat) (f:FuncId) (all:Array Oper) (mk:bj) (l:List Oper) (fr:Fr) (s:St) (ch:Nat→Nat):Option (Ex×Fr×St):=
 ((cG (Q.at ch) n).ops f all mk l fr s).bind fun x=>some (.normal,x.1,x.2)
def yn (Q:ck) (n:Nat):Prop:=
 ∀(ro:Option Nat) (f:FuncId) (all:Array Oper) (mk:bj) (l:List Oper) (i:Nat) (fr:Fr) (ch:Nat→Nat) (A:Nat→Prop) (G:Gh) (B:Nat→Nat) (s s2:St) (a:Act) (w:World),
  kd mk A G s s2 w→c8 G s2.heap B fr a.tmps w→jT Q ch→(∀k o,l[k]? =some o→all[i+k]? =some o)→oO Q A ch s (pZ Q n f all mk l fr s)→
  ∀K:Exit→Act→World→Prop,(∀a' w',pG Q mk ch fr G B s s2 a w (pZ Q n f all mk l fr s) .normal a' w'→K .normal a' w')→wpOpsIn (kG ro) 0 Q.P all K (List.range' i l.length) a w
theorem ajl {Q:ck} {n:Nat} {f:FuncId} {all:Array Oper} {mk:bj} {l:List Oper} {fr:Fr} {s:St} {ch:Nat→Nat} {x:Ex} {fr':Fr} {s':St} (h:pZ Q n f all mk l fr s ch=some (x,fr',s')):fN mk s s':=by
 simp only [pZ,aF,a7,bK] at h
 obtain⟨⟨fr1,s1⟩,h1,_,_,rfl⟩:=h
 exact((j1 Q n).ops f all mk l fr ch s fr1 s1 h1).1
theorem ajm {Q:ck} {n:Nat} (hc:rm Q n) (hcs:oM Q n) (hn:yn Q n):yn Q (n+1):=by
 intro ro f all mk l i fr ch A G B s s2 a w p fx hi hl hs K hK
 cases l with
 |nil=>
  simp only [List.length_nil,List.range'_zero,wpOpsIn]
  exact hK a w ⟨ch,fr,s,s2,G,B,.refl _ _,hi,rfl,.refl p fx⟩
 |cons o rest=>
  have ho:all[i]? =some o:=hl 0 o rfl
  have hl': ∀k o,rest[k]? =some o→all[i+1+k]? =some o:=fun k o' hk=>by
   have:=hl (k+1) o' (by simpa using hk)
   rwa [show i+1+k=i+(k+1) by omega]
  simp only [List.length_cons,List.range'_succ,wpOpsIn,ho,fx.wanted]
  cases hw:eJ all fr.env o with
  |false=>
   simp only [qj,if_false]
   have hev: ∀c,pZ Q (n+1) f all mk (o::rest) fr s c=((d7 fr o.dst gX fr.loc).bind fun fr'=>pZ Q n f all mk rest fr' s c):=by
    intro c
    show((kz (Q.at c) (cG (Q.at c) n) f all mk (o::rest) fr s).bind _)=_
    simp only [kz,hw,cF,pZ]
    cases d7 fr o.dst gX fr.loc<;>rfl
   obtain⟨x0,fr0,s0,h0,_⟩:=hs ch (.refl _ _) hi
   rw [hev] at h0
   simp only [aF] at h0
   obtain⟨fr1,hp,_⟩:=h0
   have af:=mU.skip p fx (a:=a) hp
   refine⟨fun _ _=>tt ro _,?_⟩
   refine hn ro f all mk rest (i+1) fr1 ch A G B s s2 _ w p af.fx hi hl' ?_ K ?_
   ·intro c h1 h2
    have:=hs c h1 h2
    rw [hev,hp] at this
    exact this
   ·intro a' w' ⟨c,fr',s',s2',G',B',h1,h2,h3,h4⟩
    refine hK a' w' ⟨c,fr',s',s2',G',B',h1,h2,?_,af.trans h4⟩
    rw [hev,hp];exact h3
  |true=>
   simp only [if_true]
   have hev: ∀c,pZ Q (n+1) f all mk (o::rest) fr s c=((fp (Q.at c) (cG (Q.at c) n) f o mk fr s).bind fun x=>(d7 fr o.dst x.1 x.2.1).bind fun fr'=>pZ Q n f all mk rest fr' x.2.2 c):=by
    intro c
    show((kz (Q.at c) (cG (Q.at c) n) f all mk (o::rest) fr s).bind _)=_
    simp only [kz,hw,cT,pZ]
    cases fp (Q.at c) (cG (Q.at c) n) f o mk fr s with
    |none=>rfl
    |some x=>
     simp only [ak]
     cases d7 fr o.dst x.1 x.2.1<;>rfl
   refine RS (f:=f) (fr:=fr) hc hcs ro p fx hi ?_ _ K ?_
   ·intro c h1 h2
    obtain⟨x0,fr0,s0,h0,hA⟩:=hs c h1 h2
    rw [hev] at h0
    simp only [aF] at h0
    obtain⟨⟨v,loc',s1⟩,h3,fr1,_,h5⟩:=h0
    exact⟨v,loc',s1,h3,fun m hm hm'=>hA m hm (gn hm' (ajl h5).next)⟩
   ·intro x w' c1 v loc' s1 s21 G1 B1 q
    obtain⟨x0,fr0,s0,h0,_⟩:=hs c1 q.agree q.inb
    rw [hev,q.eval] at h0
    simp only [ak,aF] at h0
    obtain⟨fr1,hp,_⟩:=h0
    have af:=q.after fx hp
    have hown: ∀c,jK s1.ci c1 c→fp (Q.at c) (cG (Q.at c) n) f o mk fr s=some (v,loc',s1):=fun c hag=>
     wH (Q:=Q) (j1 Q n) (o0 Q n) f o mk fr c1 s v loc' s1 q.eval c hag
    refine hn ro f all mk rest (i+1) fr1 c1 A G1 B1 s1 s21 _ w' (p.after af) af.fx q.inb hl' ?_ K ?_
    ·intro c h1 h2
     obtain⟨y,fr',s',h3,h4⟩:=hs c (q.agree.trans h1 af.goes.ci) h2
     rw [hev,hown c h1] at h3
     simp only [ak,hp] at h3
     exact⟨y,fr',s',h3,fun m hm=>h4 m (fX af.goes.next hm)⟩
    ·intro a' w'' ⟨c,fr',s',s2',G',B',h1,h2,h3,h4⟩
     refine hK a' w'' ⟨c,fr',s',s2',G',B',q.agree.trans h1 af.goes.ci,h2,?_,af.trans h4⟩
     rw [hev,hown c h1]
     simp only [ak,hp]
     exact h3
theorem LB.congr {B:Nat→Nat} {l l2:Loc} (h: ∀u,ji l l2 u) {b:Nat}:LB B l b→LB B l2 b:=by
 rintro⟨t,cs,h1,h2⟩
 refine⟨t,cs,?_,h2⟩
 rw [←(h t).1,←(h t).2];exact h1
theorem c8.congr {G:Gh} {h:bq bE} {B:Nat→Nat} {fr fr2:Fr} {tmps:Array Value} {w:World} (x:c8 G h B fr tmps w) (hs:fr2.size=fr.size) (he: ∀d,aq fr2.env d=aq fr.env d)
 (hl: ∀u,ji fr.loc fr2.loc u):c8 G h B fr2 tmps w where
 size:=x.size.trans hs.symm
 env t:=by
  have:=x.env t
  rw [he t]
  revert this
  generalize aq fr.env t=v
  generalize tmps.getD t undef=y
  intro hv
  cases v<;>first
   |exact hv
   |(obtain⟨h1,h2,h3⟩:=hv
     exact⟨by rw [←(hl _).1];exact h1,h2,fun e=>h3 (by rw [(hl _).1];exact e)⟩)
 locs:=by
  have hg: ∀t cs,fr2.loc.get t (fr2.loc.gen t)=some cs→fr.loc.get t (fr.loc.gen t)=some cs:=fun t cs h=>by
   rw [(hl t).1,(hl t).2];exact h
  exact⟨fun t cs h=>x.locs.cells t cs (hg t cs h),fun t cs h=>x.locs.free t cs (hg t cs h),fun t cs h=>x.locs.ro t cs (hg t cs h),
   fun t u cs ds h h'=>x.locs.inj t u cs ds (hg t cs h) (hg u ds h')⟩
section
variable {Q:ck} {f:FuncId} {all:Array Oper} {mk:bj} {F:Nat→Fr} {S:Nat→St} {M:Nat→bj} {lv:Nat→Nat} {Lo:Nat→Bool}
theorem bk.untouched (t:bk Q f all mk F S M lv Lo) {k n:Nat} (hk:k<all.size) (h: ¬bk.Th Q f all F S M k n):(S (k+1)).heap.get n=(S k).heap.get n:=by
 have ho:all[k]? =some all[k]:=l7 hk
 cases hw:eJ all (F k).env all[k] with
 |true=>
  obtain⟨v,loc',s1,_,_,_,h4,_,g⟩:=t.done ho hw
  rw [h4]
  refine g.frame n fun t'=>h ⟨_,ho,hw,?_⟩
  rw [h4];exact t'
 |false=>
  rcases t.step ho with⟨h',_⟩|⟨_,_,h'⟩
  ·rw [hw] at h';cases h'
  ·rw [h']
theorem bk.X_from {H:Nat→Option bE} (t:bk Q f all mk F S M lv Lo) {n k:Nat} (h:bk.X Q f all F S M H n k=(S k).heap.get n): ∀ {j:Nat},k≤j→j≤all.size→bk.X Q f all F S M H n j=(S j).heap.get n
 |0,h1,_=>by have:k=0:=by omega
             subst this;exact h
 |j+1,h1,h2=>by
  by_cases e:k=j+1
  ·subst e;exact h
  ·have ih:=t.X_from h (j:=j) (by omega) (by omega)
   rw [bk.X]
   split
   ·rfl
   ·rename_i hT
    rw [ih,t.untouched (by omega) hT]
theorem bk.Th_touch (t:bk Q f all mk F S M lv Lo) {n:Nat}: ∀ {k:Nat},k≤all.size→dF mk n=false→(S k).heap.get n≠none→kD mk (S 0) (S k) n
 |0,_,hn,h=>.inl ⟨hn,h⟩
 |k+1,hk,hn,h=>by
  have hle:=t.next_le (l7 (show k<all.size by omega))
  by_cases hT:bk.Th Q f all F S M k n
  ·obtain⟨o,ho,hw,ht⟩:=hT
   rcases ht with⟨_,h2⟩|h2
   ·exact(t.Th_touch (k:=k) (by omega) hn h2).imp id fun h=>⟨h.1,by omega⟩
   ·exact .inr ⟨fX (t.mono (ix k) (by omega)) h2.1,h2.2⟩
  ·rw [t.untouched (by omega) hT] at h
   exact(t.Th_touch (k:=k) (by omega) hn h).imp id fun h=>⟨h.1,by omega⟩
theorem bk.hid (t:bk Q f all mk F S M lv Lo) {n k:Nat} {o:Oper} (ho:all[k]? =some o) (h:dF (bk.fm Q f F S M k o) n=false):dF mk n=false:=by
 cases e:dF mk n with
 |false=>rfl
 |true=>
  have:=t.tr.more k o (by simpa using ho) n e
  rw [aM] at this
  rw [bk.fm,Cs this] at h;cases h
theorem bk.same (t:bk Q f all mk F S M lv Lo) {s2:bq bE} (h0: ∀n o,dF mk n=false→(S 0).heap.get n=some o→s2.get n=some o) (n:Nat):
 (kD mk (S 0) (S all.size) n→bk.X Q f all F S M s2.get n all.size=(S all.size).heap.get n)∧(¬kD mk (S 0) (S all.size) n→bk.X Q f all F S M s2.get n all.size=s2.get n):=by
 constructor
 ·rintro(⟨h1,h2⟩|⟨h1,h2⟩)
  ·refine t.X_from (k:=0) ?_ (ix _) (bv _)
   cases e:(S 0).heap.get n with
   |none=>exact absurd e h2
   |some o=>exact h0 n o h1 e
  ·have: ∃k,k<all.size∧(S k).next≤n∧n<(S (k+1)).next:=by
    have key: ∀j,j≤all.size→n<(S j).next→ ∃k,k<all.size∧(S k).next≤n∧n<(S (k+1)).next:=by
     intro j
     induction j with
     |zero=>intro _ h;omega
     |succ j ih=>
      intro hj h
      rcases Nat.lt_or_ge n (S j).next with h'|h'
      ·exact ih (by omega) h'
      ·exact⟨j,by omega,h',h⟩
    exact key _ (bv _) h2
   obtain⟨k,hk,h3,h4⟩:=this
   have ho:all[k]? =some all[k]:=l7 hk
   have hw:eJ all (F k).env all[k]=true:=by
    cases hw:eJ all (F k).env all[k] with
    |true=>rfl
    |false=>
     rcases t.step ho with⟨h',_⟩|⟨_,_,h'⟩
     ·rw [hw] at h';cases h'
     ·rw [h'] at h4;omega
   refine t.X_from (k:=k+1) ?_ (by omega) (bv _)
   rw [bk.X,if_pos ⟨_,ho,hw,.inr ⟨h3,h4⟩⟩]
 ·intro hn
  have key: ∀j,j≤all.size→bk.X Q f all F S M s2.get n j=s2.get n:=by
   intro j
   induction j with
   |zero=>intro _;rfl
   |succ j ih=>
    intro hj
    rw [bk.X,if_neg]
    ·exact ih (by omega)
    ·rintro⟨o,ho,hw,ht⟩
     have hm:=t.mono (show j+1≤all.size by omega) (bv _)
     rcases ht with⟨h1,h2⟩|⟨h1,h2⟩
     ·have hmj:=t.mono (show j≤all.size by omega) (bv _)
      exact hn ((t.Th_touch (show j≤all.size by omega) (t.hid ho h1) h2).imp id fun h=>⟨h.1,by omega⟩)
     ·exact hn (.inr ⟨fX (t.mono (ix j) (by omega)) h1,by omega⟩)
  exact key _ (bv _)
end
noncomputable def BR (Q:ck) (n:Nat) (f:FuncId) (all:Array Oper) (mk:bj) (fr:Fr) (s:St) (ch:Nat→Nat):Option (Ex×Fr×St):=
 ((cG (Q.at ch) n).draw f all (Region.before all).toList mk [] 0 all.toList fr s).bind fun x=>some (.normal,x.1,x.2)
structure Ga (Q:ck) (f:FuncId) (all:Array Oper) (F:Nat→Fr) (S:Nat→St) (M:Nat→bj) (B:Nat→Nat) (G:Gh) (s2:St) (a:Act) (w:World) (listed:Array Bool) (a':Act) (w':World)
 (fr':Fr) (h:bq bE) (G':Gh) (B':Nat→Nat):Prop where
 size:listed.size=all.size
 closed:A7 all (fun k=>listed.getD k false=true)
 cur:jA Q f all F S M s2.heap.get (fun k=>listed.getD k false=true) fr' h.get
 wr:WR G' h w'
 ext:iI G s2.heap w G' h w' (S 0).next (S all.size).next (LB B (F 0).loc)
 fx:c8 G' h B' fr' a'.tmps w'
 boxes: ∀b,LB B' fr'.loc b→LB B (F 0).loc b∨w.heap.size≤b
 defers: ∃rs,a'.defers=rs.map qR++a.defers∧rq w.heap.size w' rs
 free: ∀k,k<all.size→listed.getD k false=false→ ∀m,(S k).next≤m→m<(S (k+1)).next→G'.at_ m=none
theorem jA.congr {Q:ck} {f:FuncId} {all:Array Oper} {F:Nat→Fr} {S:Nat→St} {M:Nat→bj} {H:Nat→Option bE} {D D':Nat→Prop} {fr:Fr} {h:Nat→Option bE} (c:jA Q f all F S M H D fr h)
 (hD: ∀k,k<all.size→(D k↔D' k)):jA Q f all F S M H D' fr h where
 env t:=(c.env t).trans (xC (X:=fun k=>aq (F k).env t) fun k hk _=>hD k hk)
 size:=c.size
 loc u:=(c.loc u).trans (xC (X:=bk.L F u) fun k hk _=>hD k hk)
 heap n:=(c.heap n).trans (xC (X:=bk.X Q f all F S M H n) fun k hk _=>hD k hk)
theorem yQ {listed:Array Bool} {i:Nat} (hi:i<listed.size) (k:Nat):(listed.setIfInBounds i true).getD k false=true↔(listed.getD k false=true∨k=i):=by
 simp only [kT,Array.getElem?_setIfInBounds]
 by_cases e:i=k
 ·subst e;simp [hi]
 ·simp [e,Ne.symm e]
def qh (listed:Array Bool):Nat:=listed.toList.countP (fun b=> !b)
theorem alF {listed:Array Bool} {i:Nat} (h:listed.getD i true=false):qh (listed.setIfInBounds i true)+1=qh listed:=by
 obtain⟨l⟩:=listed
 simp only [qh,List.setIfInBounds_toArray,kT,A3] at*
 induction l generalizing i with
 |nil=>simp at h
 |cons b l ih=>
  cases i with
  |zero=>
   simp at h;subst h
   simp
  |succ i=>
   have:=ih (i:=i) (by simpa using h)
   simp only [List.set_cons_succ,List.countP_cons]
   omega
theorem alE {listed:Array Bool} (h:qh listed=0) (k:Nat) (hk:k<listed.size):listed.getD k false=true:=by
 obtain⟨l⟩:=listed
 simp only [qh,List.countP_eq_zero] at h
 simp only [un] at hk
 have:=h l[k] (List.getElem_mem hk)
 simp only [kT,A3,jf hk,nM]
 simpa using this
theorem V8 {Q:ck} {f:FuncId} {all:Array Oper} {mk:bj} {ch:Nat→Nat} {G:Gh} {B:Nat→Nat} {s2:St} {a:Act} {w:World}
 {F:Nat→Fr} {S:Nat→St} {M:Nat→bj} {lv:Nat→Nat} {Lo:Nat→Bool} (t:bk (Q.at ch) f all mk F S M lv Lo) (ro:Option Nat) (hc: ∀k,k<all.size→rm Q (lv k)∧oM Q (lv k)) (hi:jT Q ch)
 (h0: ∀n o,dF mk n=false→(S 0).heap.get n=some o→s2.heap.get n=some o) (K:Exit→Act→World→Prop)
 (hK: ∀listed a' w' fr' h G' B',(∀k,k<all.size→listed.getD k false=true)→Ga (Q.at ch) f all F S M B G s2 a w listed a' w' fr' h G' B'→K .normal a' w'):
 ∀(fuel:Nat) (listed:Array Bool) (a':Act) (w':World) (fr':Fr) (h:bq bE) (G':Gh) (B':Nat→Nat),qh listed=fuel→
  Ga (Q.at ch) f all F S M B G s2 a w listed a' w' fr' h G' B'→wpAnyIn (kG ro) 0 Q.P .any all K fuel listed a' w':=by
 intro fuel
 induction fuel with
 |zero=>
  intro listed a' w' fr' h G' B' hu m
  have hall: ∀k,k<all.size→listed.getD k false=true:=fun k hk=>alE hu k (by rw [m.size];exact hk)
  refine⟨?_,hK listed a' w' fr' h G' B' hall m⟩
  rw [List.eq_nil_iff_forall_not_mem]
  intro i hi
  rw [mem_ready] at hi
  obtain⟨h1,o,h2,_⟩:=hi
  have hlt:=bk.lt_size h2
  have:=hall i hlt
  simp only [kT] at h1 this
  rw [l7 (by rw [m.size];exact hlt)] at h1 this
  simp at h1 this
  rw [h1] at this;cases this
 |succ fuel ih=>
  intro listed a' w' fr' h G' B' hu m
  refine⟨fun hr=>?_,fun i hi'=>?_⟩
  ·
   exfalso
   have key: ∀k,k<all.size→listed.getD k false=true:=by
    intro k
    induction k using Nat.strongRecOn with
    |_ k ihk=>
     intro hk
     have ho:all[k]? =some all[k]:=l7 hk
     have hnot:k ∉ Region.ready .any all listed:=by rw [hr];simp
     rw [mem_ready] at hnot
     have hkl:k<listed.size:=by rw [m.size];exact hk
     cases e:listed.getD k false with
     |true=>rfl
     |false=>
      exfalso
      apply hnot
      refine⟨?_,all[k],ho,fun ed hed hb=>?_⟩
      ·simp only [kT,l7 hkl,nM] at e ⊢
       exact e
      ·have hlt:=Gw t.ap k all[k] (by simp) ed hed hb
       rw [aM] at hlt
       exact ihk ed.on hlt (by omega)
   have hz:qh listed=0:=by
    obtain⟨l⟩:=listed
    simp only [qh,List.countP_eq_zero]
    intro b hb
    obtain⟨k,hk,rfl⟩:=List.getElem_of_mem hb
    have hs:=m.size
    simp only [un] at hs
    have:=key k (by omega)
    simp only [kT,A3,jf hk,nM] at this
    simp [this]
   omega
  ·rw [mem_ready] at hi'
   obtain⟨h1,o,ho,h2⟩:=hi'
   have hlt:=bk.lt_size ho
   have hil:i<listed.size:=by rw [m.size];exact hlt
   have hnd: ¬listed.getD i false=true:=by
    simp only [kT,l7 hil,nM] at h1 ⊢
    rw [h1];simp
   have hnd':listed.getD i false=false:=by simpa using hnd
   have x:jU all (fun k=>listed.getD k false=true) i o:=⟨m.closed,ho,hnd,h2⟩
   have hu':qh (listed.setIfInBounds i true)=fuel:=by have:=alF h1;omega
   have hsz':(listed.setIfInBounds i true).size=all.size:=by rw [Array.size_setIfInBounds];exact m.size
   have hcl':A7 all (fun k=>(listed.setIfInBounds i true).getD k false=true):=by
    intro j oj hj hoj e he hb
    rw [yQ hil] at hj ⊢
    rcases hj with hj|rfl
    ·exact .inl (m.closed j oj hj hoj e he hb)
    ·rw [ho] at hoj;injection hoj with hoj;subst hoj
     exact .inl (h2 e he hb)
   have hfr': ∀ {G1:Gh} {h1':bq bE} {w1:World} {L:Nat→Prop},iI G' h w' G1 h1' w1 (S i).next (S (i+1)).next L→
    ∀k,k<all.size→(listed.setIfInBounds i true).getD k false=false→ ∀q,(S k).next≤q→q<(S (k+1)).next→G1.at_ q=none:=by
    intro G1 h1' w1 L ex k hk hkd q hq1 hq2
    have hk2: ¬(listed.getD k false=true∨k=i):=fun h=>by
     rw [←yQ hil] at h;rw [hkd] at h;cases h
    have hkf:listed.getD k false=false:=by
     cases e:listed.getD k false with
     |false=>rfl
     |true=>exact absurd (.inl e) hk2
    have h0':=m.free k hk hkf q hq1 hq2
    cases e:G1.at_ q with
    |none=>rfl
    |some ad=>
     obtain⟨e1,e2⟩:=ex.names q ad e h0'
     rcases Nat.lt_trichotomy k i with h|h|h
     ·have:=t.mono (show k+1≤i by omega) (by omega);omega
     ·exact absurd (.inr h) hk2
     ·have:=t.mono (show i+1≤k by omega) (by omega);omega
   unfold wpOpIn
   simp only [ho]
   rw [m.fx.wanted,m.cur.wanted t x]
   cases hw:eJ all (F i).env o with
   |false=>
    simp only [qj,if_false]
    obtain⟨fr1,hp,hcur⟩:=m.cur.skip t x hw
    refine⟨fun _ _=>tt ro _,?_⟩
    refine ih _ _ _ fr1 h G' B' hu' ⟨hsz',hcl',hcur.congr fun k _=>(yQ hil k).symm,m.wr,m.ext,m.fx.put hp m.fx.locs (LV.of_VR (FL G')) fun _ _ h=>h,?_,?_,?_⟩
    ·intro b hb;rw [(pn hp).2.1] at hb;exact m.boxes b hb
    ·rw [Bs];exact m.defers
    ·exact hfr' (L:=fun _=>False) (dh.refl.toL _)
   |true=>
    simp only [if_true]
    obtain⟨v,loc1,s1,fr1,e1,e2,e3,hp,hcur⟩:=m.cur.run t h0 x hw
    have hsees:=m.cur.sees t h0 x hw
    have hpre:kd (bk.fm (Q.at ch) f F S M i o) (fun q=>q<(S (i+1)).next) G' (bk.from_ S i (S i).heap) (bk.from_ S i h) w':=
     ⟨fun n hn=>t.none_above (sW hlt) n hn,hsees,m.wr,fun q hq1 hq2=>m.free i hlt hnd' q hq1 hq2⟩
    refine RS (hc i hlt).1 (hc i hlt).2 ro hpre m.fx hi (f:=f) (fr:=fr') ?_ _ K ?_
    ·intro c hag _
     have:=wH (Q:=Q) (j1 Q (lv i)) (o0 Q (lv i)) f o (bk.fm (Q.at ch) f F S M i o) fr' ch (bk.from_ S i (S i).heap) v loc1 s1 e1 c (fun j hj=>hag j (by rw [e2] at hj;exact hj))
     exact⟨v,loc1,s1,this,fun q _ hq=>by rw [e3] at hq;exact hq⟩
    ·intro y w1 c v' loc' s1' s21 G1 B1 q
     have:=wH (Q:=Q) (j1 Q (lv i)) (o0 Q (lv i)) f o (bk.fm (Q.at ch) f F S M i o) fr' ch (bk.from_ S i (S i).heap) v loc1 s1 e1 c (fun j hj=>q.agree j (by rw [e2] at hj;exact hj))
     have hq:=q.eval
     have this:fp (Q.at c) (cG (Q.at c) (lv i)) f o (bk.fm (Q.at ch) f F S M i o) fr' (bk.from_ S i (S i).heap)=some (v,loc1,s1):=this
     rw [this] at hq
     simp only [a7,bK] at hq
     obtain⟨rfl,rfl,rfl⟩:=hq
     have hc1:=hcur s21 q.same
     have af:=q.after m.fx hp
     have ex:iI G' h w' G1 s21.heap w1 (S i).next (S (i+1)).next (LB B' fr'.loc):=by
      have:=q.ext;rw [e3] at this;exact this
     refine ih _ _ _ fr1 s21.heap G1 B1 hu' ⟨hsz',hcl',hc1.congr fun k _=>(yQ hil k).symm,q.wr,?_,af.fx,?_,He m.wr m.fx m.defers m.ext.size ex af.defers,hfr' ex⟩
     ·have x1:=m.ext
      have x2:=ex.widen (lo':=(S 0).next) (hi':=(S all.size).next) (t.mono (ix i) (sW hlt)) (t.mono (show i+1≤all.size by omega) (bv _))
      exact⟨x1.le.trans x2.le,fX x1.size x2.size,
       fun b hb ho hl=>(x2.keep b (gn hb x1.size) (fun o=>ho (x1.owns b hb o)) (fun l=>(m.boxes b l).elim hl (fun h=>by omega))).trans (x1.keep b hb ho hl),
       fun b hb o=>x1.owns b hb (x2.owns b (gn hb x1.size) o),
       fun n ad h h0=>by
        cases e:G'.at_ n with
        |none=>exact x2.names n ad h e
        |some b=>exact x1.names n b e h0,
       fun b o v hb h h0=>by
        cases e:G'.ro b o with
        |none=>exact x1.owns b hb (x2.cells b o v (gn hb x1.size) h e)
        |some u=>exact x1.cells b o u hb e h0,
       x1.quiet.trans x2.quiet⟩
     ·intro b hb
      rcases af.boxes b hb with h'|h'
      ·exact m.boxes b h'
      ·exact .inr (fX m.ext.size h')
theorem V9 {Q:ck} {n:Nat} (hm:Q.P.follows .mixedOrders=true) (ro:Option Nat) (hc: ∀k,k<n→rm Q k∧oM Q k) {f:FuncId} {all:Array Oper} {mk:bj} {fr:Fr} {ch:Nat→Nat} {A:Nat→Prop} {G:Gh} {B:Nat→Nat}
 {s s2:St} {a:Act} {w:World} {id:Nat} (p:kd mk A G s s2 w) (fx:c8 G s2.heap B fr a.tmps w) (hi:jT Q ch) (hap:kE all 0 all.toList (Region.before all).toList=true)
 (hs:oO Q A ch s (BR Q n f all mk fr s)) (K:Exit→Act→World→Prop)
 (hK: ∀a' w',pG Q mk ch fr G B s s2 a w (BR Q n f all mk fr s) .normal a' w'→K .normal a' w'):(Code.region id all true).wpIn (kG ro) 0 Q.P K a w:=by
 obtain⟨x0,fr1,s1,h0,hA⟩:=hs ch (.refl _ _) hi
 have h0':=h0
 simp only [BR,aF,a7,bK] at h0
 obtain⟨⟨fr2,s2'⟩,hd,hx,hf,hs'⟩:=h0
 subst hx;dsimp only at hf hs';subst hf;subst hs'
 obtain⟨F,S,M,lv,Lo,eF,eS,eF',eS',hlv,tr⟩:=BS hd
 rw [aM,sO] at eF' eS'
 have t:bk (Q.at ch) f all mk F S M lv Lo:=⟨tr,hap,by rw [eS];exact p.fresh⟩
 have hsee: ∀n o,dF mk n=false→(S 0).heap.get n=some o→s2.heap.get n=some o:=by rw [eS];exact p.sees.get
 have hgo:=((j1 Q n).draw f all _ mk [] 0 all.toList fr ch s fr2 s2' hd).1
 refine wpIn_region_any hm ?_
 refine V8 (G:=G) (B:=B) (s2:=s2) (a:=a) (w:=w) t ro (fun k hk=>hc _ ?_) hi hsee K ?_ all.size _ a _ (F 0) s2.heap G B ?_ ?_
 ·have:=hlv k all[k] (by simp)
  rwa [aM] at this
 ·intro listed a' w' fr' h G' B' hall m
  obtain⟨c1,c2,c3,c4⟩:=m.cur.fin hall
  refine hK a' w' ⟨ch,fr2,s2',⟨h,s2'.next,s2'.minw,s2'.ci⟩,G',B',.refl _ _,hi,h0',hgo,⟨rfl,rfl,rfl,?_,?_⟩,m.wr,?_,?_,?_,m.defers⟩
  ·intro n hn
   show h.get n=_
   rw [c4,←eS']
   exact(t.same hsee n).1 (by rw [eS,eS'];exact hn)
  ·intro n hn
   show h.get n=_
   rw [c4]
   exact(t.same hsee n).2 (by rw [eS,eS'];exact hn)
  ·have:=m.ext;rw [eS,eS',eF] at this;exact this
  ·refine m.fx.congr ?_ ?_ ?_
   ·rw [←eF',c1];exact t.size_eq (bv _)
   ·intro d;rw [←eF',c2]
   ·intro u;rw [←eF'];exact c3 u
  ·intro b hb
   rw [←eF]
   refine m.boxes b (LB.congr (fun u=>?_) hb)
   rw [←eF'];exact(c3 u).symm
 ·simp [qh,List.countP_replicate]
 ·refine⟨by simp,?_,?_,p.wr.of_heap rfl,(dh.of_heap (w:=w) (w':= {w with drawn:=w.drawn+1 }) rfl ⟨rfl,rfl,rfl,Nat.le_succ _⟩).toL _,?_,fun b h=>.inl h,⟨[],rfl,.nil _ _⟩,?_⟩
  ·intro j o hj
   simp [kT,F4] at hj
   split at hj<;>simp at hj
  ·refine jA.start fun k hk=>?_
   simp [kT,F4] at hk
   split at hk<;>simp at hk
  ·rw [eF]
   exact⟨fx.size,fx.env,⟨fx.locs.cells,fx.locs.free,fx.locs.ro,fx.locs.inj⟩⟩
  ·intro k hk _ q h1 h2
   have l1:=t.mono (ix k) (sW hk)
   have l2:=t.mono (show k+1≤all.size by omega) (bv _)
   rw [eS] at l1
   rw [eS'] at l2
   exact p.free q (by omega) (hA q (by omega) (by omega))
structure Good (Q:ck):Prop where
 mixed:Q.P.follows .mixedOrders=true
 spec:TW Q
 specH:TV Q
 specW:TX Q:=by intro f sp h;cases h
 names: ∀(f:Nat) (fn:Func),Q.P.funcs[f]? =some fn→(fn.name== "runtime.NumGoroutine")=false
section
variable {Q:ck} {n:Nat}
noncomputable def AC (Q:ck) (n:Nat) (f:FuncId) (y:Code) (mk:bj) (x:Ex) (fr:Fr) (s:St) (c:Nat→Nat):Option (Ex×Fr×St):=mI (cG (Q.at c) n) f y mk (x,fr,s)
theorem SH (hn:oM Q n) (ro:Option Nat) {f:FuncId} {x y:Code} {mk:bj} {fr:Fr} {ch:Nat→Nat} {A:Nat→Prop} {G:Gh} {B:Nat→Nat} {s s2:St} {a:Act} {w:World}
 (hf:ro≠none→eV x=true) (p:kd mk A G s s2 w) (fx:c8 G s2.heap B fr a.tmps w) (hi:jT Q ch) (hs:oO Q A ch s (fun c=>(jN Q n f x mk fr s c).bind fun r=>AC Q n f y mk r.1 r.2.1 r.2.2 c))
 (K:Exit→Act→World→Prop) (KY:Act→World→Prop)
 (hK: ∀e a' w',pG Q mk ch fr G B s s2 a w (fun c=>(jN Q n f x mk fr s c).bind fun r=>AC Q n f y mk r.1 r.2.1 r.2.2 c) e a' w'→K e.to a' w')
 (hY: ∀a1 w1 ch1 fr1 s1 s21 G1 B1,kd mk A G1 s1 s21 w1→c8 G1 s21.heap B1 fr1 a1.tmps w1→jT Q ch1→oO Q A ch1 s1 (jN Q n f y mk fr1 s1)→
  (∀e a' w',pG Q mk ch1 fr1 G1 B1 s1 s21 a1 w1 (jN Q n f y mk fr1 s1) e a' w'→K e.to a' w')→KY a1 w1):x.wpIn (kG ro) 0 Q.P (Exit.then KY K) a w:=by
 have hown:=BO Q n f x mk fr s
 refine(hn ro f x mk fr ch A G B s s2 a w hf p fx hi (hs.first ?_) _ ?_).1
 ·intro e fr' s' c e2 fr'' s'' h
  unfold AC at h
  cases e with
  |normal=>exact(Ha (n:=n) h).next
  |exit id=>simp only [mI,a7,bK] at h;obtain⟨_,_,rfl⟩:=h;exact bv _
  |ret=>simp only [mI,a7,bK] at h;obtain⟨_,_,rfl⟩:=h;exact bv _
 ·rintro e a1 w1 ⟨c1,fr1,s1,s21,G1,B1,h1,h2,h3,h4⟩
  cases e with
  |normal=>
   refine hY a1 w1 c1 fr1 s1 s21 G1 B1 (p.after h4) h4.fx h2 ?_ ?_
   ·exact hs.second hown h1 h3 h4.goes.ci h4.goes.next
   ·intro e a' w' pp
    exact hK e a' w' (pG.second (E2:=fun x fr s c=>AC Q n f y mk x fr s c) hown h1 h3 h4 pp)
  |exit id=>
   refine hK (.exit id) a1 w1 ⟨c1,fr1,s1,s21,G1,B1,h1,h2,?_,h4⟩
   simp only [h3,ak];rfl
  |ret=>
   refine hK .ret a1 w1 ⟨c1,fr1,s1,s21,G1,B1,h1,h2,?_,h4⟩
   simp only [h3,ak];rfl
theorem VT (hgd:Good Q) (hn:oM Q n) (ho:yn Q n) (hcall:rm Q n) (hc: ∀k,k<n→rm Q k∧oM Q k):oM Q (n+1):=by
 intro ro f c mk fr ch A G B s s2 a w hfl p fx hi hs K hK
 cases c with
 |skip=>exact⟨wpIn_skip (hK .normal a w ⟨ch,fr,s,s2,G,B,.refl _ _,hi,rfl,.refl p fx⟩),by simp⟩
 |label l=>exact⟨wpIn_label (hK .normal a w ⟨ch,fr,s,s2,G,B,.refl _ _,hi,rfl,.refl p fx⟩),by simp⟩
 |ret=>exact⟨wpIn_ret (hK .ret a w ⟨ch,fr,s,s2,G,B,.refl _ _,hi,rfl,.refl p fx⟩),by simp⟩
 |exit id=>exact⟨wpIn_exit (hK (.exit id) a w ⟨ch,fr,s,s2,G,B,.refl _ _,hi,rfl,.refl p fx⟩),by simp⟩
 |seq x y=>
  have hfl:ro≠none→eV x=true∧eV y=true:=fun h=>by simpa [eV] using hfl h
  refine⟨wpIn_seq (SH hn ro (fun h=>(hfl h).1) p fx hi hs K _ hK ?_),by simp⟩
  intro a1 w1 ch1 fr1 s1 s21 G1 B1 p1 fx1 hi1 hs1 hK1
  exact(hn ro f y mk fr1 ch1 A G1 B1 s1 s21 a1 w1 (fun h=>(hfl h).2) p1 fx1 hi1 hs1 K hK1).1
 |cond x y z=>
  refine⟨?_,by simp⟩
  obtain⟨e0,fr0,s0,h0,_⟩:=hs ch (.refl _ _) hi
  have h0:(ev fr.env x).bind (uI (cG (Q.at ch) n) f y z mk fr s)=some (e0,fr0,s0):=h0
  simp only [aF] at h0
  obtain⟨v,hv,h0⟩:=h0
  have hl:=fx.ev hv
  cases v<;>try (cases h0;done)
  rename_i b
  have hl:VR G (.bool b) (a.eval x):=hl
  have hx:a.eval x= .bool b:=by
   generalize a.eval x=u at hl
   cases hl;rfl
  have hev: ∀c,jN Q (n+1) f (.cond x y z) mk fr s c=jN Q n f (if b then y else z) mk fr s c:=by
   intro c
   show(ev fr.env x).bind (uI (cG (Q.at c) n) f y z mk fr s)=_
   rw [hv];cases b<;>rfl
  have hfl:ro≠none→eV (if b then y else z)=true:=fun h=>by
   have:eV y=true∧eV z=true:=by simpa [eV] using hfl h
   cases b
   ·exact this.2
   ·exact this.1
  refine wpIn_cond hx (hn ro f _ mk fr ch A G B s s2 a w hfl p fx hi ?_ K ?_).1
  ·intro c h1 h2;have:=hs c h1 h2;rw [hev] at this;exact this
  ·rintro e a' w' ⟨c,fr',s',s2',G',B',h1,h2,h3,h4⟩
   exact hK e a' w' ⟨c,fr',s',s2',G',B',h1,h2,by rw [hev];exact h3,h4⟩
 |block id b=>
  refine⟨wpIn_block ?_,by simp⟩
  have hev: ∀c,jN Q (n+1) f (.block id b) mk fr s c=(jN Q n f b mk fr s c).bind fun x=>some (na id x):=fun _=>rfl
  refine(hn ro f b mk fr ch A G B s s2 a w (fun h=>by simpa [eV] using hfl h) p fx hi ?_ _ ?_).1
  ·intro c h1 h2
   obtain⟨e,fr',s',h3,h4⟩:=hs c h1 h2
   rw [hev] at h3
   simp only [aF] at h3
   obtain⟨⟨e1,fr1,s1⟩,h5,h6⟩:=h3
   refine⟨e1,fr1,s1,h5,?_⟩
   have:s1=s':=by
    cases e1<;>simp only [na,a7,bK] at h6
    ·exact h6.2.2
    ·rename_i i
     cases hb:Nat.beq i id<;>rw [hb] at h6<;>simp at h6<;>exact h6.2.2
    ·exact h6.2.2
   subst this;exact h4
  ·rintro e a' w' ⟨c,fr',s',s2',G',B',h1,h2,h3,h4⟩
   have hpost: ∀e',na id (e,fr',s')=(e',fr',s')→K e'.to a' w':=fun e' he=>
    hK e' a' w' ⟨c,fr',s',s2',G',B',h1,h2,by rw [hev,h3,ak,he],h4⟩
   cases e with
   |normal=>exact hpost .normal rfl
   |ret=>exact hpost .ret rfl
   |exit i=>
    show(if i=id then K .normal a' w' else K (.exit i) a' w')
    by_cases e:i=id
    ·rw [if_pos e]
     refine hpost .normal ?_
     subst e;simp [na]
    ·rw [if_neg e]
     refine hpost (.exit i) ?_
     have:Nat.beq i id=false:=by
      cases h:Nat.beq i id with
      |false=>rfl
      |true=>exact absurd (eU h) e
     simp [na,this]
 |scope b=>
  have hro:ro=none:=by
   cases ro with
   |none=>rfl
   |some l=>exact absurd (hfl (by simp)) (by simp [eV])
  subst hro
  refine⟨(wpIn_wide (n:=0)).2 (wp_scope_straight ((wpIn_wide (n:=0)).1 ?_)),by simp⟩
  refine(hn none f b mk fr ch A G B s s2 a w (fun h=>absurd rfl h) p fx hi hs _ ?_).1
  intro e a' w' h
  have:=hK e a' w' h
  cases e<;>exact this
 |loop b=>
  have hfb:ro≠none→eV b=true:=fun h=>by simpa [eV] using hfl h
  have hrounds:Code.roundsIn (kG ro) 0 Q.P b K (n+1) a w:=by
   rw [roundsIn_succ]
   refine SH (y:=.loop b) hn ro hfb p fx hi hs K _ hK ?_
   intro a1 w1 ch1 fr1 s1 s21 G1 B1 p1 fx1 hi1 hs1 hK1
   exact(hn ro f (.loop b) mk fr1 ch1 A G1 B1 s1 s21 a1 w1 hfl p1 fx1 hi1 hs1 K hK1).2 b rfl
  refine⟨wpIn_loop_rounds _ hrounds,?_⟩
  intro b' hb;injection hb with hb;subst hb;exact hrounds
 |region id ops draw=>
  refine⟨?_,by simp⟩
  cases draw with
  |false=>
   refine wpIn_region ?_
   have:=ho ro f ops mk ops.toList 0 fr ch A G B s s2 a w p fx hi (fun k o hk=>by rw [aM];simpa using hk) hs K (fun a' w' h=>hK .normal a' w' h)
   rw [sO,←List.range_eq_range'] at this
   exact this
  |true=>
   have hev: ∀c,jN Q (n+1) f (.region id ops true) mk fr s c=(bif kE ops 0 ops.toList (Region.before ops).toList then(cG (Q.at c) n).draw f ops (Region.before ops).toList mk [] 0 ops.toList fr s else none).bind fun x=>some (.normal,x.1,x.2):=fun _=>rfl
   cases hap:kE ops 0 ops.toList (Region.before ops).toList with
   |false=>
    obtain⟨e0,fr0,s0,h0,_⟩:=hs ch (.refl _ _) hi
    rw [hev,hap] at h0
    cases h0
   |true=>
    simp only [hap,cT] at hev
    refine V9 hgd.mixed ro hc p fx hi hap ?_ K ?_ (n:=n) (f:=f)
    ·intro c h1 h2;have:=hs c h1 h2;rw [hev] at this;exact this
    ·rintro a' w' ⟨c,fr',s',s2',G',B',h1,h2,h3,h4⟩
     exact hK .normal a' w' ⟨c,fr',s',s2',G',B',h1,h2,by rw [hev];exact h3,h4⟩
 |rangeFunc g ps ca cb=>
  refine⟨?_,by simp⟩
  have hro:ro=none:=by
   cases ro with
   |none=>rfl
   |some l=>exact absurd (hfl (by simp)) (by simp [eV])
  subst hro
  obtain⟨e0,fr0,s0,h0,hA0⟩:=hs ch (.refl _ _) hi
  have hev0: ∀c,jN Q (n+1) f (.rangeFunc g ps ca cb) mk fr s c=(ev fr.env g).bind (qX (Q.at c) (cG (Q.at c) n) f ps.toList ca cb mk fr s):=fun _=>rfl
  rw [hev0] at h0
  simp only [aF] at h0
  obtain⟨gv,hg,h0⟩:=h0
  unfold qX at h0
  split at h0
  case h_2=>cases h0
  rename_i h first captured
  obtain⟨hb,h0⟩:=bW h0
  have hb':=hb
  simp only [Bool.and_eq_true] at hb
  obtain⟨hbody,hnoref,hfa,hfb⟩:=hb
  have hgl:=fx.ev hg
  have hgl:VR G (.func (.func h) first captured) (a.eval g):=hgl
  generalize hgx:a.eval g=gx at hgl
  cases hgl with
  |func hfst hcap=>
  rename_i fs cs
  have hev: ∀c,jN Q (n+1) f (.rangeFunc g ps ca cb) mk fr s c=((cG (Q.at c) n).call h (first++(.yld s.next::captured)) mk (s.new (.loop f fr.env fr.size ps.toList ca cb none))).bind fun x=>tR mk s.next fr x.2:=by
   intro c
   have hb':(lQ (Q.at c).P h&&(fr.env.all qT&&(eV ca&&eV cb)))=true:=hb'
   rw [hev0,hg]
   simp only [ak,qX,hb',cT]
  have hend: ∀c x fr' s',jN Q (n+1) f (.rangeFunc g ps ca cb) mk fr s c=some (x,fr',s')→ ∃v s1 o,(cG (Q.at c) n).call h (first++(.yld s.next::captured)) mk (s.new (.loop f fr.env fr.size ps.toList ca cb none))=some (v,s1)∧
   s1.get mk s.next=some o∧(∃f' env' size' ps' a' b' pe,o= .loop f' env' size' ps' a' b' pe∧x=tM pe)∧fr'=fr∧s'=s1.put s.next none:=by
   intro c x fr' s' h1
   rw [hev] at h1
   simp only [aF] at h1
   obtain⟨⟨v,s1⟩,h2,h3⟩:=h1
   simp only [tR,aF] at h3
   obtain⟨o,h4,h5⟩:=h3
   cases o with
   |loop f' env' size' ps' a' b' pe=>
    simp only [a7,bK] at h5
    obtain⟨rfl,rfl,rfl⟩:=h5
    exact⟨v,s1,_,h2,h4,⟨f',env',size',ps',a',b',pe,rfl,rfl⟩,rfl,rfl⟩
   |cells _=>cases h5
   |tok=>cases h5
   |map _ _=>cases h5
   |iter _ _ _ _=>cases h5
  have hnx: ∀c v s1,(cG (Q.at c) n).call h (first++(.yld s.next::captured)) mk (s.new (.loop f fr.env fr.size ps.toList ca cb none))=some (v,s1)→s.next+1≤s1.next:=fun c v s1 h1=>
   ((j1 Q n).call h _ mk c _ v s1 h1).1.next
  obtain⟨e1,fr1,s1,h1,hA1⟩:=hs ch (.refl _ _) hi
  have hAn:A s.next:=by
   obtain⟨v,s1',o,q1,_,_,_,q5⟩:=hend _ _ _ _ h1
   refine hA1 _ (bv _) ?_
   have:=hnx _ _ _ q1
   rw [q5];exact this
  have hfree:G.at_ s.next=none:=p.free _ (bv _) hAn
  refine wpIn_rangeFunc ?_
  intro fn _
  obtain⟨rec,hrec⟩: ∃rec:Loop,rec= {state:=.ready,pending:=none,fn,tmps:=a.tmps,params:=ps,assign:=ca,body:=cb,defers:=w.heap.size }:=⟨_,rfl⟩
  have r1:(Instr.enterLoop fn a.tmps ps ca cb (kG none).round).run Q.P w= .ok (w.heap.size+1,[qR w.heap.size]) ((w.alloc (.deferred (some []))).alloc (.loop rec)):=by
   rw [hrec];exact run_enterLoop_outer fn a.tmps ps ca cb
  obtain⟨wrA,xA⟩:=p.wr.fresh (.deferred (some [])) trivial
  obtain⟨wrB,xB⟩:=wrA.fresh (.loop rec) trivial
  obtain⟨w1,hw1⟩: ∃w1,(w.alloc (.deferred (some []))).alloc (.loop rec)=w1:=⟨_,rfl⟩
  rw [hw1] at r1 wrB xB
  have hsA:(w.alloc (.deferred (some []))).heap.size=w.heap.size+1:=by simp
  have hs1:w1.heap.size=w.heap.size+2:=by rw [←hw1];simp
  have hl1:w1.heap[w.heap.size+1]? =some (.loop rec):=by rw [←hw1,mf,if_pos hsA.symm]
  have hd1:w1.heap[w.heap.size]? =some (.deferred (some [])):=by rw [←hw1,mf,if_neg (by omega),mf,if_pos rfl]
  have hno1: ¬ez G s2.heap (w.heap.size+1):=fun o=>by have:=p.wr.owned_lt o;omega
  have x1:dh G s2.heap w G s2.heap w1 s.next s.next:=(xA s.next s.next).trans (xB s.next s.next) (bv _) (bv _)
  have hLR:wy G rec fr.env fr.size ps.toList ca cb none:=by
   subst hrec
   refine⟨rfl,rfl,fx.size,fun t=>?_,rfl,rfl,rfl,hfa,hfb⟩
   have:=fx.env t
   have hnr:qT (aq fr.env t)=true:=by
    unfold aq
    cases hgt:fr.env.get t with
    |none=>rfl
    |some v=>exact bq.all_get hnoref hgt
   cases hv:aq fr.env t<;>rw [hv] at this hnr<;>first|exact this|cases hnr
  have wr2:=wrB.named (n:=s.next) (a:=⟨w.heap.size+1,0,none⟩) (o:=.loop f fr.env fr.size ps.toList ca cb none) hfree (by rw [hs1];show w.heap.size+1<_;omega) rfl hno1 ⟨rec,hl1,hLR⟩ (fun i v hv=>by
   rw [wrB.aside_ro hl1 trivial] at hv;cases hv)
  have hle:=G.name_le (⟨w.heap.size+1,0,none⟩:Addr) hfree
  have hat:(G.name s.next ⟨w.heap.size+1,0,none⟩).at_ s.next=some ⟨w.heap.size+1,0,none⟩:=by simp [Gh.name]
  have wr2:WR (G.name s.next ⟨w.heap.size+1,0,none⟩) (s2.new (.loop f fr.env fr.size ps.toList ca cb none)).heap w1:=by
   show WR _ (s2.heap.set s2.next _) _
   rw [p.sees.next];exact wr2
  have g0:=fN.new mk s (.loop f fr.env fr.size ps.toList ca cb none)
  have sm0:=gq.new p.sees (.loop f fr.env fr.size ps.toList ca cb none)
  have p2:kd mk A (G.name s.next ⟨w.heap.size+1,0,none⟩) (s.new (.loop f fr.env fr.size ps.toList ca cb none)) (s2.new (.loop f fr.env fr.size ps.toList ca cb none)) w1:=
   ⟨p.fresh.goes g0,sm0.sees p.sees g0,wr2,fun q hq hAq=>by
    have hq:s.next+1≤q:=hq
    show(if q=s.next then _ else G.at_ q)=none
    rw [if_neg (by omega)];exact p.free q (by omega) hAq⟩
  have hargs:cg (G.name s.next ⟨w.heap.size+1,0,none⟩) (first++(.yld s.next::captured)) (fs++(.func (.yield (w.heap.size+1)) #[] #[]::cs)):=
   (hfst.mono hle).append (.cons (.yld hat) (hcap.mono hle))
  have hcl:=hcall h _ mk _ _ _ w1 _ ch A p2 hargs hi (fun ch' ha hb=>by
   obtain⟨x,fr',s',q1,q2⟩:=hs ch' ha hb
   obtain⟨v,s1',o,q3,_,_,_,q5⟩:=hend _ _ _ _ q1
   refine⟨v,s1',q3,fun q hq hq'=>q2 q ?_ ?_⟩
   ·have hq:s.next+1≤q:=hq
    omega
   ·rw [q5];exact hq')
  have hent:(callFunc h ⟨fs++(.func (.yield (w.heap.size+1)) #[] #[]::cs)⟩).run Q.P w1= .ok (.enter h ⟨fs++(.func (.yield (w.heap.size+1)) #[] #[]::cs)⟩) w1:=by
   unfold lQ at hbody
   cases hfn:(Q.at ch).P.funcs[h]? with
   |none=>rw [hfn] at hbody;cases hbody
   |some fnn=>
    rw [hfn] at hbody
    have hfn:Q.P.funcs[h]? =some fnn:=hfn
    have hbody:fnn.body.isSome=true:=hbody
    cases hbb:fnn.body with
    |none=>rw [hbb] at hbody;cases hbody
    |some bb=>
     have hnm:=hgd.names h fnn hfn
     have hnm': ¬fnn.name= "runtime.NumGoroutine" :=by simpa using hnm
     simp [callFunc,go_sem,hfn,hbb,hnm']
  have hcalls:Calls Q.P h ⟨fs++(.func (.yield (w.heap.size+1)) #[] #[]::cs)⟩ w1 (fun e w'=> ∃y,e= .returned y∧ ∃ch' v s' s2' G',yg Q n h (first++(.yld s.next::captured)) mk ch (G.name s.next ⟨w.heap.size+1,0,none⟩) (s.new (.loop f fr.env fr.size ps.toList ca cb none)) (s2.new (.loop f fr.env fr.size ps.toList ca cb none)) w1 y w' ch' v s' s2' G'):=by
   rcases hcl with⟨y,w',h1,_⟩|⟨_,h2⟩
   ·rw [hent] at h1;cases h1
   ·exact h2
  have eargs:(⟨fs⟩:Array Value)++ #[.func (.yield (w.heap.size+1)) #[] #[]]++(⟨cs⟩:Array Value)=⟨fs++(.func (.yield (w.heap.size+1)) #[] #[]::cs)⟩:=by
   apply kS;simp
  refine⟨w.heap.size+1,[qR w.heap.size],w1, {target:=.fn (.func h) ⟨cs⟩,args:=⟨fs⟩++ #[.func (.yield (w.heap.size+1)) #[] #[]] },w1,h,⟨fs++(.func (.yield (w.heap.size+1)) #[] #[]::cs)⟩,w1,r1,?_,fun f' _=>tt none f',?_,Cc none 0,?_⟩
  ·simp [resolve,Act.eval,Deferred.ofValue] at hgx ⊢
   simp [hgx]
  ·simp only [invoke,eargs];exact hent
  refine Hw.2 (hcalls.mono ?_)
  rintro e w3 ⟨y,rfl,ch',v,s',s2',G',c⟩
  have hags:jK s.ci ch ch':=c.agree
  obtain⟨xx,frx,sx,hx,hAx⟩:=hs ch' hags c.inb
  obtain⟨v',s1',o,q3,q4,⟨f',env',size',ps',a',b',pe,rfl,rfl⟩,efr,rfl⟩:=hend _ _ _ _ hx
  replace efr:=efr.symm
  subst efr
  have hce:=c.eval
  rw [q3] at hce
  simp only [a7,bK] at hce
  obtain⟨rfl,rfl⟩:=hce
  have gC:=((j1 Q n).call h _ mk ch' _ v' s1' q3).1
  have y2:=c.same.sees (sm0.sees p.sees g0) gC
  have q4':=y2.look q4
  have hat':G'.at_ s.next=some ⟨w.heap.size+1,0,none⟩:=c.ext.le.at_ _ _ hat
  obtain⟨ad,ha1,_,rec',hr1,hLR'⟩:=c.wr.obj s.next _ (oX q4').2
  rw [hat'] at ha1;injection ha1 with ha1;subst ha1
  have hr1:w3.heap[w.heap.size+1]? =some (.loop rec'):=hr1
  have hst:rec'.state≠ .busy:=by rw [hLR'.state];cases pe<;>simp
  have hkill: ¬ez G' (s2'.put s.next none).heap (w.heap.size+1):=zY c.wr (by rw [(oX q4').2];simp) hat'
  have hwr4:WR G' (s2'.put s.next none).heap (dK w3 (w.heap.size+1) (.loop {rec' with state:=.exhausted })):=(c.wr.killed s.next).aside hr1 trivial hkill
  have hdk:w3.heap[w.heap.size]? =some (.deferred (some [])):=by
   refine(c.ext.keep _ (by omega) ?_).trans hd1
   exact wr2.not_deferred hd1
  have hxt:iI G s2.heap w G' (s2'.put s.next none).heap (dK w3 (w.heap.size+1) (.loop {rec' with state:=.exhausted })) s.next s1'.next (LB B fr.loc):=by
   have hC:=c.ext
   refine iI.aside (o:=.loop rec') ?_ hr1 trivial trivial (fun h=>by omega)
   refine⟨hle.trans hC.le,fX x1.size hC.size,?_,?_,?_,?_,x1.quiet.trans hC.quiet⟩
   ·intro b hb ho _
    refine(hC.keep b (by omega) ?_).trans (x1.keep b hb ho)
    rintro⟨m,ad,t1,t2,t3⟩
    have t1:(s2.heap.set s2.next _).get m≠none:=t1
    rw [bq.get_set,p.sees.next] at t1
    have t2:(if m=s.next then some ⟨w.heap.size+1,0,none⟩ else G.at_ m)=some ad:=t2
    by_cases e:m=s.next
    ·rw [if_pos e] at t2;injection t2 with t2;subst t2
     have t3:w.heap.size+1=b:=t3
     omega
    ·rw [if_neg e] at t1 t2;exact ho ⟨m,ad,t1,t2,t3⟩
   ·intro b hb ho
    have ho:=hC.owns b (by omega) (sk ho)
    obtain⟨m,ad,t1,t2,t3⟩:=ho
    have t1:(s2.heap.set s2.next _).get m≠none:=t1
    rw [bq.get_set,p.sees.next] at t1
    have t2:(if m=s.next then some ⟨w.heap.size+1,0,none⟩ else G.at_ m)=some ad:=t2
    by_cases e:m=s.next
    ·rw [if_pos e] at t2;injection t2 with t2;subst t2
     have t3:w.heap.size+1=b:=t3
     omega
    ·rw [if_neg e] at t1 t2;exact⟨m,ad,t1,t2,t3⟩
   ·intro m ad hm h0
    by_cases e:m=s.next
    ·subst e
     exact⟨bv _,gn (Nat.lt_succ_self _) gC.next⟩
    ·have h0':(G.name s.next ⟨w.heap.size+1,0,none⟩).at_ m=none:=by
      show(if m=s.next then _ else G.at_ m)=none
      rw [if_neg e];exact h0
     have:=hC.names m ad hm h0'
     have hq:s.next+1≤m:=this.1
     exact⟨by omega,this.2⟩
   ·intro b o v hb hv h0
    have ho:=hC.cells b o v (by omega) hv h0
    obtain⟨m,ad,t1,t2,t3⟩:=ho
    have t1:(s2.heap.set s2.next _).get m≠none:=t1
    rw [bq.get_set,p.sees.next] at t1
    have t2:(if m=s.next then some ⟨w.heap.size+1,0,none⟩ else G.at_ m)=some ad:=t2
    by_cases e:m=s.next
    ·rw [if_pos e] at t2;injection t2 with t2;subst t2
     have t3:w.heap.size+1=b:=t3
     omega
    ·rw [if_neg e] at t1 t2;exact⟨m,ad,t1,t2,t3⟩
  have hfx4:c8 G' (s2'.put s.next none).heap B fr a.tmps (dK w3 (w.heap.size+1) (.loop {rec' with state:=.exhausted })):=by
   have e1:mY (G.name s.next ⟨w.heap.size+1,0,none⟩) (s2.new (.loop f fr.env fr.size ps.toList ca cb none)).heap B fr.loc w1:=by
    have:=fx.locs.ext x1
    refine⟨fun t cs ht=>?_,fun t cs ht ho=>?_,this.ro,this.inj⟩
    ·obtain⟨C,e,u1,u2⟩:=this.cells t cs ht
     exact⟨C,e,u1,fun i v hi=>let⟨v1,z,v2,v3⟩:=u2 i v hi;⟨v1,z,v2,v3.mono hle⟩⟩
    ·obtain⟨m,ad,t1,t2,t3⟩:=ho
     have t1:(s2.heap.set s2.next _).get m≠none:=t1
     rw [bq.get_set,p.sees.next] at t1
     have t2:(if m=s.next then some ⟨w.heap.size+1,0,none⟩ else G.at_ m)=some ad:=t2
     by_cases e:m=s.next
     ·rw [if_pos e] at t2;injection t2 with t2;subst t2
      obtain⟨C,ty,u1,_⟩:=fx.locs.cells t cs ht
      have t3:w.heap.size+1=B t:=t3
      have:=gH u1
      omega
     ·rw [if_neg e] at t1 t2;exact fx.locs.free t cs ht ⟨m,ad,t1,t2,t3⟩
   have e2:=e1.ext c.ext
   have e3:mY G' (s2'.put s.next none).heap B fr.loc w3:=⟨e2.cells,fun t cs ht ho=>e2.free t cs ht (sk ho),e2.ro,e2.inj⟩
   exact⟨fx.size,fun t=>(fx.env t).mono (hle.trans c.ext.le),e3.aside hr1 trivial⟩
  have gP:=fN.put q4 (mk:=mk) none
  have hpost:pG Q mk ch fr G B s s2 a w (jN Q (n+1) f (.rangeFunc g ps ca cb) mk fr s) (tM pe) {a with defers:=[qR w.heap.size]++a.defers } (dK w3 (w.heap.size+1) (.loop {rec' with state:=.exhausted })):=by
   refine⟨ch',fr,s1'.put s.next none,s2'.put s.next none,G',B,hags,c.inb,hx,⟨(g0.trans gC).trans gP,(sm0.trans g0 gC c.same).trans (g0.trans gC) gP (.put y2 q4 none),hwr4,hxt,hfx4,fun b h=>.inl h,[w.heap.size],rfl,by simp,?_⟩⟩
   intro r hr
   simp only [List.mem_singleton] at hr
   subst hr
   refine⟨bv _,?_⟩
   rw [iO _ _ _ _ (gH hr1),if_neg (by omega)];exact hdk
  refine⟨_,_,run_endLoop hr1 hst,?_⟩
  have:=hK _ _ _ hpost
  rw [Fc]
  rw [hLR'.pending] at this ⊢
  cases pe with
  |none=>exact this
  |some x=>
   cases x with
   |normal=>exact wpIn_skip this
   |exit id=>exact wpIn_exit this
   |ret=>exact wpIn_ret this
 |_=>
  obtain⟨e0,fr0,s0,h0,_⟩:=hs ch (.refl _ _) hi
  cases h0
end
section
variable {P:Program} {mk:bj} {G:Gh} {B:Nat→Nat} {fr:Fr} {s:St} {tmps:Array Value} {w:World}
theorem ahz {t:TypeId} {u v:ai} {x:Value} (wr:WR G s.heap w) (fl:mY G s.heap B fr.loc w) (hl:LV G fr.loc B u x) (he:kK P mk t u fr.loc s=some v):
 ∃ad y,x= .pointer (some ad)∧(loadVar t ad).run P w= .ok y w∧VR G v y:=by
 unfold kK at he
 split at he
 ·rename_i t' g off
  simp only [aF] at he
  obtain⟨cs,hcs,he⟩:=he
  obtain⟨h1,_,h2⟩:=hl
  have hg:=QZ hcs
  replace h2:=h2 hg
  subst hg
  obtain⟨C,e,hb,hc⟩:=fl.cells t' cs hcs
  obtain⟨y,hy,hv,ht⟩:=vS (w:=w) (b:=B t') (base:=0) he (fun i u hi=>by
   obtain⟨hs,z,hz,hr⟩:=hc i u hi
   exact⟨hs,z,by rw [nb hb];simpa using hz,hr⟩)
  simp only [aM] at hy
  exact⟨_,y,h2,hy,hv⟩
 ·rename_i n off
  simp only [aF] at he
  obtain⟨ob,hob,he⟩:=he
  split at he
  ·rename_i cs
   have hl:VR G _ _:=hl
   cases hl
   rename_i ad hn
   obtain⟨ad',hn',hsp,C,e,hb,_,hc⟩:=wr.obj n _ (iL hob)
   rw [hn] at hn';injection hn' with hn';subst hn'
   obtain⟨y,hy,hv,ht⟩:=vS (w:=w) (b:=ad.block) (base:=ad.off) he (fun i u hi=>by
    obtain⟨hs,z,hz,hr⟩:=hc i u hi
    exact⟨hs,z,by rw [nb hb];exact hz,hr⟩)
   exact⟨_,y,rfl,hy,hv⟩
  ·cases he
 ·rename_i cs
  have hl:VR G _ _:=hl
  cases hl
  rename_i b base hro
  obtain⟨y,hy,hv,ht⟩:=vS (w:=w) (b:=b) (base:=base) he (fun i u hi=>wr.ro _ _ _ (hro i u hi))
  simp only [Nat.add_zero] at hy
  exact⟨_,y,rfl,hy,hv⟩
 ·cases he
def Ap (tmps:Array Value):ResultVar→Sem Value
 | .tmp t=>pure (tmps.getD t undef)
 | .cell a t=>do loadVar t (←asAddr (tmps.getD a undef))
theorem Sj {Q:ck} (wr:WR G s.heap w) (fx:c8 G s.heap B fr tmps w): ∀ {l:List ResultVar} {vs:List ai},gh Q mk fr s l=some vs→
 ∃ys,(l.mapM (Ap tmps)).run Q.P w= .ok ys w∧cg G vs ys
 | [],_,h=>by
   simp only [gh,a7] at h;subst h
   exact⟨[],by simp [Sem.run_pure],.nil⟩
 |r::l,_,h=>by
  simp only [gh,aF] at h
  obtain⟨v,hv,vs,hvs,h⟩:=h
  obtain⟨hcl,h⟩:=bW h
  injection h with h;subst h
  obtain⟨ys,h1,h2⟩:=Sj wr fx hvs
  have: ∃y,(Ap tmps r).run Q.P w= .ok y w∧VR G v y:=by
   cases r with
   |tmp t=>
    have hx:=c8.evc (a:=⟨tmps,[]⟩) fx hv
    exact⟨_,rfl,hx.1⟩
   |cell a t=>
    obtain⟨ad,y,e1,e2,e3⟩:=ahz wr fx.locs (fx.env a) hv
    exact⟨y,by simp [Ap,e1,asAddr,e2],e3⟩
  obtain⟨y,h3,h4⟩:=this
  refine⟨y::ys,?_,.cons h4 h2⟩
  rw [List.mapM_cons]
  simp [h3,h1]
theorem aj8 {Q:ck} (wr:WR G s.heap w) (fx:c8 G s.heap B fr tmps w) {fn:Func} {vs:List ai} (h:gh Q mk fr s fn.results.toList=some vs):
 ∃y,(results fn tmps).run Q.P w= .ok y w∧VR G (jw vs) y:=by
 obtain⟨ys,h1,h2⟩:=Sj wr fx h
 have hr:results fn tmps=(do let vs←fn.results.mapM (Ap tmps);pure (if h:vs.size=1 then vs[0] else .tuple vs)):=by
  unfold results
  congr 1
 rw [hr,Array.mapM_eq_mapM_toList]
 simp only [Sem.run_bind,Sem.run_map,h1,iH,Sem.run_pure]
 cases h2 with
 |nil=>exact⟨.tuple ⟨[]⟩,by simp,.tup .nil⟩
 |cons a b=>
  rename_i v y vs' ys'
  cases b with
  |nil=>exact⟨y,by simp,a⟩
  |cons c d=>exact⟨.tuple ⟨_⟩,by simp,.tup (.cons a (.cons c d))⟩
end
theorem RL: ∀(l:List ai) (n t:Nat),(cM n l).get t=if t<n then none else l[t-n]?
 | [],n,t=>by
   simp only [cM]
   have:(bq.nil:bc).get t=none:=rfl
   rw [this];simp
 |v::l,n,t=>by
  rw [cM,bq.get_set,RL l (n+1) t]
  by_cases e:t=n
  ·subst e;simp
  ·rw [if_neg e]
   by_cases h:t<n
   ·simp [h,Nat.lt_succ_of_lt h]
   ·rw [if_neg h,if_neg (by omega),show t-n=(t-(n+1))+1 by omega]
    simp
theorem Wg {G:Gh} {h:bq bE} {w:World} {args:List ai} {xs:List Value} (hv:cg G args xs) (nt:Nat):
 c8 G h (fun _=>0) ⟨cM 0 args,bif Nat.ble args.length nt then nt else args.length,[]⟩ ((⟨xs⟩:Array Value)++Array.replicate (nt-(⟨xs⟩:Array Value).size) undef) w where
 size:=by
  have:=hv.length
  simp only [Array.size_append,un,Array.size_replicate,ol]
  by_cases e:args.length≤nt
  ·simp [e];omega
  ·simp [e];omega
 env t:=by
  have hlen:=hv.length
  simp only [aq,RL,Nat.not_lt_zero,if_false,Nat.sub_zero]
  cases e:args[t]? with
  |some v=>
   obtain⟨x,hx,hr⟩:=hv.get e
   have hlt:t<xs.length:=by
    rcases Nat.lt_or_ge t xs.length with h|h
    ·exact h
    ·rw [List.getElem?_eq_none h] at hx;cases hx
   have:((⟨xs⟩:Array Value)++Array.replicate (nt-(⟨xs⟩:Array Value).size) undef).getD t undef=x:=by
    rw [kT,Array.getElem?_append_left (by simpa using hlt)]
    simp [hx]
   rw [this]
   exact LV.of_VR hr
  |none=>
   have hge:xs.length≤t:=by rw [←hlen];exact List.getElem?_eq_none_iff.1 e
   have:((⟨xs⟩:Array Value)++Array.replicate (nt-(⟨xs⟩:Array Value).size) undef).getD t undef=undef:=by
    rw [kT,Array.getElem?_append_right (by simpa using hge),F4]
    split<;>rfl
   rw [this]
   exact LV.of_VR (FL G)
 locs:=⟨fun t cs h=>by simp [Loc.get] at h,fun t cs h=>by simp [Loc.get] at h,fun t cs h=>by simp [Loc.get] at h,fun t u cs ds h=>by simp [Loc.get] at h⟩
theorem QK {Q:ck} {fn:Func} {R:Ending→World→Prop} {G0 G:Gh} {h0:bq bE} {w0:World} {B:Nat→Nat} {fr:Fr} {tmps:Array Value} {lo hi:Nat} {mk:bj} {s:St} {vs:List ai}
 (hres:gh Q mk fr s fn.results.toList=some vs) (hR: ∀y w',WR G s.heap w'→dh G0 h0 w0 G s.heap w' lo hi→VR G (jw vs) y→R (.returned y) w'):
 ∀(rs:List Nat) (w:World),WR G s.heap w→c8 G s.heap B fr tmps w→dh G0 h0 w0 G s.heap w lo hi→rq w0.heap.size w rs→LeavesInM Fence.wide 0 Q.P fn tmps R (rs.map qR++[]) .returning w
 | [],w,wr,fx,ex,_=>by
   obtain⟨y,r1,r2⟩:=aj8 (Q:=Q) wr fx hres
   exact⟨y,r1,hR y w wr ex r2⟩
 |r::rs,w,wr,fx,ex,m=>by
  obtain⟨h1,h2⟩:=m.at_ r (by simp)
  have hnd:=List.nodup_cons.1 m.nodup
  refine⟨by simp,.inl ⟨r,dK w r (.deferred none),rfl,run_takeDeferred h2,?_⟩⟩
  refine QK hres hR rs _ (wr.aside h2 trivial (wr.not_deferred h2)) (fx.aside h2 trivial) (ex.aside h2 trivial trivial fun h=>by omega) ⟨hnd.2,fun q hq=>?_⟩
  obtain⟨q1,q2⟩:=m.at_ q (by simp [hq])
  refine⟨q1,?_⟩
  rw [iO _ _ _ _ (gH h2),if_neg]
  ·exact q2
  ·intro e;subst e;exact hnd.1 hq
theorem Vj {Q:ck} {n:Nat} (hg:Good Q) (hn:oM Q n):rm Q (n+1):=by
 intro f args mk s s2 G w xs ch A p hv hi hs
 have hev: ∀c,(cG (Q.at c) (n+1)).call f args mk s=jk (Q.at c) (cG (Q.at c) n) f args mk s:=fun _=>rfl
 cases hsp:Q.spec f with
 |some sp=>
  have hev': ∀c,(cG (Q.at c) (n+1)).call f args mk s=(sp args).bind fun v=>some (v,s):=by
   intro c
   have:(Q.at c).spec f=some sp:=hsp
   rw [hev,jk,this]
  obtain⟨v,s',h0,_⟩:=hs ch (.refl _ _) hi
  rw [hev'] at h0
  simp only [aF,a7,bK] at h0
  obtain⟨v',h1,rfl,rfl⟩:=h0
  refine(hg.spec f sp hsp args v' h1 G s2.heap w xs p.wr hv).mono ?_
  rintro y w' ⟨G',h2,h3,h4⟩
  refine⟨ch,v',s,s2,G',.refl _ _,hi,by rw [hev',h1];rfl,.refl p.sees,h2,?_,h4⟩
  exact⟨h3.le,h3.size,h3.keep,h3.owns,fun m a e e0=>by have:=h3.names m a e e0;omega,h3.cells,h3.quiet⟩
 |none=>
 cases hsh:Q.specH f with
 |some sp=>
  have hev': ∀c,(cG (Q.at c) (n+1)).call f args mk s=(mF (s.get mk) (sp args)).bind fun v=>some (v,s):=by
   intro c
   have h1:(Q.at c).spec f=none:=hsp
   have h2:(Q.at c).specH f=some sp:=hsh
   rw [hev,jk,h1]
   simp only [h2]
  obtain⟨v,s',h0,_⟩:=hs ch (.refl _ _) hi
  rw [hev'] at h0
  simp only [aF,a7,bK] at h0
  obtain⟨v',h1,rfl,rfl⟩:=h0
  have h1':mF s2.heap.get (sp args)=some v':=by
   have:=Fl p.sees (sp args) v' h1
   generalize sp args=x at this
   clear h1 hev'
   induction x with
   |ret _=>exact this
   |ask m k ih=>
    simp only [mF,aF] at this ⊢
    obtain⟨o,q1,q2⟩:=this
    exact⟨o,(oX q1).2,ih o q2⟩
  refine(hg.specH f sp hsh args v' G s2.heap w xs p.wr hv h1').mono ?_
  rintro y w' ⟨G',h2,h3,h4⟩
  refine⟨ch,v',s,s2,G',.refl _ _,hi,by rw [hev',h1];rfl,.refl p.sees,h2,?_,h4⟩
  exact⟨h3.le,h3.size,h3.keep,h3.owns,fun m a e e0=>by have:=h3.names m a e e0;omega,h3.cells,h3.quiet⟩
 |none=>
 cases hsw:Q.specW f with
 |some sp=>
  have hev': ∀c,(cG (Q.at c) (n+1)).call f args mk s=(sp args).bind (p8 mk s):=by
   intro c
   have h1:(Q.at c).spec f=none:=hsp
   have h2:(Q.at c).specH f=none:=hsh
   have h3:(Q.at c).specW f=some sp:=hsw
   rw [hev,jk,h1]
   simp only [h2,h3]
  obtain⟨v,s',h0,_⟩:=hs ch (.refl _ _) hi
  have h00:=h0
  rw [hev'] at h0
  simp only [aF] at h0
  obtain⟨q,h1,h3⟩:=h0
  cases q with
  |none=>
   simp only [p8,a7,bK] at h3
   obtain⟨rfl,rfl⟩:=h3
   refine((hg.specW f sp hsw args G s2.heap w xs p.wr hv).1 h1).mono ?_
   rintro y w' ⟨G',k2,k3,k4⟩
   refine⟨ch,_,_,s2,G',.refl _ _,hi,h00,.refl p.sees,k2,?_,k4⟩
   exact⟨k3.le,k3.size,k3.keep,k3.owns,fun m a e e0=>by have:=k3.names m a e e0;omega,k3.cells,k3.quiet⟩
  |some q=>
   simp only [p8,aF] at h3
   obtain⟨o,h2,h3⟩:=h3
   cases o<;>simp only [vR,aF,a7,bK,reduceCtorEq] at h3
   obtain⟨cs',h4,rfl,rfl⟩:=h3
   have h5:=(oX (p.sees.look h2)).2
   refine((hg.specW f sp hsw args G s2.heap w xs p.wr hv).2 q.1 q.2 _ cs' h1 h5 h4).mono ?_
   rintro y w' ⟨G',k2,k3,k4⟩
   refine⟨ch,_,_,s2.put q.1 (some (.cells cs')),G',.refl _ _,hi,h00,.put p.sees h2 _,k2,?_,k4⟩
   exact⟨k3.le,k3.size,k3.keep,k3.owns,fun m a e e0=>by have:=k3.names m a e e0;omega,k3.cells,k3.quiet⟩
 |none=>
  have hev': ∀c,(cG (Q.at c) (n+1)).call f args mk s=(Q.P.funcs[f]?).bind fun fn=>fn.body.bind fun b=>
   (jN Q n f b mk ⟨cM 0 args,bif Nat.ble args.length fn.ntmps then fn.ntmps else args.length,[]⟩ s c).bind (nh (Q.at c) fn mk):=by
   intro c
   have h1:(Q.at c).spec f=none:=hsp
   have h2:(Q.at c).specH f=none:=hsh
   have h3:(Q.at c).specW f=none:=hsw
   rw [hev,jk,h1]
   simp only [h2,h3];rfl
  obtain⟨v0,s0,h0,_⟩:=hs ch (.refl _ _) hi
  rw [hev'] at h0
  simp only [aF] at h0
  obtain⟨fn,hf,b,hb,_⟩:=h0
  have hev2: ∀c,(cG (Q.at c) (n+1)).call f args mk s=(jN Q n f b mk ⟨cM 0 args,bif Nat.ble args.length fn.ntmps then fn.ntmps else args.length,[]⟩ s c).bind (nh (Q.at c) fn mk):=by
   intro c;rw [hev',hf];simp only [ak,hb]
  right
  have hnm:=hg.names f fn hf
  refine⟨?_,?_⟩
  ·have hnm': ¬fn.name= "runtime.NumGoroutine" :=by simpa using hnm
   simp [callFunc,go_sem,hf,hb,hnm']
  refine(callsIn_wide (n:=0)).1 (callsIn_of_wp_marks hf hb trivial ?_)
  have fx:=Wg (G:=G) (h:=s2.heap) (w:=w) hv fn.ntmps
  refine(hn none f b mk _ ch A G (fun _=>0) s s2 _ w (fun h=>absurd rfl h) p fx hi ?_ _ ?_).1
  ·intro c h1 h2
   obtain⟨v,s',h3,h4⟩:=hs c h1 h2
   rw [hev2] at h3
   simp only [aF] at h3
   obtain⟨⟨x,fr',s1⟩,h5,h6⟩:=h3
   refine⟨x,fr',s1,h5,?_⟩
   have:s1=s':=by
    cases x<;>simp only [nh,aF,a7,bK] at h6
    ·obtain⟨_,_,_,e⟩:=h6;exact e
    ·cases h6
    ·obtain⟨_,_,_,e⟩:=h6;exact e
   subst this;exact h4
  ·rintro x a' w' ⟨c,fr',s',s2',G',B',h1,h2,h3,h4⟩
   obtain⟨v,s1,h5,_⟩:=hs c h1 h2
   have h5':=h5
   rw [hev2,h3] at h5
   simp only [ak] at h5
   have hend: ∀vs,gh (Q.at c) mk fr' s' fn.results.toList=some vs→v=jw vs→s1=s'→
    LeavesInM Fence.wide 0 Q.P fn a'.tmps (fun e w'=> ∃y',e= .returned y'∧ ∃ch' v s' s2' G',yg Q (n+1) f args mk ch G s s2 w y' w' ch' v s' s2' G') a'.defers .returning w':=by
    intro vs hvs e1 e2
    have hvs2:gh (Q.at c) mk fr' s2' fn.results.toList=some vs:=
     Q6 (Q:=Q.at c) mk fr' fn.results.toList s' s2' vs hvs (fun m o hm=>(h4.same.sees p.sees h4.goes).look hm)
    obtain⟨rs,d1,d2⟩:=h4.defers
    rw [d1]
    have hx0:dh G s2.heap w G' s2'.heap w' s.next s'.next:=h4.ext.toExt fun b ⟨t,cs,e,_⟩=>by simp [Loc.get] at e
    refine QK (Q:=Q.at c) hvs2 ?_ rs w' h4.wr h4.fx hx0 d2
    intro y w'' u1 u2 u3
    refine⟨y,rfl,c,v,s1,s2',G',h1,h2,h5',by rw [e2];exact h4.same,u1,?_,by rw [e1];exact u3⟩
    rw [e2];exact u2
   cases x with
   |exit id=>cases h5
   |normal=>
    simp only [nh,aF,a7,bK] at h5
    obtain⟨vs,hvs,e1,e2⟩:=h5
    exact hend vs hvs e1.symm e2.symm
   |ret=>
    simp only [nh,aF,a7,bK] at h5
    obtain⟨vs,hvs,e1,e2⟩:=h5
    exact hend vs hvs e1.symm e2.symm
theorem Ux {Q:ck} (hg:Good Q) (n:Nat):rm Q n∧yn Q n∧oM Q n:=by
 induction n using Nat.strongRecOn with
 |_ n ih=>
  cases n with
  |zero=>
   refine⟨?_,?_,?_⟩
   ·intro f args mk s s2 G w xs ch A p hv hi hs
    obtain⟨v,s',h,_⟩:=hs ch (.refl _ _) hi;cases h
   ·intro ro f all mk l i fr ch A G B s s2 a w p fx hi hl hs K hK
    obtain⟨x,fr',s',h,_⟩:=hs ch (.refl _ _) hi;cases h
   ·intro ro f c mk fr ch A G B s s2 a w hfl p fx hi hs K hK
    obtain⟨x,fr',s',h,_⟩:=hs ch (.refl _ _) hi;cases h
  |succ n=>
   obtain⟨h1,h2,h3⟩:=ih n (by omega)
   exact⟨Vj hg h3,ajm h1 h3 h2,VT hg h3 h2 h1 fun k hk=>⟨(ih k (by omega)).1,(ih k (by omega)).2.2⟩⟩
end Go.Ag
