/- Contracts out of evaluations and walks. -/
import Derived.Test.YtbfmdojdemckbaaGreatAg2
open Bool renaming and_eq_true→df,and_self→fL,and_true→dX,or_false→lf
open List renaming all_cons→li,all_eq_true→oc,append_nil→iQ,getElem?_of_mem→B6,length_cons→aR,map_cons→fS,mem_of_getElem?→kE
open List.cons renaming injEq→od
open Nat renaming beq→bo,ble_eq_true_of_le→fe,ble→cK,blt→cg,eq_of_beq_eq_true→iI,le_max_left→sN,le_max_right→sO,le_of_ble_eq_true→iu,lt_succ_of_lt→og
open Option renaming bind_eq_some_iff→aN,bind_some→aq,none_or→sQ
open Option.some renaming injEq→bp
open Prod.mk renaming injEq→bX
namespace Go.Ag
mutual
def cx:aj->Bool
 | .agg cs=>pures cs
 | .tup cs=>pures cs
 | .ptr _ _=>false
 | .lref _ _ _=>false
 | .ro cs=>pures cs
 | .list _ xs r=>pures xs&&(match r with| .own _=>false|_=>true)
 | .arr _ _ _ _ _=>false
 | .map _=>false
 | .func _ a b=>pures a&&pures b
 | .iface _ v=>cx v
 | .yld _=>false
 | .roz _=>false
 |_=>true
def pures:List aj->Bool
 | []=>true
 |v::l=>cx v&&pures l
end
mutual
def weak:aj->aj
 | .agg cs=>.agg (eX cs)
 | .tup cs=>.tup (eX cs)
 | .ro cs=>.ro (eX cs)
 | .list n xs r=>.list n (eX xs) (match r with| .own _=>.no|r=>r)
 | .func f a b=>.func f (eX a) (eX b)
 | .iface t v=>.iface t (weak v)
 |v=>v
def eX:List aj->List aj
 | []=>[]
 |v::l=>weak v::eX l
end
theorem uQ {l:List aj}:pures l=true↔ ∀v∈l,cx v=true:=by
 induction l with
 |nil=>simp[pures]
 |cons v l ih=>simp[pures,ih]
mutual
theorem BW: ∀ {v:aj},cx v=true->weak v=v
 | .agg cs,h=>by simp only[cx] at h;simp only[weak,iP h]
 | .tup cs,h=>by simp only[cx] at h;simp only[weak,iP h]
 | .ro cs,h=>by simp only[cx] at h;simp only[weak,iP h]
 | .list n xs r,h=>by
   simp only[cx,df] at h
   simp only[weak,iP h.1]
   cases r<;>first|rfl|(simp at h)
 | .func f a b,h=>by
   simp only[cx,df] at h
   simp only[weak,iP h.1,iP h.2]
 | .iface t v,h=>by simp only[cx] at h;simp only[weak,BW h]
 | .bool _,_=>rfl
 | .int _ _,_=>rfl
 | .str _,_=>rfl
 | .nilp,_=>rfl
 | .ptr _ _,h=>by simp[cx] at h
 | .lref _ _ _,h=>by simp[cx] at h
 | .nils,_=>rfl
 | .arr _ _ _ _ _,h=>by simp[cx] at h
 | .nilm,_=>rfl
 | .map _,h=>by simp[cx] at h
 | .nilf,_=>rfl
 | .nili,_=>rfl
theorem iP: ∀ {l:List aj},pures l=true->eX l=l
 | [],_=>rfl
 |v::l,h=>by
  simp only[pures,df] at h
  simp only[eX,BW h.1,iP h.2]
end
theorem aqd {v:aj} (h:v.scal=true):(weak v).scal=true:=by
 cases v<;>simp_all [weak,aj.scal]
theorem aoM {l:List aj} (h:dY l=true):dY (eX l)=true:=by
 induction l with
 |nil=>rfl
 |cons v l ih=>
  simp only[dY,li,df] at h
  simp only[eX,dY,li,df]
  exact⟨aqd h.1,ih h.2⟩
theorem Bo {l:List aj} (h:pures l=true) {i:Nat} {v:aj} (hi:l[i]? =some v):cx v=true:=uQ.1 h v (kE hi)
theorem Vp {l:List aj} (h:pures l=true):pures (cj l)=true:=by
 induction l with
 |nil=>rfl
 |cons v l ih=>
  simp only[pures,df] at h
  have h1:pures v.cells=true:=by
   cases v<;>first
    |(simp only[aj.cells];simpa[cx] using h.1)
    |(simp only[aj.cells,pures,dX];exact h.1)
  rw[uQ]
  intro u hu
  simp only[cj,List.mem_append] at hu
  rcases hu with hu|hu
  ·exact uQ.1 h1 u hu
  ·exact uQ.1 (ih h.2) u hu
section
variable {G1 G2:Gh}
def xl (G1 G2:Gh):Prop:= ∀b o v,G1.ro b o=some v->cx v=true->G2.ro b o=some v
mutual
theorem VR.onto (k:xl G1 G2): ∀ {v:aj} {x:Value},VR G1 v x->cx v=true->VR G2 v x
 |_,_,.bool b,_=>.bool b
 |_,_,.int k n,_=>.int k n
 |_,_,.str s,_=>.str s
 |_,_,.agg hc hs,h=>.agg hc (cU.onto k hs (by simpa[cx] using h))
 |_,_,.tup hs,h=>.tup (cU.onto k hs (by simpa[cx] using h))
 |_,_,.nilp,_=>.nilp
 |_,_,.ptr e,h=>by simp[cx] at h
 |_,_,.ro e,h=>.ro fun i x hx=>k _ _ _ (e i x hx) (Bo (by simpa[cx] using h) hx)
 |_,_,.nils,_=>.nils
 |_,_,.list (r:=r) a b c d e f,h=>by
  simp only[cx,df] at h
  refine .list a b c d (fun i x hx=>k _ _ _ (e i x hx) (Bo (Vp h.1) hx)) ?_
  cases r with
  |full=>exact f
  |own n=>simp at h
  |no=>exact trivial
 |_,_,.arr ..,h=>by simp[cx] at h
 |_,_,.nilm,_=>.nilm
 |_,_,.map e,h=>by simp[cx] at h
 |_,_,.nilf,_=>.nilf
 |_,_,.func a b,h=>by
  simp only[cx,df] at h
  exact .func (cU.onto k a h.1) (cU.onto k b h.2)
 |_,_,.nili,_=>.nili
 |_,_,.iface e,h=>.iface (VR.onto k e (by simpa[cx] using h))
theorem cU.onto (k:xl G1 G2): ∀ {vs:List aj} {xs:List Value},cU G1 vs xs->pures vs=true->cU G2 vs xs
 |_,_,.nil,_=>.nil
 |_,_,.cons a b,h=>by
  simp only[pures,df] at h
  exact .cons (VR.onto k a h.1) (cU.onto k b h.2)
end
end
def Gh.plain (G:Gh):Gh where
 at_ _:=none
 ro b o:=(G.ro b o).bind fun v=>if cx v=true then some v else none
 dim:=G.dim
theorem Vk (G:Gh):xl G G.plain:=fun b o v h hp=>by simp[Gh.plain,h,hp]
theorem WR.plain {G:Gh} {h:bD bR} {w:World} (x:WR G h w):WR G.plain .nil w where
 obj n o h:=by cases h
 sep n m a b h:=absurd rfl h
 ro b o v hv:=by
  simp only[Gh.plain,aN] at hv
  obtain⟨u,hu,hv⟩:=hv
  split at hv
  ·rename_i hp
   injection hv with hv;subst hv
   obtain⟨h1,y,h2,h3⟩:=x.ro b o u hu
   exact⟨h1,y,h2,h3.onto (Vk G) hp⟩
  ·cases hv
 apart n ob a i v h:=by cases h
 dim:=x.dim
 below n a h:=by cases h
def s0:St:=⟨.nil,0,0,0⟩
theorem A8 {G:Gh} {b:Nat}: ¬fy G .nil b:=fun⟨_,_,h,_⟩=>h rfl
def ek (P:Program) (f:FuncId) (sp:List aj->Option aj):Prop:=
 ∀args v,sp args=some v-> ∀(G:Gh) (h:bD bR) (w:World) (xs:List Value),WR G h w->cU G args xs->
  lp P f ⟨xs⟩ w fun y w'=> ∃G',WR G' h w'/\dF G h w G' h w' 0 0/\VR G' v y
structure qJ (r r':mV):Prop where
 ops: ∀f all mk l fr s x,r.ops f all mk l fr s=some x->r'.ops f all mk l fr s=some x
 draw: ∀f all bs mk rs i l fr s x,r.draw f all bs mk rs i l fr s=some x->r'.draw f all bs mk rs i l fr s=some x
 code: ∀f c mk fr s x,r.code f c mk fr s=some x->r'.code f c mk fr s=some x
 call: ∀f args mk s x,r.call f args mk s=some x->r'.call f args mk s=some x
theorem jB {α β:Type} {x x':Option α} {k k':α->Option β} {b:β} (h:x.bind k=some b) (hx: ∀a,x=some a->x'=some a) (hk: ∀a,k a=some b->k' a=some b):x'.bind k'=some b:=by
 cases e:x with
 |none=>rw[e] at h;cases h
 |some a=>rw[e] at h;rw[hx a e];exact hk a h
section
variable {Q:cI} {r r':mV} (hr:qJ r r')
include hr
theorem W0 {n:Nat} {args:List aj} {mk:bt} {s:St} {x:aj×St} (h:mc r n args mk s=some x):mc r' n args mk s=some x:=by
 unfold mc at h ⊢
 refine jB h (fun _ h=>h) fun o h=>jB h (fun y h=>?_) fun _ h=>h
 unfold vf at h ⊢
 split at h
 ·obtain⟨hb,h⟩:=cq h
  rw[hb]
  refine jB h (fun _ h=>h) fun env' h=>jB h (fun _ h=>hr.code _ _ _ _ _ _ h) fun y1 h=>?_
  obtain⟨e,fr1,s1⟩:=y1
  cases e with
  |normal=>exact jB h (fun _ h=>hr.code _ _ _ _ _ _ h) fun _ h=>h
  |exit i=>cases h
  |ret=>cases h
 ·cases h
theorem Vb {f:FuncId} {o:Oper} {mk:bt} {fr:Fr} {s:St} {x:aj×Loc×St} (h:fW Q r f o mk fr s=some x):fW Q r' f o mk fr s=some x:=by
 unfold fW at h ⊢
 split at h
 ·split at h
  ·exact h
  ·rename_i c _ _ _
   cases hy:nh fr.env c with
   |true=>
    rw[hy] at h
    simp only[cT] at h ⊢
    unfold pO at h ⊢
    exact jB h (fun _ h=>h) fun a h=>jB h (fun _ h=>W0 hr h) fun _ h=>h
   |false=>
    rw[hy] at h
    simp only[cF] at h ⊢
    unfold mz at h ⊢
    exact jB h (fun _ h=>h) fun a h=>jB h (fun _ h=>hr.call _ _ _ _ _ h) fun _ h=>h
 ·exact h
theorem aaK:qJ (Du Q r) (Du Q r') where
 ops f all mk l fr s x h:=by
  have h:lJ Q r f all mk l fr s=some x:=h
  show lJ Q r' f all mk l fr s=some x
  unfold lJ at h ⊢
  split at h
  ·exact h
  ·cases hw:fE all fr.env _<;>rw[hw] at h<;>simp only[cT,cF] at h ⊢
   ·exact jB h (fun _ h=>h) fun _ h=>hr.ops _ _ _ _ _ _ _ h
   ·exact jB h (fun _ h=>Vb hr h) fun a h=>jB h (fun _ h=>h) fun _ h=>hr.ops _ _ _ _ _ _ _ h
 draw f all bs mk rs i l fr s x h:=by
  have h:mE Q r f all bs mk rs i l fr s=some x:=h
  show mE Q r' f all bs mk rs i l fr s=some x
  unfold mE at h ⊢
  split at h
  ·exact h
  ·cases hw:fE all fr.env _<;>rw[hw] at h<;>simp only[cT,cF] at h ⊢
   ·exact jB h (fun _ h=>h) fun _ h=>hr.draw _ _ _ _ _ _ _ _ _ _ h
   ·refine jB h (fun _ h=>Vb hr h) fun a h=>?_
    obtain⟨hc,h⟩:=cq h
    rw[hc]
    exact jB h (fun _ h=>h) fun _ h=>hr.draw _ _ _ _ _ _ _ _ _ _ h
 code f c mk fr s x h:=by
  have h:s9 Q r f c mk fr s=some x:=h
  show s9 Q r' f c mk fr s=some x
  have hseq: ∀b y,nZ r f b mk y=some x->nZ r' f b mk y=some x:=by
   intro b y hy
   obtain⟨e,fr1,s1⟩:=y
   cases e
   ·exact hr.code _ _ _ _ _ _ hy
   ·exact hy
   ·exact hy
  cases c<;>simp only[s9] at h ⊢ <;>first
   |exact h
   |exact jB h (fun _ h=>hr.code _ _ _ _ _ _ h) fun _ h=>hseq _ _ h
   |exact jB h (fun _ h=>hr.code _ _ _ _ _ _ h) fun _ h=>h
   |exact hr.code _ _ _ _ _ _ h
   |skip
  case cond=>
   refine jB h (fun _ h=>h) fun v h=>?_
   cases v<;>try (cases h;done)
   rename_i b
   cases b<;>exact hr.code _ _ _ _ _ _ h
  case rangeFunc=>
   refine jB h (fun _ h=>h) fun v h=>?_
   unfold sE at h ⊢
   split at h
   ·obtain⟨hb,h⟩:=cq h
    rw[hb]
    exact jB h (fun _ h=>hr.call _ _ _ _ _ h) fun _ h=>h
   ·cases h
  case region=>
   rename_i id ops draw _
   unfold Bt at h ⊢
   refine jB h (fun a h=>?_) fun _ h=>h
   cases draw with
   |false=>exact hr.ops _ _ _ _ _ _ _ h
   |true=>
    simp only[cT] at h ⊢
    obtain⟨hc,h⟩:=cq h
    rw[hc]
    exact hr.draw _ _ _ _ _ _ _ _ _ _ h
 call f args mk s x h:=by
  have h:j8 Q r f args mk s=some x:=h
  show j8 Q r' f args mk s=some x
  unfold j8 at h ⊢
  split at h
  ·exact h
  ·split at h
   ·exact h
   ·split at h
    ·exact h
    exact jB h (fun _ h=>h) fun fn h=>jB h (fun _ h=>h) fun c h=>jB h (fun _ h=>hr.code _ _ _ _ _ _ h) fun _ h=>h
end
theorem Ut (Q:cI): ∀n,qJ (db Q n) (db Q (n+1))
 |0=>⟨fun _ _ _ _ _ _ _ h=>(by cases h),fun _ _ _ _ _ _ _ _ _ _ h=>(by cases h),fun _ _ _ _ _ _ h=>(by cases h),fun _ _ _ _ _ h=>(by cases h)⟩
 |n+1=>aaK (Ut Q n)
theorem qJ.refl (r:mV):qJ r r:=⟨fun _ _ _ _ _ _ _ h=>h,fun _ _ _ _ _ _ _ _ _ _ h=>h,fun _ _ _ _ _ _ h=>h,fun _ _ _ _ _ h=>h⟩
theorem qJ.trans {a b c:mV} (x:qJ a b) (y:qJ b c):qJ a c:=
 ⟨fun _ _ _ _ _ _ _ h=>y.ops _ _ _ _ _ _ _ (x.ops _ _ _ _ _ _ _ h),fun _ _ _ _ _ _ _ _ _ _ h=>y.draw _ _ _ _ _ _ _ _ _ _ (x.draw _ _ _ _ _ _ _ _ _ _ h),
  fun _ _ _ _ _ _ h=>y.code _ _ _ _ _ _ (x.code _ _ _ _ _ _ h),fun _ _ _ _ _ h=>y.call _ _ _ _ _ (x.call _ _ _ _ _ h)⟩
theorem nk (Q:cI) {n m:Nat} (h:n<=m):qJ (db Q n) (db Q m):=by
 induction m with
 |zero=>have:n=0:=by omega
        subst this;exact .refl _
 |succ m ih=>
  by_cases e:n=m+1
  ·subst e;exact .refl _
  ·exact(ih (by omega)).trans (Ut Q m)
inductive SG where
 |aw
 |never
 |when (t:Tmp) (b:Bool)
structure cV where
 dst:Option Tmp
 op:Op
 g:SG
abbrev ae (d:Tmp) (o:Op):cV:=⟨some d,o,.aw⟩
abbrev aI (d:Tmp) (o:Op) (n:Tmp) (b:Bool):cV:=⟨some d,o,.when n b⟩
abbrev aC:=List cV
def DM (all:Array Oper) (o:Oper):SG:=
 match o.guard with
 |none=>.aw
 |some (j,w)=>match(all[j]?).bind (·.dst) with
  |some d=>.when d w
  |none=>.never
def oX (all:Array Oper) (o:Oper):cV:=⟨o.dst,o.op,DM all o⟩
inductive SC where
 |skip
 |ret
 |exit (id:Nat)
 |seq (a b:SC)
 |cond (x:Operand) (a b:SC)
 |block (id:Nat) (b:SC)
 |scope (b:SC)
 |loop (b:SC)
 |region (ops:List cV)
 |draw (ops:List cV) (bs:List Nat)
 |rfun (g:Operand) (ps:List Tmp) (a b:Code)
 |bad
def cL:Code->SC
 | .skip=>.skip
 | .label _=>.skip
 | .ret=>.ret
 | .exit id=>.exit id
 | .seq a b=>.seq (cL a) (cL b)
 | .cond x a b=>.cond x (cL a) (cL b)
 | .block id b=>.block id (cL b)
 | .scope b=>.scope (cL b)
 | .loop b=>.loop (cL b)
 | .region _ ops false=>.region (ops.toList.map (oX ops))
 | .region _ ops true=>bif lR ops 0 ops.toList (Region.before ops).toList then .draw (ops.toList.map (oX ops)) (Region.before ops).toList else .bad
 | .rangeFunc g ps a b=>.rfun g ps.toList a b
 |_=>.bad
noncomputable def jc (e:bq):SG->Bool
 | .aw=>true
 | .never=>false
 | .when t b=>match ay e t with
   | .bool c=>c==b
   |_=>false
theorem w7 (all:Array Oper) (e:bq) (o:Oper):jc e (DM all o)=fE all e o:=by
 unfold DM fE
 cases o.guard with
 |none=>rfl
 |some g=>
  obtain⟨j,w⟩:=g
  simp only
  cases (all[j]?).bind (·.dst)<;>rfl
section
variable (Q:cI) (f:FuncId)
noncomputable def eP (o:cV) (mk:bt) (fr:Fr) (s:St):Option (aj×Loc×St):=
 match o.op with
 | .call c=>match c.callee with
   | .builtin _=>qZ Q.P mk (Q.hint f) o.dst c fr s
   |_=>(callee fr.env c).bind fun g=>(Q.spec g.1).bind fun sp=>(sp g.2).bind fun v=>some (v,fr.loc,s)
 |op=>kJ Q.P mk Q.ch Q.kmax (Q.hint f) o.dst op fr s
noncomputable def uZ (o:cV) (fr:Fr) (s:St):Option (Fr×St):=
 bif jc fr.env o.g then(eP Q f o [] fr s).bind fun x=>(eZ fr o.dst x.1 x.2.1).bind fun fr'=>some (fr',x.2.2)
 else(eZ fr o.dst iB fr.loc).bind fun fr'=>some (fr',s)
noncomputable def rj:List cV->Fr->St->Option (Fr×St)
 | [],fr,s=>some (fr,s)
 |o::l,fr,s=>(uZ Q f o fr s).bind fun x=>rj l x.1 x.2
noncomputable def tN (bs:List Nat) (rs:List eY) (i:Nat):List cV->Fr->St->Option (Fr×St)
 | [],fr,s=>some (fr,s)
 |o::l,fr,s=>
  bif jc fr.env o.g then
   (eP Q f o (jE (bs.headD 0) rs []) fr ⟨s.heap,s.next,s.next,s.ci⟩).bind fun x=>
    bif fits (bs.headD 0) (dL (Q.hint f) o.dst fr.env o.op) (cg x.2.2.minw s.next||isStore o.op) rs&&bo s.ci x.2.2.ci then
     (eZ fr o.dst x.1 x.2.1).bind fun fr'=>
      tN bs.tail (⟨i,s.next,x.2.2.next,dL (Q.hint f) o.dst fr.env o.op,cg x.2.2.minw s.next||isStore o.op⟩::rs) (i+1) l fr' (s.least x.2.2)
    else none
  else(eZ fr o.dst iB fr.loc).bind fun fr'=>tN bs.tail rs (i+1) l fr' s
end
def Ex.block (id:Nat):Ex->Ex
 | .exit i=>bif bo i id then .normal else .exit i
 |x=>x
def bv (Q:cI) (g:FuncId) (args:List aj) (s:St) (v:aj) (s':St):Prop:= ∃n,(db Q n).call g args [] s=some (v,s')
def qL (Q:cI) (n:Nat) (args:List aj) (s:St) (v:aj) (s':St):Prop:= ∃k,mc (db Q k) n args [] s=some (v,s')
inductive pc (Q:cI) (f:FuncId):List cV->Fr->St->Fr->St->Prop
 |nil {fr:Fr} {s:St}:pc Q f [] fr s fr s
 |step {o:cV} {l:List cV} {fr fr1 fr2:Fr} {s s1 s2:St}:uZ Q f o fr s=some (fr1,s1)->pc Q f l fr1 s1 fr2 s2->pc Q f (o::l) fr s fr2 s2
 |call {o:cV} {c:Call} {l:List cV} {fr fr1 fr2:Fr} {s s1 s2:St} {g:FuncId} {args:List aj} {v:aj}:jc fr.env o.g=true->o.op= .call c->(∀b,c.callee≠ .builtin b)->callee fr.env c=some (g,args)->
  bv Q g args s v s1->eZ fr o.dst v fr.loc=some fr1->pc Q f l fr1 s1 fr2 s2->pc Q f (o::l) fr s fr2 s2
 |yld {o:cV} {c:Call} {l:List cV} {fr fr1 fr2:Fr} {s s1 s2:St} {n:Nat} {args:List aj} {v:aj}:jc fr.env o.g=true->o.op= .call c->yieldee fr.env c=some (n,args)->
  qL Q n args s v s1->eZ fr o.dst v fr.loc=some fr1->pc Q f l fr1 s1 fr2 s2->pc Q f (o::l) fr s fr2 s2
def zd (Q:cI) (g:FuncId) (args:List aj) (mk:bt) (s:St) (v:aj) (s':St):Prop:= ∃n,(db Q n).call g args mk s=some (v,s')
inductive lP (Q:cI) (f:FuncId):List Nat->List eY->Nat->List cV->Fr->St->Fr->St->Prop
 |nil {bs:List Nat} {rs:List eY} {i:Nat} {fr:Fr} {s:St}:lP Q f bs rs i [] fr s fr s
 |skip {bs:List Nat} {rs:List eY} {i:Nat} {o:cV} {l:List cV} {fr fr1 fr2:Fr} {s s2:St}:jc fr.env o.g=false->eZ fr o.dst iB fr.loc=some fr1->lP Q f bs.tail rs (i+1) l fr1 s fr2 s2->lP Q f bs rs i (o::l) fr s fr2 s2
 |step {bs:List Nat} {rs:List eY} {i:Nat} {o:cV} {l:List cV} {fr fr1 fr2:Fr} {s s1 s2:St} {v:aj} {lc:Loc}:jc fr.env o.g=true->eP Q f o (jE (bs.headD 0) rs []) fr ⟨s.heap,s.next,s.next,s.ci⟩=some (v,lc,s1)->
  fits (bs.headD 0) (dL (Q.hint f) o.dst fr.env o.op) (cg s1.minw s.next||isStore o.op) rs=true->s1.ci=s.ci->eZ fr o.dst v lc=some fr1->
  lP Q f bs.tail (⟨i,s.next,s1.next,dL (Q.hint f) o.dst fr.env o.op,cg s1.minw s.next||isStore o.op⟩::rs) (i+1) l fr1 (s.least s1) fr2 s2->lP Q f bs rs i (o::l) fr s fr2 s2
 |call {bs:List Nat} {rs:List eY} {i:Nat} {o:cV} {c:Call} {l:List cV} {fr fr1 fr2:Fr} {s s1 s2:St} {g:FuncId} {args:List aj} {v:aj}:jc fr.env o.g=true->o.op= .call c->(∀b,c.callee≠ .builtin b)->callee fr.env c=some (g,args)->
  zd Q g args (jE (bs.headD 0) rs []) ⟨s.heap,s.next,s.next,s.ci⟩ v s1->
  fits (bs.headD 0) (dL (Q.hint f) o.dst fr.env o.op) (cg s1.minw s.next||isStore o.op) rs=true->s1.ci=s.ci->eZ fr o.dst v fr.loc=some fr1->
  lP Q f bs.tail (⟨i,s.next,s1.next,dL (Q.hint f) o.dst fr.env o.op,cg s1.minw s.next||isStore o.op⟩::rs) (i+1) l fr1 (s.least s1) fr2 s2->lP Q f bs rs i (o::l) fr s fr2 s2
theorem lP.of {Q:cI} {f:FuncId}: ∀ {l:List cV} {bs:List Nat} {rs:List eY} {i:Nat} {fr fr':Fr} {s s':St},tN Q f bs rs i l fr s=some (fr',s')->lP Q f bs rs i l fr s fr' s'
 | [],bs,rs,i,fr,fr',s,s',h=>by
   simp only[tN,bp,bX] at h
   obtain⟨rfl,rfl⟩:=h;exact .nil
 |o::l,bs,rs,i,fr,fr',s,s',h=>by
  simp only[tN] at h
  cases hw:jc fr.env o.g with
  |true=>
   rw[hw] at h
   simp only[cT,aN] at h
   obtain⟨⟨v,lc,s1⟩,h1,h⟩:=h
   obtain⟨hc,h⟩:=cq h
   simp only[df] at hc
   simp only[aN] at h
   obtain⟨fr1,h2,h⟩:=h
   exact .step hw h1 hc.1 (iI hc.2).symm h2 (lP.of h)
  |false=>
   rw[hw] at h
   simp only[cF,aN] at h
   obtain⟨fr1,h2,h⟩:=h
   exact .skip hw h2 (lP.of h)
inductive jz (Q:cI) (f:FuncId):SC->Fr->St->Ex->Fr->St->Prop
 |skip {fr:Fr} {s:St}:jz Q f .skip fr s .normal fr s
 |ret {fr:Fr} {s:St}:jz Q f .ret fr s .ret fr s
 |exit {id:Nat} {fr:Fr} {s:St}:jz Q f (.exit id) fr s (.exit id) fr s
 |seqN {a b:SC} {fr fr1 fr2:Fr} {s s1 s2:St} {x:Ex}:jz Q f a fr s .normal fr1 s1->jz Q f b fr1 s1 x fr2 s2->jz Q f (.seq a b) fr s x fr2 s2
 |seqX {a b:SC} {fr fr1:Fr} {s s1:St} {x:Ex}:jz Q f a fr s x fr1 s1->x≠ .normal->jz Q f (.seq a b) fr s x fr1 s1
 |cond {o:Operand} {a b:SC} {t:Bool} {fr fr1:Fr} {s s1:St} {x:Ex}:ev fr.env o=some (.bool t)->jz Q f (if t then a else b) fr s x fr1 s1->jz Q f (.cond o a b) fr s x fr1 s1
 |block {id:Nat} {b:SC} {fr fr1:Fr} {s s1:St} {x:Ex}:jz Q f b fr s x fr1 s1->jz Q f (.block id b) fr s (x.block id) fr1 s1
 |scope {b:SC} {fr fr1:Fr} {s s1:St} {x:Ex}:jz Q f b fr s x fr1 s1->jz Q f (.scope b) fr s x fr1 s1
 |loopN {b:SC} {fr fr1 fr2:Fr} {s s1 s2:St} {x:Ex}:jz Q f b fr s .normal fr1 s1->jz Q f (.loop b) fr1 s1 x fr2 s2->jz Q f (.loop b) fr s x fr2 s2
 |loopX {b:SC} {fr fr1:Fr} {s s1:St} {x:Ex}:jz Q f b fr s x fr1 s1->x≠ .normal->jz Q f (.loop b) fr s x fr1 s1
 |region {ops:List cV} {fr fr1:Fr} {s s1:St}:pc Q f ops fr s fr1 s1->jz Q f (.region ops) fr s .normal fr1 s1
 |draw {ops:List cV} {bs:List Nat} {fr fr1:Fr} {s s1:St}:lP Q f bs [] 0 ops fr s fr1 s1->jz Q f (.draw ops bs) fr s .normal fr1 s1
 |rfun {g:Operand} {ps:List Tmp} {a b:Code} {fr:Fr} {s s1:St} {h:FuncId} {first captured:List aj} {v:aj} {f':FuncId} {env':bD aj} {size':Nat} {ps':List Tmp} {a' b':Code} {p:Option Ex}:ev fr.env g=some (.func (.func h) first captured)->
  (nc Q.P h&&(fr.env.all sq&&(fP a&&fP b)))=true->bv Q h (first++(.yld s.next::captured)) (s.new (.loop f fr.env fr.size ps a b none)) v s1->s1.get [] s.next=some (.loop f' env' size' ps' a' b' p)->
  jz Q f (.rfun g ps a b) fr s (uN p) fr (s1.put s.next none)
theorem Gn (n:Nat):bo n n=true:=by simp
theorem D2 {e:bq} {c:Call} {g:FuncId×List aj} (h:callee e c=some g):nh e c=false:=by
 unfold callee at h
 unfold nh
 cases hc:c.callee with
 |builtin b=>rfl
 |invoke a b=>rfl
 |value x=>
  rw[hc] at h
  simp only[aN] at h
  obtain⟨v,hv,h⟩:=h
  simp only[hv]
  cases v<;>first|rfl|cases h
theorem ad2 {e:bq} {c:Call} {g:Nat×List aj} (h:yieldee e c=some g):nh e c=true/\ ∀b,c.callee≠ .builtin b:=by
 unfold yieldee at h
 unfold nh
 cases hc:c.callee with
 |builtin b=>rw[hc] at h;cases h
 |invoke a b=>rw[hc] at h;cases h
 |value x=>
  rw[hc] at h
  simp only[aN] at h
  obtain⟨v,hv,h⟩:=h
  simp only[hv]
  refine⟨?_,fun b e=>by cases e⟩
  cases v<;>first|rfl|cases h
section
variable {Q:cI} {f:FuncId}
theorem Vl {all:Array Oper} {o:Oper} {mk:bt} {fr:Fr} {s:St} {x:aj×Loc×St} (h:eP Q f (oX all o) mk fr s=some x) (n:Nat):fW Q (db Q (n+1)) f o mk fr s=some x:=by
 unfold eP at h
 unfold fW
 simp only[oX] at h
 cases hop:o.op<;>rw[hop] at h<;>simp only at h ⊢ <;>try exact h
 ·rename_i c
  cases hcl:c.callee<;>rw[hcl] at h<;>simp only at h ⊢
  case builtin=>exact h
  all_goals
   simp only[aN] at h
   obtain⟨g,hg,sp,hsp,v,hv,h⟩:=h
   injection h with h;subst h
   have:(db Q (n+1)).call g.1 g.2 mk s=some (v,s):=by
    show j8 Q (db Q n) g.1 g.2 mk s=_
    unfold j8
    simp only[hsp,hv,aq]
   simp only[D2 hg,cF,mz,hg,aq,this]
theorem aov {all:Array Oper}: ∀ {l:List Oper} {ops:List cV} {fr fr':Fr} {s s':St},pc Q f ops fr s fr' s'->ops=l.map (oX all)-> ∃n,(db Q n).ops f all [] l fr s=some (fr',s'):=by
 intro l ops fr fr' s s' h
 induction h generalizing l with
 |nil=>
  intro e
  cases l with
  |nil=>exact⟨1,rfl⟩
  |cons _ _=>cases e
 |step h1 _ ih=>
  intro e
  cases l with
  |nil=>cases e
  |cons p l=>
   simp only[fS,od] at e
   obtain⟨rfl,rfl⟩:=e
   obtain⟨n,hn⟩:=ih rfl
   refine⟨n+2,?_⟩
   show lJ Q (db Q (n+1)) f all [] (p::l) _ _=_
   have hn:=(nk Q (Nat.le_succ n)).ops _ _ _ _ _ _ _ hn
   rename_i fr fr1 _ s s1 _ _ _
   unfold uZ at h1
   have hw:jc fr.env (oX all p).g=fE all fr.env p:=w7 all _ p
   rw[hw] at h1
   simp only[lJ]
   cases hb:fE all fr.env p with
   |true=>
    rw[hb] at h1
    simp only[cT,aN] at h1 ⊢
    obtain⟨x,hx,fr2,hf,h1⟩:=h1
    injection h1 with h1
    simp only[bX] at h1
    obtain⟨rfl,rfl⟩:=h1
    exact⟨x,Vl hx n,fr2,hf,hn⟩
   |false=>
    rw[hb] at h1
    simp only[cF,aN] at h1 ⊢
    obtain⟨fr2,hf,h1⟩:=h1
    injection h1 with h1
    simp only[bX] at h1
    obtain⟨rfl,rfl⟩:=h1
    exact⟨fr2,hf,hn⟩
 |call hw ho hnb hcal hrun hp _ ih=>
  intro e
  cases l with
  |nil=>cases e
  |cons p l=>
   simp only[fS,od] at e
   obtain⟨rfl,rfl⟩:=e
   obtain⟨n,hn⟩:=ih rfl
   obtain⟨m,hm⟩:=hrun
   refine⟨max n m+1,?_⟩
   show lJ Q (db Q (max n m)) f all [] (p::l) _ _=_
   have hn:=(nk Q (sN n m)).ops _ _ _ _ _ _ _ hn
   have hm:=(nk Q (sO n m)).call _ _ _ _ _ hm
   rename_i c fr fr1 fr2 s s1 s2 g args v _ _ _
   have hw:fE all fr.env p=true:=by rw[<-w7 all];exact hw
   simp only[lJ]
   rw[hw]
   simp only[cT,aN]
   have ho:p.op= .call c:=ho
   refine⟨(v,fr.loc,s1),?_,fr1,hp,hn⟩
   unfold fW
   rw[ho]
   simp only
   have hcall:mz (db Q (max n m)) c [] fr s=some (v,fr.loc,s1):=by simp only[mz,hcal,aq,hm]
   cases hcl:c.callee with
   |builtin b=>exact absurd hcl (hnb b)
   |_=>simp only[D2 hcal,cF];exact hcall
 |yld hw ho hcal hrun hp _ ih=>
  intro e
  cases l with
  |nil=>cases e
  |cons p l=>
   simp only[fS,od] at e
   obtain⟨rfl,rfl⟩:=e
   obtain⟨n,hn⟩:=ih rfl
   obtain⟨m,hm⟩:=hrun
   refine⟨max n m+1,?_⟩
   show lJ Q (db Q (max n m)) f all [] (p::l) _ _=_
   have hn:=(nk Q (sN n m)).ops _ _ _ _ _ _ _ hn
   have hm:=W0 (nk Q (sO n m)) hm
   rename_i c fr fr1 fr2 s s1 s2 g args v _ _ _
   have hw:fE all fr.env p=true:=by rw[<-w7 all];exact hw
   simp only[lJ]
   rw[hw]
   simp only[cT,aN]
   have ho:p.op= .call c:=ho
   refine⟨(v,fr.loc,s1),?_,fr1,hp,hn⟩
   unfold fW
   rw[ho]
   simp only
   have hcall:pO (db Q (max n m)) c [] fr s=some (v,fr.loc,s1):=by simp only[pO,hcal,aq,hm]
   obtain⟨hy,hnb⟩:=ad2 hcal
   cases hcl:c.callee with
   |builtin b=>exact absurd hcl (hnb b)
   |_=>simp only[hy,cT];exact hcall
theorem aow {all:Array Oper} {ops:List cV} {bs:List Nat} {rs:List eY} {i:Nat} {fr fr':Fr} {s s':St} (h:lP Q f bs rs i ops fr s fr' s'): ∀ {l:List Oper},ops=l.map (oX all)-> ∃n,(db Q n).draw f all bs [] rs i l fr s=some (fr',s'):=by
 induction h with
 |nil=>
  intro l e
  cases l with
  |nil=>exact⟨1,rfl⟩
  |cons _ _=>cases e
 |skip hw h1 _ ih=>
  intro l e
  cases l with
  |nil=>cases e
  |cons p l=>
   simp only[fS,od] at e
   obtain⟨rfl,rfl⟩:=e
   obtain⟨n,hn⟩:=ih rfl
   refine⟨n+1,?_⟩
   have hw:=(w7 all _ p).symm.trans hw
   show mE Q (db Q n) f all _ [] _ _ (p::l) _ _=_
   simp only[mE]
   rw[hw]
   simp only[cF,aN]
   exact⟨_,h1,hn⟩
 |step hw h1 hf hc h2 _ ih=>
  intro l e
  cases l with
  |nil=>cases e
  |cons p l=>
   simp only[fS,od] at e
   obtain⟨rfl,rfl⟩:=e
   obtain⟨n,hn⟩:=ih rfl
   refine⟨n+2,?_⟩
   have hw:=(w7 all _ p).symm.trans hw
   show mE Q (db Q (n+1)) f all _ [] _ _ (p::l) _ _=_
   have hn:=(nk Q (Nat.le_succ n)).draw _ _ _ _ _ _ _ _ _ _ hn
   simp only[mE]
   rw[hw]
   simp only[cT,aN]
   refine⟨_,Vl h1 n,?_⟩
   simp only[oX] at hf h2 hn
   simp only
   rw[hf,hc,Gn]
   simp only[fL,cT,aN]
   exact⟨_,h2,hn⟩
 |call hw ho hnb hcal hrun hf hc h2 _ ih=>
  intro l e
  cases l with
  |nil=>cases e
  |cons p l=>
   simp only[fS,od] at e
   obtain⟨rfl,rfl⟩:=e
   rename_i bs rs i c fr fr1 fr2 s s1 s2 g args v _
   obtain⟨n,hn⟩:=ih rfl
   obtain⟨m,hm⟩:=hrun
   refine⟨max n m+1,?_⟩
   have hw:=(w7 all _ p).symm.trans hw
   show mE Q (db Q (max n m)) f all _ [] _ _ (p::l) _ _=_
   have hn:=(nk Q (sN n m)).draw _ _ _ _ _ _ _ _ _ _ hn
   have hm:=(nk Q (sO n m)).call _ _ _ _ _ hm
   have ho:p.op= .call c:=ho
   simp only[mE]
   rw[hw]
   simp only[cT,aN]
   refine⟨(v,fr.loc,s1),?_,?_⟩
   ·unfold fW
    rw[ho]
    simp only
    have hcall:mz (db Q (max n m)) c (jE (bs.headD 0) rs []) fr ⟨s.heap,s.next,s.next,s.ci⟩=some (v,fr.loc,s1):=by simp only[mz,hcal,aq,hm]
    cases hcl:c.callee with
    |builtin b=>exact absurd hcl (hnb b)
    |_=>simp only[D2 hcal,cF];exact hcall
   ·simp only[oX] at hf h2 hn
    simp only
    rw[hf,hc,Gn]
    simp only[fL,cT,aN]
    exact⟨_,h2,hn⟩
theorem Zb {id:Nat} {ops:Array Oper}:cL (.region id ops false)= .region (ops.toList.map (oX ops)):=by rw[cL]
theorem Za {id:Nat} {ops:Array Oper}:cL (.region id ops true)=bif lR ops 0 ops.toList (Region.before ops).toList then .draw (ops.toList.map (oX ops)) (Region.before ops).toList else .bad:=by rw[cL]
theorem oI (c:Code):match cL c with
 | .skip=>c= .skip\/ ∃l,c= .label l
 | .ret=>c= .ret
 | .exit id=>c= .exit id
 | .seq a b=> ∃x y,c= .seq x y/\cL x=a/\cL y=b
 | .cond o a b=> ∃x y,c= .cond o x y/\cL x=a/\cL y=b
 | .block id b=> ∃x,c= .block id x/\cL x=b
 | .scope b=> ∃x,c= .scope x/\cL x=b
 | .loop b=> ∃x,c= .loop x/\cL x=b
 | .region l=> ∃id ops,c= .region id ops false/\ops.toList.map (oX ops)=l
 | .draw l bs=> ∃id ops,c= .region id ops true/\ops.toList.map (oX ops)=l/\(Region.before ops).toList=bs/\lR ops 0 ops.toList (Region.before ops).toList=true
 | .rfun g l a b=> ∃ps,c= .rangeFunc g ps a b/\ps.toList=l
 | .bad=>True:=by
 cases c with
 |region id ops d=>
  cases d with
  |false=>rw[Zb];exact⟨id,ops,rfl,rfl⟩
  |true=>
   rw[Za]
   cases h:lR ops 0 ops.toList (Region.before ops).toList with
   |false=>trivial
   |true=>exact⟨id,ops,rfl,rfl,rfl,h⟩
 |skip=>exact .inl rfl
 |label l=>exact .inr ⟨l,rfl⟩
 |ret=>rfl
 |exit id=>rfl
 |seq a b=>exact⟨a,b,rfl,rfl,rfl⟩
 |cond x a b=>exact⟨a,b,rfl,rfl,rfl⟩
 |block id b=>exact⟨b,rfl,rfl⟩
 |scope b=>exact⟨b,rfl,rfl⟩
 |loop b=>exact⟨b,rfl,rfl⟩
 |rangeFunc g ps a b=>exact⟨ps,rfl,rfl⟩
 |_=>trivial
theorem GQ {sc:SC} {fr fr':Fr} {s s':St} {x:Ex} (h:jz Q f sc fr s x fr' s'): ∀ {c:Code},cL c=sc-> ∃n,(db Q n).code f c [] fr s=some (x,fr',s'):=by
 induction h with
 |skip=>
  intro c e
  have:=oI c
  rw[e] at this
  rcases this with rfl|⟨l,rfl⟩<;>exact⟨1,rfl⟩
 |ret=>intro c e;have:=oI c;rw[e] at this;simp only at this;subst this;exact⟨1,rfl⟩
 |exit=>intro c e;have:=oI c;rw[e] at this;simp only at this;subst this;exact⟨1,rfl⟩
 |seqN _ _ ih1 ih2=>
  intro c e
  have:=oI c
  rw[e] at this
  obtain⟨x,y,rfl,h1,h2⟩:=this
  obtain⟨n,hn⟩:=ih1 h1
  obtain⟨m,hm⟩:=ih2 h2
  refine⟨max n m+1,?_⟩
  show((db Q (max n m)).code f x [] _ _).bind (nZ (db Q (max n m)) f y [])=_
  rw[(nk Q (sN n m)).code _ _ _ _ _ _ hn]
  exact(nk Q (sO n m)).code _ _ _ _ _ _ hm
 |seqX _ hx ih1=>
  intro c e
  have:=oI c
  rw[e] at this
  obtain⟨a,b,rfl,h1,h2⟩:=this
  obtain⟨n,hn⟩:=ih1 h1
  refine⟨n+1,?_⟩
  show((db Q n).code f a [] _ _).bind (nZ (db Q n) f b [])=_
  rw[hn]
  rename_i x _
  cases x
  ·exact absurd rfl hx
  ·rfl
  ·rfl
 |cond hv _ ih=>
  intro c e
  have:=oI c
  rw[e] at this
  obtain⟨a,b,rfl,h1,h2⟩:=this
  rename_i t _ _ _ _ _ _
  obtain⟨n,hn⟩:=ih (c:=if t then a else b) (by cases t<;>simp[h1,h2])
  refine⟨n+1,?_⟩
  show(ev _ _).bind (vL (db Q n) f a b [] _ _)=_
  rw[hv]
  cases t<;>exact hn
 |block _ ih=>
  intro c e
  have:=oI c
  rw[e] at this
  obtain⟨b,rfl,h1⟩:=this
  obtain⟨n,hn⟩:=ih h1
  refine⟨n+1,?_⟩
  show((db Q n).code f b [] _ _).bind (fun x=>some (oD _ x))=_
  rw[hn]
  rename_i id _ _ _ _ _ x _
  cases x
  ·rfl
  ·simp only[aq,oD,Ex.block]
   generalize bo _ _=q
   cases q<;>rfl
  ·rfl
 |scope _ ih=>
  intro c e
  have:=oI c
  rw[e] at this
  obtain⟨b,rfl,h1⟩:=this
  obtain⟨n,hn⟩:=ih h1
  exact⟨n+1,hn⟩
 |loopN _ _ ih1 ih2=>
  intro c e
  have:=oI c
  rw[e] at this
  obtain⟨b,rfl,h1⟩:=this
  obtain⟨n,hn⟩:=ih1 h1
  obtain⟨m,hm⟩:=ih2 (c:=.loop b) (by rw[cL,h1])
  refine⟨max n m+1,?_⟩
  show((db Q (max n m)).code f b [] _ _).bind (nZ (db Q (max n m)) f (.loop b) [])=_
  rw[(nk Q (sN n m)).code _ _ _ _ _ _ hn]
  exact(nk Q (sO n m)).code _ _ _ _ _ _ hm
 |loopX _ hx ih1=>
  intro c e
  have:=oI c
  rw[e] at this
  obtain⟨b,rfl,h1⟩:=this
  obtain⟨n,hn⟩:=ih1 h1
  refine⟨n+1,?_⟩
  show((db Q n).code f b [] _ _).bind (nZ (db Q n) f (.loop b) [])=_
  rw[hn]
  rename_i x _
  cases x
  ·exact absurd rfl hx
  ·rfl
  ·rfl
 |region hl=>
  intro c e
  have:=oI c
  rw[e] at this
  obtain⟨id,ops,rfl,h1⟩:=this
  obtain⟨n,hn⟩:=aov (all:=ops) (l:=ops.toList) hl h1.symm
  refine⟨n+1,?_⟩
  show((db Q n).ops f ops [] ops.toList _ _).bind (fun x=>some (Ex.normal,x.1,x.2))=_
  rw[hn];rfl
 |draw hl=>
  intro c e
  have:=oI c
  rw[e] at this
  obtain⟨id,ops,rfl,h1,h2,h3⟩:=this
  subst h1;subst h2
  obtain⟨n,hn⟩:=aow hl (l:=ops.toList) rfl
  refine⟨n+1,?_⟩
  show(bif lR ops 0 ops.toList (Region.before ops).toList then(db Q n).draw f ops (Region.before ops).toList [] [] 0 ops.toList _ _ else none).bind (fun x=>some (Ex.normal,x.1,x.2))=_
  rw[h3,cT,hn];rfl
 |rfun hv hb hr hg=>
  intro c e
  have:=oI c
  rw[e] at this
  obtain⟨ps,rfl,rfl⟩:=this
  obtain⟨n,hn⟩:=hr
  refine⟨n+1,?_⟩
  show(ev _ _).bind (sE Q (db Q n) f ps.toList _ _ [] _ _)=_
  rw[hv]
  simp only[aq,sE]
  rw[hb]
  simp only[cT,hn,aq,uS,hg]
end
def W (Q:cI) (f:FuncId) (c:SC) (fr:Fr) (s:St) (K:Ex->Fr->St->Prop):Prop:= ∃x fr' s',jz Q f c fr s x fr' s'/\K x fr' s'
def WL (Q:cI) (f:FuncId) (l:List cV) (fr:Fr) (s:St) (K:Fr->St->Prop):Prop:= ∃fr' s',pc Q f l fr s fr' s'/\K fr' s'
section
variable {Q:cI} {f:FuncId} {fr:Fr} {s:St} {K:Ex->Fr->St->Prop}
def Ex.next (K:Ex->Fr->St->Prop) (N:Fr->St->Prop):Ex->Fr->St->Prop
 | .normal=>N
 |x=>K x
theorem W.mono {c:SC} {K':Ex->Fr->St->Prop} (h:W Q f c fr s K) (hk: ∀x fr s,K x fr s->K' x fr s):W Q f c fr s K':=let⟨x,fr',s',h1,h2⟩:=h;⟨x,fr',s',h1,hk _ _ _ h2⟩
theorem W.skip (h:K .normal fr s):W Q f .skip fr s K:=⟨_,_,_,.skip,h⟩
theorem W.ret (h:K .ret fr s):W Q f .ret fr s K:=⟨_,_,_,.ret,h⟩
theorem W.exit {id:Nat} (h:K (.exit id) fr s):W Q f (.exit id) fr s K:=⟨_,_,_,.exit,h⟩
theorem W.seq {a b:SC} (h:W Q f a fr s (Ex.next K fun fr s=>W Q f b fr s K)):W Q f (.seq a b) fr s K:=by
 obtain⟨x,fr1,s1,h1,h2⟩:=h
 cases x with
 |normal=>obtain⟨y,fr2,s2,h3,h4⟩:=h2;exact⟨y,fr2,s2,.seqN h1 h3,h4⟩
 |exit i=>exact⟨_,_,_,.seqX h1 (by simp),h2⟩
 |ret=>exact⟨_,_,_,.seqX h1 (by simp),h2⟩
theorem W.cond {o:Operand} {a b:SC} {t:Bool} (hv:ev fr.env o=some (.bool t)) (h:W Q f (if t then a else b) fr s K):W Q f (.cond o a b) fr s K:=let⟨x,fr1,s1,h1,h2⟩:=h;⟨x,fr1,s1,.cond hv h1,h2⟩
theorem W.block {id:Nat} {b:SC} (h:W Q f b fr s fun x=>K (x.block id)):W Q f (.block id b) fr s K:=let⟨_x,fr1,s1,h1,h2⟩:=h;⟨_,fr1,s1,.block h1,h2⟩
theorem W.loop1 {b:SC} (h:W Q f b fr s (Ex.next K fun fr s=>W Q f (.loop b) fr s K)):W Q f (.loop b) fr s K:=by
 obtain⟨x,fr1,s1,h1,h2⟩:=h
 cases x with
 |normal=>obtain⟨y,fr2,s2,h3,h4⟩:=h2;exact⟨y,fr2,s2,.loopN h1 h3,h4⟩
 |exit i=>exact⟨_,_,_,.loopX h1 (by simp),h2⟩
 |ret=>exact⟨_,_,_,.loopX h1 (by simp),h2⟩
theorem W.region {ops:List cV} (h:WL Q f ops fr s fun fr s=>K .normal fr s):W Q f (.region ops) fr s K:=let⟨fr1,s1,h1,h2⟩:=h;⟨_,fr1,s1,.region h1,h2⟩
theorem W.draw {ops:List cV} {bs:List Nat} {fr1:Fr} {s1:St} (h:tN Q f bs [] 0 ops fr s=some (fr1,s1)) (hk:K .normal fr1 s1):W Q f (.draw ops bs) fr s K:=⟨_,_,_,.draw (.of h),hk⟩
theorem W.rfun {g:Operand} {ps:List Tmp} {a b:Code} {s1:St} {h:FuncId} {first captured:List aj} {v:aj} {f':FuncId} {env':bD aj} {size':Nat} {ps':List Tmp} {a' b':Code} {p:Option Ex} (hv:ev fr.env g=some (.func (.func h) first captured))
 (hb:(nc Q.P h&&(fr.env.all sq&&(fP a&&fP b)))=true) (hr:bv Q h (first++(.yld s.next::captured)) (s.new (.loop f fr.env fr.size ps a b none)) v s1) (hg:s1.get [] s.next=some (.loop f' env' size' ps' a' b' p))
 (hk:K (uN p) fr (s1.put s.next none)):W Q f (.rfun g ps a b) fr s K:=⟨_,_,_,.rfun hv hb hr hg,hk⟩
variable {N:Fr->St->Prop}
theorem WL.yld {o:cV} {c:Call} {l:List cV} {fr1:Fr} {s1:St} {n:Nat} {args:List aj} {v:aj} (hw:jc fr.env o.g=true) (ho:o.op= .call c)
 (hc:yieldee fr.env c=some (n,args)) (hr:qL Q n args s v s1) (hp:eZ fr o.dst v fr.loc=some fr1) (hk:WL Q f l fr1 s1 N):WL Q f (o::l) fr s N:=
 let⟨fr2,s2,h1,h2⟩:=hk;⟨fr2,s2,.yld hw ho hc hr hp h1,h2⟩
theorem qL.of {n:Nat} {args:List aj} {s':St} {env env':bD aj} {size:Nat} {ps:List Tmp} {a b:Code} {ca cb:SC} (h0:s.get [] n=some (.loop f env size ps a b none)) (h1:ps.all (fun t=>cg t size)=true) (h2:yL ps args env=some env') (ha:cL a=ca) (hb:cL b=cb)
 (h:W Q f ca ⟨env',size,[]⟩ (s.put n none) fun x fr s1=>x= .normal/\W Q f cb fr s1 fun x _ s2=>x= .normal/\s'=s2.put n (some (.loop f env size ps a b none))):qL Q n args s (.bool true) s':=by
 obtain⟨x,fr1,s1,r1,rfl,y,fr2,s2,r2,rfl,rfl⟩:=h
 obtain⟨k,hk⟩:=GQ r1 ha
 obtain⟨m,hm⟩:=GQ r2 hb
 have hk:=(nk Q (sN k m)).code _ _ _ _ _ _ hk
 have hm:=(nk Q (sO k m)).code _ _ _ _ _ _ hm
 refine⟨max k m,?_⟩
 unfold mc
 simp only[h0,aq,vf,h1,cT,h2,hk,tY,hm,ve]
theorem GM: ∀ {a b:List cV} {fr fr1 fr2:Fr} {s s1 s2:St},rj Q f a fr s=some (fr1,s1)->pc Q f b fr1 s1 fr2 s2->pc Q f (a++b) fr s fr2 s2
 | [],b,fr,fr1,fr2,s,s1,s2,h,h'=>by
   simp only[rj,bp,bX] at h
   obtain⟨rfl,rfl⟩:=h;exact h'
 |o::a,b,fr,fr1,fr2,s,s1,s2,h,h'=>by
  simp only[rj,aN] at h
  obtain⟨⟨x,y⟩,h1,h2⟩:=h
  exact .step h1 (GM h2 h')
theorem WL.run {ops:List cV} {fr1:Fr} {s1:St} (h:rj Q f ops fr s=some (fr1,s1)) (hk:N fr1 s1):WL Q f ops fr s N:=
 ⟨fr1,s1,by have:=GM h .nil;rwa [iQ] at this,hk⟩
theorem WL.app {a b:List cV} {fr1:Fr} {s1:St} (h:rj Q f a fr s=some (fr1,s1)) (hk:WL Q f b fr1 s1 N):WL Q f (a++b) fr s N:=
 let⟨fr2,s2,h1,h2⟩:=hk;⟨fr2,s2,GM h h1,h2⟩
theorem WL.call {o:cV} {c:Call} {l:List cV} {fr1:Fr} {s1:St} {g:FuncId} {args:List aj} {v:aj} (hw:jc fr.env o.g=true) (ho:o.op= .call c) (hn: ∀b,c.callee≠ .builtin b)
 (hc:callee fr.env c=some (g,args)) (hr:bv Q g args s v s1) (hp:eZ fr o.dst v fr.loc=some fr1) (hk:WL Q f l fr1 s1 N):WL Q f (o::l) fr s N:=
 let⟨fr2,s2,h1,h2⟩:=hk;⟨fr2,s2,.call hw ho hn hc hr hp h1,h2⟩
noncomputable def dr (n:Nat) (args:List aj):Fr:=⟨cZ 0 args,bif cK args.length n then n else args.length,[]⟩
theorem bv.of {fn:Func} {c:Code} {sc:SC} {args:List aj} {v:aj} {s':St} (hf:Q.P.funcs[f]? =some fn) (hb:fn.body=some c) (hsp:Q.spec f=none) (hcc:cL c=sc)
 (h:W Q f sc (dr fn.ntmps args) s fun x fr' s1=>s1=s'/\(x= .normal\/x= .ret)/\ ∃vs,gL Q [] fr' s1 fn.results.toList=some vs/\jO vs=v) (hH:Q.specH f=none:=by rfl) (hW:Q.specW f=none:=by rfl):bv Q f args s v s':=by
 obtain⟨x,fr',s1,h1,rfl,h3,vs,h4,h5⟩:=h
 obtain⟨n,hn⟩:=GQ h1 hcc
 refine⟨n+1,?_⟩
 show j8 Q (db Q n) f args [] s=_
 unfold j8
 rw[hsp]
 simp only[hH,hW,hf,aq,hb]
 have hn:(db Q n).code f c [] ⟨cZ 0 args,bif cK args.length fn.ntmps then fn.ntmps else args.length,[]⟩ s=some (x,fr',s1):=hn
 rw[hn]
 rcases h3 with rfl|rfl<;>simp only[aq,oK,h4,h5]
theorem bv.specW {sp:List aj->Option uj} {args:List aj} {n:Nat} {g:List aj->Option (List aj)} {cs cs':List aj} (hsp:Q.spec f=none) (hH:Q.specH f=none) (hW:Q.specW f=some sp) (h1:sp args=some (some (n,g))) (h2:s.get [] n=some (.cells cs)) (h3:g cs=some cs'):
 bv Q f args s (.tup []) (s.put n (some (.cells cs'))):=by
 refine⟨1,?_⟩
 show j8 Q (db Q 0) f args [] s=_
 unfold j8
 rw[hsp]
 simp only[hH,hW,h1,h2,aq,rc,wQ,h3]
theorem bv.specW0 {sp:List aj->Option uj} {args:List aj} (hsp:Q.spec f=none) (hH:Q.specH f=none) (hW:Q.specW f=some sp) (h1:sp args=some none):bv Q f args s (.tup []) s:=by
 refine⟨1,?_⟩
 show j8 Q (db Q 0) f args [] s=_
 unfold j8
 rw[hsp]
 simp only[hH,hW,h1,aq,rc]
end
def eU (g:aj->Option aj):List aj->Option (List aj)
 | []=>some []
 |v::l=>(g v).bind fun a=>(eU g l).bind fun r=>some (a::r)
noncomputable def dt (h:bD bR):Nat->aj->Option aj
 |0,_=>none
 |k+1,v=>match v with
  | .agg cs=>(eU (dt h k) cs).bind fun r=>some (.agg r)
  | .tup cs=>(eU (dt h k) cs).bind fun r=>some (.tup r)
  | .list sz xs r=>(eU (dt h k) xs).bind fun ys=>some (.list sz ys (match r with| .own _=>.no|r=>r))
  | .arr sz n off len _=>match h.get n with
    |some (.cells cs)=>(cut cs off (len*sz)).bind fun c=>(eU (dt h k) c).bind fun c'=>(iL (!bo sz 1) sz len c').bind fun xs=>some (.list sz xs .no)
    |_=>none
  | .bool b=>some (.bool b)
  | .int k n=>some (.int k n)
  | .str s=>some (.str s)
  | .nilp=>some .nilp
  | .nils=>some .nils
  | .nilm=>some .nilm
  | .nilf=>some .nilf
  | .nili=>some .nili
  |_=>none
theorem ux {g g':aj->Option aj} (hg: ∀v u,g v=some u->g' v=some u): ∀ {l r:List aj},eU g l=some r->eU g' l=some r
 | [],_,h=>h
 |v::l,r,h=>by
  simp only[eU,aN] at h ⊢
  obtain⟨a,h1,r',h2,h3⟩:=h
  exact⟨a,hg _ _ h1,r',ux hg h2,h3⟩
theorem uy (h:bD bR): ∀(k:Nat) (v u:aj),dt h k v=some u->dt h (k+1) v=some u
 |0,_,_,e=>by cases e
 |k+1,v,u,e=>by
  have ih:=uy h k
  cases v<;>simp only[dt] at e ⊢ <;>first
   |exact e
   |(simp only[aN] at e ⊢
     obtain⟨r,h1,h2⟩:=e
     exact⟨r,ux ih h1,h2⟩)
   |skip
  split at e
  ·rename_i hcs
   simp only[aN] at e ⊢
   obtain⟨c,h1,c',h2,h3⟩:=e
   exact⟨c,h1,c',ux ih h2,h3⟩
  ·cases e
theorem zB (h:bD bR) {k m:Nat} (hk:k<=m) {v u:aj} (e:dt h k v=some u):dt h m v=some u:=by
 induction m with
 |zero=>have:k=0:=by omega
        subst this;exact e
 |succ m ih=>
  by_cases hm:k=m+1
  ·subst hm;exact e
  ·exact uy h m v u (ih (by omega))
def j5 (h:bD bR) (v u:aj):Prop:= ∃k,dt h k v=some u
theorem j5.unique {h:bD bR} {v u u':aj} (a:j5 h v u) (b:j5 h v u'):u=u':=by
 obtain⟨k,hk⟩:=a
 obtain⟨m,hm⟩:=b
 have h1:=zB h (sN k m) hk
 have h2:=zB h (sO k m) hm
 rw[h1] at h2;exact Option.some.inj h2
noncomputable def xP (h:bD bR) (v:aj):Option aj:=by
 classical exact if e: ∃u,j5 h v u then some e.choose else none
theorem aaW {h:bD bR} {v u:aj} (e:j5 h v u):xP h v=some u:=by
 unfold xP
 rw[dif_pos ⟨u,e⟩]
 exact congrArg some ((Exists.choose_spec (p:=fun u=>j5 h v u) ⟨u,e⟩).unique e)
theorem aaX {h:bD bR} {v u:aj} (e:xP h v=some u):j5 h v u:=by
 unfold xP at e
 split at e
 ·rename_i x
  injection e with e;subst e
  exact x.choose_spec
 ·cases e
theorem zA {g:aj->Option aj}: ∀ {l r:List aj},eU g l=some r-> ∀(i:Nat) u,r[i]? =some u-> ∃v,l[i]? =some v/\g v=some u
 | [],r,h,i,u,hi=>by
   simp only[eU,bp] at h;subst h;simp at hi
 |v::l,r,h,i,u,hi=>by
  simp only[eU,aN,bp] at h
  obtain⟨a,h1,r',h2,rfl⟩:=h
  cases i with
  |zero=>simp at hi;subst hi;exact⟨v,by simp,h1⟩
  |succ i=>simp at hi;obtain⟨x,h3,h4⟩:=zA h2 i u hi;exact⟨x,by simpa using h3,h4⟩
theorem DJ {g:aj->Option aj}: ∀ {l r:List aj},eU g l=some r->r.length=l.length
 | [],r,h=>by simp only[eU,bp] at h;subst h;rfl
 |v::l,r,h=>by
  simp only[eU,aN,bp] at h
  obtain⟨a,h1,r',h2,rfl⟩:=h
  simp[DJ h2]
theorem DL {h:bD bR} {k:Nat} {v u:aj} (e:dt h k v=some u) (hs:v.scal=true):u.scal=true:=by
 cases k with
 |zero=>cases e
 |succ k=>
  cases v<;>simp only[dt] at e<;>first
   |(simp[aj.scal] at hs;done)
   |(injection e with e;subst e;rfl)
   |(cases e;done)
   |(simp only[aN,bp] at e;obtain⟨_,_,rfl⟩:=e;rfl)
   |(split at e
     ·simp only[aN,bp] at e;obtain⟨_,_,_,_,_,_,rfl⟩:=e;rfl
     ·cases e)
theorem Jq {h:bD bR} {k:Nat} {v u:aj} (e:dt h k v=some u): ∃m,eU (dt h m) v.cells=some u.cells:=by
 cases k with
 |zero=>cases e
 |succ k=>
  by_cases hv: ∃cs,v= .agg cs
  ·obtain⟨cs,rfl⟩:=hv
   simp only[dt,aN,bp] at e
   obtain⟨r,h1,rfl⟩:=e
   exact⟨k,h1⟩
  ·have hc:v.cells=[v]:=by cases v<;>first|rfl|exact absurd ⟨_,rfl⟩ hv
   have hu:u.cells=[u]:=by
    cases v<;>simp only[dt] at e<;>first
     |exact absurd ⟨_,rfl⟩ hv
     |(injection e with e;subst e;rfl)
     |(cases e;done)
     |(simp only[aN,bp] at e;obtain⟨_,_,rfl⟩:=e;rfl)
     |(split at e
       ·simp only[aN,bp] at e;obtain⟨_,_,_,_,_,_,rfl⟩:=e;rfl
       ·cases e)
   refine⟨k+1,?_⟩
   rw[hc,hu]
   simp only[eU,e,aq]
theorem Jp {h:bD bR} {k:Nat}: ∀ {xs ys:List aj},eU (dt h k) xs=some ys-> ∃m,eU (dt h m) (cj xs)=some (cj ys)
 | [],ys,e=>by simp only[eU,bp] at e;subst e;exact⟨0,rfl⟩
 |x::xs,ys,e=>by
  simp only[eU,aN,bp] at e
  obtain⟨a,h1,r,h2,rfl⟩:=e
  obtain⟨m1,h3⟩:=Jq h1
  obtain⟨m2,h4⟩:=Jp h2
  refine⟨max m1 m2,?_⟩
  simp only[cj]
  have h3:=ux (g':=dt h (max m1 m2)) (fun v u e=>zB h (sN _ _) e) h3
  have h4:=ux (g':=dt h (max m1 m2)) (fun v u e=>zB h (sO _ _) e) h4
  clear h1 h2
  generalize x.cells=c at h3
  generalize a.cells=d at h3
  induction c generalizing d with
  |nil=>simp only[eU,bp] at h3;subst h3;simpa using h4
  |cons v c ih=>
   simp only[eU,aN,bp] at h3
   obtain⟨u,h5,r',h6,rfl⟩:=h3
   have:=ih _ h6
   simp only[List.cons_append,eU,h5,this,aq]
theorem Jt {h:bD bR}: ∀ {k:Nat} {v u:aj},cx v=true->dt h k v=some u->u=v
 |0,_,_,_,e=>by cases e
 |k+1,v,u,hp,e=>by
  have hL: ∀ {l r:List aj},pures l=true->eU (dt h k) l=some r->r=l:=by
   intro l
   induction l with
   |nil=>intro r _ e;simp only[eU,bp] at e;exact e.symm
   |cons v l ih=>
    intro r hp e
    simp only[pures,df] at hp
    simp only[eU,aN,bp] at e
    obtain⟨a,h1,r',h2,rfl⟩:=e
    rw[Jt hp.1 h1,ih hp.2 h2]
  cases v<;>simp only[dt] at e<;>first
   |(injection e with e;exact e.symm)
   |(cases e;done)
   |(simp[cx] at hp;done)
   |(simp only[cx] at hp
     simp only[aN,bp] at e
     obtain⟨r,h1,rfl⟩:=e
     rw[hL hp h1])
   |skip
  rename_i sz xs r
  simp only[cx,df] at hp
  simp only[aN,bp] at e
  obtain⟨ys,h1,rfl⟩:=e
  rw[hL hp.1 h1]
  cases r<;>first|rfl|(simp at hp)
def sU (G:Gh) (h:bD bR) (b o:Nat) (u:aj):Prop:= ∃n a cs i,h.get n=some (.cells cs)/\G.at_ n=some a/\a.block=b/\o=a.off+i/\cs[i]? =some u
theorem sU.unique {G:Gh} {h:bD bR} {w:World} (wr:WR G h w) {b o:Nat} {u u':aj} (x:sU G h b o u) (y:sU G h b o u'):u=u':=by
 obtain⟨n,a,cs,i,h1,h2,h3,h4,h5⟩:=x
 obtain⟨m,c,ds,j,g1,g2,g3,g4,g5⟩:=y
 have e:n=m:=wr.sep n m a c (by rw[h1];simp) (by rw[g1];simp) h2 g2 (by rw[h3,g3])
 subst e
 rw[h1] at g1;injection g1 with g1;injection g1 with g1;subst g1
 rw[h2] at g2;injection g2 with g2;subst g2
 have:i=j:=by omega
 subst this
 rw[h5] at g5;exact Option.some.inj g5
noncomputable def qN (G:Gh) (h:bD bR) (b o:Nat):Option aj:=by
 classical exact(G.ro b o).or (if e: ∃u,sU G h b o u then some e.choose else none)
theorem YE {G:Gh} {h:bD bR} {b o:Nat} {u:aj} (e:G.ro b o=some u):qN G h b o=some u:=by simp[qN,e]
theorem YD {G:Gh} {h:bD bR} {w:World} (wr:WR G h w) {b o:Nat} {u:aj} (e:sU G h b o u):qN G h b o=some u:=by
 have h0:G.ro b o=none:=by
  cases e':G.ro b o with
  |none=>rfl
  |some v=>
   obtain⟨n,a,cs,i,h1,h2,h3,h4,h5⟩:=e
   have:=wr.apart n _ a o v h1 h2 (by rw[h3];exact e')
   cases this.1
 unfold qN
 rw[h0,sQ,dif_pos ⟨u,e⟩]
 exact congrArg some (sU.unique wr (Exists.choose_spec (p:=fun u=>sU G h b o u) ⟨u,e⟩) e)
theorem Ik {G:Gh} {h:bD bR} {b o:Nat} {u:aj} (e:qN G h b o=some u):G.ro b o=some u\/sU G h b o u:=by
 unfold qN at e
 cases e':G.ro b o with
 |some v=>rw[e'] at e;simp at e;exact .inl (by rw[e])
 |none=>
  rw[e',sQ] at e
  split at e
  ·rename_i x
   injection e with e;subst e
   exact .inr x.choose_spec
  ·cases e
noncomputable def Gh.froze (G G1:Gh) (h1:bD bR):Gh where
 at_:=G.at_
 ro b o:=(G.ro b o).or ((qN G1 h1 b o).bind (xP h1))
 dim:=G.dim
section
variable {G1 G2:Gh} {h1:bD bR}
theorem thaw (hro: ∀b o u u',qN G1 h1 b o=some u->j5 h1 u u'->G2.ro b o=some u') {w:World} (wr:WR G1 h1 w): ∀(k:Nat) {v u:aj} {x:Value},VR G1 v x->dt h1 k v=some u->VR G2 u x
 |0,_,_,_,_,e=>by cases e
 |k+1,v,u,x,hv,e=>by
  have ih: ∀ {vs us:List aj} {xs:List Value},cU G1 vs xs->eU (dt h1 k) vs=some us->cU G2 us xs:=by
   intro vs
   induction vs with
   |nil=>intro us xs h e;cases h;simp only[eU,bp] at e;subst e;exact .nil
   |cons v vs ihv=>
    intro us xs h e
    cases h with
    |cons a b=>
     simp only[eU,aN,bp] at e
     obtain⟨u,h3,r,h4,rfl⟩:=e
     exact .cons (thaw hro wr k a h3) (ihv b h4)
  have hscals: ∀ {cs us:List aj},dY cs=true->eU (dt h1 k) cs=some us->dY us=true:=by
   intro cs
   induction cs with
   |nil=>intro us _ e;simp only[eU,bp] at e;subst e;rfl
   |cons v vs ihv=>
    intro us h e
    simp only[dY,li,df] at h
    simp only[eU,aN,bp] at e
    obtain⟨u,h3,r,h4,rfl⟩:=e
    simp only[dY,li,df]
    exact⟨DL h3 h.1,ihv h.2 h4⟩
  cases hv with
  |bool b=>simp only[dt,bp] at e;subst e;exact .bool b
  |int k n=>simp only[dt,bp] at e;subst e;exact .int k n
  |str s=>simp only[dt,bp] at e;subst e;exact .str s
  |nilp=>simp only[dt,bp] at e;subst e;exact .nilp
  |nils=>simp only[dt,bp] at e;subst e;exact .nils
  |nilm=>simp only[dt,bp] at e;subst e;exact .nilm
  |nilf=>simp only[dt,bp] at e;subst e;exact .nilf
  |nili=>simp only[dt,bp] at e;subst e;exact .nili
  |ptr _=>simp[dt] at e
  |ro _=>simp[dt] at e
  |map _=>simp[dt] at e
  |func _ _=>simp[dt] at e
  |iface _=>simp[dt] at e
  |yld _=>simp[dt] at e
  |roz _=>simp[dt] at e
  |agg hc hs=>
   simp only[dt,aN,bp] at e
   obtain⟨r,h3,rfl⟩:=e
   exact .agg (hscals hc h3) (ih hs h3)
  |tup hs=>
   simp only[dt,aN,bp] at e
   obtain⟨r,h3,rfl⟩:=e
   exact .tup (ih hs h3)
  |list a b c d e' f=>
   rename_i sz xs r ad cap
   simp only[dt,aN,bp] at e
   obtain⟨ys,h3,rfl⟩:=e
   have hlen:=DJ h3
   rw[<-hlen]
   refine .list a b ?_ (by rw[hlen];exact d) ?_ ?_
   ·intro y hy
    obtain⟨i,hi⟩:=B6 hy
    obtain⟨v,hv,h4⟩:=zA h3 i y hi
    obtain⟨m,h5⟩:=Jq h4
    rw[DJ h5]
    exact c v (kE hv)
   ·intro i y hy
    obtain⟨m,h4⟩:=Jp h3
    obtain⟨v,hv,h5⟩:=zA h4 i y hy
    exact hro _ _ v y (YE (e' i v hv)) ⟨m,h5⟩
   ·cases r with
    |full=>rw[hlen];exact f
    |own n=>exact trivial
    |no=>exact trivial
  |arr a b c d e' f g i=>
   rename_i sz n off len lcap ad bd cap dm
   simp only[dt] at e
   split at e
   ·rename_i cs hcs
    simp only[aN,bp] at e
    obtain⟨cc,h3,c',h4,xs,h5,rfl⟩:=e
    obtain⟨ad',ho1,ho2,C,et,ho3,ho4,ho5⟩:=wr.obj n _ hcs
    rw[a] at ho1;injection ho1 with ho1;subst ho1
    have hsc:dY cc=true:=by
     simp only[dY,oc]
     intro v hv
     obtain⟨j,hj⟩:=B6 hv
     exact(ho5 _ v (xE h3 hj)).1
    obtain⟨q1,q2,q3⟩:=vG (g:= !bo sz 1) (sz:=sz) (fun hh=>by
     have:bo sz 1=true:=by simpa using hh
     exact fN this) h5 (hscals hsc h4)
    have:VR G2 (.list sz xs .no) (.slice (some ad) xs.length cap):=by
     refine .list (.inr b) c q3 (by omega) ?_ trivial
     intro j y hy
     rw[q2] at hy
     obtain⟨v,hv,h6⟩:=zA h4 j y hy
     have hcell:=xE h3 hv
     rcases f with f|⟨f1,f2⟩
     ·have hl:len=0:=by omega
      have:=(vM h3).2
      rw[hl,Nat.zero_mul] at this
      rw[List.length_eq_zero_iff.1 this] at hv
      simp at hv
     ·refine hro _ _ v y (YD wr ⟨n,bd,cs,off+j,hcs,a,f1.symm,?_,hcell⟩) ⟨k,h6⟩
      rw[f2];omega
    rw[q1] at this
    exact this
   ·cases e
end
mutual
def iZ:aj->Bool
 | .agg cs=>jv cs
 | .tup cs=>jv cs
 | .list _ xs _=>pures xs
 |v=>cx v
def jv:List aj->Bool
 | []=>true
 |v::l=>iZ v&&jv l
end
mutual
theorem VR.top {G1 G2:Gh} (k:xl G1 G2): ∀ {v:aj} {x:Value},VR G1 v x->iZ v=true->VR G2 (weak v) x
 |_,_,.bool b,_=>.bool b
 |_,_,.int k n,_=>.int k n
 |_,_,.str s,_=>.str s
 |_,_,.agg hc hs,h=>.agg (aoM hc) (cU.top k hs (by simpa[iZ] using h))
 |_,_,.tup hs,h=>.tup (cU.top k hs (by simpa[iZ] using h))
 |_,_,.nilp,_=>.nilp
 |_,_,.ptr e,h=>by simp[iZ,cx] at h
 |_,_,.ro (cs:=cs) e,h=>by
  have h:pures cs=true:=by simpa[iZ,cx] using h
  rw[weak,iP h]
  exact .ro fun i x hx=>k _ _ _ (e i x hx) (Bo h hx)
 |_,_,.nils,_=>.nils
 |_,_,.list (xs:=xs) (r:=r) a b c d e f,h=>by
  have h:pures xs=true:=by simpa[iZ] using h
  simp only[weak,iP h]
  refine .list a b c d (fun i x hx=>k _ _ _ (e i x hx) (Bo (Vp h) hx)) ?_
  cases r with
  |full=>exact f
  |own n=>exact trivial
  |no=>exact trivial
 |_,_,.arr ..,h=>by simp[iZ,cx] at h
 |_,_,.nilm,_=>.nilm
 |_,_,.map e,h=>by simp[iZ,cx] at h
 |_,_,.nilf,_=>.nilf
 |_,_,.func (first:=f) (captured:=g) a b,h=>by
  have h:pures f=true/\pures g=true:=by simpa[iZ,cx] using h
  simp only[weak,iP h.1,iP h.2]
  exact .func (cU.onto k a h.1) (cU.onto k b h.2)
 |_,_,.nili,_=>.nili
 |_,_,.iface (v:=v) e,h=>by
  have h:cx v=true:=by simpa[iZ,cx] using h
  simp only[weak,BW h]
  exact .iface (VR.onto k e h)
 |_,_,.yld _,h=>by simp[iZ,cx] at h
 |_,_,.roz _,h=>by simp[iZ,cx] at h
theorem cU.top {G1 G2:Gh} (k:xl G1 G2): ∀ {vs:List aj} {xs:List Value},cU G1 vs xs->jv vs=true->cU G2 (eX vs) xs
 |_,_,.nil,_=>.nil
 |_,_,.cons a b,h=>by
  simp only[jv,df] at h
  exact .cons (VR.top k a h.1) (cU.top k b h.2)
end
theorem Jr {h h':bD bR} (hh: ∀n o,h.get n=some o->h'.get n=some o): ∀(k:Nat) (v u:aj),dt h k v=some u->dt h' k v=some u
 |0,_,_,e=>by cases e
 |k+1,v,u,e=>by
  have ih:=Jr hh k
  cases v<;>simp only[dt] at e ⊢ <;>first
   |exact e
   |(simp only[aN] at e ⊢
     obtain⟨r,h1,h2⟩:=e
     exact⟨r,ux ih h1,h2⟩)
   |skip
  split at e
  ·rename_i hcs
   rw[hh _ _ hcs]
   simp only[aN] at e ⊢
   obtain⟨c,h1,c',h2,h3⟩:=e
   exact⟨c,h1,c',ux ih h2,h3⟩
  ·cases e
theorem G3 {Q:cI} (hg:Good Q) {f:FuncId} {n:Nat} (hk: ∀i,0<Q.kmax i) {args:List aj} {u:aj} (hp:jv args=true)
 (he: ∀ch,kH Q ch-> ∃v s',(db (Q.at ch) n).call f (eX args) [] s0=some (v,s')/\j5 s'.heap v u) (G:Gh) (h:bD bR) (w:World) (xs:List Value) (wr:WR G h w) (hx:cU G args xs):
 lp Q.P f ⟨xs⟩ w fun y w'=> ∃G',WR G' h w'/\dF G h w G' h w' 0 0/\VR G' u y:=by
 have pre:lr [] (fun _=>True) G.plain s0 s0 w:=⟨fun n _=>rfl,.refl _ _,wr.plain,fun _ _ _=>rfl⟩
 have hc:=(XT hg n).1 f (eX args) [] s0 s0 G.plain w xs (fun _=>0) (fun _=>True) pre (hx.top (Vk G) hp) hk (fun ch' _ hi=>by
  obtain⟨v,s',h1,_⟩:=he ch' hi
  exact⟨v,s',h1,fun _ _ _=>trivial⟩)
 refine hc.mono ?_
 rintro y w' ⟨ch',v,s',s2',G1,c⟩
 have hvv:j5 s2'.heap v u:=by
  obtain⟨v1,s1,h1,h2⟩:=he ch' c.inb
  have h3:=c.eval
  rw[h1] at h3
  simp only[bp,bX] at h3
  obtain⟨rfl,rfl⟩:=h3
  have goes:gI [] s0 s1:=((kO Q n).call f (eX args) [] ch' s0 v1 s1 h1).1
  have sees:iR [] s1 s2':=c.same.sees (.refl _ _) goes
  obtain⟨k,hk⟩:=h2
  exact⟨k,Jr (fun n o e=>sees.get n o rfl e) k _ _ hk⟩
 have ext:dF G.plain .nil w G1 s2'.heap w' 0 s'.next:=c.ext
 have kept: ∀b,b<w.heap.size->w'.heap[b]? =w.heap[b]? :=fun b hb=>ext.keep b hb A8
 have old: ∀b o u,b<w.heap.size->qN G1 s2'.heap b o=some u->G.ro b o=some u/\cx u=true:=by
  intro b o u hb hu
  rcases Ik hu with hu|⟨m,a,cs,i,h1,h2,h3,_,_⟩
  ·cases e:G.plain.ro b o with
   |none=>exact absurd (ext.cells b o u hb hu e) A8
   |some u'=>
    have:=ext.le.ro b o u' e
    rw[hu] at this;injection this with this;subst this
    simp only[Gh.plain,aN] at e
    obtain⟨z,hz,e⟩:=e
    split at e
    ·injection e with e;subst e;exact⟨hz,by assumption⟩
    ·cases e
  ·exact absurd (ext.owns b hb ⟨m,a,by rw[h1];simp,h2,h3⟩) A8
 have hle:G.le (G.froze G1 s2'.heap):=⟨fun _ _ h=>h,fun b o u h=>by simp[Gh.froze,h],fun _ _ h=>h⟩
 have back: ∀b o u u',qN G1 s2'.heap b o=some u->j5 s2'.heap u u'->(G.froze G1 s2'.heap).ro b o=some u':=by
  intro b o u u' hu hf
  cases e:G.ro b o with
  |none=>simp[Gh.froze,e,hu,aaW hf]
  |some z=>
   obtain⟨h1,h2⟩:=old b o u (wr.ro_lt e) hu
   obtain⟨k,hk⟩:=hf
   have:=Jt h2 hk
   subst this
   simp only[Gh.froze,h1,Option.some_or]
 have cell: ∀b o x,b<w.heap.size->w.cell? ⟨b,o,none⟩=some x->w'.cell? ⟨b,o,none⟩=some x:=by
  intro b o x hb hx
  have:=kept b hb
  unfold World.cell? at hx ⊢
  rw[this];exact hx
 obtain⟨kk,hkk⟩:=hvv
 refine⟨G.froze G1 s2'.heap,⟨?_,?_,?_,?_,?_,?_⟩,⟨hle,ext.size,fun b hb _=>kept b hb,fun b _ o=>o,?_,?_,ext.quiet⟩,thaw back c.wr kk c.val hkk⟩
 ·intro n o hn
  obtain⟨a,h1,h2,h3⟩:=wr.obj n o hn
  exact⟨a,h1,h2,(h3.mono hle).of_block (kept _ (wr.below n a h1))⟩
 ·exact wr.sep
 ·intro b o u hu
  cases e:G.ro b o with
  |some z=>
   have:u=z:=by simp only[Gh.froze,e,Option.some_or,bp] at hu;exact hu.symm
   subst this
   obtain⟨h1,y,h2,h3⟩:=wr.ro b o u e
   exact⟨h1,y,cell b o y (wr.ro_lt e) h2,h3.mono hle⟩
  |none=>
   simp only[Gh.froze,e,sQ,aN] at hu
   obtain⟨z,hz,hu⟩:=hu
   obtain⟨k,hk⟩:=aaX hu
   rcases Ik hz with hz'|⟨m,a,cs,i,h1,h2,h3,h4,h5⟩
   ·obtain⟨h1,y,h2,h3⟩:=c.wr.ro b o z hz'
    exact⟨DL hk h1,y,h2,thaw back c.wr k h3 hk⟩
   ·obtain⟨a',g1,g2,C,et,g3,g4,g5⟩:=c.wr.obj m _ h1
    rw[h2] at g1;injection g1 with g1;subst g1
    obtain⟨r1,y,r2,r3⟩:=g5 i z h5
    refine⟨DL hk r1,y,?_,thaw back c.wr k r3 hk⟩
    rw[h3] at g3
    rw[oE g3,h4];exact r2
 ·intro n ob a i u hn ha hu
  cases e:G.ro a.block i with
  |some z=>exact wr.apart n ob a i z hn ha e
  |none=>
   simp only[Gh.froze,e,sQ,aN] at hu
   obtain⟨z,hz,_⟩:=hu
   have:=(old _ _ _ (wr.below n a ha) hz).1
   rw[e] at this;cases this
 ·intro b d hd
  obtain⟨C,e,h1,h2⟩:=wr.dim b d hd
  exact⟨C,e,(kept b (ia h1)).trans h1,h2⟩
 ·intro n a ha
  exact Nat.lt_of_lt_of_le (wr.below n a ha) ext.size
 ·intro n a h1 h2
  have h1:G.at_ n=some a:=h1
  rw[h2] at h1;cases h1
 ·intro b o u hb hu e
  simp only[Gh.froze,e,sQ,aN] at hu
  obtain⟨z,hz,_⟩:=hu
  have:=(old _ _ _ hb hz).1
  rw[e] at this;cases this
theorem fD {Q:cI} (hg:Good Q) {f:FuncId} (hk: ∀i,0<Q.kmax i) {args:List aj} {v u:aj} {s':St} (hp:jv args=true)
 (hr:bv Q f (eX args) s0 v s') (hci:s'.ci=0) (hu:j5 s'.heap v u) (G:Gh) (h:bD bR) (w:World) (xs:List Value) (wr:WR G h w) (hx:cU G args xs):
 lp Q.P f ⟨xs⟩ w fun y w'=> ∃G',WR G' h w'/\dF G h w G' h w' 0 0/\VR G' u y:=by
 obtain⟨n,hn⟩:=hr
 refine G3 (n:=n) hg hk hp (fun ch _=>⟨v,s',?_,hu⟩) G h w xs wr hx
 have:(db (Q.at Q.ch) n).call f (eX args) [] s0=some (v,s'):=hn
 exact(qn Q n).call f (eX args) [] Q.ch s0 v s' this ch (fun i hi=>by rw[hci] at hi;omega)
section
variable {Q:cI} {f:FuncId}
def tG (x:Option (aj×Loc×St)) (K:aj->Loc->St->Prop):Prop:=
 match x with
 |some (v,l,s)=>K v l s
 |none=>False
def WP (Q:cI) (f:FuncId) (ops:List cV) (fr:Fr) (s:St) (N:Fr->St->Prop):Prop:= ∃fr' s',rj Q f ops fr s=some (fr',s')/\N fr' s'
theorem aw {fr:Fr} {s:St} {N:Fr->St->Prop}:WP Q f [] fr s N=N fr s:=by
 apply propext
 constructor
 ·rintro⟨fr',s',h,hn⟩
  simp only[rj,bp,bX] at h
  obtain⟨rfl,rfl⟩:=h;exact hn
 ·exact fun h=>⟨fr,s,rfl,h⟩
theorem Cp {o:cV} {l:List cV} {fr:Fr} {s:St} {N:Fr->St->Prop}:WP Q f (o::l) fr s N=(∃fr1 s1,uZ Q f o fr s=some (fr1,s1)/\WP Q f l fr1 s1 N):=by
 apply propext
 constructor
 ·rintro⟨fr',s',h,hn⟩
  simp only[rj,aN] at h
  obtain⟨⟨fr1,s1⟩,h1,h2⟩:=h
  exact⟨fr1,s1,h1,fr',s',h2,hn⟩
 ·rintro⟨fr1,s1,h1,fr',s',h2,hn⟩
  refine⟨fr',s',?_,hn⟩
  simp only[rj,h1,aq,h2]
theorem HP {d:Tmp} {op:Op} {g:SG} {l:List cV} {e:bq} {sz:Nat} {lc:Loc} {s:St} {N:Fr->St->Prop} (hw:jc e g=true):
 WP Q f (⟨some d,op,g⟩::l) ⟨e,sz,lc⟩ s N=tG (eP Q f ⟨some d,op,g⟩ [] ⟨e,sz,lc⟩ s) fun v lc' s'=>d<sz/\WP Q f l ⟨e.set d (some v),sz,lc'⟩ s' N:=by
 rw[Cp]
 simp only[uZ,hw,cT]
 cases h:eP Q f ⟨some d,op,g⟩ [] ⟨e,sz,lc⟩ s with
 |none=>simp[tG]
 |some x=>
  obtain⟨v,lc',s'⟩:=x
  simp only[aq,tG,eZ]
  by_cases hd:d<sz
  ·have:cg d sz=true:=fe hd
   simp only[this,cT,aq,bp,bX,hd,tA]
   apply propext
   constructor
   ·rintro⟨_,_,⟨rfl,rfl⟩,h⟩;exact h
   ·exact fun h=>⟨_,_,⟨rfl,rfl⟩,h⟩
  ·have:cg d sz=false:=by
    cases h:cg d sz with
    |false=>rfl
    |true=>exact absurd (iu h) hd
   simp[this,hd]
theorem Xz {op:Op} {g:SG} {l:List cV} {e:bq} {sz:Nat} {lc:Loc} {s:St} {N:Fr->St->Prop} (hw:jc e g=true):
 WP Q f (⟨none,op,g⟩::l) ⟨e,sz,lc⟩ s N=tG (eP Q f ⟨none,op,g⟩ [] ⟨e,sz,lc⟩ s) fun _ lc' s'=>WP Q f l ⟨e,sz,lc'⟩ s' N:=by
 rw[Cp]
 simp only[uZ,hw,cT]
 cases h:eP Q f ⟨none,op,g⟩ [] ⟨e,sz,lc⟩ s with
 |none=>simp[tG]
 |some x=>
  obtain⟨v,lc',s'⟩:=x
  simp only[aq,tG,eZ,bp,bX]
  apply propext
  constructor
  ·rintro⟨_,_,⟨rfl,rfl⟩,h⟩;exact h
  ·exact fun h=>⟨_,_,⟨rfl,rfl⟩,h⟩
theorem XA {d:Tmp} {op:Op} {g:SG} {l:List cV} {e:bq} {sz:Nat} {lc:Loc} {s:St} {N:Fr->St->Prop} (hw:jc e g=false):
 WP Q f (⟨some d,op,g⟩::l) ⟨e,sz,lc⟩ s N=(d<sz/\WP Q f l ⟨e.set d (some iB),sz,lc⟩ s N):=by
 rw[Cp]
 simp only[uZ,hw,cF,eZ]
 by_cases hd:d<sz
 ·have:cg d sz=true:=fe hd
  simp only[this,cT,aq,bp,bX,hd,tA]
  apply propext
  constructor
  ·rintro⟨_,_,⟨rfl,rfl⟩,h⟩;exact h
  ·exact fun h=>⟨_,_,⟨rfl,rfl⟩,h⟩
 ·have:cg d sz=false:=by
   cases h:cg d sz with
   |false=>rfl
   |true=>exact absurd (iu h) hd
  simp[this,hd]
theorem aX (a b:Nat):bo a b=(a==b):=by
 cases h:bo a b with
 |true=>have:=iI h;subst this;simp
 |false=>have:=Nat.ne_of_beq_eq_false h;exact(beq_eq_false_iff_ne.2 this).symm
theorem dA (a b:Nat):cg a b=decide (a<b):=by
 cases h:cg a b with
 |true=>exact(decide_eq_true (iu h)).symm
 |false=>exact(decide_eq_false fun h'=>by
  have:cg a b=true:=fe h'
  rw[this] at h;cases h).symm
theorem cd (a b:Nat):cK a b=decide (a<=b):=pC a b
theorem sn (k:IntKind) (n:Nat):fV (.int k (n:Int))=some n:=rfl
def pM:aj->Bool->Bool
 | .bool c,b=>c==b
 |_,_=>false
theorem u9 (e:bq) (t:Tmp) (b:Bool):jc e (.when t b)=pM (ay e t) b:=by
 show(match ay e t with| .bool c=>c==b|_=>false)=pM (ay e t) b
 generalize ay e t=x
 cases x<;>rfl
theorem eW:pM (.bool true) true=true:=rfl
theorem ip:pM (.bool true) false=false:=rfl
theorem fR:pM (.bool false) true=false:=rfl
theorem eG:pM (.bool false) false=true:=rfl
theorem pN (b:Bool):pM iB b=false:=rfl
def GB:aj->Option aj->Option aj->Option aj
 | .bool true,a,_=>a
 | .bool false,_,b=>b
 |_,_,_=>none
theorem cD (e:bq) (c a b:Operand):tJ e c a b=(ev e c).bind fun c=>GB c (ev e a) (ev e b):=by
 unfold tJ
 cases ev e c with
 |none=>rfl
 |some v=>
  cases v<;>first|rfl|skip
  rename_i c
  cases c<;>rfl
theorem dB (a b:Option aj):GB (.bool true) a b=a:=rfl
theorem du (a b:Option aj):GB (.bool false) a b=b:=rfl
theorem aD (e:bq) (x:Operand):evc e x=(ev e x).bind fun v=>bif v.clean then some v else none:=rfl
theorem au (v:aj) (l:Loc) (s:St):gi (some v) l s=some (v,l,s):=rfl
theorem bZ (v:aj) (l:Loc) (s:St):ii (some (v,s)) l=some (v,l,s):=rfl
theorem tM (l:Loc) (s:St):mN (some s) l=some (iB,l,s):=rfl
theorem cE (P:Program) (t:TypeId) (a b:Int):gf P .lss t (.int .i64 a) (.int .i64 b)=some (.bool (di a b)):=rfl
theorem xr (P:Program) (t:TypeId) (a b:Int):gf P .leq t (.int .i64 a) (.int .i64 b)=some (.bool (gX a b)):=rfl
theorem iT (P:Program) (t:TypeId) (a b:Int):gf P .gtr t (.int .i64 a) (.int .i64 b)=some (.bool (di b a)):=rfl
theorem j7 (P:Program) (t:TypeId) (a b:Int):gf P .geq t (.int .i64 a) (.int .i64 b)=some (.bool (gX b a)):=rfl
theorem gJ (P:Program) (t:TypeId) (a b:Int):gf P .eql t (.int .i64 a) (.int .i64 b)=some (.bool (bz a b)):=rfl
theorem pg (P:Program) (t:TypeId) (a b:Int):gf P .neq t (.int .i64 a) (.int .i64 b)=some (.bool (!bz a b)):=rfl
theorem dW (P:Program) (t:TypeId) (a b:Int):gf P .add t (.int .i64 a) (.int .i64 b)=some (.int .i64 (IntKind.i64.wrap (a+b))):=rfl
theorem pY (P:Program) (t:TypeId) (a b:Int):gf P .sub t (.int .i64 a) (.int .i64 b)=some (.int .i64 (IntKind.i64.wrap (a-b))):=rfl
theorem xt (P:Program) (t:TypeId) (a b:Int):gf P .neq t (.int .u8 a) (.int .u8 b)=some (.bool (!bz a b)):=rfl
theorem jr (P:Program) (t:TypeId) (a b:List UInt8):gf P .eql t (.str a) (.str b)=some (.bool (a==b)):=rfl
theorem qM (P:Program) (t:TypeId) (a b:List UInt8):gf P .neq t (.str a) (.str b)=some (.bool (!(a==b))):=rfl
theorem vF (P:Program) (t:TypeId) (a b:List UInt8):gf P .leq t (.str a) (.str b)=some (.bool (leBytes a b)):=rfl
theorem Yr (P:Program) (t:TypeId) (a b:List UInt8):gf P .lss t (.str a) (.str b)=some (.bool (Op.bytesLess a b)):=rfl
theorem fq (b:Bool):w4 .not (.bool b)=some (.bool !b):=rfl
theorem cW (P:Program) (mk:bt) (t:TypeId) (mu:Bool) (x:aj) (s:St):my P mk .len [t] mu [x] s=(ie P mk t x s).bind fun v=>some (v,s):=rfl
theorem ph (P:Program) (mk:bt) (t t2:TypeId) (mu:Bool) (x y:aj) (s:St):my P mk .append [t,t2] mu [x,y] s=bif mH P t2 then j6 P mk t x y mu s else none:=rfl
theorem bG (h:Tmp->Nat) (t:Tmp):nR h (some t)=h t:=rfl
theorem eJ (b:Bool):(aj.bool b).clean=true:=rfl
theorem a7 (k:IntKind) (n:Int):(aj.int k n).clean=true:=rfl
theorem cw (b:List UInt8):(aj.str b).clean=true:=rfl
theorem cu (b:List aj):(aj.agg b).clean=true:=rfl
theorem jD (n:Nat) (b:List aj) (r:fZ):(aj.list n b r).clean=true:=rfl
theorem ez (n o:Nat):(aj.ptr n o).clean=true:=rfl
theorem gr (n:Nat):(aj.map n).clean=true:=rfl
theorem vH:(aj.nils).clean=true:=rfl
theorem oG (f:Fn) (a b:List aj):(aj.func f a b).clean=true:=rfl
theorem dj (cs:List aj):(aj.agg cs).cells=cs:=rfl
theorem ji (s:List UInt8):(aj.str s).cells=[.str s]:=rfl
theorem xu (k:IntKind) (n:Int):(aj.int k n).cells=[.int k n]:=rfl
theorem YF (n:Nat) (xs:List aj) (r:fZ):(aj.list n xs r).cells=[.list n xs r]:=rfl
theorem ik (P:Program) (mk:bt) (t:TypeId) (l g off:Nat) (v:aj) (lc:Loc) (s:St):qC P mk t (.lref l g off) v lc s=(fQ P t).bind fun n=>bif bo v.cells.length n&&cg 0 n then(lc.get l g).bind fun cs=>(dl cs off v.cells).bind fun cs'=>some (lc.set l g cs',s) else none:=rfl
def bH {α:Type} (n:Nat) (enc:α->aj) (v:aj) (l:List α):Prop:=(v= .nils/\l=[])\/ ∃r,v= .list n (l.map enc) r
theorem bH.clean {α:Type} {n:Nat} {enc:α->aj} {v:aj} {l:List α} (h:bH n enc v l):v.clean=true:=by
 rcases h with⟨rfl,_⟩|⟨r,rfl⟩<;>rfl
theorem bH.scal {α:Type} {n:Nat} {enc:α->aj} {v:aj} {l:List α} (h:bH n enc v l):v.cells=[v]:=by
 rcases h with⟨rfl,_⟩|⟨r,rfl⟩<;>rfl
theorem UR {α:Type} (enc:α->aj): ∀(l:List α) (i:Nat) (a:α),l[i]? =some a->iX (l.map enc) i=enc a
 | [],i,a,h=>by simp at h
 |x::l,0,a,h=>by simp at h;subst h;rfl
 |x::l,i+1,a,h=>UR enc l i a (by simpa using h)
theorem bH.len {α:Type} {n:Nat} {enc:α->aj} {v:aj} {l:List α} (h:bH n enc v l) {P:Program} {t:TypeId} (h1: ∀mk s,ie P mk t .nils s=some (.int .i64 (0:Nat))) (h2: ∀mk n xs r s,ie P mk t (.list n xs r) s=some (.int .i64 (xs:List aj).length)) (mk:bt) (s:St):ie P mk t v s=some (.int .i64 (l.length:Nat)):=by
 rcases h with⟨rfl,rfl⟩|⟨r,rfl⟩
 ·rw[h1];rfl
 ·rw[h2];simp
theorem bH.at {α:Type} {n:Nat} {enc:α->aj} {v:aj} {l:List α} (h:bH n enc v l) {P:Program} {t:TypeId} (h2: ∀lc m xs r i,iU P lc t (.list m xs r) i=(fV i).bind fun i=>bif bo m n&&cg i xs.length then some (.ro (iX xs i).cells) else none) {i:Nat} {a:α} (hi:l[i]? =some a) (lc:Loc) (k:IntKind):
 iU P lc t v (.int k (i:Int))=some (.ro (enc a).cells):=by
 have hlt:i<l.length:=by
  rcases Nat.lt_or_ge i l.length with h|h
  ·exact h
  ·rw[List.getElem?_eq_none h] at hi;cases hi
 rcases h with⟨rfl,rfl⟩|⟨r,rfl⟩
 ·simp at hi
 ·rw[h2]
  simp only[sn,aq,UR enc l i a hi,List.length_map]
  have:cg i l.length=true:=fe hlt
  simp[this]
theorem Gv (e:bq) (t:Nat) (v:aj):ay (e.set t (some v)) t=v:=by simp[ay,Gz]
theorem amI (e:bq) (t u:Nat) (v:aj) (h:(u==t)=false):ay (e.set t (some v)) u=ay e u:=by
 have:u≠t:=by simpa using h
 simp[ay,bD.get_set,this]
theorem ai (e:bq) (t u:Nat) (v:aj):ay (e.set t (some v)) u=bif u==t then v else ay e u:=by
 cases h:u==t with
 |true=>have:u=t:=by simpa using h
        subst this;exact Gv e u v
 |false=>exact amI e t u v h
theorem gen_set (l:Loc) (t h u:Nat) (c:List aj):(l.set t h c).gen u=bif bo t u then h else l.gen u:=by
 induction l with
 |nil=>simp only[Loc.set,Loc.gen]
 |cons x l ih=>
  obtain⟨k,g,d⟩:=x
  simp only[Loc.set]
  cases hk:bo k t with
  |true=>
   have:=iI hk
   subst this
   simp only[cT,Loc.gen]
   cases bo k u<;>rfl
  |false=>
   simp only[cF,Loc.gen,ih]
   cases hu:bo k u with
   |false=>rfl
   |true=>
    have:=iI hu
    subst this
    have:bo t k=false:=by
     cases h:bo t k with
     |false=>rfl
     |true=>have:=iI h;subst this;simp at hk
    simp[this]
theorem dp (t:Nat):Loc.gen [] t=0:=rfl
theorem aa1 (l:Loc) (t h:Nat) (c:List aj):(l.set t h c).gen t=h:=by simp[gen_set]
theorem aa2 (l:Loc) (t h u:Nat) (c:List aj) (e:(u==t)=false):(l.set t h c).gen u=l.gen u:=by
 rw[gen_set]
 have:bo t u=false:=by
  cases h:bo t u with
  |false=>rfl
  |true=>have:=iI h;subst this;simp at e
 rw[this];rfl
theorem Uk (l:Loc) (t h u g:Nat) (c:List aj):(l.set t h c).get u g=bif bo t u then(bif bo h g then some c else none) else l.get u g:=by
 induction l with
 |nil=>simp only[Loc.set,Loc.get]
 |cons x l ih=>
  obtain⟨k,g',d⟩:=x
  simp only[Loc.set]
  cases hk:bo k t with
  |true=>
   have:=iI hk
   subst this
   simp only[cT,Loc.get]
   cases bo k u<;>rfl
  |false=>
   simp only[cF,Loc.get,ih]
   cases hu:bo k u with
   |false=>rfl
   |true=>
    have:=iI hu
    subst this
    have:bo t k=false:=by
     cases h:bo t k with
     |false=>rfl
     |true=>have:=iI h;subst this;simp at hk
    simp[this]
theorem alD (l:Loc) (t h u g:Nat) (c:List aj) (e:(u==t)=false):(l.set t h c).get u g=l.get u g:=by
 rw[Uk]
 have:bo t u=false:=by
  cases h:bo t u with
  |false=>rfl
  |true=>have:=iI h;subst this;simp at e
 rw[this];rfl
theorem iW (l:Loc) (t h h':Nat) (c c':List aj):(l.set t h c).set t h' c'=l.set t h' c':=by
 induction l with
 |nil=>simp[Loc.set]
 |cons x l ih=>
  obtain⟨k,g',d⟩:=x
  simp only[Loc.set]
  cases hk:bo k t with
  |true=>simp[Loc.set,hk]
  |false=>simp[Loc.set,hk,ih]
theorem cJ (l:Loc) (t h u:Nat) (c:List aj):(l.set t h c).gen u=bif u==t then h else l.gen u:=by
 cases e:u==t with
 |true=>have:u=t:=by simpa using e
        subst this;exact aa1 l u h c
 |false=>exact aa2 l t h u c e
theorem bU (l:Loc) (t h u g:Nat) (c:List aj):(l.set t h c).get u g=bif u==t then(bif g==h then some c else none) else l.get u g:=by
 cases e:u==t with
 |true=>
  have:u=t:=by simpa using e
  subst this
  rw[Uk]
  simp only[cT]
  cases e:g==h with
  |true=>have:g=h:=by simpa using e
         subst this;simp
  |false=>
   have h1:g≠h:=by simpa using e
   have:bo h g=false:=by
    cases e':bo h g with
    |false=>rfl
    |true=>exact absurd (iI e').symm h1
   simp[this]
 |false=>exact alD l t h u g c e
def BK (Q:cI) (f:FuncId) (d:Tmp) (e:bq) (sz:Nat) (l:List cV) (N:Fr->St->Prop) (x:Option (aj×Loc×St)):Prop:=tG x fun v lc' s'=>d<sz/\WP Q f l ⟨e.set d (some v),sz,lc'⟩ s' N
def Wh (Q:cI) (f:FuncId) (e:bq) (sz:Nat) (l:List cV) (N:Fr->St->Prop) (x:Option (aj×Loc×St)):Prop:=tG x fun _ lc' s'=>WP Q f l ⟨e,sz,lc'⟩ s' N
def Hn (Q:cI) (f:FuncId) (o:cV) (d:Tmp) (e:bq) (sz:Nat) (lc:Loc) (s:St) (l:List cV) (N:Fr->St->Prop):Bool->Prop
 |true=>BK Q f d e sz l N (eP Q f o [] ⟨e,sz,lc⟩ s)
 |false=>d<sz/\WP Q f l ⟨e.set d (some iB),sz,lc⟩ s N
theorem aA {d:Tmp} {e:bq} {sz:Nat} {l:List cV} {N:Fr->St->Prop} {v:aj} {lc:Loc} {s:St}:BK Q f d e sz l N (some (v,lc,s))=(d<sz/\WP Q f l ⟨e.set d (some v),sz,lc⟩ s N):=rfl
theorem eE {e:bq} {sz:Nat} {l:List cV} {N:Fr->St->Prop} {v:aj} {lc:Loc} {s:St}:Wh Q f e sz l N (some (v,lc,s))=WP Q f l ⟨e,sz,lc⟩ s N:=rfl
theorem dQ {o:cV} {d:Tmp} {e:bq} {sz:Nat} {lc:Loc} {s:St} {l:List cV} {N:Fr->St->Prop}:Hn Q f o d e sz lc s l N true=BK Q f d e sz l N (eP Q f o [] ⟨e,sz,lc⟩ s):=rfl
theorem eH {o:cV} {d:Tmp} {e:bq} {sz:Nat} {lc:Loc} {s:St} {l:List cV} {N:Fr->St->Prop}:Hn Q f o d e sz lc s l N false=(d<sz/\WP Q f l ⟨e.set d (some iB),sz,lc⟩ s N):=rfl
theorem az {d:Tmp} {op:Op} {l:List cV} {e:bq} {sz:Nat} {lc:Loc} {s:St} {N:Fr->St->Prop}:
 WP Q f (⟨some d,op,.aw⟩::l) ⟨e,sz,lc⟩ s N=BK Q f d e sz l N (eP Q f ⟨some d,op,.aw⟩ [] ⟨e,sz,lc⟩ s):=HP rfl
theorem eD {op:Op} {l:List cV} {e:bq} {sz:Nat} {lc:Loc} {s:St} {N:Fr->St->Prop}:
 WP Q f (⟨none,op,.aw⟩::l) ⟨e,sz,lc⟩ s N=Wh Q f e sz l N (eP Q f ⟨none,op,.aw⟩ [] ⟨e,sz,lc⟩ s):=Xz rfl
theorem de {d:Tmp} {op:Op} {t:Tmp} {b:Bool} {l:List cV} {e:bq} {sz:Nat} {lc:Loc} {s:St} {N:Fr->St->Prop}:
 WP Q f (⟨some d,op,.when t b⟩::l) ⟨e,sz,lc⟩ s N=Hn Q f ⟨some d,op,.when t b⟩ d e sz lc s l N (pM (ay e t) b):=by
 cases h:pM (ay e t) b with
 |true=>exact HP (by rw[u9,h])
 |false=>exact XA (by rw[u9,h])
theorem W.reg {ops:List cV} {fr:Fr} {s:St} {K:Ex->Fr->St->Prop} (h:WP Q f ops fr s fun fr s=>K .normal fr s):W Q f (.region ops) fr s K:=
 let⟨_,_,h1,h2⟩:=h;W.region (WL.run h1 h2)
theorem W.sreg {ops:List cV} {c:SC} {fr:Fr} {s:St} {K:Ex->Fr->St->Prop} (h:WP Q f ops fr s fun fr s=>W Q f c fr s K):W Q f (.seq (.region ops) c) fr s K:=W.seq (W.reg h)
theorem W.sseq {a b:SC} {fr:Fr} {s:St} {K:Ex->Fr->St->Prop} (h:W Q f a fr s (Ex.next K fun fr s=>W Q f b fr s K)):W Q f (.seq a b) fr s K:=W.seq h
theorem aW (K:Ex->Fr->St->Prop) (N:Fr->St->Prop):Ex.next K N .normal=N:=rfl
theorem dM (i:Nat):Ex.block i .normal= .normal:=rfl
section
variable {e:bq} {sz:Nat} {lc:Loc} {s:St} {d:Option Tmp} {g:SG} {mk:bt}
theorem aG (x:Operand):eP Q f ⟨d,.move x,g⟩ mk ⟨e,sz,lc⟩ s=gi (ev e x) lc s:=rfl
theorem aM (x:Operand):eP Q f ⟨d,.assign x,g⟩ mk ⟨e,sz,lc⟩ s=gi (ev e x) lc s:=rfl
theorem cz (c a b:Operand):eP Q f ⟨d,.pick c a b,g⟩ mk ⟨e,sz,lc⟩ s=gi (tJ e c a b) lc s:=rfl
theorem gY (t:TypeId):eP Q f ⟨d,.alloc t,g⟩ mk ⟨e,sz,lc⟩ s=(fF Q.P t).bind fun z=>pj (nR (Q.hint f) d) d z.cells lc s:=rfl
theorem iA (t:TypeId) (x:Operand):eP Q f ⟨d,.box t x,g⟩ mk ⟨e,sz,lc⟩ s=(evc e x).bind fun a=>pj (nR (Q.hint f) d) d a.cells lc s:=rfl
theorem lK (t:TypeId) (ps:Array (Nat×Operand)):eP Q f ⟨d,.build t ps,g⟩ mk ⟨e,sz,lc⟩ s=gi (gQ Q.P t ps.toList e) lc s:=rfl
theorem lL (t:TypeId) (n:Nat) (ps:Array (Nat×Operand)):eP Q f ⟨d,.buildSlice t n ps,g⟩ mk ⟨e,sz,lc⟩ s=ii (ey Q.P t n ps.toList (bo (nR (Q.hint f) d) 2) e s) lc:=rfl
theorem bn (t:TypeId) (a:Operand):eP Q f ⟨d,.load t a,g⟩ mk ⟨e,sz,lc⟩ s=(ev e a).bind fun a=>gi (lY Q.P mk t a lc s) lc s:=rfl
theorem eN (t:TypeId) (a x:Operand):eP Q f ⟨d,.store t a x,g⟩ mk ⟨e,sz,lc⟩ s=(ev e a).bind fun a=>(evc e x).bind fun x=>(qC Q.P mk t a x lc s).bind fun r=>some (iB,r.1,r.2):=rfl
theorem aU (o:BinOp) (t u:TypeId) (x y:Operand):eP Q f ⟨d,.binOp o t x y u,g⟩ mk ⟨e,sz,lc⟩ s=(evc e x).bind fun x=>(evc e y).bind fun y=>gi (gf Q.P o t x y) lc s:=rfl
theorem fp (o:UnOp) (t:TypeId) (x:Operand):eP Q f ⟨d,.unOp o t x,g⟩ mk ⟨e,sz,lc⟩ s=(evc e x).bind fun a=>gi (w4 o a) lc s:=rfl
theorem bN (t:TypeId) (x:Operand) (i:Nat):eP Q f ⟨d,.fieldAddr t x i,g⟩ mk ⟨e,sz,lc⟩ s=(ev e x).bind fun a=>gi (fO Q.P lc t a i) lc s:=rfl
theorem Bk (t:TypeId) (x i:Operand):eP Q f ⟨d,.index t x i,g⟩ mk ⟨e,sz,lc⟩ s=(evc e x).bind fun x=>(ev e i).bind fun i=>gi (qT Q.P t x i) lc s:=rfl
theorem dI (t:TypeId) (x i:Operand):eP Q f ⟨d,.indexAddr t x i,g⟩ mk ⟨e,sz,lc⟩ s=(ev e x).bind fun x=>(ev e i).bind fun i=>gi (iU Q.P lc t x i) lc s:=rfl
theorem Vh (t:TypeId) (x:Operand) (lo hi mx:Option Operand):eP Q f ⟨d,.slice t x lo hi mx,g⟩ mk ⟨e,sz,lc⟩ s=(evc e x).bind fun a=>gi (kg Q.P mk t a lo hi mx e s) lc s:=rfl
theorem l5 (t:TypeId) (x i:Operand) (ok:Bool):eP Q f ⟨d,.lookup t x i ok,g⟩ mk ⟨e,sz,lc⟩ s=(evc e x).bind fun x=>(evc e i).bind fun i=>gi (lZ Q.P mk t x i ok s) lc s:=rfl
theorem tI (t:TypeId) (m k x:Operand):eP Q f ⟨d,.mapUpdate t m k x,g⟩ mk ⟨e,sz,lc⟩ s=(evc e m).bind fun m=>(evc e k).bind fun k=>(evc e x).bind fun x=>mN (mR Q.P mk t m k x s) lc:=rfl
theorem uM (t:TypeId) (r:Option Operand):eP Q f ⟨d,.makeMap t r,g⟩ mk ⟨e,sz,lc⟩ s=ii (nl Q.P t e r s) lc:=rfl
theorem wJ (fn:Fn) (a b:Array Operand):eP Q f ⟨d,.makeFunc fn a b,g⟩ mk ⟨e,sz,lc⟩ s=gi (pz e fn a b) lc s:=rfl
theorem gh (x:Operand):eP Q f ⟨d,.nilCheck x,g⟩ mk ⟨e,sz,lc⟩ s=(ev e x).bind fun a=>gi (tF lc a) lc s:=rfl
theorem jm (x:Operand) (i:Nat):eP Q f ⟨d,.extract x i,g⟩ mk ⟨e,sz,lc⟩ s=(ev e x).bind fun a=>gi (iy i a) lc s:=rfl
theorem cG (b:Builtin) (as:Array Operand) (ts:Array TypeId):eP Q f ⟨d,.call ⟨.builtin b,as,ts⟩,g⟩ mk ⟨e,sz,lc⟩ s=
 (evcs e as.toList).bind fun args=>ii (my Q.P mk b ts.toList (bo (nR (Q.hint f) d) 2) args s) lc:=rfl
theorem dc (x:Operand) (as:Array Operand) (ts:Array TypeId):eP Q f ⟨d,.call ⟨.value x,as,ts⟩,g⟩ mk ⟨e,sz,lc⟩ s=
 (callee e ⟨.value x,as,ts⟩).bind fun g=>(Q.spec g.1).bind fun sp=>(sp g.2).bind fun v=>some (v,lc,s):=rfl
theorem da (n:FuncId) (as:Array Operand) (ts:Array TypeId):callee e ⟨.value (.func n),as,ts⟩=(evcs e as.toList).bind fun args=>some (n,args):=by
 simp only[callee,ev,aq,List.nil_append,iQ]
end
theorem ak (e:bq) (t:Nat):ev e (.tmp t)=some (ay e t):=rfl
theorem aH (e:bq) (v:Value):ev e (.const v)=ofValue v:=rfl
theorem fA (e:bq) (n:FuncId):ev e (.func n)=some (.func (.func n) [] []):=rfl
theorem bh (e:bq):evcs e []=some []:=rfl
theorem bk (e:bq) (x:Operand) (l:List Operand):evcs e (x::l)=(evc e x).bind fun v=>(evcs e l).bind fun r=>some (v::r):=rfl
theorem bF (b:Bool):ofValue (.bool b)=some (.bool b):=rfl
theorem bm (k:IntKind) (n:Int):ofValue (.int k n)=some (.int k n):=rfl
theorem iM (s:Array UInt8):ofValue (.string ⟨s⟩)=some (.str s.toList):=rfl
theorem fv (t:Tmp) (cs:List aj) (lc:Loc) (s:St):pj 1 (some t) cs lc s=some (.lref t (lc.gen t+1) 0,lc.set t (lc.gen t+1) cs,s):=rfl
theorem i9 (d:Option Tmp) (cs:List aj) (lc:Loc) (s:St):pj 0 d cs lc s=some (.ptr s.next 0,lc,s.new (.cells cs)):=rfl
theorem bT (P:Program) (mk:bt) (t:TypeId) (l g off:Nat) (lc:Loc) (s:St):lY P mk t (.lref l g off) lc s=(lc.get l g).bind fun cs=>fK P t cs off:=rfl
theorem dR (P:Program) (mk:bt) (t:TypeId) (cs:List aj) (lc:Loc) (s:St):lY P mk t (.ro cs) lc s=fK P t cs 0:=rfl
theorem cN (a b:Nat):di (a:Int) (b:Int)=decide (a<b):=by simp[di]
theorem oN (a b:Nat):gX (a:Int) (b:Int)=decide (a<=b):=by simp[gX]
theorem qh (a b:Nat):bz (a:Int) (b:Int)=(a==b):=by
 simp only[bz]
 cases h:a==b with
 |true=>have:a=b:=by simpa using h
        subst this;simp
 |false=>
  have:a≠b:=by simpa using h
  exact beq_eq_false_iff_ne.2 fun e=>this (Int.ofNat.inj e)
theorem eh {z:Int} (h1: -9223372036854775808<=z) (h2:z<9223372036854775808):IntKind.i64.wrap z=z:=by
 rw[IntKind.wrap_i64]
 omega
def St.top (s:St):St:=⟨s.heap,s.next,s.next,s.ci⟩
def WQ (Q:cI) (f:FuncId) (s:St):List cV->Fr->(Fr->Prop)->Prop
 | [],fr,N=>N fr
 |o::l,fr,N=>(jc fr.env o.g=true/\ ∃v lc fr',eP Q f o [] fr s=some (v,lc,s)/\isStore o.op=false/\eZ fr o.dst v lc=some fr'/\WQ Q f s l fr' N)\/
   (jc fr.env o.g=false/\ ∃fr',eZ fr o.dst iB fr.loc=some fr'/\WQ Q f s l fr' N)
def calm (rs:List eY):Prop:= ∀r∈rs,r.c0=r.c1/\r.loud=false
theorem F8 {rs:List eY} (h:calm rs) (b:Nat):jE b rs []=[]:=by
 induction rs with
 |nil=>rfl
 |cons r rs ih=>
  have:=h r (by simp)
  simp only[jE,this.1,aX,bS,Bool.or_true,cT]
  exact ih fun r hr=>h r (by simp[hr])
theorem Ds {rs:List eY} (h:calm rs) (b:Nat) (ft:gl):fits b ft false rs=true:=by
 simp only[fits,oc]
 intro r hr
 simp[(h r hr).2]
theorem WQ.draw {s:St} (hm:s.minw<=s.next): ∀ {l:List cV} {bs:List Nat} {rs:List eY} {i:Nat} {fr:Fr} {N:Fr->Prop},calm rs->WQ Q f s.top l fr N-> ∃fr',tN Q f bs rs i l fr s=some (fr',s)/\N fr'
 | [],bs,rs,i,fr,N,_,h=>⟨fr,rfl,h⟩
 |o::l,bs,rs,i,fr,N,hc,h=>by
  simp only[tN]
  rcases h with⟨hw,v,lc,fr',h1,h2,h3,h4⟩|⟨hw,fr',h3,h4⟩
  ·rw[hw,F8 hc]
   have h1:eP Q f o [] fr ⟨s.heap,s.next,s.next,s.ci⟩=some (v,lc,⟨s.heap,s.next,s.next,s.ci⟩):=h1
   simp only[cT,h1,aq,h2,lf]
   have hb:cg s.next s.next=false:=by rw[dA];simp
   have hl:s.least ⟨s.heap,s.next,s.next,s.ci⟩=s:=by
    have:cK s.minw s.next=true:=fe hm
    simp[St.least,this]
   rw[hb,Ds hc,aX,bS]
   simp only[dX,cT,h3,aq,hl]
   exact WQ.draw hm (fun r hr=>by
    rcases List.mem_cons.1 hr with rfl|hr
    ·exact⟨rfl,rfl⟩
    ·exact hc r hr) h4
  ·rw[hw]
   simp only[cF,h3,aq]
   exact WQ.draw hm hc h4
theorem W.drawQ {ops:List cV} {bs:List Nat} {fr:Fr} {s:St} {K:Ex->Fr->St->Prop} (hm:s.minw<=s.next) (h:WQ Q f s.top ops fr fun fr'=>K .normal fr' s):W Q f (.draw ops bs) fr s K:=
 let⟨_,h1,h2⟩:=WQ.draw hm (fun _ hr=>by cases hr) h;W.draw h1 h2
theorem W.sdrawQ {ops:List cV} {bs:List Nat} {c:SC} {fr:Fr} {s:St} {K:Ex->Fr->St->Prop} (hm:s.minw<=s.next) (h:WQ Q f s.top ops fr fun fr'=>W Q f c fr' s K):W Q f (.seq (.draw ops bs) c) fr s K:=W.seq (W.drawQ hm h)
def BL (Q:cI) (f:FuncId) (s:St) (d:Tmp) (st:Bool) (e:bq) (sz:Nat) (l:List cV) (N:Fr->Prop) (x:Option (aj×Loc×St)):Prop:= ∃v lc,x=some (v,lc,s)/\st=false/\d<sz/\WQ Q f s l ⟨e.set d (some v),sz,lc⟩ N
theorem ec {s:St} {d:Tmp} {st:Bool} {e:bq} {sz:Nat} {l:List cV} {N:Fr->Prop} {v:aj} {lc:Loc}:BL Q f s d st e sz l N (some (v,lc,s))=(st=false/\d<sz/\WQ Q f s l ⟨e.set d (some v),sz,lc⟩ N):=by
 apply propext
 constructor
 ·rintro⟨v',lc',h,h1,h2,h3⟩
  simp only[bp,bX] at h
  obtain⟨rfl,rfl,_⟩:=h;exact⟨h1,h2,h3⟩
 ·rintro⟨h1,h2,h3⟩;exact⟨v,lc,rfl,h1,h2,h3⟩
def Ho (Q:cI) (f:FuncId) (s:St) (o:cV) (d:Tmp) (e:bq) (sz:Nat) (lc:Loc) (l:List cV) (N:Fr->Prop):Bool->Prop
 |true=>BL Q f s d (isStore o.op) e sz l N (eP Q f o [] ⟨e,sz,lc⟩ s)
 |false=>d<sz/\WQ Q f s l ⟨e.set d (some iB),sz,lc⟩ N
theorem kh {s:St} {o:cV} {d:Tmp} {e:bq} {sz:Nat} {lc:Loc} {l:List cV} {N:Fr->Prop}:Ho Q f s o d e sz lc l N true=BL Q f s d (isStore o.op) e sz l N (eP Q f o [] ⟨e,sz,lc⟩ s):=rfl
theorem kD {s:St} {o:cV} {d:Tmp} {e:bq} {sz:Nat} {lc:Loc} {l:List cV} {N:Fr->Prop}:Ho Q f s o d e sz lc l N false=(d<sz/\WQ Q f s l ⟨e.set d (some iB),sz,lc⟩ N):=rfl
theorem iO {e:bq} {sz:Nat} {lc:Loc} {d:Tmp} {v:aj} {lc':Loc} {fr':Fr}:eZ ⟨e,sz,lc⟩ (some d) v lc'=some fr'↔d<sz/\fr'=⟨e.set d (some v),sz,lc'⟩:=by
 simp only[eZ,dA]
 by_cases h:d<sz
 ·simp[h,eq_comm]
 ·simp[h]
theorem d8 {s:St} {fr:Fr} {N:Fr->Prop}:WQ Q f s [] fr N=N fr:=rfl
theorem d7 {s:St} {d:Tmp} {op:Op} {l:List cV} {e:bq} {sz:Nat} {lc:Loc} {N:Fr->Prop}:
 WQ Q f s (⟨some d,op,.aw⟩::l) ⟨e,sz,lc⟩ N=BL Q f s d (isStore op) e sz l N (eP Q f ⟨some d,op,.aw⟩ [] ⟨e,sz,lc⟩ s):=by
 apply propext
 constructor
 ·rintro(⟨_,v,lc',fr',h1,h2,h3,h4⟩|⟨hw,_⟩)
  ·obtain⟨hd,rfl⟩:=iO.1 h3
   exact⟨v,lc',h1,h2,hd,h4⟩
  ·cases hw
 ·rintro⟨v,lc',h1,h2,hd,h4⟩
  exact .inl ⟨rfl,v,lc',_,h1,h2,iO.2 ⟨hd,rfl⟩,h4⟩
theorem jg {s:St} {d:Tmp} {op:Op} {t:Tmp} {b:Bool} {l:List cV} {e:bq} {sz:Nat} {lc:Loc} {N:Fr->Prop}:
 WQ Q f s (⟨some d,op,.when t b⟩::l) ⟨e,sz,lc⟩ N=Ho Q f s ⟨some d,op,.when t b⟩ d e sz lc l N (pM (ay e t) b):=by
 apply propext
 constructor
 ·rintro(⟨hw,v,lc',fr',h1,h2,h3,h4⟩|⟨hw,fr',h3,h4⟩)
  ·have hw:jc e (.when t b)=true:=hw
   rw[u9] at hw
   obtain⟨hd,rfl⟩:=iO.1 h3
   rw[hw]
   exact⟨v,lc',h1,h2,hd,h4⟩
  ·have hw:jc e (.when t b)=false:=hw
   rw[u9] at hw
   obtain⟨hd,rfl⟩:=iO.1 h3
   rw[hw]
   exact⟨hd,h4⟩
 ·intro h
  cases hw:pM (ay e t) b with
  |true=>
   rw[hw] at h
   obtain⟨v,lc',h1,h2,hd,h4⟩:=h
   exact .inl ⟨by show jc e (.when t b)=true;rw[u9,hw],v,lc',_,h1,h2,iO.2 ⟨hd,rfl⟩,h4⟩
  |false=>
   rw[hw] at h
   exact .inr ⟨by show jc e (.when t b)=false;rw[u9,hw],_,iO.2 ⟨h.1,rfl⟩,h.2⟩
theorem bv.of2 {fn:Func} {sc:SC} {n:Nat} {rs:List ResultVar} {args:List aj} {v:aj} {s s':St} (hf:Q.P.funcs[f]? =some fn) (hc:fn.body.map cL=some sc) (hn:fn.ntmps=n) (hr:fn.results.toList=rs) (hsp:Q.spec f=none)
 (h:W Q f sc (dr n args) s fun x fr' s1=>s1=s'/\(x= .normal\/x= .ret)/\ ∃vs,gL Q [] fr' s1 rs=some vs/\jO vs=v) (hH:Q.specH f=none:=by rfl) (hW:Q.specW f=none:=by rfl):bv Q f args s v s':=by
 cases hb:fn.body with
 |none=>rw[hb] at hc;cases hc
 |some c=>
  rw[hb] at hc
  simp only[Option.map_some,bp] at hc
  subst hn;subst hr
  exact bv.of hf hb hsp hc h hH hW
theorem bV {fr:Fr} {s:St} {t:Tmp} {v:aj} (h:ay fr.env t=v) (hc:v.clean=true): ∃vs,gL Q [] fr s [.tmp t]=some vs/\jO vs=v:=by
 refine⟨[v],?_,rfl⟩
 simp only[gL,wP,evc,ev,h,aq,hc,cT]
theorem AY {b:Nat} {rs:List eY} (h: ∀r∈rs,b.testBit r.i=true\/r.c0=r.c1):jE b rs []=[]:=by
 induction rs with
 |nil=>rfl
 |cons r rs ih=>
  have h1:(b.testBit r.i||bo r.c0 r.c1)=true:=by
   rcases h r (by simp) with h|h
   ·rw[h];rfl
   ·rw[h,Gn,Bool.or_true]
  simp only[jE,h1,cT]
  exact ih fun r hr=>h r (by simp[hr])
theorem zx {b:Nat} {ft:gl} {loud:Bool} {rs:List eY} (h: ∀r∈rs,b.testBit r.i=true):fits b ft loud rs=true:=by
 simp only[fits,oc]
 intro r hr
 rw[h r hr];rfl
theorem aaF {b:Nat} {ft:gl} {rs:List eY} (h: ∀r∈rs,r.loud=false):fits b ft false rs=true:=by
 simp only[fits,oc]
 intro r hr
 simp[h r hr]
theorem ni {s:St} (hm:s.minw<=s.next):s.least s.top=s:=by
 have:cK s.minw s.next=true:=fe hm
 simp[St.least,St.top,this]
theorem F4 {s:St} (hm:s.minw<=s.next) (o:bR):s.least (s.top.new o)=s.new o:=by
 have:cK s.minw s.next=true:=fe hm
 simp[St.least,St.top,St.new,this]
theorem W.drawR {ops:List cV} {bs:List Nat} {fr fr1:Fr} {s s1:St} {K:Ex->Fr->St->Prop} (h:lP Q f bs [] 0 ops fr s fr1 s1) (hk:K .normal fr1 s1):W Q f (.draw ops bs) fr s K:=⟨_,_,_,.draw h,hk⟩
theorem WQ.thenD {s:St} (hm:s.minw<=s.next) {l2:List cV} {N:Fr->St->Prop}: ∀ {l1:List cV} {bs:List Nat} {rs:List eY} {i:Nat} {fr:Fr},calm rs->(∀r∈rs,r.i<i)->
 WQ Q f s.top l1 fr (fun fr1=> ∀rs1,calm rs1->(∀r∈rs1,r.i<i+l1.length)-> ∃fr' s',lP Q f (bs.drop l1.length) rs1 (i+l1.length) l2 fr1 s fr' s'/\N fr' s')-> ∃fr' s',lP Q f bs rs i (l1++l2) fr s fr' s'/\N fr' s'
 | [],bs,rs,i,fr,hc,hi,h=>h rs hc hi
 |o::l,bs,rs,i,fr,hc,hi,h=>by
  have hdrop: ∀(bs:List Nat) (n:Nat),bs.tail.drop n=bs.drop (n+1):=fun bs n=>by cases bs<;>simp
  rcases h with⟨hw,v,lc,fr',h1,h2,h3,h4⟩|⟨hw,fr',h3,h4⟩
  ·have hl:(cg s.top.minw s.next||isStore o.op)=false:=by
    rw[h2,lf,dA]
    exact decide_eq_false (by show¬s.next<s.next;omega)
   obtain⟨fr2,s2,q1,q2⟩:=WQ.thenD (l2:=l2) (N:=N) hm (l1:=l) (bs:=bs.tail) (rs:=⟨i,s.next,s.next,dL (Q.hint f) o.dst fr.env o.op,false⟩::rs) (i:=i+1) (fr:=fr')
    (fun r hr=>by
     rcases List.mem_cons.1 hr with rfl|hr
     ·exact⟨rfl,rfl⟩
     ·exact hc r hr) (fun r hr=>by
     rcases List.mem_cons.1 hr with rfl|hr
     ·exact Nat.lt_succ_self _
     ·exact og (hi r hr)) (by
     rw[hdrop]
     have e:i+1+l.length=i+(o::l).length:=by simp only[aR];omega
     rw[e];exact h4)
   refine⟨fr2,s2,.step hw (v:=v) (lc:=lc) (s1:=s.top) ?_ (by rw[hl];exact Ds hc _ _) rfl h3 ?_,q2⟩
   ·rw[F8 hc];exact h1
   ·rw[hl,ni hm];exact q1
  ·obtain⟨fr2,s2,q1,q2⟩:=WQ.thenD (l2:=l2) (N:=N) hm (l1:=l) (bs:=bs.tail) (rs:=rs) (i:=i+1) (fr:=fr') hc (fun r hr=>og (hi r hr)) (by
    rw[hdrop]
    have e:i+1+l.length=i+(o::l).length:=by simp only[aR];omega
    rw[e];exact h4)
   exact⟨fr2,s2,.skip hw h3 q1,q2⟩
end
end Go.Ag
