/- Contracts out of evaluations and walks. -/
import Derived.Test.YtbfmdojdemckbaaGreatAg2
open Go.Ag.aj renaming cells→j9
open Bool renaming and_eq_true→cZ,and_self→gf,and_true→dY,or_false→pX
open List renaming all_cons→mH,all_eq_true→np,append_nil→iA,getElem?_of_mem→Bn,length_cons→aP,length_map→eH,map_cons→fw,mem_of_getElem?→lX
open List.cons renaming injEq→mI
open Nat renaming beq→be,ble_eq_true_of_le→eL,ble→cy,blt→bT,eq_of_beq_eq_true→ik,le_max_left→rJ,le_max_right→rK,le_of_ble_eq_true→iL,lt_of_lt_of_le→gu,lt_succ_of_lt→ns
open Option renaming bind_eq_some_iff→aG,bind_some→aq,none_or→p9,some_or→uI
open Option.some renaming injEq→bg
open Prod.mk renaming injEq→bL
namespace Go.Ag
mutual
def bP:aj->Bool
 | .agg cs=>pures cs
 | .tup cs=>pures cs
 | .ptr _ _=>false
 | .lref _ _ _=>false
 | .ro cs=>pures cs
 | .list _ xs r=>pures xs&&(match r with| .own _=>false|_=>true)
 | .arr _ _ _ _ _=>false
 | .map _=>false
 | .func _ a b=>pures a&&pures b
 | .iface _ v=>bP v
 | .yld _=>false
 | .roz _=>false
 |_=>true
def pures:List aj->Bool
 | []=>true
 |v::l=>bP v&&pures l
end
mutual
def weak:aj->aj
 | .agg cs=>.agg (ef cs)
 | .tup cs=>.tup (ef cs)
 | .ro cs=>.ro (ef cs)
 | .list n xs r=>.list n (ef xs) (match r with| .own _=>.no|r=>r)
 | .func f a b=>.func f (ef a) (ef b)
 | .iface t v=>.iface t (weak v)
 |v=>v
def ef:List aj->List aj
 | []=>[]
 |v::l=>weak v::ef l
end
theorem Bf (l:List aj):ef l=l.map weak:=by
 induction l with
 |nil=>rfl
 |cons v l ih=>simp[ef,ih]
theorem uf {l:List aj}:pures l=true↔ ∀v∈l,bP v=true:=by
 induction l with
 |nil=>simp[pures]
 |cons v l ih=>simp[pures,ih]
mutual
theorem Gv: ∀ {v:aj},bP v=true->weak v=v
 | .agg cs,h=>by simp only[bP] at h;simp only[weak,iz h]
 | .tup cs,h=>by simp only[bP] at h;simp only[weak,iz h]
 | .ro cs,h=>by simp only[bP] at h;simp only[weak,iz h]
 | .list n xs r,h=>by
   simp only[bP,cZ] at h
   simp only[weak,iz h.1]
   cases r<;>first|rfl|(simp at h)
 | .func f a b,h=>by
   simp only[bP,cZ] at h
   simp only[weak,iz h.1,iz h.2]
 | .iface t v,h=>by simp only[bP] at h;simp only[weak,Gv h]
 | .bool _,_=>rfl
 | .int _ _,_=>rfl
 | .str _,_=>rfl
 | .nilp,_=>rfl
 | .ptr _ _,h=>by simp[bP] at h
 | .lref _ _ _,h=>by simp[bP] at h
 | .nils,_=>rfl
 | .arr _ _ _ _ _,h=>by simp[bP] at h
 | .nilm,_=>rfl
 | .map _,h=>by simp[bP] at h
 | .nilf,_=>rfl
 | .nili,_=>rfl
theorem iz: ∀ {l:List aj},pures l=true->ef l=l
 | [],_=>rfl
 |v::l,h=>by
  simp only[pures,cZ] at h
  simp only[ef,Gv h.1,iz h.2]
end
theorem ami {v:aj} (h:v.scal=true):(weak v).scal=true:=by
 cases v<;>simp_all [weak,aj.scal]
theorem Um (l:List aj):(ef l).length=l.length:=by rw[Bf,eH]
theorem Uk (v:aj):(weak v).cells=ef v.cells:=by cases v<;>simp[weak,j9,ef]
theorem Yk (l:List aj):bQ (ef l)=ef (bQ l):=by
 induction l with
 |nil=>rfl
 |cons v l ih=>
  simp only[ef,bQ,Uk,ih]
  simp only[Bf,List.map_append]
theorem Tr {l:List aj} (h:dL l=true):dL (ef l)=true:=by
 induction l with
 |nil=>rfl
 |cons v l ih=>
  simp only[dL,mH,cZ] at h
  simp only[ef,dL,mH,cZ]
  exact⟨ami h.1,ih h.2⟩
theorem vR {l:List aj} (h:pures l=true) {i:Nat} {v:aj} (hi:l[i]? =some v):bP v=true:=uf.1 h v (lX hi)
theorem FI {l:List aj} (h:pures l=true):pures (bQ l)=true:=by
 induction l with
 |nil=>rfl
 |cons v l ih=>
  simp only[pures,cZ] at h
  have h1:pures v.cells=true:=by
   cases v<;>first
    |(simp only[j9];simpa[bP] using h.1)
    |(simp only[j9,pures,dY];exact h.1)
  rw[uf]
  intro u hu
  simp only[bQ,List.mem_append] at hu
  rcases hu with hu|hu
  ·exact uf.1 h1 u hu
  ·exact uf.1 (ih h.2) u hu
section
variable {G1 G2:Gh}
structure GJ (G1 G2:Gh):Prop where
 ro: ∀b o v,G1.ro b o=some v->bP (weak v)=true->G2.ro b o=some (weak v)
theorem Ul {l:List aj} {i:Nat} {x:aj} (h:(ef l)[i]? =some x): ∃y,l[i]? =some y/\x=weak y:=by
 rw[Bf,List.getElem?_map] at h
 cases e:l[i]? with
 |none=>rw[e] at h;cases h
 |some y=>rw[e] at h;injection h with h;exact⟨y,rfl,h.symm⟩
mutual
theorem VR.back (k:GJ G1 G2): ∀ {v:aj} {x:Value},VR G1 v x->bP (weak v)=true->VR G2 (weak v) x
 |_,_,.bool b,_=>.bool b
 |_,_,.int k n,_=>.int k n
 |_,_,.str s,_=>.str s
 |_,_,.agg hc hs,h=>.agg (Tr hc) (cp.back k hs (by simpa[weak,bP] using h))
 |_,_,.tup hs,h=>.tup (cp.back k hs (by simpa[weak,bP] using h))
 |_,_,.nilp,_=>.nilp
 |_,_,.ptr e,h=>by simp[weak,bP] at h
 |_,_,.ro (cs:=cs) e,h=>by
  have h:pures (ef cs)=true:=by simpa[weak,bP] using h
  refine .ro fun i x hx=>?_
  obtain⟨y,hy,rfl⟩:=Ul hx
  exact k.ro _ _ _ (e i y hy) (vR h hx)
 |_,_,.nils,_=>.nils
 |_,_,.list (xs:=xs) (r:=r) a b c d e f,h=>by
  simp only[weak,bP,cZ] at h
  have hlen:=Um xs
  simp only[weak]
  rw[<-hlen]
  refine .list a b ?_ (by rw[hlen];exact d) ?_ ?_
  ·intro x hx
   rw[Bf,List.mem_map] at hx
   obtain⟨y,hy,rfl⟩:=hx
   rw[Uk,Um];exact c y hy
  ·intro i x hx
   have hp:=vR (FI h.1) hx
   rw[Yk] at hx
   obtain⟨y,hy,rfl⟩:=Ul hx
   exact k.ro _ _ _ (e i y hy) hp
  ·cases r with
   |full=>rw[hlen];exact f
   |own n=>exact trivial
   |no=>exact trivial
 |_,_,.arr ..,h=>by simp[weak,bP] at h
 |_,_,.nilm,_=>.nilm
 |_,_,.map e,h=>by simp[weak,bP] at h
 |_,_,.nilf,_=>.nilf
 |_,_,.func a b,h=>by
  simp only[weak,bP,cZ] at h
  exact .func (cp.back k a h.1) (cp.back k b h.2)
 |_,_,.nili,_=>.nili
 |_,_,.iface e,h=>.iface (VR.back k e (by simpa[weak,bP] using h))
theorem cp.back (k:GJ G1 G2): ∀ {vs:List aj} {xs:List Value},cp G1 vs xs->pures (ef vs)=true->cp G2 (ef vs) xs
 |_,_,.nil,_=>.nil
 |_,_,.cons a b,h=>by
  simp only[ef,pures,cZ] at h
  exact .cons (VR.back k a h.1) (cp.back k b h.2)
end
def wL (G1 G2:Gh):Prop:= ∀b o v,G1.ro b o=some v->bP v=true->G2.ro b o=some v
mutual
theorem VR.onto (k:wL G1 G2): ∀ {v:aj} {x:Value},VR G1 v x->bP v=true->VR G2 v x
 |_,_,.bool b,_=>.bool b
 |_,_,.int k n,_=>.int k n
 |_,_,.str s,_=>.str s
 |_,_,.agg hc hs,h=>.agg hc (cp.onto k hs (by simpa[bP] using h))
 |_,_,.tup hs,h=>.tup (cp.onto k hs (by simpa[bP] using h))
 |_,_,.nilp,_=>.nilp
 |_,_,.ptr e,h=>by simp[bP] at h
 |_,_,.ro e,h=>.ro fun i x hx=>k _ _ _ (e i x hx) (vR (by simpa[bP] using h) hx)
 |_,_,.nils,_=>.nils
 |_,_,.list (r:=r) a b c d e f,h=>by
  simp only[bP,cZ] at h
  refine .list a b c d (fun i x hx=>k _ _ _ (e i x hx) (vR (FI h.1) hx)) ?_
  cases r with
  |full=>exact f
  |own n=>simp at h
  |no=>exact trivial
 |_,_,.arr ..,h=>by simp[bP] at h
 |_,_,.nilm,_=>.nilm
 |_,_,.map e,h=>by simp[bP] at h
 |_,_,.nilf,_=>.nilf
 |_,_,.func a b,h=>by
  simp only[bP,cZ] at h
  exact .func (cp.onto k a h.1) (cp.onto k b h.2)
 |_,_,.nili,_=>.nili
 |_,_,.iface e,h=>.iface (VR.onto k e (by simpa[bP] using h))
theorem cp.onto (k:wL G1 G2): ∀ {vs:List aj} {xs:List Value},cp G1 vs xs->pures vs=true->cp G2 vs xs
 |_,_,.nil,_=>.nil
 |_,_,.cons a b,h=>by
  simp only[pures,cZ] at h
  exact .cons (VR.onto k a h.1) (cp.onto k b h.2)
end
end
def Gh.plain (G:Gh):Gh where
 at_ _:=none
 ro b o:=(G.ro b o).bind fun v=>if bP v=true then some v else none
 dim:=G.dim
theorem SE (G:Gh):wL G G.plain:=fun b o v h hp=>by simp[Gh.plain,h,hp]
theorem WR.plain {G:Gh} {h:bv bH} {w:World} (x:WR G h w):WR G.plain .nil w where
 obj n o h:=by cases h
 sep n m a b h:=absurd rfl h
 ro b o v hv:=by
  simp only[Gh.plain,aG] at hv
  obtain⟨u,hu,hv⟩:=hv
  split at hv
  ·rename_i hp
   injection hv with hv;subst hv
   obtain⟨h1,y,h2,h3⟩:=x.ro b o u hu
   exact⟨h1,y,h2,h3.onto (SE G) hp⟩
  ·cases hv
 apart n ob a i v h:=by cases h
 dim:=x.dim
 below n a h:=by cases h
def s0:St:=⟨.nil,0,0,0⟩
theorem Av {G:Gh} {b:Nat}: ¬eM G .nil b:=fun⟨_,_,h,_⟩=>h rfl
def eN (P:Program) (f:FuncId) (sp:List aj->Option aj):Prop:=
 ∀args v,sp args=some v-> ∀(G:Gh) (h:bv bH) (w:World) (xs:List Value),WR G h w->cp G args xs->
  kF P f ⟨xs⟩ w fun y w'=> ∃G',WR G' h w'/\dr G h w G' h w' 0 0/\VR G' v y
structure qa (r r':lw):Prop where
 ops: ∀f all mk l fr s x,r.ops f all mk l fr s=some x->r'.ops f all mk l fr s=some x
 draw: ∀f all bs mk rs i l fr s x,r.draw f all bs mk rs i l fr s=some x->r'.draw f all bs mk rs i l fr s=some x
 code: ∀f c mk fr s x,r.code f c mk fr s=some x->r'.code f c mk fr s=some x
 call: ∀f args mk s x,r.call f args mk s=some x->r'.call f args mk s=some x
theorem jk {α β:Type} {x x':Option α} {k k':α->Option β} {b:β} (h:x.bind k=some b) (hx: ∀a,x=some a->x'=some a) (hk: ∀a,k a=some b->k' a=some b):x'.bind k'=some b:=by
 cases e:x with
 |none=>rw[e] at h;cases h
 |some a=>rw[e] at h;rw[hx a e];exact hk a h
section
variable {Q:cw} {r r':lw} (hr:qa r r')
include hr
theorem Uv {n:Nat} {args:List aj} {mk:bn} {s:St} {x:aj×St} (h:lm r n args mk s=some x):lm r' n args mk s=some x:=by
 unfold lm at h ⊢
 refine jk h (fun _ h=>h) fun o h=>jk h (fun y h=>?_) fun _ h=>h
 unfold uv at h ⊢
 split at h
 ·obtain⟨hb,h⟩:=bX h
  rw[hb]
  refine jk h (fun _ h=>h) fun env' h=>jk h (fun _ h=>hr.code _ _ _ _ _ _ h) fun y1 h=>?_
  obtain⟨e,fr1,s1⟩:=y1
  cases e with
  |normal=>exact jk h (fun _ h=>hr.code _ _ _ _ _ _ h) fun _ h=>h
  |exit i=>cases h
  |ret=>cases h
 ·cases h
theorem Sr {f:FuncId} {o:Oper} {mk:bn} {fr:Fr} {s:St} {x:aj×Loc×St} (h:fA Q r f o mk fr s=some x):fA Q r' f o mk fr s=some x:=by
 unfold fA at h ⊢
 split at h
 ·split at h
  ·exact h
  ·rename_i c _ _ _
   cases hy:mj fr.env c with
   |true=>
    rw[hy] at h
    simp only[cT] at h ⊢
    unfold o0 at h ⊢
    exact jk h (fun _ h=>h) fun a h=>jk h (fun _ h=>Uv hr h) fun _ h=>h
   |false=>
    rw[hy] at h
    simp only[cF] at h ⊢
    unfold lF at h ⊢
    exact jk h (fun _ h=>h) fun a h=>jk h (fun _ h=>hr.call _ _ _ _ _ h) fun _ h=>h
 ·exact h
theorem Yn:qa (CM Q r) (CM Q r') where
 ops f all mk l fr s x h:=by
  have h:kQ Q r f all mk l fr s=some x:=h
  show kQ Q r' f all mk l fr s=some x
  unfold kQ at h ⊢
  split at h
  ·exact h
  ·cases hw:eX all fr.env _<;>rw[hw] at h<;>simp only[cT,cF] at h ⊢
   ·exact jk h (fun _ h=>h) fun _ h=>hr.ops _ _ _ _ _ _ _ h
   ·exact jk h (fun _ h=>Sr hr h) fun a h=>jk h (fun _ h=>h) fun _ h=>hr.ops _ _ _ _ _ _ _ h
 draw f all bs mk rs i l fr s x h:=by
  have h:lH Q r f all bs mk rs i l fr s=some x:=h
  show lH Q r' f all bs mk rs i l fr s=some x
  unfold lH at h ⊢
  split at h
  ·exact h
  ·cases hw:eX all fr.env _<;>rw[hw] at h<;>simp only[cT,cF] at h ⊢
   ·exact jk h (fun _ h=>h) fun _ h=>hr.draw _ _ _ _ _ _ _ _ _ _ h
   ·refine jk h (fun _ h=>Sr hr h) fun a h=>?_
    obtain⟨hc,h⟩:=bX h
    rw[hc]
    exact jk h (fun _ h=>h) fun _ h=>hr.draw _ _ _ _ _ _ _ _ _ _ h
 code f c mk fr s x h:=by
  have h:rZ Q r f c mk fr s=some x:=h
  show rZ Q r' f c mk fr s=some x
  have hseq: ∀b y,ni r f b mk y=some x->ni r' f b mk y=some x:=by
   intro b y hy
   obtain⟨e,fr1,s1⟩:=y
   cases e
   ·exact hr.code _ _ _ _ _ _ hy
   ·exact hy
   ·exact hy
  cases c<;>simp only[rZ] at h ⊢ <;>first
   |exact h
   |exact jk h (fun _ h=>hr.code _ _ _ _ _ _ h) fun _ h=>hseq _ _ h
   |exact jk h (fun _ h=>hr.code _ _ _ _ _ _ h) fun _ h=>h
   |exact hr.code _ _ _ _ _ _ h
   |skip
  case cond=>
   refine jk h (fun _ h=>h) fun v h=>?_
   cases v<;>try (cases h;done)
   rename_i b
   cases b<;>exact hr.code _ _ _ _ _ _ h
  case rangeFunc=>
   refine jk h (fun _ h=>h) fun v h=>?_
   unfold rr at h ⊢
   split at h
   ·obtain⟨hb,h⟩:=bX h
    rw[hb]
    exact jk h (fun _ h=>hr.call _ _ _ _ _ h) fun _ h=>h
   ·cases h
  case region=>
   rename_i id ops draw _
   unfold AN at h ⊢
   refine jk h (fun a h=>?_) fun _ h=>h
   cases draw with
   |false=>exact hr.ops _ _ _ _ _ _ _ h
   |true=>
    simp only[cT] at h ⊢
    obtain⟨hc,h⟩:=bX h
    rw[hc]
    exact hr.draw _ _ _ _ _ _ _ _ _ _ h
 call f args mk s x h:=by
  have h:jx Q r f args mk s=some x:=h
  show jx Q r' f args mk s=some x
  unfold jx at h ⊢
  split at h
  ·exact h
  ·split at h
   ·exact h
   ·split at h
    ·exact h
    exact jk h (fun _ h=>h) fun fn h=>jk h (fun _ h=>h) fun c h=>jk h (fun _ h=>hr.code _ _ _ _ _ _ h) fun _ h=>h
end
theorem RS (Q:cw): ∀n,qa (cN Q n) (cN Q (n+1))
 |0=>⟨fun _ _ _ _ _ _ _ h=>(by cases h),fun _ _ _ _ _ _ _ _ _ _ h=>(by cases h),fun _ _ _ _ _ _ h=>(by cases h),fun _ _ _ _ _ h=>(by cases h)⟩
 |n+1=>Yn (RS Q n)
theorem qa.refl (r:lw):qa r r:=⟨fun _ _ _ _ _ _ _ h=>h,fun _ _ _ _ _ _ _ _ _ _ h=>h,fun _ _ _ _ _ _ h=>h,fun _ _ _ _ _ h=>h⟩
theorem qa.trans {a b c:lw} (x:qa a b) (y:qa b c):qa a c:=
 ⟨fun _ _ _ _ _ _ _ h=>y.ops _ _ _ _ _ _ _ (x.ops _ _ _ _ _ _ _ h),fun _ _ _ _ _ _ _ _ _ _ h=>y.draw _ _ _ _ _ _ _ _ _ _ (x.draw _ _ _ _ _ _ _ _ _ _ h),
  fun _ _ _ _ _ _ h=>y.code _ _ _ _ _ _ (x.code _ _ _ _ _ _ h),fun _ _ _ _ _ h=>y.call _ _ _ _ _ (x.call _ _ _ _ _ h)⟩
theorem mn (Q:cw) {n m:Nat} (h:n<=m):qa (cN Q n) (cN Q m):=by
 induction m with
 |zero=>have:n=0:=by omega
        subst this;exact .refl _
 |succ m ih=>
  by_cases e:n=m+1
  ·subst e;exact .refl _
  ·exact(ih (by omega)).trans (RS Q m)
def ow (mk mk1:bn) (s:St):Prop:= ∀n,dJ mk n=dJ mk1 n\/(n<s.next/\s.heap.get n=none)
section
variable {mk mk1:bn} {s s':St}
theorem ow.get (h:ow mk mk1 s):s.get mk=s.get mk1:=by
 funext n
 unfold St.get
 rcases h n with h|⟨_,h⟩
 ·rw[h]
 ·rw[h];cases dJ mk n<;>cases dJ mk1 n<;>rfl
theorem ow.goes (h:ow mk mk1 s) (g:fO mk s s'):ow mk mk1 s':=fun n=>by
 rcases h n with h|⟨h1,h2⟩
 ·exact .inl h
 ·refine .inr ⟨gu h1 g.next,?_⟩
  rw[g.frame n ?_]
  ·exact h2
  ·rintro(⟨_,h'⟩|h')
   ·exact h' h2
   ·omega
theorem ow.same (h:ow mk mk1 s) (hn:s'.next=s.next) (hh:s'.heap=s.heap):ow mk mk1 s':=fun n=>by rw[hn,hh];exact h n
end
structure amL (r:lw):Prop where
 ops: ∀f all mk mk1 l fr s,ow mk mk1 s->r.ops f all mk l fr s=r.ops f all mk1 l fr s
 draw: ∀f all bs mk mk1 rs i l fr s,ow mk mk1 s->r.draw f all bs mk rs i l fr s=r.draw f all bs mk1 rs i l fr s
 code: ∀f c mk mk1 fr s,ow mk mk1 s->r.code f c mk fr s=r.code f c mk1 fr s
 call: ∀f args mk mk1 s,ow mk mk1 s->r.call f args mk s=r.call f args mk1 s
inductive SG where
 |aw
 |never
 |when (t:Tmp) (b:Bool)
structure cD where
 dst:Option Tmp
 op:Op
 g:SG
abbrev ae (d:Tmp) (o:Op):cD:=⟨some d,o,.aw⟩
abbrev aM (d:Tmp) (o:Op) (n:Tmp) (b:Bool):cD:=⟨some d,o,.when n b⟩
abbrev aC:=List cD
def C9 (all:Array Oper) (o:Oper):SG:=
 match o.guard with
 |none=>.aw
 |some (j,w)=>match(all[j]?).bind (·.dst) with
  |some d=>.when d w
  |none=>.never
def od (all:Array Oper) (o:Oper):cD:=⟨o.dst,o.op,C9 all o⟩
inductive SC where
 |skip
 |ret
 |exit (id:Nat)
 |seq (a b:SC)
 |cond (x:Operand) (a b:SC)
 |block (id:Nat) (b:SC)
 |scope (b:SC)
 |loop (b:SC)
 |region (ops:List cD)
 |draw (ops:List cD) (bs:List Nat)
 |rfun (g:Operand) (ps:List Tmp) (a b:Code)
 |bad
def cL:Code->SC
 | .skip=>.skip
 | .label _=>.skip
 | .ret=>.ret
 | .exit id=>.exit id
 | .seq a b=>.seq (cL a) (cL b)
 | .cond x a b=>.cond x (cL a) (cL b)
 | .block id b=>.block id (cL b)
 | .scope b=>.scope (cL b)
 | .loop b=>.loop (cL b)
 | .region _ ops false=>.region (ops.toList.map (od ops))
 | .region _ ops true=>bif kU ops 0 ops.toList (Region.before ops).toList then .draw (ops.toList.map (od ops)) (Region.before ops).toList else .bad
 | .rangeFunc g ps a b=>.rfun g ps.toList a b
 |_=>.bad
noncomputable def iy (e:bj):SG->Bool
 | .aw=>true
 | .never=>false
 | .when t b=>match ax e t with
   | .bool c=>c==b
   |_=>false
theorem wq (all:Array Oper) (e:bj) (o:Oper):iy e (C9 all o)=eX all e o:=by
 unfold C9 eX
 cases o.guard with
 |none=>rfl
 |some g=>
  obtain⟨j,w⟩:=g
  simp only
  cases (all[j]?).bind (·.dst)<;>rfl
section
variable (Q:cw) (f:FuncId)
noncomputable def dR (o:cD) (mk:bn) (fr:Fr) (s:St):Option (aj×Loc×St):=
 match o.op with
 | .call c=>match c.callee with
   | .builtin _=>qw Q.P mk (Q.hint f) o.dst c fr s
   |_=>(callee fr.env c).bind fun g=>(Q.spec g.1).bind fun sp=>(sp g.2).bind fun v=>some (v,fr.loc,s)
 |op=>kg Q.P mk Q.ch Q.kmax (Q.hint f) o.dst op fr s
noncomputable def um (o:cD) (fr:Fr) (s:St):Option (Fr×St):=
 bif iy fr.env o.g then(dR Q f o [] fr s).bind fun x=>(ee fr o.dst x.1 x.2.1).bind fun fr'=>some (fr',x.2.2)
 else(ee fr o.dst ii fr.loc).bind fun fr'=>some (fr',s)
noncomputable def qB:List cD->Fr->St->Option (Fr×St)
 | [],fr,s=>some (fr,s)
 |o::l,fr,s=>(um Q f o fr s).bind fun x=>qB l x.1 x.2
noncomputable def sS (bs:List Nat) (rs:List dU) (i:Nat):List cD->Fr->St->Option (Fr×St)
 | [],fr,s=>some (fr,s)
 |o::l,fr,s=>
  bif iy fr.env o.g then
   (dR Q f o (je (bs.headD 0) rs []) fr ⟨s.heap,s.next,s.next,s.ci⟩).bind fun x=>
    bif fits (bs.headD 0) (dy (Q.hint f) o.dst fr.env o.op) (bT x.2.2.minw s.next||isStore o.op) rs&&be s.ci x.2.2.ci then
     (ee fr o.dst x.1 x.2.1).bind fun fr'=>
      sS bs.tail (⟨i,s.next,x.2.2.next,dy (Q.hint f) o.dst fr.env o.op,bT x.2.2.minw s.next||isStore o.op⟩::rs) (i+1) l fr' (s.least x.2.2)
    else none
  else(ee fr o.dst ii fr.loc).bind fun fr'=>sS bs.tail rs (i+1) l fr' s
end
def Ex.block (id:Nat):Ex->Ex
 | .exit i=>bif be i id then .normal else .exit i
 |x=>x
def bz (Q:cw) (g:FuncId) (args:List aj) (s:St) (v:aj) (s':St):Prop:= ∃n,(cN Q n).call g args [] s=some (v,s')
def qe (Q:cw) (n:Nat) (args:List aj) (s:St) (v:aj) (s':St):Prop:= ∃k,lm (cN Q k) n args [] s=some (v,s')
inductive oC (Q:cw) (f:FuncId):List cD->Fr->St->Fr->St->Prop
 |nil {fr:Fr} {s:St}:oC Q f [] fr s fr s
 |step {o:cD} {l:List cD} {fr fr1 fr2:Fr} {s s1 s2:St}:um Q f o fr s=some (fr1,s1)->oC Q f l fr1 s1 fr2 s2->oC Q f (o::l) fr s fr2 s2
 |call {o:cD} {c:Call} {l:List cD} {fr fr1 fr2:Fr} {s s1 s2:St} {g:FuncId} {args:List aj} {v:aj}:iy fr.env o.g=true->o.op= .call c->(∀b,c.callee≠ .builtin b)->callee fr.env c=some (g,args)->
  bz Q g args s v s1->ee fr o.dst v fr.loc=some fr1->oC Q f l fr1 s1 fr2 s2->oC Q f (o::l) fr s fr2 s2
 |yld {o:cD} {c:Call} {l:List cD} {fr fr1 fr2:Fr} {s s1 s2:St} {n:Nat} {args:List aj} {v:aj}:iy fr.env o.g=true->o.op= .call c->yieldee fr.env c=some (n,args)->
  qe Q n args s v s1->ee fr o.dst v fr.loc=some fr1->oC Q f l fr1 s1 fr2 s2->oC Q f (o::l) fr s fr2 s2
def yH (Q:cw) (g:FuncId) (args:List aj) (mk:bn) (s:St) (v:aj) (s':St):Prop:= ∃n,(cN Q n).call g args mk s=some (v,s')
inductive jv (Q:cw) (f:FuncId):List Nat->List dU->Nat->List cD->Fr->St->Fr->St->Prop
 |nil {bs:List Nat} {rs:List dU} {i:Nat} {fr:Fr} {s:St}:jv Q f bs rs i [] fr s fr s
 |skip {bs:List Nat} {rs:List dU} {i:Nat} {o:cD} {l:List cD} {fr fr1 fr2:Fr} {s s2:St}:iy fr.env o.g=false->ee fr o.dst ii fr.loc=some fr1->jv Q f bs.tail rs (i+1) l fr1 s fr2 s2->jv Q f bs rs i (o::l) fr s fr2 s2
 |step {bs:List Nat} {rs:List dU} {i:Nat} {o:cD} {l:List cD} {fr fr1 fr2:Fr} {s s1 s2:St} {v:aj} {lc:Loc}:iy fr.env o.g=true->dR Q f o (je (bs.headD 0) rs []) fr ⟨s.heap,s.next,s.next,s.ci⟩=some (v,lc,s1)->
  fits (bs.headD 0) (dy (Q.hint f) o.dst fr.env o.op) (bT s1.minw s.next||isStore o.op) rs=true->s1.ci=s.ci->ee fr o.dst v lc=some fr1->
  jv Q f bs.tail (⟨i,s.next,s1.next,dy (Q.hint f) o.dst fr.env o.op,bT s1.minw s.next||isStore o.op⟩::rs) (i+1) l fr1 (s.least s1) fr2 s2->jv Q f bs rs i (o::l) fr s fr2 s2
 |call {bs:List Nat} {rs:List dU} {i:Nat} {o:cD} {c:Call} {l:List cD} {fr fr1 fr2:Fr} {s s1 s2:St} {g:FuncId} {args:List aj} {v:aj}:iy fr.env o.g=true->o.op= .call c->(∀b,c.callee≠ .builtin b)->callee fr.env c=some (g,args)->
  yH Q g args (je (bs.headD 0) rs []) ⟨s.heap,s.next,s.next,s.ci⟩ v s1->
  fits (bs.headD 0) (dy (Q.hint f) o.dst fr.env o.op) (bT s1.minw s.next||isStore o.op) rs=true->s1.ci=s.ci->ee fr o.dst v fr.loc=some fr1->
  jv Q f bs.tail (⟨i,s.next,s1.next,dy (Q.hint f) o.dst fr.env o.op,bT s1.minw s.next||isStore o.op⟩::rs) (i+1) l fr1 (s.least s1) fr2 s2->jv Q f bs rs i (o::l) fr s fr2 s2
theorem jv.of {Q:cw} {f:FuncId}: ∀ {l:List cD} {bs:List Nat} {rs:List dU} {i:Nat} {fr fr':Fr} {s s':St},sS Q f bs rs i l fr s=some (fr',s')->jv Q f bs rs i l fr s fr' s'
 | [],bs,rs,i,fr,fr',s,s',h=>by
   simp only[sS,bg,bL] at h
   obtain⟨rfl,rfl⟩:=h;exact .nil
 |o::l,bs,rs,i,fr,fr',s,s',h=>by
  simp only[sS] at h
  cases hw:iy fr.env o.g with
  |true=>
   rw[hw] at h
   simp only[cT,aG] at h
   obtain⟨⟨v,lc,s1⟩,h1,h⟩:=h
   obtain⟨hc,h⟩:=bX h
   simp only[cZ] at hc
   simp only[aG] at h
   obtain⟨fr1,h2,h⟩:=h
   exact .step hw h1 hc.1 (ik hc.2).symm h2 (jv.of h)
  |false=>
   rw[hw] at h
   simp only[cF,aG] at h
   obtain⟨fr1,h2,h⟩:=h
   exact .skip hw h2 (jv.of h)
inductive jj (Q:cw) (f:FuncId):SC->Fr->St->Ex->Fr->St->Prop
 |skip {fr:Fr} {s:St}:jj Q f .skip fr s .normal fr s
 |ret {fr:Fr} {s:St}:jj Q f .ret fr s .ret fr s
 |exit {id:Nat} {fr:Fr} {s:St}:jj Q f (.exit id) fr s (.exit id) fr s
 |seqN {a b:SC} {fr fr1 fr2:Fr} {s s1 s2:St} {x:Ex}:jj Q f a fr s .normal fr1 s1->jj Q f b fr1 s1 x fr2 s2->jj Q f (.seq a b) fr s x fr2 s2
 |seqX {a b:SC} {fr fr1:Fr} {s s1:St} {x:Ex}:jj Q f a fr s x fr1 s1->x≠ .normal->jj Q f (.seq a b) fr s x fr1 s1
 |cond {o:Operand} {a b:SC} {t:Bool} {fr fr1:Fr} {s s1:St} {x:Ex}:ev fr.env o=some (.bool t)->jj Q f (if t then a else b) fr s x fr1 s1->jj Q f (.cond o a b) fr s x fr1 s1
 |block {id:Nat} {b:SC} {fr fr1:Fr} {s s1:St} {x:Ex}:jj Q f b fr s x fr1 s1->jj Q f (.block id b) fr s (x.block id) fr1 s1
 |scope {b:SC} {fr fr1:Fr} {s s1:St} {x:Ex}:jj Q f b fr s x fr1 s1->jj Q f (.scope b) fr s x fr1 s1
 |loopN {b:SC} {fr fr1 fr2:Fr} {s s1 s2:St} {x:Ex}:jj Q f b fr s .normal fr1 s1->jj Q f (.loop b) fr1 s1 x fr2 s2->jj Q f (.loop b) fr s x fr2 s2
 |loopX {b:SC} {fr fr1:Fr} {s s1:St} {x:Ex}:jj Q f b fr s x fr1 s1->x≠ .normal->jj Q f (.loop b) fr s x fr1 s1
 |region {ops:List cD} {fr fr1:Fr} {s s1:St}:oC Q f ops fr s fr1 s1->jj Q f (.region ops) fr s .normal fr1 s1
 |draw {ops:List cD} {bs:List Nat} {fr fr1:Fr} {s s1:St}:jv Q f bs [] 0 ops fr s fr1 s1->jj Q f (.draw ops bs) fr s .normal fr1 s1
 |rfun {g:Operand} {ps:List Tmp} {a b:Code} {fr:Fr} {s s1:St} {h:FuncId} {first captured:List aj} {v:aj} {f':FuncId} {env':bv aj} {size':Nat} {ps':List Tmp} {a' b':Code} {p:Option Ex}:ev fr.env g=some (.func (.func h) first captured)->
  (mf Q.P h&&(fr.env.all ri&&(fq a&&fq b)))=true->bz Q h (first++(.yld s.next::captured)) (s.new (.loop f fr.env fr.size ps a b none)) v s1->s1.get [] s.next=some (.loop f' env' size' ps' a' b' p)->
  jj Q f (.rfun g ps a b) fr s (ub p) fr (s1.put s.next none)
theorem Ft (n:Nat):be n n=true:=by simp
theorem Dq {e:bj} {c:Call} {g:FuncId×List aj} (h:callee e c=some g):mj e c=false:=by
 unfold callee at h
 unfold mj
 cases hc:c.callee with
 |builtin b=>rfl
 |invoke a b=>rfl
 |value x=>
  rw[hc] at h
  simp only[aG] at h
  obtain⟨v,hv,h⟩:=h
  simp only[hv]
  cases v<;>first|rfl|cases h
theorem abh {e:bj} {c:Call} {g:Nat×List aj} (h:yieldee e c=some g):mj e c=true/\ ∀b,c.callee≠ .builtin b:=by
 unfold yieldee at h
 unfold mj
 cases hc:c.callee with
 |builtin b=>rw[hc] at h;cases h
 |invoke a b=>rw[hc] at h;cases h
 |value x=>
  rw[hc] at h
  simp only[aG] at h
  obtain⟨v,hv,h⟩:=h
  simp only[hv]
  refine⟨?_,fun b e=>by cases e⟩
  cases v<;>first|rfl|cases h
section
variable {Q:cw} {f:FuncId}
theorem SF {all:Array Oper} {o:Oper} {mk:bn} {fr:Fr} {s:St} {x:aj×Loc×St} (h:dR Q f (od all o) mk fr s=some x) (n:Nat):fA Q (cN Q (n+1)) f o mk fr s=some x:=by
 unfold dR at h
 unfold fA
 simp only[od] at h
 cases hop:o.op<;>rw[hop] at h<;>simp only at h ⊢ <;>try exact h
 ·rename_i c
  cases hcl:c.callee<;>rw[hcl] at h<;>simp only at h ⊢
  case builtin=>exact h
  all_goals
   simp only[aG] at h
   obtain⟨g,hg,sp,hsp,v,hv,h⟩:=h
   injection h with h;subst h
   have:(cN Q (n+1)).call g.1 g.2 mk s=some (v,s):=by
    show jx Q (cN Q n) g.1 g.2 mk s=_
    unfold jx
    simp only[hsp,hv,aq]
   simp only[Dq hg,cF,lF,hg,aq,this]
theorem akD {all:Array Oper}: ∀ {l:List Oper} {ops:List cD} {fr fr':Fr} {s s':St},oC Q f ops fr s fr' s'->ops=l.map (od all)-> ∃n,(cN Q n).ops f all [] l fr s=some (fr',s'):=by
 intro l ops fr fr' s s' h
 induction h generalizing l with
 |nil=>
  intro e
  cases l with
  |nil=>exact⟨1,rfl⟩
  |cons _ _=>cases e
 |step h1 _ ih=>
  intro e
  cases l with
  |nil=>cases e
  |cons p l=>
   simp only[fw,mI] at e
   obtain⟨rfl,rfl⟩:=e
   obtain⟨n,hn⟩:=ih rfl
   refine⟨n+2,?_⟩
   show kQ Q (cN Q (n+1)) f all [] (p::l) _ _=_
   have hn:=(mn Q (Nat.le_succ n)).ops _ _ _ _ _ _ _ hn
   rename_i fr fr1 _ s s1 _ _ _
   unfold um at h1
   have hw:iy fr.env (od all p).g=eX all fr.env p:=wq all _ p
   rw[hw] at h1
   simp only[kQ]
   cases hb:eX all fr.env p with
   |true=>
    rw[hb] at h1
    simp only[cT,aG] at h1 ⊢
    obtain⟨x,hx,fr2,hf,h1⟩:=h1
    injection h1 with h1
    simp only[bL] at h1
    obtain⟨rfl,rfl⟩:=h1
    exact⟨x,SF hx n,fr2,hf,hn⟩
   |false=>
    rw[hb] at h1
    simp only[cF,aG] at h1 ⊢
    obtain⟨fr2,hf,h1⟩:=h1
    injection h1 with h1
    simp only[bL] at h1
    obtain⟨rfl,rfl⟩:=h1
    exact⟨fr2,hf,hn⟩
 |call hw ho hnb hcal hrun hp _ ih=>
  intro e
  cases l with
  |nil=>cases e
  |cons p l=>
   simp only[fw,mI] at e
   obtain⟨rfl,rfl⟩:=e
   obtain⟨n,hn⟩:=ih rfl
   obtain⟨m,hm⟩:=hrun
   refine⟨max n m+1,?_⟩
   show kQ Q (cN Q (max n m)) f all [] (p::l) _ _=_
   have hn:=(mn Q (rJ n m)).ops _ _ _ _ _ _ _ hn
   have hm:=(mn Q (rK n m)).call _ _ _ _ _ hm
   rename_i c fr fr1 fr2 s s1 s2 g args v _ _ _
   have hw:eX all fr.env p=true:=by rw[<-wq all];exact hw
   simp only[kQ]
   rw[hw]
   simp only[cT,aG]
   have ho:p.op= .call c:=ho
   refine⟨(v,fr.loc,s1),?_,fr1,hp,hn⟩
   unfold fA
   rw[ho]
   simp only
   have hcall:lF (cN Q (max n m)) c [] fr s=some (v,fr.loc,s1):=by simp only[lF,hcal,aq,hm]
   cases hcl:c.callee with
   |builtin b=>exact absurd hcl (hnb b)
   |_=>simp only[Dq hcal,cF];exact hcall
 |yld hw ho hcal hrun hp _ ih=>
  intro e
  cases l with
  |nil=>cases e
  |cons p l=>
   simp only[fw,mI] at e
   obtain⟨rfl,rfl⟩:=e
   obtain⟨n,hn⟩:=ih rfl
   obtain⟨m,hm⟩:=hrun
   refine⟨max n m+1,?_⟩
   show kQ Q (cN Q (max n m)) f all [] (p::l) _ _=_
   have hn:=(mn Q (rJ n m)).ops _ _ _ _ _ _ _ hn
   have hm:=Uv (mn Q (rK n m)) hm
   rename_i c fr fr1 fr2 s s1 s2 g args v _ _ _
   have hw:eX all fr.env p=true:=by rw[<-wq all];exact hw
   simp only[kQ]
   rw[hw]
   simp only[cT,aG]
   have ho:p.op= .call c:=ho
   refine⟨(v,fr.loc,s1),?_,fr1,hp,hn⟩
   unfold fA
   rw[ho]
   simp only
   have hcall:o0 (cN Q (max n m)) c [] fr s=some (v,fr.loc,s1):=by simp only[o0,hcal,aq,hm]
   obtain⟨hy,hnb⟩:=abh hcal
   cases hcl:c.callee with
   |builtin b=>exact absurd hcl (hnb b)
   |_=>simp only[hy,cT];exact hcall
theorem akE {all:Array Oper} {ops:List cD} {bs:List Nat} {rs:List dU} {i:Nat} {fr fr':Fr} {s s':St} (h:jv Q f bs rs i ops fr s fr' s'): ∀ {l:List Oper},ops=l.map (od all)-> ∃n,(cN Q n).draw f all bs [] rs i l fr s=some (fr',s'):=by
 induction h with
 |nil=>
  intro l e
  cases l with
  |nil=>exact⟨1,rfl⟩
  |cons _ _=>cases e
 |skip hw h1 _ ih=>
  intro l e
  cases l with
  |nil=>cases e
  |cons p l=>
   simp only[fw,mI] at e
   obtain⟨rfl,rfl⟩:=e
   obtain⟨n,hn⟩:=ih rfl
   refine⟨n+1,?_⟩
   have hw:=(wq all _ p).symm.trans hw
   show lH Q (cN Q n) f all _ [] _ _ (p::l) _ _=_
   simp only[lH]
   rw[hw]
   simp only[cF,aG]
   exact⟨_,h1,hn⟩
 |step hw h1 hf hc h2 _ ih=>
  intro l e
  cases l with
  |nil=>cases e
  |cons p l=>
   simp only[fw,mI] at e
   obtain⟨rfl,rfl⟩:=e
   obtain⟨n,hn⟩:=ih rfl
   refine⟨n+2,?_⟩
   have hw:=(wq all _ p).symm.trans hw
   show lH Q (cN Q (n+1)) f all _ [] _ _ (p::l) _ _=_
   have hn:=(mn Q (Nat.le_succ n)).draw _ _ _ _ _ _ _ _ _ _ hn
   simp only[lH]
   rw[hw]
   simp only[cT,aG]
   refine⟨_,SF h1 n,?_⟩
   simp only[od] at hf h2 hn
   simp only
   rw[hf,hc,Ft]
   simp only[gf,cT,aG]
   exact⟨_,h2,hn⟩
 |call hw ho hnb hcal hrun hf hc h2 _ ih=>
  intro l e
  cases l with
  |nil=>cases e
  |cons p l=>
   simp only[fw,mI] at e
   obtain⟨rfl,rfl⟩:=e
   rename_i bs rs i c fr fr1 fr2 s s1 s2 g args v _
   obtain⟨n,hn⟩:=ih rfl
   obtain⟨m,hm⟩:=hrun
   refine⟨max n m+1,?_⟩
   have hw:=(wq all _ p).symm.trans hw
   show lH Q (cN Q (max n m)) f all _ [] _ _ (p::l) _ _=_
   have hn:=(mn Q (rJ n m)).draw _ _ _ _ _ _ _ _ _ _ hn
   have hm:=(mn Q (rK n m)).call _ _ _ _ _ hm
   have ho:p.op= .call c:=ho
   simp only[lH]
   rw[hw]
   simp only[cT,aG]
   refine⟨(v,fr.loc,s1),?_,?_⟩
   ·unfold fA
    rw[ho]
    simp only
    have hcall:lF (cN Q (max n m)) c (je (bs.headD 0) rs []) fr ⟨s.heap,s.next,s.next,s.ci⟩=some (v,fr.loc,s1):=by simp only[lF,hcal,aq,hm]
    cases hcl:c.callee with
    |builtin b=>exact absurd hcl (hnb b)
    |_=>simp only[Dq hcal,cF];exact hcall
   ·simp only[od] at hf h2 hn
    simp only
    rw[hf,hc,Ft]
    simp only[gf,cT,aG]
    exact⟨_,h2,hn⟩
theorem W2 {id:Nat} {ops:Array Oper}:cL (.region id ops false)= .region (ops.toList.map (od ops)):=by rw[cL]
theorem W1 {id:Nat} {ops:Array Oper}:cL (.region id ops true)=bif kU ops 0 ops.toList (Region.before ops).toList then .draw (ops.toList.map (od ops)) (Region.before ops).toList else .bad:=by rw[cL]
theorem nP (c:Code):match cL c with
 | .skip=>c= .skip\/ ∃l,c= .label l
 | .ret=>c= .ret
 | .exit id=>c= .exit id
 | .seq a b=> ∃x y,c= .seq x y/\cL x=a/\cL y=b
 | .cond o a b=> ∃x y,c= .cond o x y/\cL x=a/\cL y=b
 | .block id b=> ∃x,c= .block id x/\cL x=b
 | .scope b=> ∃x,c= .scope x/\cL x=b
 | .loop b=> ∃x,c= .loop x/\cL x=b
 | .region l=> ∃id ops,c= .region id ops false/\ops.toList.map (od ops)=l
 | .draw l bs=> ∃id ops,c= .region id ops true/\ops.toList.map (od ops)=l/\(Region.before ops).toList=bs/\kU ops 0 ops.toList (Region.before ops).toList=true
 | .rfun g l a b=> ∃ps,c= .rangeFunc g ps a b/\ps.toList=l
 | .bad=>True:=by
 cases c with
 |region id ops d=>
  cases d with
  |false=>rw[W2];exact⟨id,ops,rfl,rfl⟩
  |true=>
   rw[W1]
   cases h:kU ops 0 ops.toList (Region.before ops).toList with
   |false=>trivial
   |true=>exact⟨id,ops,rfl,rfl,rfl,h⟩
 |skip=>exact .inl rfl
 |label l=>exact .inr ⟨l,rfl⟩
 |ret=>rfl
 |exit id=>rfl
 |seq a b=>exact⟨a,b,rfl,rfl,rfl⟩
 |cond x a b=>exact⟨a,b,rfl,rfl,rfl⟩
 |block id b=>exact⟨b,rfl,rfl⟩
 |scope b=>exact⟨b,rfl,rfl⟩
 |loop b=>exact⟨b,rfl,rfl⟩
 |rangeFunc g ps a b=>exact⟨ps,rfl,rfl⟩
 |_=>trivial
theorem FW {sc:SC} {fr fr':Fr} {s s':St} {x:Ex} (h:jj Q f sc fr s x fr' s'): ∀ {c:Code},cL c=sc-> ∃n,(cN Q n).code f c [] fr s=some (x,fr',s'):=by
 induction h with
 |skip=>
  intro c e
  have:=nP c
  rw[e] at this
  rcases this with rfl|⟨l,rfl⟩<;>exact⟨1,rfl⟩
 |ret=>intro c e;have:=nP c;rw[e] at this;simp only at this;subst this;exact⟨1,rfl⟩
 |exit=>intro c e;have:=nP c;rw[e] at this;simp only at this;subst this;exact⟨1,rfl⟩
 |seqN _ _ ih1 ih2=>
  intro c e
  have:=nP c
  rw[e] at this
  obtain⟨x,y,rfl,h1,h2⟩:=this
  obtain⟨n,hn⟩:=ih1 h1
  obtain⟨m,hm⟩:=ih2 h2
  refine⟨max n m+1,?_⟩
  show((cN Q (max n m)).code f x [] _ _).bind (ni (cN Q (max n m)) f y [])=_
  rw[(mn Q (rJ n m)).code _ _ _ _ _ _ hn]
  exact(mn Q (rK n m)).code _ _ _ _ _ _ hm
 |seqX _ hx ih1=>
  intro c e
  have:=nP c
  rw[e] at this
  obtain⟨a,b,rfl,h1,h2⟩:=this
  obtain⟨n,hn⟩:=ih1 h1
  refine⟨n+1,?_⟩
  show((cN Q n).code f a [] _ _).bind (ni (cN Q n) f b [])=_
  rw[hn]
  rename_i x _
  cases x
  ·exact absurd rfl hx
  ·rfl
  ·rfl
 |cond hv _ ih=>
  intro c e
  have:=nP c
  rw[e] at this
  obtain⟨a,b,rfl,h1,h2⟩:=this
  rename_i t _ _ _ _ _ _
  obtain⟨n,hn⟩:=ih (c:=if t then a else b) (by cases t<;>simp[h1,h2])
  refine⟨n+1,?_⟩
  show(ev _ _).bind (u4 (cN Q n) f a b [] _ _)=_
  rw[hv]
  cases t<;>exact hn
 |block _ ih=>
  intro c e
  have:=nP c
  rw[e] at this
  obtain⟨b,rfl,h1⟩:=this
  obtain⟨n,hn⟩:=ih h1
  refine⟨n+1,?_⟩
  show((cN Q n).code f b [] _ _).bind (fun x=>some (nM _ x))=_
  rw[hn]
  rename_i id _ _ _ _ _ x _
  cases x
  ·rfl
  ·simp only[aq,nM,Ex.block]
   generalize be _ _=q
   cases q<;>rfl
  ·rfl
 |scope _ ih=>
  intro c e
  have:=nP c
  rw[e] at this
  obtain⟨b,rfl,h1⟩:=this
  obtain⟨n,hn⟩:=ih h1
  exact⟨n+1,hn⟩
 |loopN _ _ ih1 ih2=>
  intro c e
  have:=nP c
  rw[e] at this
  obtain⟨b,rfl,h1⟩:=this
  obtain⟨n,hn⟩:=ih1 h1
  obtain⟨m,hm⟩:=ih2 (c:=.loop b) (by rw[cL,h1])
  refine⟨max n m+1,?_⟩
  show((cN Q (max n m)).code f b [] _ _).bind (ni (cN Q (max n m)) f (.loop b) [])=_
  rw[(mn Q (rJ n m)).code _ _ _ _ _ _ hn]
  exact(mn Q (rK n m)).code _ _ _ _ _ _ hm
 |loopX _ hx ih1=>
  intro c e
  have:=nP c
  rw[e] at this
  obtain⟨b,rfl,h1⟩:=this
  obtain⟨n,hn⟩:=ih1 h1
  refine⟨n+1,?_⟩
  show((cN Q n).code f b [] _ _).bind (ni (cN Q n) f (.loop b) [])=_
  rw[hn]
  rename_i x _
  cases x
  ·exact absurd rfl hx
  ·rfl
  ·rfl
 |region hl=>
  intro c e
  have:=nP c
  rw[e] at this
  obtain⟨id,ops,rfl,h1⟩:=this
  obtain⟨n,hn⟩:=akD (all:=ops) (l:=ops.toList) hl h1.symm
  refine⟨n+1,?_⟩
  show((cN Q n).ops f ops [] ops.toList _ _).bind (fun x=>some (Ex.normal,x.1,x.2))=_
  rw[hn];rfl
 |draw hl=>
  intro c e
  have:=nP c
  rw[e] at this
  obtain⟨id,ops,rfl,h1,h2,h3⟩:=this
  subst h1;subst h2
  obtain⟨n,hn⟩:=akE hl (l:=ops.toList) rfl
  refine⟨n+1,?_⟩
  show(bif kU ops 0 ops.toList (Region.before ops).toList then(cN Q n).draw f ops (Region.before ops).toList [] [] 0 ops.toList _ _ else none).bind (fun x=>some (Ex.normal,x.1,x.2))=_
  rw[h3,cT,hn];rfl
 |rfun hv hb hr hg=>
  intro c e
  have:=nP c
  rw[e] at this
  obtain⟨ps,rfl,rfl⟩:=this
  obtain⟨n,hn⟩:=hr
  refine⟨n+1,?_⟩
  show(ev _ _).bind (rr Q (cN Q n) f ps.toList _ _ [] _ _)=_
  rw[hv]
  simp only[aq,rr]
  rw[hb]
  simp only[cT,hn,aq,ug,hg]
end
def W (Q:cw) (f:FuncId) (c:SC) (fr:Fr) (s:St) (K:Ex->Fr->St->Prop):Prop:= ∃x fr' s',jj Q f c fr s x fr' s'/\K x fr' s'
def WL (Q:cw) (f:FuncId) (l:List cD) (fr:Fr) (s:St) (K:Fr->St->Prop):Prop:= ∃fr' s',oC Q f l fr s fr' s'/\K fr' s'
section
variable {Q:cw} {f:FuncId} {fr:Fr} {s:St} {K:Ex->Fr->St->Prop}
def Ex.next (K:Ex->Fr->St->Prop) (N:Fr->St->Prop):Ex->Fr->St->Prop
 | .normal=>N
 |x=>K x
theorem W.mono {c:SC} {K':Ex->Fr->St->Prop} (h:W Q f c fr s K) (hk: ∀x fr s,K x fr s->K' x fr s):W Q f c fr s K':=let⟨x,fr',s',h1,h2⟩:=h;⟨x,fr',s',h1,hk _ _ _ h2⟩
theorem W.skip (h:K .normal fr s):W Q f .skip fr s K:=⟨_,_,_,.skip,h⟩
theorem W.ret (h:K .ret fr s):W Q f .ret fr s K:=⟨_,_,_,.ret,h⟩
theorem W.exit {id:Nat} (h:K (.exit id) fr s):W Q f (.exit id) fr s K:=⟨_,_,_,.exit,h⟩
theorem W.seq {a b:SC} (h:W Q f a fr s (Ex.next K fun fr s=>W Q f b fr s K)):W Q f (.seq a b) fr s K:=by
 obtain⟨x,fr1,s1,h1,h2⟩:=h
 cases x with
 |normal=>obtain⟨y,fr2,s2,h3,h4⟩:=h2;exact⟨y,fr2,s2,.seqN h1 h3,h4⟩
 |exit i=>exact⟨_,_,_,.seqX h1 (by simp),h2⟩
 |ret=>exact⟨_,_,_,.seqX h1 (by simp),h2⟩
theorem W.cond {o:Operand} {a b:SC} {t:Bool} (hv:ev fr.env o=some (.bool t)) (h:W Q f (if t then a else b) fr s K):W Q f (.cond o a b) fr s K:=let⟨x,fr1,s1,h1,h2⟩:=h;⟨x,fr1,s1,.cond hv h1,h2⟩
theorem W.block {id:Nat} {b:SC} (h:W Q f b fr s fun x=>K (x.block id)):W Q f (.block id b) fr s K:=let⟨_x,fr1,s1,h1,h2⟩:=h;⟨_,fr1,s1,.block h1,h2⟩
theorem W.scope {b:SC} (h:W Q f b fr s K):W Q f (.scope b) fr s K:=let⟨x,fr1,s1,h1,h2⟩:=h;⟨x,fr1,s1,.scope h1,h2⟩
theorem W.loop1 {b:SC} (h:W Q f b fr s (Ex.next K fun fr s=>W Q f (.loop b) fr s K)):W Q f (.loop b) fr s K:=by
 obtain⟨x,fr1,s1,h1,h2⟩:=h
 cases x with
 |normal=>obtain⟨y,fr2,s2,h3,h4⟩:=h2;exact⟨y,fr2,s2,.loopN h1 h3,h4⟩
 |exit i=>exact⟨_,_,_,.loopX h1 (by simp),h2⟩
 |ret=>exact⟨_,_,_,.loopX h1 (by simp),h2⟩
theorem W.region {ops:List cD} (h:WL Q f ops fr s fun fr s=>K .normal fr s):W Q f (.region ops) fr s K:=let⟨fr1,s1,h1,h2⟩:=h;⟨_,fr1,s1,.region h1,h2⟩
theorem W.draw {ops:List cD} {bs:List Nat} {fr1:Fr} {s1:St} (h:sS Q f bs [] 0 ops fr s=some (fr1,s1)) (hk:K .normal fr1 s1):W Q f (.draw ops bs) fr s K:=⟨_,_,_,.draw (.of h),hk⟩
theorem W.rfun {g:Operand} {ps:List Tmp} {a b:Code} {s1:St} {h:FuncId} {first captured:List aj} {v:aj} {f':FuncId} {env':bv aj} {size':Nat} {ps':List Tmp} {a' b':Code} {p:Option Ex} (hv:ev fr.env g=some (.func (.func h) first captured))
 (hb:(mf Q.P h&&(fr.env.all ri&&(fq a&&fq b)))=true) (hr:bz Q h (first++(.yld s.next::captured)) (s.new (.loop f fr.env fr.size ps a b none)) v s1) (hg:s1.get [] s.next=some (.loop f' env' size' ps' a' b' p))
 (hk:K (ub p) fr (s1.put s.next none)):W Q f (.rfun g ps a b) fr s K:=⟨_,_,_,.rfun hv hb hr hg,hk⟩
variable {N:Fr->St->Prop}
theorem WL.yld {o:cD} {c:Call} {l:List cD} {fr1:Fr} {s1:St} {n:Nat} {args:List aj} {v:aj} (hw:iy fr.env o.g=true) (ho:o.op= .call c)
 (hc:yieldee fr.env c=some (n,args)) (hr:qe Q n args s v s1) (hp:ee fr o.dst v fr.loc=some fr1) (hk:WL Q f l fr1 s1 N):WL Q f (o::l) fr s N:=
 let⟨fr2,s2,h1,h2⟩:=hk;⟨fr2,s2,.yld hw ho hc hr hp h1,h2⟩
theorem qe.of {n:Nat} {args:List aj} {s':St} {env env':bv aj} {size:Nat} {ps:List Tmp} {a b:Code} {ca cb:SC} (h0:s.get [] n=some (.loop f env size ps a b none)) (h1:ps.all (fun t=>bT t size)=true) (h2:yg ps args env=some env') (ha:cL a=ca) (hb:cL b=cb)
 (h:W Q f ca ⟨env',size,[]⟩ (s.put n none) fun x fr s1=>x= .normal/\W Q f cb fr s1 fun x _ s2=>x= .normal/\s'=s2.put n (some (.loop f env size ps a b none))):qe Q n args s (.bool true) s':=by
 obtain⟨x,fr1,s1,r1,rfl,y,fr2,s2,r2,rfl,rfl⟩:=h
 obtain⟨k,hk⟩:=FW r1 ha
 obtain⟨m,hm⟩:=FW r2 hb
 have hk:=(mn Q (rJ k m)).code _ _ _ _ _ _ hk
 have hm:=(mn Q (rK k m)).code _ _ _ _ _ _ hm
 refine⟨max k m,?_⟩
 unfold lm
 simp only[h0,aq,uv,h1,cT,h2,hk,tc,hm,uu]
theorem WL.nil (h:N fr s):WL Q f [] fr s N:=⟨_,_,.nil,h⟩
theorem FS: ∀ {a b:List cD} {fr fr1 fr2:Fr} {s s1 s2:St},qB Q f a fr s=some (fr1,s1)->oC Q f b fr1 s1 fr2 s2->oC Q f (a++b) fr s fr2 s2
 | [],b,fr,fr1,fr2,s,s1,s2,h,h'=>by
   simp only[qB,bg,bL] at h
   obtain⟨rfl,rfl⟩:=h;exact h'
 |o::a,b,fr,fr1,fr2,s,s1,s2,h,h'=>by
  simp only[qB,aG] at h
  obtain⟨⟨x,y⟩,h1,h2⟩:=h
  exact .step h1 (FS h2 h')
theorem WL.run {ops:List cD} {fr1:Fr} {s1:St} (h:qB Q f ops fr s=some (fr1,s1)) (hk:N fr1 s1):WL Q f ops fr s N:=
 ⟨fr1,s1,by have:=FS h .nil;rwa [iA] at this,hk⟩
theorem WL.app {a b:List cD} {fr1:Fr} {s1:St} (h:qB Q f a fr s=some (fr1,s1)) (hk:WL Q f b fr1 s1 N):WL Q f (a++b) fr s N:=
 let⟨fr2,s2,h1,h2⟩:=hk;⟨fr2,s2,FS h h1,h2⟩
theorem WL.call {o:cD} {c:Call} {l:List cD} {fr1:Fr} {s1:St} {g:FuncId} {args:List aj} {v:aj} (hw:iy fr.env o.g=true) (ho:o.op= .call c) (hn: ∀b,c.callee≠ .builtin b)
 (hc:callee fr.env c=some (g,args)) (hr:bz Q g args s v s1) (hp:ee fr o.dst v fr.loc=some fr1) (hk:WL Q f l fr1 s1 N):WL Q f (o::l) fr s N:=
 let⟨fr2,s2,h1,h2⟩:=hk;⟨fr2,s2,.call hw ho hn hc hr hp h1,h2⟩
noncomputable def dt (n:Nat) (args:List aj):Fr:=⟨cY 0 args,bif cy args.length n then n else args.length,[]⟩
theorem bz.of {fn:Func} {c:Code} {sc:SC} {args:List aj} {v:aj} {s':St} (hf:Q.P.funcs[f]? =some fn) (hb:fn.body=some c) (hsp:Q.spec f=none) (hcc:cL c=sc)
 (h:W Q f sc (dt fn.ntmps args) s fun x fr' s1=>s1=s'/\(x= .normal\/x= .ret)/\ ∃vs,gQ Q [] fr' s1 fn.results.toList=some vs/\jQ vs=v) (hH:Q.specH f=none:=by rfl) (hW:Q.specW f=none:=by rfl):bz Q f args s v s':=by
 obtain⟨x,fr',s1,h1,rfl,h3,vs,h4,h5⟩:=h
 obtain⟨n,hn⟩:=FW h1 hcc
 refine⟨n+1,?_⟩
 show jx Q (cN Q n) f args [] s=_
 unfold jx
 rw[hsp]
 simp only[hH,hW,hf,aq,hb]
 have hn:(cN Q n).code f c [] ⟨cY 0 args,bif cy args.length fn.ntmps then fn.ntmps else args.length,[]⟩ s=some (x,fr',s1):=hn
 rw[hn]
 rcases h3 with rfl|rfl<;>simp only[aq,nS,h4,h5]
theorem bz.specH {sp:List aj->Rd} {args:List aj} {v:aj} (hsp:Q.spec f=none) (hH:Q.specH f=some sp) (h:ng (s.get []) (sp args)=some v):bz Q f args s v s:=by
 refine⟨1,?_⟩
 show jx Q (cN Q 0) f args [] s=_
 unfold jx
 rw[hsp]
 simp only[hH,h,aq]
theorem bz.specW {sp:List aj->Option tx} {args:List aj} {n:Nat} {g:List aj->Option (List aj)} {cs cs':List aj} (hsp:Q.spec f=none) (hH:Q.specH f=none) (hW:Q.specW f=some sp) (h1:sp args=some (some (n,g))) (h2:s.get [] n=some (.cells cs)) (h3:g cs=some cs'):
 bz Q f args s (.tup []) (s.put n (some (.cells cs'))):=by
 refine⟨1,?_⟩
 show jx Q (cN Q 0) f args [] s=_
 unfold jx
 rw[hsp]
 simp only[hH,hW,h1,h2,aq,qz,vV,h3]
theorem bz.specW0 {sp:List aj->Option tx} {args:List aj} (hsp:Q.spec f=none) (hH:Q.specH f=none) (hW:Q.specW f=some sp) (h1:sp args=some none):bz Q f args s (.tup []) s:=by
 refine⟨1,?_⟩
 show jx Q (cN Q 0) f args [] s=_
 unfold jx
 rw[hsp]
 simp only[hH,hW,h1,aq,qz]
end
def eE (g:aj->Option aj):List aj->Option (List aj)
 | []=>some []
 |v::l=>(g v).bind fun a=>(eE g l).bind fun r=>some (a::r)
noncomputable def dh (h:bv bH):Nat->aj->Option aj
 |0,_=>none
 |k+1,v=>match v with
  | .agg cs=>(eE (dh h k) cs).bind fun r=>some (.agg r)
  | .tup cs=>(eE (dh h k) cs).bind fun r=>some (.tup r)
  | .list sz xs r=>(eE (dh h k) xs).bind fun ys=>some (.list sz ys (match r with| .own _=>.no|r=>r))
  | .arr sz n off len _=>match h.get n with
    |some (.cells cs)=>(cut cs off (len*sz)).bind fun c=>(eE (dh h k) c).bind fun c'=>(ip (!be sz 1) sz len c').bind fun xs=>some (.list sz xs .no)
    |_=>none
  | .bool b=>some (.bool b)
  | .int k n=>some (.int k n)
  | .str s=>some (.str s)
  | .nilp=>some .nilp
  | .nils=>some .nils
  | .nilm=>some .nilm
  | .nilf=>some .nilf
  | .nili=>some .nili
  |_=>none
theorem tM {g g':aj->Option aj} (hg: ∀v u,g v=some u->g' v=some u): ∀ {l r:List aj},eE g l=some r->eE g' l=some r
 | [],_,h=>h
 |v::l,r,h=>by
  simp only[eE,aG] at h ⊢
  obtain⟨a,h1,r',h2,h3⟩:=h
  exact⟨a,hg _ _ h1,r',tM hg h2,h3⟩
theorem tN (h:bv bH): ∀(k:Nat) (v u:aj),dh h k v=some u->dh h (k+1) v=some u
 |0,_,_,e=>by cases e
 |k+1,v,u,e=>by
  have ih:=tN h k
  cases v<;>simp only[dh] at e ⊢ <;>first
   |exact e
   |(simp only[aG] at e ⊢
     obtain⟨r,h1,h2⟩:=e
     exact⟨r,tM ih h1,h2⟩)
   |skip
  split at e
  ·rename_i hcs
   simp only[aG] at e ⊢
   obtain⟨c,h1,c',h2,h3⟩:=e
   exact⟨c,h1,c',tM ih h2,h3⟩
  ·cases e
theorem y9 (h:bv bH) {k m:Nat} (hk:k<=m) {v u:aj} (e:dh h k v=some u):dh h m v=some u:=by
 induction m with
 |zero=>have:k=0:=by omega
        subst this;exact e
 |succ m ih=>
  by_cases hm:k=m+1
  ·subst hm;exact e
  ·exact tN h m v u (ih (by omega))
def jW (h:bv bH) (v u:aj):Prop:= ∃k,dh h k v=some u
theorem jW.unique {h:bv bH} {v u u':aj} (a:jW h v u) (b:jW h v u'):u=u':=by
 obtain⟨k,hk⟩:=a
 obtain⟨m,hm⟩:=b
 have h1:=y9 h (rJ k m) hk
 have h2:=y9 h (rK k m) hm
 rw[h1] at h2;exact Option.some.inj h2
noncomputable def xg (h:bv bH) (v:aj):Option aj:=by
 classical exact if e: ∃u,jW h v u then some e.choose else none
theorem Yz {h:bv bH} {v u:aj} (e:jW h v u):xg h v=some u:=by
 unfold xg
 rw[dif_pos ⟨u,e⟩]
 exact congrArg some ((Exists.choose_spec (p:=fun u=>jW h v u) ⟨u,e⟩).unique e)
theorem YA {h:bv bH} {v u:aj} (e:xg h v=some u):jW h v u:=by
 unfold xg at e
 split at e
 ·rename_i x
  injection e with e;subst e
  exact x.choose_spec
 ·cases e
theorem y8 {g:aj->Option aj}: ∀ {l r:List aj},eE g l=some r-> ∀(i:Nat) u,r[i]? =some u-> ∃v,l[i]? =some v/\g v=some u
 | [],r,h,i,u,hi=>by
   simp only[eE,bg] at h;subst h;simp at hi
 |v::l,r,h,i,u,hi=>by
  simp only[eE,aG,bg] at h
  obtain⟨a,h1,r',h2,rfl⟩:=h
  cases i with
  |zero=>simp at hi;subst hi;exact⟨v,by simp,h1⟩
  |succ i=>simp at hi;obtain⟨x,h3,h4⟩:=y8 h2 i u hi;exact⟨x,by simpa using h3,h4⟩
theorem C7 {g:aj->Option aj}: ∀ {l r:List aj},eE g l=some r->r.length=l.length
 | [],r,h=>by simp only[eE,bg] at h;subst h;rfl
 |v::l,r,h=>by
  simp only[eE,aG,bg] at h
  obtain⟨a,h1,r',h2,rfl⟩:=h
  simp[C7 h2]
theorem C8 {h:bv bH} {k:Nat} {v u:aj} (e:dh h k v=some u) (hs:v.scal=true):u.scal=true:=by
 cases k with
 |zero=>cases e
 |succ k=>
  cases v<;>simp only[dh] at e<;>first
   |(simp[aj.scal] at hs;done)
   |(injection e with e;subst e;rfl)
   |(cases e;done)
   |(simp only[aG,bg] at e;obtain⟨_,_,rfl⟩:=e;rfl)
   |(split at e
     ·simp only[aG,bg] at e;obtain⟨_,_,_,_,_,_,rfl⟩:=e;rfl
     ·cases e)
theorem Iw {h:bv bH} {k:Nat} {v u:aj} (e:dh h k v=some u): ∃m,eE (dh h m) v.cells=some u.cells:=by
 cases k with
 |zero=>cases e
 |succ k=>
  by_cases hv: ∃cs,v= .agg cs
  ·obtain⟨cs,rfl⟩:=hv
   simp only[dh,aG,bg] at e
   obtain⟨r,h1,rfl⟩:=e
   exact⟨k,h1⟩
  ·have hc:v.cells=[v]:=by cases v<;>first|rfl|exact absurd ⟨_,rfl⟩ hv
   have hu:u.cells=[u]:=by
    cases v<;>simp only[dh] at e<;>first
     |exact absurd ⟨_,rfl⟩ hv
     |(injection e with e;subst e;rfl)
     |(cases e;done)
     |(simp only[aG,bg] at e;obtain⟨_,_,rfl⟩:=e;rfl)
     |(split at e
       ·simp only[aG,bg] at e;obtain⟨_,_,_,_,_,_,rfl⟩:=e;rfl
       ·cases e)
   refine⟨k+1,?_⟩
   rw[hc,hu]
   simp only[eE,e,aq]
theorem Iv {h:bv bH} {k:Nat}: ∀ {xs ys:List aj},eE (dh h k) xs=some ys-> ∃m,eE (dh h m) (bQ xs)=some (bQ ys)
 | [],ys,e=>by simp only[eE,bg] at e;subst e;exact⟨0,rfl⟩
 |x::xs,ys,e=>by
  simp only[eE,aG,bg] at e
  obtain⟨a,h1,r,h2,rfl⟩:=e
  obtain⟨m1,h3⟩:=Iw h1
  obtain⟨m2,h4⟩:=Iv h2
  refine⟨max m1 m2,?_⟩
  simp only[bQ]
  have h3:=tM (g':=dh h (max m1 m2)) (fun v u e=>y9 h (rJ _ _) e) h3
  have h4:=tM (g':=dh h (max m1 m2)) (fun v u e=>y9 h (rK _ _) e) h4
  clear h1 h2
  generalize x.cells=c at h3
  generalize a.cells=d at h3
  induction c generalizing d with
  |nil=>simp only[eE,bg] at h3;subst h3;simpa using h4
  |cons v c ih=>
   simp only[eE,aG,bg] at h3
   obtain⟨u,h5,r',h6,rfl⟩:=h3
   have:=ih _ h6
   simp only[List.cons_append,eE,h5,this,aq]
theorem Iz {h:bv bH}: ∀ {k:Nat} {v u:aj},bP v=true->dh h k v=some u->u=v
 |0,_,_,_,e=>by cases e
 |k+1,v,u,hp,e=>by
  have hL: ∀ {l r:List aj},pures l=true->eE (dh h k) l=some r->r=l:=by
   intro l
   induction l with
   |nil=>intro r _ e;simp only[eE,bg] at e;exact e.symm
   |cons v l ih=>
    intro r hp e
    simp only[pures,cZ] at hp
    simp only[eE,aG,bg] at e
    obtain⟨a,h1,r',h2,rfl⟩:=e
    rw[Iz hp.1 h1,ih hp.2 h2]
  cases v<;>simp only[dh] at e<;>first
   |(injection e with e;exact e.symm)
   |(cases e;done)
   |(simp[bP] at hp;done)
   |(simp only[bP] at hp
     simp only[aG,bg] at e
     obtain⟨r,h1,rfl⟩:=e
     rw[hL hp h1])
   |skip
  rename_i sz xs r
  simp only[bP,cZ] at hp
  simp only[aG,bg] at e
  obtain⟨ys,h1,rfl⟩:=e
  rw[hL hp.1 h1]
  cases r<;>first|rfl|(simp at hp)
def rO (G:Gh) (h:bv bH) (b o:Nat) (u:aj):Prop:= ∃n a cs i,h.get n=some (.cells cs)/\G.at_ n=some a/\a.block=b/\o=a.off+i/\cs[i]? =some u
theorem rO.unique {G:Gh} {h:bv bH} {w:World} (wr:WR G h w) {b o:Nat} {u u':aj} (x:rO G h b o u) (y:rO G h b o u'):u=u':=by
 obtain⟨n,a,cs,i,h1,h2,h3,h4,h5⟩:=x
 obtain⟨m,c,ds,j,g1,g2,g3,g4,g5⟩:=y
 have e:n=m:=wr.sep n m a c (by rw[h1];simp) (by rw[g1];simp) h2 g2 (by rw[h3,g3])
 subst e
 rw[h1] at g1;injection g1 with g1;injection g1 with g1;subst g1
 rw[h2] at g2;injection g2 with g2;subst g2
 have:i=j:=by omega
 subst this
 rw[h5] at g5;exact Option.some.inj g5
noncomputable def qh (G:Gh) (h:bv bH) (b o:Nat):Option aj:=by
 classical exact(G.ro b o).or (if e: ∃u,rO G h b o u then some e.choose else none)
theorem Wh {G:Gh} {h:bv bH} {b o:Nat} {u:aj} (e:G.ro b o=some u):qh G h b o=some u:=by simp[qh,e]
theorem Wg {G:Gh} {h:bv bH} {w:World} (wr:WR G h w) {b o:Nat} {u:aj} (e:rO G h b o u):qh G h b o=some u:=by
 have h0:G.ro b o=none:=by
  cases e':G.ro b o with
  |none=>rfl
  |some v=>
   obtain⟨n,a,cs,i,h1,h2,h3,h4,h5⟩:=e
   have:=wr.apart n _ a o v h1 h2 (by rw[h3];exact e')
   cases this.1
 unfold qh
 rw[h0,p9,dif_pos ⟨u,e⟩]
 exact congrArg some (rO.unique wr (Exists.choose_spec (p:=fun u=>rO G h b o u) ⟨u,e⟩) e)
theorem Hr {G:Gh} {h:bv bH} {b o:Nat} {u:aj} (e:qh G h b o=some u):G.ro b o=some u\/rO G h b o u:=by
 unfold qh at e
 cases e':G.ro b o with
 |some v=>rw[e'] at e;simp at e;exact .inl (by rw[e])
 |none=>
  rw[e',p9] at e
  split at e
  ·rename_i x
   injection e with e;subst e
   exact .inr x.choose_spec
  ·cases e
noncomputable def Gh.froze (G G1:Gh) (h1:bv bH):Gh where
 at_:=G.at_
 ro b o:=(G.ro b o).or ((qh G1 h1 b o).bind (xg h1))
 dim:=G.dim
section
variable {G1 G2:Gh} {h1:bv bH}
theorem thaw (hro: ∀b o u u',qh G1 h1 b o=some u->jW h1 u u'->G2.ro b o=some u') {w:World} (wr:WR G1 h1 w): ∀(k:Nat) {v u:aj} {x:Value},VR G1 v x->dh h1 k v=some u->VR G2 u x
 |0,_,_,_,_,e=>by cases e
 |k+1,v,u,x,hv,e=>by
  have ih: ∀ {vs us:List aj} {xs:List Value},cp G1 vs xs->eE (dh h1 k) vs=some us->cp G2 us xs:=by
   intro vs
   induction vs with
   |nil=>intro us xs h e;cases h;simp only[eE,bg] at e;subst e;exact .nil
   |cons v vs ihv=>
    intro us xs h e
    cases h with
    |cons a b=>
     simp only[eE,aG,bg] at e
     obtain⟨u,h3,r,h4,rfl⟩:=e
     exact .cons (thaw hro wr k a h3) (ihv b h4)
  have hscals: ∀ {cs us:List aj},dL cs=true->eE (dh h1 k) cs=some us->dL us=true:=by
   intro cs
   induction cs with
   |nil=>intro us _ e;simp only[eE,bg] at e;subst e;rfl
   |cons v vs ihv=>
    intro us h e
    simp only[dL,mH,cZ] at h
    simp only[eE,aG,bg] at e
    obtain⟨u,h3,r,h4,rfl⟩:=e
    simp only[dL,mH,cZ]
    exact⟨C8 h3 h.1,ihv h.2 h4⟩
  cases hv with
  |bool b=>simp only[dh,bg] at e;subst e;exact .bool b
  |int k n=>simp only[dh,bg] at e;subst e;exact .int k n
  |str s=>simp only[dh,bg] at e;subst e;exact .str s
  |nilp=>simp only[dh,bg] at e;subst e;exact .nilp
  |nils=>simp only[dh,bg] at e;subst e;exact .nils
  |nilm=>simp only[dh,bg] at e;subst e;exact .nilm
  |nilf=>simp only[dh,bg] at e;subst e;exact .nilf
  |nili=>simp only[dh,bg] at e;subst e;exact .nili
  |ptr _=>simp[dh] at e
  |ro _=>simp[dh] at e
  |map _=>simp[dh] at e
  |func _ _=>simp[dh] at e
  |iface _=>simp[dh] at e
  |yld _=>simp[dh] at e
  |roz _=>simp[dh] at e
  |agg hc hs=>
   simp only[dh,aG,bg] at e
   obtain⟨r,h3,rfl⟩:=e
   exact .agg (hscals hc h3) (ih hs h3)
  |tup hs=>
   simp only[dh,aG,bg] at e
   obtain⟨r,h3,rfl⟩:=e
   exact .tup (ih hs h3)
  |list a b c d e' f=>
   rename_i sz xs r ad cap
   simp only[dh,aG,bg] at e
   obtain⟨ys,h3,rfl⟩:=e
   have hlen:=C7 h3
   rw[<-hlen]
   refine .list a b ?_ (by rw[hlen];exact d) ?_ ?_
   ·intro y hy
    obtain⟨i,hi⟩:=Bn hy
    obtain⟨v,hv,h4⟩:=y8 h3 i y hi
    obtain⟨m,h5⟩:=Iw h4
    rw[C7 h5]
    exact c v (lX hv)
   ·intro i y hy
    obtain⟨m,h4⟩:=Iv h3
    obtain⟨v,hv,h5⟩:=y8 h4 i y hy
    exact hro _ _ v y (Wh (e' i v hv)) ⟨m,h5⟩
   ·cases r with
    |full=>rw[hlen];exact f
    |own n=>exact trivial
    |no=>exact trivial
  |arr a b c d e' f g i=>
   rename_i sz n off len lcap ad bd cap dm
   simp only[dh] at e
   split at e
   ·rename_i cs hcs
    simp only[aG,bg] at e
    obtain⟨cc,h3,c',h4,xs,h5,rfl⟩:=e
    obtain⟨ad',ho1,ho2,C,et,ho3,ho4,ho5⟩:=wr.obj n _ hcs
    rw[a] at ho1;injection ho1 with ho1;subst ho1
    have hsc:dL cc=true:=by
     simp only[dL,np]
     intro v hv
     obtain⟨j,hj⟩:=Bn hv
     exact(ho5 _ v (wY h3 hj)).1
    obtain⟨q1,q2,q3⟩:=uW (g:= !be sz 1) (sz:=sz) (fun hh=>by
     have:be sz 1=true:=by simpa using hh
     exact fp this) h5 (hscals hsc h4)
    have:VR G2 (.list sz xs .no) (.slice (some ad) xs.length cap):=by
     refine .list (.inr b) c q3 (by omega) ?_ trivial
     intro j y hy
     rw[q2] at hy
     obtain⟨v,hv,h6⟩:=y8 h4 j y hy
     have hcell:=wY h3 hv
     rcases f with f|⟨f1,f2⟩
     ·have hl:len=0:=by omega
      have:=(u5 h3).2
      rw[hl,Nat.zero_mul] at this
      rw[List.length_eq_zero_iff.1 this] at hv
      simp at hv
     ·refine hro _ _ v y (Wg wr ⟨n,bd,cs,off+j,hcs,a,f1.symm,?_,hcell⟩) ⟨k,h6⟩
      rw[f2];omega
    rw[q1] at this
    exact this
   ·cases e
end
mutual
def jq:aj->Bool
 | .agg cs=>jT cs
 | .tup cs=>jT cs
 | .list _ xs _=>pures xs
 |v=>bP v
def jT:List aj->Bool
 | []=>true
 |v::l=>jq v&&jT l
end
mutual
theorem VR.top {G1 G2:Gh} (k:wL G1 G2): ∀ {v:aj} {x:Value},VR G1 v x->jq v=true->VR G2 (weak v) x
 |_,_,.bool b,_=>.bool b
 |_,_,.int k n,_=>.int k n
 |_,_,.str s,_=>.str s
 |_,_,.agg hc hs,h=>.agg (Tr hc) (cp.top k hs (by simpa[jq] using h))
 |_,_,.tup hs,h=>.tup (cp.top k hs (by simpa[jq] using h))
 |_,_,.nilp,_=>.nilp
 |_,_,.ptr e,h=>by simp[jq,bP] at h
 |_,_,.ro (cs:=cs) e,h=>by
  have h:pures cs=true:=by simpa[jq,bP] using h
  rw[weak,iz h]
  exact .ro fun i x hx=>k _ _ _ (e i x hx) (vR h hx)
 |_,_,.nils,_=>.nils
 |_,_,.list (xs:=xs) (r:=r) a b c d e f,h=>by
  have h:pures xs=true:=by simpa[jq] using h
  simp only[weak,iz h]
  refine .list a b c d (fun i x hx=>k _ _ _ (e i x hx) (vR (FI h) hx)) ?_
  cases r with
  |full=>exact f
  |own n=>exact trivial
  |no=>exact trivial
 |_,_,.arr ..,h=>by simp[jq,bP] at h
 |_,_,.nilm,_=>.nilm
 |_,_,.map e,h=>by simp[jq,bP] at h
 |_,_,.nilf,_=>.nilf
 |_,_,.func (first:=f) (captured:=g) a b,h=>by
  have h:pures f=true/\pures g=true:=by simpa[jq,bP] using h
  simp only[weak,iz h.1,iz h.2]
  exact .func (cp.onto k a h.1) (cp.onto k b h.2)
 |_,_,.nili,_=>.nili
 |_,_,.iface (v:=v) e,h=>by
  have h:bP v=true:=by simpa[jq,bP] using h
  simp only[weak,Gv h]
  exact .iface (VR.onto k e h)
 |_,_,.yld _,h=>by simp[jq,bP] at h
 |_,_,.roz _,h=>by simp[jq,bP] at h
theorem cp.top {G1 G2:Gh} (k:wL G1 G2): ∀ {vs:List aj} {xs:List Value},cp G1 vs xs->jT vs=true->cp G2 (ef vs) xs
 |_,_,.nil,_=>.nil
 |_,_,.cons a b,h=>by
  simp only[jT,cZ] at h
  exact .cons (VR.top k a h.1) (cp.top k b h.2)
end
theorem Ix {h h':bv bH} (hh: ∀n o,h.get n=some o->h'.get n=some o): ∀(k:Nat) (v u:aj),dh h k v=some u->dh h' k v=some u
 |0,_,_,e=>by cases e
 |k+1,v,u,e=>by
  have ih:=Ix hh k
  cases v<;>simp only[dh] at e ⊢ <;>first
   |exact e
   |(simp only[aG] at e ⊢
     obtain⟨r,h1,h2⟩:=e
     exact⟨r,tM ih h1,h2⟩)
   |skip
  split at e
  ·rename_i hcs
   rw[hh _ _ hcs]
   simp only[aG] at e ⊢
   obtain⟨c,h1,c',h2,h3⟩:=e
   exact⟨c,h1,c',tM ih h2,h3⟩
  ·cases e
theorem F9 {Q:cw} (hg:Good Q) {f:FuncId} {n:Nat} (hk: ∀i,0<Q.kmax i) {args:List aj} {u:aj} (hp:jT args=true)
 (he: ∀ch,kd Q ch-> ∃v s',(cN (Q.at ch) n).call f (ef args) [] s0=some (v,s')/\jW s'.heap v u) (G:Gh) (h:bv bH) (w:World) (xs:List Value) (wr:WR G h w) (hx:cp G args xs):
 kF Q.P f ⟨xs⟩ w fun y w'=> ∃G',WR G' h w'/\dr G h w G' h w' 0 0/\VR G' u y:=by
 have pre:kG [] (fun _=>True) G.plain s0 s0 w:=⟨fun n _=>rfl,.refl _ _,wr.plain,fun _ _ _=>rfl⟩
 have hc:=(Vn hg n).1 f (ef args) [] s0 s0 G.plain w xs (fun _=>0) (fun _=>True) pre (hx.top (SE G) hp) hk (fun ch' _ hi=>by
  obtain⟨v,s',h1,_⟩:=he ch' hi
  exact⟨v,s',h1,fun _ _ _=>trivial⟩)
 refine hc.mono ?_
 rintro y w' ⟨ch',v,s',s2',G1,c⟩
 have hvv:jW s2'.heap v u:=by
  obtain⟨v1,s1,h1,h2⟩:=he ch' c.inb
  have h3:=c.eval
  rw[h1] at h3
  simp only[bg,bL] at h3
  obtain⟨rfl,rfl⟩:=h3
  have goes:fO [] s0 s1:=((kq Q n).call f (ef args) [] ch' s0 v1 s1 h1).1
  have sees:iC [] s1 s2':=c.same.sees (.refl _ _) goes
  obtain⟨k,hk⟩:=h2
  exact⟨k,Ix (fun n o e=>sees.get n o rfl e) k _ _ hk⟩
 have ext:dr G.plain .nil w G1 s2'.heap w' 0 s'.next:=c.ext
 have kept: ∀b,b<w.heap.size->w'.heap[b]? =w.heap[b]? :=fun b hb=>ext.keep b hb Av
 have old: ∀b o u,b<w.heap.size->qh G1 s2'.heap b o=some u->G.ro b o=some u/\bP u=true:=by
  intro b o u hb hu
  rcases Hr hu with hu|⟨m,a,cs,i,h1,h2,h3,_,_⟩
  ·cases e:G.plain.ro b o with
   |none=>exact absurd (ext.cells b o u hb hu e) Av
   |some u'=>
    have:=ext.le.ro b o u' e
    rw[hu] at this;injection this with this;subst this
    simp only[Gh.plain,aG] at e
    obtain⟨z,hz,e⟩:=e
    split at e
    ·injection e with e;subst e;exact⟨hz,by assumption⟩
    ·cases e
  ·exact absurd (ext.owns b hb ⟨m,a,by rw[h1];simp,h2,h3⟩) Av
 have hle:G.le (G.froze G1 s2'.heap):=⟨fun _ _ h=>h,fun b o u h=>by simp[Gh.froze,h],fun _ _ h=>h⟩
 have back: ∀b o u u',qh G1 s2'.heap b o=some u->jW s2'.heap u u'->(G.froze G1 s2'.heap).ro b o=some u':=by
  intro b o u u' hu hf
  cases e:G.ro b o with
  |none=>simp[Gh.froze,e,hu,Yz hf]
  |some z=>
   obtain⟨h1,h2⟩:=old b o u (wr.ro_lt e) hu
   obtain⟨k,hk⟩:=hf
   have:=Iz h2 hk
   subst this
   simp only[Gh.froze,h1,uI]
 have cell: ∀b o x,b<w.heap.size->w.cell? ⟨b,o,none⟩=some x->w'.cell? ⟨b,o,none⟩=some x:=by
  intro b o x hb hx
  have:=kept b hb
  unfold World.cell? at hx ⊢
  rw[this];exact hx
 obtain⟨kk,hkk⟩:=hvv
 refine⟨G.froze G1 s2'.heap,⟨?_,?_,?_,?_,?_,?_⟩,⟨hle,ext.size,fun b hb _=>kept b hb,fun b _ o=>o,?_,?_,ext.quiet⟩,thaw back c.wr kk c.val hkk⟩
 ·intro n o hn
  obtain⟨a,h1,h2,h3⟩:=wr.obj n o hn
  exact⟨a,h1,h2,(h3.mono hle).of_block (kept _ (wr.below n a h1))⟩
 ·exact wr.sep
 ·intro b o u hu
  cases e:G.ro b o with
  |some z=>
   have:u=z:=by simp only[Gh.froze,e,uI,bg] at hu;exact hu.symm
   subst this
   obtain⟨h1,y,h2,h3⟩:=wr.ro b o u e
   exact⟨h1,y,cell b o y (wr.ro_lt e) h2,h3.mono hle⟩
  |none=>
   simp only[Gh.froze,e,p9,aG] at hu
   obtain⟨z,hz,hu⟩:=hu
   obtain⟨k,hk⟩:=YA hu
   rcases Hr hz with hz'|⟨m,a,cs,i,h1,h2,h3,h4,h5⟩
   ·obtain⟨h1,y,h2,h3⟩:=c.wr.ro b o z hz'
    exact⟨C8 hk h1,y,h2,thaw back c.wr k h3 hk⟩
   ·obtain⟨a',g1,g2,C,et,g3,g4,g5⟩:=c.wr.obj m _ h1
    rw[h2] at g1;injection g1 with g1;subst g1
    obtain⟨r1,y,r2,r3⟩:=g5 i z h5
    refine⟨C8 hk r1,y,?_,thaw back c.wr k r3 hk⟩
    rw[h3] at g3
    rw[nN g3,h4];exact r2
 ·intro n ob a i u hn ha hu
  cases e:G.ro a.block i with
  |some z=>exact wr.apart n ob a i z hn ha e
  |none=>
   simp only[Gh.froze,e,p9,aG] at hu
   obtain⟨z,hz,_⟩:=hu
   have:=(old _ _ _ (wr.below n a ha) hz).1
   rw[e] at this;cases this
 ·intro b d hd
  obtain⟨C,e,h1,h2⟩:=wr.dim b d hd
  exact⟨C,e,(kept b (gL h1)).trans h1,h2⟩
 ·intro n a ha
  exact gu (wr.below n a ha) ext.size
 ·intro n a h1 h2
  have h1:G.at_ n=some a:=h1
  rw[h2] at h1;cases h1
 ·intro b o u hb hu e
  simp only[Gh.froze,e,p9,aG] at hu
  obtain⟨z,hz,_⟩:=hu
  have:=(old _ _ _ hb hz).1
  rw[e] at this;cases this
theorem gS {Q:cw} (hg:Good Q) {f:FuncId} (hk: ∀i,0<Q.kmax i) {args:List aj} {v u:aj} {s':St} (hp:jT args=true)
 (hr:bz Q f (ef args) s0 v s') (hci:s'.ci=0) (hu:jW s'.heap v u) (G:Gh) (h:bv bH) (w:World) (xs:List Value) (wr:WR G h w) (hx:cp G args xs):
 kF Q.P f ⟨xs⟩ w fun y w'=> ∃G',WR G' h w'/\dr G h w G' h w' 0 0/\VR G' u y:=by
 obtain⟨n,hn⟩:=hr
 refine F9 (n:=n) hg hk hp (fun ch _=>⟨v,s',?_,hu⟩) G h w xs wr hx
 have:(cN (Q.at Q.ch) n).call f (ef args) [] s0=some (v,s'):=hn
 exact(pE Q n).call f (ef args) [] Q.ch s0 v s' this ch (fun i hi=>by rw[hci] at hi;omega)
section
variable {Q:cw} {f:FuncId}
def sJ (x:Option (aj×Loc×St)) (K:aj->Loc->St->Prop):Prop:=
 match x with
 |some (v,l,s)=>K v l s
 |none=>False
def WP (Q:cw) (f:FuncId) (ops:List cD) (fr:Fr) (s:St) (N:Fr->St->Prop):Prop:= ∃fr' s',qB Q f ops fr s=some (fr',s')/\N fr' s'
theorem az {fr:Fr} {s:St} {N:Fr->St->Prop}:WP Q f [] fr s N=N fr s:=by
 apply propext
 constructor
 ·rintro⟨fr',s',h,hn⟩
  simp only[qB,bg,bL] at h
  obtain⟨rfl,rfl⟩:=h;exact hn
 ·exact fun h=>⟨fr,s,rfl,h⟩
theorem BE {o:cD} {l:List cD} {fr:Fr} {s:St} {N:Fr->St->Prop}:WP Q f (o::l) fr s N=(∃fr1 s1,um Q f o fr s=some (fr1,s1)/\WP Q f l fr1 s1 N):=by
 apply propext
 constructor
 ·rintro⟨fr',s',h,hn⟩
  simp only[qB,aG] at h
  obtain⟨⟨fr1,s1⟩,h1,h2⟩:=h
  exact⟨fr1,s1,h1,fr',s',h2,hn⟩
 ·rintro⟨fr1,s1,h1,fr',s',h2,hn⟩
  refine⟨fr',s',?_,hn⟩
  simp only[qB,h1,aq,h2]
theorem GZ {d:Tmp} {op:Op} {g:SG} {l:List cD} {e:bj} {sz:Nat} {lc:Loc} {s:St} {N:Fr->St->Prop} (hw:iy e g=true):
 WP Q f (⟨some d,op,g⟩::l) ⟨e,sz,lc⟩ s N=sJ (dR Q f ⟨some d,op,g⟩ [] ⟨e,sz,lc⟩ s) fun v lc' s'=>d<sz/\WP Q f l ⟨e.set d (some v),sz,lc'⟩ s' N:=by
 rw[BE]
 simp only[um,hw,cT]
 cases h:dR Q f ⟨some d,op,g⟩ [] ⟨e,sz,lc⟩ s with
 |none=>simp[sJ]
 |some x=>
  obtain⟨v,lc',s'⟩:=x
  simp only[aq,sJ,ee]
  by_cases hd:d<sz
  ·have:bT d sz=true:=eL hd
   simp only[this,cT,aq,bg,bL,hd,tA]
   apply propext
   constructor
   ·rintro⟨_,_,⟨rfl,rfl⟩,h⟩;exact h
   ·exact fun h=>⟨_,_,⟨rfl,rfl⟩,h⟩
  ·have:bT d sz=false:=by
    cases h:bT d sz with
    |false=>rfl
    |true=>exact absurd (iL h) hd
   simp[this,hd]
theorem UX {op:Op} {g:SG} {l:List cD} {e:bj} {sz:Nat} {lc:Loc} {s:St} {N:Fr->St->Prop} (hw:iy e g=true):
 WP Q f (⟨none,op,g⟩::l) ⟨e,sz,lc⟩ s N=sJ (dR Q f ⟨none,op,g⟩ [] ⟨e,sz,lc⟩ s) fun _ lc' s'=>WP Q f l ⟨e,sz,lc'⟩ s' N:=by
 rw[BE]
 simp only[um,hw,cT]
 cases h:dR Q f ⟨none,op,g⟩ [] ⟨e,sz,lc⟩ s with
 |none=>simp[sJ]
 |some x=>
  obtain⟨v,lc',s'⟩:=x
  simp only[aq,sJ,ee,bg,bL]
  apply propext
  constructor
  ·rintro⟨_,_,⟨rfl,rfl⟩,h⟩;exact h
  ·exact fun h=>⟨_,_,⟨rfl,rfl⟩,h⟩
theorem UY {d:Tmp} {op:Op} {g:SG} {l:List cD} {e:bj} {sz:Nat} {lc:Loc} {s:St} {N:Fr->St->Prop} (hw:iy e g=false):
 WP Q f (⟨some d,op,g⟩::l) ⟨e,sz,lc⟩ s N=(d<sz/\WP Q f l ⟨e.set d (some ii),sz,lc⟩ s N):=by
 rw[BE]
 simp only[um,hw,cF,ee]
 by_cases hd:d<sz
 ·have:bT d sz=true:=eL hd
  simp only[this,cT,aq,bg,bL,hd,tA]
  apply propext
  constructor
  ·rintro⟨_,_,⟨rfl,rfl⟩,h⟩;exact h
  ·exact fun h=>⟨_,_,⟨rfl,rfl⟩,h⟩
 ·have:bT d sz=false:=by
   cases h:bT d sz with
   |false=>rfl
   |true=>exact absurd (iL h) hd
  simp[this,hd]
theorem aZ (a b:Nat):be a b=(a==b):=by
 cases h:be a b with
 |true=>have:=ik h;subst this;simp
 |false=>have:=Nat.ne_of_beq_eq_false h;exact(beq_eq_false_iff_ne.2 this).symm
theorem dl (a b:Nat):bT a b=decide (a<b):=by
 cases h:bT a b with
 |true=>exact(decide_eq_true (iL h)).symm
 |false=>exact(decide_eq_false fun h'=>by
  have:bT a b=true:=eL h'
  rw[this] at h;cases h).symm
theorem cj (a b:Nat):cy a b=decide (a<=b):=oS a b
theorem sF (k:IntKind) (n:Nat):fF (.int k (n:Int))=some n:=rfl
def oY:aj->Bool->Bool
 | .bool c,b=>c==b
 |_,_=>false
theorem ut (e:bj) (t:Tmp) (b:Bool):iy e (.when t b)=oY (ax e t) b:=by
 show(match ax e t with| .bool c=>c==b|_=>false)=oY (ax e t) b
 generalize ax e t=x
 cases x<;>rfl
theorem hQ:oY (.bool true) true=true:=rfl
theorem j8:oY (.bool true) false=false:=rfl
theorem jr:oY (.bool false) true=false:=rfl
theorem gn:oY (.bool false) false=true:=rfl
theorem Bd (b:Bool):oY ii b=false:=rfl
def FG:aj->Option aj->Option aj->Option aj
 | .bool true,a,_=>a
 | .bool false,_,b=>b
 |_,_,_=>none
theorem dj (e:bj) (c a b:Operand):sO e c a b=(ev e c).bind fun c=>FG c (ev e a) (ev e b):=by
 unfold sO
 cases ev e c with
 |none=>rfl
 |some v=>
  cases v<;>first|rfl|skip
  rename_i c
  cases c<;>rfl
theorem eA (a b:Option aj):FG (.bool true) a b=a:=rfl
theorem d7 (a b:Option aj):FG (.bool false) a b=b:=rfl
theorem aD (e:bj) (x:Operand):evc e x=(ev e x).bind fun v=>bif v.clean then some v else none:=rfl
theorem aw (v:aj) (l:Loc) (s:St):fK (some v) l s=some (v,l,s):=rfl
theorem bU (v:aj) (l:Loc) (s:St):gX (some (v,s)) l=some (v,l,s):=rfl
theorem ui (l:Loc) (s:St):lR (some s) l=some (ii,l,s):=rfl
theorem cQ (P:Program) (t:TypeId) (a b:Int):fy P .lss t (.int .i64 a) (.int .i64 b)=some (.bool (dz a b)):=rfl
theorem BX (P:Program) (t:TypeId) (a b:Int):fy P .leq t (.int .i64 a) (.int .i64 b)=some (.bool (iG a b)):=rfl
theorem nL (P:Program) (t:TypeId) (a b:Int):fy P .gtr t (.int .i64 a) (.int .i64 b)=some (.bool (dz b a)):=rfl
theorem nK (P:Program) (t:TypeId) (a b:Int):fy P .geq t (.int .i64 a) (.int .i64 b)=some (.bool (iG b a)):=rfl
theorem jH (P:Program) (t:TypeId) (a b:Int):fy P .eql t (.int .i64 a) (.int .i64 b)=some (.bool (bD a b)):=rfl
theorem qg (P:Program) (t:TypeId) (a b:Int):fy P .neq t (.int .i64 a) (.int .i64 b)=some (.bool (!bD a b)):=rfl
theorem dZ (P:Program) (t:TypeId) (a b:Int):fy P .add t (.int .i64 a) (.int .i64 b)=some (.int .i64 (IntKind.i64.wrap (a+b))):=rfl
theorem qW (P:Program) (t:TypeId) (a b:Int):fy P .sub t (.int .i64 a) (.int .i64 b)=some (.int .i64 (IntKind.i64.wrap (a-b))):=rfl
theorem wR (P:Program) (t:TypeId) (a b:Int):fy P .neq t (.int .u8 a) (.int .u8 b)=some (.bool (!bD a b)):=rfl
theorem jd (P:Program) (t:TypeId) (a b:List UInt8):fy P .eql t (.str a) (.str b)=some (.bool (a==b)):=rfl
theorem uU (P:Program) (t:TypeId) (a b:List UInt8):fy P .neq t (.str a) (.str b)=some (.bool (!(a==b))):=rfl
theorem uT (P:Program) (t:TypeId) (a b:List UInt8):fy P .leq t (.str a) (.str b)=some (.bool (leBytes a b)):=rfl
theorem V4 (P:Program) (t:TypeId) (a b:List UInt8):fy P .lss t (.str a) (.str b)=some (.bool (Op.bytesLess a b)):=rfl
theorem hJ (b:Bool):wo .not (.bool b)=some (.bool !b):=rfl
theorem cU (P:Program) (mk:bn) (t:TypeId) (mu:Bool) (x:aj) (s:St):lD P mk .len [t] mu [x] s=(gW P mk t x s).bind fun v=>some (v,s):=rfl
theorem oI (P:Program) (mk:bn) (t t2:TypeId) (mu:Bool) (x y:aj) (s:St):lD P mk .append [t,t2] mu [x,y] s=bif lK P t2 then jN P mk t x y mu s else none:=rfl
theorem bJ (h:Tmp->Nat) (t:Tmp):mY h (some t)=h t:=rfl
theorem gI (b:Bool):(aj.bool b).clean=true:=rfl
theorem bf (k:IntKind) (n:Int):(aj.int k n).clean=true:=rfl
theorem cS (b:List UInt8):(aj.str b).clean=true:=rfl
theorem cK (b:List aj):(aj.agg b).clean=true:=rfl
theorem jm (n:Nat) (b:List aj) (r:fD):(aj.list n b r).clean=true:=rfl
theorem dW (n o:Nat):(aj.ptr n o).clean=true:=rfl
theorem fZ (n:Nat):(aj.map n).clean=true:=rfl
theorem uX:(aj.nils).clean=true:=rfl
theorem oM (f:Fn) (a b:List aj):(aj.func f a b).clean=true:=rfl
theorem dC (cs:List aj):(aj.agg cs).cells=cs:=rfl
theorem kV (s:List UInt8):(aj.str s).cells=[.str s]:=rfl
theorem wS (k:IntKind) (n:Int):(aj.int k n).cells=[.int k n]:=rfl
theorem Wi (n:Nat) (xs:List aj) (r:fD):(aj.list n xs r).cells=[.list n xs r]:=rfl
theorem ix (P:Program) (mk:bn) (t:TypeId) (l g off:Nat) (v:aj) (lc:Loc) (s:St):pS P mk t (.lref l g off) v lc s=(fu P t).bind fun n=>bif be v.cells.length n&&bT 0 n then(lc.get l g).bind fun cs=>(cV cs off v.cells).bind fun cs'=>some (lc.set l g cs',s) else none:=rfl
def bC {α:Type} (n:Nat) (enc:α->aj) (v:aj) (l:List α):Prop:=(v= .nils/\l=[])\/ ∃r,v= .list n (l.map enc) r
theorem bC.clean {α:Type} {n:Nat} {enc:α->aj} {v:aj} {l:List α} (h:bC n enc v l):v.clean=true:=by
 rcases h with⟨rfl,_⟩|⟨r,rfl⟩<;>rfl
theorem bC.scal {α:Type} {n:Nat} {enc:α->aj} {v:aj} {l:List α} (h:bC n enc v l):v.cells=[v]:=by
 rcases h with⟨rfl,_⟩|⟨r,rfl⟩<;>rfl
theorem Sg {α:Type} (enc:α->aj): ∀(l:List α) (i:Nat) (a:α),l[i]? =some a->iJ (l.map enc) i=enc a
 | [],i,a,h=>by simp at h
 |x::l,0,a,h=>by simp at h;subst h;rfl
 |x::l,i+1,a,h=>Sg enc l i a (by simpa using h)
theorem bC.len {α:Type} {n:Nat} {enc:α->aj} {v:aj} {l:List α} (h:bC n enc v l) {P:Program} {t:TypeId} (h1: ∀mk s,gW P mk t .nils s=some (.int .i64 (0:Nat))) (h2: ∀mk n xs r s,gW P mk t (.list n xs r) s=some (.int .i64 (xs:List aj).length)) (mk:bn) (s:St):gW P mk t v s=some (.int .i64 (l.length:Nat)):=by
 rcases h with⟨rfl,rfl⟩|⟨r,rfl⟩
 ·rw[h1];rfl
 ·rw[h2];simp
theorem bC.at {α:Type} {n:Nat} {enc:α->aj} {v:aj} {l:List α} (h:bC n enc v l) {P:Program} {t:TypeId} (h2: ∀lc m xs r i,iH P lc t (.list m xs r) i=(fF i).bind fun i=>bif be m n&&bT i xs.length then some (.ro (iJ xs i).cells) else none) {i:Nat} {a:α} (hi:l[i]? =some a) (lc:Loc) (k:IntKind):
 iH P lc t v (.int k (i:Int))=some (.ro (enc a).cells):=by
 have hlt:i<l.length:=by
  rcases Nat.lt_or_ge i l.length with h|h
  ·exact h
  ·rw[List.getElem?_eq_none h] at hi;cases hi
 rcases h with⟨rfl,rfl⟩|⟨r,rfl⟩
 ·simp at hi
 ·rw[h2]
  simp only[sF,aq,Sg enc l i a hi,eH]
  have:bT i l.length=true:=eL hlt
  simp[this]
theorem Fy (e:bj) (t:Nat) (v:aj):ax (e.set t (some v)) t=v:=by simp[ax,FE]
theorem aiZ (e:bj) (t u:Nat) (v:aj) (h:(u==t)=false):ax (e.set t (some v)) u=ax e u:=by
 have:u≠t:=by simpa using h
 simp[ax,bv.get_set,this]
theorem ai (e:bj) (t u:Nat) (v:aj):ax (e.set t (some v)) u=bif u==t then v else ax e u:=by
 cases h:u==t with
 |true=>have:u=t:=by simpa using h
        subst this;exact Fy e u v
 |false=>exact aiZ e t u v h
theorem gen_set (l:Loc) (t h u:Nat) (c:List aj):(l.set t h c).gen u=bif be t u then h else l.gen u:=by
 induction l with
 |nil=>simp only[Loc.set,Loc.gen]
 |cons x l ih=>
  obtain⟨k,g,d⟩:=x
  simp only[Loc.set]
  cases hk:be k t with
  |true=>
   have:=ik hk
   subst this
   simp only[cT,Loc.gen]
   cases be k u<;>rfl
  |false=>
   simp only[cF,Loc.gen,ih]
   cases hu:be k u with
   |false=>rfl
   |true=>
    have:=ik hu
    subst this
    have:be t k=false:=by
     cases h:be t k with
     |false=>rfl
     |true=>have:=ik h;subst this;simp at hk
    simp[this]
theorem dA (t:Nat):Loc.gen [] t=0:=rfl
theorem YF (l:Loc) (t h:Nat) (c:List aj):(l.set t h c).gen t=h:=by simp[gen_set]
theorem YG (l:Loc) (t h u:Nat) (c:List aj) (e:(u==t)=false):(l.set t h c).gen u=l.gen u:=by
 rw[gen_set]
 have:be t u=false:=by
  cases h:be t u with
  |false=>rfl
  |true=>have:=ik h;subst this;simp at e
 rw[this];rfl
theorem RK (l:Loc) (t h u g:Nat) (c:List aj):(l.set t h c).get u g=bif be t u then(bif be h g then some c else none) else l.get u g:=by
 induction l with
 |nil=>simp only[Loc.set,Loc.get]
 |cons x l ih=>
  obtain⟨k,g',d⟩:=x
  simp only[Loc.set]
  cases hk:be k t with
  |true=>
   have:=ik hk
   subst this
   simp only[cT,Loc.get]
   cases be k u<;>rfl
  |false=>
   simp only[cF,Loc.get,ih]
   cases hu:be k u with
   |false=>rfl
   |true=>
    have:=ik hu
    subst this
    have:be t k=false:=by
     cases h:be t k with
     |false=>rfl
     |true=>have:=ik h;subst this;simp at hk
    simp[this]
theorem ah6 (l:Loc) (t h u g:Nat) (c:List aj) (e:(u==t)=false):(l.set t h c).get u g=l.get u g:=by
 rw[RK]
 have:be t u=false:=by
  cases h:be t u with
  |false=>rfl
  |true=>have:=ik h;subst this;simp at e
 rw[this];rfl
theorem jz (l:Loc) (t h h':Nat) (c c':List aj):(l.set t h c).set t h' c'=l.set t h' c':=by
 induction l with
 |nil=>simp[Loc.set]
 |cons x l ih=>
  obtain⟨k,g',d⟩:=x
  simp only[Loc.set]
  cases hk:be k t with
  |true=>simp[Loc.set,hk]
  |false=>simp[Loc.set,hk,ih]
theorem cM (l:Loc) (t h u:Nat) (c:List aj):(l.set t h c).gen u=bif u==t then h else l.gen u:=by
 cases e:u==t with
 |true=>have:u=t:=by simpa using e
        subst this;exact YF l u h c
 |false=>exact YG l t h u c e
theorem bR (l:Loc) (t h u g:Nat) (c:List aj):(l.set t h c).get u g=bif u==t then(bif g==h then some c else none) else l.get u g:=by
 cases e:u==t with
 |true=>
  have:u=t:=by simpa using e
  subst this
  rw[RK]
  simp only[cT]
  cases e:g==h with
  |true=>have:g=h:=by simpa using e
         subst this;simp
  |false=>
   have h1:g≠h:=by simpa using e
   have:be h g=false:=by
    cases e':be h g with
    |false=>rfl
    |true=>exact absurd (ik e').symm h1
   simp[this]
 |false=>exact ah6 l t h u g c e
def A2 (Q:cw) (f:FuncId) (d:Tmp) (e:bj) (sz:Nat) (l:List cD) (N:Fr->St->Prop) (x:Option (aj×Loc×St)):Prop:=sJ x fun v lc' s'=>d<sz/\WP Q f l ⟨e.set d (some v),sz,lc'⟩ s' N
def TK (Q:cw) (f:FuncId) (e:bj) (sz:Nat) (l:List cD) (N:Fr->St->Prop) (x:Option (aj×Loc×St)):Prop:=sJ x fun _ lc' s'=>WP Q f l ⟨e,sz,lc'⟩ s' N
def Gw (Q:cw) (f:FuncId) (o:cD) (d:Tmp) (e:bj) (sz:Nat) (lc:Loc) (s:St) (l:List cD) (N:Fr->St->Prop):Bool->Prop
 |true=>A2 Q f d e sz l N (dR Q f o [] ⟨e,sz,lc⟩ s)
 |false=>d<sz/\WP Q f l ⟨e.set d (some ii),sz,lc⟩ s N
theorem aB {d:Tmp} {e:bj} {sz:Nat} {l:List cD} {N:Fr->St->Prop} {v:aj} {lc:Loc} {s:St}:A2 Q f d e sz l N (some (v,lc,s))=(d<sz/\WP Q f l ⟨e.set d (some v),sz,lc⟩ s N):=rfl
theorem ep {e:bj} {sz:Nat} {l:List cD} {N:Fr->St->Prop} {v:aj} {lc:Loc} {s:St}:TK Q f e sz l N (some (v,lc,s))=WP Q f l ⟨e,sz,lc⟩ s N:=rfl
theorem eP {o:cD} {d:Tmp} {e:bj} {sz:Nat} {lc:Loc} {s:St} {l:List cD} {N:Fr->St->Prop}:Gw Q f o d e sz lc s l N true=A2 Q f d e sz l N (dR Q f o [] ⟨e,sz,lc⟩ s):=rfl
theorem gp {o:cD} {d:Tmp} {e:bj} {sz:Nat} {lc:Loc} {s:St} {l:List cD} {N:Fr->St->Prop}:Gw Q f o d e sz lc s l N false=(d<sz/\WP Q f l ⟨e.set d (some ii),sz,lc⟩ s N):=rfl
theorem aA {d:Tmp} {op:Op} {l:List cD} {e:bj} {sz:Nat} {lc:Loc} {s:St} {N:Fr->St->Prop}:
 WP Q f (⟨some d,op,.aw⟩::l) ⟨e,sz,lc⟩ s N=A2 Q f d e sz l N (dR Q f ⟨some d,op,.aw⟩ [] ⟨e,sz,lc⟩ s):=GZ rfl
theorem ej {op:Op} {l:List cD} {e:bj} {sz:Nat} {lc:Loc} {s:St} {N:Fr->St->Prop}:
 WP Q f (⟨none,op,.aw⟩::l) ⟨e,sz,lc⟩ s N=TK Q f e sz l N (dR Q f ⟨none,op,.aw⟩ [] ⟨e,sz,lc⟩ s):=UX rfl
theorem dB {d:Tmp} {op:Op} {t:Tmp} {b:Bool} {l:List cD} {e:bj} {sz:Nat} {lc:Loc} {s:St} {N:Fr->St->Prop}:
 WP Q f (⟨some d,op,.when t b⟩::l) ⟨e,sz,lc⟩ s N=Gw Q f ⟨some d,op,.when t b⟩ d e sz lc s l N (oY (ax e t) b):=by
 cases h:oY (ax e t) b with
 |true=>exact GZ (by rw[ut,h])
 |false=>exact UY (by rw[ut,h])
theorem W.reg {ops:List cD} {fr:Fr} {s:St} {K:Ex->Fr->St->Prop} (h:WP Q f ops fr s fun fr s=>K .normal fr s):W Q f (.region ops) fr s K:=
 let⟨_,_,h1,h2⟩:=h;W.region (WL.run h1 h2)
theorem W.sreg {ops:List cD} {c:SC} {fr:Fr} {s:St} {K:Ex->Fr->St->Prop} (h:WP Q f ops fr s fun fr s=>W Q f c fr s K):W Q f (.seq (.region ops) c) fr s K:=W.seq (W.reg h)
theorem W.sseq {a b:SC} {fr:Fr} {s:St} {K:Ex->Fr->St->Prop} (h:W Q f a fr s (Ex.next K fun fr s=>W Q f b fr s K)):W Q f (.seq a b) fr s K:=W.seq h
theorem aU (K:Ex->Fr->St->Prop) (N:Fr->St->Prop):Ex.next K N .normal=N:=rfl
theorem dP (i:Nat):Ex.block i .normal= .normal:=rfl
section
variable {e:bj} {sz:Nat} {lc:Loc} {s:St} {d:Option Tmp} {g:SG} {mk:bn}
theorem aH (x:Operand):dR Q f ⟨d,.move x,g⟩ mk ⟨e,sz,lc⟩ s=fK (ev e x) lc s:=rfl
theorem aN (x:Operand):dR Q f ⟨d,.assign x,g⟩ mk ⟨e,sz,lc⟩ s=fK (ev e x) lc s:=rfl
theorem di (c a b:Operand):dR Q f ⟨d,.pick c a b,g⟩ mk ⟨e,sz,lc⟩ s=fK (sO e c a b) lc s:=rfl
theorem gZ (t:TypeId):dR Q f ⟨d,.alloc t,g⟩ mk ⟨e,sz,lc⟩ s=(eY Q.P t).bind fun z=>oJ (mY (Q.hint f) d) d z.cells lc s:=rfl
theorem jC (t:TypeId) (x:Operand):dR Q f ⟨d,.box t x,g⟩ mk ⟨e,sz,lc⟩ s=(evc e x).bind fun a=>oJ (mY (Q.hint f) d) d a.cells lc s:=rfl
theorem lf (t:TypeId) (ps:Array (Nat×Operand)):dR Q f ⟨d,.build t ps,g⟩ mk ⟨e,sz,lc⟩ s=fK (gm Q.P t ps.toList e) lc s:=rfl
theorem lg (t:TypeId) (n:Nat) (ps:Array (Nat×Operand)):dR Q f ⟨d,.buildSlice t n ps,g⟩ mk ⟨e,sz,lc⟩ s=gX (dV Q.P t n ps.toList (be (mY (Q.hint f) d) 2) e s) lc:=rfl
theorem bo (t:TypeId) (a:Operand):dR Q f ⟨d,.load t a,g⟩ mk ⟨e,sz,lc⟩ s=(ev e a).bind fun a=>fK (kZ Q.P mk t a lc s) lc s:=rfl
theorem ez (t:TypeId) (a x:Operand):dR Q f ⟨d,.store t a x,g⟩ mk ⟨e,sz,lc⟩ s=(ev e a).bind fun a=>(evc e x).bind fun x=>(pS Q.P mk t a x lc s).bind fun r=>some (ii,r.1,r.2):=rfl
theorem aX (o:BinOp) (t u:TypeId) (x y:Operand):dR Q f ⟨d,.binOp o t x y u,g⟩ mk ⟨e,sz,lc⟩ s=(evc e x).bind fun x=>(evc e y).bind fun y=>fK (fy Q.P o t x y) lc s:=rfl
theorem hG (o:UnOp) (t:TypeId) (x:Operand):dR Q f ⟨d,.unOp o t x,g⟩ mk ⟨e,sz,lc⟩ s=(evc e x).bind fun a=>fK (wo o a) lc s:=rfl
theorem bZ (t:TypeId) (x:Operand) (i:Nat):dR Q f ⟨d,.fieldAddr t x i,g⟩ mk ⟨e,sz,lc⟩ s=(ev e x).bind fun a=>fK (fE Q.P lc t a i) lc s:=rfl
theorem Sz (t:TypeId) (x i:Operand):dR Q f ⟨d,.index t x i,g⟩ mk ⟨e,sz,lc⟩ s=(evc e x).bind fun x=>(ev e i).bind fun i=>fK (qn Q.P t x i) lc s:=rfl
theorem ek (t:TypeId) (x i:Operand):dR Q f ⟨d,.indexAddr t x i,g⟩ mk ⟨e,sz,lc⟩ s=(ev e x).bind fun x=>(ev e i).bind fun i=>fK (iH Q.P lc t x i) lc s:=rfl
theorem SA (t:TypeId) (x:Operand) (lo hi mx:Option Operand):dR Q f ⟨d,.slice t x lo hi mx,g⟩ mk ⟨e,sz,lc⟩ s=(evc e x).bind fun a=>fK (jS Q.P mk t a lo hi mx e s) lc s:=rfl
theorem lQ (t:TypeId) (x i:Operand) (ok:Bool):dR Q f ⟨d,.lookup t x i ok,g⟩ mk ⟨e,sz,lc⟩ s=(evc e x).bind fun x=>(evc e i).bind fun i=>fK (lM Q.P mk t x i ok s) lc s:=rfl
theorem ua (t:TypeId) (m k x:Operand):dR Q f ⟨d,.mapUpdate t m k x,g⟩ mk ⟨e,sz,lc⟩ s=(evc e m).bind fun m=>(evc e k).bind fun k=>(evc e x).bind fun x=>lR (lS Q.P mk t m k x s) lc:=rfl
theorem vO (t:TypeId) (r:Option Operand):dR Q f ⟨d,.makeMap t r,g⟩ mk ⟨e,sz,lc⟩ s=gX (mp Q.P t e r s) lc:=rfl
theorem xY (fn:Fn) (a b:Array Operand):dR Q f ⟨d,.makeFunc fn a b,g⟩ mk ⟨e,sz,lc⟩ s=fK (pF e fn a b) lc s:=rfl
theorem fI (x:Operand):dR Q f ⟨d,.nilCheck x,g⟩ mk ⟨e,sz,lc⟩ s=(ev e x).bind fun a=>fK (sG lc a) lc s:=rfl
theorem jD (x:Operand) (i:Nat):dR Q f ⟨d,.extract x i,g⟩ mk ⟨e,sz,lc⟩ s=(ev e x).bind fun a=>fK (iE i a) lc s:=rfl
theorem cJ (b:Builtin) (as:Array Operand) (ts:Array TypeId):dR Q f ⟨d,.call ⟨.builtin b,as,ts⟩,g⟩ mk ⟨e,sz,lc⟩ s=
 (evcs e as.toList).bind fun args=>gX (lD Q.P mk b ts.toList (be (mY (Q.hint f) d) 2) args s) lc:=rfl
theorem dK (x:Operand) (as:Array Operand) (ts:Array TypeId):dR Q f ⟨d,.call ⟨.value x,as,ts⟩,g⟩ mk ⟨e,sz,lc⟩ s=
 (callee e ⟨.value x,as,ts⟩).bind fun g=>(Q.spec g.1).bind fun sp=>(sp g.2).bind fun v=>some (v,lc,s):=rfl
theorem dI (n:FuncId) (as:Array Operand) (ts:Array TypeId):callee e ⟨.value (.func n),as,ts⟩=(evcs e as.toList).bind fun args=>some (n,args):=by
 simp only[callee,ev,aq,List.nil_append,iA]
end
theorem ak (e:bj) (t:Nat):ev e (.tmp t)=some (ax e t):=rfl
theorem aK (e:bj) (v:Value):ev e (.const v)=ofValue v:=rfl
theorem ff (e:bj) (n:FuncId):ev e (.func n)=some (.func (.func n) [] []):=rfl
theorem bk (e:bj):evcs e []=some []:=rfl
theorem bm (e:bj) (x:Operand) (l:List Operand):evcs e (x::l)=(evc e x).bind fun v=>(evcs e l).bind fun r=>some (v::r):=rfl
theorem bW (b:Bool):ofValue (.bool b)=some (.bool b):=rfl
theorem bt (k:IntKind) (n:Int):ofValue (.int k n)=some (.int k n):=rfl
theorem jB (s:Array UInt8):ofValue (.string ⟨s⟩)=some (.str s.toList):=rfl
theorem gl (t:Tmp) (cs:List aj) (lc:Loc) (s:St):oJ 1 (some t) cs lc s=some (.lref t (lc.gen t+1) 0,lc.set t (lc.gen t+1) cs,s):=rfl
theorem jc (d:Option Tmp) (cs:List aj) (lc:Loc) (s:St):oJ 0 d cs lc s=some (.ptr s.next 0,lc,s.new (.cells cs)):=rfl
theorem cx (P:Program) (mk:bn) (t:TypeId) (l g off:Nat) (lc:Loc) (s:St):kZ P mk t (.lref l g off) lc s=(lc.get l g).bind fun cs=>fg P t cs off:=rfl
theorem fQ (P:Program) (mk:bn) (t:TypeId) (cs:List aj) (lc:Loc) (s:St):kZ P mk t (.ro cs) lc s=fg P t cs 0:=rfl
theorem da (a b:Nat):dz (a:Int) (b:Int)=decide (a<b):=by simp[dz]
theorem sj (a b:Nat):iG (a:Int) (b:Int)=decide (a<=b):=by simp[iG]
theorem ra (a b:Nat):bD (a:Int) (b:Int)=(a==b):=by
 simp only[bD]
 cases h:a==b with
 |true=>have:a=b:=by simpa using h
        subst this;simp
 |false=>
  have:a≠b:=by simpa using h
  exact beq_eq_false_iff_ne.2 fun e=>this (Int.ofNat.inj e)
theorem ew {z:Int} (h1: -9223372036854775808<=z) (h2:z<9223372036854775808):IntKind.i64.wrap z=z:=by
 rw[IntKind.wrap_i64]
 omega
def St.top (s:St):St:=⟨s.heap,s.next,s.next,s.ci⟩
def WQ (Q:cw) (f:FuncId) (s:St):List cD->Fr->(Fr->Prop)->Prop
 | [],fr,N=>N fr
 |o::l,fr,N=>(iy fr.env o.g=true/\ ∃v lc fr',dR Q f o [] fr s=some (v,lc,s)/\isStore o.op=false/\ee fr o.dst v lc=some fr'/\WQ Q f s l fr' N)\/
   (iy fr.env o.g=false/\ ∃fr',ee fr o.dst ii fr.loc=some fr'/\WQ Q f s l fr' N)
def calm (rs:List dU):Prop:= ∀r∈rs,r.c0=r.c1/\r.loud=false
theorem E9 {rs:List dU} (h:calm rs) (b:Nat):je b rs []=[]:=by
 induction rs with
 |nil=>rfl
 |cons r rs ih=>
  have:=h r (by simp)
  simp only[je,this.1,aZ,bS,Bool.or_true,cT]
  exact ih fun r hr=>h r (by simp[hr])
theorem CK {rs:List dU} (h:calm rs) (b:Nat) (ft:fN):fits b ft false rs=true:=by
 simp only[fits,np]
 intro r hr
 simp[(h r hr).2]
theorem WQ.draw {s:St} (hm:s.minw<=s.next): ∀ {l:List cD} {bs:List Nat} {rs:List dU} {i:Nat} {fr:Fr} {N:Fr->Prop},calm rs->WQ Q f s.top l fr N-> ∃fr',sS Q f bs rs i l fr s=some (fr',s)/\N fr'
 | [],bs,rs,i,fr,N,_,h=>⟨fr,rfl,h⟩
 |o::l,bs,rs,i,fr,N,hc,h=>by
  simp only[sS]
  rcases h with⟨hw,v,lc,fr',h1,h2,h3,h4⟩|⟨hw,fr',h3,h4⟩
  ·rw[hw,E9 hc]
   have h1:dR Q f o [] fr ⟨s.heap,s.next,s.next,s.ci⟩=some (v,lc,⟨s.heap,s.next,s.next,s.ci⟩):=h1
   simp only[cT,h1,aq,h2,pX]
   have hb:bT s.next s.next=false:=by rw[dl];simp
   have hl:s.least ⟨s.heap,s.next,s.next,s.ci⟩=s:=by
    have:cy s.minw s.next=true:=eL hm
    simp[St.least,this]
   rw[hb,CK hc,aZ,bS]
   simp only[dY,cT,h3,aq,hl]
   exact WQ.draw hm (fun r hr=>by
    rcases List.mem_cons.1 hr with rfl|hr
    ·exact⟨rfl,rfl⟩
    ·exact hc r hr) h4
  ·rw[hw]
   simp only[cF,h3,aq]
   exact WQ.draw hm hc h4
theorem W.drawQ {ops:List cD} {bs:List Nat} {fr:Fr} {s:St} {K:Ex->Fr->St->Prop} (hm:s.minw<=s.next) (h:WQ Q f s.top ops fr fun fr'=>K .normal fr' s):W Q f (.draw ops bs) fr s K:=
 let⟨_,h1,h2⟩:=WQ.draw hm (fun _ hr=>by cases hr) h;W.draw h1 h2
theorem W.sdrawQ {ops:List cD} {bs:List Nat} {c:SC} {fr:Fr} {s:St} {K:Ex->Fr->St->Prop} (hm:s.minw<=s.next) (h:WQ Q f s.top ops fr fun fr'=>W Q f c fr' s K):W Q f (.seq (.draw ops bs) c) fr s K:=W.seq (W.drawQ hm h)
def A3 (Q:cw) (f:FuncId) (s:St) (d:Tmp) (st:Bool) (e:bj) (sz:Nat) (l:List cD) (N:Fr->Prop) (x:Option (aj×Loc×St)):Prop:= ∃v lc,x=some (v,lc,s)/\st=false/\d<sz/\WQ Q f s l ⟨e.set d (some v),sz,lc⟩ N
theorem eK {s:St} {d:Tmp} {st:Bool} {e:bj} {sz:Nat} {l:List cD} {N:Fr->Prop} {v:aj} {lc:Loc}:A3 Q f s d st e sz l N (some (v,lc,s))=(st=false/\d<sz/\WQ Q f s l ⟨e.set d (some v),sz,lc⟩ N):=by
 apply propext
 constructor
 ·rintro⟨v',lc',h,h1,h2,h3⟩
  simp only[bg,bL] at h
  obtain⟨rfl,rfl,_⟩:=h;exact⟨h1,h2,h3⟩
 ·rintro⟨h1,h2,h3⟩;exact⟨v,lc,rfl,h1,h2,h3⟩
def Gx (Q:cw) (f:FuncId) (s:St) (o:cD) (d:Tmp) (e:bj) (sz:Nat) (lc:Loc) (l:List cD) (N:Fr->Prop):Bool->Prop
 |true=>A3 Q f s d (isStore o.op) e sz l N (dR Q f o [] ⟨e,sz,lc⟩ s)
 |false=>d<sz/\WQ Q f s l ⟨e.set d (some ii),sz,lc⟩ N
theorem oZ {s:St} {o:cD} {d:Tmp} {e:bj} {sz:Nat} {lc:Loc} {l:List cD} {N:Fr->Prop}:Gx Q f s o d e sz lc l N true=A3 Q f s d (isStore o.op) e sz l N (dR Q f o [] ⟨e,sz,lc⟩ s):=rfl
theorem rz {s:St} {o:cD} {d:Tmp} {e:bj} {sz:Nat} {lc:Loc} {l:List cD} {N:Fr->Prop}:Gx Q f s o d e sz lc l N false=(d<sz/\WQ Q f s l ⟨e.set d (some ii),sz,lc⟩ N):=rfl
theorem iw {e:bj} {sz:Nat} {lc:Loc} {d:Tmp} {v:aj} {lc':Loc} {fr':Fr}:ee ⟨e,sz,lc⟩ (some d) v lc'=some fr'↔d<sz/\fr'=⟨e.set d (some v),sz,lc'⟩:=by
 simp only[ee,dl]
 by_cases h:d<sz
 ·simp[h,eq_comm]
 ·simp[h]
theorem eJ {s:St} {fr:Fr} {N:Fr->Prop}:WQ Q f s [] fr N=N fr:=rfl
theorem eI {s:St} {d:Tmp} {op:Op} {l:List cD} {e:bj} {sz:Nat} {lc:Loc} {N:Fr->Prop}:
 WQ Q f s (⟨some d,op,.aw⟩::l) ⟨e,sz,lc⟩ N=A3 Q f s d (isStore op) e sz l N (dR Q f ⟨some d,op,.aw⟩ [] ⟨e,sz,lc⟩ s):=by
 apply propext
 constructor
 ·rintro(⟨_,v,lc',fr',h1,h2,h3,h4⟩|⟨hw,_⟩)
  ·obtain⟨hd,rfl⟩:=iw.1 h3
   exact⟨v,lc',h1,h2,hd,h4⟩
  ·cases hw
 ·rintro⟨v,lc',h1,h2,hd,h4⟩
  exact .inl ⟨rfl,v,lc',_,h1,h2,iw.2 ⟨hd,rfl⟩,h4⟩
theorem mO {s:St} {d:Tmp} {op:Op} {t:Tmp} {b:Bool} {l:List cD} {e:bj} {sz:Nat} {lc:Loc} {N:Fr->Prop}:
 WQ Q f s (⟨some d,op,.when t b⟩::l) ⟨e,sz,lc⟩ N=Gx Q f s ⟨some d,op,.when t b⟩ d e sz lc l N (oY (ax e t) b):=by
 apply propext
 constructor
 ·rintro(⟨hw,v,lc',fr',h1,h2,h3,h4⟩|⟨hw,fr',h3,h4⟩)
  ·have hw:iy e (.when t b)=true:=hw
   rw[ut] at hw
   obtain⟨hd,rfl⟩:=iw.1 h3
   rw[hw]
   exact⟨v,lc',h1,h2,hd,h4⟩
  ·have hw:iy e (.when t b)=false:=hw
   rw[ut] at hw
   obtain⟨hd,rfl⟩:=iw.1 h3
   rw[hw]
   exact⟨hd,h4⟩
 ·intro h
  cases hw:oY (ax e t) b with
  |true=>
   rw[hw] at h
   obtain⟨v,lc',h1,h2,hd,h4⟩:=h
   exact .inl ⟨by show iy e (.when t b)=true;rw[ut,hw],v,lc',_,h1,h2,iw.2 ⟨hd,rfl⟩,h4⟩
  |false=>
   rw[hw] at h
   exact .inr ⟨by show iy e (.when t b)=false;rw[ut,hw],_,iw.2 ⟨h.1,rfl⟩,h.2⟩
theorem bz.of2 {fn:Func} {sc:SC} {n:Nat} {rs:List ResultVar} {args:List aj} {v:aj} {s s':St} (hf:Q.P.funcs[f]? =some fn) (hc:fn.body.map cL=some sc) (hn:fn.ntmps=n) (hr:fn.results.toList=rs) (hsp:Q.spec f=none)
 (h:W Q f sc (dt n args) s fun x fr' s1=>s1=s'/\(x= .normal\/x= .ret)/\ ∃vs,gQ Q [] fr' s1 rs=some vs/\jQ vs=v) (hH:Q.specH f=none:=by rfl) (hW:Q.specW f=none:=by rfl):bz Q f args s v s':=by
 cases hb:fn.body with
 |none=>rw[hb] at hc;cases hc
 |some c=>
  rw[hb] at hc
  simp only[Option.map_some,bg] at hc
  subst hn;subst hr
  exact bz.of hf hb hsp hc h hH hW
theorem cE {fr:Fr} {s:St} {t:Tmp} {v:aj} (h:ax fr.env t=v) (hc:v.clean=true): ∃vs,gQ Q [] fr s [.tmp t]=some vs/\jQ vs=v:=by
 refine⟨[v],?_,rfl⟩
 simp only[gQ,x8,evc,ev,h,aq,hc,cT]
theorem xM {b:Nat} {rs:List dU} (h: ∀r∈rs,b.testBit r.i=true\/r.c0=r.c1):je b rs []=[]:=by
 induction rs with
 |nil=>rfl
 |cons r rs ih=>
  have h1:(b.testBit r.i||be r.c0 r.c1)=true:=by
   rcases h r (by simp) with h|h
   ·rw[h];rfl
   ·rw[h,Ft,Bool.or_true]
  simp only[je,h1,cT]
  exact ih fun r hr=>h r (by simp[hr])
theorem xd {b:Nat} {ft:fN} {loud:Bool} {rs:List dU} (h: ∀r∈rs,b.testBit r.i=true):fits b ft loud rs=true:=by
 simp only[fits,np]
 intro r hr
 rw[h r hr];rfl
theorem Ik {b:Nat} {ft:fN} {rs:List dU} (h: ∀r∈rs,r.loud=false):fits b ft false rs=true:=by
 simp only[fits,np]
 intro r hr
 simp[h r hr]
theorem jv.full {b i:Nat} {bs:List Nat} {rs:List dU} {o:cD} {l:List cD} {fr fr1 fr2:Fr} {s s1 s2:St} {v:aj} {lc:Loc} (hb: ∀j,j<i->b.testBit j=true) (hi: ∀r∈rs,r.i<i) (hw:iy fr.env o.g=true)
 (hpl:dR Q f o [] fr s.top=some (v,lc,s1)) (hci:s1.ci=s.ci) (hp:ee fr o.dst v lc=some fr1) (hk: ∀rc:dU,rc.i=i->jv Q f bs (rc::rs) (i+1) l fr1 (s.least s1) fr2 s2):jv Q f (b::bs) rs i (o::l) fr s fr2 s2:=by
 refine .step hw (v:=v) (lc:=lc) (s1:=s1) ?_ (xd fun r hr=>hb _ (hi r hr)) hci hp (hk _ rfl)
 show dR Q f o (je b rs []) fr s.top=_
 rw[xM fun r hr=>.inl (hb _ (hi r hr))]
 exact hpl
theorem jv.hush {b i:Nat} {bs:List Nat} {rs:List dU} {o:cD} {l:List cD} {fr fr1 fr2:Fr} {s s1 s2:St} {v:aj} {lc:Loc} (hq: ∀r∈rs,r.loud=false) (hst:isStore o.op=false) (hmw:s.next<=s1.minw) (hw:iy fr.env o.g=true)
 (hpl: ∀mk,dR Q f o mk fr s.top=some (v,lc,s1)) (hci:s1.ci=s.ci) (hp:ee fr o.dst v lc=some fr1) (hk: ∀rc:dU,rc.i=i->rc.loud=false->jv Q f bs (rc::rs) (i+1) l fr1 (s.least s1) fr2 s2):jv Q f (b::bs) rs i (o::l) fr s fr2 s2:=by
 have hl:(bT s1.minw s.next||isStore o.op)=false:=by
  rw[hst,pX,dl]
  exact decide_eq_false (by omega)
 refine .step hw (v:=v) (lc:=lc) (s1:=s1) (hpl _) (by rw[hl];exact Ik hq) hci hp (hk _ rfl hl)
theorem ml {s:St} (hm:s.minw<=s.next):s.least s.top=s:=by
 have:cy s.minw s.next=true:=eL hm
 simp[St.least,St.top,this]
theorem E4 {s:St} (hm:s.minw<=s.next) (o:bH):s.least (s.top.new o)=s.new o:=by
 have:cy s.minw s.next=true:=eL hm
 simp[St.least,St.top,St.new,this]
theorem W.drawR {ops:List cD} {bs:List Nat} {fr fr1:Fr} {s s1:St} {K:Ex->Fr->St->Prop} (h:jv Q f bs [] 0 ops fr s fr1 s1) (hk:K .normal fr1 s1):W Q f (.draw ops bs) fr s K:=⟨_,_,_,.draw h,hk⟩
theorem WQ.thenD {s:St} (hm:s.minw<=s.next) {l2:List cD} {N:Fr->St->Prop}: ∀ {l1:List cD} {bs:List Nat} {rs:List dU} {i:Nat} {fr:Fr},calm rs->(∀r∈rs,r.i<i)->
 WQ Q f s.top l1 fr (fun fr1=> ∀rs1,calm rs1->(∀r∈rs1,r.i<i+l1.length)-> ∃fr' s',jv Q f (bs.drop l1.length) rs1 (i+l1.length) l2 fr1 s fr' s'/\N fr' s')-> ∃fr' s',jv Q f bs rs i (l1++l2) fr s fr' s'/\N fr' s'
 | [],bs,rs,i,fr,hc,hi,h=>h rs hc hi
 |o::l,bs,rs,i,fr,hc,hi,h=>by
  have hdrop: ∀(bs:List Nat) (n:Nat),bs.tail.drop n=bs.drop (n+1):=fun bs n=>by cases bs<;>simp
  rcases h with⟨hw,v,lc,fr',h1,h2,h3,h4⟩|⟨hw,fr',h3,h4⟩
  ·have hl:(bT s.top.minw s.next||isStore o.op)=false:=by
    rw[h2,pX,dl]
    exact decide_eq_false (by show¬s.next<s.next;omega)
   obtain⟨fr2,s2,q1,q2⟩:=WQ.thenD (l2:=l2) (N:=N) hm (l1:=l) (bs:=bs.tail) (rs:=⟨i,s.next,s.next,dy (Q.hint f) o.dst fr.env o.op,false⟩::rs) (i:=i+1) (fr:=fr')
    (fun r hr=>by
     rcases List.mem_cons.1 hr with rfl|hr
     ·exact⟨rfl,rfl⟩
     ·exact hc r hr) (fun r hr=>by
     rcases List.mem_cons.1 hr with rfl|hr
     ·exact Nat.lt_succ_self _
     ·exact ns (hi r hr)) (by
     rw[hdrop]
     have e:i+1+l.length=i+(o::l).length:=by simp only[aP];omega
     rw[e];exact h4)
   refine⟨fr2,s2,.step hw (v:=v) (lc:=lc) (s1:=s.top) ?_ (by rw[hl];exact CK hc _ _) rfl h3 ?_,q2⟩
   ·rw[E9 hc];exact h1
   ·rw[hl,ml hm];exact q1
  ·obtain⟨fr2,s2,q1,q2⟩:=WQ.thenD (l2:=l2) (N:=N) hm (l1:=l) (bs:=bs.tail) (rs:=rs) (i:=i+1) (fr:=fr') hc (fun r hr=>ns (hi r hr)) (by
    rw[hdrop]
    have e:i+1+l.length=i+(o::l).length:=by simp only[aP];omega
    rw[e];exact h4)
   exact⟨fr2,s2,.skip hw h3 q1,q2⟩
end
end Go.Ag
