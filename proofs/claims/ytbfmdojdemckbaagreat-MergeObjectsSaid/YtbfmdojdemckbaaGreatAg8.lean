/- Contracts out of evaluations and walks. -/
import Derived.Test.YtbfmdojdemckbaaGreatAg7
import Derived.Test.YtbfmdojdemckbaaGreatAg5
namespace Go.Ag
open _root_.Bool renaming and_eq_true→cU,and_self→gK,and_true→dB,or_false→oH
open _root_.List renaming all_cons→l8,all_eq_true→mP,append_nil→im,getElem?_of_mem→A2,length_cons→aK,length_map→ep,map_cons→fw,mem_of_getElem?→nK
open _root_.List.cons renaming injEq→mQ
open _root_.Nat renaming beq→aY,ble_eq_true_of_le→ew,ble→cr,blt→bP,eq_of_beq_eq_true→ib,le_max_left→ri,le_max_right→rj,le_of_ble_eq_true→io,lt_of_lt_of_le→gn,lt_succ_of_lt→mS
open _root_.Option renaming bind_eq_some_iff→aF,bind_some→ak,none_or→rl
open _root_.Option.some renaming injEq→a7
open _root_.Prod.mk renaming injEq→bK
mutual
def bM:ai→Bool
 | .agg cs=>pures cs
 | .tup cs=>pures cs
 | .ptr _ _=>false
 | .lref _ _ _=>false
 | .ro cs=>pures cs
 | .list _ xs r=>pures xs&&(match r with| .own _=>false|_=>true)
 | .arr _ _ _ _ _=>false
 | .map _=>false
 | .func _ a b=>pures a&&pures b
 | .iface _ v=>bM v
 | .yld _=>false
 | .roz _=>false
 |_=>true
def pures:List ai→Bool
 | []=>true
 |v::l=>bM v&&pures l
end
mutual
def weak:ai→ai
 | .agg cs=>.agg (dU cs)
 | .tup cs=>.tup (dU cs)
 | .ro cs=>.ro (dU cs)
 | .list n xs r=>.list n (dU xs) (match r with| .own _=>.no|r=>r)
 | .func f a b=>.func f (dU a) (dU b)
 | .iface t v=>.iface t (weak v)
 |v=>v
def dU:List ai→List ai
 | []=>[]
 |v::l=>weak v::dU l
end
theorem AU (l:List ai):dU l=l.map weak:=by
 induction l with
 |nil=>rfl
 |cons v l ih=>simp [dU,ih]
theorem tQ {l:List ai}:pures l=true↔ ∀v∈l,bM v=true:=by
 induction l with
 |nil=>simp [pures]
 |cons v l ih=>simp [pures,ih]
mutual
theorem FP: ∀ {v:ai},bM v=true→weak v=v
 | .agg cs,h=>by simp only [bM] at h;simp only [weak,iw h]
 | .tup cs,h=>by simp only [bM] at h;simp only [weak,iw h]
 | .ro cs,h=>by simp only [bM] at h;simp only [weak,iw h]
 | .list n xs r,h=>by
   simp only [bM,cU] at h
   simp only [weak,iw h.1]
   cases r<;>first|rfl|(simp at h)
 | .func f a b,h=>by
   simp only [bM,cU] at h
   simp only [weak,iw h.1,iw h.2]
 | .iface t v,h=>by simp only [bM] at h;simp only [weak,FP h]
 | .bool _,_=>rfl
 | .int _ _,_=>rfl
 | .str _,_=>rfl
 | .nilp,_=>rfl
 | .ptr _ _,h=>by simp [bM] at h
 | .lref _ _ _,h=>by simp [bM] at h
 | .nils,_=>rfl
 | .arr _ _ _ _ _,h=>by simp [bM] at h
 | .nilm,_=>rfl
 | .map _,h=>by simp [bM] at h
 | .nilf,_=>rfl
 | .nili,_=>rfl
theorem iw: ∀ {l:List ai},pures l=true→dU l=l
 | [],_=>rfl
 |v::l,h=>by
  simp only [pures,cU] at h
  simp only [dU,FP h.1,iw h.2]
end
theorem alQ {v:ai} (h:v.scal=true):(weak v).scal=true:=by
 cases v<;>simp_all [weak,ai.scal]
theorem Tw (l:List ai):(dU l).length=l.length:=by rw [AU,ep]
theorem Tu (v:ai):(weak v).cells=dU v.cells:=by cases v<;>simp [weak,ai.cells,dU]
theorem Xq (l:List ai):bO (dU l)=dU (bO l):=by
 induction l with
 |nil=>rfl
 |cons v l ih=>
  simp only [dU,bO,Tu,ih]
  simp only [AU,List.map_append]
theorem SB {l:List ai} (h:dG l=true):dG (dU l)=true:=by
 induction l with
 |nil=>rfl
 |cons v l ih=>
  simp only [dG,l8,cU] at h
  simp only [dU,dG,l8,cU]
  exact⟨alQ h.1,ih h.2⟩
theorem vL {l:List ai} (h:pures l=true) {i:Nat} {v:ai} (hi:l[i]? =some v):bM v=true:=tQ.1 h v (nK hi)
theorem Fa {l:List ai} (h:pures l=true):pures (bO l)=true:=by
 induction l with
 |nil=>rfl
 |cons v l ih=>
  simp only [pures,cU] at h
  have h1:pures v.cells=true:=by
   cases v<;>first
    |(simp only [ai.cells];simpa [bM] using h.1)
    |(simp only [ai.cells,pures,dB];exact h.1)
  rw [tQ]
  intro u hu
  simp only [bO,List.mem_append] at hu
  rcases hu with hu|hu
  ·exact tQ.1 h1 u hu
  ·exact tQ.1 (ih h.2) u hu
section
variable {G1 G2:Gh}
structure F7 (G1 G2:Gh):Prop where
 ro: ∀b o v,G1.ro b o=some v→bM (weak v)=true→G2.ro b o=some (weak v)
theorem Tv {l:List ai} {i:Nat} {x:ai} (h:(dU l)[i]? =some x): ∃y,l[i]? =some y∧x=weak y:=by
 rw [AU,List.getElem?_map] at h
 cases e:l[i]? with
 |none=>rw [e] at h;cases h
 |some y=>rw [e] at h;injection h with h;exact⟨y,rfl,h.symm⟩
mutual
theorem VR.back (k:F7 G1 G2): ∀ {v:ai} {x:Value},VR G1 v x→bM (weak v)=true→VR G2 (weak v) x
 |_,_,.bool b,_=>.bool b
 |_,_,.int k n,_=>.int k n
 |_,_,.str s,_=>.str s
 |_,_,.agg hc hs,h=>.agg (SB hc) (cg.back k hs (by simpa [weak,bM] using h))
 |_,_,.tup hs,h=>.tup (cg.back k hs (by simpa [weak,bM] using h))
 |_,_,.nilp,_=>.nilp
 |_,_,.ptr e,h=>by simp [weak,bM] at h
 |_,_,.ro (cs:=cs) e,h=>by
  have h:pures (dU cs)=true:=by simpa [weak,bM] using h
  refine .ro fun i x hx=>?_
  obtain⟨y,hy,rfl⟩:=Tv hx
  exact k.ro _ _ _ (e i y hy) (vL h hx)
 |_,_,.nils,_=>.nils
 |_,_,.list (xs:=xs) (r:=r) a b c d e f,h=>by
  simp only [weak,bM,cU] at h
  have hlen:=Tw xs
  simp only [weak]
  rw [←hlen]
  refine .list a b ?_ (by rw [hlen];exact d) ?_ ?_
  ·intro x hx
   rw [AU,List.mem_map] at hx
   obtain⟨y,hy,rfl⟩:=hx
   rw [Tu,Tw];exact c y hy
  ·intro i x hx
   have hp:=vL (Fa h.1) hx
   rw [Xq] at hx
   obtain⟨y,hy,rfl⟩:=Tv hx
   exact k.ro _ _ _ (e i y hy) hp
  ·cases r with
   |full=>rw [hlen];exact f
   |own n=>exact trivial
   |no=>exact trivial
 |_,_,.arr ..,h=>by simp [weak,bM] at h
 |_,_,.nilm,_=>.nilm
 |_,_,.map e,h=>by simp [weak,bM] at h
 |_,_,.nilf,_=>.nilf
 |_,_,.func a b,h=>by
  simp only [weak,bM,cU] at h
  exact .func (cg.back k a h.1) (cg.back k b h.2)
 |_,_,.nili,_=>.nili
 |_,_,.iface e,h=>.iface (VR.back k e (by simpa [weak,bM] using h))
theorem cg.back (k:F7 G1 G2): ∀ {vs:List ai} {xs:List Value},cg G1 vs xs→pures (dU vs)=true→cg G2 (dU vs) xs
 |_,_,.nil,_=>.nil
 |_,_,.cons a b,h=>by
  simp only [dU,pures,cU] at h
  exact .cons (VR.back k a h.1) (cg.back k b h.2)
end
def wz (G1 G2:Gh):Prop:= ∀b o v,G1.ro b o=some v→bM v=true→G2.ro b o=some v
mutual
theorem VR.onto (k:wz G1 G2): ∀ {v:ai} {x:Value},VR G1 v x→bM v=true→VR G2 v x
 |_,_,.bool b,_=>.bool b
 |_,_,.int k n,_=>.int k n
 |_,_,.str s,_=>.str s
 |_,_,.agg hc hs,h=>.agg hc (cg.onto k hs (by simpa [bM] using h))
 |_,_,.tup hs,h=>.tup (cg.onto k hs (by simpa [bM] using h))
 |_,_,.nilp,_=>.nilp
 |_,_,.ptr e,h=>by simp [bM] at h
 |_,_,.ro e,h=>.ro fun i x hx=>k _ _ _ (e i x hx) (vL (by simpa [bM] using h) hx)
 |_,_,.nils,_=>.nils
 |_,_,.list (r:=r) a b c d e f,h=>by
  simp only [bM,cU] at h
  refine .list a b c d (fun i x hx=>k _ _ _ (e i x hx) (vL (Fa h.1) hx)) ?_
  cases r with
  |full=>exact f
  |own n=>simp at h
  |no=>exact trivial
 |_,_,.arr ..,h=>by simp [bM] at h
 |_,_,.nilm,_=>.nilm
 |_,_,.map e,h=>by simp [bM] at h
 |_,_,.nilf,_=>.nilf
 |_,_,.func a b,h=>by
  simp only [bM,cU] at h
  exact .func (cg.onto k a h.1) (cg.onto k b h.2)
 |_,_,.nili,_=>.nili
 |_,_,.iface e,h=>.iface (VR.onto k e (by simpa [bM] using h))
theorem cg.onto (k:wz G1 G2): ∀ {vs:List ai} {xs:List Value},cg G1 vs xs→pures vs=true→cg G2 vs xs
 |_,_,.nil,_=>.nil
 |_,_,.cons a b,h=>by
  simp only [pures,cU] at h
  exact .cons (VR.onto k a h.1) (cg.onto k b h.2)
end
end
def Gh.plain (G:Gh):Gh where
 at_ _:=none
 ro b o:=(G.ro b o).bind fun v=>if bM v=true then some v else none
 dim:=G.dim
theorem R0 (G:Gh):wz G G.plain:=fun b o v h hp=>by simp [Gh.plain,h,hp]
theorem WR.plain {G:Gh} {h:bq bE} {w:World} (x:WR G h w):WR G.plain .nil w where
 obj n o h:=by cases h
 sep n m a b h:=absurd rfl h
 ro b o v hv:=by
  simp only [Gh.plain,aF] at hv
  obtain⟨u,hu,hv⟩:=hv
  split at hv
  ·rename_i hp
   injection hv with hv;subst hv
   obtain⟨h1,y,h2,h3⟩:=x.ro b o u hu
   exact⟨h1,y,h2,h3.onto (R0 G) hp⟩
  ·cases hv
 apart n ob a i v h:=by cases h
 dim:=x.dim
 below n a h:=by cases h
def s0:St:=⟨.nil,0,0,0⟩
theorem zZ {G:Gh} {b:Nat}: ¬ez G .nil b:=fun⟨_,_,h,_⟩=>h rfl
def eD (P:Program) (f:FuncId) (sp:List ai→Option ai):Prop:=
 ∀args v,sp args=some v→ ∀(G:Gh) (h:bq bE) (w:World) (xs:List Value),WR G h w→cg G args xs→
  kb P f ⟨xs⟩ w fun y w'=> ∃G',WR G' h w'∧dh G h w G' h w' 0 0∧VR G' v y
structure pF (r r':kX):Prop where
 ops: ∀f all mk l fr s x,r.ops f all mk l fr s=some x→r'.ops f all mk l fr s=some x
 draw: ∀f all bs mk rs i l fr s x,r.draw f all bs mk rs i l fr s=some x→r'.draw f all bs mk rs i l fr s=some x
 code: ∀f c mk fr s x,r.code f c mk fr s=some x→r'.code f c mk fr s=some x
 call: ∀f args mk s x,r.call f args mk s=some x→r'.call f args mk s=some x
theorem iY {α β:Type} {x x':Option α} {k k':α→Option β} {b:β} (h:x.bind k=some b) (hx: ∀a,x=some a→x'=some a) (hk: ∀a,k a=some b→k' a=some b):x'.bind k'=some b:=by
 cases e:x with
 |none=>rw [e] at h;cases h
 |some a=>rw [e] at h;rw [hx a e];exact hk a h
section
variable {Q:ck} {r r':kX} (hr:pF r r')
include hr
theorem TE {n:Nat} {args:List ai} {mk:bj} {s:St} {x:ai×St} (h:kR r n args mk s=some x):kR r' n args mk s=some x:=by
 unfold kR at h ⊢
 refine iY h (fun _ h=>h) fun o h=>iY h (fun y h=>?_) fun _ h=>h
 unfold uc at h ⊢
 split at h
 ·obtain⟨hb,h⟩:=bW h
  rw [hb]
  refine iY h (fun _ h=>h) fun env' h=>iY h (fun _ h=>hr.code _ _ _ _ _ _ h) fun y1 h=>?_
  obtain⟨e,fr1,s1⟩:=y1
  cases e with
  |normal=>exact iY h (fun _ h=>hr.code _ _ _ _ _ _ h) fun _ h=>h
  |exit i=>cases h
  |ret=>cases h
 ·cases h
theorem RR {f:FuncId} {o:Oper} {mk:bj} {fr:Fr} {s:St} {x:ai×Loc×St} (h:fp Q r f o mk fr s=some x):fp Q r' f o mk fr s=some x:=by
 unfold fp at h ⊢
 split at h
 ·split at h
  ·exact h
  ·rename_i c _ _ _
   cases hy:lS fr.env c with
   |true=>
    rw [hy] at h
    simp only [cT] at h ⊢
    unfold oG at h ⊢
    exact iY h (fun _ h=>h) fun a h=>iY h (fun _ h=>TE hr h) fun _ h=>h
   |false=>
    rw [hy] at h
    simp only [cF] at h ⊢
    unfold lf at h ⊢
    exact iY h (fun _ h=>h) fun a h=>iY h (fun _ h=>hr.call _ _ _ _ _ h) fun _ h=>h
 ·exact h
theorem Xt:pF (Cl Q r) (Cl Q r') where
 ops f all mk l fr s x h:=by
  have h:kz Q r f all mk l fr s=some x:=h
  show kz Q r' f all mk l fr s=some x
  unfold kz at h ⊢
  split at h
  ·exact h
  ·cases hw:eJ all fr.env _<;>rw [hw] at h<;>simp only [cT,cF] at h ⊢
   ·exact iY h (fun _ h=>h) fun _ h=>hr.ops _ _ _ _ _ _ _ h
   ·exact iY h (fun _ h=>RR hr h) fun a h=>iY h (fun _ h=>h) fun _ h=>hr.ops _ _ _ _ _ _ _ h
 draw f all bs mk rs i l fr s x h:=by
  have h:lh Q r f all bs mk rs i l fr s=some x:=h
  show lh Q r' f all bs mk rs i l fr s=some x
  unfold lh at h ⊢
  split at h
  ·exact h
  ·cases hw:eJ all fr.env _<;>rw [hw] at h<;>simp only [cT,cF] at h ⊢
   ·exact iY h (fun _ h=>h) fun _ h=>hr.draw _ _ _ _ _ _ _ _ _ _ h
   ·refine iY h (fun _ h=>RR hr h) fun a h=>?_
    obtain⟨hc,h⟩:=bW h
    rw [hc]
    exact iY h (fun _ h=>h) fun _ h=>hr.draw _ _ _ _ _ _ _ _ _ _ h
 code f c mk fr s x h:=by
  have h:rG Q r f c mk fr s=some x:=h
  show rG Q r' f c mk fr s=some x
  have hseq: ∀b y,mI r f b mk y=some x→mI r' f b mk y=some x:=by
   intro b y hy
   obtain⟨e,fr1,s1⟩:=y
   cases e
   ·exact hr.code _ _ _ _ _ _ hy
   ·exact hy
   ·exact hy
  cases c<;>simp only [rG] at h ⊢ <;>first
   |exact h
   |exact iY h (fun _ h=>hr.code _ _ _ _ _ _ h) fun _ h=>hseq _ _ h
   |exact iY h (fun _ h=>hr.code _ _ _ _ _ _ h) fun _ h=>h
   |exact hr.code _ _ _ _ _ _ h
   |skip
  case cond=>
   refine iY h (fun _ h=>h) fun v h=>?_
   cases v<;>try (cases h;done)
   rename_i b
   cases b<;>exact hr.code _ _ _ _ _ _ h
  case rangeFunc=>
   refine iY h (fun _ h=>h) fun v h=>?_
   unfold qX at h ⊢
   split at h
   ·obtain⟨hb,h⟩:=bW h
    rw [hb]
    exact iY h (fun _ h=>hr.call _ _ _ _ _ h) fun _ h=>h
   ·cases h
  case region=>
   rename_i id ops draw _
   unfold Aq at h ⊢
   refine iY h (fun a h=>?_) fun _ h=>h
   cases draw with
   |false=>exact hr.ops _ _ _ _ _ _ _ h
   |true=>
    simp only [cT] at h ⊢
    obtain⟨hc,h⟩:=bW h
    rw [hc]
    exact hr.draw _ _ _ _ _ _ _ _ _ _ h
 call f args mk s x h:=by
  have h:jk Q r f args mk s=some x:=h
  show jk Q r' f args mk s=some x
  unfold jk at h ⊢
  split at h
  ·exact h
  ·split at h
   ·exact h
   ·split at h
    ·exact h
    exact iY h (fun _ h=>h) fun fn h=>iY h (fun _ h=>h) fun c h=>iY h (fun _ h=>hr.code _ _ _ _ _ _ h) fun _ h=>h
end
theorem Rf (Q:ck): ∀n,pF (cG Q n) (cG Q (n+1))
 |0=>⟨fun _ _ _ _ _ _ _ h=>(by cases h),fun _ _ _ _ _ _ _ _ _ _ h=>(by cases h),fun _ _ _ _ _ _ h=>(by cases h),fun _ _ _ _ _ h=>(by cases h)⟩
 |n+1=>Xt (Rf Q n)
theorem pF.refl (r:kX):pF r r:=⟨fun _ _ _ _ _ _ _ h=>h,fun _ _ _ _ _ _ _ _ _ _ h=>h,fun _ _ _ _ _ _ h=>h,fun _ _ _ _ _ h=>h⟩
theorem pF.trans {a b c:kX} (x:pF a b) (y:pF b c):pF a c:=
 ⟨fun _ _ _ _ _ _ _ h=>y.ops _ _ _ _ _ _ _ (x.ops _ _ _ _ _ _ _ h),fun _ _ _ _ _ _ _ _ _ _ h=>y.draw _ _ _ _ _ _ _ _ _ _ (x.draw _ _ _ _ _ _ _ _ _ _ h),
  fun _ _ _ _ _ _ h=>y.code _ _ _ _ _ _ (x.code _ _ _ _ _ _ h),fun _ _ _ _ _ h=>y.call _ _ _ _ _ (x.call _ _ _ _ _ h)⟩
theorem lW (Q:ck) {n m:Nat} (h:n≤m):pF (cG Q n) (cG Q m):=by
 induction m with
 |zero=>have:n=0:=by omega
        subst this;exact .refl _
 |succ m ih=>
  by_cases e:n=m+1
  ·subst e;exact .refl _
  ·exact(ih (by omega)).trans (Rf Q m)
def nN (mk mk1:bj) (s:St):Prop:= ∀n,dF mk n=dF mk1 n∨(n<s.next∧s.heap.get n=none)
section
variable {mk mk1:bj} {s s':St}
theorem nN.get (h:nN mk mk1 s):s.get mk=s.get mk1:=by
 funext n
 unfold St.get
 rcases h n with h|⟨_,h⟩
 ·rw [h]
 ·rw [h];cases dF mk n<;>cases dF mk1 n<;>rfl
theorem nN.goes (h:nN mk mk1 s) (g:fN mk s s'):nN mk mk1 s':=fun n=>by
 rcases h n with h|⟨h1,h2⟩
 ·exact .inl h
 ·refine .inr ⟨gn h1 g.next,?_⟩
  rw [g.frame n ?_]
  ·exact h2
  ·rintro(⟨_,h'⟩|h')
   ·exact h' h2
   ·omega
theorem nN.same (h:nN mk mk1 s) (hn:s'.next=s.next) (hh:s'.heap=s.heap):nN mk mk1 s':=fun n=>by rw [hn,hh];exact h n
end
structure amj (r:kX):Prop where
 ops: ∀f all mk mk1 l fr s,nN mk mk1 s→r.ops f all mk l fr s=r.ops f all mk1 l fr s
 draw: ∀f all bs mk mk1 rs i l fr s,nN mk mk1 s→r.draw f all bs mk rs i l fr s=r.draw f all bs mk1 rs i l fr s
 code: ∀f c mk mk1 fr s,nN mk mk1 s→r.code f c mk fr s=r.code f c mk1 fr s
 call: ∀f args mk mk1 s,nN mk mk1 s→r.call f args mk s=r.call f args mk1 s
inductive SG where
 |aw
 |never
 |when (t:Tmp) (b:Bool)
structure au where
 dst:Option Tmp
 op:Op
 g:SG
def CE (all:Array Oper) (o:Oper):SG:=
 match o.guard with
 |none=>.aw
 |some (j,w)=>match(all[j]?).bind (·.dst) with
  |some d=>.when d w
  |none=>.never
def nw (all:Array Oper) (o:Oper):au:=⟨o.dst,o.op,CE all o⟩
inductive SC where
 |skip
 |ret
 |exit (id:Nat)
 |seq (a b:SC)
 |cond (x:Operand) (a b:SC)
 |block (id:Nat) (b:SC)
 |scope (b:SC)
 |loop (b:SC)
 |region (ops:List au)
 |draw (ops:List au) (bs:List Nat)
 |rfun (g:Operand) (ps:List Tmp) (a b:Code)
 |bad
def cy:Code→SC
 | .skip=>.skip
 | .label _=>.skip
 | .ret=>.ret
 | .exit id=>.exit id
 | .seq a b=>.seq (cy a) (cy b)
 | .cond x a b=>.cond x (cy a) (cy b)
 | .block id b=>.block id (cy b)
 | .scope b=>.scope (cy b)
 | .loop b=>.loop (cy b)
 | .region _ ops false=>.region (ops.toList.map (nw ops))
 | .region _ ops true=>bif kE ops 0 ops.toList (Region.before ops).toList then .draw (ops.toList.map (nw ops)) (Region.before ops).toList else .bad
 | .rangeFunc g ps a b=>.rfun g ps.toList a b
 |_=>.bad
noncomputable def ik (e:bc):SG→Bool
 | .aw=>true
 | .never=>false
 | .when t b=>match aq e t with
   | .bool c=>c==b
   |_=>false
theorem we (all:Array Oper) (e:bc) (o:Oper):ik e (CE all o)=eJ all e o:=by
 unfold CE eJ
 cases o.guard with
 |none=>rfl
 |some g=>
  obtain⟨j,w⟩:=g
  simp only
  cases (all[j]?).bind (·.dst)<;>rfl
section
variable (Q:ck) (f:FuncId)
noncomputable def dN (o:au) (mk:bj) (fr:Fr) (s:St):Option (ai×Loc×St):=
 match o.op with
 | .call c=>match c.callee with
   | .builtin _=>pY Q.P mk (Q.hint f) o.dst c fr s
   |_=>(callee fr.env c).bind fun g=>(Q.spec g.1).bind fun sp=>(sp g.2).bind fun v=>some (v,fr.loc,s)
 |op=>jV Q.P mk Q.ch Q.kmax (Q.hint f) o.dst op fr s
noncomputable def tY (o:au) (fr:Fr) (s:St):Option (Fr×St):=
 bif ik fr.env o.g then(dN Q f o [] fr s).bind fun x=>(d7 fr o.dst x.1 x.2.1).bind fun fr'=>some (fr',x.2.2)
 else(d7 fr o.dst gX fr.loc).bind fun fr'=>some (fr',s)
noncomputable def qc:List au→Fr→St→Option (Fr×St)
 | [],fr,s=>some (fr,s)
 |o::l,fr,s=>(tY Q f o fr s).bind fun x=>qc l x.1 x.2
noncomputable def sr (bs:List Nat) (rs:List dQ) (i:Nat):List au→Fr→St→Option (Fr×St)
 | [],fr,s=>some (fr,s)
 |o::l,fr,s=>
  bif ik fr.env o.g then
   (dN Q f o (iU (bs.headD 0) rs []) fr ⟨s.heap,s.next,s.next,s.ci⟩).bind fun x=>
    bif fits (bs.headD 0) (dr (Q.hint f) o.dst fr.env o.op) (bP x.2.2.minw s.next||isStore o.op) rs&&aY s.ci x.2.2.ci then
     (d7 fr o.dst x.1 x.2.1).bind fun fr'=>
      sr bs.tail (⟨i,s.next,x.2.2.next,dr (Q.hint f) o.dst fr.env o.op,bP x.2.2.minw s.next||isStore o.op⟩::rs) (i+1) l fr' (s.least x.2.2)
    else none
  else(d7 fr o.dst gX fr.loc).bind fun fr'=>sr bs.tail rs (i+1) l fr' s
end
def Ex.block (id:Nat):Ex→Ex
 | .exit i=>bif aY i id then .normal else .exit i
 |x=>x
def br (Q:ck) (g:FuncId) (args:List ai) (s:St) (v:ai) (s':St):Prop:= ∃n,(cG Q n).call g args [] s=some (v,s')
def pH (Q:ck) (n:Nat) (args:List ai) (s:St) (v:ai) (s':St):Prop:= ∃k,kR (cG Q k) n args [] s=some (v,s')
inductive nS (Q:ck) (f:FuncId):List au→Fr→St→Fr→St→Prop
 |nil {fr:Fr} {s:St}:nS Q f [] fr s fr s
 |step {o:au} {l:List au} {fr fr1 fr2:Fr} {s s1 s2:St}:tY Q f o fr s=some (fr1,s1)→nS Q f l fr1 s1 fr2 s2→nS Q f (o::l) fr s fr2 s2
 |call {o:au} {c:Call} {l:List au} {fr fr1 fr2:Fr} {s s1 s2:St} {g:FuncId} {args:List ai} {v:ai}:ik fr.env o.g=true→o.op= .call c→(∀b,c.callee≠ .builtin b)→callee fr.env c=some (g,args)→
  br Q g args s v s1→d7 fr o.dst v fr.loc=some fr1→nS Q f l fr1 s1 fr2 s2→nS Q f (o::l) fr s fr2 s2
 |yld {o:au} {c:Call} {l:List au} {fr fr1 fr2:Fr} {s s1 s2:St} {n:Nat} {args:List ai} {v:ai}:ik fr.env o.g=true→o.op= .call c→yieldee fr.env c=some (n,args)→
  pH Q n args s v s1→d7 fr o.dst v fr.loc=some fr1→nS Q f l fr1 s1 fr2 s2→nS Q f (o::l) fr s fr2 s2
def yo (Q:ck) (g:FuncId) (args:List ai) (mk:bj) (s:St) (v:ai) (s':St):Prop:= ∃n,(cG Q n).call g args mk s=some (v,s')
inductive jj (Q:ck) (f:FuncId):List Nat→List dQ→Nat→List au→Fr→St→Fr→St→Prop
 |nil {bs:List Nat} {rs:List dQ} {i:Nat} {fr:Fr} {s:St}:jj Q f bs rs i [] fr s fr s
 |skip {bs:List Nat} {rs:List dQ} {i:Nat} {o:au} {l:List au} {fr fr1 fr2:Fr} {s s2:St}:ik fr.env o.g=false→d7 fr o.dst gX fr.loc=some fr1→jj Q f bs.tail rs (i+1) l fr1 s fr2 s2→jj Q f bs rs i (o::l) fr s fr2 s2
 |step {bs:List Nat} {rs:List dQ} {i:Nat} {o:au} {l:List au} {fr fr1 fr2:Fr} {s s1 s2:St} {v:ai} {lc:Loc}:ik fr.env o.g=true→dN Q f o (iU (bs.headD 0) rs []) fr ⟨s.heap,s.next,s.next,s.ci⟩=some (v,lc,s1)→
  fits (bs.headD 0) (dr (Q.hint f) o.dst fr.env o.op) (bP s1.minw s.next||isStore o.op) rs=true→s1.ci=s.ci→d7 fr o.dst v lc=some fr1→
  jj Q f bs.tail (⟨i,s.next,s1.next,dr (Q.hint f) o.dst fr.env o.op,bP s1.minw s.next||isStore o.op⟩::rs) (i+1) l fr1 (s.least s1) fr2 s2→jj Q f bs rs i (o::l) fr s fr2 s2
 |call {bs:List Nat} {rs:List dQ} {i:Nat} {o:au} {c:Call} {l:List au} {fr fr1 fr2:Fr} {s s1 s2:St} {g:FuncId} {args:List ai} {v:ai}:ik fr.env o.g=true→o.op= .call c→(∀b,c.callee≠ .builtin b)→callee fr.env c=some (g,args)→
  yo Q g args (iU (bs.headD 0) rs []) ⟨s.heap,s.next,s.next,s.ci⟩ v s1→
  fits (bs.headD 0) (dr (Q.hint f) o.dst fr.env o.op) (bP s1.minw s.next||isStore o.op) rs=true→s1.ci=s.ci→d7 fr o.dst v fr.loc=some fr1→
  jj Q f bs.tail (⟨i,s.next,s1.next,dr (Q.hint f) o.dst fr.env o.op,bP s1.minw s.next||isStore o.op⟩::rs) (i+1) l fr1 (s.least s1) fr2 s2→jj Q f bs rs i (o::l) fr s fr2 s2
theorem jj.of {Q:ck} {f:FuncId}: ∀ {l:List au} {bs:List Nat} {rs:List dQ} {i:Nat} {fr fr':Fr} {s s':St},sr Q f bs rs i l fr s=some (fr',s')→jj Q f bs rs i l fr s fr' s'
 | [],bs,rs,i,fr,fr',s,s',h=>by
   simp only [sr,a7,bK] at h
   obtain⟨rfl,rfl⟩:=h;exact .nil
 |o::l,bs,rs,i,fr,fr',s,s',h=>by
  simp only [sr] at h
  cases hw:ik fr.env o.g with
  |true=>
   rw [hw] at h
   simp only [cT,aF] at h
   obtain⟨⟨v,lc,s1⟩,h1,h⟩:=h
   obtain⟨hc,h⟩:=bW h
   simp only [cU] at hc
   simp only [aF] at h
   obtain⟨fr1,h2,h⟩:=h
   exact .step hw h1 hc.1 (ib hc.2).symm h2 (jj.of h)
  |false=>
   rw [hw] at h
   simp only [cF,aF] at h
   obtain⟨fr1,h2,h⟩:=h
   exact .skip hw h2 (jj.of h)
inductive iW (Q:ck) (f:FuncId):SC→Fr→St→Ex→Fr→St→Prop
 |skip {fr:Fr} {s:St}:iW Q f .skip fr s .normal fr s
 |ret {fr:Fr} {s:St}:iW Q f .ret fr s .ret fr s
 |exit {id:Nat} {fr:Fr} {s:St}:iW Q f (.exit id) fr s (.exit id) fr s
 |seqN {a b:SC} {fr fr1 fr2:Fr} {s s1 s2:St} {x:Ex}:iW Q f a fr s .normal fr1 s1→iW Q f b fr1 s1 x fr2 s2→iW Q f (.seq a b) fr s x fr2 s2
 |seqX {a b:SC} {fr fr1:Fr} {s s1:St} {x:Ex}:iW Q f a fr s x fr1 s1→x≠ .normal→iW Q f (.seq a b) fr s x fr1 s1
 |cond {o:Operand} {a b:SC} {t:Bool} {fr fr1:Fr} {s s1:St} {x:Ex}:ev fr.env o=some (.bool t)→iW Q f (if t then a else b) fr s x fr1 s1→iW Q f (.cond o a b) fr s x fr1 s1
 |block {id:Nat} {b:SC} {fr fr1:Fr} {s s1:St} {x:Ex}:iW Q f b fr s x fr1 s1→iW Q f (.block id b) fr s (x.block id) fr1 s1
 |scope {b:SC} {fr fr1:Fr} {s s1:St} {x:Ex}:iW Q f b fr s x fr1 s1→iW Q f (.scope b) fr s x fr1 s1
 |loopN {b:SC} {fr fr1 fr2:Fr} {s s1 s2:St} {x:Ex}:iW Q f b fr s .normal fr1 s1→iW Q f (.loop b) fr1 s1 x fr2 s2→iW Q f (.loop b) fr s x fr2 s2
 |loopX {b:SC} {fr fr1:Fr} {s s1:St} {x:Ex}:iW Q f b fr s x fr1 s1→x≠ .normal→iW Q f (.loop b) fr s x fr1 s1
 |region {ops:List au} {fr fr1:Fr} {s s1:St}:nS Q f ops fr s fr1 s1→iW Q f (.region ops) fr s .normal fr1 s1
 |draw {ops:List au} {bs:List Nat} {fr fr1:Fr} {s s1:St}:jj Q f bs [] 0 ops fr s fr1 s1→iW Q f (.draw ops bs) fr s .normal fr1 s1
 |rfun {g:Operand} {ps:List Tmp} {a b:Code} {fr:Fr} {s s1:St} {h:FuncId} {first captured:List ai} {v:ai} {f':FuncId} {env':bq ai} {size':Nat} {ps':List Tmp} {a' b':Code} {p:Option Ex}:ev fr.env g=some (.func (.func h) first captured)→
  (lQ Q.P h&&(fr.env.all qT&&(eV a&&eV b)))=true→br Q h (first++(.yld s.next::captured)) (s.new (.loop f fr.env fr.size ps a b none)) v s1→s1.get [] s.next=some (.loop f' env' size' ps' a' b' p)→
  iW Q f (.rfun g ps a b) fr s (tM p) fr (s1.put s.next none)
theorem EV (n:Nat):aY n n=true:=by simp
theorem CS {e:bc} {c:Call} {g:FuncId×List ai} (h:callee e c=some g):lS e c=false:=by
 unfold callee at h
 unfold lS
 cases hc:c.callee with
 |builtin b=>rfl
 |invoke a b=>rfl
 |value x=>
  rw [hc] at h
  simp only [aF] at h
  obtain⟨v,hv,h⟩:=h
  simp only [hv]
  cases v<;>first|rfl|cases h
theorem aaD {e:bc} {c:Call} {g:Nat×List ai} (h:yieldee e c=some g):lS e c=true∧ ∀b,c.callee≠ .builtin b:=by
 unfold yieldee at h
 unfold lS
 cases hc:c.callee with
 |builtin b=>rw [hc] at h;cases h
 |invoke a b=>rw [hc] at h;cases h
 |value x=>
  rw [hc] at h
  simp only [aF] at h
  obtain⟨v,hv,h⟩:=h
  simp only [hv]
  refine⟨?_,fun b e=>by cases e⟩
  cases v<;>first|rfl|cases h
section
variable {Q:ck} {f:FuncId}
theorem R1 {all:Array Oper} {o:Oper} {mk:bj} {fr:Fr} {s:St} {x:ai×Loc×St} (h:dN Q f (nw all o) mk fr s=some x) (n:Nat):fp Q (cG Q (n+1)) f o mk fr s=some x:=by
 unfold dN at h
 unfold fp
 simp only [nw] at h
 cases hop:o.op<;>rw [hop] at h<;>simp only at h ⊢ <;>try exact h
 ·rename_i c
  cases hcl:c.callee<;>rw [hcl] at h<;>simp only at h ⊢
  case builtin=>exact h
  all_goals
   simp only [aF] at h
   obtain⟨g,hg,sp,hsp,v,hv,h⟩:=h
   injection h with h;subst h
   have:(cG Q (n+1)).call g.1 g.2 mk s=some (v,s):=by
    show jk Q (cG Q n) g.1 g.2 mk s=_
    unfold jk
    simp only [hsp,hv,ak]
   simp only [CS hg,cF,lf,hg,ak,this]
theorem akj {all:Array Oper}: ∀ {l:List Oper} {ops:List au} {fr fr':Fr} {s s':St},nS Q f ops fr s fr' s'→ops=l.map (nw all)→ ∃n,(cG Q n).ops f all [] l fr s=some (fr',s'):=by
 intro l ops fr fr' s s' h
 induction h generalizing l with
 |nil=>
  intro e
  cases l with
  |nil=>exact⟨1,rfl⟩
  |cons _ _=>cases e
 |step h1 _ ih=>
  intro e
  cases l with
  |nil=>cases e
  |cons p l=>
   simp only [fw,mQ] at e
   obtain⟨rfl,rfl⟩:=e
   obtain⟨n,hn⟩:=ih rfl
   refine⟨n+2,?_⟩
   show kz Q (cG Q (n+1)) f all [] (p::l) _ _=_
   have hn:=(lW Q (Nat.le_succ n)).ops _ _ _ _ _ _ _ hn
   rename_i fr fr1 _ s s1 _ _ _
   unfold tY at h1
   have hw:ik fr.env (nw all p).g=eJ all fr.env p:=we all _ p
   rw [hw] at h1
   simp only [kz]
   cases hb:eJ all fr.env p with
   |true=>
    rw [hb] at h1
    simp only [cT,aF] at h1 ⊢
    obtain⟨x,hx,fr2,hf,h1⟩:=h1
    injection h1 with h1
    simp only [bK] at h1
    obtain⟨rfl,rfl⟩:=h1
    exact⟨x,R1 hx n,fr2,hf,hn⟩
   |false=>
    rw [hb] at h1
    simp only [cF,aF] at h1 ⊢
    obtain⟨fr2,hf,h1⟩:=h1
    injection h1 with h1
    simp only [bK] at h1
    obtain⟨rfl,rfl⟩:=h1
    exact⟨fr2,hf,hn⟩
 |call hw ho hnb hcal hrun hp _ ih=>
  intro e
  cases l with
  |nil=>cases e
  |cons p l=>
   simp only [fw,mQ] at e
   obtain⟨rfl,rfl⟩:=e
   obtain⟨n,hn⟩:=ih rfl
   obtain⟨m,hm⟩:=hrun
   refine⟨max n m+1,?_⟩
   show kz Q (cG Q (max n m)) f all [] (p::l) _ _=_
   have hn:=(lW Q (ri n m)).ops _ _ _ _ _ _ _ hn
   have hm:=(lW Q (rj n m)).call _ _ _ _ _ hm
   rename_i c fr fr1 fr2 s s1 s2 g args v _ _ _
   have hw:eJ all fr.env p=true:=by rw [←we all];exact hw
   simp only [kz]
   rw [hw]
   simp only [cT,aF]
   have ho:p.op= .call c:=ho
   refine⟨(v,fr.loc,s1),?_,fr1,hp,hn⟩
   unfold fp
   rw [ho]
   simp only
   have hcall:lf (cG Q (max n m)) c [] fr s=some (v,fr.loc,s1):=by simp only [lf,hcal,ak,hm]
   cases hcl:c.callee with
   |builtin b=>exact absurd hcl (hnb b)
   |_=>simp only [CS hcal,cF];exact hcall
 |yld hw ho hcal hrun hp _ ih=>
  intro e
  cases l with
  |nil=>cases e
  |cons p l=>
   simp only [fw,mQ] at e
   obtain⟨rfl,rfl⟩:=e
   obtain⟨n,hn⟩:=ih rfl
   obtain⟨m,hm⟩:=hrun
   refine⟨max n m+1,?_⟩
   show kz Q (cG Q (max n m)) f all [] (p::l) _ _=_
   have hn:=(lW Q (ri n m)).ops _ _ _ _ _ _ _ hn
   have hm:=TE (lW Q (rj n m)) hm
   rename_i c fr fr1 fr2 s s1 s2 g args v _ _ _
   have hw:eJ all fr.env p=true:=by rw [←we all];exact hw
   simp only [kz]
   rw [hw]
   simp only [cT,aF]
   have ho:p.op= .call c:=ho
   refine⟨(v,fr.loc,s1),?_,fr1,hp,hn⟩
   unfold fp
   rw [ho]
   simp only
   have hcall:oG (cG Q (max n m)) c [] fr s=some (v,fr.loc,s1):=by simp only [oG,hcal,ak,hm]
   obtain⟨hy,hnb⟩:=aaD hcal
   cases hcl:c.callee with
   |builtin b=>exact absurd hcl (hnb b)
   |_=>simp only [hy,cT];exact hcall
theorem akk {all:Array Oper} {ops:List au} {bs:List Nat} {rs:List dQ} {i:Nat} {fr fr':Fr} {s s':St} (h:jj Q f bs rs i ops fr s fr' s'): ∀ {l:List Oper},ops=l.map (nw all)→ ∃n,(cG Q n).draw f all bs [] rs i l fr s=some (fr',s'):=by
 induction h with
 |nil=>
  intro l e
  cases l with
  |nil=>exact⟨1,rfl⟩
  |cons _ _=>cases e
 |skip hw h1 _ ih=>
  intro l e
  cases l with
  |nil=>cases e
  |cons p l=>
   simp only [fw,mQ] at e
   obtain⟨rfl,rfl⟩:=e
   obtain⟨n,hn⟩:=ih rfl
   refine⟨n+1,?_⟩
   have hw:=(we all _ p).symm.trans hw
   show lh Q (cG Q n) f all _ [] _ _ (p::l) _ _=_
   simp only [lh]
   rw [hw]
   simp only [cF,aF]
   exact⟨_,h1,hn⟩
 |step hw h1 hf hc h2 _ ih=>
  intro l e
  cases l with
  |nil=>cases e
  |cons p l=>
   simp only [fw,mQ] at e
   obtain⟨rfl,rfl⟩:=e
   obtain⟨n,hn⟩:=ih rfl
   refine⟨n+2,?_⟩
   have hw:=(we all _ p).symm.trans hw
   show lh Q (cG Q (n+1)) f all _ [] _ _ (p::l) _ _=_
   have hn:=(lW Q (Nat.le_succ n)).draw _ _ _ _ _ _ _ _ _ _ hn
   simp only [lh]
   rw [hw]
   simp only [cT,aF]
   refine⟨_,R1 h1 n,?_⟩
   simp only [nw] at hf h2 hn
   simp only
   rw [hf,hc,EV]
   simp only [gK,cT,aF]
   exact⟨_,h2,hn⟩
 |call hw ho hnb hcal hrun hf hc h2 _ ih=>
  intro l e
  cases l with
  |nil=>cases e
  |cons p l=>
   simp only [fw,mQ] at e
   obtain⟨rfl,rfl⟩:=e
   rename_i bs rs i c fr fr1 fr2 s s1 s2 g args v _
   obtain⟨n,hn⟩:=ih rfl
   obtain⟨m,hm⟩:=hrun
   refine⟨max n m+1,?_⟩
   have hw:=(we all _ p).symm.trans hw
   show lh Q (cG Q (max n m)) f all _ [] _ _ (p::l) _ _=_
   have hn:=(lW Q (ri n m)).draw _ _ _ _ _ _ _ _ _ _ hn
   have hm:=(lW Q (rj n m)).call _ _ _ _ _ hm
   have ho:p.op= .call c:=ho
   simp only [lh]
   rw [hw]
   simp only [cT,aF]
   refine⟨(v,fr.loc,s1),?_,?_⟩
   ·unfold fp
    rw [ho]
    simp only
    have hcall:lf (cG Q (max n m)) c (iU (bs.headD 0) rs []) fr ⟨s.heap,s.next,s.next,s.ci⟩=some (v,fr.loc,s1):=by simp only [lf,hcal,ak,hm]
    cases hcl:c.callee with
    |builtin b=>exact absurd hcl (hnb b)
    |_=>simp only [CS hcal,cF];exact hcall
   ·simp only [nw] at hf h2 hn
    simp only
    rw [hf,hc,EV]
    simp only [gK,cT,aF]
    exact⟨_,h2,hn⟩
theorem VX {id:Nat} {ops:Array Oper}:cy (.region id ops false)= .region (ops.toList.map (nw ops)):=by rw [cy]
theorem VW {id:Nat} {ops:Array Oper}:cy (.region id ops true)=bif kE ops 0 ops.toList (Region.before ops).toList then .draw (ops.toList.map (nw ops)) (Region.before ops).toList else .bad:=by rw [cy]
theorem nf (c:Code):match cy c with
 | .skip=>c= .skip∨ ∃l,c= .label l
 | .ret=>c= .ret
 | .exit id=>c= .exit id
 | .seq a b=> ∃x y,c= .seq x y∧cy x=a∧cy y=b
 | .cond o a b=> ∃x y,c= .cond o x y∧cy x=a∧cy y=b
 | .block id b=> ∃x,c= .block id x∧cy x=b
 | .scope b=> ∃x,c= .scope x∧cy x=b
 | .loop b=> ∃x,c= .loop x∧cy x=b
 | .region l=> ∃id ops,c= .region id ops false∧ops.toList.map (nw ops)=l
 | .draw l bs=> ∃id ops,c= .region id ops true∧ops.toList.map (nw ops)=l∧(Region.before ops).toList=bs∧kE ops 0 ops.toList (Region.before ops).toList=true
 | .rfun g l a b=> ∃ps,c= .rangeFunc g ps a b∧ps.toList=l
 | .bad=>True:=by
 cases c with
 |region id ops d=>
  cases d with
  |false=>rw [VX];exact⟨id,ops,rfl,rfl⟩
  |true=>
   rw [VW]
   cases h:kE ops 0 ops.toList (Region.before ops).toList with
   |false=>trivial
   |true=>exact⟨id,ops,rfl,rfl,rfl,h⟩
 |skip=>exact .inl rfl
 |label l=>exact .inr ⟨l,rfl⟩
 |ret=>rfl
 |exit id=>rfl
 |seq a b=>exact⟨a,b,rfl,rfl,rfl⟩
 |cond x a b=>exact⟨a,b,rfl,rfl,rfl⟩
 |block id b=>exact⟨b,rfl,rfl⟩
 |scope b=>exact⟨b,rfl,rfl⟩
 |loop b=>exact⟨b,rfl,rfl⟩
 |rangeFunc g ps a b=>exact⟨ps,rfl,rfl⟩
 |_=>trivial
theorem Fo {sc:SC} {fr fr':Fr} {s s':St} {x:Ex} (h:iW Q f sc fr s x fr' s'): ∀ {c:Code},cy c=sc→ ∃n,(cG Q n).code f c [] fr s=some (x,fr',s'):=by
 induction h with
 |skip=>
  intro c e
  have:=nf c
  rw [e] at this
  rcases this with rfl|⟨l,rfl⟩<;>exact⟨1,rfl⟩
 |ret=>intro c e;have:=nf c;rw [e] at this;simp only at this;subst this;exact⟨1,rfl⟩
 |exit=>intro c e;have:=nf c;rw [e] at this;simp only at this;subst this;exact⟨1,rfl⟩
 |seqN _ _ ih1 ih2=>
  intro c e
  have:=nf c
  rw [e] at this
  obtain⟨x,y,rfl,h1,h2⟩:=this
  obtain⟨n,hn⟩:=ih1 h1
  obtain⟨m,hm⟩:=ih2 h2
  refine⟨max n m+1,?_⟩
  show((cG Q (max n m)).code f x [] _ _).bind (mI (cG Q (max n m)) f y [])=_
  rw [(lW Q (ri n m)).code _ _ _ _ _ _ hn]
  exact(lW Q (rj n m)).code _ _ _ _ _ _ hm
 |seqX _ hx ih1=>
  intro c e
  have:=nf c
  rw [e] at this
  obtain⟨a,b,rfl,h1,h2⟩:=this
  obtain⟨n,hn⟩:=ih1 h1
  refine⟨n+1,?_⟩
  show((cG Q n).code f a [] _ _).bind (mI (cG Q n) f b [])=_
  rw [hn]
  rename_i x _
  cases x
  ·exact absurd rfl hx
  ·rfl
  ·rfl
 |cond hv _ ih=>
  intro c e
  have:=nf c
  rw [e] at this
  obtain⟨a,b,rfl,h1,h2⟩:=this
  rename_i t _ _ _ _ _ _
  obtain⟨n,hn⟩:=ih (c:=if t then a else b) (by cases t<;>simp [h1,h2])
  refine⟨n+1,?_⟩
  show(ev _ _).bind (uI (cG Q n) f a b [] _ _)=_
  rw [hv]
  cases t<;>exact hn
 |block _ ih=>
  intro c e
  have:=nf c
  rw [e] at this
  obtain⟨b,rfl,h1⟩:=this
  obtain⟨n,hn⟩:=ih h1
  refine⟨n+1,?_⟩
  show((cG Q n).code f b [] _ _).bind (fun x=>some (na _ x))=_
  rw [hn]
  rename_i id _ _ _ _ _ x _
  cases x
  ·rfl
  ·simp only [ak,na,Ex.block]
   generalize aY _ _=q
   cases q<;>rfl
  ·rfl
 |scope _ ih=>
  intro c e
  have:=nf c
  rw [e] at this
  obtain⟨b,rfl,h1⟩:=this
  obtain⟨n,hn⟩:=ih h1
  exact⟨n+1,hn⟩
 |loopN _ _ ih1 ih2=>
  intro c e
  have:=nf c
  rw [e] at this
  obtain⟨b,rfl,h1⟩:=this
  obtain⟨n,hn⟩:=ih1 h1
  obtain⟨m,hm⟩:=ih2 (c:=.loop b) (by rw [cy,h1])
  refine⟨max n m+1,?_⟩
  show((cG Q (max n m)).code f b [] _ _).bind (mI (cG Q (max n m)) f (.loop b) [])=_
  rw [(lW Q (ri n m)).code _ _ _ _ _ _ hn]
  exact(lW Q (rj n m)).code _ _ _ _ _ _ hm
 |loopX _ hx ih1=>
  intro c e
  have:=nf c
  rw [e] at this
  obtain⟨b,rfl,h1⟩:=this
  obtain⟨n,hn⟩:=ih1 h1
  refine⟨n+1,?_⟩
  show((cG Q n).code f b [] _ _).bind (mI (cG Q n) f (.loop b) [])=_
  rw [hn]
  rename_i x _
  cases x
  ·exact absurd rfl hx
  ·rfl
  ·rfl
 |region hl=>
  intro c e
  have:=nf c
  rw [e] at this
  obtain⟨id,ops,rfl,h1⟩:=this
  obtain⟨n,hn⟩:=akj (all:=ops) (l:=ops.toList) hl h1.symm
  refine⟨n+1,?_⟩
  show((cG Q n).ops f ops [] ops.toList _ _).bind (fun x=>some (Ex.normal,x.1,x.2))=_
  rw [hn];rfl
 |draw hl=>
  intro c e
  have:=nf c
  rw [e] at this
  obtain⟨id,ops,rfl,h1,h2,h3⟩:=this
  subst h1;subst h2
  obtain⟨n,hn⟩:=akk hl (l:=ops.toList) rfl
  refine⟨n+1,?_⟩
  show(bif kE ops 0 ops.toList (Region.before ops).toList then(cG Q n).draw f ops (Region.before ops).toList [] [] 0 ops.toList _ _ else none).bind (fun x=>some (Ex.normal,x.1,x.2))=_
  rw [h3,cT,hn];rfl
 |rfun hv hb hr hg=>
  intro c e
  have:=nf c
  rw [e] at this
  obtain⟨ps,rfl,rfl⟩:=this
  obtain⟨n,hn⟩:=hr
  refine⟨n+1,?_⟩
  show(ev _ _).bind (qX Q (cG Q n) f ps.toList _ _ [] _ _)=_
  rw [hv]
  simp only [ak,qX]
  rw [hb]
  simp only [cT,hn,ak,tR,hg]
end
def W (Q:ck) (f:FuncId) (c:SC) (fr:Fr) (s:St) (K:Ex→Fr→St→Prop):Prop:= ∃x fr' s',iW Q f c fr s x fr' s'∧K x fr' s'
def WL (Q:ck) (f:FuncId) (l:List au) (fr:Fr) (s:St) (K:Fr→St→Prop):Prop:= ∃fr' s',nS Q f l fr s fr' s'∧K fr' s'
section
variable {Q:ck} {f:FuncId} {fr:Fr} {s:St} {K:Ex→Fr→St→Prop}
def Ex.next (K:Ex→Fr→St→Prop) (N:Fr→St→Prop):Ex→Fr→St→Prop
 | .normal=>N
 |x=>K x
theorem W.mono {c:SC} {K':Ex→Fr→St→Prop} (h:W Q f c fr s K) (hk: ∀x fr s,K x fr s→K' x fr s):W Q f c fr s K':=let⟨x,fr',s',h1,h2⟩:=h;⟨x,fr',s',h1,hk _ _ _ h2⟩
theorem W.skip (h:K .normal fr s):W Q f .skip fr s K:=⟨_,_,_,.skip,h⟩
theorem W.ret (h:K .ret fr s):W Q f .ret fr s K:=⟨_,_,_,.ret,h⟩
theorem W.exit {id:Nat} (h:K (.exit id) fr s):W Q f (.exit id) fr s K:=⟨_,_,_,.exit,h⟩
theorem W.seq {a b:SC} (h:W Q f a fr s (Ex.next K fun fr s=>W Q f b fr s K)):W Q f (.seq a b) fr s K:=by
 obtain⟨x,fr1,s1,h1,h2⟩:=h
 cases x with
 |normal=>obtain⟨y,fr2,s2,h3,h4⟩:=h2;exact⟨y,fr2,s2,.seqN h1 h3,h4⟩
 |exit i=>exact⟨_,_,_,.seqX h1 (by simp),h2⟩
 |ret=>exact⟨_,_,_,.seqX h1 (by simp),h2⟩
theorem W.cond {o:Operand} {a b:SC} {t:Bool} (hv:ev fr.env o=some (.bool t)) (h:W Q f (if t then a else b) fr s K):W Q f (.cond o a b) fr s K:=let⟨x,fr1,s1,h1,h2⟩:=h;⟨x,fr1,s1,.cond hv h1,h2⟩
theorem W.block {id:Nat} {b:SC} (h:W Q f b fr s fun x=>K (x.block id)):W Q f (.block id b) fr s K:=let⟨_x,fr1,s1,h1,h2⟩:=h;⟨_,fr1,s1,.block h1,h2⟩
theorem W.scope {b:SC} (h:W Q f b fr s K):W Q f (.scope b) fr s K:=let⟨x,fr1,s1,h1,h2⟩:=h;⟨x,fr1,s1,.scope h1,h2⟩
theorem W.loop1 {b:SC} (h:W Q f b fr s (Ex.next K fun fr s=>W Q f (.loop b) fr s K)):W Q f (.loop b) fr s K:=by
 obtain⟨x,fr1,s1,h1,h2⟩:=h
 cases x with
 |normal=>obtain⟨y,fr2,s2,h3,h4⟩:=h2;exact⟨y,fr2,s2,.loopN h1 h3,h4⟩
 |exit i=>exact⟨_,_,_,.loopX h1 (by simp),h2⟩
 |ret=>exact⟨_,_,_,.loopX h1 (by simp),h2⟩
theorem W.region {ops:List au} (h:WL Q f ops fr s fun fr s=>K .normal fr s):W Q f (.region ops) fr s K:=let⟨fr1,s1,h1,h2⟩:=h;⟨_,fr1,s1,.region h1,h2⟩
theorem W.draw {ops:List au} {bs:List Nat} {fr1:Fr} {s1:St} (h:sr Q f bs [] 0 ops fr s=some (fr1,s1)) (hk:K .normal fr1 s1):W Q f (.draw ops bs) fr s K:=⟨_,_,_,.draw (.of h),hk⟩
theorem W.rfun {g:Operand} {ps:List Tmp} {a b:Code} {s1:St} {h:FuncId} {first captured:List ai} {v:ai} {f':FuncId} {env':bq ai} {size':Nat} {ps':List Tmp} {a' b':Code} {p:Option Ex} (hv:ev fr.env g=some (.func (.func h) first captured))
 (hb:(lQ Q.P h&&(fr.env.all qT&&(eV a&&eV b)))=true) (hr:br Q h (first++(.yld s.next::captured)) (s.new (.loop f fr.env fr.size ps a b none)) v s1) (hg:s1.get [] s.next=some (.loop f' env' size' ps' a' b' p))
 (hk:K (tM p) fr (s1.put s.next none)):W Q f (.rfun g ps a b) fr s K:=⟨_,_,_,.rfun hv hb hr hg,hk⟩
variable {N:Fr→St→Prop}
theorem WL.yld {o:au} {c:Call} {l:List au} {fr1:Fr} {s1:St} {n:Nat} {args:List ai} {v:ai} (hw:ik fr.env o.g=true) (ho:o.op= .call c)
 (hc:yieldee fr.env c=some (n,args)) (hr:pH Q n args s v s1) (hp:d7 fr o.dst v fr.loc=some fr1) (hk:WL Q f l fr1 s1 N):WL Q f (o::l) fr s N:=
 let⟨fr2,s2,h1,h2⟩:=hk;⟨fr2,s2,.yld hw ho hc hr hp h1,h2⟩
theorem pH.of {n:Nat} {args:List ai} {s':St} {env env':bq ai} {size:Nat} {ps:List Tmp} {a b:Code} {ca cb:SC} (h0:s.get [] n=some (.loop f env size ps a b none)) (h1:ps.all (fun t=>bP t size)=true) (h2:xU ps args env=some env') (ha:cy a=ca) (hb:cy b=cb)
 (h:W Q f ca ⟨env',size,[]⟩ (s.put n none) fun x fr s1=>x= .normal∧W Q f cb fr s1 fun x _ s2=>x= .normal∧s'=s2.put n (some (.loop f env size ps a b none))):pH Q n args s (.bool true) s':=by
 obtain⟨x,fr1,s1,r1,rfl,y,fr2,s2,r2,rfl,rfl⟩:=h
 obtain⟨k,hk⟩:=Fo r1 ha
 obtain⟨m,hm⟩:=Fo r2 hb
 have hk:=(lW Q (ri k m)).code _ _ _ _ _ _ hk
 have hm:=(lW Q (rj k m)).code _ _ _ _ _ _ hm
 refine⟨max k m,?_⟩
 unfold kR
 simp only [h0,ak,uc,h1,cT,h2,hk,sN,hm,ub]
theorem WL.nil (h:N fr s):WL Q f [] fr s N:=⟨_,_,.nil,h⟩
theorem Fj: ∀ {a b:List au} {fr fr1 fr2:Fr} {s s1 s2:St},qc Q f a fr s=some (fr1,s1)→nS Q f b fr1 s1 fr2 s2→nS Q f (a++b) fr s fr2 s2
 | [],b,fr,fr1,fr2,s,s1,s2,h,h'=>by
   simp only [qc,a7,bK] at h
   obtain⟨rfl,rfl⟩:=h;exact h'
 |o::a,b,fr,fr1,fr2,s,s1,s2,h,h'=>by
  simp only [qc,aF] at h
  obtain⟨⟨x,y⟩,h1,h2⟩:=h
  exact .step h1 (Fj h2 h')
theorem WL.run {ops:List au} {fr1:Fr} {s1:St} (h:qc Q f ops fr s=some (fr1,s1)) (hk:N fr1 s1):WL Q f ops fr s N:=
 ⟨fr1,s1,by have:=Fj h .nil;rwa [im] at this,hk⟩
theorem WL.app {a b:List au} {fr1:Fr} {s1:St} (h:qc Q f a fr s=some (fr1,s1)) (hk:WL Q f b fr1 s1 N):WL Q f (a++b) fr s N:=
 let⟨fr2,s2,h1,h2⟩:=hk;⟨fr2,s2,Fj h h1,h2⟩
theorem WL.call {o:au} {c:Call} {l:List au} {fr1:Fr} {s1:St} {g:FuncId} {args:List ai} {v:ai} (hw:ik fr.env o.g=true) (ho:o.op= .call c) (hn: ∀b,c.callee≠ .builtin b)
 (hc:callee fr.env c=some (g,args)) (hr:br Q g args s v s1) (hp:d7 fr o.dst v fr.loc=some fr1) (hk:WL Q f l fr1 s1 N):WL Q f (o::l) fr s N:=
 let⟨fr2,s2,h1,h2⟩:=hk;⟨fr2,s2,.call hw ho hn hc hr hp h1,h2⟩
noncomputable def dg (n:Nat) (args:List ai):Fr:=⟨cM 0 args,bif cr args.length n then n else args.length,[]⟩
theorem br.of {fn:Func} {c:Code} {sc:SC} {args:List ai} {v:ai} {s':St} (hf:Q.P.funcs[f]? =some fn) (hb:fn.body=some c) (hsp:Q.spec f=none) (hcc:cy c=sc)
 (h:W Q f sc (dg fn.ntmps args) s fun x fr' s1=>s1=s'∧(x= .normal∨x= .ret)∧ ∃vs,gh Q [] fr' s1 fn.results.toList=some vs∧jw vs=v) (hH:Q.specH f=none:=by rfl) (hW:Q.specW f=none:=by rfl):br Q f args s v s':=by
 obtain⟨x,fr',s1,h1,rfl,h3,vs,h4,h5⟩:=h
 obtain⟨n,hn⟩:=Fo h1 hcc
 refine⟨n+1,?_⟩
 show jk Q (cG Q n) f args [] s=_
 unfold jk
 rw [hsp]
 simp only [hH,hW,hf,ak,hb]
 have hn:(cG Q n).code f c [] ⟨cM 0 args,bif cr args.length fn.ntmps then fn.ntmps else args.length,[]⟩ s=some (x,fr',s1):=hn
 rw [hn]
 rcases h3 with rfl|rfl<;>simp only [ak,nh,h4,h5]
theorem br.specH {sp:List ai→Rd} {args:List ai} {v:ai} (hsp:Q.spec f=none) (hH:Q.specH f=some sp) (h:mF (s.get []) (sp args)=some v):br Q f args s v s:=by
 refine⟨1,?_⟩
 show jk Q (cG Q 0) f args [] s=_
 unfold jk
 rw [hsp]
 simp only [hH,h,ak]
theorem br.specW {sp:List ai→Option s9} {args:List ai} {n:Nat} {g:List ai→Option (List ai)} {cs cs':List ai} (hsp:Q.spec f=none) (hH:Q.specH f=none) (hW:Q.specW f=some sp) (h1:sp args=some (some (n,g))) (h2:s.get [] n=some (.cells cs)) (h3:g cs=some cs'):
 br Q f args s (.tup []) (s.put n (some (.cells cs'))):=by
 refine⟨1,?_⟩
 show jk Q (cG Q 0) f args [] s=_
 unfold jk
 rw [hsp]
 simp only [hH,hW,h1,h2,ak,p8,vR,h3]
theorem br.specW0 {sp:List ai→Option s9} {args:List ai} (hsp:Q.spec f=none) (hH:Q.specH f=none) (hW:Q.specW f=some sp) (h1:sp args=some none):br Q f args s (.tup []) s:=by
 refine⟨1,?_⟩
 show jk Q (cG Q 0) f args [] s=_
 unfold jk
 rw [hsp]
 simp only [hH,hW,h1,ak,p8]
end
def dZ (g:ai→Option ai):List ai→Option (List ai)
 | []=>some []
 |v::l=>(g v).bind fun a=>(dZ g l).bind fun r=>some (a::r)
noncomputable def cR (h:bq bE):Nat→ai→Option ai
 |0,_=>none
 |k+1,v=>match v with
  | .agg cs=>(dZ (cR h k) cs).bind fun r=>some (.agg r)
  | .tup cs=>(dZ (cR h k) cs).bind fun r=>some (.tup r)
  | .list sz xs r=>(dZ (cR h k) xs).bind fun ys=>some (.list sz ys (match r with| .own _=>.no|r=>r))
  | .arr sz n off len _=>match h.get n with
    |some (.cells cs)=>(cut cs off (len*sz)).bind fun c=>(dZ (cR h k) c).bind fun c'=>(ie (!aY sz 1) sz len c').bind fun xs=>some (.list sz xs .no)
    |_=>none
  | .bool b=>some (.bool b)
  | .int k n=>some (.int k n)
  | .str s=>some (.str s)
  | .nilp=>some .nilp
  | .nils=>some .nils
  | .nilm=>some .nilm
  | .nilf=>some .nilf
  | .nili=>some .nili
  |_=>none
theorem tw {g g':ai→Option ai} (hg: ∀v u,g v=some u→g' v=some u): ∀ {l r:List ai},dZ g l=some r→dZ g' l=some r
 | [],_,h=>h
 |v::l,r,h=>by
  simp only [dZ,aF] at h ⊢
  obtain⟨a,h1,r',h2,h3⟩:=h
  exact⟨a,hg _ _ h1,r',tw hg h2,h3⟩
theorem tx (h:bq bE): ∀(k:Nat) (v u:ai),cR h k v=some u→cR h (k+1) v=some u
 |0,_,_,e=>by cases e
 |k+1,v,u,e=>by
  have ih:=tx h k
  cases v<;>simp only [cR] at e ⊢ <;>first
   |exact e
   |(simp only [aF] at e ⊢
     obtain⟨r,h1,h2⟩:=e
     exact⟨r,tw ih h1,h2⟩)
   |skip
  split at e
  ·rename_i hcs
   simp only [aF] at e ⊢
   obtain⟨c,h1,c',h2,h3⟩:=e
   exact⟨c,h1,c',tw ih h2,h3⟩
  ·cases e
theorem yP (h:bq bE) {k m:Nat} (hk:k≤m) {v u:ai} (e:cR h k v=some u):cR h m v=some u:=by
 induction m with
 |zero=>have:k=0:=by omega
        subst this;exact e
 |succ m ih=>
  by_cases hm:k=m+1
  ·subst hm;exact e
  ·exact tx h m v u (ih (by omega))
def jB (h:bq bE) (v u:ai):Prop:= ∃k,cR h k v=some u
theorem jB.unique {h:bq bE} {v u u':ai} (a:jB h v u) (b:jB h v u'):u=u':=by
 obtain⟨k,hk⟩:=a
 obtain⟨m,hm⟩:=b
 have h1:=yP h (ri k m) hk
 have h2:=yP h (rj k m) hm
 rw [h1] at h2;exact Option.some.inj h2
noncomputable def wW (h:bq bE) (v:ai):Option ai:=by
 classical exact if e: ∃u,jB h v u then some e.choose else none
theorem XF {h:bq bE} {v u:ai} (e:jB h v u):wW h v=some u:=by
 unfold wW
 rw [dif_pos ⟨u,e⟩]
 exact congrArg some ((Exists.choose_spec (p:=fun u=>jB h v u) ⟨u,e⟩).unique e)
theorem XG {h:bq bE} {v u:ai} (e:wW h v=some u):jB h v u:=by
 unfold wW at e
 split at e
 ·rename_i x
  injection e with e;subst e
  exact x.choose_spec
 ·cases e
theorem yO {g:ai→Option ai}: ∀ {l r:List ai},dZ g l=some r→ ∀(i:Nat) u,r[i]? =some u→ ∃v,l[i]? =some v∧g v=some u
 | [],r,h,i,u,hi=>by
   simp only [dZ,a7] at h;subst h;simp at hi
 |v::l,r,h,i,u,hi=>by
  simp only [dZ,aF,a7] at h
  obtain⟨a,h1,r',h2,rfl⟩:=h
  cases i with
  |zero=>simp at hi;subst hi;exact⟨v,by simp,h1⟩
  |succ i=>simp at hi;obtain⟨x,h3,h4⟩:=yO h2 i u hi;exact⟨x,by simpa using h3,h4⟩
theorem CA {g:ai→Option ai}: ∀ {l r:List ai},dZ g l=some r→r.length=l.length
 | [],r,h=>by simp only [dZ,a7] at h;subst h;rfl
 |v::l,r,h=>by
  simp only [dZ,aF,a7] at h
  obtain⟨a,h1,r',h2,rfl⟩:=h
  simp [CA h2]
theorem CC {h:bq bE} {k:Nat} {v u:ai} (e:cR h k v=some u) (hs:v.scal=true):u.scal=true:=by
 cases k with
 |zero=>cases e
 |succ k=>
  cases v<;>simp only [cR] at e<;>first
   |(simp [ai.scal] at hs;done)
   |(injection e with e;subst e;rfl)
   |(cases e;done)
   |(simp only [aF,a7] at e;obtain⟨_,_,rfl⟩:=e;rfl)
   |(split at e
     ·simp only [aF,a7] at e;obtain⟨_,_,_,_,_,_,rfl⟩:=e;rfl
     ·cases e)
theorem HP {h:bq bE} {k:Nat} {v u:ai} (e:cR h k v=some u): ∃m,dZ (cR h m) v.cells=some u.cells:=by
 cases k with
 |zero=>cases e
 |succ k=>
  by_cases hv: ∃cs,v= .agg cs
  ·obtain⟨cs,rfl⟩:=hv
   simp only [cR,aF,a7] at e
   obtain⟨r,h1,rfl⟩:=e
   exact⟨k,h1⟩
  ·have hc:v.cells=[v]:=by cases v<;>first|rfl|exact absurd ⟨_,rfl⟩ hv
   have hu:u.cells=[u]:=by
    cases v<;>simp only [cR] at e<;>first
     |exact absurd ⟨_,rfl⟩ hv
     |(injection e with e;subst e;rfl)
     |(cases e;done)
     |(simp only [aF,a7] at e;obtain⟨_,_,rfl⟩:=e;rfl)
     |(split at e
       ·simp only [aF,a7] at e;obtain⟨_,_,_,_,_,_,rfl⟩:=e;rfl
       ·cases e)
   refine⟨k+1,?_⟩
   rw [hc,hu]
   simp only [dZ,e,ak]
theorem HO {h:bq bE} {k:Nat}: ∀ {xs ys:List ai},dZ (cR h k) xs=some ys→ ∃m,dZ (cR h m) (bO xs)=some (bO ys)
 | [],ys,e=>by simp only [dZ,a7] at e;subst e;exact⟨0,rfl⟩
 |x::xs,ys,e=>by
  simp only [dZ,aF,a7] at e
  obtain⟨a,h1,r,h2,rfl⟩:=e
  obtain⟨m1,h3⟩:=HP h1
  obtain⟨m2,h4⟩:=HO h2
  refine⟨max m1 m2,?_⟩
  simp only [bO]
  have h3:=tw (g':=cR h (max m1 m2)) (fun v u e=>yP h (ri _ _) e) h3
  have h4:=tw (g':=cR h (max m1 m2)) (fun v u e=>yP h (rj _ _) e) h4
  clear h1 h2
  generalize x.cells=c at h3
  generalize a.cells=d at h3
  induction c generalizing d with
  |nil=>simp only [dZ,a7] at h3;subst h3;simpa using h4
  |cons v c ih=>
   simp only [dZ,aF,a7] at h3
   obtain⟨u,h5,r',h6,rfl⟩:=h3
   have:=ih _ h6
   simp only [List.cons_append,dZ,h5,this,ak]
theorem HU {h:bq bE}: ∀ {k:Nat} {v u:ai},bM v=true→cR h k v=some u→u=v
 |0,_,_,_,e=>by cases e
 |k+1,v,u,hp,e=>by
  have hL: ∀ {l r:List ai},pures l=true→dZ (cR h k) l=some r→r=l:=by
   intro l
   induction l with
   |nil=>intro r _ e;simp only [dZ,a7] at e;exact e.symm
   |cons v l ih=>
    intro r hp e
    simp only [pures,cU] at hp
    simp only [dZ,aF,a7] at e
    obtain⟨a,h1,r',h2,rfl⟩:=e
    rw [HU hp.1 h1,ih hp.2 h2]
  cases v<;>simp only [cR] at e<;>first
   |(injection e with e;exact e.symm)
   |(cases e;done)
   |(simp [bM] at hp;done)
   |(simp only [bM] at hp
     simp only [aF,a7] at e
     obtain⟨r,h1,rfl⟩:=e
     rw [hL hp h1])
   |skip
  rename_i sz xs r
  simp only [bM,cU] at hp
  simp only [aF,a7] at e
  obtain⟨ys,h1,rfl⟩:=e
  rw [hL hp.1 h1]
  cases r<;>first|rfl|(simp at hp)
def rr (G:Gh) (h:bq bE) (b o:Nat) (u:ai):Prop:= ∃n a cs i,h.get n=some (.cells cs)∧G.at_ n=some a∧a.block=b∧o=a.off+i∧cs[i]? =some u
theorem rr.unique {G:Gh} {h:bq bE} {w:World} (wr:WR G h w) {b o:Nat} {u u':ai} (x:rr G h b o u) (y:rr G h b o u'):u=u':=by
 obtain⟨n,a,cs,i,h1,h2,h3,h4,h5⟩:=x
 obtain⟨m,c,ds,j,g1,g2,g3,g4,g5⟩:=y
 have e:n=m:=wr.sep n m a c (by rw [h1];simp) (by rw [g1];simp) h2 g2 (by rw [h3,g3])
 subst e
 rw [h1] at g1;injection g1 with g1;injection g1 with g1;subst g1
 rw [h2] at g2;injection g2 with g2;subst g2
 have:i=j:=by omega
 subst this
 rw [h5] at g5;exact Option.some.inj g5
noncomputable def pK (G:Gh) (h:bq bE) (b o:Nat):Option ai:=by
 classical exact(G.ro b o).or (if e: ∃u,rr G h b o u then some e.choose else none)
theorem Vp {G:Gh} {h:bq bE} {b o:Nat} {u:ai} (e:G.ro b o=some u):pK G h b o=some u:=by simp [pK,e]
theorem Vo {G:Gh} {h:bq bE} {w:World} (wr:WR G h w) {b o:Nat} {u:ai} (e:rr G h b o u):pK G h b o=some u:=by
 have h0:G.ro b o=none:=by
  cases e':G.ro b o with
  |none=>rfl
  |some v=>
   obtain⟨n,a,cs,i,h1,h2,h3,h4,h5⟩:=e
   have:=wr.apart n _ a o v h1 h2 (by rw [h3];exact e')
   cases this.1
 unfold pK
 rw [h0,rl,dif_pos ⟨u,e⟩]
 exact congrArg some (rr.unique wr (Exists.choose_spec (p:=fun u=>rr G h b o u) ⟨u,e⟩) e)
theorem GM {G:Gh} {h:bq bE} {b o:Nat} {u:ai} (e:pK G h b o=some u):G.ro b o=some u∨rr G h b o u:=by
 unfold pK at e
 cases e':G.ro b o with
 |some v=>rw [e'] at e;simp at e;exact .inl (by rw [e])
 |none=>
  rw [e',rl] at e
  split at e
  ·rename_i x
   injection e with e;subst e
   exact .inr x.choose_spec
  ·cases e
noncomputable def Gh.froze (G G1:Gh) (h1:bq bE):Gh where
 at_:=G.at_
 ro b o:=(G.ro b o).or ((pK G1 h1 b o).bind (wW h1))
 dim:=G.dim
section
variable {G1 G2:Gh} {h1:bq bE}
theorem thaw (hro: ∀b o u u',pK G1 h1 b o=some u→jB h1 u u'→G2.ro b o=some u') {w:World} (wr:WR G1 h1 w): ∀(k:Nat) {v u:ai} {x:Value},VR G1 v x→cR h1 k v=some u→VR G2 u x
 |0,_,_,_,_,e=>by cases e
 |k+1,v,u,x,hv,e=>by
  have ih: ∀ {vs us:List ai} {xs:List Value},cg G1 vs xs→dZ (cR h1 k) vs=some us→cg G2 us xs:=by
   intro vs
   induction vs with
   |nil=>intro us xs h e;cases h;simp only [dZ,a7] at e;subst e;exact .nil
   |cons v vs ihv=>
    intro us xs h e
    cases h with
    |cons a b=>
     simp only [dZ,aF,a7] at e
     obtain⟨u,h3,r,h4,rfl⟩:=e
     exact .cons (thaw hro wr k a h3) (ihv b h4)
  have hscals: ∀ {cs us:List ai},dG cs=true→dZ (cR h1 k) cs=some us→dG us=true:=by
   intro cs
   induction cs with
   |nil=>intro us _ e;simp only [dZ,a7] at e;subst e;rfl
   |cons v vs ihv=>
    intro us h e
    simp only [dG,l8,cU] at h
    simp only [dZ,aF,a7] at e
    obtain⟨u,h3,r,h4,rfl⟩:=e
    simp only [dG,l8,cU]
    exact⟨CC h3 h.1,ihv h.2 h4⟩
  cases hv with
  |bool b=>simp only [cR,a7] at e;subst e;exact .bool b
  |int k n=>simp only [cR,a7] at e;subst e;exact .int k n
  |str s=>simp only [cR,a7] at e;subst e;exact .str s
  |nilp=>simp only [cR,a7] at e;subst e;exact .nilp
  |nils=>simp only [cR,a7] at e;subst e;exact .nils
  |nilm=>simp only [cR,a7] at e;subst e;exact .nilm
  |nilf=>simp only [cR,a7] at e;subst e;exact .nilf
  |nili=>simp only [cR,a7] at e;subst e;exact .nili
  |ptr _=>simp [cR] at e
  |ro _=>simp [cR] at e
  |map _=>simp [cR] at e
  |func _ _=>simp [cR] at e
  |iface _=>simp [cR] at e
  |yld _=>simp [cR] at e
  |roz _=>simp [cR] at e
  |agg hc hs=>
   simp only [cR,aF,a7] at e
   obtain⟨r,h3,rfl⟩:=e
   exact .agg (hscals hc h3) (ih hs h3)
  |tup hs=>
   simp only [cR,aF,a7] at e
   obtain⟨r,h3,rfl⟩:=e
   exact .tup (ih hs h3)
  |list a b c d e' f=>
   rename_i sz xs r ad cap
   simp only [cR,aF,a7] at e
   obtain⟨ys,h3,rfl⟩:=e
   have hlen:=CA h3
   rw [←hlen]
   refine .list a b ?_ (by rw [hlen];exact d) ?_ ?_
   ·intro y hy
    obtain⟨i,hi⟩:=A2 hy
    obtain⟨v,hv,h4⟩:=yO h3 i y hi
    obtain⟨m,h5⟩:=HP h4
    rw [CA h5]
    exact c v (nK hv)
   ·intro i y hy
    obtain⟨m,h4⟩:=HO h3
    obtain⟨v,hv,h5⟩:=yO h4 i y hy
    exact hro _ _ v y (Vp (e' i v hv)) ⟨m,h5⟩
   ·cases r with
    |full=>rw [hlen];exact f
    |own n=>exact trivial
    |no=>exact trivial
  |arr a b c d e' f g i=>
   rename_i sz n off len lcap ad bd cap dm
   simp only [cR] at e
   split at e
   ·rename_i cs hcs
    simp only [aF,a7] at e
    obtain⟨cc,h3,c',h4,xs,h5,rfl⟩:=e
    obtain⟨ad',ho1,ho2,C,et,ho3,ho4,ho5⟩:=wr.obj n _ hcs
    rw [a] at ho1;injection ho1 with ho1;subst ho1
    have hsc:dG cc=true:=by
     simp only [dG,mP]
     intro v hv
     obtain⟨j,hj⟩:=A2 hv
     exact(ho5 _ v (wL h3 hj)).1
    obtain⟨q1,q2,q3⟩:=uE (g:= !aY sz 1) (sz:=sz) (fun hh=>by
     have:aY sz 1=true:=by simpa using hh
     exact eU this) h5 (hscals hsc h4)
    have:VR G2 (.list sz xs .no) (.slice (some ad) xs.length cap):=by
     refine .list (.inr b) c q3 (by omega) ?_ trivial
     intro j y hy
     rw [q2] at hy
     obtain⟨v,hv,h6⟩:=yO h4 j y hy
     have hcell:=wL h3 hv
     rcases f with f|⟨f1,f2⟩
     ·have hl:len=0:=by omega
      have:=(uK h3).2
      rw [hl,Nat.zero_mul] at this
      rw [List.length_eq_zero_iff.1 this] at hv
      simp at hv
     ·refine hro _ _ v y (Vo wr ⟨n,bd,cs,off+j,hcs,a,f1.symm,?_,hcell⟩) ⟨k,h6⟩
      rw [f2];omega
    rw [q1] at this
    exact this
   ·cases e
end
mutual
def jd:ai→Bool
 | .agg cs=>jy cs
 | .tup cs=>jy cs
 | .list _ xs _=>pures xs
 |v=>bM v
def jy:List ai→Bool
 | []=>true
 |v::l=>jd v&&jy l
end
mutual
theorem VR.top {G1 G2:Gh} (k:wz G1 G2): ∀ {v:ai} {x:Value},VR G1 v x→jd v=true→VR G2 (weak v) x
 |_,_,.bool b,_=>.bool b
 |_,_,.int k n,_=>.int k n
 |_,_,.str s,_=>.str s
 |_,_,.agg hc hs,h=>.agg (SB hc) (cg.top k hs (by simpa [jd] using h))
 |_,_,.tup hs,h=>.tup (cg.top k hs (by simpa [jd] using h))
 |_,_,.nilp,_=>.nilp
 |_,_,.ptr e,h=>by simp [jd,bM] at h
 |_,_,.ro (cs:=cs) e,h=>by
  have h:pures cs=true:=by simpa [jd,bM] using h
  rw [weak,iw h]
  exact .ro fun i x hx=>k _ _ _ (e i x hx) (vL h hx)
 |_,_,.nils,_=>.nils
 |_,_,.list (xs:=xs) (r:=r) a b c d e f,h=>by
  have h:pures xs=true:=by simpa [jd] using h
  simp only [weak,iw h]
  refine .list a b c d (fun i x hx=>k _ _ _ (e i x hx) (vL (Fa h) hx)) ?_
  cases r with
  |full=>exact f
  |own n=>exact trivial
  |no=>exact trivial
 |_,_,.arr ..,h=>by simp [jd,bM] at h
 |_,_,.nilm,_=>.nilm
 |_,_,.map e,h=>by simp [jd,bM] at h
 |_,_,.nilf,_=>.nilf
 |_,_,.func (first:=f) (captured:=g) a b,h=>by
  have h:pures f=true∧pures g=true:=by simpa [jd,bM] using h
  simp only [weak,iw h.1,iw h.2]
  exact .func (cg.onto k a h.1) (cg.onto k b h.2)
 |_,_,.nili,_=>.nili
 |_,_,.iface (v:=v) e,h=>by
  have h:bM v=true:=by simpa [jd,bM] using h
  simp only [weak,FP h]
  exact .iface (VR.onto k e h)
 |_,_,.yld _,h=>by simp [jd,bM] at h
 |_,_,.roz _,h=>by simp [jd,bM] at h
theorem cg.top {G1 G2:Gh} (k:wz G1 G2): ∀ {vs:List ai} {xs:List Value},cg G1 vs xs→jy vs=true→cg G2 (dU vs) xs
 |_,_,.nil,_=>.nil
 |_,_,.cons a b,h=>by
  simp only [jy,cU] at h
  exact .cons (VR.top k a h.1) (cg.top k b h.2)
end
theorem HQ {h h':bq bE} (hh: ∀n o,h.get n=some o→h'.get n=some o): ∀(k:Nat) (v u:ai),cR h k v=some u→cR h' k v=some u
 |0,_,_,e=>by cases e
 |k+1,v,u,e=>by
  have ih:=HQ hh k
  cases v<;>simp only [cR] at e ⊢ <;>first
   |exact e
   |(simp only [aF] at e ⊢
     obtain⟨r,h1,h2⟩:=e
     exact⟨r,tw ih h1,h2⟩)
   |skip
  split at e
  ·rename_i hcs
   rw [hh _ _ hcs]
   simp only [aF] at e ⊢
   obtain⟨c,h1,c',h2,h3⟩:=e
   exact⟨c,h1,c',tw ih h2,h3⟩
  ·cases e
theorem Fy {Q:ck} (hg:Good Q) {f:FuncId} {n:Nat} (hk: ∀i,0<Q.kmax i) {args:List ai} {u:ai} (hp:jy args=true)
 (he: ∀ch,jT Q ch→ ∃v s',(cG (Q.at ch) n).call f (dU args) [] s0=some (v,s')∧jB s'.heap v u) (G:Gh) (h:bq bE) (w:World) (xs:List Value) (wr:WR G h w) (hx:cg G args xs):
 kb Q.P f ⟨xs⟩ w fun y w'=> ∃G',WR G' h w'∧dh G h w G' h w' 0 0∧VR G' u y:=by
 have pre:kd [] (fun _=>True) G.plain s0 s0 w:=⟨fun n _=>rfl,.refl _ _,wr.plain,fun _ _ _=>rfl⟩
 have hc:=(Ux hg n).1 f (dU args) [] s0 s0 G.plain w xs (fun _=>0) (fun _=>True) pre (hx.top (R0 G) hp) hk (fun ch' _ hi=>by
  obtain⟨v,s',h1,_⟩:=he ch' hi
  exact⟨v,s',h1,fun _ _ _=>trivial⟩)
 refine hc.mono ?_
 rintro y w' ⟨ch',v,s',s2',G1,c⟩
 have hvv:jB s2'.heap v u:=by
  obtain⟨v1,s1,h1,h2⟩:=he ch' c.inb
  have h3:=c.eval
  rw [h1] at h3
  simp only [a7,bK] at h3
  obtain⟨rfl,rfl⟩:=h3
  have goes:fN [] s0 s1:=((j1 Q n).call f (dU args) [] ch' s0 v1 s1 h1).1
  have sees:ip [] s1 s2':=c.same.sees (.refl _ _) goes
  obtain⟨k,hk⟩:=h2
  exact⟨k,HQ (fun n o e=>sees.get n o rfl e) k _ _ hk⟩
 have ext:dh G.plain .nil w G1 s2'.heap w' 0 s'.next:=c.ext
 have kept: ∀b,b<w.heap.size→w'.heap[b]? =w.heap[b]? :=fun b hb=>ext.keep b hb zZ
 have old: ∀b o u,b<w.heap.size→pK G1 s2'.heap b o=some u→G.ro b o=some u∧bM u=true:=by
  intro b o u hb hu
  rcases GM hu with hu|⟨m,a,cs,i,h1,h2,h3,_,_⟩
  ·cases e:G.plain.ro b o with
   |none=>exact absurd (ext.cells b o u hb hu e) zZ
   |some u'=>
    have:=ext.le.ro b o u' e
    rw [hu] at this;injection this with this;subst this
    simp only [Gh.plain,aF] at e
    obtain⟨z,hz,e⟩:=e
    split at e
    ·injection e with e;subst e;exact⟨hz,by assumption⟩
    ·cases e
  ·exact absurd (ext.owns b hb ⟨m,a,by rw [h1];simp,h2,h3⟩) zZ
 have hle:G.le (G.froze G1 s2'.heap):=⟨fun _ _ h=>h,fun b o u h=>by simp [Gh.froze,h],fun _ _ h=>h⟩
 have back: ∀b o u u',pK G1 s2'.heap b o=some u→jB s2'.heap u u'→(G.froze G1 s2'.heap).ro b o=some u':=by
  intro b o u u' hu hf
  cases e:G.ro b o with
  |none=>simp [Gh.froze,e,hu,XF hf]
  |some z=>
   obtain⟨h1,h2⟩:=old b o u (wr.ro_lt e) hu
   obtain⟨k,hk⟩:=hf
   have:=HU h2 hk
   subst this
   simp only [Gh.froze,h1,Option.some_or]
 have cell: ∀b o x,b<w.heap.size→w.cell? ⟨b,o,none⟩=some x→w'.cell? ⟨b,o,none⟩=some x:=by
  intro b o x hb hx
  have:=kept b hb
  unfold World.cell? at hx ⊢
  rw [this];exact hx
 obtain⟨kk,hkk⟩:=hvv
 refine⟨G.froze G1 s2'.heap,⟨?_,?_,?_,?_,?_,?_⟩,⟨hle,ext.size,fun b hb _=>kept b hb,fun b _ o=>o,?_,?_,ext.quiet⟩,thaw back c.wr kk c.val hkk⟩
 ·intro n o hn
  obtain⟨a,h1,h2,h3⟩:=wr.obj n o hn
  exact⟨a,h1,h2,(h3.mono hle).of_block (kept _ (wr.below n a h1))⟩
 ·exact wr.sep
 ·intro b o u hu
  cases e:G.ro b o with
  |some z=>
   have:u=z:=by simp only [Gh.froze,e,Option.some_or,a7] at hu;exact hu.symm
   subst this
   obtain⟨h1,y,h2,h3⟩:=wr.ro b o u e
   exact⟨h1,y,cell b o y (wr.ro_lt e) h2,h3.mono hle⟩
  |none=>
   simp only [Gh.froze,e,rl,aF] at hu
   obtain⟨z,hz,hu⟩:=hu
   obtain⟨k,hk⟩:=XG hu
   rcases GM hz with hz'|⟨m,a,cs,i,h1,h2,h3,h4,h5⟩
   ·obtain⟨h1,y,h2,h3⟩:=c.wr.ro b o z hz'
    exact⟨CC hk h1,y,h2,thaw back c.wr k h3 hk⟩
   ·obtain⟨a',g1,g2,C,et,g3,g4,g5⟩:=c.wr.obj m _ h1
    rw [h2] at g1;injection g1 with g1;subst g1
    obtain⟨r1,y,r2,r3⟩:=g5 i z h5
    refine⟨CC hk r1,y,?_,thaw back c.wr k r3 hk⟩
    rw [h3] at g3
    rw [nb g3,h4];exact r2
 ·intro n ob a i u hn ha hu
  cases e:G.ro a.block i with
  |some z=>exact wr.apart n ob a i z hn ha e
  |none=>
   simp only [Gh.froze,e,rl,aF] at hu
   obtain⟨z,hz,_⟩:=hu
   have:=(old _ _ _ (wr.below n a ha) hz).1
   rw [e] at this;cases this
 ·intro b d hd
  obtain⟨C,e,h1,h2⟩:=wr.dim b d hd
  exact⟨C,e,(kept b (gH h1)).trans h1,h2⟩
 ·intro n a ha
  exact gn (wr.below n a ha) ext.size
 ·intro n a h1 h2
  have h1:G.at_ n=some a:=h1
  rw [h2] at h1;cases h1
 ·intro b o u hb hu e
  simp only [Gh.froze,e,rl,aF] at hu
  obtain⟨z,hz,_⟩:=hu
  have:=(old _ _ _ hb hz).1
  rw [e] at this;cases this
theorem gJ {Q:ck} (hg:Good Q) {f:FuncId} (hk: ∀i,0<Q.kmax i) {args:List ai} {v u:ai} {s':St} (hp:jy args=true)
 (hr:br Q f (dU args) s0 v s') (hci:s'.ci=0) (hu:jB s'.heap v u) (G:Gh) (h:bq bE) (w:World) (xs:List Value) (wr:WR G h w) (hx:cg G args xs):
 kb Q.P f ⟨xs⟩ w fun y w'=> ∃G',WR G' h w'∧dh G h w G' h w' 0 0∧VR G' u y:=by
 obtain⟨n,hn⟩:=hr
 refine Fy (n:=n) hg hk hp (fun ch _=>⟨v,s',?_,hu⟩) G h w xs wr hx
 have:(cG (Q.at Q.ch) n).call f (dU args) [] s0=some (v,s'):=hn
 exact(o0 Q n).call f (dU args) [] Q.ch s0 v s' this ch (fun i hi=>by rw [hci] at hi;omega)
section
variable {Q:ck} {f:FuncId}
def sj (x:Option (ai×Loc×St)) (K:ai→Loc→St→Prop):Prop:=
 match x with
 |some (v,l,s)=>K v l s
 |none=>False
def WP (Q:ck) (f:FuncId) (ops:List au) (fr:Fr) (s:St) (N:Fr→St→Prop):Prop:= ∃fr' s',qc Q f ops fr s=some (fr',s')∧N fr' s'
theorem az {fr:Fr} {s:St} {N:Fr→St→Prop}:WP Q f [] fr s N=N fr s:=by
 apply propext
 constructor
 ·rintro⟨fr',s',h,hn⟩
  simp only [qc,a7,bK] at h
  obtain⟨rfl,rfl⟩:=h;exact hn
 ·exact fun h=>⟨fr,s,rfl,h⟩
theorem Bh {o:au} {l:List au} {fr:Fr} {s:St} {N:Fr→St→Prop}:WP Q f (o::l) fr s N=(∃fr1 s1,tY Q f o fr s=some (fr1,s1)∧WP Q f l fr1 s1 N):=by
 apply propext
 constructor
 ·rintro⟨fr',s',h,hn⟩
  simp only [qc,aF] at h
  obtain⟨⟨fr1,s1⟩,h1,h2⟩:=h
  exact⟨fr1,s1,h1,fr',s',h2,hn⟩
 ·rintro⟨fr1,s1,h1,fr',s',h2,hn⟩
  refine⟨fr',s',?_,hn⟩
  simp only [qc,h1,ak,h2]
theorem Gn {d:Tmp} {op:Op} {g:SG} {l:List au} {e:bc} {sz:Nat} {lc:Loc} {s:St} {N:Fr→St→Prop} (hw:ik e g=true):
 WP Q f (⟨some d,op,g⟩::l) ⟨e,sz,lc⟩ s N=sj (dN Q f ⟨some d,op,g⟩ [] ⟨e,sz,lc⟩ s) fun v lc' s'=>d<sz∧WP Q f l ⟨e.set d (some v),sz,lc'⟩ s' N:=by
 rw [Bh]
 simp only [tY,hw,cT]
 cases h:dN Q f ⟨some d,op,g⟩ [] ⟨e,sz,lc⟩ s with
 |none=>simp [sj]
 |some x=>
  obtain⟨v,lc',s'⟩:=x
  simp only [ak,sj,d7]
  by_cases hd:d<sz
  ·have:bP d sz=true:=ew hd
   simp only [this,cT,ak,a7,bK,hd,tA]
   apply propext
   constructor
   ·rintro⟨_,_,⟨rfl,rfl⟩,h⟩;exact h
   ·exact fun h=>⟨_,_,⟨rfl,rfl⟩,h⟩
  ·have:bP d sz=false:=by
    cases h:bP d sz with
    |false=>rfl
    |true=>exact absurd (io h) hd
   simp [this,hd]
theorem Ub {op:Op} {g:SG} {l:List au} {e:bc} {sz:Nat} {lc:Loc} {s:St} {N:Fr→St→Prop} (hw:ik e g=true):
 WP Q f (⟨none,op,g⟩::l) ⟨e,sz,lc⟩ s N=sj (dN Q f ⟨none,op,g⟩ [] ⟨e,sz,lc⟩ s) fun _ lc' s'=>WP Q f l ⟨e,sz,lc'⟩ s' N:=by
 rw [Bh]
 simp only [tY,hw,cT]
 cases h:dN Q f ⟨none,op,g⟩ [] ⟨e,sz,lc⟩ s with
 |none=>simp [sj]
 |some x=>
  obtain⟨v,lc',s'⟩:=x
  simp only [ak,sj,d7,a7,bK]
  apply propext
  constructor
  ·rintro⟨_,_,⟨rfl,rfl⟩,h⟩;exact h
  ·exact fun h=>⟨_,_,⟨rfl,rfl⟩,h⟩
theorem Uc {d:Tmp} {op:Op} {g:SG} {l:List au} {e:bc} {sz:Nat} {lc:Loc} {s:St} {N:Fr→St→Prop} (hw:ik e g=false):
 WP Q f (⟨some d,op,g⟩::l) ⟨e,sz,lc⟩ s N=(d<sz∧WP Q f l ⟨e.set d (some gX),sz,lc⟩ s N):=by
 rw [Bh]
 simp only [tY,hw,cF,d7]
 by_cases hd:d<sz
 ·have:bP d sz=true:=ew hd
  simp only [this,cT,ak,a7,bK,hd,tA]
  apply propext
  constructor
  ·rintro⟨_,_,⟨rfl,rfl⟩,h⟩;exact h
  ·exact fun h=>⟨_,_,⟨rfl,rfl⟩,h⟩
 ·have:bP d sz=false:=by
   cases h:bP d sz with
   |false=>rfl
   |true=>exact absurd (io h) hd
  simp [this,hd]
theorem aU (a b:Nat):aY a b=(a==b):=by
 cases h:aY a b with
 |true=>have:=ib h;subst this;simp
 |false=>have:=Nat.ne_of_beq_eq_false h;exact(beq_eq_false_iff_ne.2 this).symm
theorem cP (a b:Nat):bP a b=decide (a<b):=by
 cases h:bP a b with
 |true=>exact(decide_eq_true (io h)).symm
 |false=>exact(decide_eq_false fun h'=>by
  have:bP a b=true:=ew h'
  rw [this] at h;cases h).symm
theorem bQ (a b:Nat):cr a b=decide (a≤b):=ol a b
theorem sh (k:IntKind) (n:Nat):fF (.int k (n:Int))=some n:=rfl
def oE:ai→Bool→Bool
 | .bool c,b=>c==b
 |_,_=>false
theorem ua (e:bc) (t:Tmp) (b:Bool):ik e (.when t b)=oE (aq e t) b:=by
 show(match aq e t with| .bool c=>c==b|_=>false)=oE (aq e t) b
 generalize aq e t=x
 cases x<;>rfl
theorem eA:oE (.bool true) true=true:=rfl
theorem iG:oE (.bool true) false=false:=rfl
theorem ia:oE (.bool false) true=false:=rfl
theorem e7:oE (.bool false) false=true:=rfl
theorem x6 (b:Bool):oE gX b=false:=rfl
def E8:ai→Option ai→Option ai→Option ai
 | .bool true,a,_=>a
 | .bool false,_,b=>b
 |_,_,_=>none
theorem cx (e:bc) (c a b:Operand):sl e c a b=(ev e c).bind fun c=>E8 c (ev e a) (ev e b):=by
 unfold sl
 cases ev e c with
 |none=>rfl
 |some v=>
  cases v<;>first|rfl|skip
  rename_i c
  cases c<;>rfl
theorem dy (a b:Option ai):E8 (.bool true) a b=a:=rfl
theorem dv (a b:Option ai):E8 (.bool false) a b=b:=rfl
theorem aC (e:bc) (x:Operand):evc e x=(ev e x).bind fun v=>bif v.clean then some v else none:=rfl
theorem aw (v:ai) (l:Loc) (s:St):fJ (some v) l s=some (v,l,s):=rfl
theorem cd (v:ai) (l:Loc) (s:St):gR (some (v,s)) l=some (v,l,s):=rfl
theorem tU (l:Loc) (s:St):lr (some s) l=some (gX,l,s):=rfl
theorem cQ (P:Program) (t:TypeId) (a b:Int):fR P .lss t (.int .i64 a) (.int .i64 b)=some (.bool (du a b)):=rfl
theorem BC (P:Program) (t:TypeId) (a b:Int):fR P .leq t (.int .i64 a) (.int .i64 b)=some (.bool (ig a b)):=rfl
theorem lL (P:Program) (t:TypeId) (a b:Int):fR P .gtr t (.int .i64 a) (.int .i64 b)=some (.bool (du b a)):=rfl
theorem mh (P:Program) (t:TypeId) (a b:Int):fR P .geq t (.int .i64 a) (.int .i64 b)=some (.bool (ig b a)):=rfl
theorem jr (P:Program) (t:TypeId) (a b:Int):fR P .eql t (.int .i64 a) (.int .i64 b)=some (.bool (bL a b)):=rfl
theorem uC (P:Program) (t:TypeId) (a b:Int):fR P .neq t (.int .i64 a) (.int .i64 b)=some (.bool (!bL a b)):=rfl
theorem d8 (P:Program) (t:TypeId) (a b:Int):fR P .add t (.int .i64 a) (.int .i64 b)=some (.int .i64 (IntKind.i64.wrap (a+b))):=rfl
theorem tg (P:Program) (t:TypeId) (a b:Int):fR P .sub t (.int .i64 a) (.int .i64 b)=some (.int .i64 (IntKind.i64.wrap (a-b))):=rfl
theorem wE (P:Program) (t:TypeId) (a b:Int):fR P .neq t (.int .u8 a) (.int .u8 b)=some (.bool (!bL a b)):=rfl
theorem iJ (P:Program) (t:TypeId) (a b:List UInt8):fR P .eql t (.str a) (.str b)=some (.bool (a==b)):=rfl
theorem yA (P:Program) (t:TypeId) (a b:List UInt8):fR P .neq t (.str a) (.str b)=some (.bool (!(a==b))):=rfl
theorem uD (P:Program) (t:TypeId) (a b:List UInt8):fR P .leq t (.str a) (.str b)=some (.bool (leBytes a b)):=rfl
theorem Vc (P:Program) (t:TypeId) (a b:List UInt8):fR P .lss t (.str a) (.str b)=some (.bool (Op.bytesLess a b)):=rfl
theorem eZ (b:Bool):wd .not (.bool b)=some (.bool !b):=rfl
theorem da (P:Program) (mk:bj) (t:TypeId) (mu:Bool) (x:ai) (s:St):ld P mk .len [t] mu [x] s=(gG P mk t x s).bind fun v=>some (v,s):=rfl
theorem nZ (P:Program) (mk:bj) (t t2:TypeId) (mu:Bool) (x y:ai) (s:St):ld P mk .append [t,t2] mu [x,y] s=bif lj P t2 then jD P mk t x y mu s else none:=rfl
theorem bH (h:Tmp→Nat) (t:Tmp):mn h (some t)=h t:=rfl
theorem ei (b:Bool):(ai.bool b).clean=true:=rfl
theorem aZ (k:IntKind) (n:Int):(ai.int k n).clean=true:=rfl
theorem cu (b:List UInt8):(ai.str b).clean=true:=rfl
theorem bZ (b:List ai):(ai.agg b).clean=true:=rfl
theorem i8 (n:Nat) (b:List ai) (r:fC):(ai.list n b r).clean=true:=rfl
theorem dM (n o:Nat):(ai.ptr n o).clean=true:=rfl
theorem fZ (n:Nat):(ai.map n).clean=true:=rfl
theorem uF:(ai.nils).clean=true:=rfl
theorem nc (f:Fn) (a b:List ai):(ai.func f a b).clean=true:=rfl
theorem di (cs:List ai):(ai.agg cs).cells=cs:=rfl
theorem kF (s:List UInt8):(ai.str s).cells=[.str s]:=rfl
theorem wF (k:IntKind) (n:Int):(ai.int k n).cells=[.int k n]:=rfl
theorem Vq (n:Nat) (xs:List ai) (r:fC):(ai.list n xs r).cells=[.list n xs r]:=rfl
theorem fU (P:Program) (mk:bj) (t:TypeId) (l g off:Nat) (v:ai) (lc:Loc) (s:St):pq P mk t (.lref l g off) v lc s=(eX P t).bind fun n=>bif aY v.cells.length n&&bP 0 n then(lc.get l g).bind fun cs=>(cI cs off v.cells).bind fun cs'=>some (lc.set l g cs',s) else none:=rfl
def bu {α:Type} (n:Nat) (enc:α→ai) (v:ai) (l:List α):Prop:=(v= .nils∧l=[])∨ ∃r,v= .list n (l.map enc) r
theorem bu.clean {α:Type} {n:Nat} {enc:α→ai} {v:ai} {l:List α} (h:bu n enc v l):v.clean=true:=by
 rcases h with⟨rfl,_⟩|⟨r,rfl⟩<;>rfl
theorem bu.scal {α:Type} {n:Nat} {enc:α→ai} {v:ai} {l:List α} (h:bu n enc v l):v.cells=[v]:=by
 rcases h with⟨rfl,_⟩|⟨r,rfl⟩<;>rfl
theorem RG {α:Type} (enc:α→ai): ∀(l:List α) (i:Nat) (a:α),l[i]? =some a→iu (l.map enc) i=enc a
 | [],i,a,h=>by simp at h
 |x::l,0,a,h=>by simp at h;subst h;rfl
 |x::l,i+1,a,h=>RG enc l i a (by simpa using h)
theorem bu.len {α:Type} {n:Nat} {enc:α→ai} {v:ai} {l:List α} (h:bu n enc v l) {P:Program} {t:TypeId} (h1: ∀mk s,gG P mk t .nils s=some (.int .i64 (0:Nat))) (h2: ∀mk n xs r s,gG P mk t (.list n xs r) s=some (.int .i64 (xs:List ai).length)) (mk:bj) (s:St):gG P mk t v s=some (.int .i64 (l.length:Nat)):=by
 rcases h with⟨rfl,rfl⟩|⟨r,rfl⟩
 ·rw [h1];rfl
 ·rw [h2];simp
theorem bu.at {α:Type} {n:Nat} {enc:α→ai} {v:ai} {l:List α} (h:bu n enc v l) {P:Program} {t:TypeId} (h2: ∀lc m xs r i,iq P lc t (.list m xs r) i=(fF i).bind fun i=>bif aY m n&&bP i xs.length then some (.ro (iu xs i).cells) else none) {i:Nat} {a:α} (hi:l[i]? =some a) (lc:Loc) (k:IntKind):
 iq P lc t v (.int k (i:Int))=some (.ro (enc a).cells):=by
 have hlt:i<l.length:=by
  rcases Nat.lt_or_ge i l.length with h|h
  ·exact h
  ·rw [List.getElem?_eq_none h] at hi;cases hi
 rcases h with⟨rfl,rfl⟩|⟨r,rfl⟩
 ·simp at hi
 ·rw [h2]
  simp only [sh,ak,RG enc l i a hi,ep]
  have:bP i l.length=true:=ew hlt
  simp [this]
theorem E0 (e:bc) (t:Nat) (v:ai):aq (e.set t (some v)) t=v:=by simp [aq,E6]
theorem aiH (e:bc) (t u:Nat) (v:ai) (h:(u==t)=false):aq (e.set t (some v)) u=aq e u:=by
 have:u≠t:=by simpa using h
 simp [aq,bq.get_set,this]
theorem ah (e:bc) (t u:Nat) (v:ai):aq (e.set t (some v)) u=bif u==t then v else aq e u:=by
 cases h:u==t with
 |true=>have:u=t:=by simpa using h
        subst this;exact E0 e u v
 |false=>exact aiH e t u v h
theorem gen_set (l:Loc) (t h u:Nat) (c:List ai):(l.set t h c).gen u=bif aY t u then h else l.gen u:=by
 induction l with
 |nil=>simp only [Loc.set,Loc.gen]
 |cons x l ih=>
  obtain⟨k,g,d⟩:=x
  simp only [Loc.set]
  cases hk:aY k t with
  |true=>
   have:=ib hk
   subst this
   simp only [cT,Loc.gen]
   cases aY k u<;>rfl
  |false=>
   simp only [cF,Loc.gen,ih]
   cases hu:aY k u with
   |false=>rfl
   |true=>
    have:=ib hu
    subst this
    have:aY t k=false:=by
     cases h:aY t k with
     |false=>rfl
     |true=>have:=ib h;subst this;simp at hk
    simp [this]
theorem dx (t:Nat):Loc.gen [] t=0:=rfl
theorem XK (l:Loc) (t h:Nat) (c:List ai):(l.set t h c).gen t=h:=by simp [gen_set]
theorem XL (l:Loc) (t h u:Nat) (c:List ai) (e:(u==t)=false):(l.set t h c).gen u=l.gen u:=by
 rw [gen_set]
 have:aY t u=false:=by
  cases h:aY t u with
  |false=>rfl
  |true=>have:=ib h;subst this;simp at e
 rw [this];rfl
theorem Q7 (l:Loc) (t h u g:Nat) (c:List ai):(l.set t h c).get u g=bif aY t u then(bif aY h g then some c else none) else l.get u g:=by
 induction l with
 |nil=>simp only [Loc.set,Loc.get]
 |cons x l ih=>
  obtain⟨k,g',d⟩:=x
  simp only [Loc.set]
  cases hk:aY k t with
  |true=>
   have:=ib hk
   subst this
   simp only [cT,Loc.get]
   cases aY k u<;>rfl
  |false=>
   simp only [cF,Loc.get,ih]
   cases hu:aY k u with
   |false=>rfl
   |true=>
    have:=ib hu
    subst this
    have:aY t k=false:=by
     cases h:aY t k with
     |false=>rfl
     |true=>have:=ib h;subst this;simp at hk
    simp [this]
theorem ahS (l:Loc) (t h u g:Nat) (c:List ai) (e:(u==t)=false):(l.set t h c).get u g=l.get u g:=by
 rw [Q7]
 have:aY t u=false:=by
  cases h:aY t u with
  |false=>rfl
  |true=>have:=ib h;subst this;simp at e
 rw [this];rfl
theorem gQ (l:Loc) (t h h':Nat) (c c':List ai):(l.set t h c).set t h' c'=l.set t h' c':=by
 induction l with
 |nil=>simp [Loc.set]
 |cons x l ih=>
  obtain⟨k,g',d⟩:=x
  simp only [Loc.set]
  cases hk:aY k t with
  |true=>simp [Loc.set,hk]
  |false=>simp [Loc.set,hk,ih]
theorem cz (l:Loc) (t h u:Nat) (c:List ai):(l.set t h c).gen u=bif u==t then h else l.gen u:=by
 cases e:u==t with
 |true=>have:u=t:=by simpa using e
        subst this;exact XK l u h c
 |false=>exact XL l t h u c e
theorem bI (l:Loc) (t h u g:Nat) (c:List ai):(l.set t h c).get u g=bif u==t then(bif g==h then some c else none) else l.get u g:=by
 cases e:u==t with
 |true=>
  have:u=t:=by simpa using e
  subst this
  rw [Q7]
  simp only [cT]
  cases e:g==h with
  |true=>have:g=h:=by simpa using e
         subst this;simp
  |false=>
   have h1:g≠h:=by simpa using e
   have:aY h g=false:=by
    cases e':aY h g with
    |false=>rfl
    |true=>exact absurd (ib e').symm h1
   simp [this]
 |false=>exact ahS l t h u g c e
def AG (Q:ck) (f:FuncId) (d:Tmp) (e:bc) (sz:Nat) (l:List au) (N:Fr→St→Prop) (x:Option (ai×Loc×St)):Prop:=sj x fun v lc' s'=>d<sz∧WP Q f l ⟨e.set d (some v),sz,lc'⟩ s' N
def SW (Q:ck) (f:FuncId) (e:bc) (sz:Nat) (l:List au) (N:Fr→St→Prop) (x:Option (ai×Loc×St)):Prop:=sj x fun _ lc' s'=>WP Q f l ⟨e,sz,lc'⟩ s' N
def FQ (Q:ck) (f:FuncId) (o:au) (d:Tmp) (e:bc) (sz:Nat) (lc:Loc) (s:St) (l:List au) (N:Fr→St→Prop):Bool→Prop
 |true=>AG Q f d e sz l N (dN Q f o [] ⟨e,sz,lc⟩ s)
 |false=>d<sz∧WP Q f l ⟨e.set d (some gX),sz,lc⟩ s N
theorem aB {d:Tmp} {e:bc} {sz:Nat} {l:List au} {N:Fr→St→Prop} {v:ai} {lc:Loc} {s:St}:AG Q f d e sz l N (some (v,lc,s))=(d<sz∧WP Q f l ⟨e.set d (some v),sz,lc⟩ s N):=rfl
theorem dI {e:bc} {sz:Nat} {l:List au} {N:Fr→St→Prop} {v:ai} {lc:Loc} {s:St}:SW Q f e sz l N (some (v,lc,s))=WP Q f l ⟨e,sz,lc⟩ s N:=rfl
theorem dz {o:au} {d:Tmp} {e:bc} {sz:Nat} {lc:Loc} {s:St} {l:List au} {N:Fr→St→Prop}:FQ Q f o d e sz lc s l N true=AG Q f d e sz l N (dN Q f o [] ⟨e,sz,lc⟩ s):=rfl
theorem ee {o:au} {d:Tmp} {e:bc} {sz:Nat} {lc:Loc} {s:St} {l:List au} {N:Fr→St→Prop}:FQ Q f o d e sz lc s l N false=(d<sz∧WP Q f l ⟨e.set d (some gX),sz,lc⟩ s N):=rfl
theorem aA {d:Tmp} {op:Op} {l:List au} {e:bc} {sz:Nat} {lc:Loc} {s:St} {N:Fr→St→Prop}:
 WP Q f (⟨some d,op,.aw⟩::l) ⟨e,sz,lc⟩ s N=AG Q f d e sz l N (dN Q f ⟨some d,op,.aw⟩ [] ⟨e,sz,lc⟩ s):=Gn rfl
theorem dH {op:Op} {l:List au} {e:bc} {sz:Nat} {lc:Loc} {s:St} {N:Fr→St→Prop}:
 WP Q f (⟨none,op,.aw⟩::l) ⟨e,sz,lc⟩ s N=SW Q f e sz l N (dN Q f ⟨none,op,.aw⟩ [] ⟨e,sz,lc⟩ s):=Ub rfl
theorem cJ {d:Tmp} {op:Op} {t:Tmp} {b:Bool} {l:List au} {e:bc} {sz:Nat} {lc:Loc} {s:St} {N:Fr→St→Prop}:
 WP Q f (⟨some d,op,.when t b⟩::l) ⟨e,sz,lc⟩ s N=FQ Q f ⟨some d,op,.when t b⟩ d e sz lc s l N (oE (aq e t) b):=by
 cases h:oE (aq e t) b with
 |true=>exact Gn (by rw [ua,h])
 |false=>exact Uc (by rw [ua,h])
theorem W.reg {ops:List au} {fr:Fr} {s:St} {K:Ex→Fr→St→Prop} (h:WP Q f ops fr s fun fr s=>K .normal fr s):W Q f (.region ops) fr s K:=
 let⟨_,_,h1,h2⟩:=h;W.region (WL.run h1 h2)
theorem W.sreg {ops:List au} {c:SC} {fr:Fr} {s:St} {K:Ex→Fr→St→Prop} (h:WP Q f ops fr s fun fr s=>W Q f c fr s K):W Q f (.seq (.region ops) c) fr s K:=W.seq (W.reg h)
theorem W.sseq {a b:SC} {fr:Fr} {s:St} {K:Ex→Fr→St→Prop} (h:W Q f a fr s (Ex.next K fun fr s=>W Q f b fr s K)):W Q f (.seq a b) fr s K:=W.seq h
theorem aN (K:Ex→Fr→St→Prop) (N:Fr→St→Prop):Ex.next K N .normal=N:=rfl
theorem dS (i:Nat):Ex.block i .normal= .normal:=rfl
section
variable {e:bc} {sz:Nat} {lc:Loc} {s:St} {d:Option Tmp} {g:SG} {mk:bj}
theorem aE (x:Operand):dN Q f ⟨d,.move x,g⟩ mk ⟨e,sz,lc⟩ s=fJ (ev e x) lc s:=rfl
theorem aJ (x:Operand):dN Q f ⟨d,.assign x,g⟩ mk ⟨e,sz,lc⟩ s=fJ (ev e x) lc s:=rfl
theorem cw (c a b:Operand):dN Q f ⟨d,.pick c a b,g⟩ mk ⟨e,sz,lc⟩ s=fJ (sl e c a b) lc s:=rfl
theorem fH (t:TypeId):dN Q f ⟨d,.alloc t,g⟩ mk ⟨e,sz,lc⟩ s=(eK Q.P t).bind fun z=>n7 (mn (Q.hint f) d) d z.cells lc s:=rfl
theorem ja (t:TypeId) (x:Operand):dN Q f ⟨d,.box t x,g⟩ mk ⟨e,sz,lc⟩ s=(evc e x).bind fun a=>n7 (mn (Q.hint f) d) d a.cells lc s:=rfl
theorem kL (t:TypeId) (ps:Array (Nat×Operand)):dN Q f ⟨d,.build t ps,g⟩ mk ⟨e,sz,lc⟩ s=fJ (fY Q.P t ps.toList e) lc s:=rfl
theorem kM (t:TypeId) (n:Nat) (ps:Array (Nat×Operand)):dN Q f ⟨d,.buildSlice t n ps,g⟩ mk ⟨e,sz,lc⟩ s=gR (dR Q.P t n ps.toList (aY (mn (Q.hint f) d) 2) e s) lc:=rfl
theorem bf (t:TypeId) (a:Operand):dN Q f ⟨d,.load t a,g⟩ mk ⟨e,sz,lc⟩ s=(ev e a).bind fun a=>fJ (kK Q.P mk t a lc s) lc s:=rfl
theorem dJ (t:TypeId) (a x:Operand):dN Q f ⟨d,.store t a x,g⟩ mk ⟨e,sz,lc⟩ s=(ev e a).bind fun a=>(evc e x).bind fun x=>(pq Q.P mk t a x lc s).bind fun r=>some (gX,r.1,r.2):=rfl
theorem aW (o:BinOp) (t u:TypeId) (x y:Operand):dN Q f ⟨d,.binOp o t x y u,g⟩ mk ⟨e,sz,lc⟩ s=(evc e x).bind fun x=>(evc e y).bind fun y=>fJ (fR Q.P o t x y) lc s:=rfl
theorem eW (o:UnOp) (t:TypeId) (x:Operand):dN Q f ⟨d,.unOp o t x,g⟩ mk ⟨e,sz,lc⟩ s=(evc e x).bind fun a=>fJ (wd o a) lc s:=rfl
theorem b7 (t:TypeId) (x:Operand) (i:Nat):dN Q f ⟨d,.fieldAddr t x i,g⟩ mk ⟨e,sz,lc⟩ s=(ev e x).bind fun a=>fJ (fE Q.P lc t a i) lc s:=rfl
theorem RV (t:TypeId) (x i:Operand):dN Q f ⟨d,.index t x i,g⟩ mk ⟨e,sz,lc⟩ s=(evc e x).bind fun x=>(ev e i).bind fun i=>fJ (pR Q.P t x i) lc s:=rfl
theorem ec (t:TypeId) (x i:Operand):dN Q f ⟨d,.indexAddr t x i,g⟩ mk ⟨e,sz,lc⟩ s=(ev e x).bind fun x=>(ev e i).bind fun i=>fJ (iq Q.P lc t x i) lc s:=rfl
theorem RX (t:TypeId) (x:Operand) (lo hi mx:Option Operand):dN Q f ⟨d,.slice t x lo hi mx,g⟩ mk ⟨e,sz,lc⟩ s=(evc e x).bind fun a=>fJ (jH Q.P mk t a lo hi mx e s) lc s:=rfl
theorem lp (t:TypeId) (x i:Operand) (ok:Bool):dN Q f ⟨d,.lookup t x i ok,g⟩ mk ⟨e,sz,lc⟩ s=(evc e x).bind fun x=>(evc e i).bind fun i=>fJ (lk Q.P mk t x i ok s) lc s:=rfl
theorem tL (t:TypeId) (m k x:Operand):dN Q f ⟨d,.mapUpdate t m k x,g⟩ mk ⟨e,sz,lc⟩ s=(evc e m).bind fun m=>(evc e k).bind fun k=>(evc e x).bind fun x=>lr (lB Q.P mk t m k x s) lc:=rfl
theorem vH (t:TypeId) (r:Option Operand):dN Q f ⟨d,.makeMap t r,g⟩ mk ⟨e,sz,lc⟩ s=gR (lX Q.P t e r s) lc:=rfl
theorem vG (fn:Fn) (a b:Array Operand):dN Q f ⟨d,.makeFunc fn a b,g⟩ mk ⟨e,sz,lc⟩ s=fJ (oe e fn a b) lc s:=rfl
theorem fI (x:Operand):dN Q f ⟨d,.nilCheck x,g⟩ mk ⟨e,sz,lc⟩ s=(ev e x).bind fun a=>fJ (si lc a) lc s:=rfl
theorem ii (x:Operand) (i:Nat):dN Q f ⟨d,.extract x i,g⟩ mk ⟨e,sz,lc⟩ s=(ev e x).bind fun a=>fJ (gu i a) lc s:=rfl
theorem cL (b:Builtin) (as:Array Operand) (ts:Array TypeId):dN Q f ⟨d,.call ⟨.builtin b,as,ts⟩,g⟩ mk ⟨e,sz,lc⟩ s=
 (evcs e as.toList).bind fun args=>gR (ld Q.P mk b ts.toList (aY (mn (Q.hint f) d) 2) args s) lc:=rfl
theorem dc (x:Operand) (as:Array Operand) (ts:Array TypeId):dN Q f ⟨d,.call ⟨.value x,as,ts⟩,g⟩ mk ⟨e,sz,lc⟩ s=
 (callee e ⟨.value x,as,ts⟩).bind fun g=>(Q.spec g.1).bind fun sp=>(sp g.2).bind fun v=>some (v,lc,s):=rfl
theorem db (n:FuncId) (as:Array Operand) (ts:Array TypeId):callee e ⟨.value (.func n),as,ts⟩=(evcs e as.toList).bind fun args=>some (n,args):=by
 simp only [callee,ev,ak,List.nil_append,im]
end
theorem aj (e:bc) (t:Nat):ev e (.tmp t)=some (aq e t):=rfl
theorem aI (e:bc) (v:Value):ev e (.const v)=ofValue v:=rfl
theorem eH (e:bc) (n:FuncId):ev e (.func n)=some (.func (.func n) [] []):=rfl
theorem be (e:bc):evcs e []=some []:=rfl
theorem bh (e:bc) (x:Operand) (l:List Operand):evcs e (x::l)=(evc e x).bind fun v=>(evcs e l).bind fun r=>some (v::r):=rfl
theorem bJ (b:Bool):ofValue (.bool b)=some (.bool b):=rfl
theorem bo (k:IntKind) (n:Int):ofValue (.int k n)=some (.int k n):=rfl
theorem hQ (s:Array UInt8):ofValue (.string ⟨s⟩)=some (.str s.toList):=rfl
theorem eM (t:Tmp) (cs:List ai) (lc:Loc) (s:St):n7 1 (some t) cs lc s=some (.lref t (lc.gen t+1) 0,lc.set t (lc.gen t+1) cs,s):=rfl
theorem iA (d:Option Tmp) (cs:List ai) (lc:Loc) (s:St):n7 0 d cs lc s=some (.ptr s.next 0,lc,s.new (.cells cs)):=rfl
theorem bU (P:Program) (mk:bj) (t:TypeId) (l g off:Nat) (lc:Loc) (s:St):kK P mk t (.lref l g off) lc s=(lc.get l g).bind fun cs=>eN P t cs off:=rfl
theorem eI (P:Program) (mk:bj) (t:TypeId) (cs:List ai) (lc:Loc) (s:St):kK P mk t (.ro cs) lc s=eN P t cs 0:=rfl
theorem cZ (a b:Nat):du (a:Int) (b:Int)=decide (a<b):=by simp [du]
theorem qK (a b:Nat):ig (a:Int) (b:Int)=decide (a≤b):=by simp [ig]
theorem qJ (a b:Nat):bL (a:Int) (b:Int)=(a==b):=by
 simp only [bL]
 cases h:a==b with
 |true=>have:a=b:=by simpa using h
        subst this;simp
 |false=>
  have:a≠b:=by simpa using h
  exact beq_eq_false_iff_ne.2 fun e=>this (Int.ofNat.inj e)
theorem eC {z:Int} (h1: -9223372036854775808≤z) (h2:z<9223372036854775808):IntKind.i64.wrap z=z:=by
 rw [IntKind.wrap_i64]
 omega
def St.top (s:St):St:=⟨s.heap,s.next,s.next,s.ci⟩
def WQ (Q:ck) (f:FuncId) (s:St):List au→Fr→(Fr→Prop)→Prop
 | [],fr,N=>N fr
 |o::l,fr,N=>(ik fr.env o.g=true∧ ∃v lc fr',dN Q f o [] fr s=some (v,lc,s)∧isStore o.op=false∧d7 fr o.dst v lc=some fr'∧WQ Q f s l fr' N)∨
   (ik fr.env o.g=false∧ ∃fr',d7 fr o.dst gX fr.loc=some fr'∧WQ Q f s l fr' N)
def calm (rs:List dQ):Prop:= ∀r∈rs,r.c0=r.c1∧r.loud=false
theorem EC {rs:List dQ} (h:calm rs) (b:Nat):iU b rs []=[]:=by
 induction rs with
 |nil=>rfl
 |cons r rs ih=>
  have:=h r (by simp)
  simp only [iU,this.1,aU,bS,Bool.or_true,cT]
  exact ih fun r hr=>h r (by simp [hr])
theorem Cj {rs:List dQ} (h:calm rs) (b:Nat) (ft:fM):fits b ft false rs=true:=by
 simp only [fits,mP]
 intro r hr
 simp [(h r hr).2]
theorem WQ.draw {s:St} (hm:s.minw≤s.next): ∀ {l:List au} {bs:List Nat} {rs:List dQ} {i:Nat} {fr:Fr} {N:Fr→Prop},calm rs→WQ Q f s.top l fr N→ ∃fr',sr Q f bs rs i l fr s=some (fr',s)∧N fr'
 | [],bs,rs,i,fr,N,_,h=>⟨fr,rfl,h⟩
 |o::l,bs,rs,i,fr,N,hc,h=>by
  simp only [sr]
  rcases h with⟨hw,v,lc,fr',h1,h2,h3,h4⟩|⟨hw,fr',h3,h4⟩
  ·rw [hw,EC hc]
   have h1:dN Q f o [] fr ⟨s.heap,s.next,s.next,s.ci⟩=some (v,lc,⟨s.heap,s.next,s.next,s.ci⟩):=h1
   simp only [cT,h1,ak,h2,oH]
   have hb:bP s.next s.next=false:=by rw [cP];simp
   have hl:s.least ⟨s.heap,s.next,s.next,s.ci⟩=s:=by
    have:cr s.minw s.next=true:=ew hm
    simp [St.least,this]
   rw [hb,Cj hc,aU,bS]
   simp only [dB,cT,h3,ak,hl]
   exact WQ.draw hm (fun r hr=>by
    rcases List.mem_cons.1 hr with rfl|hr
    ·exact⟨rfl,rfl⟩
    ·exact hc r hr) h4
  ·rw [hw]
   simp only [cF,h3,ak]
   exact WQ.draw hm hc h4
theorem W.drawQ {ops:List au} {bs:List Nat} {fr:Fr} {s:St} {K:Ex→Fr→St→Prop} (hm:s.minw≤s.next) (h:WQ Q f s.top ops fr fun fr'=>K .normal fr' s):W Q f (.draw ops bs) fr s K:=
 let⟨_,h1,h2⟩:=WQ.draw hm (fun _ hr=>by cases hr) h;W.draw h1 h2
theorem W.sdrawQ {ops:List au} {bs:List Nat} {c:SC} {fr:Fr} {s:St} {K:Ex→Fr→St→Prop} (hm:s.minw≤s.next) (h:WQ Q f s.top ops fr fun fr'=>W Q f c fr' s K):W Q f (.seq (.draw ops bs) c) fr s K:=W.seq (W.drawQ hm h)
def AH (Q:ck) (f:FuncId) (s:St) (d:Tmp) (st:Bool) (e:bc) (sz:Nat) (l:List au) (N:Fr→Prop) (x:Option (ai×Loc×St)):Prop:= ∃v lc,x=some (v,lc,s)∧st=false∧d<sz∧WQ Q f s l ⟨e.set d (some v),sz,lc⟩ N
theorem fu {s:St} {d:Tmp} {st:Bool} {e:bc} {sz:Nat} {l:List au} {N:Fr→Prop} {v:ai} {lc:Loc}:AH Q f s d st e sz l N (some (v,lc,s))=(st=false∧d<sz∧WQ Q f s l ⟨e.set d (some v),sz,lc⟩ N):=by
 apply propext
 constructor
 ·rintro⟨v',lc',h,h1,h2,h3⟩
  simp only [a7,bK] at h
  obtain⟨rfl,rfl,_⟩:=h;exact⟨h1,h2,h3⟩
 ·rintro⟨h1,h2,h3⟩;exact⟨v,lc,rfl,h1,h2,h3⟩
def FR (Q:ck) (f:FuncId) (s:St) (o:au) (d:Tmp) (e:bc) (sz:Nat) (lc:Loc) (l:List au) (N:Fr→Prop):Bool→Prop
 |true=>AH Q f s d (isStore o.op) e sz l N (dN Q f o [] ⟨e,sz,lc⟩ s)
 |false=>d<sz∧WQ Q f s l ⟨e.set d (some gX),sz,lc⟩ N
theorem qi {s:St} {o:au} {d:Tmp} {e:bc} {sz:Nat} {lc:Loc} {l:List au} {N:Fr→Prop}:FR Q f s o d e sz lc l N true=AH Q f s d (isStore o.op) e sz l N (dN Q f o [] ⟨e,sz,lc⟩ s):=rfl
theorem sJ {s:St} {o:au} {d:Tmp} {e:bc} {sz:Nat} {lc:Loc} {l:List au} {N:Fr→Prop}:FR Q f s o d e sz lc l N false=(d<sz∧WQ Q f s l ⟨e.set d (some gX),sz,lc⟩ N):=rfl
theorem ij {e:bc} {sz:Nat} {lc:Loc} {d:Tmp} {v:ai} {lc':Loc} {fr':Fr}:d7 ⟨e,sz,lc⟩ (some d) v lc'=some fr'↔d<sz∧fr'=⟨e.set d (some v),sz,lc'⟩:=by
 simp only [d7,cP]
 by_cases h:d<sz
 ·simp [h,eq_comm]
 ·simp [h]
theorem fh {s:St} {fr:Fr} {N:Fr→Prop}:WQ Q f s [] fr N=N fr:=rfl
theorem fg {s:St} {d:Tmp} {op:Op} {l:List au} {e:bc} {sz:Nat} {lc:Loc} {N:Fr→Prop}:
 WQ Q f s (⟨some d,op,.aw⟩::l) ⟨e,sz,lc⟩ N=AH Q f s d (isStore op) e sz l N (dN Q f ⟨some d,op,.aw⟩ [] ⟨e,sz,lc⟩ s):=by
 apply propext
 constructor
 ·rintro(⟨_,v,lc',fr',h1,h2,h3,h4⟩|⟨hw,_⟩)
  ·obtain⟨hd,rfl⟩:=ij.1 h3
   exact⟨v,lc',h1,h2,hd,h4⟩
  ·cases hw
 ·rintro⟨v,lc',h1,h2,hd,h4⟩
  exact .inl ⟨rfl,v,lc',_,h1,h2,ij.2 ⟨hd,rfl⟩,h4⟩
theorem nT {s:St} {d:Tmp} {op:Op} {t:Tmp} {b:Bool} {l:List au} {e:bc} {sz:Nat} {lc:Loc} {N:Fr→Prop}:
 WQ Q f s (⟨some d,op,.when t b⟩::l) ⟨e,sz,lc⟩ N=FR Q f s ⟨some d,op,.when t b⟩ d e sz lc l N (oE (aq e t) b):=by
 apply propext
 constructor
 ·rintro(⟨hw,v,lc',fr',h1,h2,h3,h4⟩|⟨hw,fr',h3,h4⟩)
  ·have hw:ik e (.when t b)=true:=hw
   rw [ua] at hw
   obtain⟨hd,rfl⟩:=ij.1 h3
   rw [hw]
   exact⟨v,lc',h1,h2,hd,h4⟩
  ·have hw:ik e (.when t b)=false:=hw
   rw [ua] at hw
   obtain⟨hd,rfl⟩:=ij.1 h3
   rw [hw]
   exact⟨hd,h4⟩
 ·intro h
  cases hw:oE (aq e t) b with
  |true=>
   rw [hw] at h
   obtain⟨v,lc',h1,h2,hd,h4⟩:=h
   exact .inl ⟨by show ik e (.when t b)=true;rw [ua,hw],v,lc',_,h1,h2,ij.2 ⟨hd,rfl⟩,h4⟩
  |false=>
   rw [hw] at h
   exact .inr ⟨by show ik e (.when t b)=false;rw [ua,hw],_,ij.2 ⟨h.1,rfl⟩,h.2⟩
theorem br.of2 {fn:Func} {sc:SC} {n:Nat} {rs:List ResultVar} {args:List ai} {v:ai} {s s':St} (hf:Q.P.funcs[f]? =some fn) (hc:fn.body.map cy=some sc) (hn:fn.ntmps=n) (hr:fn.results.toList=rs) (hsp:Q.spec f=none)
 (h:W Q f sc (dg n args) s fun x fr' s1=>s1=s'∧(x= .normal∨x= .ret)∧ ∃vs,gh Q [] fr' s1 rs=some vs∧jw vs=v) (hH:Q.specH f=none:=by rfl) (hW:Q.specW f=none:=by rfl):br Q f args s v s':=by
 cases hb:fn.body with
 |none=>rw [hb] at hc;cases hc
 |some c=>
  rw [hb] at hc
  simp only [Option.map_some,a7] at hc
  subst hn;subst hr
  exact br.of hf hb hsp hc h hH hW
theorem cp {fr:Fr} {s:St} {t:Tmp} {v:ai} (h:aq fr.env t=v) (hc:v.clean=true): ∃vs,gh Q [] fr s [.tmp t]=some vs∧jw vs=v:=by
 refine⟨[v],?_,rfl⟩
 simp only [gh,vQ,evc,ev,h,ak,hc,cT]
theorem xw {b:Nat} {rs:List dQ} (h: ∀r∈rs,b.testBit r.i=true∨r.c0=r.c1):iU b rs []=[]:=by
 induction rs with
 |nil=>rfl
 |cons r rs ih=>
  have h1:(b.testBit r.i||aY r.c0 r.c1)=true:=by
   rcases h r (by simp) with h|h
   ·rw [h];rfl
   ·rw [h,EV,Bool.or_true]
  simp only [iU,h1,cT]
  exact ih fun r hr=>h r (by simp [hr])
theorem wT {b:Nat} {ft:fM} {loud:Bool} {rs:List dQ} (h: ∀r∈rs,b.testBit r.i=true):fits b ft loud rs=true:=by
 simp only [fits,mP]
 intro r hr
 rw [h r hr];rfl
theorem HG {b:Nat} {ft:fM} {rs:List dQ} (h: ∀r∈rs,r.loud=false):fits b ft false rs=true:=by
 simp only [fits,mP]
 intro r hr
 simp [h r hr]
theorem jj.full {b i:Nat} {bs:List Nat} {rs:List dQ} {o:au} {l:List au} {fr fr1 fr2:Fr} {s s1 s2:St} {v:ai} {lc:Loc} (hb: ∀j,j<i→b.testBit j=true) (hi: ∀r∈rs,r.i<i) (hw:ik fr.env o.g=true)
 (hpl:dN Q f o [] fr s.top=some (v,lc,s1)) (hci:s1.ci=s.ci) (hp:d7 fr o.dst v lc=some fr1) (hk: ∀rc:dQ,rc.i=i→jj Q f bs (rc::rs) (i+1) l fr1 (s.least s1) fr2 s2):jj Q f (b::bs) rs i (o::l) fr s fr2 s2:=by
 refine .step hw (v:=v) (lc:=lc) (s1:=s1) ?_ (wT fun r hr=>hb _ (hi r hr)) hci hp (hk _ rfl)
 show dN Q f o (iU b rs []) fr s.top=_
 rw [xw fun r hr=>.inl (hb _ (hi r hr))]
 exact hpl
theorem jj.hush {b i:Nat} {bs:List Nat} {rs:List dQ} {o:au} {l:List au} {fr fr1 fr2:Fr} {s s1 s2:St} {v:ai} {lc:Loc} (hq: ∀r∈rs,r.loud=false) (hst:isStore o.op=false) (hmw:s.next≤s1.minw) (hw:ik fr.env o.g=true)
 (hpl: ∀mk,dN Q f o mk fr s.top=some (v,lc,s1)) (hci:s1.ci=s.ci) (hp:d7 fr o.dst v lc=some fr1) (hk: ∀rc:dQ,rc.i=i→rc.loud=false→jj Q f bs (rc::rs) (i+1) l fr1 (s.least s1) fr2 s2):jj Q f (b::bs) rs i (o::l) fr s fr2 s2:=by
 have hl:(bP s1.minw s.next||isStore o.op)=false:=by
  rw [hst,oH,cP]
  exact decide_eq_false (by omega)
 refine .step hw (v:=v) (lc:=lc) (s1:=s1) (hpl _) (by rw [hl];exact HG hq) hci hp (hk _ rfl hl)
theorem lU {s:St} (hm:s.minw≤s.next):s.least s.top=s:=by
 have:cr s.minw s.next=true:=ew hm
 simp [St.least,St.top,this]
theorem Ev {s:St} (hm:s.minw≤s.next) (o:bE):s.least (s.top.new o)=s.new o:=by
 have:cr s.minw s.next=true:=ew hm
 simp [St.least,St.top,St.new,this]
theorem W.drawR {ops:List au} {bs:List Nat} {fr fr1:Fr} {s s1:St} {K:Ex→Fr→St→Prop} (h:jj Q f bs [] 0 ops fr s fr1 s1) (hk:K .normal fr1 s1):W Q f (.draw ops bs) fr s K:=⟨_,_,_,.draw h,hk⟩
theorem WQ.thenD {s:St} (hm:s.minw≤s.next) {l2:List au} {N:Fr→St→Prop}: ∀ {l1:List au} {bs:List Nat} {rs:List dQ} {i:Nat} {fr:Fr},calm rs→(∀r∈rs,r.i<i)→
 WQ Q f s.top l1 fr (fun fr1=> ∀rs1,calm rs1→(∀r∈rs1,r.i<i+l1.length)→ ∃fr' s',jj Q f (bs.drop l1.length) rs1 (i+l1.length) l2 fr1 s fr' s'∧N fr' s')→ ∃fr' s',jj Q f bs rs i (l1++l2) fr s fr' s'∧N fr' s'
 | [],bs,rs,i,fr,hc,hi,h=>h rs hc hi
 |o::l,bs,rs,i,fr,hc,hi,h=>by
  have hdrop: ∀(bs:List Nat) (n:Nat),bs.tail.drop n=bs.drop (n+1):=fun bs n=>by cases bs<;>simp
  rcases h with⟨hw,v,lc,fr',h1,h2,h3,h4⟩|⟨hw,fr',h3,h4⟩
  ·have hl:(bP s.top.minw s.next||isStore o.op)=false:=by
    rw [h2,oH,cP]
    exact decide_eq_false (by show¬s.next<s.next;omega)
   obtain⟨fr2,s2,q1,q2⟩:=WQ.thenD (l2:=l2) (N:=N) hm (l1:=l) (bs:=bs.tail) (rs:=⟨i,s.next,s.next,dr (Q.hint f) o.dst fr.env o.op,false⟩::rs) (i:=i+1) (fr:=fr')
    (fun r hr=>by
     rcases List.mem_cons.1 hr with rfl|hr
     ·exact⟨rfl,rfl⟩
     ·exact hc r hr) (fun r hr=>by
     rcases List.mem_cons.1 hr with rfl|hr
     ·exact Nat.lt_succ_self _
     ·exact mS (hi r hr)) (by
     rw [hdrop]
     have e:i+1+l.length=i+(o::l).length:=by simp only [aK];omega
     rw [e];exact h4)
   refine⟨fr2,s2,.step hw (v:=v) (lc:=lc) (s1:=s.top) ?_ (by rw [hl];exact Cj hc _ _) rfl h3 ?_,q2⟩
   ·rw [EC hc];exact h1
   ·rw [hl,lU hm];exact q1
  ·obtain⟨fr2,s2,q1,q2⟩:=WQ.thenD (l2:=l2) (N:=N) hm (l1:=l) (bs:=bs.tail) (rs:=rs) (i:=i+1) (fr:=fr') hc (fun r hr=>mS (hi r hr)) (by
    rw [hdrop]
    have e:i+1+l.length=i+(o::l).length:=by simp only [aK];omega
    rw [e];exact h4)
   exact⟨fr2,s2,.skip hw h3 q1,q2⟩
end
end Go.Ag
