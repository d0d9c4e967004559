/- Contracts out of evaluations and walks. -/
import Derived.Test.YtnnppcoplinajaaGreatAg2
set_option linter.defProp false
open Bool renaming and_eq_true→bA,and_self→cH,and_true→rr,not_eq_true'→qC,or_eq_true→sU,or_false→jL
open Go.Ag.dj renaming meets→w9
open List renaming all_cons→ma,all_eq_true→fY,append_nil→ii,getElem?_of_mem→HI,length_cons→cP,map_cons→dG,mem_cons→cQ,mem_of_getElem?→ku
open List.cons renaming injEq→pE
open Nat renaming beq→aJ,ble_eq_true_of_le→cu,ble→br,blt→bk,eq_of_beq_eq_true→iw,le_max_left→qF,le_max_right→rD,le_of_ble_eq_true→eG,lt_succ_of_lt→nQ,lt_succ_self→fK,reduceBEq→aa
open Option renaming bind_eq_some_iff→az,bind_some→bn,map_eq_some_iff→HN,none_or→ul,some_or→AP
open Option.some renaming injEq→aP
open Prod.mk renaming injEq→bj
namespace Go.Ag
mutual
def aQ:ae->Bool
 | .agg cs=>pures cs
 | .tup cs=>pures cs
 | .ptr _ _=>false
 | .Ge _ _ _=>false
 | .ro cs=>pures cs
 | .list _ xs r=>pures xs&&(match r with| .own _=>false|_=>true)
 | .arr _ _ _ _ _=>false
 | .map _=>false
 | .func _ a b=>pures a&&pures b
 | .iface _ v=>aQ v
 | .yld _=>false
 | .roz _=>false
 |_=>true
def pures:List ae->Bool
 | []=>true
 |v::l=>aQ v&&pures l
end
mutual
def weak:ae->ae
 | .agg cs=>.agg (ej cs)
 | .tup cs=>.tup (ej cs)
 | .ro cs=>.ro (ej cs)
 | .list n xs r=>.list n (ej xs) (match r with| .own _=>.no|r=>r)
 | .func f a b=>.func f (ej a) (ej b)
 | .iface t v=>.iface t (weak v)
 |v=>v
def ej:List ae->List ae
 | []=>[]
 |v::l=>weak v::ej l
end
variable{l:List ae}
def pures_all:pures l=true↔ ∀v∈l,aQ v=true:=by
 induction l with
 |nil=>simp[pures]
 |cons v l ih=>simp[pures,ih]
mutual
def MH: ∀ {v:ae},aQ v=true->weak v=v
 | .agg cs,h=>by simp only[aQ] at h;simp only[weak,gK h]
 | .tup cs,h=>by simp only[aQ] at h;simp only[weak,gK h]
 | .ro cs,h=>by simp only[aQ] at h;simp only[weak,gK h]
 | .list n xs r,h=>by
   simp only[aQ,bA] at h;simp only[weak,gK h.1];cases r<;>first|rfl|(simp at h)
 | .func f a b,h=>by
   simp only[aQ,bA] at h;simp only[weak,gK h.1,gK h.2]
 | .iface t v,h=>by simp only[aQ] at h;simp only[weak,MH h]
 | .bool _,_=>rfl
 | .int _ _,_=>rfl
 | .str _,_=>rfl
 | .nilp,_=>rfl
 | .ptr _ _,h=>by simp[aQ] at h
 | .Ge _ _ _,h=>by simp[aQ] at h
 | .AL,_=>rfl
 | .arr _ _ _ _ _,h=>by simp[aQ] at h
 | .nilm,_=>rfl
 | .map _,h=>by simp[aQ] at h
 | .nilf,_=>rfl
 | .nili,_=>rfl
def gK: ∀ {l:List ae},pures l=true->ej l=l
 | [],_=>rfl
 |v::l,h=>by
  simp only[pures,bA] at h;simp only[ej,MH h.1,gK h.2]
end
variable{v:ae}
def apy(h:v.scal=true):(weak v).scal=true:=by
 cases v<;>simp_all [weak,ae.scal]
def anw(h:dn l=true):dn (ej l)=true:=by
 induction l with
 |nil=>rfl
 |cons v l ih=>
  simp only[dn,ma,bA] at h;simp only[ej,dn,ma,bA];exact⟨apy h.1,ih h.2⟩
variable{i:Nat}
def GY(h:pures l=true)(hi:l[i]? =some v):aQ v=true:=pures_all.1 h v (ku hi)
def Uc(h:pures l=true):pures (bB l)=true:=by
 induction l with
 |nil=>rfl
 |cons v l ih=>
  simp only[pures,bA] at h;have h1:pures v.cells=true:=by
   cases v<;>first
    |(simp only[ae.cells];simpa[aQ] using h.1)
    |(simp only[ae.cells,pures,rr];exact h.1)
  rw[pures_all];intro u hu;simp only[bB,List.mem_append] at hu;rcases hu with hu|hu
  exact pures_all.1 h1 u hu;exact pures_all.1 (ih h.2) u hu
section
variable{G1 G2:Gh}
def AX(G1 G2:Gh):Prop:= ∀b o v,G1.ro b o=some v->aQ v=true->G2.ro b o=some v
mutual
def VR.onto(k:AX G1 G2): ∀ {v:ae} {x:Value},VR G1 v x->aQ v=true->VR G2 v x
 |_,_,.bool b,_=>.bool b
 |_,_,.int k n,_=>.int k n
 |_,_,.str s,_=>.str s
 |_,_,.agg hc hs,h=>.agg hc (bP.onto k hs (by simpa[aQ] using h))
 |_,_,.tup hs,h=>.tup (bP.onto k hs (by simpa[aQ] using h))
 |_,_,.nilp,_=>.nilp
 |_,_,.ptr e,h=>by simp[aQ] at h
 |_,_,.ro e,h=>.ro fun i x hx=>k _ _ _ (e i x hx) (GY (by simpa[aQ] using h) hx)
 |_,_,.AL,_=>.AL
 |_,_,.list (r:=r) a b c d e f,h=>by
  simp only[aQ,bA] at h;refine .list a b c d (fun i x hx=>k _ _ _ (e i x hx) (GY (Uc h.1) hx)) ?_;cases r with
  |GE=>exact f
  |own n=>simp at h
  |no=>exact trivial
 |_,_,.arr ..,h=>by simp[aQ] at h
 |_,_,.nilm,_=>.nilm
 |_,_,.map e,h=>by simp[aQ] at h
 |_,_,.nilf,_=>.nilf
 |_,_,.func a b,h=>by
  simp only[aQ,bA] at h;exact .func (bP.onto k a h.1) (bP.onto k b h.2)
 |_,_,.nili,_=>.nili
 |_,_,.iface e,h=>.iface (VR.onto k e (by simpa[aQ] using h))
def bP.onto(k:AX G1 G2): ∀ {vs:List ae} {xs:List Value},bP G1 vs xs->pures vs=true->bP G2 vs xs
 |_,_,.nil,_=>.nil
 |_,_,.cons a b,h=>by
  simp only[pures,bA] at h;exact .cons (VR.onto k a h.1) (bP.onto k b h.2)
end
end
def Gh.plain(G:Gh):Gh where
 at_ _:=none
 ro b o:=(G.ro b o).bind fun v=>if aQ v=true then some v else none
 dim:=G.dim
def T0(G:Gh):AX G G.plain:=fun b o v h hp=>by simp[Gh.plain,h,hp]
variable{G:Gh}{w:World}{h:aZ bf}
def WR.plain(x:WR G h w):WR G.plain .nil w where
 obj n o h:=by cases h
 sep n m a b h:=absurd rfl h
 ro b o v hv:=by
  simp only[Gh.plain,az] at hv;obtain⟨u,hu,hv⟩:=hv;split at hv;rename_i hp;injection hv with hv;subst hv
  obtain⟨h1,y,h2,h3⟩:=x.ro b o u hu;exact⟨h1,y,h2,h3.onto (T0 G) hp⟩;cases hv
 apart n ob a i v h:=by cases h
 dim:=x.dim
 below n a h:=by cases h
def s0:St:=⟨.nil,0,0,0⟩
def Gu{b:Nat}: ¬d7 G .nil b:=fun⟨_,_,h,_⟩=>h rfl
def cq(P:Program)(f:FuncId)(sp:List ae->Option ae):Prop:=
 ∀args v,sp args=some v-> ∀(G:Gh) (h:aZ bf) (w:World) (xs:List Value),WR G h w->bP G args xs->
  mh P f ⟨xs⟩ w fun y w'=> ∃G',WR G' h w'/\cM G h w G' h w' 0 0/\VR G' v y
structure s9 (r r':nR):Prop where
 ops: ∀f all mk l fr s x,r.ops f all mk l fr s=some x->r'.ops f all mk l fr s=some x
 draw: ∀f all bs mk rs i l fr s x,r.draw f all bs mk rs i l fr s=some x->r'.draw f all bs mk rs i l fr s=some x
 code: ∀f c mk fr s x,r.code f c mk fr s=some x->r'.code f c mk fr s=some x
 call: ∀f args mk s x,r.call f args mk s=some x->r'.call f args mk s=some x
variable{α:Type}
def jt{β:Type}{x x':Option α}{k k':α->Option β}{b:β}(h:x.bind k=some b)(hx: ∀a,x=some a->x'=some a)(hk: ∀a,k a=some b->k' a=some b):x'.bind k'=some b:=by
 cases e:x with
 |none=>rw[e] at h;cases h
 |some a=>rw[e] at h;rw[hx a e];exact hk a h
variable{fr:Fr}{f:FuncId}{args:List ae}{n:Nat}{o:Oper}{mk:aW}
section
variable{Q:bF}{r r':nR}(hr:s9 r r')
include hr
def V9{s:St}{x:ae×St}(h:nc r n args mk s=some x):nc r' n args mk s=some x:=by
 unfold nc at h ⊢;refine jt h (fun _ h=>h) fun o h=>jt h (fun y h=>?_) fun _ h=>h;unfold yI at h ⊢;split at h;obtain⟨hb,h⟩:=bm h;rw[hb];refine jt h (fun _ h=>h) fun env' h=>jt h (fun _ h=>hr.code _ _ _ _ _ _ h) fun y1 h=>?_;obtain⟨e,fr1,s1⟩:=y1;cases e with
 |normal=>exact jt h (fun _ h=>hr.code _ _ _ _ _ _ h) fun _ h=>h
 |exit i=>cases h
 |ret=>cases h
 cases h
def TK{s:St}{x:ae×Loc×St}(h:fw Q r f o mk fr s=some x):fw Q r' f o mk fr s=some x:=by
 unfold fw at h ⊢;split at h;split at h;exact h;rename_i c _ _ _;cases hy:n9 fr.env c with
 |true=>
  rw[hy] at h;simp only[cT] at h ⊢;unfold rq at h ⊢;exact jt h (fun _ h=>h) fun a h=>jt h (fun _ h=>V9 hr h) fun _ h=>h
 |false=>
  rw[hy] at h;simp only[cF] at h ⊢;unfold nm at h ⊢;exact jt h (fun _ h=>h) fun a h=>jt h (fun _ h=>hr.call _ _ _ _ _ h) fun _ h=>h
 exact h
def abX:s9 (Jg Q r) (Jg Q r') where
 ops f all mk l fr s x h:=by
  have h:mF Q r f all mk l fr s=some x:=h;show mF Q r' f all mk l fr s=some x;unfold mF at h ⊢;split at h;exact h;cases hw:eD all fr.env _<;>rw[hw] at h<;>simp only[cT,cF] at h ⊢;exact jt h (fun _ h=>h) fun _ h=>hr.ops _ _ _ _ _ _ _ h;exact jt h (fun _ h=>TK hr h) fun a h=>jt h (fun _ h=>h) fun _ h=>hr.ops _ _ _ _ _ _ _ h
 draw f all bs mk rs i l fr s x h:=by
  have h:ns Q r f all bs mk rs i l fr s=some x:=h;show ns Q r' f all bs mk rs i l fr s=some x;unfold ns at h ⊢;split at h;exact h;cases hw:eD all fr.env _<;>rw[hw] at h<;>simp only[cT,cF] at h ⊢;exact jt h (fun _ h=>h) fun _ h=>hr.draw _ _ _ _ _ _ _ _ _ _ h;refine jt h (fun _ h=>TK hr h) fun a h=>?_;obtain⟨hc,h⟩:=bm h;rw[hc];exact jt h (fun _ h=>h) fun _ h=>hr.draw _ _ _ _ _ _ _ _ _ _ h
 code f c mk fr s x h:=by
  have h:vV Q r f c mk fr s=some x:=h;show vV Q r' f c mk fr s=some x;have hseq: ∀b y,pw r f b mk y=some x->pw r' f b mk y=some x:=by
   intro b y hy;obtain⟨e,fr1,s1⟩:=y;cases e;exact hr.code _ _ _ _ _ _ hy;exact hy;exact hy
  cases c<;>simp only[vV] at h ⊢ <;>first
   |exact h
   |exact jt h (fun _ h=>hr.code _ _ _ _ _ _ h) fun _ h=>hseq _ _ h
   |exact jt h (fun _ h=>hr.code _ _ _ _ _ _ h) fun _ h=>h
   |exact hr.code _ _ _ _ _ _ h
   |skip
  case cond=>
   refine jt h (fun _ h=>h) fun v h=>?_;cases v<;>try (cases h;done)
   rename_i b;cases b<;>exact hr.code _ _ _ _ _ _ h
  case rangeFunc=>
   refine jt h (fun _ h=>h) fun v h=>?_;unfold vn at h ⊢;split at h;obtain⟨hb,h⟩:=bm h;rw[hb];exact jt h (fun _ h=>hr.call _ _ _ _ _ h) fun _ h=>h;cases h
  case region=>
   rename_i id ops draw _;unfold G5 at h ⊢;refine jt h (fun a h=>?_) fun _ h=>h;cases draw with
   |false=>exact hr.ops _ _ _ _ _ _ _ h
   |true=>
    simp only[cT] at h ⊢;obtain⟨hc,h⟩:=bm h;rw[hc];exact hr.draw _ _ _ _ _ _ _ _ _ _ h
 call f args mk s x h:=by
  have h:kE Q r f args mk s=some x:=h;show kE Q r' f args mk s=some x;unfold kE at h ⊢;split at h;exact h;split at h;exact h;split at h;exact h;exact jt h (fun _ h=>h) fun fn h=>jt h (fun _ h=>h) fun c h=>jt h (fun _ h=>hr.code _ _ _ _ _ _ h) fun _ h=>h
end
def Sx(Q:bF): ∀n,s9 (cd Q n) (cd Q (n+1))
 |0=>⟨fun _ _ _ _ _ _ _ h=>(by cases h),fun _ _ _ _ _ _ _ _ _ _ h=>(by cases h),fun _ _ _ _ _ _ h=>(by cases h),fun _ _ _ _ _ h=>(by cases h)⟩
 |n+1=>abX (Sx Q n)
def s9.refl(r:nR):s9 r r:=⟨fun _ _ _ _ _ _ _ h=>h,fun _ _ _ _ _ _ _ _ _ _ h=>h,fun _ _ _ _ _ _ h=>h,fun _ _ _ _ _ h=>h⟩
def s9.trans{a b c:nR}(x:s9 a b)(y:s9 b c):s9 a c:=
 ⟨fun _ _ _ _ _ _ _ h=>y.ops _ _ _ _ _ _ _ (x.ops _ _ _ _ _ _ _ h),fun _ _ _ _ _ _ _ _ _ _ h=>y.draw _ _ _ _ _ _ _ _ _ _ (x.draw _ _ _ _ _ _ _ _ _ _ h),
  fun _ _ _ _ _ _ h=>y.code _ _ _ _ _ _ (x.code _ _ _ _ _ _ h),fun _ _ _ _ _ h=>y.call _ _ _ _ _ (x.call _ _ _ _ _ h)⟩
def og(Q:bF){m:Nat}(h:n<=m):s9 (cd Q n) (cd Q m):=by
 induction m with
 |zero=>have:n=0:=by omega
        subst this;exact .refl _
 |succ m ih=>
  by_cases e:n=m+1;subst e;exact .refl _;exact(ih (by omega)).trans (Sx Q m)
inductive SG where
 |aw
 |never
 |when (t:Tmp) (b:Bool)
structure aB where
 dst:Option Tmp
 op:Op
 g:SG
abbrev He(d:Tmp)(o:Op):aB:=⟨some d,o,.aw⟩
abbrev sOw(d:Tmp)(o:Op)(n:Tmp)(b:Bool):aB:=⟨some d,o,.when n b⟩
abbrev SOl:=List aB
def JD(all:Array Oper)(o:Oper):SG:=
 match o.guard with
 |none=>.aw
 |some (j,w)=>match(all[j]?).bind (·.dst) with
  |some d=>.when d w
  |none=>.never
def qA(all:Array Oper)(o:Oper):aB:=⟨o.dst,o.op,JD all o⟩
inductive SC where
 |skip
 |ret
 |exit (id:Nat)
 |seq (a b:SC)
 |cond (x:Operand) (a b:SC)
 |block (id:Nat) (b:SC)
 |scope (b:SC)
 |loop (b:SC)
 |region (ops:List aB)
 |draw (ops:List aB) (bs:List Nat)
 |rfun (g:Operand) (ps:List Tmp) (a b:Code)
 |bad
def fP:Code->SC
 | .skip=>.skip
 | .label _=>.skip
 | .ret=>.ret
 | .exit id=>.exit id
 | .seq a b=>.seq (fP a) (fP b)
 | .cond x a b=>.cond x (fP a) (fP b)
 | .block id b=>.block id (fP b)
 | .scope b=>.scope (fP b)
 | .loop b=>.loop (fP b)
 | .region _ ops false=>.region (ops.toList.map (qA ops))
 | .region _ ops true=>bif mO ops 0 ops.toList (Region.before ops).toList then .draw (ops.toList.map (qA ops)) (Region.before ops).toList else .bad
 | .rangeFunc g ps a b=>.rfun g ps.toList a b
 |_=>.bad
noncomputable def fT(e:aI):SG->Bool
 | .aw=>true
 | .never=>false
 | .when t b=>match aj e t with
   | .bool c=>c==b
   |_=>false
def AD(all:Array Oper)(e:aI)(o:Oper):fT e (JD all o)=eD all e o:=by
 unfold JD eD;cases o.guard with
 |none=>rfl
 |some g=>
  obtain⟨j,w⟩:=g;simp only;cases (all[j]?).bind (·.dst)<;>rfl
section
variable(Q:bF)(f:FuncId)
noncomputable def df(o:aB)(mk:aW)(fr:Fr)(s:St):Option (ae×Loc×St):=
 match o.op with
 | .call c=>match c.callee with
   | .builtin _=>tJ Q.P mk (Q.hint f) o.dst c fr s
   |_=>(callee fr.env c).bind fun g=>(Q.spec g.1).bind fun sp=>(sp g.2).bind fun v=>some (v,fr.loc,s)
 |op=>lI Q.P mk Q.ch Q.kmax (Q.hint f) o.dst op fr s
noncomputable def yB(o:aB)(fr:Fr)(s:St):Option (Fr×St):=
 bif fT fr.env o.g then(df Q f o [] fr s).bind fun x=>(di fr o.dst x.1 x.2.1).bind fun fr'=>some (fr',x.2.2)
 else(di fr o.dst fX fr.loc).bind fun fr'=>some (fr',s)
noncomputable def tQ:List aB->Fr->St->Option (Fr×St)
 | [],fr,s=>some (fr,s)
 |o::l,fr,s=>(yB Q f o fr s).bind fun x=>tQ l x.1 x.2
noncomputable def wO(bs:List Nat)(rs:List dr)(i:Nat):List aB->Fr->St->Option (Fr×St)
 | [],fr,s=>some (fr,s)
 |o::l,fr,s=>
  bif fT fr.env o.g then
   (df Q f o (iz (bs.headD 0) rs []) fr ⟨s.heap,s.al,s.al,s.ci⟩).bind fun x=>
    bif fits (bs.headD 0) (bZ (Q.hint f) o.dst fr.env o.op) (bk x.2.2.ge s.al||isStore o.op) rs&&aJ s.ci x.2.2.ci then
     (di fr o.dst x.1 x.2.1).bind fun fr'=>
      wO bs.tail (⟨i,s.al,x.2.2.al,bZ (Q.hint f) o.dst fr.env o.op,bk x.2.2.ge s.al||isStore o.op⟩::rs) (i+1) l fr' (s.Gt x.2.2)
    else none
  else(di fr o.dst fX fr.loc).bind fun fr'=>wO bs.tail rs (i+1) l fr' s
end
def Ex.block(id:Nat):Ex->Ex
 | .exit i=>bif aJ i id then .normal else .exit i
 |x=>x
def aM(Q:bF)(g:FuncId)(args:List ae)(s:St)(v:ae)(s':St):Prop:= ∃n,(cd Q n).call g args [] s=some (v,s')
def te(Q:bF)(n:Nat)(args:List ae)(s:St)(v:ae)(s':St):Prop:= ∃k,nc (cd Q k) n args [] s=some (v,s')
inductive qJ (Q:bF) (f:FuncId):List aB->Fr->St->Fr->St->Prop
 |nil {fr:Fr} {s:St}:qJ Q f [] fr s fr s
 |step {o:aB} {l:List aB} {fr fr1 fr2:Fr} {s s1 s2:St}:yB Q f o fr s=some (fr1,s1)->qJ Q f l fr1 s1 fr2 s2->qJ Q f (o::l) fr s fr2 s2
 |call {o:aB} {c:Call} {l:List aB} {fr fr1 fr2:Fr} {s s1 s2:St} {g:FuncId} {args:List ae} {v:ae}:fT fr.env o.g=true->o.op= .call c->(∀b,c.callee≠ .builtin b)->callee fr.env c=some (g,args)->
  aM Q g args s v s1->di fr o.dst v fr.loc=some fr1->qJ Q f l fr1 s1 fr2 s2->qJ Q f (o::l) fr s fr2 s2
 |yld {o:aB} {c:Call} {l:List aB} {fr fr1 fr2:Fr} {s s1 s2:St} {n:Nat} {args:List ae} {v:ae}:fT fr.env o.g=true->o.op= .call c->yieldee fr.env c=some (n,args)->
  te Q n args s v s1->di fr o.dst v fr.loc=some fr1->qJ Q f l fr1 s1 fr2 s2->qJ Q f (o::l) fr s fr2 s2
def C8(Q:bF)(g:FuncId)(args:List ae)(mk:aW)(s:St)(v:ae)(s':St):Prop:= ∃n,(cd Q n).call g args mk s=some (v,s')
inductive kW (Q:bF) (f:FuncId):List Nat->List dr->Nat->List aB->Fr->St->Fr->St->Prop
 |nil {bs:List Nat} {rs:List dr} {i:Nat} {fr:Fr} {s:St}:kW Q f bs rs i [] fr s fr s
 |skip {bs:List Nat} {rs:List dr} {i:Nat} {o:aB} {l:List aB} {fr fr1 fr2:Fr} {s s2:St}:fT fr.env o.g=false->di fr o.dst fX fr.loc=some fr1->kW Q f bs.tail rs (i+1) l fr1 s fr2 s2->kW Q f bs rs i (o::l) fr s fr2 s2
 |step {bs:List Nat} {rs:List dr} {i:Nat} {o:aB} {l:List aB} {fr fr1 fr2:Fr} {s s1 s2:St} {v:ae} {lc:Loc}:fT fr.env o.g=true->df Q f o (iz (bs.headD 0) rs []) fr ⟨s.heap,s.al,s.al,s.ci⟩=some (v,lc,s1)->
  fits (bs.headD 0) (bZ (Q.hint f) o.dst fr.env o.op) (bk s1.ge s.al||isStore o.op) rs=true->s1.ci=s.ci->di fr o.dst v lc=some fr1->
  kW Q f bs.tail (⟨i,s.al,s1.al,bZ (Q.hint f) o.dst fr.env o.op,bk s1.ge s.al||isStore o.op⟩::rs) (i+1) l fr1 (s.Gt s1) fr2 s2->kW Q f bs rs i (o::l) fr s fr2 s2
 |call {bs:List Nat} {rs:List dr} {i:Nat} {o:aB} {c:Call} {l:List aB} {fr fr1 fr2:Fr} {s s1 s2:St} {g:FuncId} {args:List ae} {v:ae}:fT fr.env o.g=true->o.op= .call c->(∀b,c.callee≠ .builtin b)->callee fr.env c=some (g,args)->
  C8 Q g args (iz (bs.headD 0) rs []) ⟨s.heap,s.al,s.al,s.ci⟩ v s1->
  fits (bs.headD 0) (bZ (Q.hint f) o.dst fr.env o.op) (bk s1.ge s.al||isStore o.op) rs=true->s1.ci=s.ci->di fr o.dst v fr.loc=some fr1->
  kW Q f bs.tail (⟨i,s.al,s1.al,bZ (Q.hint f) o.dst fr.env o.op,bk s1.ge s.al||isStore o.op⟩::rs) (i+1) l fr1 (s.Gt s1) fr2 s2->kW Q f bs rs i (o::l) fr s fr2 s2
def kW.of{Q:bF}{f:FuncId}: ∀ {l:List aB} {bs:List Nat} {rs:List dr} {i:Nat} {fr fr':Fr} {s s':St},wO Q f bs rs i l fr s=some (fr',s')->kW Q f bs rs i l fr s fr' s'
 | [],bs,rs,i,fr,fr',s,s',h=>by
   simp only[wO,aP,bj] at h;obtain⟨rfl,rfl⟩:=h;exact .nil
 |o::l,bs,rs,i,fr,fr',s,s',h=>by
  simp only[wO] at h;cases hw:fT fr.env o.g with
  |true=>
   rw[hw] at h;simp only[cT,az] at h;obtain⟨⟨v,lc,s1⟩,h1,h⟩:=h;obtain⟨hc,h⟩:=bm h;simp only[bA] at hc;simp only[az] at h;obtain⟨fr1,h2,h⟩:=h;exact .step hw h1 hc.1 (iw hc.2).symm h2 (kW.of h)
  |false=>
   rw[hw] at h;simp only[cF,az] at h;obtain⟨fr1,h2,h⟩:=h;exact .skip hw h2 (kW.of h)
inductive js (Q:bF) (f:FuncId):SC->Fr->St->Ex->Fr->St->Prop
 |skip {fr:Fr} {s:St}:js Q f .skip fr s .normal fr s
 |ret {fr:Fr} {s:St}:js Q f .ret fr s .ret fr s
 |exit {id:Nat} {fr:Fr} {s:St}:js Q f (.exit id) fr s (.exit id) fr s
 |seqN {a b:SC} {fr fr1 fr2:Fr} {s s1 s2:St} {x:Ex}:js Q f a fr s .normal fr1 s1->js Q f b fr1 s1 x fr2 s2->js Q f (.seq a b) fr s x fr2 s2
 |seqX {a b:SC} {fr fr1:Fr} {s s1:St} {x:Ex}:js Q f a fr s x fr1 s1->x≠ .normal->js Q f (.seq a b) fr s x fr1 s1
 |cond {o:Operand} {a b:SC} {t:Bool} {fr fr1:Fr} {s s1:St} {x:Ex}:ev fr.env o=some (.bool t)->js Q f (if t then a else b) fr s x fr1 s1->js Q f (.cond o a b) fr s x fr1 s1
 |block {id:Nat} {b:SC} {fr fr1:Fr} {s s1:St} {x:Ex}:js Q f b fr s x fr1 s1->js Q f (.block id b) fr s (x.block id) fr1 s1
 |scope {b:SC} {fr fr1:Fr} {s s1:St} {x:Ex}:js Q f b fr s x fr1 s1->js Q f (.scope b) fr s x fr1 s1
 |loopN {b:SC} {fr fr1 fr2:Fr} {s s1 s2:St} {x:Ex}:js Q f b fr s .normal fr1 s1->js Q f (.loop b) fr1 s1 x fr2 s2->js Q f (.loop b) fr s x fr2 s2
 |loopX {b:SC} {fr fr1:Fr} {s s1:St} {x:Ex}:js Q f b fr s x fr1 s1->x≠ .normal->js Q f (.loop b) fr s x fr1 s1
 |region {ops:List aB} {fr fr1:Fr} {s s1:St}:qJ Q f ops fr s fr1 s1->js Q f (.region ops) fr s .normal fr1 s1
 |draw {ops:List aB} {bs:List Nat} {fr fr1:Fr} {s s1:St}:kW Q f bs [] 0 ops fr s fr1 s1->js Q f (.draw ops bs) fr s .normal fr1 s1
 |rfun {g:Operand} {ps:List Tmp} {a b:Code} {fr:Fr} {s s1:St} {h:FuncId} {first captured:List ae} {v:ae} {f':FuncId} {env':aZ ae} {size':Nat} {ps':List Tmp} {a' b':Code} {p:Option Ex}:ev fr.env g=some (.func (.func h) first captured)->
  (n7 Q.P h&&(fr.env.all u9&&(eJ a&&eJ b)))=true->aM Q h (first++(.yld s.al::captured)) (s.new (.loop f fr.env fr.size ps a b none)) v s1->s1.get [] s.al=some (.loop f' env' size' ps' a' b' p)->
  js Q f (.rfun g ps a b) fr s (yo p) fr (s1.put s.al none)
def Cc(n:Nat):aJ n n=true:=by simp
variable{c:Call}{e:aI}
def JZ{g:FuncId×List ae}(h:callee e c=some g):n9 e c=false:=by
 unfold callee at h;unfold n9;cases hc:c.callee with
 |builtin b=>rfl
 |invoke a b=>rfl
 |value x=>
  rw[hc] at h;simp only[az] at h;obtain⟨v,hv,h⟩:=h;simp only[hv];cases v<;>first|rfl|cases h
def adS{g:Nat×List ae}(h:yieldee e c=some g):n9 e c=true/\ ∀b,c.callee≠ .builtin b:=by
 unfold yieldee at h;unfold n9;cases hc:c.callee with
 |builtin b=>rw[hc] at h;cases h
 |invoke a b=>rw[hc] at h;cases h
 |value x=>
  rw[hc] at h;simp only[az] at h;obtain⟨v,hv,h⟩:=h;simp only[hv];refine⟨?_,fun b e=>by cases e⟩;cases v<;>first|rfl|cases h
variable{fr':Fr}{bs:List Nat}{ops:List aB}{rs:List dr}{sc:SC}
section
variable{Q:bF}{f:FuncId}
def T7{all:Array Oper}{s:St}{x:ae×Loc×St}(h:df Q f (qA all o) mk fr s=some x)(n:Nat):fw Q (cd Q (n+1)) f o mk fr s=some x:=by
 unfold df at h;unfold fw;simp only[qA] at h;cases hop:o.op<;>rw[hop] at h<;>simp only at h ⊢ <;>try exact h
 ·rename_i c
  cases hcl:c.callee<;>rw[hcl] at h<;>simp only at h ⊢
  case builtin=>exact h
  all_goals
   simp only[az] at h;obtain⟨g,hg,sp,hsp,v,hv,h⟩:=h;injection h with h;subst h
   have:(cd Q (n+1)).call g.1 g.2 mk s=some (v,s):=by
    show kE Q (cd Q n) g.1 g.2 mk s=_;unfold kE;simp only[hsp,hv,bn]
   simp only[JZ hg,cF,nm,hg,bn,this]
def am0{all:Array Oper}: ∀ {l:List Oper} {ops:List aB} {fr fr':Fr} {s s':St},qJ Q f ops fr s fr' s'->ops=l.map (qA all)-> ∃n,(cd Q n).ops f all [] l fr s=some (fr',s'):=by
 intro l ops fr fr' s s' h
 induction h generalizing l with
 |nil=>
  intro e;cases l with
  |nil=>exact⟨1,rfl⟩
  |cons _ _=>cases e
 |step h1 _ ih=>
  intro e;cases l with
  |nil=>cases e
  |cons p l=>
   simp only[dG,pE] at e;obtain⟨rfl,rfl⟩:=e;obtain⟨n,hn⟩:=ih rfl;refine⟨n+2,?_⟩;show mF Q (cd Q (n+1)) f all [] (p::l) _ _=_;have hn:=(og Q (Nat.le_succ n)).ops _ _ _ _ _ _ _ hn;rename_i fr fr1 _ s s1 _ _ _;unfold yB at h1;have hw:fT fr.env (qA all p).g=eD all fr.env p:=AD all _ p;rw[hw] at h1;simp only[mF];cases hb:eD all fr.env p with
   |true=>
    rw[hb] at h1;simp only[cT,az] at h1 ⊢;obtain⟨x,hx,fr2,hf,h1⟩:=h1;injection h1 with h1
    simp only[bj] at h1;obtain⟨rfl,rfl⟩:=h1;exact⟨x,T7 hx n,fr2,hf,hn⟩
   |false=>
    rw[hb] at h1;simp only[cF,az] at h1 ⊢;obtain⟨fr2,hf,h1⟩:=h1;injection h1 with h1
    simp only[bj] at h1;obtain⟨rfl,rfl⟩:=h1;exact⟨fr2,hf,hn⟩
 |call hw ho hnb hcal hrun hp _ ih=>
  intro e;cases l with
  |nil=>cases e
  |cons p l=>
   simp only[dG,pE] at e;obtain⟨rfl,rfl⟩:=e;obtain⟨n,hn⟩:=ih rfl;obtain⟨m,hm⟩:=hrun;refine⟨max n m+1,?_⟩;show mF Q (cd Q (max n m)) f all [] (p::l) _ _=_;have hn:=(og Q (qF n m)).ops _ _ _ _ _ _ _ hn;have hm:=(og Q (rD n m)).call _ _ _ _ _ hm;rename_i c fr fr1 fr2 s s1 s2 g args v _ _ _;have hw:eD all fr.env p=true:=by rw[<-AD all];exact hw
   simp only[mF];rw[hw];simp only[cT,az];have ho:p.op= .call c:=ho;refine⟨(v,fr.loc,s1),?_,fr1,hp,hn⟩;unfold fw;rw[ho];simp only;have hcall:nm (cd Q (max n m)) c [] fr s=some (v,fr.loc,s1):=by simp only[nm,hcal,bn,hm]
   cases hcl:c.callee with
   |builtin b=>exact absurd hcl (hnb b)
   |_=>simp only[JZ hcal,cF];exact hcall
 |yld hw ho hcal hrun hp _ ih=>
  intro e;cases l with
  |nil=>cases e
  |cons p l=>
   simp only[dG,pE] at e;obtain⟨rfl,rfl⟩:=e;obtain⟨n,hn⟩:=ih rfl;obtain⟨m,hm⟩:=hrun;refine⟨max n m+1,?_⟩;show mF Q (cd Q (max n m)) f all [] (p::l) _ _=_;have hn:=(og Q (qF n m)).ops _ _ _ _ _ _ _ hn;have hm:=V9 (og Q (rD n m)) hm;rename_i c fr fr1 fr2 s s1 s2 g args v _ _ _;have hw:eD all fr.env p=true:=by rw[<-AD all];exact hw
   simp only[mF];rw[hw];simp only[cT,az];have ho:p.op= .call c:=ho;refine⟨(v,fr.loc,s1),?_,fr1,hp,hn⟩;unfold fw;rw[ho];simp only;have hcall:rq (cd Q (max n m)) c [] fr s=some (v,fr.loc,s1):=by simp only[rq,hcal,bn,hm]
   obtain⟨hy,hnb⟩:=adS hcal;cases hcl:c.callee with
   |builtin b=>exact absurd hcl (hnb b)
   |_=>simp only[hy,cT];exact hcall
def am1{all:Array Oper}{s s':St}(h:kW Q f bs rs i ops fr s fr' s'): ∀ {l:List Oper},ops=l.map (qA all)-> ∃n,(cd Q n).draw f all bs [] rs i l fr s=some (fr',s'):=by
 induction h with
 |nil=>
  intro l e;cases l with
  |nil=>exact⟨1,rfl⟩
  |cons _ _=>cases e
 |skip hw h1 _ ih=>
  intro l e;cases l with
  |nil=>cases e
  |cons p l=>
   simp only[dG,pE] at e;obtain⟨rfl,rfl⟩:=e;obtain⟨n,hn⟩:=ih rfl;refine⟨n+1,?_⟩;have hw:=(AD all _ p).symm.trans hw;show ns Q (cd Q n) f all _ [] _ _ (p::l) _ _=_;simp only[ns];rw[hw];simp only[cF,az];exact⟨_,h1,hn⟩
 |step hw h1 hf hc h2 _ ih=>
  intro l e;cases l with
  |nil=>cases e
  |cons p l=>
   simp only[dG,pE] at e;obtain⟨rfl,rfl⟩:=e;obtain⟨n,hn⟩:=ih rfl;refine⟨n+2,?_⟩;have hw:=(AD all _ p).symm.trans hw;show ns Q (cd Q (n+1)) f all _ [] _ _ (p::l) _ _=_;have hn:=(og Q (Nat.le_succ n)).draw _ _ _ _ _ _ _ _ _ _ hn;simp only[ns];rw[hw];simp only[cT,az];refine⟨_,T7 h1 n,?_⟩;simp only[qA] at hf h2 hn;simp only;rw[hf,hc,Cc];simp only[cH,cT,az];exact⟨_,h2,hn⟩
 |call hw ho hnb hcal hrun hf hc h2 _ ih=>
  intro l e;cases l with
  |nil=>cases e
  |cons p l=>
   simp only[dG,pE] at e;obtain⟨rfl,rfl⟩:=e;rename_i bs rs i c fr fr1 fr2 s s1 s2 g args v _;obtain⟨n,hn⟩:=ih rfl;obtain⟨m,hm⟩:=hrun;refine⟨max n m+1,?_⟩;have hw:=(AD all _ p).symm.trans hw;show ns Q (cd Q (max n m)) f all _ [] _ _ (p::l) _ _=_;have hn:=(og Q (qF n m)).draw _ _ _ _ _ _ _ _ _ _ hn;have hm:=(og Q (rD n m)).call _ _ _ _ _ hm;have ho:p.op= .call c:=ho;simp only[ns];rw[hw];simp only[cT,az];refine⟨(v,fr.loc,s1),?_,?_⟩;unfold fw;rw[ho];simp only;have hcall:nm (cd Q (max n m)) c (iz (bs.headD 0) rs []) fr ⟨s.heap,s.al,s.al,s.ci⟩=some (v,fr.loc,s1):=by simp only[nm,hcal,bn,hm]
   cases hcl:c.callee with
   |builtin b=>exact absurd hcl (hnb b)
   |_=>simp only[JZ hcal,cF];exact hcall
   simp only[qA] at hf h2 hn;simp only;rw[hf,hc,Cc];simp only[cH,cT,az];exact⟨_,h2,hn⟩
def ZR{id:Nat}{ops:Array Oper}:fP (.region id ops false)= .region (ops.toList.map (qA ops)):=by rw[fP]
def ZQ{id:Nat}{ops:Array Oper}:fP (.region id ops true)=bif mO ops 0 ops.toList (Region.before ops).toList then .draw (ops.toList.map (qA ops)) (Region.before ops).toList else .bad:=by rw[fP]
def qd(c:Code):match fP c with
 | .skip=>c= .skip\/ ∃l,c= .label l
 | .ret=>c= .ret
 | .exit id=>c= .exit id
 | .seq a b=> ∃x y,c= .seq x y/\fP x=a/\fP y=b
 | .cond o a b=> ∃x y,c= .cond o x y/\fP x=a/\fP y=b
 | .block id b=> ∃x,c= .block id x/\fP x=b
 | .scope b=> ∃x,c= .scope x/\fP x=b
 | .loop b=> ∃x,c= .loop x/\fP x=b
 | .region l=> ∃id ops,c= .region id ops false/\ops.toList.map (qA ops)=l
 | .draw l bs=> ∃id ops,c= .region id ops true/\ops.toList.map (qA ops)=l/\(Region.before ops).toList=bs/\mO ops 0 ops.toList (Region.before ops).toList=true
 | .rfun g l a b=> ∃ps,c= .rangeFunc g ps a b/\ps.toList=l
 | .bad=>True:=by
 cases c with
 |region id ops d=>
  cases d with
  |false=>rw[ZR];exact⟨id,ops,rfl,rfl⟩
  |true=>
   rw[ZQ];cases h:mO ops 0 ops.toList (Region.before ops).toList with
   |false=>trivial
   |true=>exact⟨id,ops,rfl,rfl,rfl,h⟩
 |skip=>exact .inl rfl
 |label l=>exact .inr ⟨l,rfl⟩
 |ret=>rfl
 |exit id=>rfl
 |seq a b=>exact⟨a,b,rfl,rfl,rfl⟩
 |cond x a b=>exact⟨a,b,rfl,rfl,rfl⟩
 |block id b=>exact⟨b,rfl,rfl⟩
 |scope b=>exact⟨b,rfl,rfl⟩
 |loop b=>exact⟨b,rfl,rfl⟩
 |rangeFunc g ps a b=>exact⟨ps,rfl,rfl⟩
 |_=>trivial
def L7{s s':St}{x:Ex}(h:js Q f sc fr s x fr' s'): ∀ {c:Code},fP c=sc-> ∃n,(cd Q n).code f c [] fr s=some (x,fr',s'):=by
 induction h with
 |skip=>
  intro c e
  have:=qd c;rw[e] at this;rcases this with rfl|⟨l,rfl⟩<;>exact⟨1,rfl⟩
 |ret=>intro c e;have:=qd c;rw[e] at this;simp only at this;subst this;exact⟨1,rfl⟩
 |exit=>intro c e;have:=qd c;rw[e] at this;simp only at this;subst this;exact⟨1,rfl⟩
 |seqN _ _ ih1 ih2=>
  intro c e
  have:=qd c;rw[e] at this;obtain⟨x,y,rfl,h1,h2⟩:=this;obtain⟨n,hn⟩:=ih1 h1;obtain⟨m,hm⟩:=ih2 h2;refine⟨max n m+1,?_⟩;show((cd Q (max n m)).code f x [] _ _).bind (pw (cd Q (max n m)) f y [])=_;rw[(og Q (qF n m)).code _ _ _ _ _ _ hn];exact(og Q (rD n m)).code _ _ _ _ _ _ hm
 |seqX _ hx ih1=>
  intro c e
  have:=qd c;rw[e] at this;obtain⟨a,b,rfl,h1,h2⟩:=this;obtain⟨n,hn⟩:=ih1 h1;refine⟨n+1,?_⟩;show((cd Q n).code f a [] _ _).bind (pw (cd Q n) f b [])=_;rw[hn];rename_i x _;cases x;exact absurd rfl hx;rfl;rfl
 |cond hv _ ih=>
  intro c e
  have:=qd c;rw[e] at this;obtain⟨a,b,rfl,h1,h2⟩:=this;rename_i t _ _ _ _ _ _;obtain⟨n,hn⟩:=ih (c:=if t then a else b) (by cases t<;>simp[h1,h2]);refine⟨n+1,?_⟩;show(ev _ _).bind (zi (cd Q n) f a b [] _ _)=_;rw[hv];cases t<;>exact hn
 |block _ ih=>
  intro c e
  have:=qd c;rw[e] at this;obtain⟨b,rfl,h1⟩:=this;obtain⟨n,hn⟩:=ih h1;refine⟨n+1,?_⟩;show((cd Q n).code f b [] _ _).bind (fun x=>some (qa _ x))=_;rw[hn];rename_i id _ _ _ _ _ x _;cases x;rfl;simp only[bn,qa,Ex.block];generalize aJ _ _=q;cases q<;>rfl;rfl
 |scope _ ih=>
  intro c e
  have:=qd c;rw[e] at this;obtain⟨b,rfl,h1⟩:=this;obtain⟨n,hn⟩:=ih h1;exact⟨n+1,hn⟩
 |loopN _ _ ih1 ih2=>
  intro c e
  have:=qd c;rw[e] at this;obtain⟨b,rfl,h1⟩:=this;obtain⟨n,hn⟩:=ih1 h1;obtain⟨m,hm⟩:=ih2 (c:=.loop b) (by rw[fP,h1]);refine⟨max n m+1,?_⟩;show((cd Q (max n m)).code f b [] _ _).bind (pw (cd Q (max n m)) f (.loop b) [])=_;rw[(og Q (qF n m)).code _ _ _ _ _ _ hn];exact(og Q (rD n m)).code _ _ _ _ _ _ hm
 |loopX _ hx ih1=>
  intro c e
  have:=qd c;rw[e] at this;obtain⟨b,rfl,h1⟩:=this;obtain⟨n,hn⟩:=ih1 h1;refine⟨n+1,?_⟩;show((cd Q n).code f b [] _ _).bind (pw (cd Q n) f (.loop b) [])=_;rw[hn];rename_i x _;cases x;exact absurd rfl hx;rfl;rfl
 |region hl=>
  intro c e
  have:=qd c;rw[e] at this;obtain⟨id,ops,rfl,h1⟩:=this;obtain⟨n,hn⟩:=am0 (all:=ops) (l:=ops.toList) hl h1.symm;refine⟨n+1,?_⟩;show((cd Q n).ops f ops [] ops.toList _ _).bind (fun x=>some (Ex.normal,x.1,x.2))=_;rw[hn];rfl
 |draw hl=>
  intro c e
  have:=qd c;rw[e] at this;obtain⟨id,ops,rfl,h1,h2,h3⟩:=this;subst h1;subst h2;obtain⟨n,hn⟩:=am1 hl (l:=ops.toList) rfl;refine⟨n+1,?_⟩;show(bif mO ops 0 ops.toList (Region.before ops).toList then(cd Q n).draw f ops (Region.before ops).toList [] [] 0 ops.toList _ _ else none).bind (fun x=>some (Ex.normal,x.1,x.2))=_;rw[h3,cT,hn];rfl
 |rfun hv hb hr hg=>
  intro c e
  have:=qd c;rw[e] at this;obtain⟨ps,rfl,rfl⟩:=this;obtain⟨n,hn⟩:=hr;refine⟨n+1,?_⟩;show(ev _ _).bind (vn Q (cd Q n) f ps.toList _ _ [] _ _)=_;rw[hv];simp only[bn,vn];rw[hb];simp only[cT,hn,bn,yw,hg]
end
def W(Q:bF)(f:FuncId)(c:SC)(fr:Fr)(s:St)(K:Ex->Fr->St->Prop):Prop:= ∃x fr' s',js Q f c fr s x fr' s'/\K x fr' s'
def WL(Q:bF)(f:FuncId)(l:List aB)(fr:Fr)(s:St)(K:Fr->St->Prop):Prop:= ∃fr' s',qJ Q f l fr s fr' s'/\K fr' s'
variable{fr1:Fr}{fn:Func}{ps:List Tmp}{l:List aB}{sp:List ae->Option vP}{a b:SC}{o:aB}{env':aZ ae}
section
variable{Q:bF}{f:FuncId}{fr:Fr}{s:St}{K:Ex->Fr->St->Prop}
def Ex.next(K:Ex->Fr->St->Prop)(N:Fr->St->Prop):Ex->Fr->St->Prop
 | .normal=>N
 |x=>K x
def W.mono{c:SC}{K':Ex->Fr->St->Prop}(h:W Q f c fr s K)(hk: ∀x fr s,K x fr s->K' x fr s):W Q f c fr s K':=let⟨x,fr',s',h1,h2⟩:=h;⟨x,fr',s',h1,hk _ _ _ h2⟩
def W.skip(h:K .normal fr s):W Q f .skip fr s K:=⟨_,_,_,.skip,h⟩
def W.ret(h:K .ret fr s):W Q f .ret fr s K:=⟨_,_,_,.ret,h⟩
def W.exit{id:Nat}(h:K (.exit id) fr s):W Q f (.exit id) fr s K:=⟨_,_,_,.exit,h⟩
def W.seq(h:W Q f a fr s (Ex.next K fun fr s=>W Q f b fr s K)):W Q f (.seq a b) fr s K:=by
 obtain⟨x,fr1,s1,h1,h2⟩:=h;cases x with
 |normal=>obtain⟨y,fr2,s2,h3,h4⟩:=h2;exact⟨y,fr2,s2,.seqN h1 h3,h4⟩
 |exit i=>exact⟨_,_,_,.seqX h1 (by simp),h2⟩
 |ret=>exact⟨_,_,_,.seqX h1 (by simp),h2⟩
def W.cond{o:Operand}{t:Bool}(hv:ev fr.env o=some (.bool t))(h:W Q f (if t then a else b) fr s K):W Q f (.cond o a b) fr s K:=let⟨x,fr1,s1,h1,h2⟩:=h;⟨x,fr1,s1,.cond hv h1,h2⟩
def W.block{id:Nat}(h:W Q f b fr s fun x=>K (x.block id)):W Q f (.block id b) fr s K:=let⟨_x,fr1,s1,h1,h2⟩:=h;⟨_,fr1,s1,.block h1,h2⟩
def W.scope(h:W Q f b fr s K):W Q f (.scope b) fr s K:=let⟨x,fr1,s1,h1,h2⟩:=h;⟨x,fr1,s1,.scope h1,h2⟩
def W.loop1(h:W Q f b fr s (Ex.next K fun fr s=>W Q f (.loop b) fr s K)):W Q f (.loop b) fr s K:=by
 obtain⟨x,fr1,s1,h1,h2⟩:=h;cases x with
 |normal=>obtain⟨y,fr2,s2,h3,h4⟩:=h2;exact⟨y,fr2,s2,.loopN h1 h3,h4⟩
 |exit i=>exact⟨_,_,_,.loopX h1 (by simp),h2⟩
 |ret=>exact⟨_,_,_,.loopX h1 (by simp),h2⟩
def W.region(h:WL Q f ops fr s fun fr s=>K .normal fr s):W Q f (.region ops) fr s K:=let⟨fr1,s1,h1,h2⟩:=h;⟨_,fr1,s1,.region h1,h2⟩
def W.draw{s1:St}(h:wO Q f bs [] 0 ops fr s=some (fr1,s1))(hk:K .normal fr1 s1):W Q f (.draw ops bs) fr s K:=⟨_,_,_,.draw (.of h),hk⟩
def W.rfun{g:Operand}{a b:Code}{s1:St}{h:FuncId}{first captured:List ae}{f':FuncId}{size':Nat}{ps':List Tmp}{a' b':Code}{p:Option Ex}(hv:ev fr.env g=some (.func (.func h) first captured))(hb:(n7 Q.P h&&(fr.env.all u9&&(eJ a&&eJ b)))=true)(hr:aM Q h (first++(.yld s.al::captured)) (s.new (.loop f fr.env fr.size ps a b none)) v s1)(hg:s1.get [] s.al=some (.loop f' env' size' ps' a' b' p))(hk:K (yo p) fr (s1.put s.al none)):W Q f (.rfun g ps a b) fr s K:=⟨_,_,_,.rfun hv hb hr hg,hk⟩
variable{N:Fr->St->Prop}
def WL.yld{s1:St}(hw:fT fr.env o.g=true)(ho:o.op= .call c)(hc:yieldee fr.env c=some (n,args))(hr:te Q n args s v s1)(hp:di fr o.dst v fr.loc=some fr1)(hk:WL Q f l fr1 s1 N):WL Q f (o::l) fr s N:=
 let⟨fr2,s2,h1,h2⟩:=hk;⟨fr2,s2,.yld hw ho hc hr hp h1,h2⟩
def te.of{s':St}{env:aZ ae}{size:Nat}{a b:Code}{ca cb:SC}(h0:s.get [] n=some (.loop f env size ps a b none))(h1:ps.all (fun t=>bk t size)=true)(h2:CD ps args env=some env')(ha:fP a=ca)(hb:fP b=cb)(h:W Q f ca ⟨env',size,[]⟩ (s.put n none) fun x fr s1=>x= .normal/\W Q f cb fr s1 fun x _ s2=>x= .normal/\s'=s2.put n (some (.loop f env size ps a b none))):te Q n args s (.bool true) s':=by
 obtain⟨x,fr1,s1,r1,rfl,y,fr2,s2,r2,rfl,rfl⟩:=h;obtain⟨k,hk⟩:=L7 r1 ha;obtain⟨m,hm⟩:=L7 r2 hb;have hk:=(og Q (qF k m)).code _ _ _ _ _ _ hk;have hm:=(og Q (rD k m)).code _ _ _ _ _ _ hm;refine⟨max k m,?_⟩;unfold nc;simp only[h0,bn,yI,h1,cT,h2,hk,wX,hm,yH]
def L5: ∀ {a b:List aB} {fr fr1 fr2:Fr} {s s1 s2:St},tQ Q f a fr s=some (fr1,s1)->qJ Q f b fr1 s1 fr2 s2->qJ Q f (a++b) fr s fr2 s2
 | [],b,fr,fr1,fr2,s,s1,s2,h,h'=>by
   simp only[tQ,aP,bj] at h;obtain⟨rfl,rfl⟩:=h;exact h'
 |o::a,b,fr,fr1,fr2,s,s1,s2,h,h'=>by
  simp only[tQ,az] at h;obtain⟨⟨x,y⟩,h1,h2⟩:=h;exact .step h1 (L5 h2 h')
def WL.run{s1:St}(h:tQ Q f ops fr s=some (fr1,s1))(hk:N fr1 s1):WL Q f ops fr s N:=
 ⟨fr1,s1,by have:=L5 h .nil;rwa [ii] at this,hk⟩
def WL.app{a b:List aB}{s1:St}(h:tQ Q f a fr s=some (fr1,s1))(hk:WL Q f b fr1 s1 N):WL Q f (a++b) fr s N:=
 let⟨fr2,s2,h1,h2⟩:=hk;⟨fr2,s2,L5 h h1,h2⟩
def WL.call{s1:St}{g:FuncId}(hw:fT fr.env o.g=true)(ho:o.op= .call c)(hn: ∀b,c.callee≠ .builtin b)(hc:callee fr.env c=some (g,args))(hr:aM Q g args s v s1)(hp:di fr o.dst v fr.loc=some fr1)(hk:WL Q f l fr1 s1 N):WL Q f (o::l) fr s N:=
 let⟨fr2,s2,h1,h2⟩:=hk;⟨fr2,s2,.call hw ho hn hc hr hp h1,h2⟩
noncomputable def bv(n:Nat)(args:List ae):Fr:=⟨bt 0 args,bif br args.length n then n else args.length,[]⟩
def aM.of{c:Code}{s':St}(hf:Q.P.funcs[f]? =some fn)(hb:fn.body=some c)(hsp:Q.spec f=none)(hcc:fP c=sc)(h:W Q f sc (bv fn.ntmps args) s fun x fr' s1=>s1=s'/\(x= .normal\/x= .ret)/\ ∃vs,bW Q [] fr' s1 fn.results.toList=some vs/\gG vs=v)(hH:Q.specH f=none:=by rfl)(hW:Q.specW f=none:=by rfl):aM Q f args s v s':=by
 obtain⟨x,fr',s1,h1,rfl,h3,vs,h4,h5⟩:=h;obtain⟨n,hn⟩:=L7 h1 hcc;refine⟨n+1,?_⟩;show kE Q (cd Q n) f args [] s=_;unfold kE;rw[hsp];simp only[hH,hW,hf,bn,hb];have hn:(cd Q n).code f c [] ⟨bt 0 args,bif br args.length fn.ntmps then fn.ntmps else args.length,[]⟩ s=some (x,fr',s1):=hn;rw[hn];rcases h3 with rfl|rfl<;>simp only[bn,qg,h4,h5]
def aM.specW{g:List ae->Rd}{cs cs':List ae}(hsp:Q.spec f=none)(hH:Q.specH f=none)(hW:Q.specW f=some sp)(h1:sp args=some (some (n,g)))(h2:s.get [] n=some (.cells cs))(h3:kP (s.get []) (g cs)=some (.agg cs')):
 aM Q f args s (.tup []) (s.put n (some (.cells cs'))):=by
 refine⟨1,?_⟩;show kE Q (cd Q 0) f args [] s=_;unfold kE;rw[hsp];simp only[hH,hW,h1,h2,bn,tL,An,h3,A1]
def Ul{x:Option (List ae)}{g:Nat->Option bf}{l:List ae}(h:kP g (Ct x)=some (.agg l)):x=some l:=by
 cases x with
 |none=>cases h
 |some y=>
  injection h with h
  injection h with h
  rw[h]
def aM.specWp{g:List ae->Option (List ae)}{cs cs':List ae}(hsp:Q.spec f=none)(hH:Q.specH f=none)(hW:Q.specW f=some sp)(h1:sp args=some (some (n,fun cs=>Ct (g cs))))(h2:s.get [] n=some (.cells cs))(h3:g cs=some cs'):
 aM Q f args s (.tup []) (s.put n (some (.cells cs'))):=.specW hsp hH hW h1 h2 (by show kP _ (Ct (g cs))=_;rw[h3];rfl)
def aM.specW0(hsp:Q.spec f=none)(hH:Q.specH f=none)(hW:Q.specW f=some sp)(h1:sp args=some none):aM Q f args s (.tup []) s:=by
 refine⟨1,?_⟩;show kE Q (cd Q 0) f args [] s=_;unfold kE;rw[hsp];simp only[hH,hW,h1,bn,tL]
end
def de(g:ae->Option ae):List ae->Option (List ae)
 | []=>some []
 |v::l=>(g v).bind fun a=>(de g l).bind fun r=>some (a::r)
noncomputable def cj(h:aZ bf):Nat->ae->Option ae
 |0,_=>none
 |k+1,v=>match v with
  | .agg cs=>(de (cj h k) cs).bind fun r=>some (.agg r)
  | .tup cs=>(de (cj h k) cs).bind fun r=>some (.tup r)
  | .list sz xs r=>(de (cj h k) xs).bind fun ys=>some (.list sz ys (match r with| .own _=>.no|r=>r))
  | .arr sz n off len _=>match h.get n with
    |some (.cells cs)=>(cut cs off (len*sz)).bind fun c=>(de (cj h k) c).bind fun c'=>(fW (!aJ sz 1) sz len c').bind fun xs=>some (.list sz xs .no)
    |_=>none
  | .bool b=>some (.bool b)
  | .int k n=>some (.int k n)
  | .str s=>some (.str s)
  | .nilp=>some .nilp
  | .AL=>some .AL
  | .nilm=>some .nilm
  | .nilf=>some .nilf
  | .nili=>some .nili
  |_=>none
def xJ{g g':ae->Option ae}(hg: ∀v u,g v=some u->g' v=some u): ∀ {l r:List ae},de g l=some r->de g' l=some r
 | [],_,h=>h
 |v::l,r,h=>by
  simp only[de,az] at h ⊢;obtain⟨a,h1,r',h2,h3⟩:=h;exact⟨a,hg _ _ h1,r',xJ hg h2,h3⟩
def xK(h:aZ bf): ∀(k:Nat) (v u:ae),cj h k v=some u->cj h (k+1) v=some u
 |0,_,_,e=>by cases e
 |k+1,v,u,e=>by
  have ih:=xK h k;cases v<;>simp only[cj] at e ⊢ <;>first
   |exact e
   |(simp only[az] at e ⊢
     obtain⟨r,h1,h2⟩:=e;exact⟨r,xJ ih h1,h2⟩)
   |skip
  split at e;rename_i hcs;simp only[az] at e ⊢;obtain⟨c,h1,c',h2,h3⟩:=e;exact⟨c,h1,c',xJ ih h2,h3⟩;cases e
variable{k:Nat}{u:ae}
def uK(h:aZ bf){m:Nat}(hk:k<=m)(e:cj h k v=some u):cj h m v=some u:=by
 induction m with
 |zero=>have:k=0:=by omega
        subst this;exact e
 |succ m ih=>
  by_cases hm:k=m+1;subst hm;exact e;exact xK h m v u (ih (by omega))
def dP(h:aZ bf)(v u:ae):Prop:= ∃k,cj h k v=some u
def dP.unique{u':ae}(a:dP h v u)(b:dP h v u'):u=u':=by
 obtain⟨k,hk⟩:=a;obtain⟨m,hm⟩:=b;have h1:=uK h (qF k m) hk;have h2:=uK h (rD k m) hm;rw[h1] at h2;exact sI h2
noncomputable def Bv(h:aZ bf)(v:ae):Option ae:=by
 classical exact if e: ∃u,dP h v u then some e.choose else none
def ab9(e:dP h v u):Bv h v=some u:=by
 unfold Bv;rw[dif_pos ⟨u,e⟩];exact congrArg some ((Exists.choose_spec (p:=fun u=>dP h v u) ⟨u,e⟩).unique e)
def aca(e:Bv h v=some u):dP h v u:=by
 unfold Bv at e;split at e;rename_i x;injection e with e;subst e
 exact x.choose_spec;cases e
def DB{g:ae->Option ae}: ∀ {l r:List ae},de g l=some r-> ∀(i:Nat) u,r[i]? =some u-> ∃v,l[i]? =some v/\g v=some u
 | [],r,h,i,u,hi=>by
   simp only[de,aP] at h;subst h;simp at hi
 |v::l,r,h,i,u,hi=>by
  simp only[de,az,aP] at h;obtain⟨a,h1,r',h2,rfl⟩:=h;cases i with
  |zero=>simp at hi;subst hi;exact⟨v,by simp,h1⟩
  |succ i=>simp at hi;obtain⟨x,h3,h4⟩:=DB h2 i u hi;exact⟨x,by simpa using h3,h4⟩
def DC{g:ae->Option ae}: ∀ {l r:List ae},de g l=some r->r.length=l.length
 | [],r,h=>by simp only[de,aP] at h;subst h;rfl
 |v::l,r,h=>by
  simp only[de,az,aP] at h;obtain⟨a,h1,r',h2,rfl⟩:=h;simp[DC h2]
def Jx(e:cj h k v=some u)(hs:v.scal=true):u.scal=true:=by
 cases k with
 |zero=>cases e
 |succ k=>
  cases v<;>simp only[cj] at e<;>first
   |(simp[ae.scal] at hs;done)
   |(injection e with e;subst e;rfl)
   |(cases e;done)
   |(simp only[az,aP] at e;obtain⟨_,_,rfl⟩:=e;rfl)
   |(split at e
     simp only[az,aP] at e;obtain⟨_,_,_,_,_,_,rfl⟩:=e;rfl;cases e)
def Pk(e:cj h k v=some u): ∃m,de (cj h m) v.cells=some u.cells:=by
 cases k with
 |zero=>cases e
 |succ k=>
  by_cases hv: ∃cs,v= .agg cs;obtain⟨cs,rfl⟩:=hv;simp only[cj,az,aP] at e;obtain⟨r,h1,rfl⟩:=e;exact⟨k,h1⟩;have hc:v.cells=[v]:=by cases v<;>first|rfl|exact absurd ⟨_,rfl⟩ hv
  have hu:u.cells=[u]:=by
   cases v<;>simp only[cj] at e<;>first
    |exact absurd ⟨_,rfl⟩ hv
    |(injection e with e;subst e;rfl)
    |(cases e;done)
    |(simp only[az,aP] at e;obtain⟨_,_,rfl⟩:=e;rfl)
    |(split at e
      simp only[az,aP] at e;obtain⟨_,_,_,_,_,_,rfl⟩:=e;rfl;cases e)
  refine⟨k+1,?_⟩;rw[hc,hu];simp only[de,e,bn]
def Ph{h:aZ bf}{k:Nat}: ∀ {xs ys:List ae},de (cj h k) xs=some ys-> ∃m,de (cj h m) (bB xs)=some (bB ys)
 | [],ys,e=>by simp only[de,aP] at e;subst e;exact⟨0,rfl⟩
 |x::xs,ys,e=>by
  simp only[de,az,aP] at e;obtain⟨a,h1,r,h2,rfl⟩:=e;obtain⟨m1,h3⟩:=Pk h1;obtain⟨m2,h4⟩:=Ph h2;refine⟨max m1 m2,?_⟩;simp only[bB];have h3:=xJ (g':=cj h (max m1 m2)) (fun v u e=>uK h (qF _ _) e) h3;have h4:=xJ (g':=cj h (max m1 m2)) (fun v u e=>uK h (rD _ _) e) h4;clear h1 h2;generalize x.cells=c at h3;generalize a.cells=d at h3
  induction c generalizing d with
  |nil=>simp only[de,aP] at h3;subst h3;simpa using h4
  |cons v c ih=>
   simp only[de,az,aP] at h3;obtain⟨u,h5,r',h6,rfl⟩:=h3
   have:=ih _ h6;simp only[List.cons_append,de,h5,this,bn]
def Po{h:aZ bf}: ∀ {k:Nat} {v u:ae},aQ v=true->cj h k v=some u->u=v
 |0,_,_,_,e=>by cases e
 |k+1,v,u,hp,e=>by
  have hL: ∀ {l r:List ae},pures l=true->de (cj h k) l=some r->r=l:=by
   intro l
   induction l with
   |nil=>intro r _ e;simp only[de,aP] at e;exact e.symm
   |cons v l ih=>
    intro r hp e;simp only[pures,bA] at hp;simp only[de,az,aP] at e;obtain⟨a,h1,r',h2,rfl⟩:=e;rw[Po hp.1 h1,ih hp.2 h2]
  cases v<;>simp only[cj] at e<;>first
   |(injection e with e;exact e.symm)
   |(cases e;done)
   |(simp[aQ] at hp;done)
   |(simp only[aQ] at hp
     simp only[az,aP] at e;obtain⟨r,h1,rfl⟩:=e;rw[hL hp h1])
   |skip
  rename_i sz xs r;simp only[aQ,bA] at hp;simp only[az,aP] at e;obtain⟨ys,h1,rfl⟩:=e;rw[hL hp.1 h1];cases r<;>first|rfl|(simp at hp)
def vM(G:Gh)(h:aZ bf)(b o:Nat)(u:ae):Prop:= ∃n a cs i,h.get n=some (.cells cs)/\G.at_ n=some a/\a.block=b/\o=a.off+i/\cs[i]? =some u
variable{b:Nat}
def vM.unique(wr:WR G h w){o:Nat}{u':ae}(x:vM G h b o u)(y:vM G h b o u'):u=u':=by
 obtain⟨n,a,cs,i,h1,h2,h3,h4,h5⟩:=x;obtain⟨m,c,ds,j,g1,g2,g3,g4,g5⟩:=y;have e:n=m:=wr.sep n m a c (by rw[h1];simp) (by rw[g1];simp) h2 g2 (by rw[h3,g3]);subst e;rw[h1] at g1;injection g1 with g1;injection g1 with g1;subst g1
 rw[h2] at g2;injection g2 with g2;subst g2
 have:i=j:=by omega
 subst this;rw[h5] at g5;exact sI g5
noncomputable def th(G:Gh)(h:aZ bf)(b o:Nat):Option ae:=by
 classical exact(G.ro b o).or (if e: ∃u,vM G h b o u then some e.choose else none)
def Y3{o:Nat}(e:G.ro b o=some u):th G h b o=some u:=by simp[th,e]
def Y2(wr:WR G h w){o:Nat}(e:vM G h b o u):th G h b o=some u:=by
 have h0:G.ro b o=none:=by
  cases e':G.ro b o with
  |none=>rfl
  |some v=>
   obtain⟨n,a,cs,i,h1,h2,h3,h4,h5⟩:=e
   have:=wr.apart n _ a o v h1 h2 (by rw[h3];exact e');cases this.1
 unfold th;rw[h0,ul,dif_pos ⟨u,e⟩];exact congrArg some (vM.unique wr (Exists.choose_spec (p:=fun u=>vM G h b o u) ⟨u,e⟩) e)
def Od{o:Nat}(e:th G h b o=some u):G.ro b o=some u\/vM G h b o u:=by
 unfold th at e;cases e':G.ro b o with
 |some v=>rw[e'] at e;simp at e;exact .inl (by rw[e])
 |none=>
  rw[e',ul] at e;split at e;rename_i x;injection e with e;subst e
  exact .inr x.choose_spec;cases e
noncomputable def Gh.froze(G G1:Gh)(h1:aZ bf):Gh where
 at_:=G.at_
 ro b o:=(G.ro b o).or ((th G1 h1 b o).bind (Bv h1))
 dim:=G.dim
section
variable{G1 G2:Gh}{h1:aZ bf}
def thaw(hro: ∀b o u u',th G1 h1 b o=some u->dP h1 u u'->G2.ro b o=some u'){w:World}(wr:WR G1 h1 w): ∀(k:Nat) {v u:ae} {x:Value},VR G1 v x->cj h1 k v=some u->VR G2 u x
 |0,_,_,_,_,e=>by cases e
 |k+1,v,u,x,hv,e=>by
  have ih: ∀ {vs us:List ae} {xs:List Value},bP G1 vs xs->de (cj h1 k) vs=some us->bP G2 us xs:=by
   intro vs
   induction vs with
   |nil=>intro us xs h e;cases h;simp only[de,aP] at e;subst e;exact .nil
   |cons v vs ihv=>
    intro us xs h e;cases h with
    |cons a b=>
     simp only[de,az,aP] at e;obtain⟨u,h3,r,h4,rfl⟩:=e;exact .cons (thaw hro wr k a h3) (ihv b h4)
  have hscals: ∀ {cs us:List ae},dn cs=true->de (cj h1 k) cs=some us->dn us=true:=by
   intro cs
   induction cs with
   |nil=>intro us _ e;simp only[de,aP] at e;subst e;rfl
   |cons v vs ihv=>
    intro us h e;simp only[dn,ma,bA] at h;simp only[de,az,aP] at e;obtain⟨u,h3,r,h4,rfl⟩:=e;simp only[dn,ma,bA];exact⟨Jx h3 h.1,ihv h.2 h4⟩
  cases hv with
  |bool b=>simp only[cj,aP] at e;subst e;exact .bool b
  |int k n=>simp only[cj,aP] at e;subst e;exact .int k n
  |str s=>simp only[cj,aP] at e;subst e;exact .str s
  |nilp=>simp only[cj,aP] at e;subst e;exact .nilp
  |AL=>simp only[cj,aP] at e;subst e;exact .AL
  |nilm=>simp only[cj,aP] at e;subst e;exact .nilm
  |nilf=>simp only[cj,aP] at e;subst e;exact .nilf
  |nili=>simp only[cj,aP] at e;subst e;exact .nili
  |ptr _=>simp[cj] at e
  |ro _=>simp[cj] at e
  |map _=>simp[cj] at e
  |func _ _=>simp[cj] at e
  |iface _=>simp[cj] at e
  |yld _=>simp[cj] at e
  |roz _=>simp[cj] at e
  |agg hc hs=>
   simp only[cj,az,aP] at e;obtain⟨r,h3,rfl⟩:=e;exact .agg (hscals hc h3) (ih hs h3)
  |tup hs=>
   simp only[cj,az,aP] at e;obtain⟨r,h3,rfl⟩:=e;exact .tup (ih hs h3)
  |list a b c d e' f=>
   rename_i sz xs r ad cap;simp only[cj,az,aP] at e;obtain⟨ys,h3,rfl⟩:=e;have hlen:=DC h3;rw[<-hlen];refine .list a b ?_ (by rw[hlen];exact d) ?_ ?_;intro y hy;obtain⟨i,hi⟩:=HI hy;obtain⟨v,hv,h4⟩:=DB h3 i y hi;obtain⟨m,h5⟩:=Pk h4;rw[DC h5];exact c v (ku hv);intro i y hy;obtain⟨m,h4⟩:=Ph h3;obtain⟨v,hv,h5⟩:=DB h4 i y hy;exact hro _ _ v y (Y3 (e' i v hv)) ⟨m,h5⟩;cases r with
   |GE=>rw[hlen];exact f
   |own n=>exact trivial
   |no=>exact trivial
  |arr a b c d e' f g i=>
   rename_i sz n off len lcap ad bd cap dm;simp only[cj] at e;split at e;rename_i cs hcs;simp only[az,aP] at e;obtain⟨cc,h3,c',h4,xs,h5,rfl⟩:=e;obtain⟨ad',ho1,ho2,C,et,ho3,ho4,ho5⟩:=wr.obj n _ hcs;rw[a] at ho1;injection ho1 with ho1;subst ho1
   have hsc:dn cc=true:=by
    simp only[dn,fY];intro v hv;obtain⟨j,hj⟩:=HI hv;exact(ho5 _ v (Bi h3 hj)).1
   obtain⟨q1,q2,q3⟩:=ze (g:= !aJ sz 1) (sz:=sz) (fun hh=>by
    have:aJ sz 1=true:=by simpa using hh
    exact eU this) h5 (hscals hsc h4)
   have:VR G2 (.list sz xs .no) (.slice (some ad) xs.length cap):=by
    refine .list (.inr b) c q3 (by omega) ?_ trivial;intro j y hy;rw[q2] at hy;obtain⟨v,hv,h6⟩:=DB h4 j y hy;have hcell:=Bi h3 hv;rcases f with f|⟨f1,f2⟩
    have hl:len=0:=by omega
    have:=(zj h3).2;rw[hl,Nat.zero_mul] at this;rw[List.length_eq_zero_iff.1 this] at hv;simp at hv;refine hro _ _ v y (Y2 wr ⟨n,bd,cs,off+j,hcs,a,f1.symm,?_,hcell⟩) ⟨k,h6⟩;rw[f2];omega
   rw[q1] at this;exact this;cases e
end
mutual
def ie:ae->Bool
 | .agg cs=>jn cs
 | .tup cs=>jn cs
 | .list _ xs _=>pures xs
 |v=>aQ v
def jn:List ae->Bool
 | []=>true
 |v::l=>ie v&&jn l
end
mutual
def VR.top{G1 G2:Gh}(k:AX G1 G2): ∀ {v:ae} {x:Value},VR G1 v x->ie v=true->VR G2 (weak v) x
 |_,_,.bool b,_=>.bool b
 |_,_,.int k n,_=>.int k n
 |_,_,.str s,_=>.str s
 |_,_,.agg hc hs,h=>.agg (anw hc) (bP.top k hs (by simpa[ie] using h))
 |_,_,.tup hs,h=>.tup (bP.top k hs (by simpa[ie] using h))
 |_,_,.nilp,_=>.nilp
 |_,_,.ptr e,h=>by simp[ie,aQ] at h
 |_,_,.ro (cs:=cs) e,h=>by
  have h:pures cs=true:=by simpa[ie,aQ] using h
  rw[weak,gK h];exact .ro fun i x hx=>k _ _ _ (e i x hx) (GY h hx)
 |_,_,.AL,_=>.AL
 |_,_,.list (xs:=xs) (r:=r) a b c d e f,h=>by
  have h:pures xs=true:=by simpa[ie] using h
  simp only[weak,gK h];refine .list a b c d (fun i x hx=>k _ _ _ (e i x hx) (GY (Uc h) hx)) ?_;cases r with
  |GE=>exact f
  |own n=>exact trivial
  |no=>exact trivial
 |_,_,.arr ..,h=>by simp[ie,aQ] at h
 |_,_,.nilm,_=>.nilm
 |_,_,.map e,h=>by simp[ie,aQ] at h
 |_,_,.nilf,_=>.nilf
 |_,_,.func (first:=f) (captured:=g) a b,h=>by
  have h:pures f=true/\pures g=true:=by simpa[ie,aQ] using h
  simp only[weak,gK h.1,gK h.2];exact .func (bP.onto k a h.1) (bP.onto k b h.2)
 |_,_,.nili,_=>.nili
 |_,_,.iface (v:=v) e,h=>by
  have h:aQ v=true:=by simpa[ie,aQ] using h
  simp only[weak,MH h];exact .iface (VR.onto k e h)
 |_,_,.yld _,h=>by simp[ie,aQ] at h
 |_,_,.roz _,h=>by simp[ie,aQ] at h
def bP.top{G1 G2:Gh}(k:AX G1 G2): ∀ {vs:List ae} {xs:List Value},bP G1 vs xs->jn vs=true->bP G2 (ej vs) xs
 |_,_,.nil,_=>.nil
 |_,_,.cons a b,h=>by
  simp only[jn,bA] at h;exact .cons (VR.top k a h.1) (bP.top k b h.2)
end
def Pm{h h':aZ bf}(hh: ∀n o,h.get n=some o->h'.get n=some o): ∀(k:Nat) (v u:ae),cj h k v=some u->cj h' k v=some u
 |0,_,_,e=>by cases e
 |k+1,v,u,e=>by
  have ih:=Pm hh k;cases v<;>simp only[cj] at e ⊢ <;>first
   |exact e
   |(simp only[az] at e ⊢
     obtain⟨r,h1,h2⟩:=e;exact⟨r,xJ ih h1,h2⟩)
   |skip
  split at e;rename_i hcs;rw[hh _ _ hcs];simp only[az] at e ⊢;obtain⟨c,h1,c',h2,h3⟩:=e;exact⟨c,h1,c',xJ ih h2,h3⟩;cases e
variable{Q:bF}
def Ml(hg:Al Q)(hk: ∀i,0<Q.kmax i)(hp:jn args=true)(he: ∀ch,lF Q ch-> ∃v s',(cd (Q.at ch) n).call f (ej args) [] s0=some (v,s')/\dP s'.heap v u)(G:Gh)(h:aZ bf)(w:World)(xs:List Value)(wr:WR G h w)(hx:bP G args xs):
 mh Q.P f ⟨xs⟩ w fun y w'=> ∃G',WR G' h w'/\cM G h w G' h w' 0 0/\VR G' u y:=by
 have pre:mj [] (fun _=>True) G.plain s0 s0 w:=⟨fun n _=>rfl,.refl _ _,wr.plain,fun _ _ _=>rfl⟩;have hc:=(XG hg n).1 f (ej args) [] s0 s0 G.plain w xs (fun _=>0) (fun _=>True) pre (hx.top (T0 G) hp) hk (fun ch' _ hi=>by
  obtain⟨v,s',h1,_⟩:=he ch' hi;exact⟨v,s',h1,fun _ _ _=>trivial⟩)
 refine hc.mono ?_;rintro y w' ⟨ch',v,s',s2',G1,c⟩;have hvv:dP s2'.heap v u:=by
  obtain⟨v1,s1,h1,h2⟩:=he ch' c.inb;have h3:=c.eval;rw[h1] at h3;simp only[aP,bj] at h3;obtain⟨rfl,rfl⟩:=h3;have goes:fL [] s0 s1:=((lS Q n).call f (ej args) [] ch' s0 v1 s1 h1).1;have sees:iG [] s1 s2':=c.same.sees (.refl _ _) goes;obtain⟨k,hk⟩:=h2;exact⟨k,Pm (fun n o e=>sees.get n o rfl e) k _ _ hk⟩
 have ext:cM G.plain .nil w G1 s2'.heap w' 0 s'.al:=c.ext;have kept: ∀b,b<w.heap.size->w'.heap[b]? =w.heap[b]? :=fun b hb=>ext.keep b hb Gu;have old: ∀b o u,b<w.heap.size->th G1 s2'.heap b o=some u->G.ro b o=some u/\aQ u=true:=by
  intro b o u hb hu;rcases Od hu with hu|⟨m,a,cs,i,h1,h2,h3,_,_⟩
  cases e:G.plain.ro b o with
  |none=>exact absurd (ext.cells b o u hb hu e) Gu
  |some u'=>
   have:=ext.le.ro b o u' e;rw[hu] at this;injection this with this;subst this
   simp only[Gh.plain,az] at e;obtain⟨z,hz,e⟩:=e;split at e;injection e with e;subst e;exact⟨hz,by assumption⟩
   cases e
  exact absurd (ext.owns b hb ⟨m,a,by rw[h1];simp,h2,h3⟩) Gu
 have hle:G.le (G.froze G1 s2'.heap):=⟨fun _ _ h=>h,fun b o u h=>by simp[Gh.froze,h],fun _ _ h=>h⟩;have back: ∀b o u u',th G1 s2'.heap b o=some u->dP s2'.heap u u'->(G.froze G1 s2'.heap).ro b o=some u':=by
  intro b o u u' hu hf;cases e:G.ro b o with
  |none=>simp[Gh.froze,e,hu,ab9 hf]
  |some z=>
   obtain⟨h1,h2⟩:=old b o u (wr.ro_lt e) hu;obtain⟨k,hk⟩:=hf
   have:=Po h2 hk;subst this;simp only[Gh.froze,h1,AP]
 have cell: ∀b o x,b<w.heap.size->w.cell? ⟨b,o,none⟩=some x->w'.cell? ⟨b,o,none⟩=some x:=by
  intro b o x hb hx
  have:=kept b hb;unfold World.cell? at hx ⊢;rw[this];exact hx
 obtain⟨kk,hkk⟩:=hvv;refine⟨G.froze G1 s2'.heap,⟨?_,?_,?_,?_,?_,?_⟩,⟨hle,ext.size,fun b hb _=>kept b hb,fun b _ o=>o,?_,?_,ext.quiet⟩,thaw back c.wr kk c.val hkk⟩;intro n o hn;obtain⟨a,h1,h2,h3⟩:=wr.obj n o hn;exact⟨a,h1,h2,(h3.mono hle).of_block (kept _ (wr.below n a h1))⟩;exact wr.sep;intro b o u hu;cases e:G.ro b o with
 |some z=>
  have:u=z:=by simp only[Gh.froze,e,AP,aP] at hu;exact hu.symm
  subst this;obtain⟨h1,y,h2,h3⟩:=wr.ro b o u e;exact⟨h1,y,cell b o y (wr.ro_lt e) h2,h3.mono hle⟩
 |none=>
  simp only[Gh.froze,e,ul,az] at hu;obtain⟨z,hz,hu⟩:=hu;obtain⟨k,hk⟩:=aca hu;rcases Od hz with hz'|⟨m,a,cs,i,h1,h2,h3,h4,h5⟩
  obtain⟨h1,y,h2,h3⟩:=c.wr.ro b o z hz';exact⟨Jx hk h1,y,h2,thaw back c.wr k h3 hk⟩;obtain⟨a',g1,g2,C,et,g3,g4,g5⟩:=c.wr.obj m _ h1;rw[h2] at g1;injection g1 with g1;subst g1
  obtain⟨r1,y,r2,r3⟩:=g5 i z h5;refine⟨Jx hk r1,y,?_,thaw back c.wr k r3 hk⟩;rw[h3] at g3;rw[qc g3,h4];exact r2
 intro n ob a i u hn ha hu;cases e:G.ro a.block i with
 |some z=>exact wr.apart n ob a i z hn ha e
 |none=>
  simp only[Gh.froze,e,ul,az] at hu;obtain⟨z,hz,_⟩:=hu
  have:=(old _ _ _ (wr.below n a ha) hz).1;rw[e] at this;cases this
 intro b d hd;obtain⟨C,e,h1,h2⟩:=wr.dim b d hd;exact⟨C,e,(kept b (fQ h1)).trans h1,h2⟩;intro n a ha;exact Nat.lt_of_lt_of_le (wr.below n a ha) ext.size;intro n a h1 h2;have h1:G.at_ n=some a:=h1;rw[h2] at h1;cases h1;intro b o u hb hu e;simp only[Gh.froze,e,ul,az] at hu;obtain⟨z,hz,_⟩:=hu
 have:=(old _ _ _ hb hz).1;rw[e] at this;cases this
def eA(hg:Al Q)(hk: ∀i,0<Q.kmax i){s':St}(hp:jn args=true)(hr:aM Q f (ej args) s0 v s')(hci:s'.ci=0)(hu:dP s'.heap v u)(G:Gh)(h:aZ bf)(w:World)(xs:List Value)(wr:WR G h w)(hx:bP G args xs):
 mh Q.P f ⟨xs⟩ w fun y w'=> ∃G',WR G' h w'/\cM G h w G' h w' 0 0/\VR G' u y:=by
 obtain⟨n,hn⟩:=hr;refine Ml (n:=n) hg hk hp (fun ch _=>⟨v,s',?_,hu⟩) G h w xs wr hx;have:(cd (Q.at Q.ch) n).call f (ej args) [] s0=some (v,s'):=hn;exact(sh Q n).call f (ej args) [] Q.ch s0 v s' this ch (fun i hi=>by rw[hci] at hi;omega)
variable{N:Fr->Prop}{op:Op}{P:Program}{c:SC}{t:Tmp}{ft:dj}
section
variable{Q:bF}{f:FuncId}
def wG(x:Option (ae×Loc×St))(K:ae->Loc->St->Prop):Prop:=
 match x with
 |some (v,l,s)=>K v l s
 |none=>False
def WP(Q:bF)(f:FuncId)(ops:List aB)(fr:Fr)(s:St)(N:Fr->St->Prop):Prop:= ∃fr' s',tQ Q f ops fr s=some (fr',s')/\N fr' s'
def nV{s:St}{N:Fr->St->Prop}:WP Q f [] fr s N=N fr s:=by
 apply propext;constructor;rintro⟨fr',s',h,hn⟩;simp only[tQ,aP,bj] at h;obtain⟨rfl,rfl⟩:=h;exact hn;exact fun h=>⟨fr,s,rfl,h⟩
def H6{s:St}{N:Fr->St->Prop}:WP Q f (o::l) fr s N=(∃fr1 s1,yB Q f o fr s=some (fr1,s1)/\WP Q f l fr1 s1 N):=by
 apply propext;constructor;rintro⟨fr',s',h,hn⟩;simp only[tQ,az] at h;obtain⟨⟨fr1,s1⟩,h1,h2⟩:=h;exact⟨fr1,s1,h1,fr',s',h2,hn⟩;rintro⟨fr1,s1,h1,fr',s',h2,hn⟩;refine⟨fr',s',?_,hn⟩;simp only[tQ,h1,bn,h2]
def Ny{d:Tmp}{g:SG}{e:aI}{sz:Nat}{lc:Loc}{s:St}{N:Fr->St->Prop}(hw:fT e g=true):
 WP Q f (⟨some d,op,g⟩::l) ⟨e,sz,lc⟩ s N=wG (df Q f ⟨some d,op,g⟩ [] ⟨e,sz,lc⟩ s) fun v lc' s'=>d<sz/\WP Q f l ⟨e.set d (some v),sz,lc'⟩ s' N:=by
 rw[H6];simp only[yB,hw,cT];cases h:df Q f ⟨some d,op,g⟩ [] ⟨e,sz,lc⟩ s with
 |none=>simp[wG]
 |some x=>
  obtain⟨v,lc',s'⟩:=x;simp only[bn,wG,di];by_cases hd:d<sz;have:bk d sz=true:=cu hd;simp only[this,cT,bn,aP,bj,hd,tA];apply propext;constructor;rintro⟨_,_,⟨rfl,rfl⟩,h⟩;exact h;exact fun h=>⟨_,_,⟨rfl,rfl⟩,h⟩;have:bk d sz=false:=by
   cases h:bk d sz with
   |false=>rfl
   |true=>exact absurd (eG h) hd
  simp[this,hd]
def Xe{g:SG}{e:aI}{sz:Nat}{lc:Loc}{s:St}{N:Fr->St->Prop}(hw:fT e g=true):
 WP Q f (⟨none,op,g⟩::l) ⟨e,sz,lc⟩ s N=wG (df Q f ⟨none,op,g⟩ [] ⟨e,sz,lc⟩ s) fun _ lc' s'=>WP Q f l ⟨e,sz,lc'⟩ s' N:=by
 rw[H6];simp only[yB,hw,cT];cases h:df Q f ⟨none,op,g⟩ [] ⟨e,sz,lc⟩ s with
 |none=>simp[wG]
 |some x=>
  obtain⟨v,lc',s'⟩:=x;simp only[bn,wG,di,aP,bj];apply propext;constructor;rintro⟨_,_,⟨rfl,rfl⟩,h⟩;exact h;exact fun h=>⟨_,_,⟨rfl,rfl⟩,h⟩
def Xf{d:Tmp}{g:SG}{e:aI}{sz:Nat}{lc:Loc}{s:St}{N:Fr->St->Prop}(hw:fT e g=false):
 WP Q f (⟨some d,op,g⟩::l) ⟨e,sz,lc⟩ s N=(d<sz/\WP Q f l ⟨e.set d (some fX),sz,lc⟩ s N):=by
 rw[H6];simp only[yB,hw,cF,di];by_cases hd:d<sz;have:bk d sz=true:=cu hd;simp only[this,cT,bn,aP,bj,hd,tA];apply propext;constructor;rintro⟨_,_,⟨rfl,rfl⟩,h⟩;exact h;exact fun h=>⟨_,_,⟨rfl,rfl⟩,h⟩;have:bk d sz=false:=by
  cases h:bk d sz with
  |false=>rfl
  |true=>exact absurd (eG h) hd
 simp[this,hd]
def fe(a b:Nat):aJ a b=(a==b):=by
 cases h:aJ a b with
 |true=>have:=iw h;subst this;simp
 |false=>have:=Nat.ne_of_beq_eq_false h;exact(bN.2 this).symm
def jU(a b:Nat):bk a b=decide (a<b):=by
 cases h:bk a b with
 |true=>exact(dQ (eG h)).symm
 |false=>exact(dN fun h'=>by
  have:bk a b=true:=cu h';rw[this] at h;cases h).symm
def Gp(a b:Nat):br a b=decide (a<=b):=qU a b
def Gn(k:IntKind)(n:Nat):eK (.int k (n:Int))=some n:=rfl
def pC:ae->Bool->Bool
 | .bool c,b=>c==b
 |_,_=>false
def sS(e:aI)(t:Tmp)(b:Bool):fT e (.when t b)=pC (aj e t) b:=by
 show(match aj e t with| .bool c=>c==b|_=>false)=pC (aj e t) b;generalize aj e t=x;cases x<;>rfl
def VU:pC (.bool true) true=true:=rfl
def apw:pC (.bool true) false=false:=rfl
def apv:pC (.bool false) true=false:=rfl
def apu:pC (.bool false) false=true:=rfl
def apx(b:Bool):pC fX b=false:=rfl
def LR:ae->Option ae->Option ae->Option ae
 | .bool true,a,_=>a
 | .bool false,_,b=>b
 |_,_,_=>none
def alV(e:aI)(c a b:Operand):wJ e c a b=(ev e c).bind fun c=>LR c (ev e a) (ev e b):=by
 unfold wJ;cases ev e c with
 |none=>rfl
 |some v=>
  cases v<;>first|rfl|skip
  rename_i c;cases c<;>rfl
def alU(a b:Option ae):LR (.bool true) a b=a:=rfl
def alT(a b:Option ae):LR (.bool false) a b=b:=rfl
def aaG(e:aI)(x:Operand):evc e x=(ev e x).bind fun v=>bif v.aL then some v else none:=rfl
def yy(v:ae)(l:Loc)(s:St):fC (some v) l s=some (v,l,s):=rfl
def L1(v:ae)(l:Loc)(s:St):gH (some (v,s)) l=some (v,l,s):=rfl
def amO(l:Loc)(s:St):nK (some s) l=some (fX,l,s):=rfl
def Yf(P:Program)(t:TypeId)(a b:Int):d8 P .lss t (.int .i64 a) (.int .i64 b)=some (.bool (bG a b)):=rfl
def Ye(P:Program)(t:TypeId)(a b:Int):d8 P .leq t (.int .i64 a) (.int .i64 b)=some (.bool (ec a b)):=rfl
def Yd(P:Program)(t:TypeId)(a b:Int):d8 P .gtr t (.int .i64 a) (.int .i64 b)=some (.bool (bG b a)):=rfl
def Yc(P:Program)(t:TypeId)(a b:Int):d8 P .geq t (.int .i64 a) (.int .i64 b)=some (.bool (ec b a)):=rfl
def Yb(P:Program)(t:TypeId)(a b:Int):d8 P .eql t (.int .i64 a) (.int .i64 b)=some (.bool (aK a b)):=rfl
def Yg(P:Program)(t:TypeId)(a b:Int):d8 P .neq t (.int .i64 a) (.int .i64 b)=some (.bool (!aK a b)):=rfl
def Ya(P:Program)(t:TypeId)(a b:Int):d8 P .add t (.int .i64 a) (.int .i64 b)=some (.int .i64 (IntKind.i64.wrap (a+b))):=rfl
def Yh(P:Program)(t:TypeId)(a b:Int):d8 P .sub t (.int .i64 a) (.int .i64 b)=some (.int .i64 (IntKind.i64.wrap (a-b))):=rfl
def YC(P:Program)(t:TypeId)(a b:Int):d8 P .neq t (.int .u8 a) (.int .u8 b)=some (.bool (!aK a b)):=rfl
def Yx(P:Program)(t:TypeId)(a b:List UInt8):d8 P .eql t (.str a) (.str b)=some (.bool (a==b)):=rfl
def YB(P:Program)(t:TypeId)(a b:List UInt8):d8 P .neq t (.str a) (.str b)=some (.bool (!(a==b))):=rfl
def Yz(P:Program)(t:TypeId)(a b:List UInt8):d8 P .leq t (.str a) (.str b)=some (.bool (leBytes a b)):=rfl
def YA(P:Program)(t:TypeId)(a b:List UInt8):d8 P .lss t (.str a) (.str b)=some (.bool (Op.bytesLess a b)):=rfl
def ao7(b:Bool):AB .not (.bool b)=some (.bool !b):=rfl
def Yj(P:Program)(mk:aW)(t:TypeId)(mu:Bool)(x:ae)(s:St):mp P mk .len [t] mu [x] s=(gD P mk t x s).bind fun v=>some (v,s):=rfl
def Yi(P:Program)(mk:aW)(t t2:TypeId)(mu:Bool)(x y:ae)(s:St):mp P mk .append [t,t2] mu [x,y] s=bif nF P t2 then hG P mk t x y mu s else none:=rfl
def ac3(h:Tmp->Nat)(t:Tmp):oZ h (some t)=h t:=rfl
def Zq(b:Bool):(ae.bool b).aL=true:=rfl
def Ba(k:IntKind)(n:Int):(ae.int k n).aL=true:=rfl
def Bb(b:List UInt8):(ae.str b).aL=true:=rfl
def Zp(b:List ae):(ae.agg b).aL=true:=rfl
def Zs(n:Nat)(b:List ae)(r:fu):(ae.list n b r).aL=true:=rfl
def Zv(n o:Nat):(ae.ptr n o).aL=true:=rfl
def Zt(n:Nat):(ae.map n).aL=true:=rfl
def Zu:(ae.AL).aL=true:=rfl
def Zr(f:Fn)(a b:List ae):(ae.func f a b).aL=true:=rfl
def Y4(cs:List ae):(ae.agg cs).cells=cs:=rfl
def Y6(s:List UInt8):(ae.str s).cells=[.str s]:=rfl
def Dn(k:IntKind)(n:Int):(ae.int k n).cells=[.int k n]:=rfl
def Y5(n:Nat)(xs:List ae)(r:fu):(ae.list n xs r).cells=[.list n xs r]:=rfl
def aoc(P:Program)(mk:aW)(t:TypeId)(l g off:Nat)(v:ae)(lc:Loc)(s:St):nL P mk t (.Ge l g off) v lc s=(dZ P t).bind fun n=>bif aJ v.cells.length n&&bk 0 n then(lc.get l g).bind fun cs=>(bu cs off v.cells).bind fun cs'=>some (lc.set l g cs',s) else none:=rfl
def aD{α:Type}(n:Nat)(enc:α->ae)(v:ae)(l:List α):Prop:=(v= .AL/\l=[])\/ ∃r,v= .list n (l.map enc) r
def aD.aL{enc:α->ae}{l:List α}(h:aD n enc v l):v.aL=true:=by
 rcases h with⟨rfl,_⟩|⟨r,rfl⟩<;>rfl
def aD.scal{enc:α->ae}{l:List α}(h:aD n enc v l):v.cells=[v]:=by
 rcases h with⟨rfl,_⟩|⟨r,rfl⟩<;>rfl
def S9{α:Type}(enc:α->ae): ∀(l:List α) (i:Nat) (a:α),l[i]? =some a->iA (l.map enc) i=enc a
 | [],i,a,h=>by simp at h
 |x::l,0,a,h=>by simp at h;subst h;rfl
 |x::l,i+1,a,h=>S9 enc l i a (by simpa using h)
def aD.len{enc:α->ae}{l:List α}(h:aD n enc v l){t:TypeId}(h1: ∀mk s,gD P mk t .AL s=some (.int .i64 (0:Nat)))(h2: ∀mk n xs r s,gD P mk t (.list n xs r) s=some (.int .i64 (xs:List ae).length))(mk:aW)(s:St):gD P mk t v s=some (.int .i64 (l.length:Nat)):=by
 rcases h with⟨rfl,rfl⟩|⟨r,rfl⟩
 rw[h1];rfl;rw[h2];simp
def aD.at{enc:α->ae}{l:List α}(h:aD n enc v l){t:TypeId}(h2: ∀lc m xs r i,hJ P lc t (.list m xs r) i=(eK i).bind fun i=>bif aJ m n&&bk i xs.length then some (.ro (iA xs i).cells) else none){a:α}(hi:l[i]? =some a)(lc:Loc)(k:IntKind):
 hJ P lc t v (.int k (i:Int))=some (.ro (enc a).cells):=by
 have hlt:i<l.length:=by
  rcases Nat.lt_or_ge i l.length with h|h
  exact h;rw[List.getElem?_eq_none h] at hi;cases hi
 rcases h with⟨rfl,rfl⟩|⟨r,rfl⟩
 simp at hi;rw[h2];simp only[Gn,bn,S9 enc l i a hi,List.length_map];have:bk i l.length=true:=cu hlt;simp[this]
def Lx(e:aI)(t:Nat)(v:ae):aj (e.set t (some v)) t=v:=by simp[aj,LP]
def aka(e:aI)(t u:Nat)(v:ae)(h:(u==t)=false):aj (e.set t (some v)) u=aj e u:=by
 have:u≠t:=by simpa using h
 simp[aj,aZ.get_set,this]
def ye(e:aI)(t u:Nat)(v:ae):aj (e.set t (some v)) u=bif u==t then v else aj e u:=by
 cases h:u==t with
 |true=>have:u=t:=by simpa using h
        subst this;exact Lx e u v
 |false=>exact aka e t u v h
def gen_set(l:Loc)(t h u:Nat)(c:List ae):(l.set t h c).gen u=bif aJ t u then h else l.gen u:=by
 induction l with
 |nil=>simp only[Loc.set,Loc.gen]
 |cons x l ih=>
  obtain⟨k,g,d⟩:=x;simp only[Loc.set];cases hk:aJ k t with
  |true=>
   have:=iw hk;subst this;simp only[cT,Loc.gen];cases aJ k u<;>rfl
  |false=>
   simp only[cF,Loc.gen,ih];cases hu:aJ k u with
   |false=>rfl
   |true=>
    have:=iw hu;subst this;have:aJ t k=false:=by
     cases h:aJ t k with
     |false=>rfl
     |true=>have:=iw h;subst this;simp at hk
    simp[this]
def gi(t:Nat):Loc.gen [] t=0:=rfl
def acu(l:Loc)(t h:Nat)(c:List ae):(l.set t h c).gen t=h:=by simp[gen_set]
def acv(l:Loc)(t h u:Nat)(c:List ae)(e:(u==t)=false):(l.set t h c).gen u=l.gen u:=by
 rw[gen_set];have:aJ t u=false:=by
  cases h:aJ t u with
  |false=>rfl
  |true=>have:=iw h;subst this;simp at e
 rw[this];rfl
def Sm(l:Loc)(t h u g:Nat)(c:List ae):(l.set t h c).get u g=bif aJ t u then(bif aJ h g then some c else none) else l.get u g:=by
 induction l with
 |nil=>simp only[Loc.set,Loc.get]
 |cons x l ih=>
  obtain⟨k,g',d⟩:=x;simp only[Loc.set];cases hk:aJ k t with
  |true=>
   have:=iw hk;subst this;simp only[cT,Loc.get];cases aJ k u<;>rfl
  |false=>
   simp only[cF,Loc.get,ih];cases hu:aJ k u with
   |false=>rfl
   |true=>
    have:=iw hu;subst this;have:aJ t k=false:=by
     cases h:aJ t k with
     |false=>rfl
     |true=>have:=iw h;subst this;simp at hk
    simp[this]
def aiC(l:Loc)(t h u g:Nat)(c:List ae)(e:(u==t)=false):(l.set t h c).get u g=l.get u g:=by
 rw[Sm];have:aJ t u=false:=by
  cases h:aJ t u with
  |false=>rfl
  |true=>have:=iw h;subst this;simp at e
 rw[this];rfl
def aiD(l:Loc)(t h h':Nat)(c c':List ae):(l.set t h c).set t h' c'=l.set t h' c':=by
 induction l with
 |nil=>simp[Loc.set]
 |cons x l ih=>
  obtain⟨k,g',d⟩:=x;simp only[Loc.set];cases hk:aJ k t with
  |true=>simp[Loc.set,hk]
  |false=>simp[Loc.set,hk,ih]
def eZ(l:Loc)(t h u:Nat)(c:List ae):(l.set t h c).gen u=bif u==t then h else l.gen u:=by
 cases e:u==t with
 |true=>have:u=t:=by simpa using e
        subst this;exact acu l u h c
 |false=>exact acv l t h u c e
def ew(l:Loc)(t h u g:Nat)(c:List ae):(l.set t h c).get u g=bif u==t then(bif g==h then some c else none) else l.get u g:=by
 cases e:u==t with
 |true=>
  have:u=t:=by simpa using e
  subst this;rw[Sm];simp only[cT];cases e:g==h with
  |true=>have:g=h:=by simpa using e
         subst this;simp
  |false=>
   have h1:g≠h:=by simpa using e
   have:aJ h g=false:=by
    cases e':aJ h g with
    |false=>rfl
    |true=>exact absurd (iw e').symm h1
   simp[this]
 |false=>exact aiC l t h u g c e
def Hj(Q:bF)(f:FuncId)(d:Tmp)(e:aI)(sz:Nat)(l:List aB)(N:Fr->St->Prop)(x:Option (ae×Loc×St)):Prop:=wG x fun v lc' s'=>d<sz/\WP Q f l ⟨e.set d (some v),sz,lc'⟩ s' N
def Vc(Q:bF)(f:FuncId)(e:aI)(sz:Nat)(l:List aB)(N:Fr->St->Prop)(x:Option (ae×Loc×St)):Prop:=wG x fun _ lc' s'=>WP Q f l ⟨e,sz,lc'⟩ s' N
def MI(Q:bF)(f:FuncId)(o:aB)(d:Tmp)(e:aI)(sz:Nat)(lc:Loc)(s:St)(l:List aB)(N:Fr->St->Prop):Bool->Prop
 |true=>Hj Q f d e sz l N (df Q f o [] ⟨e,sz,lc⟩ s)
 |false=>d<sz/\WP Q f l ⟨e.set d (some fX),sz,lc⟩ s N
def Hk{d:Tmp}{e:aI}{sz:Nat}{N:Fr->St->Prop}{lc:Loc}{s:St}:Hj Q f d e sz l N (some (v,lc,s))=(d<sz/\WP Q f l ⟨e.set d (some v),sz,lc⟩ s N):=rfl
def an7{e:aI}{sz:Nat}{N:Fr->St->Prop}{lc:Loc}{s:St}:Vc Q f e sz l N (some (v,lc,s))=WP Q f l ⟨e,sz,lc⟩ s N:=rfl
def apA{d:Tmp}{e:aI}{sz:Nat}{lc:Loc}{s:St}{N:Fr->St->Prop}:MI Q f o d e sz lc s l N true=Hj Q f d e sz l N (df Q f o [] ⟨e,sz,lc⟩ s):=rfl
def apz{d:Tmp}{e:aI}{sz:Nat}{lc:Loc}{s:St}{N:Fr->St->Prop}:MI Q f o d e sz lc s l N false=(d<sz/\WP Q f l ⟨e.set d (some fX),sz,lc⟩ s N):=rfl
def Db{d:Tmp}{e:aI}{sz:Nat}{lc:Loc}{s:St}{N:Fr->St->Prop}:
 WP Q f (⟨some d,op,.aw⟩::l) ⟨e,sz,lc⟩ s N=Hj Q f d e sz l N (df Q f ⟨some d,op,.aw⟩ [] ⟨e,sz,lc⟩ s):=Ny rfl
def Xd{e:aI}{sz:Nat}{lc:Loc}{s:St}{N:Fr->St->Prop}:
 WP Q f (⟨none,op,.aw⟩::l) ⟨e,sz,lc⟩ s N=Vc Q f e sz l N (df Q f ⟨none,op,.aw⟩ [] ⟨e,sz,lc⟩ s):=Xe rfl
def Xg{d:Tmp}{b:Bool}{e:aI}{sz:Nat}{lc:Loc}{s:St}{N:Fr->St->Prop}:
 WP Q f (⟨some d,op,.when t b⟩::l) ⟨e,sz,lc⟩ s N=MI Q f ⟨some d,op,.when t b⟩ d e sz lc s l N (pC (aj e t) b):=by
 cases h:pC (aj e t) b with
 |true=>exact Ny (by rw[sS,h])
 |false=>exact Xf (by rw[sS,h])
def W.reg{s:St}{K:Ex->Fr->St->Prop}(h:WP Q f ops fr s fun fr s=>K .normal fr s):W Q f (.region ops) fr s K:=
 let⟨_,_,h1,h2⟩:=h;W.region (WL.run h1 h2)
def W.sreg{s:St}{K:Ex->Fr->St->Prop}(h:WP Q f ops fr s fun fr s=>W Q f c fr s K):W Q f (.seq (.region ops) c) fr s K:=W.seq (W.reg h)
def W.sseq{b:SC}{s:St}{K:Ex->Fr->St->Prop}(h:W Q f a fr s (Ex.next K fun fr s=>W Q f b fr s K)):W Q f (.seq a b) fr s K:=W.seq h
def bM(K:Ex->Fr->St->Prop)(N:Fr->St->Prop):Ex.next K N .normal=N:=rfl
def u7(K:Ex->Fr->St->Prop)(N:Fr->St->Prop):Ex.next K N .ret=K .ret:=rfl
def aj6(K:Ex->Fr->St->Prop)(N:Fr->St->Prop)(i:Nat):Ex.next K N (.exit i)=K (.exit i):=rfl
def N7(i:Nat):Ex.block i .normal= .normal:=rfl
def uA(i:Nat):Ex.block i .ret= .ret:=rfl
def Dj(i j:Nat):Ex.block i (.exit j)=bif aJ j i then .normal else .exit j:=rfl
section
variable{e:aI}{sz:Nat}{lc:Loc}{s:St}{d:Option Tmp}{g:SG}{mk:aW}
def TV(x:Operand):df Q f ⟨d,.move x,g⟩ mk ⟨e,sz,lc⟩ s=fC (ev e x) lc s:=rfl
def GQ(x:Operand):df Q f ⟨d,.assign x,g⟩ mk ⟨e,sz,lc⟩ s=fC (ev e x) lc s:=rfl
def alH(c a b:Operand):df Q f ⟨d,.pick c a b,g⟩ mk ⟨e,sz,lc⟩ s=fC (wJ e c a b) lc s:=rfl
def alu(t:TypeId):df Q f ⟨d,.alloc t,g⟩ mk ⟨e,sz,lc⟩ s=(ek Q.P t).bind fun z=>qK (oZ (Q.hint f) d) d z.cells lc s:=rfl
def alw(t:TypeId)(x:Operand):df Q f ⟨d,.box t x,g⟩ mk ⟨e,sz,lc⟩ s=(evc e x).bind fun a=>qK (oZ (Q.hint f) d) d a.cells lc s:=rfl
def alx(t:TypeId)(ps:Array (Nat×Operand)):df Q f ⟨d,.build t ps,g⟩ mk ⟨e,sz,lc⟩ s=fC (eV Q.P t ps.toList e) lc s:=rfl
def aly(t:TypeId)(n:Nat)(ps:Array (Nat×Operand)):df Q f ⟨d,.buildSlice t n ps,g⟩ mk ⟨e,sz,lc⟩ s=gH (cx Q.P t n ps.toList (aJ (oZ (Q.hint f) d) 2) e s) lc:=rfl
def alE(t:TypeId)(a:Operand):df Q f ⟨d,.load t a,g⟩ mk ⟨e,sz,lc⟩ s=(ev e a).bind fun a=>fC (lR Q.P mk t a lc s) lc s:=rfl
def alJ(t:TypeId)(a x:Operand):df Q f ⟨d,.store t a x,g⟩ mk ⟨e,sz,lc⟩ s=(ev e a).bind fun a=>(evc e x).bind fun x=>(nL Q.P mk t a x lc s).bind fun r=>some (fX,r.1,r.2):=rfl
def alv(o:BinOp)(t u:TypeId)(x y:Operand):df Q f ⟨d,.binOp o t x y u,g⟩ mk ⟨e,sz,lc⟩ s=(evc e x).bind fun x=>(evc e y).bind fun y=>fC (d8 Q.P o t x y) lc s:=rfl
def alK(o:UnOp)(t:TypeId)(x:Operand):df Q f ⟨d,.unOp o t x,g⟩ mk ⟨e,sz,lc⟩ s=(evc e x).bind fun a=>fC (AB o a) lc s:=rfl
def TU(t:TypeId)(x:Operand)(i:Nat):df Q f ⟨d,.fieldAddr t x i,g⟩ mk ⟨e,sz,lc⟩ s=(ev e x).bind fun a=>fC (eY Q.P lc t a i) lc s:=rfl
def alC(t:TypeId)(x i:Operand):df Q f ⟨d,.index t x i,g⟩ mk ⟨e,sz,lc⟩ s=(evc e x).bind fun x=>(ev e i).bind fun i=>fC (tz Q.P t x i) lc s:=rfl
def alD(t:TypeId)(x i:Operand):df Q f ⟨d,.indexAddr t x i,g⟩ mk ⟨e,sz,lc⟩ s=(ev e x).bind fun x=>(ev e i).bind fun i=>fC (hJ Q.P lc t x i) lc s:=rfl
def alI(t:TypeId)(x:Operand)(lo hi mx:Option Operand):df Q f ⟨d,.slice t x lo hi mx,g⟩ mk ⟨e,sz,lc⟩ s=(evc e x).bind fun a=>fC (ib Q.P mk t a lo hi mx e s) lc s:=rfl
def alF(t:TypeId)(x i:Operand)(ok:Bool):df Q f ⟨d,.lookup t x i ok,g⟩ mk ⟨e,sz,lc⟩ s=(evc e x).bind fun x=>(evc e i).bind fun i=>fC (mU Q.P mk t x i ok s) lc s:=rfl
def alM(t:TypeId)(m k x:Operand):df Q f ⟨d,.mapUpdate t m k x,g⟩ mk ⟨e,sz,lc⟩ s=(evc e m).bind fun m=>(evc e k).bind fun k=>(evc e x).bind fun x=>nK (nM Q.P mk t m k x s) lc:=rfl
def LQ(t:TypeId)(r:Option Operand):df Q f ⟨d,.makeMap t r,g⟩ mk ⟨e,sz,lc⟩ s=gH (oh Q.P t e r s) lc:=rfl
def alG(fn:Fn)(a b:Array Operand):df Q f ⟨d,.makeFunc fn a b,g⟩ mk ⟨e,sz,lc⟩ s=fC (si e fn a b) lc s:=rfl
def TW(x:Operand):df Q f ⟨d,.nilCheck x,g⟩ mk ⟨e,sz,lc⟩ s=(ev e x).bind fun a=>fC (wE lc a) lc s:=rfl
def alB(x:Operand)(i:Nat):df Q f ⟨d,.extract x i,g⟩ mk ⟨e,sz,lc⟩ s=(ev e x).bind fun a=>fC (dU i a) lc s:=rfl
def alz(b:Builtin)(as:Array Operand)(ts:Array TypeId):df Q f ⟨d,.call ⟨.builtin b,as,ts⟩,g⟩ mk ⟨e,sz,lc⟩ s=
 (evcs e as.toList).bind fun args=>gH (mp Q.P mk b ts.toList (aJ (oZ (Q.hint f) d) 2) args s) lc:=rfl
def alA(x:Operand)(as:Array Operand)(ts:Array TypeId):df Q f ⟨d,.call ⟨.value x,as,ts⟩,g⟩ mk ⟨e,sz,lc⟩ s=
 (callee e ⟨.value x,as,ts⟩).bind fun g=>(Q.spec g.1).bind fun sp=>(sp g.2).bind fun v=>some (v,lc,s):=rfl
def YM(n:FuncId)(as:Array Operand)(ts:Array TypeId):callee e ⟨.value (.func n),as,ts⟩=(evcs e as.toList).bind fun args=>some (n,args):=by
 simp only[callee,ev,bn,List.nil_append,ii]
end
def bq(e:aI)(t:Nat):ev e (.tmp t)=some (aj e t):=rfl
def OV(e:aI)(v:Value):ev e (.const v)=ofValue v:=rfl
def aaE(e:aI)(n:FuncId):ev e (.func n)=some (.func (.func n) [] []):=rfl
def aaI(e:aI):evcs e []=some []:=rfl
def aaH(e:aI)(x:Operand)(l:List Operand):evcs e (x::l)=(evc e x).bind fun v=>(evcs e l).bind fun r=>some (v::r):=rfl
def gV(b:Bool):ofValue (.bool b)=some (.bool b):=rfl
def hQ(k:IntKind)(n:Int):ofValue (.int k n)=some (.int k n):=rfl
def Ci(s:Array UInt8):ofValue (.string ⟨s⟩)=some (.str s.toList):=rfl
def Yn(t:Tmp)(cs:List ae)(lc:Loc)(s:St):qK 1 (some t) cs lc s=some (.Ge t (lc.gen t+1) 0,lc.set t (lc.gen t+1) cs,s):=rfl
def Ym(d:Option Tmp)(cs:List ae)(lc:Loc)(s:St):qK 0 d cs lc s=some (.ptr s.al 0,lc,s.new (.cells cs)):=rfl
def aif(P:Program)(mk:aW)(t:TypeId)(l g off:Nat)(lc:Loc)(s:St):lR P mk t (.Ge l g off) lc s=(lc.get l g).bind fun cs=>ey P t cs off:=rfl
def aig(P:Program)(mk:aW)(t:TypeId)(cs:List ae)(lc:Loc)(s:St):lR P mk t (.ro cs) lc s=ey P t cs 0:=rfl
def im(a b:Nat):bG (a:Int) (b:Int)=decide (a<b):=by simp[bG]
def lj(a b:Nat):ec (a:Int) (b:Int)=decide (a<=b):=by simp[ec]
def o8(a b:Nat):aK (a:Int) (b:Int)=(a==b):=by
 simp only[aK];cases h:a==b with
 |true=>have:a=b:=by simpa using h
        subst this;simp
 |false=>
  have:a≠b:=by simpa using h
  exact bN.2 fun e=>this (Int.ofNat.inj e)
def lC{z:Int}(h1: -9223372036854775808<=z)(h2:z<9223372036854775808):IntKind.i64.wrap z=z:=by
 rw[IntKind.wrap_i64];omega
def St.top(s:St):St:=⟨s.heap,s.al,s.al,s.ci⟩
def WQ(Q:bF)(f:FuncId)(s:St):List aB->Fr->(Fr->Prop)->Prop
 | [],fr,N=>N fr
 |o::l,fr,N=>(fT fr.env o.g=true/\ ∃v lc fr',df Q f o [] fr s=some (v,lc,s)/\isStore o.op=false/\di fr o.dst v lc=some fr'/\WQ Q f s l fr' N)\/
   (fT fr.env o.g=false/\ ∃fr',di fr o.dst fX fr.loc=some fr'/\WQ Q f s l fr' N)
def calm(rs:List dr):Prop:= ∀r∈rs,r.c0=r.c1/\r.loud=false
def K9(h:calm rs)(b:Nat):iz b rs []=[]:=by
 induction rs with
 |nil=>rfl
 |cons r rs ih=>
  have:=h r (by simp);simp only[iz,this.1,fe,bS,Bool.or_true,cT];exact ih fun r hr=>h r (by simp[hr])
def Je(h:calm rs)(b:Nat)(ft:dj):fits b ft false rs=true:=by
 simp only[fits,fY];intro r hr;simp[(h r hr).2]
def WQ.draw{s:St}(hm:s.ge<=s.al): ∀ {l:List aB} {bs:List Nat} {rs:List dr} {i:Nat} {fr:Fr} {N:Fr->Prop},calm rs->WQ Q f s.top l fr N-> ∃fr',wO Q f bs rs i l fr s=some (fr',s)/\N fr'
 | [],bs,rs,i,fr,N,_,h=>⟨fr,rfl,h⟩
 |o::l,bs,rs,i,fr,N,hc,h=>by
  simp only[wO];rcases h with⟨hw,v,lc,fr',h1,h2,h3,h4⟩|⟨hw,fr',h3,h4⟩
  rw[hw,K9 hc];have h1:df Q f o [] fr ⟨s.heap,s.al,s.al,s.ci⟩=some (v,lc,⟨s.heap,s.al,s.al,s.ci⟩):=h1;simp only[cT,h1,bn,h2,jL];have hb:bk s.al s.al=false:=by rw[jU];simp
  have hl:s.Gt ⟨s.heap,s.al,s.al,s.ci⟩=s:=by
   have:br s.ge s.al=true:=cu hm;simp[St.Gt,this]
  rw[hb,Je hc,fe,bS];simp only[rr,cT,h3,bn,hl];exact WQ.draw hm (fun r hr=>by
   rcases cQ.1 hr with rfl|hr
   exact⟨rfl,rfl⟩;exact hc r hr) h4
  rw[hw];simp only[cF,h3,bn];exact WQ.draw hm hc h4
def W.drawQ{s:St}{K:Ex->Fr->St->Prop}(hm:s.ge<=s.al)(h:WQ Q f s.top ops fr fun fr'=>K .normal fr' s):W Q f (.draw ops bs) fr s K:=
 let⟨_,h1,h2⟩:=WQ.draw hm (fun _ hr=>by cases hr) h;W.draw h1 h2
def W.sdrawQ{s:St}{K:Ex->Fr->St->Prop}(hm:s.ge<=s.al)(h:WQ Q f s.top ops fr fun fr'=>W Q f c fr' s K):W Q f (.seq (.draw ops bs) c) fr s K:=W.seq (W.drawQ hm h)
def Hl(Q:bF)(f:FuncId)(s:St)(d:Tmp)(st:Bool)(e:aI)(sz:Nat)(l:List aB)(N:Fr->Prop)(x:Option (ae×Loc×St)):Prop:= ∃v lc,x=some (v,lc,s)/\st=false/\d<sz/\WQ Q f s l ⟨e.set d (some v),sz,lc⟩ N
def an8{s:St}{d:Tmp}{st:Bool}{e:aI}{sz:Nat}{lc:Loc}:Hl Q f s d st e sz l N (some (v,lc,s))=(st=false/\d<sz/\WQ Q f s l ⟨e.set d (some v),sz,lc⟩ N):=by
 apply propext;constructor;rintro⟨v',lc',h,h1,h2,h3⟩;simp only[aP,bj] at h;obtain⟨rfl,rfl,_⟩:=h;exact⟨h1,h2,h3⟩;rintro⟨h1,h2,h3⟩;exact⟨v,lc,rfl,h1,h2,h3⟩
def MJ(Q:bF)(f:FuncId)(s:St)(o:aB)(d:Tmp)(e:aI)(sz:Nat)(lc:Loc)(l:List aB)(N:Fr->Prop):Bool->Prop
 |true=>Hl Q f s d (isStore o.op) e sz l N (df Q f o [] ⟨e,sz,lc⟩ s)
 |false=>d<sz/\WQ Q f s l ⟨e.set d (some fX),sz,lc⟩ N
def apC{s:St}{d:Tmp}{e:aI}{sz:Nat}{lc:Loc}:MJ Q f s o d e sz lc l N true=Hl Q f s d (isStore o.op) e sz l N (df Q f o [] ⟨e,sz,lc⟩ s):=rfl
def apB{s:St}{d:Tmp}{e:aI}{sz:Nat}{lc:Loc}:MJ Q f s o d e sz lc l N false=(d<sz/\WQ Q f s l ⟨e.set d (some fX),sz,lc⟩ N):=rfl
def eM{e:aI}{sz:Nat}{lc:Loc}{d:Tmp}{lc':Loc}:di ⟨e,sz,lc⟩ (some d) v lc'=some fr'↔d<sz/\fr'=⟨e.set d (some v),sz,lc'⟩:=by
 simp only[di,jU];by_cases h:d<sz;simp[h,eq_comm];simp[h]
def Xi{s:St}:WQ Q f s [] fr N=N fr:=rfl
def Xh{s:St}{d:Tmp}{e:aI}{sz:Nat}{lc:Loc}:
 WQ Q f s (⟨some d,op,.aw⟩::l) ⟨e,sz,lc⟩ N=Hl Q f s d (isStore op) e sz l N (df Q f ⟨some d,op,.aw⟩ [] ⟨e,sz,lc⟩ s):=by
 apply propext;constructor;rintro(⟨_,v,lc',fr',h1,h2,h3,h4⟩|⟨hw,_⟩);obtain⟨hd,rfl⟩:=eM.1 h3;exact⟨v,lc',h1,h2,hd,h4⟩;cases hw;rintro⟨v,lc',h1,h2,hd,h4⟩;exact .inl ⟨rfl,v,lc',_,h1,h2,eM.2 ⟨hd,rfl⟩,h4⟩
def Xj{s:St}{d:Tmp}{b:Bool}{e:aI}{sz:Nat}{lc:Loc}:
 WQ Q f s (⟨some d,op,.when t b⟩::l) ⟨e,sz,lc⟩ N=MJ Q f s ⟨some d,op,.when t b⟩ d e sz lc l N (pC (aj e t) b):=by
 apply propext;constructor;rintro(⟨hw,v,lc',fr',h1,h2,h3,h4⟩|⟨hw,fr',h3,h4⟩);have hw:fT e (.when t b)=true:=hw;rw[sS] at hw;obtain⟨hd,rfl⟩:=eM.1 h3;rw[hw];exact⟨v,lc',h1,h2,hd,h4⟩;have hw:fT e (.when t b)=false:=hw;rw[sS] at hw;obtain⟨hd,rfl⟩:=eM.1 h3;rw[hw];exact⟨hd,h4⟩;intro h;cases hw:pC (aj e t) b with
 |true=>
  rw[hw] at h;obtain⟨v,lc',h1,h2,hd,h4⟩:=h;exact .inl ⟨by show fT e (.when t b)=true;rw[sS,hw],v,lc',_,h1,h2,eM.2 ⟨hd,rfl⟩,h4⟩
 |false=>
  rw[hw] at h;exact .inr ⟨by show fT e (.when t b)=false;rw[sS,hw],_,eM.2 ⟨h.1,rfl⟩,h.2⟩
def aM.of2{rs:List ResultVar}{s s':St}(hf:Q.P.funcs[f]? =some fn)(hc:fn.body.map fP=some sc)(hn:fn.ntmps=n)(hr:fn.results.toList=rs)(hsp:Q.spec f=none)(h:W Q f sc (bv n args) s fun x fr' s1=>s1=s'/\(x= .normal\/x= .ret)/\ ∃vs,bW Q [] fr' s1 rs=some vs/\gG vs=v)(hH:Q.specH f=none:=by rfl)(hW:Q.specW f=none:=by rfl):aM Q f args s v s':=by
 cases hb:fn.body with
 |none=>rw[hb] at hc;cases hc
 |some c=>
  rw[hb] at hc;simp only[Option.map_some,aP] at hc;subst hn;subst hr;exact aM.of hf hb hsp hc h hH hW
def bz{s:St}(h:aj fr.env t=v)(hc:v.aL=true): ∃vs,bW Q [] fr s [.tmp t]=some vs/\gG vs=v:=by
 refine⟨[v],?_,rfl⟩;simp only[bW,dy,evc,ev,h,bn,hc,cT]
def zP(h: ∀r∈rs,b.testBit r.i=true\/r.c0=r.c1):iz b rs []=[]:=by
 induction rs with
 |nil=>rfl
 |cons r rs ih=>
  have h1:(b.testBit r.i||aJ r.c0 r.c1)=true:=by
   rcases h r (by simp) with h|h
   rw[h];rfl;rw[h,Cc,Bool.or_true]
  simp only[iz,h1,cT];exact ih fun r hr=>h r (by simp[hr])
def Bs{loud:Bool}(h: ∀r∈rs,b.testBit r.i=true):fits b ft loud rs=true:=by
 simp only[fits,fY];intro r hr;rw[h r hr];rfl
def abP(h: ∀r∈rs,r.loud=false):fits b ft false rs=true:=by
 simp only[fits,fY];intro r hr;simp[h r hr]
def lQ{s:St}(hm:s.ge<=s.al):s.Gt s.top=s:=by
 have:br s.ge s.al=true:=cu hm;simp[St.Gt,St.top,this]
def KR{s:St}(hm:s.ge<=s.al)(o:bf):s.Gt (s.top.new o)=s.new o:=by
 have:br s.ge s.al=true:=cu hm;simp[St.Gt,St.top,St.new,this]
def W.drawR{s s1:St}{K:Ex->Fr->St->Prop}(h:kW Q f bs [] 0 ops fr s fr1 s1)(hk:K .normal fr1 s1):W Q f (.draw ops bs) fr s K:=⟨_,_,_,.draw h,hk⟩
def WQ.thenD{s:St}(hm:s.ge<=s.al){l2:List aB}{N:Fr->St->Prop}: ∀ {l1:List aB} {bs:List Nat} {rs:List dr} {i:Nat} {fr:Fr},calm rs->(∀r∈rs,r.i<i)->
 WQ Q f s.top l1 fr (fun fr1=> ∀rs1,calm rs1->(∀r∈rs1,r.i<i+l1.length)-> ∃fr' s',kW Q f (bs.drop l1.length) rs1 (i+l1.length) l2 fr1 s fr' s'/\N fr' s')-> ∃fr' s',kW Q f bs rs i (l1++l2) fr s fr' s'/\N fr' s'
 | [],bs,rs,i,fr,hc,hi,h=>h rs hc hi
 |o::l,bs,rs,i,fr,hc,hi,h=>by
  have hdrop: ∀(bs:List Nat) (n:Nat),bs.tail.drop n=bs.drop (n+1):=fun bs n=>by cases bs<;>simp
  rcases h with⟨hw,v,lc,fr',h1,h2,h3,h4⟩|⟨hw,fr',h3,h4⟩
  have hl:(bk s.top.ge s.al||isStore o.op)=false:=by
   rw[h2,jL,jU];exact dN (by show¬s.al<s.al;omega)
  obtain⟨fr2,s2,q1,q2⟩:=WQ.thenD (l2:=l2) (N:=N) hm (l1:=l) (bs:=bs.tail) (rs:=⟨i,s.al,s.al,bZ (Q.hint f) o.dst fr.env o.op,false⟩::rs) (i:=i+1) (fr:=fr')
   (fun r hr=>by
    rcases cQ.1 hr with rfl|hr
    exact⟨rfl,rfl⟩;exact hc r hr) (fun r hr=>by
    rcases cQ.1 hr with rfl|hr
    exact fK _;exact nQ (hi r hr)) (by
    rw[hdrop];have e:i+1+l.length=i+(o::l).length:=by simp only[cP];omega
    rw[e];exact h4)
  refine⟨fr2,s2,.step hw (v:=v) (lc:=lc) (s1:=s.top) ?_ (by rw[hl];exact Je hc _ _) rfl h3 ?_,q2⟩;rw[K9 hc];exact h1;rw[hl,lQ hm];exact q1;obtain⟨fr2,s2,q1,q2⟩:=WQ.thenD (l2:=l2) (N:=N) hm (l1:=l) (bs:=bs.tail) (rs:=rs) (i:=i+1) (fr:=fr') hc (fun r hr=>nQ (hi r hr)) (by
   rw[hdrop];have e:i+1+l.length=i+(o::l).length:=by simp only[cP];omega
   rw[e];exact h4)
  exact⟨fr2,s2,.skip hw h3 q1,q2⟩
end
def qz:Code->List (Code×Code)
 | .seq a b=>qz a++qz b
 | .cond _ a b=>qz a++qz b
 | .block _ b=>qz b
 | .scope b=>qz b
 | .loop b=>qz b
 | .rangeFunc _ _ a b=>qz a++(qz b++[(a,b)])
 |_=>[]
section
variable{Q:bF}{f:FuncId}
def ei(i b:Nat):Bool:=b % 2 ^ i==2 ^ i-1
def ack{i b:Nat}(h:ei i b=true): ∀j,j<i->b.testBit j=true:=by
 intro j hj;have h1:b % 2 ^ i=2 ^ i-1:=eq_of_beq h;have h2:(b % 2 ^ i).testBit j=true:=by rw[h1,Nat.testBit_two_pow_sub_one];exact dQ hj
 rw[Nat.testBit_mod_two_pow] at h2;simp only[bA] at h2;exact h2.2
def My:Nat->List Nat->Nat×Bool
 |_,[]=>(0,true)
 |i,b::l=>match My (i+1) l with
  |(k,true)=>bif ei i b then(k+1,true) else(k,false)
  |(k,false)=>(k,false)
def eC(bs:List Nat):Nat×List Nat:=(bs.length-(My 0 bs).1,bs.drop (bs.length-(My 0 bs).1))
def WT(Q:bF)(f:FuncId):Nat->List Nat->List aB->Fr->St->(Fr->St->Prop)->Prop
 |_,_,[],fr,s,N=>N fr s
 |_,[],_::_,_,_,_=>False
 |i,b::bs,o::l,fr,s,N=>ei i b=true/\((fT fr.env o.g=true/\ ∃v lc s1 fr',df Q f o [] fr s.top=some (v,lc,s1)/\s1.ci=s.ci/\di fr o.dst v lc=some fr'/\WT Q f (i+1) bs l fr' (s.Gt s1) N)\/
  (fT fr.env o.g=false/\ ∃fr',di fr o.dst fX fr.loc=some fr'/\WT Q f (i+1) bs l fr' s N))
def WT.run: ∀ {l:List aB} {i:Nat} {bs:List Nat} {rs:List dr} {fr:Fr} {s:St} {N:Fr->St->Prop},(∀r∈rs,r.i<i)->WT Q f i bs l fr s N-> ∃fr' s',kW Q f bs rs i l fr s fr' s'/\N fr' s'
 | [],i,bs,rs,fr,s,N,_,h=>⟨fr,s,.nil,by cases bs<;>exact h⟩
 |o::l,i,[],rs,fr,s,N,_,h=>h.elim
 |o::l,i,b::bs,rs,fr,s,N,hi,h=>by
  obtain⟨hb,h⟩:=h;have hb:=ack hb;rcases h with⟨hw,v,lc,s1,fr1,h1,h2,h3,h4⟩|⟨hw,fr1,h3,h4⟩
  obtain⟨fr',s',q1,q2⟩:=WT.run (rs:=⟨i,s.al,s1.al,bZ (Q.hint f) o.dst fr.env o.op,bk s1.ge s.al||isStore o.op⟩::rs) (fun r hr=>by
   rcases cQ.1 hr with rfl|hr
   exact fK _;exact nQ (hi r hr)) h4
  refine⟨fr',s',.step hw (v:=v) (lc:=lc) (s1:=s1) ?_ (Bs fun r hr=>hb _ (hi r hr)) h2 h3 q1,q2⟩;show df Q f o (iz b rs []) fr s.top=_;rw[zP fun r hr=>.inl (hb _ (hi r hr))];exact h1;obtain⟨fr',s',q1,q2⟩:=WT.run (rs:=rs) (fun r hr=>nQ (hi r hr)) h4;exact⟨fr',s',.skip hw h3 q1,q2⟩
def pA(Q:bF)(f:FuncId)(i:Nat)(bs:List Nat)(d:Tmp)(e:aI)(sz:Nat)(s:St)(l:List aB)(N:Fr->St->Prop)(x:Option (ae×Loc×St)):Prop:= ∃v lc s1,x=some (v,lc,s1)/\s1.ci=s.ci/\d<sz/\WT Q f (i+1) bs l ⟨e.set d (some v),sz,lc⟩ (s.Gt s1) N
def Vd(Q:bF)(f:FuncId)(i:Nat)(bs:List Nat)(e:aI)(sz:Nat)(s:St)(l:List aB)(N:Fr->St->Prop)(x:Option (ae×Loc×St)):Prop:= ∃v lc s1,x=some (v,lc,s1)/\s1.ci=s.ci/\WT Q f (i+1) bs l ⟨e,sz,lc⟩ (s.Gt s1) N
section
variable{i b:Nat}{bs:List Nat}{d:Tmp}{op:Op}{l:List aB}{e:aI}{sz:Nat}{lc:Loc}{s s1:St}{N:Fr->St->Prop}{v:ae}{t:Tmp}{c:Bool}
def aob:pA Q f i bs d e sz s l N (some (v,lc,s1))=(s1.ci=s.ci/\d<sz/\WT Q f (i+1) bs l ⟨e.set d (some v),sz,lc⟩ (s.Gt s1) N):=by
 apply propext;constructor;rintro⟨v',lc',s',h,h1,h2,h3⟩;simp only[aP,bj] at h;obtain⟨rfl,rfl,rfl⟩:=h;exact⟨h1,h2,h3⟩;rintro⟨h1,h2,h3⟩;exact⟨v,lc,s1,rfl,h1,h2,h3⟩
def aoa:Vd Q f i bs e sz s l N (some (v,lc,s1))=(s1.ci=s.ci/\WT Q f (i+1) bs l ⟨e,sz,lc⟩ (s.Gt s1) N):=by
 apply propext;constructor;rintro⟨v',lc',s',h,h1,h3⟩;simp only[aP,bj] at h;obtain⟨rfl,rfl,rfl⟩:=h;exact⟨h1,h3⟩;rintro⟨h1,h3⟩;exact⟨v,lc,s1,rfl,h1,h3⟩
def Nz:WT Q f i bs [] fr s N=N fr s:=by cases bs<;>rfl
def Xk:WT Q f i (b::bs) (⟨some d,op,.aw⟩::l) ⟨e,sz,lc⟩ s N=(ei i b=true/\pA Q f i bs d e sz s l N (df Q f ⟨some d,op,.aw⟩ [] ⟨e,sz,lc⟩ s.top)):=by
 apply propext;constructor;rintro⟨hb,⟨_,v,lc',s1,fr',h1,h2,h3,h4⟩|⟨hw,_⟩⟩;obtain⟨hd,rfl⟩:=eM.1 h3;exact⟨hb,v,lc',s1,h1,h2,hd,h4⟩;cases hw;rintro⟨hb,v,lc',s1,h1,h2,hd,h4⟩;exact⟨hb,.inl ⟨rfl,v,lc',s1,_,h1,h2,eM.2 ⟨hd,rfl⟩,h4⟩⟩
def Xl:WT Q f i (b::bs) (⟨none,op,.aw⟩::l) ⟨e,sz,lc⟩ s N=(ei i b=true/\Vd Q f i bs e sz s l N (df Q f ⟨none,op,.aw⟩ [] ⟨e,sz,lc⟩ s.top)):=by
 apply propext;constructor;rintro⟨hb,⟨_,v,lc',s1,fr',h1,h2,h3,h4⟩|⟨hw,_⟩⟩;have h3:fr'=⟨e,sz,lc'⟩:=(sI h3).symm;subst h3;exact⟨hb,v,lc',s1,h1,h2,h4⟩;cases hw;rintro⟨hb,v,lc',s1,h1,h2,h4⟩;exact⟨hb,.inl ⟨rfl,v,lc',s1,_,h1,h2,rfl,h4⟩⟩
end
def ao0(s:St):s.top.ci=s.ci:=rfl
def ao1(s:St):s.top.al=s.al:=rfl
def MM(Q:bF)(f:FuncId)(i:Nat)(bs:List Nat)(o:aB)(d:Tmp)(e:aI)(sz:Nat)(lc:Loc)(s:St)(l:List aB)(N:Fr->St->Prop):Bool->Prop
 |true=>pA Q f i bs d e sz s l N (df Q f o [] ⟨e,sz,lc⟩ s.top)
 |false=>d<sz/\WT Q f (i+1) bs l ⟨e.set d (some fX),sz,lc⟩ s N
section
variable{i b:Nat}{bs:List Nat}{d:Tmp}{op:Op}{o:aB}{l:List aB}{e:aI}{sz:Nat}{lc:Loc}{s s1:St}{N:Fr->St->Prop}{v:ae}{t:Tmp}{c:Bool}
def apE:MM Q f i bs o d e sz lc s l N true=pA Q f i bs d e sz s l N (df Q f o [] ⟨e,sz,lc⟩ s.top):=rfl
def apD:MM Q f i bs o d e sz lc s l N false=(d<sz/\WT Q f (i+1) bs l ⟨e.set d (some fX),sz,lc⟩ s N):=rfl
def Xm:WT Q f i (b::bs) (⟨some d,op,.when t c⟩::l) ⟨e,sz,lc⟩ s N=(ei i b=true/\MM Q f i bs ⟨some d,op,.when t c⟩ d e sz lc s l N (pC (aj e t) c)):=by
 apply propext;constructor;rintro⟨hb,⟨hw,v,lc',s1,fr',h1,h2,h3,h4⟩|⟨hw,fr',h3,h4⟩⟩;have hw:fT e (.when t c)=true:=hw;rw[sS] at hw;obtain⟨hd,rfl⟩:=eM.1 h3;rw[hw];exact⟨hb,v,lc',s1,h1,h2,hd,h4⟩;have hw:fT e (.when t c)=false:=hw;rw[sS] at hw;obtain⟨hd,rfl⟩:=eM.1 h3;rw[hw];exact⟨hb,hd,h4⟩;rintro⟨hb,h⟩;refine⟨hb,?_⟩;cases hw:pC (aj e t) c with
 |true=>
  rw[hw] at h;obtain⟨v,lc',s1,h1,h2,hd,h4⟩:=h;exact .inl ⟨by show fT e (.when t c)=true;rw[sS,hw],v,lc',s1,_,h1,h2,eM.2 ⟨hd,rfl⟩,h4⟩
 |false=>
  rw[hw] at h;exact .inr ⟨by show fT e (.when t c)=false;rw[sS,hw],_,eM.2 ⟨h.1,rfl⟩,h.2⟩
end
def uU{s s1:St}(hm:s.ge<=s.al)(h1:s.al<=s1.al):(s.Gt s1).ge<=(s.Gt s1).al:=by
 show(bif br s.ge s1.ge then s.ge else s1.ge)<=s1.al;cases h:br s.ge s1.ge with
 |true=>simp only[cT];omega
 |false=>
  have: ¬s.ge<=s1.ge:=fun hc=>by rw[cu hc] at h;cases h
  simp only[cF];omega
def WQ.mono{s:St}{N N':Fr->Prop}(h: ∀fr,N fr->N' fr): ∀ {l:List aB} {fr:Fr},WQ Q f s l fr N->WQ Q f s l fr N'
 | [],fr,hw=>h fr hw
 |o::l,fr,hw=>by
  rcases hw with⟨hw,v,lc,fr',h1,h2,h3,h4⟩|⟨hw,fr',h3,h4⟩
  exact .inl ⟨hw,v,lc,fr',h1,h2,h3,WQ.mono h h4⟩;exact .inr ⟨hw,fr',h3,WQ.mono h h4⟩
def WF(Q:bF)(f:FuncId):SC->Fr->St->(Ex->Fr->St->Prop)->Prop
 | .skip,fr,s,K=>K .normal fr s
 | .ret,fr,s,K=>K .ret fr s
 | .exit id,fr,s,K=>K (.exit id) fr s
 | .seq a b,fr,s,K=>WF Q f a fr s (Ex.next K fun fr s=>WF Q f b fr s K)
 | .cond o a b,fr,s,K=>(ev fr.env o=some (.bool true)/\WF Q f a fr s K)\/(ev fr.env o=some (.bool false)/\WF Q f b fr s K)
 | .block id b,fr,s,K=>WF Q f b fr s fun x=>K (x.block id)
 | .scope b,fr,s,K=>WF Q f b fr s K
 | .region ops,fr,s,K=>WP Q f ops fr s fun fr s=>K .normal fr s
 | .draw ops bs,fr,s,K=>s.ge<=s.al/\WQ Q f s.top (ops.take (eC bs).1) fr fun fr1=>WT Q f (eC bs).1 (eC bs).2 (ops.drop (eC bs).1) fr1 s fun fr s=>K .normal fr s
 | .loop b,fr,s,K=>W Q f (.loop b) fr s K
 | .rfun g ps a b,fr,s,K=>W Q f (.rfun g ps a b) fr s K
 | .bad,fr,s,K=>W Q f .bad fr s K
def WF.sound: ∀ {c:SC} {fr:Fr} {s:St} {K:Ex->Fr->St->Prop},WF Q f c fr s K->W Q f c fr s K
 | .skip,_,_,_,h=>W.skip h
 | .ret,_,_,_,h=>W.ret h
 | .exit _,_,_,_,h=>W.exit h
 | .seq a b,fr,s,K,h=>W.seq ((WF.sound (c:=a) h).mono fun x fr s hx=>by
  cases x with
  |normal=>exact WF.sound (c:=b) hx
  |exit i=>exact hx
  |ret=>exact hx)
 | .cond o a b,fr,s,K,h=>by
   rcases h with⟨h1,h2⟩|⟨h1,h2⟩
   exact W.cond (t:=true) h1 (WF.sound (c:=a) h2);exact W.cond (t:=false) h1 (WF.sound (c:=b) h2)
 | .block id b,fr,s,K,h=>W.block (WF.sound (c:=b) h)
 | .scope b,fr,s,K,h=>W.scope (WF.sound (c:=b) h)
 | .region ops,fr,s,K,h=>by
   obtain⟨fr',s',h1,h2⟩:=h;exact W.region (WL.run h1 h2)
 | .draw ops bs,fr,s,K,h=>by
   have hn:(ops.take (eC bs).1).length<=(eC bs).1:=List.length_take_le _ _;obtain⟨h1,h2⟩:=h;have key: ∀fr1,WT Q f (eC bs).1 (eC bs).2 (ops.drop (eC bs).1) fr1 s (fun fr s=>K .normal fr s)-> ∀rs1:List dr,calm rs1->(∀r∈rs1,r.i<0+(ops.take (eC bs).1).length)->
    ∃fr' s',kW Q f (bs.drop (ops.take (eC bs).1).length) rs1 (0+(ops.take (eC bs).1).length) (ops.drop (eC bs).1) fr1 s fr' s'/\K .normal fr' s':=fun fr1 hT rs1 _ hi=>by
    by_cases hl:(eC bs).1<=ops.length;have he:(ops.take (eC bs).1).length=(eC bs).1:=by rw[List.length_take];omega
    rw[he,Nat.zero_add] at hi ⊢;exact WT.run hi hT;have he:ops.drop (eC bs).1=[]:=List.drop_eq_nil_of_le (by omega);rw[he] at hT ⊢;rw[Nz] at hT;exact⟨fr1,s,.nil,hT⟩
   obtain⟨fr',s',q1,q2⟩:=WQ.thenD (l1:=ops.take (eC bs).1) (l2:=ops.drop (eC bs).1) (N:=fun fr s=>K .normal fr s) (bs:=bs) (rs:=[]) (i:=0) h1 (fun _ hr=>by cases hr) (fun _ hr=>by cases hr) (WQ.mono key h2);rw[List.take_append_drop] at q1;exact W.drawR q1 q2
 | .loop _,_,_,_,h=>h
 | .rfun _ _ _ _,_,_,_,h=>h
 | .bad,_,_,_,h=>h
def Bg(Q:bF)(f:FuncId)(a b:SC)(e:aI)(sz:Nat)(lc:Loc)(s:St)(K:Ex->Fr->St->Prop)(v:Option ae):Prop:=(v=some (.bool true)/\WF Q f a ⟨e,sz,lc⟩ s K)\/(v=some (.bool false)/\WF Q f b ⟨e,sz,lc⟩ s K)
variable{e:aI}{sz:Nat}{lc:Loc}{s:St}{K:Ex->Fr->St->Prop}
def Wq:WF Q f .skip ⟨e,sz,lc⟩ s K=K .normal ⟨e,sz,lc⟩ s:=rfl
def Wo:WF Q f .ret ⟨e,sz,lc⟩ s K=K .ret ⟨e,sz,lc⟩ s:=rfl
def Wm{id:Nat}:WF Q f (.exit id) ⟨e,sz,lc⟩ s K=K (.exit id) ⟨e,sz,lc⟩ s:=rfl
def Wp{b:SC}:WF Q f (.seq a b) ⟨e,sz,lc⟩ s K=WF Q f a ⟨e,sz,lc⟩ s (Ex.next K fun fr s=>WF Q f b fr s K):=rfl
def Wj{o:Operand}{b:SC}:WF Q f (.cond o a b) ⟨e,sz,lc⟩ s K=Bg Q f a b e sz lc s K (ev e o):=rfl
def Wi{id:Nat}{b:SC}:WF Q f (.block id b) ⟨e,sz,lc⟩ s K=WF Q f b ⟨e,sz,lc⟩ s fun x=>K (x.block id):=rfl
def HR:WF Q f (.region ops) ⟨e,sz,lc⟩ s K=WP Q f ops ⟨e,sz,lc⟩ s fun fr s=>K .normal fr s:=rfl
def Wk{bs:List Nat}:WF Q f (.draw ops bs) ⟨e,sz,lc⟩ s K=(s.ge<=s.al/\WQ Q f s.top (ops.take (eC bs).1) ⟨e,sz,lc⟩ fun fr1=>WT Q f (eC bs).1 (eC bs).2 (ops.drop (eC bs).1) fr1 s fun fr s=>K .normal fr s):=rfl
def Wn{b:SC}:WF Q f (.loop b) ⟨e,sz,lc⟩ s K=W Q f (.loop b) ⟨e,sz,lc⟩ s K:=rfl
def ZT{b:SC}:Bg Q f a b e sz lc s K (some (.bool true))=WF Q f a ⟨e,sz,lc⟩ s K:=by simp[Bg]
def ZS{b:SC}:Bg Q f a b e sz lc s K (some (.bool false))=WF Q f b ⟨e,sz,lc⟩ s K:=by simp[Bg]
def aM.of3{t:Tmp}{v:ae}{s s':St}(hf:Q.P.funcs[f]? =some fn)(hc:fn.body.map fP=some sc)(hn:fn.ntmps=n)(hr:fn.results.toList=[.tmp t])(hsp:Q.spec f=none)(hv:v.aL=true)(h:WF Q f sc (bv n args) s fun x fr' s1=>s1=s'/\(x= .normal\/x= .ret)/\aj fr'.env t=v)(hH:Q.specH f=none:=by rfl)(hW:Q.specW f=none:=by rfl):aM Q f args s v s':=
 aM.of2 hf hc hn hr hsp (h.sound.mono fun _ _ _ ⟨h1,h2,h3⟩=>⟨h1,h2,bz h3 hv⟩) hH hW
def alN{v:ae}:gG [v]=v:=rfl
def alO{a b:ae}:gG [a,b]= .tup [a,b]:=rfl
def alP{a b c:ae}:gG [a,b,c]= .tup [a,b,c]:=rfl
def aM.of4{rs:List ResultVar}{v:ae}{s s':St}(hf:Q.P.funcs[f]? =some fn)(hc:fn.body.map fP=some sc)(hn:fn.ntmps=n)(hr:fn.results.toList=rs)(hsp:Q.spec f=none)(h:WF Q f sc (bv n args) s fun x fr' s1=>s1=s'/\(x= .normal\/x= .ret)/\(bW Q [] fr' s1 rs).map gG=some v)(hH:Q.specH f=none:=by rfl)(hW:Q.specW f=none:=by rfl):aM Q f args s v s':=
 aM.of2 hf hc hn hr hsp (h.sound.mono fun _ _ _ ⟨h1,h2,h3⟩=>⟨h1,h2,by simpa only[HN] using h3⟩) hH hW
def aM.ofF{rs:List ResultVar}{s:St}{R:ae->St->Prop}(hf:Q.P.funcs[f]? =some fn)(hc:fn.body.map fP=some sc)(hn:fn.ntmps=n)(hr:fn.results.toList=rs)(hsp:Q.spec f=none)(h:WF Q f sc (bv n args) s fun x fr' s1=>(x= .normal\/x= .ret)/\ ∃v,(bW Q [] fr' s1 rs).map gG=some v/\R v s1)(hH:Q.specH f=none:=by rfl)(hW:Q.specW f=none:=by rfl): ∃v s',aM Q f args s v s'/\R v s':=by
 obtain⟨x,fr',s1,hrun,hx,v,hv,hp⟩:=h.sound;exact⟨v,s1,aM.of2 hf hc hn hr hsp ⟨x,fr',s1,hrun,rfl,hx,by simpa only[HN] using hv⟩ hH hW,hp⟩
def W.loopF{b:SC}(h:WF Q f b fr s (Ex.next K fun fr s=>W Q f (.loop b) fr s K)):W Q f (.loop b) fr s K:=W.loop1 h.sound
end
variable{K:Ex->Fr->St->Prop}{o:Op}{p:aW->Option (ae×Loc×St)}
section
variable{Q:bF}{f:FuncId}
structure nj where
 i:Nat
 nw:Bool
 lo:Bool
 ft:dj
def tX(b j:Nat):Bool:=b / 2 ^ j % 2==1
def VI(b j:Nat):tX b j=b.testBit j:=by
 unfold tX;rw[Nat.testBit_eq_decide_div_mod_eq];exact Bool.beq_eq_decide_eq _ _
def jW(b:Nat)(ft:dj)(lo:Bool):List nj->Bool
 | []=>true
 |a::R=>(tX b a.i||(!a.nw&& !((lo||a.lo)&&ft.meets a.ft)))&&jW b ft lo R
def mq:Op->Nat
 | .store .. | .alloc _| .box .. =>1
 | .load .. | .fieldAddr .. | .indexAddr .. | .nilCheck _| .move _| .assign _| .pick .. | .build .. | .field .. | .index .. | .binOp .. | .unOp .. | .convert .. | .makeFunc .. | .extract .. =>3
 | .lookup .. | .slice .. =>0
 | .call {callee:=.value _, .. }=>0
 | .call {callee:=.builtin .len, .. }=>0
 |_=>2
def y5(rs:List dr)(R:List nj):Prop:= ∀r∈rs, ∃a∈R,a.i=r.i/\(a.nw=false->r.c0=r.c1)/\(a.lo=false->r.loud=false)/\a.ft=r.foot
def Tv{b:Nat}{ft:dj}{lo:Bool}: ∀ {R:List nj},jW b ft lo R=true-> ∀a∈R,tX b a.i=true\/(a.nw=false/\((lo||a.lo)&&ft.meets a.ft)=false)
 | [],_,a,h=>by cases h
 |x::R,h,a,ha=>by
  simp only[jW,bA,sU,qC] at h;rcases cQ.1 ha with rfl|ha
  exact h.1;exact Tv h.2 a ha
def qX(b:Nat)(ft:dj)(lo:Bool):List nj->Bool
 | []=>true
 |a::R=>(tX b a.i|| !((lo||a.lo)&&ft.meets a.ft))&&qX b ft lo R
def Tu{b:Nat}{ft:dj}{lo:Bool}: ∀ {R:List nj},qX b ft lo R=true-> ∀a∈R,tX b a.i=true\/((lo||a.lo)&&ft.meets a.ft)=false
 | [],_,a,h=>by cases h
 |x::R,h,a,ha=>by
  simp only[qX,bA,sU,qC] at h;rcases cQ.1 ha with rfl|ha
  exact h.1;exact Tu h.2 a ha
def Gw{b:Nat}{ft:dj}{lo:Bool}: ∀ {R:List nj},jW b ft lo R=true->qX b ft lo R=true
 | [],_=>rfl
 |x::R,h=>by
  simp only[jW,qX,bA,sU] at h ⊢;exact⟨h.1.imp id fun h=>h.2,Gw h.2⟩
def LF{b:Nat}{ft:dj}{lo:Bool}{R:List nj}(hr:y5 rs R)(h:jW b ft lo R=true):iz b rs []=[]:=zP fun r hr'=>by
 obtain⟨a,ha,hi,hn,_,_⟩:=hr r hr';rcases Tv h a ha with h|h
 rw[VI,hi] at h;exact .inl h;exact .inr (hn h.1)
def Gx{b:Nat}{ft:dj}{lo lo':Bool}{R:List nj}(hr:y5 rs R)(h:qX b ft lo R=true)(hl:lo=false->lo'=false):fits b ft lo' rs=true:=by
 simp only[fits,fY];intro r hr';obtain⟨a,ha,hi,_,hlo,hf⟩:=hr r hr';rcases Tu h a ha with h|h
 rw[VI,hi] at h;rw[h];rfl;rw[hf] at h;cases hm:ft.meets r.foot with
 |false=>simp
 |true=>
  rw[hm,rr,Bool.or_eq_false_iff] at h;rw[hl h.1,hlo h.2];simp
def WG(Q:bF)(f:FuncId):Nat->List nj->List Nat->List aB->Fr->St->(Fr->St->Prop)->Prop
 |_,_,_,[],fr,s,N=>N fr s
 |_,_,[],_::_,_,_,_=>False
 |i,R,b::bs,o::l,fr,s,N=>
  (fT fr.env o.g=true/\mq o.op=3/\ ∃v lc fr',(∀mk,df Q f o mk fr s.top=some (v,lc,s.top))/\di fr o.dst v lc=some fr'/\qX b (bZ (Q.hint f) o.dst fr.env o.op) false R=true/\WG Q f (i+1) (⟨i,false,false,bZ (Q.hint f) o.dst fr.env o.op⟩::R) bs l fr' s N)\/
  (fT fr.env o.g=true/\ ∃v lc s1 fr',df Q f o [] fr s.top=some (v,lc,s1)/\di fr o.dst v lc=some fr'/\
   ((mq o.op=0/\s1=s.top/\jW b (bZ (Q.hint f) o.dst fr.env o.op) false R=true/\WG Q f (i+1) (⟨i,false,false,bZ (Q.hint f) o.dst fr.env o.op⟩::R) bs l fr' s N)\/
    (mq o.op=1/\s1=s.top/\jW b (bZ (Q.hint f) o.dst fr.env o.op) true R=true/\WG Q f (i+1) (⟨i,false,true,bZ (Q.hint f) o.dst fr.env o.op⟩::R) bs l fr' s N)\/
    (mq o.op=2/\s1.ci=s.ci/\jW b (bZ (Q.hint f) o.dst fr.env o.op) true R=true/\s.al<=s1.al/\WG Q f (i+1) (⟨i,true,true,bZ (Q.hint f) o.dst fr.env o.op⟩::R) bs l fr' (s.Gt s1) N)))\/
  (fT fr.env o.g=false/\ ∃fr',di fr o.dst fX fr.loc=some fr'/\WG Q f (i+1) R bs l fr' s N)
def y5.cons{R:List nj}(h:y5 rs R){r:dr}{a:nj}(h1:a.i=r.i)(h2:a.nw=false->r.c0=r.c1)(h3:a.lo=false->r.loud=false)(h4:a.ft=r.foot):y5 (r::rs) (a::R):=fun x hx=>by
 rcases cQ.1 hx with rfl|hx
 exact⟨a,by simp,h1,h2,h3,h4⟩;obtain⟨a',ha,r⟩:=h x hx;exact⟨a',List.mem_cons_of_mem _ ha,r⟩
def YQ(h:mq o=3):isStore o=false:=by
 cases o<;>first|rfl|(cases h;done)
def YP(h:mq o=0):isStore o=false:=by
 cases o<;>first|rfl|(cases h;done)
def WG.run: ∀ {l:List aB} {i:Nat} {R:List nj} {bs:List Nat} {rs:List dr} {fr:Fr} {s:St} {N:Fr->St->Prop},s.ge<=s.al->y5 rs R->WG Q f i R bs l fr s N-> ∃fr' s',kW Q f bs rs i l fr s fr' s'/\N fr' s'
 | [],i,R,bs,rs,fr,s,N,_,_,h=>⟨fr,s,.nil,by cases bs<;>exact h⟩
 |o::l,i,R,[],rs,fr,s,N,_,_,h=>h.elim
 |o::l,i,R,b::bs,rs,fr,s,N,hm,hr,h=>by
  have hb:bk s.al s.al=false:=by rw[jU];simp
  rcases h with⟨hw,c,v,lc,fr1,h1,h3,h5,h6⟩|⟨hw,v,lc,s1,fr1,h1,h3,h4⟩|⟨hw,fr1,h3,h4⟩
  have hl:(bk s.top.ge s.al||isStore o.op)=false:=by rw[YQ c,jL];exact hb
  obtain⟨fr',s',q1,q2⟩:=WG.run (rs:=⟨i,s.al,s.top.al,bZ (Q.hint f) o.dst fr.env o.op,bk s.top.ge s.al||isStore o.op⟩::rs) hm (hr.cons rfl (fun _=>rfl) (fun _=>hl) rfl) h6;rw[<-lQ hm] at q1;exact⟨fr',s',.step hw (v:=v) (lc:=lc) (s1:=s.top) (h1 _) (Gx hr h5 fun _=>hl) rfl h3 q1,q2⟩;rcases h4 with⟨c,rfl,h5,h6⟩|⟨c,rfl,h5,h6⟩|⟨c,h2,h5,h7,h6⟩
  have hl:(bk s.top.ge s.al||isStore o.op)=false:=by rw[YP c,jL];exact hb
  obtain⟨fr',s',q1,q2⟩:=WG.run (rs:=⟨i,s.al,s.top.al,bZ (Q.hint f) o.dst fr.env o.op,bk s.top.ge s.al||isStore o.op⟩::rs) hm (hr.cons rfl (fun _=>rfl) (fun _=>hl) rfl) h6;rw[<-lQ hm] at q1;refine⟨fr',s',.step hw (v:=v) (lc:=lc) (s1:=s.top) ?_ ?_ rfl h3 q1,q2⟩;show df Q f o (iz b rs []) fr s.top=_;rw[LF hr h5];exact h1;exact Gx hr (Gw h5) fun _=>hl;obtain⟨fr',s',q1,q2⟩:=WG.run (rs:=⟨i,s.al,s.top.al,bZ (Q.hint f) o.dst fr.env o.op,bk s.top.ge s.al||isStore o.op⟩::rs) hm (hr.cons rfl (fun _=>rfl) (fun h=>by cases h) rfl) h6;rw[<-lQ hm] at q1;refine⟨fr',s',.step hw (v:=v) (lc:=lc) (s1:=s.top) ?_ ?_ rfl h3 q1,q2⟩;show df Q f o (iz b rs []) fr s.top=_;rw[LF hr h5];exact h1;exact Gx hr (Gw h5) fun h=>by cases h
  obtain⟨fr',s',q1,q2⟩:=WG.run (rs:=⟨i,s.al,s1.al,bZ (Q.hint f) o.dst fr.env o.op,bk s1.ge s.al||isStore o.op⟩::rs) (uU hm h7) (hr.cons rfl (fun h=>by cases h) (fun h=>by cases h) rfl) h6;refine⟨fr',s',.step hw (v:=v) (lc:=lc) (s1:=s1) ?_ ?_ h2 h3 q1,q2⟩;show df Q f o (iz b rs []) fr s.top=_;rw[LF hr h5];exact h1;exact Gx hr (Gw h5) fun h=>by cases h
  obtain⟨fr',s',q1,q2⟩:=WG.run (rs:=rs) hm (fun r hr'=>hr r hr') h4;exact⟨fr',s',.skip hw h3 q1,q2⟩
def W.drawG{bs:List Nat}{s:St}(hm:s.ge<=s.al)(h:WG Q f 0 [] bs ops fr s fun fr s=>K .normal fr s):W Q f (.draw ops bs) fr s K:=
 let⟨_,_,h1,h2⟩:=WG.run (rs:=[]) hm (fun _ h=>by cases h) h
 W.drawR h1 h2
def CH(Q:bF)(f:FuncId)(c:Nat)(ft:dj)(i:Nat)(R:List nj)(b:Nat)(bs:List Nat)(d:Option Tmp)(e:aI)(sz:Nat)(s:St)(l:List aB)(N:Fr->St->Prop)(p:aW->Option (ae×Loc×St)):Prop:=
 (c=3/\ ∃v lc fr',(∀mk,p mk=some (v,lc,s.top))/\di ⟨e,sz,lc⟩ d v lc=some fr'/\qX b ft false R=true/\WG Q f (i+1) (⟨i,false,false,ft⟩::R) bs l fr' s N)\/
 (∃v lc s1 fr',p []=some (v,lc,s1)/\di ⟨e,sz,lc⟩ d v lc=some fr'/\
  ((c=0/\s1=s.top/\jW b ft false R=true/\WG Q f (i+1) (⟨i,false,false,ft⟩::R) bs l fr' s N)\/
   (c=1/\s1=s.top/\jW b ft true R=true/\WG Q f (i+1) (⟨i,false,true,ft⟩::R) bs l fr' s N)\/
   (c=2/\s1.ci=s.ci/\jW b ft true R=true/\s.al<=s1.al/\WG Q f (i+1) (⟨i,true,true,ft⟩::R) bs l fr' (s.Gt s1) N)))
def yA(Q:bF)(f:FuncId)(c:Nat)(ft:dj)(i:Nat)(R:List nj)(b:Nat)(bs:List Nat)(d:Option Tmp)(e:aI)(sz:Nat)(s:St)(l:List aB)(N:Fr->St->Prop)(x:Option (ae×Loc×St)):Prop:= ∃v lc s1 fr',x=some (v,lc,s1)/\di ⟨e,sz,lc⟩ d v lc=some fr'/\
 ((c=0/\s1=s.top/\jW b ft false R=true/\WG Q f (i+1) (⟨i,false,false,ft⟩::R) bs l fr' s N)\/
  (c=1/\s1=s.top/\jW b ft true R=true/\WG Q f (i+1) (⟨i,false,true,ft⟩::R) bs l fr' s N)\/
  (c=2/\s1.ci=s.ci/\jW b ft true R=true/\s.al<=s1.al/\WG Q f (i+1) (⟨i,true,true,ft⟩::R) bs l fr' (s.Gt s1) N))
section
variable{i b c:Nat}{R:List nj}{ft:dj}{bs:List Nat}{d:Tmp}{op:Op}{l:List aB}{e:aI}{sz:Nat}{lc:Loc}{s s1:St}{N:Fr->St->Prop}{v:ae}{t:Tmp}{x:Option (ae×Loc×St)}
def Xb:WG Q f i R bs [] fr s N=N fr s:=by cases bs<;>rfl
def GZ{fr:Fr}{d:Option Tmp}{v:ae}{lc l2:Loc}:di ⟨e,sz,l2⟩ d v lc=di ⟨e,sz,lc⟩ d v lc:=by cases d<;>rfl
def Xa{d:Option Tmp}:WG Q f i R (b::bs) (⟨d,op,.aw⟩::l) ⟨e,sz,lc⟩ s N=CH Q f (mq op) (bZ (Q.hint f) d e op) i R b bs d e sz s l N (fun mk=>df Q f ⟨d,op,.aw⟩ mk ⟨e,sz,lc⟩ s.top):=by
 apply propext;constructor;rintro(⟨_,c,v,lc',fr',h1,h2,h3⟩|⟨_,v,lc',s1,fr',h1,h2,h3⟩|⟨hw,_⟩);have h2:di ⟨e,sz,lc⟩ d v lc'=some fr':=h2;rw[GZ (fr:=⟨e,sz,lc⟩)] at h2;exact .inl ⟨c,v,lc',fr',h1,h2,h3⟩;have h2:di ⟨e,sz,lc⟩ d v lc'=some fr':=h2;rw[GZ (fr:=⟨e,sz,lc⟩)] at h2;exact .inr ⟨v,lc',s1,fr',h1,h2,h3⟩;cases hw;rintro(⟨c,v,lc',fr',h1,h2,h3⟩|⟨v,lc',s1,fr',h1,h2,h3⟩);rw[<-GZ (fr:=⟨e,sz,lc⟩) (l2:=lc)] at h2;exact .inl ⟨rfl,c,v,lc',fr',h1,h2,h3⟩;rw[<-GZ (fr:=⟨e,sz,lc⟩) (l2:=lc)] at h2;exact .inr (.inl ⟨rfl,v,lc',s1,fr',h1,h2,h3⟩)
def anZ:CH Q f 3 ft i R b bs (some d) e sz s l N (fun _=>some (v,lc,s.top))=(d<sz/\qX b ft false R=true/\WG Q f (i+1) (⟨i,false,false,ft⟩::R) bs l ⟨e.set d (some v),sz,lc⟩ s N):=by
 apply propext;constructor;rintro(⟨_,v',lc',fr',h,h1,h2,h3⟩|⟨v',lc',s',fr',h,h1,⟨h,_⟩|⟨h,_⟩|⟨h,_⟩⟩);have h:=h [];simp only[aP,bj,aT] at h;obtain⟨rfl,rfl⟩:=h;obtain⟨hd,rfl⟩:=eM.1 h1;exact⟨hd,h2,h3⟩;cases h;cases h;cases h;rintro⟨h1,h2,h3⟩;exact .inl ⟨rfl,v,lc,_,fun _=>rfl,eM.2 ⟨h1,rfl⟩,h2,h3⟩
def an0{d:Option Tmp}:CH Q f 0 ft i R b bs d e sz s l N p=yA Q f 0 ft i R b bs d e sz s l N (p []):=by
 apply propext;constructor;rintro(⟨h,_⟩|h);cases h;exact h;exact fun h=>.inr h
def an1{d:Option Tmp}:CH Q f 1 ft i R b bs d e sz s l N p=yA Q f 1 ft i R b bs d e sz s l N (p []):=by
 apply propext;constructor;rintro(⟨h,_⟩|h);cases h;exact h;exact fun h=>.inr h
def an2{d:Option Tmp}:CH Q f 2 ft i R b bs d e sz s l N p=yA Q f 2 ft i R b bs d e sz s l N (p []):=by
 apply propext;constructor;rintro(⟨h,_⟩|h);cases h;exact h;exact fun h=>.inr h
def an3:yA Q f 0 ft i R b bs (some d) e sz s l N (some (v,lc,s.top))=(d<sz/\jW b ft false R=true/\WG Q f (i+1) (⟨i,false,false,ft⟩::R) bs l ⟨e.set d (some v),sz,lc⟩ s N):=by
 apply propext;constructor;rintro⟨v',lc',s',fr',h,h1,⟨_,_,h3,h4⟩|⟨h,_⟩|⟨h,_⟩⟩;simp only[aP,bj] at h;obtain⟨rfl,rfl,rfl⟩:=h;obtain⟨hd,rfl⟩:=eM.1 h1;exact⟨hd,h3,h4⟩;cases h;cases h;rintro⟨h1,h2,h3⟩;exact⟨v,lc,_,_,rfl,eM.2 ⟨h1,rfl⟩,.inl ⟨rfl,rfl,h2,h3⟩⟩
def an4:yA Q f 1 ft i R b bs (some d) e sz s l N (some (v,lc,s.top))=(d<sz/\jW b ft true R=true/\WG Q f (i+1) (⟨i,false,true,ft⟩::R) bs l ⟨e.set d (some v),sz,lc⟩ s N):=by
 apply propext;constructor;rintro⟨v',lc',s',fr',h,h1,⟨h,_⟩|⟨_,_,h3,h4⟩|⟨h,_⟩⟩;cases h;simp only[aP,bj] at h;obtain⟨rfl,rfl,rfl⟩:=h;obtain⟨hd,rfl⟩:=eM.1 h1;exact⟨hd,h3,h4⟩;cases h;rintro⟨h1,h2,h3⟩;exact⟨v,lc,_,_,rfl,eM.2 ⟨h1,rfl⟩,.inr (.inl ⟨rfl,rfl,h2,h3⟩)⟩
def an5:yA Q f 1 ft i R b bs none e sz s l N (some (v,lc,s.top))=(jW b ft true R=true/\WG Q f (i+1) (⟨i,false,true,ft⟩::R) bs l ⟨e,sz,lc⟩ s N):=by
 apply propext;constructor;rintro⟨v',lc',s',fr',h,h1,⟨h,_⟩|⟨_,_,h3,h4⟩|⟨h,_⟩⟩;cases h;simp only[aP,bj] at h;obtain⟨rfl,rfl,rfl⟩:=h;have h1:fr'=⟨e,sz,lc⟩:=(sI h1).symm;subst h1;exact⟨h3,h4⟩;cases h;rintro⟨h2,h3⟩;exact⟨v,lc,_,⟨e,sz,lc⟩,rfl,rfl,.inr (.inl ⟨rfl,rfl,h2,h3⟩)⟩
def an6:yA Q f 2 ft i R b bs (some d) e sz s l N (some (v,lc,s1))=(s1.ci=s.ci/\d<sz/\s.al<=s1.al/\jW b ft true R=true/\WG Q f (i+1) (⟨i,true,true,ft⟩::R) bs l ⟨e.set d (some v),sz,lc⟩ (s.Gt s1) N):=by
 apply propext;constructor;rintro⟨v',lc',s',fr',h,h1,⟨h,_⟩|⟨h,_⟩|⟨_,h2,h3,h5,h4⟩⟩;cases h;cases h;simp only[aP,bj] at h;obtain⟨rfl,rfl,rfl⟩:=h;obtain⟨hd,rfl⟩:=eM.1 h1;exact⟨h2,hd,h5,h3,h4⟩;rintro⟨h1,h2,h5,h3,h4⟩;exact⟨v,lc,_,_,rfl,eM.2 ⟨h2,rfl⟩,.inr (.inr ⟨rfl,h1,h3,h5,h4⟩)⟩
end
section
variable{b:Nat}{ft:dj}{lo:Bool}{R:List nj}{i:Nat}{nw l2:Bool}{ft2:dj}
def akh:jW b ft lo []=true:=rfl
def akf:qX b ft lo []=true:=rfl
def ake:qX b ft lo (⟨i,nw,l2,ft2⟩::R)=((tX b i|| !((lo||l2)&&ft.meets ft2))&&qX b ft lo R):=rfl
def akg:jW b ft lo (⟨i,nw,l2,ft2⟩::R)=((tX b i||(!nw&& !((lo||l2)&&ft.meets ft2)))&&jW b ft lo R):=rfl
def acF:w9 ft .none=false:=by cases ft<;>rfl
def aj8:w9 .none ft=false:=by cases ft<;>rfl
def XE(t:Nat):w9 .all (.loc t)=false:=rfl
def aix(t:Nat):w9 (.loc t) .all=false:=rfl
def aiy(t u:Nat):w9 (.loc t) (.loc u)=aJ t u:=rfl
end
def acU(h:Tmp->Nat)(d:Option Tmp)(e:aI)(t:TypeId)(a:Operand):bZ h d e (.load t a)=rY e a:=rfl
def acW(h:Tmp->Nat)(d:Option Tmp)(e:aI)(t:TypeId)(a x:Operand):bZ h d e (.store t a x)=rY e a:=rfl
def acS(h:Tmp->Nat)(d:Option Tmp)(e:aI)(t:TypeId)(a:Operand)(i:Nat):bZ h d e (.fieldAddr t a i)=oY e a:=rfl
def acT(h:Tmp->Nat)(d:Option Tmp)(e:aI)(t:TypeId)(a i:Operand):bZ h d e (.indexAddr t a i)=oY e a:=rfl
def acV(h:Tmp->Nat)(d:Option Tmp)(e:aI)(a:Operand):bZ h d e (.move a)= .none:=rfl
def acO(h:Tmp->Nat)(d:Option Tmp)(e:aI)(a:Operand):bZ h d e (.assign a)= .none:=rfl
def acP(h:Tmp->Nat)(d:Option Tmp)(e:aI)(t:TypeId)(n:Nat)(ps:Array (Nat×Operand)):bZ h d e (.buildSlice t n ps)= .none:=rfl
def acR(h:Tmp->Nat)(d:Option Tmp)(e:aI)(a:Operand)(i:Nat):bZ h d e (.extract a i)= .none:=rfl
def acM(h:Tmp->Nat)(d:Tmp)(e:aI)(t:TypeId):bZ h (some d) e (.alloc t)=bif aJ (h d) 1 then .loc d else .none:=rfl
def acQ(h:Tmp->Nat)(d:Option Tmp)(e:aI)(x:Operand)(as:Array Operand)(ts:Array TypeId):bZ h d e (.call ⟨.value x,as,ts⟩)= .all:=rfl
def acN(h:Tmp->Nat)(d:Option Tmp)(e:aI)(as:Array Operand)(ts:Array TypeId):bZ h d e (.call ⟨.builtin .append,as,ts⟩)= .all:=rfl
def JC:ae->dj
 | .Ge t _ _=>.loc t
 | .ptr n _=>.obj n
 | .ro _=>.none
 |_=>.all
def DK:ae->dj
 | .Ge t _ _=>.loc t
 |_=>.none
def acI(e:aI)(t:Tmp):rY e (.tmp t)=JC (aj e t):=by
 show(match ev e (.tmp t) with|some (.Ge t _ _)=>dj.loc t|some (.ptr n _)=>.obj n|some (.ro _)=>.none|_=>.all)=_;rw[bq];cases aj e t<;>rfl
def acL(e:aI)(t:Tmp):oY e (.tmp t)=DK (aj e t):=by
 show(match ev e (.tmp t) with|some (.Ge t _ _)=>dj.loc t|_=>.none)=_;rw[bq];cases aj e t<;>rfl
def acG(t g o:Nat):JC (.Ge t g o)= .loc t:=rfl
def acH(x:List ae):JC (.ro x)= .none:=rfl
def acJ(t g o:Nat):DK (.Ge t g o)= .loc t:=rfl
def acK(x:List ae):DK (.ro x)= .none:=rfl
def YZ(t:TypeId)(a:Operand):mq (.load t a)=3:=rfl
def Y1(t:TypeId)(a x:Operand):mq (.store t a x)=1:=rfl
def YR(t:TypeId):mq (.alloc t)=1:=rfl
def YX(t:TypeId)(a:Operand)(i:Nat):mq (.fieldAddr t a i)=3:=rfl
def YY(t:TypeId)(a i:Operand):mq (.indexAddr t a i)=3:=rfl
def Y0(a:Operand):mq (.move a)=3:=rfl
def YT(a:Operand):mq (.assign a)=3:=rfl
def YU(t:TypeId)(n:Nat)(ps:Array (Nat×Operand)):mq (.buildSlice t n ps)=2:=rfl
def YW(a:Operand)(i:Nat):mq (.extract a i)=3:=rfl
def YV(x:Operand)(as:Array Operand)(ts:Array TypeId):mq (.call ⟨.value x,as,ts⟩)=0:=rfl
def YS(as:Array Operand)(ts:Array TypeId):mq (.call ⟨.builtin .append,as,ts⟩)=2:=rfl
end
def eE(h:n<9223372036854775807):IntKind.i64.wrap ((n:Int)+1)=((n+1:Nat):Int):=by rw[lC (by omega) (by omega)];omega
variable{o:Operand}{s:St}
def W.cnTZ{b:SC}(h:W Q f a fr s K)(hv:ev fr.env o=some (.bool true):=by simp only[bq,ye,Nat.reduceBEq,cT,cF, *]):W Q f (.cond o a b) fr s K:=W.cond (t:=true) hv h
def W.cnFZ{b:SC}(h:W Q f b fr s K)(hv:ev fr.env o=some (.bool false):=by simp only[bq,ye,Nat.reduceBEq,cT,cF, *]):W Q f (.cond o a b) fr s K:=W.cond (t:=false) hv h
def W.cnSZ(h:K .normal fr s)(hv:ev fr.env o=some (.bool false):=by simp only[bq,ye,Nat.reduceBEq,cT,cF, *]):W Q f (.cond o a .skip) fr s K:=W.cond (t:=false) hv (W.skip h)
