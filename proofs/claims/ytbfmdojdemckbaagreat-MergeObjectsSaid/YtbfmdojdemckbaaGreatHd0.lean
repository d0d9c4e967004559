/- head(): its merges. -/
import Derived.Test.YtbfmdojdemckbaaGreatM3
import Derived.Test.YtbfmdojdemckbaaGreatZ7
import Derived.Test.YtbfmdojdemckbaaGreatZ5
namespace Go.Proofs.YtbfmdojdemckbaaGreat
open _root_.Bool renaming and_eq_true→cU
open _root_.Classical renaming propDecidable→uh
open _root_.List renaming elem_eq_true_of_mem→qk,map_cons→fw,mem_of_elem_eq_true→qq,range'_succ→sU
open Go.Ag
noncomputable def QH (t:eE) (k:Nat→Nat):ck:= {P:=Tryz.prog,hint:=bB,spec:=fun f=>eY f t,ch:=fun _=>0,kmax:=k }
theorem XT {t:eE} (h:fV t) (k:Nat→Nat):Ag.Good (QH t k) where
 mixed:=EL
 spec f sp hsp args v hv G hp w xs wr hx:=h _ (AN hsp) args v hv G hp w xs wr hx
 specH f sp h args v G hp w xs wr hx hv:=by cases h
 names f fn hf:=by
  have hf:Tryz.prog.funcs[f]? =some fn:=hf
  have:=List.all_eq_true.1 ET fn (by
   rw [←Array.getElem?_toList] at hf
   exact List.mem_of_getElem? hf)
  simpa using this
def pd:List Nat→Nat→Nat→Nat
 | [],_,d=>d
 |a::_,0,_=>a
 |_::l,i+1,d=>pd l i d
noncomputable def uQ (t:eE) (ks c:List Nat) (n f:Nat) (args:List ai):Option (ai×Nat):=((cG ((QH t (fun i=>pd ks i 1)).at (fun i=>pd c i 0)) n).call f args [] s0).bind fun x=>(cR x.2.heap 12 x.1).bind fun u=>some (u,x.2.ci)
theorem RD (ch:Nat→Nat): ∀(n i j:Nat),i<n→pd ((List.range' j n).map ch) i 0=ch (j+i)
 |0,i,j,h=>by omega
 |n+1,0,j,_=>by simp [sU,pd]
 |n+1,i+1,j,h=>by
  rw [sU,fw]
  show pd _ i 0=_
  rw [RD ch n i (j+1) (by omega),show j+1+i=j+(i+1) by omega]
inductive uw:List Nat→List Nat→Prop
 |nil:uw [] []
 |cons {k c:Nat} {ks cs:List Nat}:c<k→uw ks cs→uw (k::ks) (c::cs)
theorem Tz (ch:Nat→Nat): ∀(ks:List Nat) (j:Nat),(∀i,i<ks.length→ch (j+i)<pd ks i 1)→uw ks ((List.range' j ks.length).map ch)
 | [],_,_=>.nil
 |k::ks,j,h=>by
  rw [List.length_cons,sU,fw]
  refine .cons (h 0 (by simp)) (Tz ch ks (j+1) fun i hi=>?_)
  have:=h (i+1) (by simpa using hi)
  rwa [show j+(i+1)=j+1+i by omega] at this
theorem SU {t:eE} (ht:fV t) {ks:List Nat} (hk: ∀i,0<pd ks i 1) {n f m:Nat} {args:List ai} {u:ai} (hm:m≤ks.length) (h: ∀c,uw ks c→uQ t ks c n f args=some (u,m)) {args':List ai} (ha:dU args'=args) (hp:jy args'=true)
 (G:Gh) (hh:bq bE) (w:World) (xs:List Value) (wr:WR G hh w) (hx:cg G args' xs):kb Tryz.prog f ⟨xs⟩ w fun y w'=> ∃G',WR G' hh w'∧dh G hh w G' hh w' 0 0∧VR G' u y:=by
 refine Fy (Q:=QH t (fun i=>pd ks i 1)) (n:=n) (XT ht _) hk hp (fun ch hi=>?_) G hh w xs wr hx
 rw [ha]
 have hw:=Tz ch ks 0 (fun i _=>by rw [Nat.zero_add];exact hi i)
 have he:=h _ hw
 simp only [uQ,Option.bind_eq_some_iff,Option.some.injEq,Prod.mk.injEq] at he
 obtain⟨⟨v,s'⟩,a,u',b,rfl,c⟩:=he
 have c:s'.ci=m:=c
 exact⟨v,s',(o0 (QH t (fun i=>pd ks i 1)) n).call f args [] _ s0 v s' a ch (fun i hi=>by
  rw [RD ch _ i 0 (by omega),Nat.zero_add]),12,b⟩
def B0:fC→fC→Bool
 | .full,.full=>true
 | .no,.no=>true
 |_,_=>false
def mm (g:ai→ai→Bool):List ai→List ai→Bool
 | [],[]=>true
 |a::x,b::y=>g a b&&mm g x y
 |_,_=>false
def ni:Nat→ai→ai→Bool
 |0,_,_=>false
 |_+1,.bool a,.bool b=>a==b
 |_+1,.int k a,.int k' b=>k==k'&&bL a b
 |_+1,.str a,.str b=>a==b
 |k+1,.agg a,.agg b=>mm (ni k) a b
 |_+1,.nils,.nils=>true
 |k+1,.list n a r,.list m b r'=>Nat.beq n m&&B0 r r'&&mm (ni k) a b
 |_,_,_=>false
theorem Wq {r r':fC} (h:B0 r r'=true):r=r':=by
 unfold B0 at h;split at h<;>first|rfl|cases h
theorem rJ {g:ai→ai→Bool} (hg: ∀a b,g a b=true→a=b): ∀ {x y:List ai},mm g x y=true→x=y
 | [],[],_=>rfl
 | [],_::_,h=>by cases h
 |_::_,[],h=>by cases h
 |a::x,b::y,h=>by
  simp only [mm,cU] at h
  rw [hg a b h.1,rJ hg h.2]
theorem uO: ∀(k:Nat) {a b:ai},ni k a b=true→a=b
 |0,_,_,h=>by cases h
 |k+1,a,b,h=>by
  have ih:=fun a b=>uO k (a:=a) (b:=b)
  cases a<;>cases b<;>simp only [ni,Bool.false_eq_true] at h
  ·rw [eq_of_beq h]
  ·simp only [cU] at h
   rw [eq_of_beq h.1,eq_of_beq h.2]
  ·rw [eq_of_beq h]
  ·rw [rJ ih h]
  ·rfl
  ·simp only [cU] at h
   rw [Nat.eq_of_beq_eq_true h.1.1,Wq h.1.2,rJ ih h.2]
def qg (r:fC):ai:=.list 2 [.agg [.str [110,97,109,101],.str [69,108,109]]] r
def kr (x y:Int) (t:ai):ai:=.agg [.str [110,49],.int .i64 1,.int .i64 x,.int .i64 y,.nils,t]
def EY:ai:=.agg [.str [110,50],.int .i64 1,.int .i64 4,.int .i64 0,.nils,.nils]
def FO (t:ai):ai:=.agg [.str [119,49],.int .i64 2,.int .i64 0,.int .i64 0,.list 1 [.str [110,49],.str [110,50]] .full,t]
def kq (l:List ai):ai:=.agg [.list 6 l .no]
def bad (id what:ax):ai:=.agg [.str id,.str what]
def kAt:ax:=[97,116]
def Ep:ax:=[111,98,106,101,99,116]
def a1:List ai:=[kq [kr 0 0 .nils],kq [kr 1 0 .nils],kq [kr 0 0 (qg .full)]]
def a2:List ai:=[kq [kr 0 0 .nils],kq [kr 2 0 .nils],kq [kr 1 5 .nils]]
def a3:List ai:=[kq [kr 0 0 .nils],.agg [.nils],kq [kr 0 0 (qg .full)]]
def a4:List ai:=[kq [kr 0 0 .nils,EY,FO .nils],kq [kr 0 0 .nils],kq [kr 0 0 .nils,EY,FO (qg .full)]]
def r1:ai:=.tup [kq [kr 1 0 (qg .no)],.nils]
def r2:ai:=.tup [kq [kr 1 5 .nils],.list 2 [bad [110,49] kAt] .no]
def r3:ai:=.tup [kq [kr 0 0 (qg .full)],.list 2 [bad [110,49] Ep] .no]
def r4:ai:=.tup [kq [kr 0 0 .nils,EY,FO (qg .full)],.list 2 [bad [110,50] Ep,bad [119,49] Ep] .no]
def HT:eE:=(83,mj)::(16,ow)::(13,qO)::T5
theorem TR:fV HT:=.cons BN (.cons Ah (.cons EB Gj))
def BK (b o t:List Obj) (R:List ax):Bool:=(dW b o t).all fun k=>match(match fW b o t k with|some q=>some q|none=>bif R.elem k then iM b o t k else none) with
 |some q=>q.refs.all fun id=>(fW b o t id).isSome||(iM b o t id).isNone||R.elem id
 |none=>true
theorem ajY {b o t:List Obj} {R:List ax} (hR: ∀k∈R,Reach b o t k) (hc:BK b o t R=true) (k:ax):Reach b o t k↔k∈R:=by
 refine⟨fun h=>?_,hR k⟩
 have step: ∀ {j id:ax} {q:Obj},j∈dW b o t→(match fW b o t j with|some q=>some q|none=>bif R.elem j then iM b o t j else none)=some q→id∈q.refs→fW b o t id=none→(iM b o t id).isSome=true→id∈R:=by
  intro j id q h1 h2 h3 h4 h5
  have h:=List.all_eq_true.1 hc j h1
  rw [h2] at h
  have h:=List.all_eq_true.1 h id h3
  rw [h4] at h
  cases hn:iM b o t id with
  |none=>rw [hn] at h5;cases h5
  |some x=>
   rw [hn] at h
   exact qq (by simpa using h)
 induction h with
 |of h1 h2 h3 h4=>exact step (iz.name (.inl (by rw [h1];rfl))) (by rw [h1]) h2 h3 h4
 |step h0 h1 h2 h3 h4 ih=>
  refine step (iz.name (.inr h0)) ?_ h2 h3 h4
  rw [h0.no.1]
  simp only [qk ih,cT,h1]
def Ff (b o t:List Obj) (R:List ax):ai:=.tup [.agg [fS 6 (((fq ((qB (dW b o t)).filter fun k=>(fW b o t k).isSome||R.elem k)).map (mz b o t)).map Obj.val)],fS 2 ((hZ (BQ ((dW b o t).flatMap (js b o t)++((dW b o t).filter fun k=>R.elem k).map fun k=>(k,fK)))).map de)]
theorem aj5 {b o t:List Obj} {R:List ax} (hR: ∀k∈R,Reach b o t k) (hc:BK b o t R=true):tS b o t=Ff b o t R:=by
 have hr:=ajY hR hc
 have e1:(fun k=> @decide (iz b o t k) (uh _))=fun k=>(fW b o t k).isSome||R.elem k:=by
  funext k
  have:iz b o t k↔((fW b o t k).isSome||R.elem k)=true:=by
   rw [Bool.or_eq_true]
   exact or_congr Iff.rfl ((hr k).trans ⟨qk,qq⟩)
  rw [Bool.eq_iff_iff,←this]
  exact @decide_eq_true_iff _ (uh _)
 have e2:(fun k=> @decide (Reach b o t k) (uh _))=fun k=>R.elem k:=by
  funext k
  rw [Bool.eq_iff_iff]
  refine(@decide_eq_true_iff _ (uh _)).trans ?_
  exact(hr k).trans ⟨qk,qq⟩
 unfold tS gd ml oz qA Ff
 rw [e1,e2]
theorem zU {u v w:ai} {b o t:List Obj} {R:List ax} (h1:jW u=some b) (h2:jW v=some o) (h3:jW w=some t) (vb:j4 b=true) (vo:j4 o=true) (vt:j4 t=true) (lb:b.length≤300) (lo:o.length≤300) (lt:t.length≤300) (hR: ∀k∈R,Reach b o t k) (hc:BK b o t R=true):og [u,v,w]=some (Ff b o t R):=by
 obtain⟨_,_,_,gb,_⟩:=lJ h1
 obtain⟨_,_,_,go,_⟩:=lJ h2
 obtain⟨_,_,_,gt,_⟩:=lJ h3
 have hi:mZ b o t:=⟨vb,vo,vt,gb,go,gt,lb,lo,lt⟩
 simp only [og,h1,h2,h3,Option.bind_some,if_pos hi,aj5 hR hc]
def EO:ax:=[110,49]
def zX:ax:=[110,50]
def Tt:ax:=[119,49]
def yF:List cH:=[([110,97,109,101],[69,108,109])]
def pc (x y:Int) (tv:ai) (l:List cH):Obj:=⟨EO,1,x,y,.nils,tv,[],l⟩
def RC:Obj:=⟨zX,1,4,0,.nils,.nils,[],[]⟩
def AR (tv:ai) (l:List cH):Obj:=⟨Tt,2,0,0,.list 1 [.str EO,.str zX] .full,tv,[EO,zX],l⟩
theorem m1:og a1=some r1:=(zU (b:=[pc 0 0 .nils []]) (o:=[pc 1 0 .nils []]) (t:=[pc 0 0 (qg .full) yF]) (R:=[]) (by kernel_rfl) (by kernel_rfl) (by kernel_rfl) (by kernel_rfl) (by kernel_rfl) (by kernel_rfl) (by decide) (by decide) (by decide) (fun _ h=>by cases h) (by kernel_rfl)).trans (congrArg some (by kernel_rfl))
theorem m2:og a2=some r2:=(zU (b:=[pc 0 0 .nils []]) (o:=[pc 2 0 .nils []]) (t:=[pc 1 5 .nils []]) (R:=[]) (by kernel_rfl) (by kernel_rfl) (by kernel_rfl) (by kernel_rfl) (by kernel_rfl) (by kernel_rfl) (by decide) (by decide) (by decide) (fun _ h=>by cases h) (by kernel_rfl)).trans (congrArg some (by kernel_rfl))
theorem m3:og a3=some r3:=(zU (b:=[pc 0 0 .nils []]) (o:=[]) (t:=[pc 0 0 (qg .full) yF]) (R:=[]) (by kernel_rfl) (by kernel_rfl) (by kernel_rfl) (by kernel_rfl) (by kernel_rfl) (by kernel_rfl) (by decide) (by decide) (by decide) (fun _ h=>by cases h) (by kernel_rfl)).trans (congrArg some (by kernel_rfl))
theorem m4:og a4=some r4:=(zU (b:=[pc 0 0 .nils [],RC,AR .nils []]) (o:=[pc 0 0 .nils []]) (t:=[pc 0 0 .nils [],RC,AR (qg .full) yF]) (R:=[zX]) (by kernel_rfl) (by kernel_rfl) (by kernel_rfl) (by kernel_rfl) (by kernel_rfl) (by kernel_rfl) (by decide) (by decide) (by decide)
 (fun k h=>by
  simp only [List.mem_singleton] at h
  subst h
  exact .of (k:=Tt) (q:=AR (qg .full) yF) (by kernel_rfl) (by simp [AR]) (by kernel_rfl) (by kernel_rfl)) (by kernel_rfl)).trans (congrArg some (by kernel_rfl))
end Go.Proofs.YtbfmdojdemckbaaGreat
