/- Lemmas for ValidViews. -/
import Derived.Test.YtnnppcoplinajaaGreatB14
import Derived.Carry
import Derived.Test.YtnnppcoplinajaaGreatRows
set_option linter.all false
open Go.Proofs.Tryz renaming prog→ae
namespace Go.Proofs.YtnnppcoplinajaaGreat
open Go.ChangeShapes Go.WideShapes Go.ChangeAt Go.RowKit Go.Ag
def ao5:ownKnob ae.godebug=none:=by kernel_rfl
def Xd:laidOutB ae=true:=by kernel_rfl
def u_4:ae.underlying 4=some .bool:=by kernel_rfl
variable{args:Array Value}{P:Program}
def adE{f:FuncId}{fn:Func}{w:World}{R:Value->World->Prop}(hf:P.funcs[f]? =some fn)(hname:(fn.name== "runtime.NumGoroutine")=false)(hb:fn.body.isSome=true)(h:mM P f args w R):Calls P f args w fun e w'=> ∃y,e= .returned y/\R y w':=by
 rcases h with⟨y,w',h1,_⟩|⟨_,h⟩
 have h2:fn.name≠ "runtime.NumGoroutine" :=by simpa using hname
 cases hc:fn.body with
 |none=>rw[hc] at hb;cases hb
 |some c=>
  have:(callFunc f args).run P w= .ok (.enter f args) w:=by simp[callFunc,hf,h2,hc]
  rw[this] at h1;cases h1
 exact h
variable{v:Value}
def Sc{t:TypeId}{d:Array Field}(b:P.underlying t=some (.struct d)){W:World}{r:Go.Reach}{base:Nat}(h:Value.okWide P W r base t v): ∃a,v= .agg a:=by
 unfold Value.okWide at h;rw[b] at h;obtain⟨a,c,_⟩:=h;exact⟨a,c⟩
variable{W':World}
def Z8{W:World}(h: ∀b,b<W.heap.size->W'.heap[b]? =W.heap[b]?)(p:MemPlace)(a:p.block<W.heap.size):W.sameAt W' p:=by
 cases p with
 |cell b o=>
  have h:=h b a;show W'.cell? ⟨b,o,none⟩=W.cell? ⟨b,o,none⟩;unfold World.cell?;rw[h]
 |map b=>exact h b a
def ali{W:World}(h: ∀b,b<W.heap.size->W'.heap[b]? =W.heap[b]?)(e:W'.os=W.os)(d:W'.output=W.output)(a:MemPlace->Prop):W.keptBut W' a:=by
 refine⟨e,d,fun i f=>?_⟩;rw[h i f];cases W.heap[i]? with
 |none=>rfl
 |some o=>
  cases o with
  |cells c t g=>exact⟨rfl,rfl,rfl,fun _ _=>rfl⟩
  |map j k=>exact .inr ⟨rfl,rfl⟩
  |_=>rfl
def apa{H:Type}{enc:TypeId×Value->H}{f:Func}{s:ChangeSpec}{apart fresh g m:Bool}{W:World}{q o:List (DataW H)}{c pa pv:List MemPlace}(u:DataW.Whole enc P f.params.toList s.vars apart W args.toList q o c)(k: ∀(b:Nat) (sp:Nat->Bool) (D:Bool),DataW.TrodAll enc P W' b sp D f.resultTypes.toList (v.resultList f.resultTypes.size) (s.fn H (q++o)).results [])(e: ∀sp:Nat->Bool,(∀p∈c,sp p.block=true)->DataW.TrodAll enc P W' 0 sp true f.params.toList args.toList (s.fn H (q++o)).args pa)(d: ∀sp:Nat->Bool,(∀p∈c,sp p.block=true)->DataW.TrodVars enc P W' sp s.vars (s.fn H (q++o)).vars pv)(h:c=pa++pv)(C:W.keptBut W' (· ∈c))(y: ∀a,a.block<W.heap.size->W'.frozen? a=W.frozen? a)(w: ∀(j:Nat) (t:TypeId) (r:Value),f.resultTypes[j]? =some t->(v.resultList f.resultTypes.size)[j]? =some r->Value.okWide P W' .any 0 t r):
 s.post enc P f apart fresh g m W args v W':=by
 have l: ∀p∈c,(fun b=>decide (b<W.heap.size)) p.block=true:=fun p i=>by simpa using u.lt p i
 refine⟨q,o,c,[],pa,pv,u,k _ _ _,e _ l,d _ l,World.keptBut_mono (fun p i=>⟨i,?_⟩) C,fun _=>?_⟩;rw[h,List.mem_append] at i;exact Or.inr i;have x:=u.lt;obtain⟨_,_,_,_,_,A,B⟩:=u;refine⟨w,_,_,([]++pa)++pv,⟨[]++pa,pv,trodAll_append (e _ (fun _ _=>rfl)) (k _ _ _),d _ (fun _ _=>rfl),rfl,?_,?_⟩,?_⟩;intro b n i;have z:MemPlace.cell b n∈c:=by rw[h];simpa using i
 rw[y _ (x _ z)];exact A b n z;intro E
 have:=B E;rw[h] at this;simpa using this;intro p i _;rw[h];simpa using i
def UX{k v:ag}: ∀ {l:List fE},dM k l=some v-> ∃t∈l,t.2=v
 | [],h=>by cases h
 |t::l,h=>by
  simp only[dM] at h;cases hk:t.1==k with
  |true=>
   rw[hk] at h;simp only[cT,Option.some.injEq] at h;exact⟨t,List.mem_cons_self,h⟩
  |false=>
   rw[hk] at h;obtain⟨u,a,e⟩:=UX (l:=l) h;exact⟨u,List.mem_cons_of_mem _ a,e⟩
set_option maxRecDepth 100000 in
def asF(os:Os)(a:os.Started)(H:Type)(enc:TypeId×Value->H):
 ReturnsInHanded {} Tryz.checked os 5 .any (Rows.validViewsSpec.pre6 enc ae Tryz.f5 Rows.validViewsRow.domain false) (Rows.validViewsSpec.post enc ae Tryz.f5 false true false false):=by
 refine returnsInHanded_of_change (C:=Tryz.checked) ao5 a (by kernel_rfl) Tryz.func5
  (ChangeSpec.witness6 (enc:=enc) (C:=Tryz.checked) false ⟨#[],#[.agg #[.slice none 0 0],.agg #[.slice none 0 0,.slice none 0 0,.slice none 0 0,.int .i64 0,.slice none 0 0,.slice none 0 0]],[]⟩ 8 (by kernel_rfl) (by kernel_rfl) (by kernel_rfl) (by kernel_rfl)) ?_
 intro W n args ds gs s c T S _;have d: ∀(j:Nat) t v,Tryz.f5.params[j]? =some t->args[j]? =some v->Value.okWide ae W .any n t v:=c;have i:=T;obtain⟨p,q,m,J,rfl,a1,a0⟩:=T;have U:DataW.TrodAll enc ae W 0 (fun _=>true) true Tryz.f5.params.toList args.toList ds p:=m;rw[Tryz.params5] at U d;obtain⟨O,N,d0,d1,R,Q,rfl,rfl,rfl,M,K⟩:=trodAll_two U;obtain⟨rfl,rfl⟩:=trodVars_none J;clear m c;simp only[List.append_nil] at i;obtain⟨x,l,Y,hl,hg,hs,D⟩:=aoM (Sc Tryz.underlying24 (d 0 24 O rfl rfl)) M;obtain⟨w0,w1,w2,w3,vv,rv,u,rl,V,I,J,B,E,w,F⟩:=aoR (Sc Tryz.underlying29 (d 1 29 N rfl rfl)) K;have g: ∀o∈l, ∀v,dM lU o.gT=some v->v.length<small:=fun o ho v Z=>by
  obtain⟨t,ht,rfl⟩:=UX Z;exact D o ho t ht
 have hc:=adE (fn:=Tryz.f5) Tryz.func5 (by kernel_rfl) (by kernel_rfl) (alt hl hg hs g I J B E w F (jV W) .nil W [O,N] (agF W) (.cons Y (.cons V .nil)));refine hc.mono fun e W' ⟨r',he,G',_,ext,hr⟩=>?_;subst he;cases hr;have keep: ∀b,b<W.heap.size->W'.heap[b]? =W.heap[b]? :=fun b hb=>ext.keep b hb JM;have A: ∀z∈R,z.block<W.heap.size:=by
  obtain⟨k,G⟩:=M;exact DataW.trod_lt _ _ _ _ G
 have y: ∀z∈Q,z.block<W.heap.size:=by
  obtain⟨k,G⟩:=K;exact DataW.trod_lt _ _ _ _ G
 refine⟨_,rfl,apa (pa:=R++Q) (pv:=[]) i (fun _ _ _=>trodAll_mk1 (shut_bool u_4 true)) (fun sp h=>trodAll_mk2 ?_ ?_) (fun _ _=>rfl) (by simp)
  (ali keep ext.quiet.1 ext.quiet.2.1 _) ext.quiet.2.2.2.1 (ok_one (by kernel_rfl) rfl (okWide_bool_mk u_4 true))⟩
 exact WideElems.Trod_stays Xd (by kernel_rfl) (of_decide_eq_true (by kernel_rfl)) M (fun z f=>Z8 keep z (A z f)) (fun z f=>h z (by simp[f]));exact WideElems.Trod_stays Xd (by kernel_rfl) (of_decide_eq_true (by kernel_rfl)) K (fun z f=>Z8 keep z (y z f)) (fun z f=>h z (by simp[f]))
