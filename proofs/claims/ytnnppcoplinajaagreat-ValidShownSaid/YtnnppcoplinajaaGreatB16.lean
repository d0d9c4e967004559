/- Lemmas for ValidShown. -/
import Derived.Test.YtnnppcoplinajaaGreatB14
import Derived.Test.YtnnppcoplinajaaGreatB15
import Derived.Carry
import Derived.Test.YtnnppcoplinajaaGreatRows
set_option linter.all false
open Go.Proofs.Tryz renaming prog→ah
namespace Go.Proofs.YtnnppcoplinajaaGreat
open Go.ChangeShapes Go.WideShapes Go.ChangeAt Go.RowKit Go.Ag
def avm:ownKnob ah.godebug=none:=by kernel_rfl
def ZY:laidOutB ah=true:=by kernel_rfl
def u_4:ah.underlying 4=some .bool:=by kernel_rfl
variable{args:Array Value}{P:Program}
def ahq{f:FuncId}{fn:Func}{w:World}{R:Value->World->Prop}(hf:P.funcs[f]? =some fn)(hname:(fn.name== "runtime.NumGoroutine")=false)(hb:fn.body.isSome=true)(h:mj P f args w R):Calls P f args w fun e w'=> ∃y,e= .returned y/\R y w':=by
 rcases h with⟨y,w',h1,_⟩|⟨_,h⟩
 have h2:fn.name≠ "runtime.NumGoroutine" :=by simpa using hname
 cases hc:fn.body with
 |none=>rw[hc] at hb;cases hb
 |some c=>
  have:(callFunc f args).run P w= .ok (.enter f args) w:=by simp[callFunc,hf,h2,hc]
  rw[this] at h1;cases h1
 exact h
variable{v:Value}
def Uu{t:TypeId}{c:Array Field}(a:P.underlying t=some (.struct c)){W:World}{r:Go.Reach}{base:Nat}(h:Value.okWide P W r base t v): ∃cs,v= .agg cs:=by
 unfold Value.okWide at h;rw[a] at h;obtain⟨cs,b,_⟩:=h;exact⟨cs,b⟩
variable{W':World}
def adc{W:World}(h: ∀b,b<W.heap.size->W'.heap[b]? =W.heap[b]?)(p:MemPlace)(a:p.block<W.heap.size):W.sameAt W' p:=by
 cases p with
 |cell b o=>
  have h:=h b a;show W'.cell? ⟨b,o,none⟩=W.cell? ⟨b,o,none⟩;unfold World.cell?;rw[h]
 |map b=>exact h b a
def arv{W:World}(h: ∀b,b<W.heap.size->W'.heap[b]? =W.heap[b]?)(e:W'.os=W.os)(d:W'.output=W.output)(a:MemPlace->Prop):W.keptBut W' a:=by
 refine⟨e,d,fun i f=>?_⟩;rw[h i f];cases W.heap[i]? with
 |none=>rfl
 |some o=>
  cases o with
  |cells c t g=>exact⟨rfl,rfl,rfl,fun _ _=>rfl⟩
  |map j k=>exact .inr ⟨rfl,rfl⟩
  |_=>rfl
def avq{H:Type}{enc:TypeId×Value->H}{f:Func}{s:ChangeSpec}{apart fresh g m:Bool}{W:World}{q o:List (DataW H)}{c pa pv:List MemPlace}(u:DataW.Whole enc P f.params.toList s.vars apart W args.toList q o c)(k: ∀(b:Nat) (sp:Nat->Bool) (D:Bool),DataW.TrodAll enc P W' b sp D f.resultTypes.toList (v.resultList f.resultTypes.size) (s.fn H (q++o)).results [])(e: ∀sp:Nat->Bool,(∀p∈c,sp p.block=true)->DataW.TrodAll enc P W' 0 sp true f.params.toList args.toList (s.fn H (q++o)).args pa)(d: ∀sp:Nat->Bool,(∀p∈c,sp p.block=true)->DataW.TrodVars enc P W' sp s.vars (s.fn H (q++o)).vars pv)(h:c=pa++pv)(C:W.keptBut W' (· ∈c))(y: ∀a,a.block<W.heap.size->W'.frozen? a=W.frozen? a)(w: ∀(j:Nat) (t:TypeId) (r:Value),f.resultTypes[j]? =some t->(v.resultList f.resultTypes.size)[j]? =some r->Value.okWide P W' .any 0 t r):
 s.post enc P f apart fresh g m W args v W':=by
 have l: ∀p∈c,(fun b=>decide (b<W.heap.size)) p.block=true:=fun p i=>by simpa using u.lt p i
 refine⟨q,o,c,[],pa,pv,u,k _ _ _,e _ l,d _ l,World.keptBut_mono (fun p i=>⟨i,?_⟩) C,fun _=>?_⟩;rw[h,List.mem_append] at i;exact Or.inr i;have x:=u.lt;obtain⟨_,_,_,_,_,A,B⟩:=u;refine⟨w,_,_,([]++pa)++pv,⟨[]++pa,pv,trodAll_append (e _ (fun _ _=>rfl)) (k _ _ _),d _ (fun _ _=>rfl),rfl,?_,?_⟩,?_⟩;intro b n i;have z:MemPlace.cell b n∈c:=by rw[h];simpa using i
 rw[y _ (x _ z)];exact A b n z;intro E
 have:=B E;rw[h] at this;simpa using this;intro p i _;rw[h];simpa using i
set_option maxRecDepth 100000 in
def azp(os:Os)(a:os.Started)(H:Type)(enc:TypeId×Value->H):
 ReturnsInHanded {} Tryz.checked os 6 .any (Rows.validShownSpec.pre6 enc ah Tryz.f6 Rows.validShownRow.domain false) (Rows.validShownSpec.post enc ah Tryz.f6 false true false false):=by
 refine returnsInHanded_of_change (C:=Tryz.checked) avm a (by kernel_rfl) Tryz.func6
  (ChangeSpec.witness6 (enc:=enc) (C:=Tryz.checked) false ⟨#[],#[.agg #[.slice none 0 0],.agg #[.slice none 0 0,.slice none 0 0,.slice none 0 0,.int .i64 0,.slice none 0 0,.slice none 0 0]],[]⟩ 8 (by kernel_rfl) (by kernel_rfl) (by kernel_rfl) (by kernel_rfl)) ?_
 intro W m args ds gs n c Q O _;have d: ∀(j:Nat) t v,Tryz.f6.params[j]? =some t->args[j]? =some v->Value.okWide ah W .any m t v:=c;have h:=Q;obtain⟨p,q,i,F,rfl,a0,Z⟩:=Q;have R:DataW.TrodAll enc ah W 0 (fun _=>true) true Tryz.f6.params.toList args.toList ds p:=i;rw[Tryz.params6] at R d;obtain⟨K,J,d0,d1,N,M,rfl,rfl,rfl,I,G⟩:=trodAll_two R;obtain⟨rfl,rfl⟩:=trodVars_none F;clear i c;simp only[List.append_nil] at h;obtain⟨x,l,T,hl,hg,V,U⟩:=au5 (Uu Tryz.underlying24 (d 0 24 K rfl rfl)) I;obtain⟨w0,w1,w2,w3,vv,rv,o,rl,S,E,F,y,A,s,B⟩:=ava (Uu Tryz.underlying29 (d 1 29 J rfl rfl)) G;have hc:=ahq (fn:=Tryz.f6) Tryz.func6 (by kernel_rfl) (by kernel_rfl) (arE hl hg V E F y A s B (jx W) .nil W [K,J] (ald W) (.cons T (.cons S .nil)));refine hc.mono fun e W' ⟨r',he,G',_,ext,Y⟩=>?_;subst he;cases Y;have keep: ∀b,b<W.heap.size->W'.heap[b]? =W.heap[b]? :=fun b hb=>ext.keep b hb JL;have w: ∀z∈N,z.block<W.heap.size:=by
  obtain⟨k,D⟩:=I;exact DataW.trod_lt _ _ _ _ D
 have u: ∀z∈M,z.block<W.heap.size:=by
  obtain⟨k,D⟩:=G;exact DataW.trod_lt _ _ _ _ D
 refine⟨_,rfl,avq (pa:=N++M) (pv:=[]) h (fun _ _ _=>trodAll_mk1 (shut_bool u_4 true)) (fun sp g=>trodAll_mk2 ?_ ?_) (fun _ _=>rfl) (by simp)
  (arv keep ext.quiet.1 ext.quiet.2.1 _) ext.quiet.2.2.2.1 (ok_one (by kernel_rfl) rfl (okWide_bool_mk u_4 true))⟩
 exact WideElems.Trod_stays ZY (by kernel_rfl) (of_decide_eq_true (by kernel_rfl)) I (fun z f=>adc keep z (w z f)) (fun z f=>g z (by simp[f]));exact WideElems.Trod_stays ZY (by kernel_rfl) (of_decide_eq_true (by kernel_rfl)) G (fun z f=>adc keep z (u z f)) (fun z f=>g z (by simp[f]))
