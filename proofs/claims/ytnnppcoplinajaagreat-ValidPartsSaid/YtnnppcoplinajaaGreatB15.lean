/- Lemmas for ValidParts. -/
import Derived.Test.YtnnppcoplinajaaGreatB14
import Derived.Carry
import Derived.Test.YtnnppcoplinajaaGreatRows
set_option linter.all false
open Go.Proofs.Tryz renaming prog→ah
namespace Go.Proofs.YtnnppcoplinajaaGreat
open Go.ChangeShapes Go.WideShapes Go.ChangeAt Go.RowKit Go.Ag
def atF:ownKnob ah.godebug=none:=by kernel_rfl
def Pd:laidOutB ah=true:=by kernel_rfl
def u_4:ah.underlying 4=some .bool:=by kernel_rfl
variable{args:Array Value}{P:Program}
def agd{f:FuncId}{fn:Func}{w:World}{R:Value->World->Prop}(hf:P.funcs[f]? =some fn)(hname:(fn.name== "runtime.NumGoroutine")=false)(hb:fn.body.isSome=true)(h:lZ P f args w R):Calls P f args w fun e w'=> ∃y,e= .returned y/\R y w':=by
 rcases h with⟨y,w',h1,_⟩|⟨_,h⟩
 have h2:fn.name≠ "runtime.NumGoroutine" :=by simpa using hname
 cases hc:fn.body with
 |none=>rw[hc] at hb;cases hb
 |some c=>
  have:(callFunc f args).run P w= .ok (.enter f args) w:=by simp[callFunc,hf,h2,hc]
  rw[this] at h1;cases h1
 exact h
variable{base:Nat}{t:TypeId}{v:Value}
def Tw{c:Array Field}(a:P.underlying t=some (.struct c)){W:World}{r:Go.Reach}(h:Value.okWide P W r base t v): ∃cs,v= .agg cs:=by
 unfold Value.okWide at h;rw[a] at h;obtain⟨cs,b,_⟩:=h;exact⟨cs,b⟩
def asy{e:TypeId}(a:P.underlying t=some (.slice e)){W:World}{r:Go.Reach}(h:Value.okWide P W r base t v):v.cells.toList=[v]:=by
 unfold Value.okWide at h;rw[a] at h;have h:Cell.okWide P W r base t v:=h;cases v with
 |agg cs=>
  unfold Cell.okWide at h;rw[a] at h;have h:Cell.ok P W r base t (.agg cs):=h;unfold Cell.ok at h;rw[a] at h;exact h.elim
 |_=>rfl
variable{W':World}
def QU{W:World}(h: ∀b,b<W.heap.size->W'.heap[b]? =W.heap[b]?)(p:MemPlace)(a:p.block<W.heap.size):W.sameAt W' p:=by
 cases p with
 |cell b o=>
  have h:=h b a;show W'.cell? ⟨b,o,none⟩=W.cell? ⟨b,o,none⟩;unfold World.cell?;rw[h]
 |map b=>exact h b a
def apQ{W:World}(h: ∀b,b<W.heap.size->W'.heap[b]? =W.heap[b]?)(e:W'.os=W.os)(d:W'.output=W.output)(a:MemPlace->Prop):W.keptBut W' a:=by
 refine⟨e,d,fun i f=>?_⟩;rw[h i f];cases W.heap[i]? with
 |none=>rfl
 |some o=>
  cases o with
  |cells c t g=>exact⟨rfl,rfl,rfl,fun _ _=>rfl⟩
  |map j k=>exact .inr ⟨rfl,rfl⟩
  |_=>rfl
def atL{H:Type}{enc:TypeId×Value->H}{f:Func}{s:ChangeSpec}{apart fresh g m:Bool}{W:World}{q o:List (DataW H)}{c pa pv:List MemPlace}(u:DataW.Whole enc P f.params.toList s.vars apart W args.toList q o c)(k: ∀(b:Nat) (sp:Nat->Bool) (D:Bool),DataW.TrodAll enc P W' b sp D f.resultTypes.toList (v.resultList f.resultTypes.size) (s.fn H (q++o)).results [])(e: ∀sp:Nat->Bool,(∀p∈c,sp p.block=true)->DataW.TrodAll enc P W' 0 sp true f.params.toList args.toList (s.fn H (q++o)).args pa)(d: ∀sp:Nat->Bool,(∀p∈c,sp p.block=true)->DataW.TrodVars enc P W' sp s.vars (s.fn H (q++o)).vars pv)(h:c=pa++pv)(C:W.keptBut W' (· ∈c))(y: ∀a,a.block<W.heap.size->W'.frozen? a=W.frozen? a)(w: ∀(j:Nat) (t:TypeId) (r:Value),f.resultTypes[j]? =some t->(v.resultList f.resultTypes.size)[j]? =some r->Value.okWide P W' .any 0 t r):
 s.post enc P f apart fresh g m W args v W':=by
 have l: ∀p∈c,(fun b=>decide (b<W.heap.size)) p.block=true:=fun p i=>by simpa using u.lt p i
 refine⟨q,o,c,[],pa,pv,u,k _ _ _,e _ l,d _ l,World.keptBut_mono (fun p i=>⟨i,?_⟩) C,fun _=>?_⟩;rw[h,List.mem_append] at i;exact Or.inr i;have x:=u.lt;obtain⟨_,_,_,_,_,A,B⟩:=u;refine⟨w,_,_,([]++pa)++pv,⟨[]++pa,pv,trodAll_append (e _ (fun _ _=>rfl)) (k _ _ _),d _ (fun _ _=>rfl),rfl,?_,?_⟩,?_⟩;intro b n i;have z:MemPlace.cell b n∈c:=by rw[h];simpa using i
 rw[y _ (x _ z)];exact A b n z;intro E
 have:=B E;rw[h] at this;simpa using this;intro p i _;rw[h];simpa using i
set_option maxRecDepth 100000 in
def axE(os:Os)(c:os.Started)(H:Type)(enc:TypeId×Value->H):
 ReturnsInHanded {} Tryz.checked os 4 .any (Rows.validPartsSpec.pre6 enc ah Tryz.f4 Rows.validPartsRow.domain false) (Rows.validPartsSpec.post enc ah Tryz.f4 false true false false):=by
 refine returnsInHanded_of_change (C:=Tryz.checked) atF c (by kernel_rfl) Tryz.func4
  (ChangeSpec.witness6 (enc:=enc) (C:=Tryz.checked) false ⟨#[],#[.agg #[.slice none 0 0],.agg #[.slice none 0 0,.slice none 0 0,.slice none 0 0,.int .i64 0,.slice none 0 0,.slice none 0 0],.slice none 0 0],[]⟩ 8 (by kernel_rfl) (by kernel_rfl) (by kernel_rfl) (by kernel_rfl)) ?_
 intro W base args ds gs n f V U _;have a: ∀(j:Nat) t v,Tryz.f4.params[j]? =some t->args[j]? =some v->Value.okWide ah W .any base t v:=f;have i:=V;obtain⟨p,q,m,I,rfl,a2,a1⟩:=V;have Y:DataW.TrodAll enc ah W 0 (fun _=>true) true Tryz.f4.params.toList args.toList ds p:=m;rw[Tryz.params4] at Y a;obtain⟨Q,O,N,d0,d1,d2,T,S,R,rfl,rfl,rfl,M,K,J⟩:=trodAll_three Y;obtain⟨rfl,rfl⟩:=trodVars_none I;clear m f;simp only[List.append_nil] at i;obtain⟨x,l,hx,hl,hg,hs,a0⟩:=atn (Tw Tryz.underlying24 (a 0 24 Q rfl rfl)) M;obtain⟨w0,w1,w2,w3,vv,rv,o,rl,hy,G,I,B,D,s,E⟩:=att (Tw Tryz.underlying29 (a 1 29 O rfl rfl)) K;obtain⟨u,Z,hu,hi,F⟩:=atl (asy Tryz.underlying25 (a 2 25 N rfl rfl)) J;have hc:=agd (fn:=Tryz.f4) Tryz.func4 (by kernel_rfl) (by kernel_rfl) (apY hl hg hs G I B D s E hi F (jf W) .nil W [Q,O,N] (ajL W) (.cons hx (.cons hy (.cons hu .nil))));refine hc.mono fun e W' ⟨r',he,G',_,ext,hr⟩=>?_;subst he;cases hr;have keep: ∀b,b<W.heap.size->W'.heap[b]? =W.heap[b]? :=fun b hb=>ext.keep b hb Jj;have A: ∀z∈T,z.block<W.heap.size:=by
  obtain⟨k,h⟩:=M;exact DataW.trod_lt _ _ _ _ h
 have y: ∀z∈S,z.block<W.heap.size:=by
  obtain⟨k,h⟩:=K;exact DataW.trod_lt _ _ _ _ h
 have w: ∀z∈R,z.block<W.heap.size:=by
  obtain⟨k,h⟩:=J;exact DataW.trod_lt _ _ _ _ h
 refine⟨_,rfl,atL (pa:=T++(S++R)) (pv:=[]) i (fun _ _ _=>trodAll_mk1 (shut_bool u_4 true)) (fun sp g=>trodAll_mk3 ?_ ?_ ?_) (fun _ _=>rfl) (by simp)
  (apQ keep ext.quiet.1 ext.quiet.2.1 _) ext.quiet.2.2.2.1 (ok_one (by kernel_rfl) rfl (okWide_bool_mk u_4 true))⟩
 exact WideElems.Trod_stays Pd (by kernel_rfl) (of_decide_eq_true (by kernel_rfl)) M (fun z d=>QU keep z (A z d)) (fun z d=>g z (by simp[d]));exact WideElems.Trod_stays Pd (by kernel_rfl) (of_decide_eq_true (by kernel_rfl)) K (fun z d=>QU keep z (y z d)) (fun z d=>g z (by simp[d]));exact WideElems.Trod_stays Pd (by kernel_rfl) (of_decide_eq_true (by kernel_rfl)) J (fun z d=>QU keep z (w z d)) (fun z d=>g z (by simp[d]))
