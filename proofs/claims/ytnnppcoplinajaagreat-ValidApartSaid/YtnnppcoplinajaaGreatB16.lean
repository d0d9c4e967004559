/- Lemmas for ValidApart. -/
import Derived.Test.YtnnppcoplinajaaGreatB14
import Derived.Test.YtnnppcoplinajaaGreatB15
import Derived.Carry
import Derived.Test.YtnnppcoplinajaaGreatRows
set_option linter.all false
open Go.Proofs.Tryz renaming prog→ae
namespace Go.Proofs.YtnnppcoplinajaaGreat
open Go.ChangeShapes Go.WideShapes Go.ChangeAt Go.RowKit Go.Ag
def ao5:ownKnob ae.godebug=none:=by kernel_rfl
def Xd:laidOutB ae=true:=by kernel_rfl
def u_4:ae.underlying 4=some .bool:=by kernel_rfl
variable{args:Array Value}{P:Program}
def adE{f:FuncId}{fn:Func}{w:World}{R:Value->World->Prop}(hf:P.funcs[f]? =some fn)(hname:(fn.name== "runtime.NumGoroutine")=false)(hb:fn.body.isSome=true)(h:mM P f args w R):Calls P f args w fun e w'=> ∃y,e= .returned y/\R y w':=by
 rcases h with⟨y,w',h1,_⟩|⟨_,h⟩
 have h2:fn.name≠ "runtime.NumGoroutine" :=by simpa using hname
 cases hc:fn.body with
 |none=>rw[hc] at hb;cases hb
 |some c=>
  have:(callFunc f args).run P w= .ok (.enter f args) w:=by simp[callFunc,hf,h2,hc]
  rw[this] at h1;cases h1
 exact h
variable{v:Value}
def Sc{t:TypeId}{c:Array Field}(a:P.underlying t=some (.struct c)){W:World}{r:Go.Reach}{base:Nat}(h:Value.okWide P W r base t v): ∃cs,v= .agg cs:=by
 unfold Value.okWide at h;rw[a] at h;obtain⟨cs,b,_⟩:=h;exact⟨cs,b⟩
variable{W':World}
def Z8{W:World}(h: ∀b,b<W.heap.size->W'.heap[b]? =W.heap[b]?)(p:MemPlace)(a:p.block<W.heap.size):W.sameAt W' p:=by
 cases p with
 |cell b o=>
  have h:=h b a;show W'.cell? ⟨b,o,none⟩=W.cell? ⟨b,o,none⟩;unfold World.cell?;rw[h]
 |map b=>exact h b a
def ali{W:World}(h: ∀b,b<W.heap.size->W'.heap[b]? =W.heap[b]?)(e:W'.os=W.os)(d:W'.output=W.output)(a:MemPlace->Prop):W.keptBut W' a:=by
 refine⟨e,d,fun i f=>?_⟩;rw[h i f];cases W.heap[i]? with
 |none=>rfl
 |some o=>
  cases o with
  |cells c t g=>exact⟨rfl,rfl,rfl,fun _ _=>rfl⟩
  |map j k=>exact .inr ⟨rfl,rfl⟩
  |_=>rfl
variable{H:Type}
def apa{enc:TypeId×Value->H}{f:Func}{s:ChangeSpec}{apart fresh g m:Bool}{W:World}{q o:List (DataW H)}{c pa pv:List MemPlace}(u:DataW.Whole enc P f.params.toList s.vars apart W args.toList q o c)(k: ∀(b:Nat) (sp:Nat->Bool) (D:Bool),DataW.TrodAll enc P W' b sp D f.resultTypes.toList (v.resultList f.resultTypes.size) (s.fn H (q++o)).results [])(e: ∀sp:Nat->Bool,(∀p∈c,sp p.block=true)->DataW.TrodAll enc P W' 0 sp true f.params.toList args.toList (s.fn H (q++o)).args pa)(d: ∀sp:Nat->Bool,(∀p∈c,sp p.block=true)->DataW.TrodVars enc P W' sp s.vars (s.fn H (q++o)).vars pv)(h:c=pa++pv)(C:W.keptBut W' (· ∈c))(y: ∀a,a.block<W.heap.size->W'.frozen? a=W.frozen? a)(w: ∀(j:Nat) (t:TypeId) (r:Value),f.resultTypes[j]? =some t->(v.resultList f.resultTypes.size)[j]? =some r->Value.okWide P W' .any 0 t r):
 s.post enc P f apart fresh g m W args v W':=by
 have l: ∀p∈c,(fun b=>decide (b<W.heap.size)) p.block=true:=fun p i=>by simpa using u.lt p i
 refine⟨q,o,c,[],pa,pv,u,k _ _ _,e _ l,d _ l,World.keptBut_mono (fun p i=>⟨i,?_⟩) C,fun _=>?_⟩;rw[h,List.mem_append] at i;exact Or.inr i;have x:=u.lt;obtain⟨_,_,_,_,_,A,B⟩:=u;refine⟨w,_,_,([]++pa)++pv,⟨[]++pa,pv,trodAll_append (e _ (fun _ _=>rfl)) (k _ _ _),d _ (fun _ _=>rfl),rfl,?_,?_⟩,?_⟩;intro b n i;have z:MemPlace.cell b n∈c:=by rw[h];simpa using i
 rw[y _ (x _ z)];exact A b n z;intro E
 have:=B E;rw[h] at this;simpa using this;intro p i _;rw[h];simpa using i
def aBW{enc:TypeId×Value->H}{W:World}{f:Bool}{d:DataW H}{ps:List MemPlace}(K: ∃cs,v= .agg cs)(h:DataW.Trod enc ae W 0 (fun _=>true) f 52 v d ps):
 ∃o:Obj,VR (jV W) o.val v/\o.oM:=by
 obtain⟨q,h⟩:=h;obtain⟨cs,rfl⟩:=K;obtain⟨id,k,p,n,m,l,e,hid,M,i⟩:=aoN h;have N:cs= #[.string ⟨⟨id⟩⟩,.int .i64 k,.int .i64 p,.int .i64 n,m,l]:=by
  obtain⟨O⟩:=cs;exact congrArg Array.mk e
 subst N;have R: ∃(u:aa) (a:List ag),VR (jV W) u m/\u.scal=true/\ay 1 aG u a/\a.length<small/\(∀s∈a,s.length<small)/\bL u=true:=by
  rcases M with rfl|⟨u,b⟩
  exact⟨.oZ,[],.oZ,rfl,.inl ⟨rfl,rfl⟩,by decide,(fun s j=>by cases j),rfl⟩;obtain⟨a,g⟩:=PS b;exact⟨u,a,PR b,by obtain⟨_,_,_,_,_,rfl,_⟩:=b;rfl,g⟩
 have T: ∃(u:aa) (c:List fE),VR (jV W) u l/\u.scal=true/\ay 2 jd u c/\c.length<small/\(∀s∈c,s.1.length<small/\s.2.length<small)/\bL u=true:=by
  rcases i with rfl|⟨u,b⟩
  exact⟨.oZ,[],.oZ,rfl,.inl ⟨rfl,rfl⟩,by decide,(fun s j=>by cases j),rfl⟩;obtain⟨c,g⟩:=arE b;exact⟨u,c,arD b,by obtain⟨_,_,_,_,_,rfl,_⟩:=b;rfl,g⟩
 obtain⟨C,a,J,I,G,F,E,D⟩:=R;obtain⟨w,c,s0,B,A,z,y,x⟩:=T;refine⟨⟨id,k,p,n,C,w,a,c⟩,.agg ?_ (.cons (.str _) (.cons (.int _ _) (.cons (.int _ _) (.cons (.int _ _) (.cons J (.cons s0 .nil)))))),⟨⟨G,A,hid,F,E,z,fun t i=>(y t i).1⟩,D,x⟩⟩;simp only[dG,Obj.cells,List.all_cons,I,B,List.all_nil,Bool.and_self];rfl
set_option maxRecDepth 100000 in
def aCf(os:Os)(c:os.Started)(H:Type)(enc:TypeId×Value->H):
 ReturnsInHanded {} Tryz.checked os 7 .any (Rows.validApartSpec.pre6 enc ae Tryz.f7 Rows.validApartRow.domain false) (Rows.validApartSpec.post enc ae Tryz.f7 false true false false):=by
 refine returnsInHanded_of_change (C:=Tryz.checked) ao5 c (by kernel_rfl) Tryz.func7
  (ChangeSpec.witness6 (enc:=enc) (C:=Tryz.checked) false ⟨#[],#[.agg #[.slice none 0 0],.agg #[.slice none 0 0,.slice none 0 0,.slice none 0 0,.int .i64 0,.slice none 0 0,.slice none 0 0],.agg #[.string ByteArray.empty,.int .i64 0,.int .i64 0,.int .i64 0,.slice none 0 0,.slice none 0 0]],[]⟩ 8 (by kernel_rfl) (by kernel_rfl) (by kernel_rfl) (by kernel_rfl)) ?_
 intro W n args ds gs o f T S _;have a: ∀(j:Nat) t v,Tryz.f7.params[j]? =some t->args[j]? =some v->Value.okWide ae W .any n t v:=f;have i:=T;obtain⟨p,q,m,F,rfl,a2,a1⟩:=T;have U:DataW.TrodAll enc ae W 0 (fun _=>true) true Tryz.f7.params.toList args.toList ds p:=m;rw[Tryz.params7] at U a;obtain⟨N,M,K,d0,d1,d2,R,Q,O,rfl,rfl,rfl,J,I,G⟩:=trodAll_three U;obtain⟨rfl,rfl⟩:=trodVars_none F;clear m f;simp only[List.append_nil] at i;obtain⟨x,l,Y,hl,hg,hs,a0⟩:=aoM (Sc Tryz.underlying24 (a 0 24 N rfl rfl)) J;obtain⟨w0,w1,w2,w3,vv,rv,views,rl,V,E,F,A,B,s,D⟩:=aoR (Sc Tryz.underlying29 (a 1 29 M rfl rfl)) I;obtain⟨ob,Z,gx⟩:=aBW (Sc Tryz.underlying52 (a 2 52 K rfl rfl)) G;have hc:=adE (fn:=Tryz.f7) Tryz.func7 (by kernel_rfl) (by kernel_rfl) (aBM hl hg hs E F A B s D gx (jV W) .nil W [N,M,K] (agF W) (.cons Y (.cons V (.cons Z .nil))));refine hc.mono fun e W' ⟨r',he,G',_,ext,hr⟩=>?_;subst he;cases hr;have keep: ∀b,b<W.heap.size->W'.heap[b]? =W.heap[b]? :=fun b hb=>ext.keep b hb JM;have y: ∀z∈R,z.block<W.heap.size:=by
  obtain⟨k,h⟩:=J;exact DataW.trod_lt _ _ _ _ h
 have w: ∀z∈Q,z.block<W.heap.size:=by
  obtain⟨k,h⟩:=I;exact DataW.trod_lt _ _ _ _ h
 have u: ∀z∈O,z.block<W.heap.size:=by
  obtain⟨k,h⟩:=G;exact DataW.trod_lt _ _ _ _ h
 refine⟨_,rfl,apa (pa:=R++(Q++O)) (pv:=[]) i (fun _ _ _=>trodAll_mk1 (shut_bool u_4 true)) (fun sp g=>trodAll_mk3 ?_ ?_ ?_) (fun _ _=>rfl) (by simp)
  (ali keep ext.quiet.1 ext.quiet.2.1 _) ext.quiet.2.2.2.1 (ok_one (by kernel_rfl) rfl (okWide_bool_mk u_4 true))⟩
 exact WideElems.Trod_stays Xd (by kernel_rfl) (of_decide_eq_true (by kernel_rfl)) J (fun z d=>Z8 keep z (y z d)) (fun z d=>g z (by simp[d]));exact WideElems.Trod_stays Xd (by kernel_rfl) (of_decide_eq_true (by kernel_rfl)) I (fun z d=>Z8 keep z (w z d)) (fun z d=>g z (by simp[d]));exact WideElems.Trod_stays Xd (by kernel_rfl) (of_decide_eq_true (by kernel_rfl)) G (fun z d=>Z8 keep z (u z d)) (fun z d=>g z (by simp[d]))
