/- MergeMatchesReference holds: for every three maps the law returns true, and its arguments read as they did. -/
import Derived.Test.YtnnppcoplinajaaGreatL2
import Derived.Carry
import Derived.Test.YtnnppcoplinajaaGreatRows
import Derived.Test.YtnnppcoplinajaaGreatFact
set_option linter.defProp false
open Go.Proofs.Tryz renaming prog→ar
namespace Go.Proofs.YtnnppcoplinajaaGreat
open Go.ChangeShapes Go.WideShapes Go.ChangeAt Go.RowKit Go.Ag
def als:ownKnob ar.godebug=none:=by kernel_rfl
def KI:laidOutB ar=true:=by kernel_rfl
def VM:ar.underlying 4=some .bool:=by kernel_rfl
variable{args:Array Value}{P:Program}
def YN{f:FuncId}{fn:Func}{w:World}{R:Value->World->Prop}(hf:P.funcs[f]? =some fn)(hname:(fn.name== "runtime.NumGoroutine")=false)(hb:fn.body.isSome=true)(h:mh P f args w R):Calls P f args w fun e w'=> ∃y,e= .returned y/\R y w':=by
 rcases h with⟨y,w',h1,_⟩|⟨_,h⟩
 have h2:fn.name≠ "runtime.NumGoroutine" :=by simpa using hname
 cases hc:fn.body with
 |none=>rw[hc] at hb;cases hb
 |some c=>
  have:(callFunc f args).run P w= .ok (.enter f args) w:=by simp[callFunc,hf,h2,hc]
  rw[this] at h1;cases h1
 exact h
variable{v:Value}
def Im{t:TypeId}{fs:Array Field}(ht:P.underlying t=some (.struct fs)){W:World}{r:Go.Reach}{base:Nat}(h:Value.okWide P W r base t v): ∃cs,v= .agg cs:=by
 unfold Value.okWide at h;rw[ht] at h;obtain⟨cs,h1,_⟩:=h;exact⟨cs,h1⟩
variable{W':World}
def Mc{W:World}(h: ∀b,b<W.heap.size->W'.heap[b]? =W.heap[b]?)(p:MemPlace)(hp:p.block<W.heap.size):W.sameAt W' p:=by
 cases p with
 |cell b o=>
  have h:=h b hp;show W'.cell? ⟨b,o,none⟩=W.cell? ⟨b,o,none⟩;unfold World.cell?;rw[h]
 |map b=>exact h b hp
def ahu{W:World}(h: ∀b,b<W.heap.size->W'.heap[b]? =W.heap[b]?)(ho:W'.os=W.os)(hu:W'.output=W.output)(may:MemPlace->Prop):W.keptBut W' may:=by
 refine⟨ho,hu,fun i hi=>?_⟩;rw[h i hi];cases W.heap[i]? with
 |none=>rfl
 |some o=>
  cases o with
  |cells c t fr=>exact⟨rfl,rfl,rfl,fun _ _=>rfl⟩
  |map es cl=>exact .inr ⟨rfl,rfl⟩
  |_=>rfl
def alZ{H:Type}{enc:TypeId×Value->H}{f:Func}{s:ChangeSpec}{apart fresh handsOn again:Bool}{W:World}{ds gs:List (DataW H)}{before pa pv:List MemPlace}(hW:DataW.Whole enc P f.params.toList s.vars apart W args.toList ds gs before)(hres: ∀(b:Nat) (sp:Nat->Bool) (hd:Bool),DataW.TrodAll enc P W' b sp hd f.resultTypes.toList (v.resultList f.resultTypes.size) (s.fn H (ds++gs)).results [])(hargs: ∀sp:Nat->Bool,(∀p∈before,sp p.block=true)->DataW.TrodAll enc P W' 0 sp true f.params.toList args.toList (s.fn H (ds++gs)).args pa)(hvars: ∀sp:Nat->Bool,(∀p∈before,sp p.block=true)->DataW.TrodVars enc P W' sp s.vars (s.fn H (ds++gs)).vars pv)(hps:before=pa++pv)(hk:W.keptBut W' (· ∈before))(hfz: ∀a,a.block<W.heap.size->W'.frozen? a=W.frozen? a)(hok: ∀(j:Nat) (t:TypeId) (r:Value),f.resultTypes[j]? =some t->(v.resultList f.resultTypes.size)[j]? =some r->Value.okWide P W' .any 0 t r):
 s.post enc P f apart fresh handsOn again W args v W':=by
 have hold: ∀p∈before,(fun b=>decide (b<W.heap.size)) p.block=true:=fun p hp=>by simpa using hW.lt p hp
 refine⟨ds,gs,before,[],pa,pv,hW,hres _ _ _,hargs _ hold,hvars _ hold,World.keptBut_mono (fun p hp=>⟨hp,?_⟩) hk,fun _=>?_⟩;rw[hps,List.mem_append] at hp;exact Or.inr hp;have hlt:=hW.lt;obtain⟨_,_,_,_,_,hz,hn⟩:=hW;refine⟨hok,_,_,([]++pa)++pv,⟨[]++pa,pv,trodAll_append (hargs _ (fun _ _=>rfl)) (hres _ _ _),hvars _ (fun _ _=>rfl),rfl,?_,?_⟩,?_⟩;intro b off hp;have hm:MemPlace.cell b off∈before:=by rw[hps];simpa using hp
 rw[hfz _ (hlt _ hm)];exact hz b off hm;intro ha
 have:=hn ha;rw[hps] at this;simpa using this;intro p hp _;rw[hps];simpa using hp
set_option maxRecDepth 100000 in
def ajN(os:Os)(started:os.Started)(H:Type)(enc:TypeId×Value->H):
 ReturnsInHanded {} Tryz.checked os 12 .any (Rows.mergeMatchesReferenceSpec.pre6 enc ar Tryz.f12 Rows.mergeMatchesReferenceRow.domain false) (Rows.mergeMatchesReferenceSpec.post enc ar Tryz.f12 false true false false):=by
 refine returnsInHanded_of_change (C:=Tryz.checked) als started (by kernel_rfl) Tryz.func12
  (ChangeSpec.witness6 (enc:=enc) (C:=Tryz.checked) false ⟨#[],#[.agg #[.slice none 0 0],.agg #[.slice none 0 0],.agg #[.slice none 0 0]],[]⟩ 8 (by kernel_rfl) (by kernel_rfl) (by kernel_rfl) (by kernel_rfl)) ?_
 intro W base args ds gs before hval0 hW hcnd _;have hval: ∀(j:Nat) t v,Tryz.f12.params[j]? =some t->args[j]? =some v->Value.okWide ar W .any base t v:=hval0;have hW':=hW;obtain⟨p,q,hA0,hV,rfl,hfz,hnd⟩:=hW;have hA:DataW.TrodAll enc ar W 0 (fun _=>true) true Tryz.f12.params.toList args.toList ds p:=hA0;rw[Tryz.params12] at hA hval;obtain⟨v0,v1,v2,d0,d1,d2,p0,p1,p2,rfl,rfl,rfl,h0,h1,h2⟩:=trodAll_three hA;obtain⟨rfl,rfl⟩:=trodVars_none hV;clear hA0 hval0;simp only[List.append_nil] at hW';obtain⟨x,l,hx,hl,hg,hs⟩:=LO (Im Tryz.underlying24 (hval 0 24 v0 rfl rfl)) h0;obtain⟨y,k,hy,hk,hg2,hs2⟩:=LO (Im Tryz.underlying24 (hval 1 24 v1 rfl rfl)) h1;obtain⟨z,m,hz,hm,hg3,hs3⟩:=LO (Im Tryz.underlying24 (hval 2 24 v2 rfl rfl)) h2;have hc:=YN (fn:=Tryz.f12) Tryz.func12 (by kernel_rfl) (by kernel_rfl) (ahI hl hk hm hg hg2 hg3 hs hs2 hs3 (nZ W) .nil W [v0,v1,v2] (acC W) (.cons hx (.cons hy (.cons hz .nil))));refine hc.mono fun e W' ⟨r',he,G',_,ext,hr⟩=>?_;subst he;cases hr;have keep: ∀b,b<W.heap.size->W'.heap[b]? =W.heap[b]? :=fun b hb=>ext.keep b hb Gu;have lt0: ∀z∈p0,z.block<W.heap.size:=by
  obtain⟨k,hk⟩:=h0;exact DataW.trod_lt _ _ _ _ hk
 have lt1: ∀z∈p1,z.block<W.heap.size:=by
  obtain⟨k,hk⟩:=h1;exact DataW.trod_lt _ _ _ _ hk
 have lt2: ∀z∈p2,z.block<W.heap.size:=by
  obtain⟨k,hk⟩:=h2;exact DataW.trod_lt _ _ _ _ hk
 refine⟨_,rfl,alZ (pa:=p0++(p1++p2)) (pv:=[]) hW' (fun _ _ _=>trodAll_mk1 (shut_bool VM true)) (fun sp hsp=>trodAll_mk3 ?_ ?_ ?_) (fun _ _=>rfl) (by simp)
  (ahu keep ext.quiet.1 ext.quiet.2.1 _) ext.quiet.2.2.2.1 (ok_one (by kernel_rfl) rfl (okWide_bool_mk VM true))⟩
 exact WideElems.Trod_stays KI (by kernel_rfl) (of_decide_eq_true (by kernel_rfl)) h0 (fun z hz=>Mc keep z (lt0 z hz)) (fun z hz=>hsp z (by simp[hz]));exact WideElems.Trod_stays KI (by kernel_rfl) (of_decide_eq_true (by kernel_rfl)) h1 (fun z hz=>Mc keep z (lt1 z hz)) (fun z hz=>hsp z (by simp[hz]));exact WideElems.Trod_stays KI (by kernel_rfl) (of_decide_eq_true (by kernel_rfl)) h2 (fun z hz=>Mc keep z (lt2 z hz)) (fun z hz=>hsp z (by simp[hz]))
end Go.Proofs.YtnnppcoplinajaaGreat
namespace Go.Proofs.YtnnppcoplinajaaGreat
def mergeMatchesReference_holds:Rows.MergeMatchesReferenceSaid:=
 OpenClaim.holds_of_wide 12 Tryz.f12 rfl rfl rfl rfl rfl rfl rfl ⟨rfl,rfl,rfl,rfl,rfl⟩ rfl rfl rfl rfl rfl abi Tryz.func12 abh abg abn
  (fun os started H enc _=>ajN os started H enc)
#print axioms mergeMatchesReference_holds
end Go.Proofs.YtnnppcoplinajaaGreat
