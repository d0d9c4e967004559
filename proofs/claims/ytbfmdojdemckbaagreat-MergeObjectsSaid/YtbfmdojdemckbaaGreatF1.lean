/- merger.fields. -/
import Derived.Test.YtbfmdojdemckbaaGreatT2
namespace Go.Proofs.YtbfmdojdemckbaaGreat
open _root_.Bool renaming and_eq_true→cU,and_true→dB,not_false→ff,not_true→dP,or_eq_false_iff→ra
open _root_.List renaming append_nil→im,cons_append→cq,drop_succ_cons→gl,drop→aR,getElem?_cons_succ→jI,getElem?_cons_zero→fe,head?_cons→bN,length_append→dn,length_cons→aK,length_nil→aQ,length_take→pD,mem_of_mem_drop→ul,mem_of_mem_take→rg,nil_append→bT,take_succ_cons→eP,take→bA
open _root_.Nat renaming add_zero→cY,le_refl→bv,reduceAdd→bt,reduceBEq→ae,reduceLT→ar,reduceLeDiff→bR,zero_add→aM,zero_le→ix
open _root_.Option renaming bind_some→ak
open Go.Ag
theorem GS {b o t p:List ax} (h:rD b o t=some p):p=t∨p=o:=by
 unfold rD at h
 cases h1:o==b with
 |true=>rw [h1] at h;injection h with h;exact .inl h.symm
 |false=>
  rw [h1] at h
  cases h2:t==b||t==o with
  |true=>rw [h2] at h;injection h with h;exact .inr h.symm
  |false=>rw [h2] at h;cases h
theorem aid {b:List ax} {p:Nat} {x:ax} (h:x∈kJ b p):x∈b:=by
 unfold kJ at h
 cases hb:b[p]? with
 |none=>rw [hb] at h;cases h
 |some y=>
  rw [hb] at h
  simp only [List.mem_singleton] at h
  subst h
  exact List.mem_of_getElem? hb
theorem SE {b o t:List ax}: ∀ {l:List (Nat×Nat×Nat)} {i j k:Nat} {out r:List ax},kQ b o t l i j k out=some r→ ∀x∈r,x∈out∨x∈b∨x∈o∨x∈t
 | [],_,_,_,out,r,h,x,hx=>by injection h with h;subst h;exact .inl hx
 |(p,q,s)::l,i,j,k,out,r,h,x,hx=>by
  simp only [kQ] at h
  split at h
  ·cases h
  ·rename_i part hp
   rcases SE h x hx with h1|h1
   ·rcases List.mem_append.1 h1 with h1|h1
    ·rcases List.mem_append.1 h1 with h1|h1
     ·exact .inl h1
     ·rcases GS hp with rfl|rfl
      ·exact .inr (.inr (.inr (ul (rg h1))))
      ·exact .inr (.inr (.inl (ul (rg h1))))
    ·exact .inr (.inl (aid h1))
   ·exact .inr h1
theorem SD {b o t:List ax}: ∀ {l:List (Nat×Nat×Nat)} {i j k:Nat} {out r:List ax},nQ b.length o.length t.length i j k l→out.length≤i+j+k→i≤b.length+1→j≤o.length+1→k≤t.length+1→kQ b o t l i j k out=some r→r.length≤b.length+o.length+t.length+3
 | [],_,_,_,out,r,_,ho,hi,hj,hk,h=>by injection h with h;subst h;omega
 |(p,q,s)::l,i,j,k,out,r,hR,ho,hi,hj,hk,h=>by
  cases hR with
  |cons r1 r2 r3 r4 r5 r6 r7=>
  simp only [kQ] at h
  split at h
  ·cases h
  ·rename_i part hp
   have h1:=QI b p
   have h2:part.length≤(q-j)+(s-k):=by
    rcases GS hp with rfl|rfl
    ·rw [pD];omega
    ·rw [pD];omega
   exact SD r7 (by rw [dn,dn];omega) (by omega) (by omega) (by omega) h
theorem akA {b o t r:List ax} (h:mH b o t=some r):(∀x∈r,x∈b∨x∈o∨x∈t)∧r.length≤b.length+o.length+t.length+3:=by
 unfold mH at h
 cases hl:lI [b,o,t] with
 |true=>rw [hl] at h;cases h
 |false=>
  rw [hl] at h
  have h:kQ b o t (qx b o t) 0 0 0 []=some r:=h
  refine⟨fun x hx=>?_,SD (Gr b o t) (ix _) (ix _) (ix _) (ix _) h⟩
  rcases SE h x hx with h1|h1
  ·cases h1
  ·exact h1
theorem zT {x:ax}: ∀ {l:List cH} {K:List ax},x∈jC l K↔x∈K∨ ∃t∈l,t.1=x
 | [],K=>by simp [jC]
 |t::l,K=>by
  have ih:=zT (x:=x) (l:=l) (K:=iR t.1 K)
  have h1:jC (t::l) K=jC l (iR t.1 K):=rfl
  rw [h1,ih]
  have h2:x∈iR t.1 K↔x∈K∨x=t.1:=by
   unfold iR
   cases h:K.elem t.1 with
   |true=>
    have:=List.mem_of_elem_eq_true h
    simp only [cT]
    exact⟨.inl,fun h=>h.elim id fun e=>e▸this⟩
   |false=>simp
  rw [h2]
  simp only [List.mem_cons,exists_eq_or_imp]
  constructor
  ·rintro((h|h)|h)
   ·exact .inl h
   ·exact .inr (.inl h.symm)
   ·exact .inr (.inr h)
  ·rintro(h|h|h)
   ·exact .inl (.inl h)
   ·exact .inl (.inr h.symm)
   ·exact .inr h
theorem aic {x:ax} {b o t:List cH}:x∈kn b o t↔(∃u∈b,u.1=x)∨(∃u∈o,u.1=x)∨ ∃u∈t,u.1=x:=by
 unfold kn
 rw [zT,zT,zT]
 simp only [List.not_mem_nil,false_or,or_assoc]
theorem alh {k v:ax} {xs:List cH} {ys:List ax}:(∀t∈(kA k v xs ys).1,t∈xs∨t=(k,v))∧ ∀y∈(kA k v xs ys).2,y∈ys∨y=k:=by
 unfold kA
 cases v== [] with
 |true=>exact⟨fun _ h=>.inl h,fun _ h=>.inl h⟩
 |false=>
  cases decide (xs.length<60) with
  |true=>exact⟨fun _ h=>by simpa using h,fun _ h=>.inl h⟩
  |false=>
   cases ys.elem k with
   |true=>exact⟨fun _ h=>.inl h,fun _ h=>.inl h⟩
   |false=>exact⟨fun _ h=>.inl h,fun _ h=>by simpa using h⟩
theorem alj {V:ax→List ax} {k:ax} {st:List cH×List ax}:(∀t∈(pw V k st).1,t∈st.1∨t.1=k)∧ ∀y∈(pw V k st).2,y∈st.2∨y=k:=by
 unfold pw
 split
 ·rename_i a b c _
  have h:=alh (k:=k) (v:=(kN a b c).getD a) (xs:=st.1) (ys:=mL k a b c st.2)
  refine⟨fun t ht=>(h.1 t ht).imp id fun e=>by rw [e],fun y hy=>?_⟩
  rcases h.2 y hy with h2|h2
  ·unfold mL at h2
   cases hp:kN a b c with
   |some z=>rw [hp] at h2;exact .inl h2
   |none=>rw [hp] at h2;simpa using h2
  ·exact .inr h2
 ·exact⟨fun _ h=>.inl h,fun _ h=>.inl h⟩
theorem Tk {V:ax→List ax}: ∀ {ks:List ax} {st:List cH×List ax},(∀t∈(lA V ks st).1,t∈st.1∨t.1∈ks)∧ ∀y∈(lA V ks st).2,y∈st.2∨y∈ks
 | [],st=>⟨fun _ h=>.inl h,fun _ h=>.inl h⟩
 |k::ks,st=>by
  have ih:=Tk (V:=V) (ks:=ks) (st:=pw V k st)
  have h:=alj (V:=V) (k:=k) (st:=st)
  have e:lA V (k::ks) st=lA V ks (pw V k st):=rfl
  rw [e]
  refine⟨fun t ht=>?_,fun y hy=>?_⟩
  ·rcases ih.1 t ht with h1|h1
   ·exact(h.1 t h1).imp id fun e=>by simp [e]
   ·exact .inr (by simp [h1])
  ·rcases ih.2 y hy with h1|h1
   ·exact(h.2 y h1).imp id fun e=>by simp [e]
   ·exact .inr (by simp [h1])
theorem Tg {V:ax→List ax}: ∀ {ks:List ax} {st:List cH×List ax},st.1.length≤60→(lA V ks st).1.length≤60∧(lA V ks st).2.length≤st.2.length+2*ks.length
 | [],st,h=>⟨h,bv _⟩
 |k::ks,st,h=>by
  have h1:=ali (V:=V) (k:=k) h
  have ih:=Tg (V:=V) (ks:=ks) h1.1
  have e:lA V (k::ks) st=lA V ks (pw V k st):=rfl
  rw [e,aK]
  exact⟨ih.1,by omega⟩
theorem Tn {b o t:List cH}:(∀u∈(jp b o t).1,u.1∈kn b o t)∧(∀y∈(jp b o t).2,y∈kn b o t):=by
 have h:=Tk (V:=x5 b o t) (ks:=fq (kn b o t)) (st:=([],[]))
 have hp:=l5 (kn b o t)
 refine⟨fun u hu=>?_,fun y hy=>?_⟩
 ·rcases h.1 u hu with h1|h1
  ·cases h1
  ·exact hp.mem_iff.1 h1
 ·rcases h.2 y hy with h1|h1
  ·cases h1
  ·exact hp.mem_iff.1 h1
theorem FJ (b o t:List cH):(jp b o t).1.length≤60∧(jp b o t).2.length≤2*(b.length+o.length+t.length):=by
 have h:=Tg (V:=x5 b o t) (ks:=fq (kn b o t)) (st:=([],[])) (ix _)
 have h1:=(l5 (kn b o t)).length_eq
 have h2:=td b []
 have h3:=td o (jC b [])
 have h4:=td t (jC o (jC b []))
 simp only [aQ] at h2 h
 have h5:(kn b o t).length=(jC t (jC o (jC b []))).length:=rfl
 exact⟨h.1,by have:=h.2;show(lA _ _ _).2.length≤_;omega⟩
def sK (o:Obj) (r:List ax):Obj:=⟨o.id,o.kind,o.x,o.y,fS 1 (r.map bp),o.tagsV,r,o.tags⟩
def x7 (o:Obj) (p:Int×Int):Obj:=⟨o.id,o.kind,p.1,p.2,o.refsV,o.tagsV,o.refs,o.tags⟩
def Tx (o:Obj) (l:List cH):Obj:=⟨o.id,o.kind,o.x,o.y,o.refsV,fS 2 (l.map ek),o.refs,l⟩
def lq (b o t:Obj):Option (List ax):=match mH b.refs o.refs t.refs with
 |some r=>bif iB (sK b r) then some r else none
 |none=>none
def nu (b o t:Obj):Obj:=match lq b o t with
 |some r=>sK b r
 |none=>b
def vK (b o t:Obj):Int×Int:=pk (b.x,b.y) (o.x,o.y) (t.x,t.y)
def tu (b o t:Obj):Obj:=Tx (x7 (nu b o t) (vK b o t)) (jp b.tags o.tags t.tags).1
def sw:ax:=[114,101,102,115]
def AA:ax:=[97,116]
def lu (k:ax):ax:=[116,97,103,32]++k
def jP (b o t:Obj) (C:List Cf):List Cf:=match lq b o t with
 |some _=>C
 |none=>dC (b.id,sw) C
def lK (b o t:Obj) (C:List Cf):List Cf:=bif p9 (b.x,b.y) (o.x,o.y) (t.x,t.y) then dC (b.id,AA) C else C
def lw (id:ax) (ks:List ax) (C:List Cf):List Cf:=ks.foldl (fun C k=>dC (id,lu k) C) C
def oV (b o t:Obj) (C:List Cf):List Cf:=lw b.id (jp b.tags o.tags t.tags).2 (lK b o t (jP b o t C))
theorem vw {n:Nat} {α:Type} {enc:α→ai} (l:List α):bu n enc (fS n (l.map enc)) l:=by
 cases l with
 |nil=>exact .inl ⟨rfl,rfl⟩
 |cons a l=>exact .inr ⟨_,rfl⟩
theorem ajL: ∀l:List ax,bM (fS 1 (l.map bp))=true
 | []=>rfl
 |a::l=>by
  show(pures ((a::l).map bp)&&true)=true
  rw [Fb];rfl
theorem R6: ∀l:List cH,pures (l.map ek)=true
 | []=>rfl
 |a::l=>by
  show(bM (ek a)&&pures (l.map ek))=true
  rw [R6 l];rfl
theorem ajM: ∀l:List cH,bM (fS 2 (l.map ek))=true
 | []=>rfl
 |a::l=>by
  show(pures ((a::l).map ek)&&true)=true
  rw [R6];rfl
theorem alS {b:Obj} (hb:b.Good) {r:List ax} (h1:r.length<small) (h2: ∀x∈r,x.length<small):(sK b r).Good:=
 {refs:=vw r,tags:=hb.tags,id:=hb.id,reflen:=h1,ref:=h2,taglen:=hb.taglen,key:=hb.key,pr:=ajL r,pt:=hb.pt }
theorem SF {b o t:Obj} (gb:b.Good) (go:o.Good) (gt:t.Good) {r:List ax} (h:mH b.refs o.refs t.refs=some r):(sK b r).Good:=by
 obtain⟨h1,h2⟩:=akA h
 have hl:lI [b.refs,o.refs,t.refs]=false:=by
  cases hl:lI [b.refs,o.refs,t.refs] with
  |false=>rfl
  |true=>simp only [mH,hl,cT] at h;cases h
 simp only [lI,Bool.or_false,ra,nm] at hl
 have l1:=of_decide_eq_false hl.1
 have l2:=of_decide_eq_false hl.2.1
 have l3:=of_decide_eq_false hl.2.2
 have hsm:small=9223372036854775808:=rfl
 refine alS gb (by omega) fun x hx=>?_
 rcases h1 x hx with h|h|h
 ·exact gb.ref x h
 ·exact go.ref x h
 ·exact gt.ref x h
structure Fs (s0 s:St) (x mb mo mt mu md:Nat) (C:List Cf) (cs:List ai):Prop where
 row:s.get [] s0.next=some (.cells cs)
 hx:s.get [] x=some (.cells [.map mb,.map mo,.map mt,.map mu,.map md])
 hd:s.get [] md=some (.map (eG 0 C) C.length)
 old: ∀n,n<s0.next→n≠md→s.get [] n=s0.get [] n
 next:s.next=s0.next+1
 minw:s.minw≤s.next
 ci:s.ci=s0.ci
 lt:md<s0.next∧x<s0.next∧x≠md
section
variable {s0 s:St} {x mb mo mt mu md:Nat} {C:List Cf} {cs:List ai}
theorem Fs.put (f:Fs s0 s x mb mo mt mu md C cs) {s':St} {cs':List ai} (hg: ∀n,s'.get [] n=(s.put s0.next (some (.cells cs'))).get [] n) (hn:s'.next=s.next) (hm:s'.minw≤s'.next) (hc:s'.ci=s.ci):Fs s0 s' x mb mo mt mu md C cs':=by
 obtain⟨l1,l2,l3⟩:=f.lt
 refine⟨by rw [hg,cD,bS];rfl,?_,?_,fun n h1 h2=>?_,hn.trans f.next,hm,hc.trans f.ci,f.lt⟩
 ·rw [hg,cD,beq_eq_false_iff_ne.2 (by omega)];exact f.hx
 ·rw [hg,cD,beq_eq_false_iff_ne.2 (by omega)];exact f.hd
 ·rw [hg,cD,beq_eq_false_iff_ne.2 (by omega)];exact f.old n h1 h2
theorem Fs.note (f:Fs s0 s x mb mo mt mu md C cs) (c:Cf) {s':St} (hg: ∀n,s'.get [] n=(s.put md (some (.map (eG 0 (dC c C)) (dC c C).length))).get [] n) (hn:s'.next=s.next) (hm:s'.minw≤s'.next) (hc:s'.ci=s.ci):Fs s0 s' x mb mo mt mu md (dC c C) cs:=by
 obtain⟨l1,l2,l3⟩:=f.lt
 refine⟨?_,?_,by rw [hg,cD,bS];rfl,fun n h1 h2=>?_,hn.trans f.next,hm,hc.trans f.ci,f.lt⟩
 ·rw [hg,cD,beq_eq_false_iff_ne.2 (by omega)];exact f.row
 ·rw [hg,cD,beq_eq_false_iff_ne.2 (by omega)];exact f.hx
 ·rw [hg,cD,beq_eq_false_iff_ne.2 h2];exact f.old n h1 h2
theorem Fs.obj (f:Fs s0 s x mb mo mt mu md C cs) {C0:List Cf} (h0:s0.get [] md=some (.map (eG 0 C0) C0.length)) {p:Nat} (hp:p<s0.next) {l:List ai} (h:s0.get [] p=some (.cells l)):s.get [] p=some (.cells l):=by
 have:p≠md:=fun e=>by subst e;rw [h0] at h;cases h
 rw [f.old p hp this];exact h
end
section
variable {sp:FuncId→Option (List ai→Option ai)} {ch:Nat→Nat}
theorem Xs (h74:sp 74=some sD) (h36:sp 36=some qU) (h45:sp 45=none) {s0 s:St} {x mb mo mt mu md pb po pt:Nat} {C:List Cf} {b o t:Obj} (f:Fs s0 s x mb mo mt mu md C b.cells) (ob:s.get [] pb=some (.cells b.cells)) (oo:s.get [] po=some (.cells o.cells)) (ot:s.get [] pt=some (.cells t.cells)) (gb:b.Good) (go:o.Good) (gt:t.Good) (hpb:pb<s0.next∧pb≠md)
 {e:bc} {lc:Ag.Loc} {REST:SC} {P:Ex→Fr→St→Prop} (h0:aq e 0= .ptr x 0) (h1:aq e 1= .ptr pb 0) (h2:aq e 2= .ptr po 0) (h3:aq e 3= .ptr pt 0) (h9:aq e 9= .ptr s0.next 0)
 (hk: ∀(e':bc) (s':St),aq e' 0= .ptr x 0→aq e' 1= .ptr pb 0→aq e' 2= .ptr po 0→aq e' 3= .ptr pt 0→aq e' 9= .ptr s0.next 0→Fs s0 s' x mb mo mt mu md (jP b o t C) (nu b o t).cells→W (QM sp ch) 44 REST ⟨e',107,lc⟩ s' P):
 W (QM sp ch) 44 (.seq (.draw DE NB) (.seq (.region zm) (.seq (.seq (.region zn) (.cond (Operand.tmp 43) (.seq (.region zo) (.region zp)) .skip)) REST))) ⟨e,107,lc⟩ s P:=by
 have hseq:=akB gb.refs go.refs gt.refs gb.pr go.pr gt.pr
 have cb:=gb.refs.clean
 have co:=go.refs.clean
 have ct:=gt.refs.clean
 have ob':s.get [] pb=some (.cells [.str b.id,.int .i64 b.kind,.int .i64 b.x,.int .i64 b.y,b.refsV,b.tagsV]):=ob
 have oo':s.get [] po=some (.cells [.str o.id,.int .i64 o.kind,.int .i64 o.x,.int .i64 o.y,o.refsV,o.tagsV]):=oo
 have ot':s.get [] pt=some (.cells [.str t.id,.int .i64 t.kind,.int .i64 t.x,.int .i64 t.y,t.refsV,t.tagsV]):=ot
 have hrow:s.get [] s0.next=some (.cells [.str b.id,.int .i64 b.kind,.int .i64 b.x,.int .i64 b.y,b.refsV,b.tagsV]):=f.row
 have bad: ∀(e1:bc) (rv:ai) (s1:St),lq b o t=none→Fs s0 s1 x mb mo mt mu md C [.str b.id,.int .i64 b.kind,.int .i64 b.x,.int .i64 b.y,rv,b.tagsV]→aq e1 0= .ptr x 0→aq e1 1= .ptr pb 0→aq e1 2= .ptr po 0→aq e1 3= .ptr pt 0→aq e1 9= .ptr s0.next 0→
  W (QM sp ch) 44 (.seq (.region zo) (.region zp)) ⟨e1,107,lc⟩ s1 fun y fr s'=>Ex.next P (fun fr s=>W (QM sp ch) 44 REST fr s P) y fr s':=by
  intro e1 rv s1 hno f1 g0 g1 g2 g3 g9
  have hb1:s1.get [] pb=some (.cells [.str b.id,.int .i64 b.kind,.int .i64 b.x,.int .i64 b.y,b.refsV,b.tagsV]):=((f1.old pb hpb.1 hpb.2).trans (f.old pb hpb.1 hpb.2).symm).trans ob
  have hnote:=xD (sp:=sp) (ch:=ch) h45 f1.hx f1.hd b.id sw
  refine W.seq (W.region (fD 5 ?_))
  unfold zo
  simp only [az,aA,aB,ah,aE,bf,b7,fI,aj,aw,ak,cT,cF,bD,bA,aR,bN,bS,tA,cY,ae,ar,qD,dD,g0,g1,fG,dl,hb1,dj]
  refine fQ (g:=45) (args:=[.ptr x 0,.str b.id,.str sw]) ?_ hnote (by decide) ?_
  ·simp only [callee,ah,aj,aI,eH,aC,be,bh,hQ,ak,cu,dM,cT,cF,bT,cq,bS,ae]
   rfl
  refine fP ?_
  obtain⟨s2,hs2⟩: ∃a,a=s1.put md (some (.map (eG 0 (dC (b.id,sw) C)) (dC (b.id,sw) C).length)):=⟨_,rfl⟩
  rw [←hs2]
  have f2:Fs s0 s2 x mb mo mt mu md (dC (b.id,sw) C) _:=f1.note (b.id,sw) (fun n=>by rw [hs2]) (by rw [hs2];rfl) (by rw [hs2];exact ju _ _ _ f1.minw) (by rw [hs2];rfl)
  have hb2:s2.get [] pb=some (.cells [.str b.id,.int .i64 b.kind,.int .i64 b.x,.int .i64 b.y,b.refsV,b.tagsV]):=((f2.old pb hpb.1 hpb.2).trans (f.old pb hpb.1 hpb.2).symm).trans ob
  have hr2:=f2.row
  have cell:b.refsV.cells=[b.refsV]:=by rcases gb.refs with⟨h,_⟩|⟨r,h⟩<;>rw [h]<;>rfl
  simp only [az,aN]
  refine W.reg ?_
  unfold zp
  simp only [az,aA,dH,aB,dI,ah,aE,bf,dJ,b7,fI,aj,aC,aw,ak,cT,cF,bD,aK,aQ,cI,bA,aR,bN,gl,bT,cq,bS,tA,aM,ae,ar,bt,bR,dB,aU,cP,bQ,dT,lP,iE,xX,cb,cell,g1,g9,fG,dl,hb2,hr2,dj,j7,j6,aN]
  refine hk _ _ ?_ ?_ ?_ ?_ ?_ ?_
  ·simp only [ah,ae,cF,g0]
  ·simp only [ah,ae,cF,g1]
  ·simp only [ah,ae,cF,g2]
  ·simp only [ah,ae,cF,g3]
  ·simp only [ah,ae,cF,g9]
  ·have e1:jP b o t C=dC (b.id,sw) C:=by simp only [jP,hno]
   have e2:nu b o t=b:=by simp only [nu,hno]
   rw [e1,e2]
   exact f2.put (fun n=>rfl) rfl (ju _ _ _ f2.minw) rfl
 refine W.sdrawQ f.minw ?_
 unfold DE
 rcases aj6 (mH b.refs o.refs t.refs) with⟨r,hr,hres,hrl⟩|⟨hr,hres⟩
 ·rw [hres] at hseq
  have crl:=hrl.clean
  have cell:(fS 1 (r.map bp)).cells=[fS 1 (r.map bp)]:=by cases r<;>rfl
  have gw:=SF gb go gt hr
  have hobj:=RI gw
  simp only [Obj.val,Obj.cells] at hobj
  simp only [sK] at hobj
  simp only [fh,fg,fu,isStore,ah,aE,aJ,bf,b7,fI,ii,dc,db,aj,aC,be,bh,aw,ak,cT,cF,bD,qu,aR,bN,bS,tA,aM,ae,ar,lP,iE,h1,h2,h3,cb,co,ct,fG,dl,rP,ob',oo',ot',dj,h74,hseq,gu,fe,jI]
  refine W.sreg ?_
  unfold zm
  simp only [az,aA,dH,aB,dI,ah,aE,dJ,b7,aj,aC,aw,ak,cT,cF,bD,aK,aQ,cI,bA,aR,gl,bT,cq,bS,tA,aM,ae,ar,bt,bR,dB,aU,cP,bQ,dT,lP,xX,h9,crl,cell,hrow,j7,j6]
  obtain⟨s1,hs1⟩: ∃a,a=s.put s0.next (some (.cells [.str b.id,.int .i64 b.kind,.int .i64 b.x,.int .i64 b.y,fS 1 (r.map bp),b.tagsV])):=⟨_,rfl⟩
  rw [←hs1]
  have f1:Fs s0 s1 x mb mo mt mu md C [.str b.id,.int .i64 b.kind,.int .i64 b.x,.int .i64 b.y,fS 1 (r.map bp),b.tagsV]:=f.put (fun n=>by rw [hs1]) (by rw [hs1];rfl) (by rw [hs1];exact ju _ _ _ f.minw) (by rw [hs1];rfl)
  have hr1:=f1.row
  refine W.seq (W.seq (W.reg ?_))
  unfold zn
  simp only [az,aA,cJ,aB,dz,e7,ah,aE,cw,bf,eW,dc,db,aj,aI,aC,be,bh,bJ,cx,dv,aw,eZ,ak,ei,bZ,cT,cF,bD,qu,aK,aQ,cut,bA,aR,eP,dP,bS,tA,aM,ae,ar,bt,aU,l0,h9,dl,hr1,dj,h36,hobj,aN]
  cases hv:iB (sK b r) with
  |true=>
   have hv':iB ⟨b.id,b.kind,b.x,b.y,fS 1 (r.map bp),b.tagsV,r,b.tags⟩=true:=hv
   have hM:lq b o t=some r:=by simp only [lq,hr,hv,cT]
   refine W.cond (t:=false) (by simp only [aj,ah,ae,cT,cF,hv',dP]) (W.skip ?_)
   simp only [aN]
   refine hk _ _ ?_ ?_ ?_ ?_ ?_ ?_
   ·simp only [ah,ae,cF,h0]
   ·simp only [ah,ae,cF,h1]
   ·simp only [ah,ae,cF,h2]
   ·simp only [ah,ae,cF,h3]
   ·simp only [ah,ae,cF,h9]
   ·have e1:jP b o t C=C:=by simp only [jP,hM]
    have e2:nu b o t=sK b r:=by simp only [nu,hM]
    rw [e1,e2]
    exact f1
  |false=>
   have hv':iB ⟨b.id,b.kind,b.x,b.y,fS 1 (r.map bp),b.tagsV,r,b.tags⟩=false:=hv
   have hM:lq b o t=none:=by simp only [lq,hr,hv,cF]
   refine W.cond (t:=true) (by simp only [aj,ah,ae,cT,cF,hv',ff]) ?_
   refine bad _ _ s1 hM f1 ?_ ?_ ?_ ?_ ?_
   ·simp only [ah,ae,cF,h0]
   ·simp only [ah,ae,cF,h1]
   ·simp only [ah,ae,cF,h2]
   ·simp only [ah,ae,cF,h3]
   ·simp only [ah,ae,cF,h9]
 ·rw [hres] at hseq
  have hM:lq b o t=none:=by simp only [lq,hr]
  simp only [fh,fg,fu,isStore,ah,aE,aJ,bf,b7,fI,ii,dc,db,aj,aC,be,bh,aw,ak,cT,cF,bD,qu,aR,bN,bS,tA,aM,ae,ar,lP,iE,h1,h2,h3,cb,co,ct,fG,dl,rP,ob',oo',ot',dj,h74,hseq,gu,fe,jI]
  refine W.sreg ?_
  unfold zm
  simp only [az,aA,dH,aB,dI,ah,aE,dJ,b7,aj,aC,aw,ak,uF,cT,cF,bD,aK,aQ,cI,bA,aR,gl,bT,cq,bS,tA,aM,ae,ar,bt,bR,dB,aU,cP,bQ,dT,lP,xX,h9,wG,hrow,j7,j6]
  obtain⟨s1,hs1⟩: ∃a,a=s.put s0.next (some (.cells [.str b.id,.int .i64 b.kind,.int .i64 b.x,.int .i64 b.y,.nils,b.tagsV])):=⟨_,rfl⟩
  rw [←hs1]
  have f1:Fs s0 s1 x mb mo mt mu md C [.str b.id,.int .i64 b.kind,.int .i64 b.x,.int .i64 b.y,.nils,b.tagsV]:=f.put (fun n=>by rw [hs1]) (by rw [hs1];rfl) (by rw [hs1];exact ju _ _ _ f.minw) (by rw [hs1];rfl)
  refine W.seq (W.seq (W.reg ?_))
  unfold zn
  simp only [az,aA,cJ,aB,ee,iG,ah,aE,cw,eW,aj,aI,aC,bJ,cx,dy,aw,eZ,ak,ei,cT,cF,ff,bS,tA,ae,ar,aN]
  refine W.cond (t:=true) (by simp only [aj,ah,ae,cT,cF]) ?_
  refine bad _ _ s1 hM f1 ?_ ?_ ?_ ?_ ?_
  ·simp only [ah,ae,cF,h0]
  ·simp only [ah,ae,cF,h1]
  ·simp only [ah,ae,cF,h2]
  ·simp only [ah,ae,cF,h3]
  ·simp only [ah,ae,cF,h9]
end
section
variable {sp:FuncId→Option (List ai→Option ai)} {ch:Nat→Nat}
theorem Xr (h75:sp 75=none) (h118:sp 118=some sg) (h45:sp 45=none) {s0 s:St} {x mb mo mt mu md pb po pt:Nat} {C:List Cf} {b o t q:Obj} (f:Fs s0 s x mb mo mt mu md C q.cells) (ob:s.get [] pb=some (.cells b.cells)) (oo:s.get [] po=some (.cells o.cells)) (ot:s.get [] pt=some (.cells t.cells))
 {e:bc} {lc:Ag.Loc} {REST:SC} {P:Ex→Fr→St→Prop} (h0:aq e 0= .ptr x 0) (h1:aq e 1= .ptr pb 0) (h2:aq e 2= .ptr po 0) (h3:aq e 3= .ptr pt 0) (h9:aq e 9= .ptr s0.next 0)
 (hk: ∀(e':bc) (s':St),aq e' 0= .ptr x 0→aq e' 1= .ptr pb 0→aq e' 2= .ptr po 0→aq e' 3= .ptr pt 0→aq e' 9= .ptr s0.next 0→Fs s0 s' x mb mo mt mu md (lK b o t C) (x7 q (vK b o t)).cells→W (QM sp ch) 44 REST ⟨e',107,lc⟩ s' P):
 W (QM sp ch) 44 (.seq (.draw vd NC) REST) ⟨e,107,lc⟩ s P:=by
 have ob':s.get [] pb=some (.cells [.str b.id,.int .i64 b.kind,.int .i64 b.x,.int .i64 b.y,b.refsV,b.tagsV]):=ob
 have oo':s.get [] po=some (.cells [.str o.id,.int .i64 o.kind,.int .i64 o.x,.int .i64 o.y,o.refsV,o.tagsV]):=oo
 have ot':s.get [] pt=some (.cells [.str t.id,.int .i64 t.kind,.int .i64 t.x,.int .i64 t.y,t.refsV,t.tagsV]):=ot
 have hcall: ∃s1,br (QM sp ch) 75 [.ptr x 0,.str b.id,gI (b.x,b.y),gI (o.x,o.y),gI (t.x,t.y)] s.top (gI (vK b o t)) s1∧s1.next=s.next∧s1.ci=s.ci∧s1.minw≤s1.next∧Fs s0 (s.least s1) x mb mo mt mu md (lK b o t C) q.cells:=by
  cases hbad:p9 (b.x,b.y) (o.x,o.y) (t.x,t.y) with
  |false=>
   refine⟨s.top,ajF h75 (b.x,b.y) (o.x,o.y) (t.x,t.y) hbad s.top,rfl,rfl,bv _,?_⟩
   rw [lU f.minw]
   simp only [lK,hbad,cF]
   exact f
  |true=>
   have hx:s.top.get [] x=some (.cells [.map mb,.map mo,.map mt,.map mu,.map md]):=f.hx
   have hd:s.top.get [] md=some (.map (eG 0 C) C.length):=f.hd
   refine⟨_,ajE h75 h45 h118 hx hd (b.x,b.y) (o.x,o.y) (t.x,t.y) hbad,rfl,rfl,ju _ _ _ (bv _),?_⟩
   simp only [lK,hbad,cT]
   exact f.note (b.id,AA) (fun n=>rfl) rfl (Et f.minw rfl) rfl
 obtain⟨s1,hrun,n1,c1,m1,f1⟩:=hcall
 obtain⟨sL,hsL⟩: ∃a,a=s.least s1:=⟨_,rfl⟩
 have hrow:sL.top.get [] s0.next=some (.cells [.str q.id,.int .i64 q.kind,.int .i64 q.x,.int .i64 q.y,q.refsV,q.tagsV]):=by rw [hsL];exact f1.row
 rw [show vd=vd.take 17++vd.drop 17 from(List.take_append_drop 17 _).symm]
 refine W.seq (W.drawD (WD.calmOps f.minw (fun _ h=>by cases h) (fun _ h=>by cases h) ?_))
 unfold vd
 simp only [fh,fg,fu,isStore,ah,aE,bf,b7,fI,aj,aw,ak,cT,cF,bD,aK,aQ,cut,bA,aR,bN,eP,bS,tA,aM,cY,ae,ar,bt,aU,qD,uS,dD,jb,h0,h1,h2,h3,fG,dl,rP,ob',oo',ot',dj]
 intro rs1 hc1 hi1
 refine WD.loudCall (g:=75) (args:=[.ptr x 0,.str b.id,gI (b.x,b.y),gI (o.x,o.y),gI (t.x,t.y)]) (Vn hc1 hi1) (by decide) ?_ hrun n1 c1 (by decide) (fun rs2 k2=>?_)
 ·simp only [callee,ah,aj,eH,aC,be,bh,ak,cu,bZ,dM,cT,cF,bT,cq,bS,ae]
  rfl
 rw [←hsL] at f1 ⊢
 refine WD.fullL (v:=.ptr s0.next 2) (lc:=lc) (s1:=sL.top) (fr1:=⟨_,107,lc⟩) (fun r hr=>(k2 r hr).1) (by decide) rfl ?_ rfl (ij.2 ⟨by decide,rfl⟩) (fun rs3 k3=>?_)
 ·simp only [ah,b7,aj,aw,ak,cF,bD,aM,ae,uS,h9]
 rw [lU f1.minw]
 refine WD.fullL (v:=gX) (lc:=lc) (s1:=sL.top.put s0.next (some (.cells (x7 q (vK b o t)).cells))) (fr1:=⟨_,107,lc⟩) k3 (by decide) rfl ?_ rfl rfl (fun rs5 k5=>?_)
 ·simp only [ah,dJ,aj,aC,di,ak,bZ,cT,cF,bD,aK,aQ,cI,bA,aR,gl,bT,cq,bS,aM,ae,ar,bt,bR,dB,aU,cP,bQ,dT,q8,j7,hrow,j6,gI]
  rfl
 refine WD.nil ?_
 simp only [aN]
 refine hk _ _ ?_ ?_ ?_ ?_ ?_ (f1.put (fun n=>rfl) rfl (Et f1.minw rfl) rfl)
 ·simp only [ah,ae,cF,h0]
 ·simp only [ah,ae,cF,h1]
 ·simp only [ah,ae,cF,h2]
 ·simp only [ah,ae,cF,h3]
 ·simp only [ah,ae,cF,h9]
end
theorem Uq (a b:List UInt8):fR Tryz.prog .add 9 (.str a) (.str b)=bif Nat.ble (a.length+b.length) 1073741824 then some (.str (a++b)) else none:=by kernel_rfl
theorem Ur {k:ax} (h:k.length≤24):fR Tryz.prog .add 9 (.str [116,97,103,32]) (.str k)=some (.str (lu k)):=by
 have h1:Nat.ble ([116,97,103,32]++k:ax).length 1073741824=true:=Nat.ble_eq_true_of_le (by rw [dn];show 4+k.length≤_;omega)
 rw [Uq,←dn,h1];rfl
theorem RB {k:ax} (h:jF k=true):k.length≤24:=by
 unfold jF at h
 split at h
 ·cases h
 ·simp only [cU] at h
  exact Nat.le_of_ble_eq_true h.2
theorem Tq: ∀ {l:List cH} {last:ax},pz last l=true→ ∀t∈l,jF t.1=true
 | [],_,_,_,h=>by cases h
 |a::l,last,h,t,ht=>by
  simp only [pz] at h
  cases hb:mJ last a with
  |true=>rw [hb] at h;cases h
  |false=>
   rw [hb] at h
   rcases List.mem_cons.1 ht with rfl|ht
   ·simp only [mJ,ra,Bool.not_eq_false'] at hb
    exact hb.1.1.1
   ·exact Tq h t ht
theorem FI {l:List cH} (h:iv l=true): ∀t∈l,jF t.1=true:=by
 simp only [iv,cU] at h
 exact Tq h.1
theorem Tp {b o t:List cH} (vb:iv b=true) (vo:iv o=true) (vt:iv t=true): ∀k∈kn b o t,jF k=true:=by
 intro k hk
 rcases aic.1 hk with⟨u,hu,rfl⟩|⟨u,hu,rfl⟩|⟨u,hu,rfl⟩
 ·exact FI vb u hu
 ·exact FI vo u hu
 ·exact FI vt u hu
section
variable {sp:FuncId→Option (List ai→Option ai)} {ch:Nat→Nat}
theorem ag7 (h45:sp 45=none) {s0:St} {x mb mo mt mu md pb:Nat} {cs:List ai} {b:Obj} (hpb:pb<s0.next∧pb≠md) (ob:s0.get [] pb=some (.cells b.cells)) {v:ai} {ks:List ax} (hv:bu 1 bp v ks) (hks:ks.length≤1000000) (hkl: ∀k∈ks,k.length≤24): ∀(rest pre:List ax) (e:bc) (lc:Ag.Loc) (s:St) (C:List Cf),ks=pre++rest→Fs s0 s x mb mo mt mu md C cs→
 aq e 0= .ptr x 0→aq e 1= .ptr pb 0→aq e 9= .ptr s0.next 0→aq e 92=v→aq e 93= .int .i64 (ks.length:Nat)→aq e 94= .int .i64 (pre.length:Nat)→
 W (QM sp ch) 44 (.loop zl) ⟨e,107,lc⟩ s fun y fr s'=>y= .exit 0∧ ∃e' lc',fr=⟨e',107,lc'⟩∧aq e' 9= .ptr s0.next 0∧Fs s0 s' x mb mo mt mu md (lw b.id rest C) cs:=by
 have hcl:=hv.clean
 intro rest
 induction rest with
 |nil=>
  intro pre e lc s C hpre f h0 h1 h9 h92 h93 h94
  have hl:ks.length=pre.length:=by rw [hpre];simp
  refine W.loop1 ?_
  unfold zl
  refine W.sreg ?_
  unfold DD
  simp only [az,aA,aB,aW,aj,aC,aw,cQ,ak,aZ,cT,bD,cZ,tA,ar,decide_false,h93,h94,hl,Nat.lt_irrefl]
  refine W.seq (W.cond (t:=false) (by simp only [aj,ah,ae,cT]) ?_)
  refine W.exit ⟨rfl,_,_,rfl,?_,f⟩
  simp only [ah,ae,cF,h9]
 |cons k rest ih=>
  intro pre e lc s C hpre f h0 h1 h9 h92 h93 h94
  have hlt:pre.length<ks.length:=by rw [hpre];simp
  have hat:ks[pre.length]? =some k:=by rw [hpre];simp
  have hia:=fun lc=>hv.at mp hat lc .i64
  have hwr:IntKind.i64.wrap ((pre.length:Int)+1)=((pre.length+1:Nat):Int):=by rw [eC (by omega) (by omega)];omega
  have ob':s.get [] pb=some (.cells [.str b.id,.int .i64 b.kind,.int .i64 b.x,.int .i64 b.y,b.refsV,b.tagsV]):=(f.old pb hpb.1 hpb.2).trans ob
  have hnote:=xD (sp:=sp) (ch:=ch) h45 f.hx f.hd b.id (lu k)
  have hadd:=Ur (hkl k (by rw [hpre];simp))
  refine W.loop1 ?_
  unfold zl
  refine W.sreg ?_
  unfold DD
  simp only [az,aA,aB,aW,aj,aC,aw,cQ,ak,aZ,cT,bD,cZ,tA,ar,dT,h93,h94,hlt]
  refine W.seq (W.cond (t:=true) (by simp only [aj,ah,ae,cT]) (W.skip ?_))
  simp only [aN]
  refine W.seq (W.block (W.sreg ?_))
  unfold NH
  simp only [az,aA,aB,ah,aJ,bf,ec,aj,eI,aw,kF,ak,cT,cF,bD,aR,bN,bS,tA,ae,ar,dD,h92,h94,hia,bp,eI]
  refine W.region (fD 7 ?_)
  unfold NI
  simp only [az,aA,aB,ah,aE,bf,aW,b7,fI,aj,aI,aC,hQ,aw,ak,cu,cT,cF,bD,bA,aR,bN,bS,tA,cY,ae,ar,qD,dD,h0,h1,fG,dl,ob',dj,hadd]
  refine fQ (g:=45) (args:=[.ptr x 0,.str b.id,.str (lu k)]) ?_ hnote (by decide) ?_
  ·simp only [callee,ah,aj,eH,aC,be,bh,ak,cu,dM,cT,cF,bT,cq,bS,ae]
  refine fP ?_
  obtain⟨s2,hs2⟩: ∃a,a=s.put md (some (.map (eG 0 (dC (b.id,lu k) C)) (dC (b.id,lu k) C).length)):=⟨_,rfl⟩
  rw [←hs2]
  have f2:Fs s0 s2 x mb mo mt mu md (dC (b.id,lu k) C) cs:=f.note (b.id,lu k) (fun n=>by rw [hs2]) (by rw [hs2];rfl) (by rw [hs2];exact ju _ _ _ f.minw) (by rw [hs2];rfl)
  simp only [az,dS,aN]
  refine W.reg ?_
  unfold NJ
  simp only [az,aA,aB,ah,aE,aW,aj,aI,aC,bo,aw,d8,ak,aZ,cT,cF,bD,bS,tA,ae,ar,h94,hwr,aN]
  refine ih (pre++[k]) _ _ s2 _ (by rw [hpre];simp) f2 ?_ ?_ ?_ ?_ ?_ ?_
  ·simp only [ah,ae,cF,h0]
  ·simp only [ah,ae,cF,h1]
  ·simp only [ah,ae,cF,h9]
  ·simp only [ah,ae,cF,h92]
  ·simp only [ah,ae,cF,h93]
  ·simp only [ah,ae,cT,cF,dn,aK,aQ]
theorem Xf (h44:sp 44=none) (h74:sp 74=some sD) (h36:sp 36=some qU) (h45:sp 45=none) (h75:sp 75=none) (h118:sp 118=some sg) (h76:sp 76=some t8) {s0:St} {x mb mo mt mu md pb po pt:Nat} {C:List Cf} {b o t:Obj}
 (hx:s0.get [] x=some (.cells [.map mb,.map mo,.map mt,.map mu,.map md])) (hd:s0.get [] md=some (.map (eG 0 C) C.length)) (hlt:x<s0.next∧md<s0.next) (hm:s0.minw≤s0.next) (ob:s0.get [] pb=some (.cells b.cells)) (oo:s0.get [] po=some (.cells o.cells)) (ot:s0.get [] pt=some (.cells t.cells)) (gb:b.Good) (go:o.Good) (gt:t.Good)
 (hp:pb<s0.next∧po<s0.next∧pt<s0.next) (vb:iv b.tags=true) (vo:iv o.tags=true) (vt:iv t.tags=true):
 ∃s',br (QM sp ch) 44 [.ptr x 0,.ptr pb 0,.ptr po 0,.ptr pt 0] s0 (.ptr s0.next 0) s'∧Fs s0 s' x mb mo mt mu md (oV b o t C) (tu b o t).cells:=by
 have hxd:x≠md:=fun e=>by subst e;rw [hx] at hd;cases hd
 have hne: ∀ {p:Nat} {l:List ai},s0.get [] p=some (.cells l)→p≠md:=fun h e=>by subst e;rw [hd] at h;cases h
 have ob':s0.get [] pb=some (.cells [.str b.id,.int .i64 b.kind,.int .i64 b.x,.int .i64 b.y,b.refsV,b.tagsV]):=ob
 have crb:=gb.refs.clean
 have ctb:=gb.tags.clean
 have cell: ∀ {n:Nat} {α:Type} {enc:α→ai} {v:ai} {l:List α},bu n enc v l→v.cells=[v]:=fun h=>by rcases h with⟨rfl,_⟩|⟨r,rfl⟩<;>rfl
 have h: ∃v s',br (QM sp ch) 44 [.ptr x 0,.ptr pb 0,.ptr po 0,.ptr pt 0] s0 v s'∧(v= .ptr s0.next 0∧Fs s0 s' x mb mo mt mu md (oV b o t C) (tu b o t).cells):=by
  refine br.ofEx aeD aeC aeF aeE h44 ?_
  unfold NA
  refine W.sreg ?_
  unfold ND
  simp only [dg,cM,az,aA,aB,aJ,aI,aw,cT,aK,aQ,tA,aM,ar,bt,bR,bQ,dT,iC]
  refine W.sreg ?_
  unfold NF
  simp only [az,aA,dH,aB,dI,ah,aE,fH,bf,dJ,fI,aj,aC,iA,aw,bH,di,ak,bZ,cT,cF,bD,gp,aK,aQ,cut,cI,bA,aR,gl,eP,bT,im,bS,tA,aM,ae,ar,bt,bR,dB,aU,cP,bQ,dT,l0,nF,nG,Y5,fG,dl,ob',dj,j7,j6,cW]
  obtain⟨s1,hs1⟩: ∃a,a=(s0.new (.cells [.str [],.int .i64 0,.int .i64 0,.int .i64 0,.nils,.nils])).put s0.next (some (.cells b.cells)):=⟨_,rfl⟩
  have e1: ∀n,s1.get [] n=bif n==s0.next then some (.cells b.cells) else s0.get [] n:=fun n=>by
   rw [hs1,cD,cW]
   cases n==s0.next<;>rfl
  have e2: ∀n,n<s0.next→s1.get [] n=s0.get [] n:=fun n h=>by rw [e1,beq_eq_false_iff_ne.2 (by omega)];rfl
  have f1:Fs s0 s1 x mb mo mt mu md C b.cells:=⟨by rw [e1,bS];rfl,(e2 x hlt.1).trans hx,(e2 md hlt.2).trans hd,fun n h _=>e2 n h,by rw [hs1];rfl,by rw [hs1];exact ju _ _ _ (Nat.le_succ_of_le hm),by rw [hs1];rfl,hlt.2,hlt.1,hxd⟩
  have hst:(s0.new (.cells [.str [],.int .i64 0,.int .i64 0,.int .i64 0,.nils,.nils])).put s0.next (some (.cells [.str b.id,.int .i64 b.kind,.int .i64 b.x,.int .i64 b.y,b.refsV,b.tagsV]))=s1:=by rw [hs1];rfl
  rw [hst]
  have hpb:pb<s0.next∧pb≠md:=⟨hp.1,hne ob⟩
  have hpo:po<s0.next∧po≠md:=⟨hp.2.1,hne oo⟩
  have hpt:pt<s0.next∧pt≠md:=⟨hp.2.2,hne ot⟩
  refine Xs h74 h36 h45 f1 ((f1.old pb hpb.1 hpb.2).trans ob) ((f1.old po hpo.1 hpo.2).trans oo) ((f1.old pt hpt.1 hpt.2).trans ot) gb go gt hpb ?_ ?_ ?_ ?_ ?_ ?_
  ·simp only [ah,ae,cT,cF]
  ·simp only [ah,ae,cT,cF]
  ·simp only [ah,ae,cT,cF]
  ·simp only [ah,ae,cT,cF]
  ·simp only [ah,ae,cT,cF]
  intro e2 s2 a0 a1 a2 a3 a9 f2
  refine Xr h75 h118 h45 f2 ((f2.old pb hpb.1 hpb.2).trans ob) ((f2.old po hpo.1 hpo.2).trans oo) ((f2.old pt hpt.1 hpt.2).trans ot) a0 a1 a2 a3 a9 ?_
  intro e3 s3 b0 b1 b2 b3 b9 f3
  have ob3:s3.get [] pb=some (.cells [.str b.id,.int .i64 b.kind,.int .i64 b.x,.int .i64 b.y,b.refsV,b.tagsV]):=(f3.old pb hpb.1 hpb.2).trans ob
  have oo3:s3.get [] po=some (.cells [.str o.id,.int .i64 o.kind,.int .i64 o.x,.int .i64 o.y,o.refsV,o.tagsV]):=(f3.old po hpo.1 hpo.2).trans oo
  have ot3:s3.get [] pt=some (.cells [.str t.id,.int .i64 t.kind,.int .i64 t.x,.int .i64 t.y,t.refsV,t.tagsV]):=(f3.old pt hpt.1 hpt.2).trans ot
  have htag:=aln ⟨gb.tags,vb,gb.key⟩ ⟨go.tags,vo,go.key⟩ ⟨gt.tags,vt,gt.key⟩ gb.pt go.pt gt.pt
  have cto:=go.tags.clean
  have ctt:=gt.tags.clean
  have i1:bu 2 ek (fS 2 ((jp b.tags o.tags t.tags).1.map ek)) (jp b.tags o.tags t.tags).1:=vw _
  have i2:bu 1 bp (fS 1 ((jp b.tags o.tags t.tags).2.map bp)) (jp b.tags o.tags t.tags).2:=vw _
  have c1:=i1.clean
  have c2:=i2.clean
  have l1:=cell i1
  have hln:=fun mk s=>i2.len iT jl mk s
  have hrow:=f3.row
  simp only [x7,Obj.cells] at hrow
  have hlk:(jp b.tags o.tags t.tags).2.length≤1000000:=by
   have h1:=(FJ b.tags o.tags t.tags).2
   have h2:b.tags.length≤60:=jM.len ⟨gb.tags,vb,gb.key⟩
   have h3:o.tags.length≤60:=jM.len ⟨go.tags,vo,go.key⟩
   have h4:t.tags.length≤60:=jM.len ⟨gt.tags,vt,gt.key⟩
   omega
  refine W.sdrawQ f3.minw ?_
  unfold NL
  simp only [fh,fg,fu,isStore,ah,aE,aJ,bf,b7,fI,ii,dc,db,aj,aC,be,bh,aw,ak,cT,cF,bD,qu,aR,bN,bS,tA,aM,ae,ar,tn,mD,b1,b2,b3,ctb,cto,ctt,fG,dl,rP,ob3,oo3,ot3,dj,h76,htag,vO,gu,fe,jI]
  refine W.sreg ?_
  unfold NM
  simp only [az,aA,dH,aB,dI,ah,aE,dJ,b7,aj,aC,aw,ak,cT,cF,bD,aK,aQ,cI,bA,aR,gl,bT,cq,im,bS,tA,aM,ae,ar,bt,bR,dB,aU,cP,bQ,dT,tn,ald,b9,c1,l1,hrow,j7,j6]
  obtain⟨s4,hs4⟩: ∃a,a=s3.put s0.next (some (.cells (tu b o t).cells)):=⟨_,rfl⟩
  have f4:Fs s0 s4 x mb mo mt mu md (lK b o t (jP b o t C)) (tu b o t).cells:=f3.put (fun n=>by rw [hs4]) (by rw [hs4];rfl) (by rw [hs4];exact ju _ _ _ f3.minw) (by rw [hs4];rfl)
  have hs4':s3.put s0.next (some (.cells [.str (nu b o t).id,.int .i64 (nu b o t).kind,.int .i64 (vK b o t).1,.int .i64 (vK b o t).2,(nu b o t).refsV,fS 2 ((jp b.tags o.tags t.tags).1.map ek)]))=s4:=hs4.symm
  rw [hs4']
  refine W.seq (W.seq (W.reg ?_))
  unfold NG
  simp only [az,aA,aB,ah,aE,cL,aj,aI,aC,be,bh,bo,aw,cd,da,bH,ak,cT,cF,bD,gp,bS,tA,ae,ar,aU,Y6,c2,hln,aN]
  refine W.block ?_
  refine W.mono (ag7 h45 hpb ob i2 hlk (fun k hk=>RB (Tp vb vo vt k (Tn.2 k hk))) (jp b.tags o.tags t.tags).2 [] _ _ s4 _ rfl f4 ?_ ?_ ?_ ?_ ?_ ?_) ?_
  ·simp only [ah,ae,cF,b0]
  ·simp only [ah,ae,cF,b1]
  ·simp only [ah,ae,cF,b9]
  ·simp only [ah,ae,cT,cF]
  ·simp only [ah,ae,cT,cF]
  ·simp only [ah,ae,cT,cF];rfl
  rintro y fr s5 ⟨rfl,e5,lc5,rfl,g9,f5⟩
  show W (QM sp ch) 44 _ _ _ _
  refine W.sreg ?_
  unfold NK
  simp only [az,aA,aB,aJ,aj,aw,tA,ar,g9]
  refine W.ret ⟨.inr rfl,.ptr s0.next 0,cp ?_ rfl,rfl,f5⟩
  simp only [ah,ae,cT]
 obtain⟨v,s',r1,rfl,r2⟩:=h
 exact⟨s',r1,r2⟩
end
end Go.Proofs.YtbfmdojdemckbaaGreat
