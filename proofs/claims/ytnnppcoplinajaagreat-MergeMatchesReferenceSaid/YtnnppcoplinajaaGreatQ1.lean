/- sequence.Merge. -/
import Derived.Test.YtnnppcoplinajaaGreatS1
set_option linter.defProp false
open Go.Ag.ae renaming aL→nP,cells→kQ
open Bool renaming and_eq_true→bA,and_self→cH,and_true→rr,false_or→jd,not_true→dS,or_false→jL
open List renaming append_nil→ii,cons_append→mJ,drop→ay,getElem?_eq_getElem→gL,length_append→dX,length_cons→cP,length_drop→sX,length_map→cZ,length_replicate→CS,length_singleton→rB,length_take→oG,map_append→je,mem_cons→cQ,nil_append→mf,replicate→ui,take_append_drop→oH,take_length→xc,take→aN
open Nat renaming add_mul→oI,beq→aJ,ble_eq_true_of_le→cu,ble→br,blt→bk,eq_of_beq_eq_true→iw,le_of_ble_eq_true→eG,le_refl→aU,le_succ_of_le→ky,lt_irrefl→cR,lt_succ_of_lt→nQ,lt_succ_self→fK,min_eq_left→AO,mul_le_mul_right→uj,reduceAdd→aG,reduceBEq→aa,reduceLT→ah,reduceLeDiff→aV,reduceMul→jg,zero_le→cV,zero_lt_succ→eH,zero_mul→kR
open Option renaming bind_eq_some_iff→az,bind_some→bn
open Option.some renaming injEq→aP
open Go.Ag.aM renaming of2→dz
open Go.Proofs.Tryz renaming prog→ar
open Go.Ag.W renaming block→bL,cnFZ→cJ,cnSZ→dq,cnTZ→bU,cond→dJ,exit→dL,loop1→bV,mono→jr,region→fU,reg→bH,ret→bo,seq→aC,skip→cL,sreg→aw
namespace Go.Proofs.YtnnppcoplinajaaGreat
open Go.Ag
variable{xs:List ae}{i:Nat}{v:ae}
def S7(h:xs[i]? =some v):iA xs i=v:=by
 induction xs generalizing i with
 |nil=>simp at h
 |cons a xs ih=>
  cases i with
  |zero=>simp at h;subst h;rfl
  |succ i=>exact ih (by simpa using h)
def i9(l:List ak):Bool:=decide (2000<l.length)
variable{l:List ak}{sp:bC}
def aiJ(h0:sp 460=none)(hl:aD 1 aF v l)(s:St):aM (QS sp) 460 [v] s (.bool (i9 l)) s:=by
 have hlen:=fun mk s=>hl.len dB dH mk s;have hcl:=hl.aL;have hg:bG 2000 ((l.length:Nat):Int)=i9 l:=im 2000 _;refine dz FC.1 FC.2 FC.3 FC.4 h0 ?_;refine aw ?_;simp only[ai,bv,bt,ah,aV];refine aw ?_;simp only[ai,aa,ah,ads,hcl,hlen,hg];exact bo ⟨rfl,.inr rfl,bz (by simp only[aq,aa, *]) rfl⟩
def xZ:Sp
 | [a]=>bif pures [a] then(fF 1 mS a).bind fun l=>some (.bool (i9 l)) else none
 |_=>none
def aiH(hl:aD 1 aF v l)(hv:aQ v=true):xZ [v]=some (.bool (i9 l)):=by
 simp only[ce,xZ,pures,hv,cH,i8 p8 hl]
def aiI:cq ar 460 xZ:=by
 intro args x hv G h w xs wr hx;unfold xZ at hv;split at hv;rename_i a;obtain⟨hp,hv⟩:=bm hv;simp only[az,aP] at hv;obtain⟨l,h1,rfl⟩:=hv;have hl:=ij (fun v a=>pZ) h1;exact eA (Q:=QT []) (ep .nil) (fun _=>eH 1) (args:=[a]) (v:=.bool (i9 l)) (s':=s0) (kh hp) (by rw[gK hp];exact aiJ (sp:=fun f=>cI f []) rfl hl s0) rfl ⟨1,rfl⟩ G h w xs wr hx;cases hv
inductive Rows:List ae->List (List ak)->Prop
 |nil:Rows [] []
 |cons {v:ae} {l:List ak} {vs:List ae} {ls:List (List ak)}:aD 1 aF v l->aQ v=true->Rows vs ls->Rows (v::vs) (l::ls)
def qP:List (List ak)->Nat->Int
 | [],_=> -1
 |l::ls,i=>bif i9 l then(i:Int) else qP ls (i+1)
variable{av:Array Operand}{ts:Array TypeId}{x:Operand}{e:aI}
def YL(h:ev e x=some (.func (.func 460) [] [])):callee e ⟨.value x,av,ts⟩=(evcs e av.toList).bind fun args=>some (460,args):=by
 simp only[callee,h,bn,mf,ii]
variable{lc:Ag.Loc}{s:St}
def adL(h182:sp 460=some xZ){vs:List ae}{r:fu}(hsmall:vs.length<1000): ∀(rest pre:List ae) (ls:List (List ak)) (e:aI),vs=pre++rest->Rows rest ls->
 aj e 0= .list 1 vs r->aj e 1= .func (.func 460) [] []->aj e 7= .int .i64 (vs.length:Nat)->aj e 8= .int .i64 (pre.length:Nat)->
 W (QS sp) 510 (.loop ahm) ⟨e,19,lc⟩ s fun x fr s'=>s'=s/\fr.size=19/\((x= .exit 0/\qP ls pre.length= -1)\/(x= .ret/\aj fr.env 4= .int .i64 (qP ls pre.length))):=by
 intro rest
 induction rest with
 |nil=>
  intro pre ls e hpre hR h0 h1 h7 h8;cases hR;have hl':vs.length=pre.length:=by rw[hpre];simp
  refine bV ?_;refine aw ?_;simp only[ai,ah,h7,h8,hl',cR];refine aC (cJ ?_);exact dL ⟨rfl,rfl,.inl ⟨rfl,rfl⟩⟩
 |cons v rest ih=>
  intro pre ls e hpre hR h0 h1 h7 h8;cases hR with
  |cons hl hp hR=>
  rename_i l ls;have hlt:pre.length<vs.length:=by rw[hpre];simp
  have hat:iA vs pre.length=v:=S7 (by rw[hpre];simp);have hsc:=hl.scal;have hcl:=hl.aL;have hsp:=aiH hl hp;have hwr:=eE (n:=pre.length) (by omega);refine bV ?_;refine aw ?_;simp only[ai,ah,h7,h8,hlt];refine aC (bU (cL ?_));simp only[bM];refine aC (bL (aw ?_));simp only[ai,aa,ah,h8];refine aw ?_;simp only[ai,ax,ay,aa,ah,h0,h1,hlt,hat,hsc,hcl,YL,h182,hsp];cases hz:i9 l with
  |true=>
   refine bU (aw ?_);simp only[ai,aa,ah];exact bo ⟨rfl,rfl,.inr ⟨rfl,by simp only[aq,aa,qP,hz]⟩⟩
  |false=>
   refine dq ?_;simp only[dA];refine bH ?_;simp only[ai,aA,aa,ah,h8,hwr];refine(ih (pre++[v]) ls _ (by rw[hpre];simp) hR (by simp only[au,aa, *]) (by simp only[au,aa, *]) (by simp only[au,aa, *]) (by simp only[aq,cK,aa])).mono ?_;simp only[cK,qP,hz,cF];exact fun _ _ _ h=>h
variable{ls:List (List ak)}
def adM(h238:sp 510=none)(h182:sp 460=some xZ){vs:List ae}{r:fu}(hR:Rows vs ls)(hsmall:vs.length<1000)(s:St):aM (QS sp) 510 [.list 1 vs r,.func (.func 460) [] []] s (.int .i64 (qP ls 0)) s:=by
 refine dz FQ.1 FQ.2 FQ.3 FQ.4 h238 ?_;refine aw ?_;simp only[ai,bv,bt,ah,aG,aV];refine aC (aw ?_);simp only[ai,ax,aa,ah,adt];refine bL ?_;refine(adL h182 (r:=r) hsmall vs [] ls _ rfl hR (by simp only[aq,aa, *]) (by simp only[aq,aa, *]) (by simp only[aq,aa, *]) (by simp only[aq,aa];rfl)).mono ?_;rintro x ⟨e,sz,lc⟩ s' ⟨rfl,hs,⟨rfl,hok⟩|⟨rfl,h2⟩⟩;have hs:sz=19:=hs;subst hs;have hok:qP ls 0= -1:=hok;show W (QS sp) 510 _ _ _ _;refine aw ?_;simp only[cG,hQ,ah];exact bo ⟨rfl,.inr rfl,bz (by simp only[ik,aa,hok]) rfl⟩;exact⟨rfl,.inr rfl,bz h2 rfl⟩
def y9(a:ae):Option (List ak):=bif aQ a then fF 1 mS a else none
def L3: ∀ {vs:List ae} {ls:List (List ak)},lU y9 vs=some ls->Rows vs ls
 | [],ls,h=>by
   simp only[lU,aP] at h;subst h;exact .nil
 |v::vs,ls,h=>by
  simp only[lU,az,aP] at h;obtain⟨l,h1,r,h2,rfl⟩:=h;unfold y9 at h1;obtain⟨hp,h1⟩:=bm h1;exact .cons (ij (fun v a=>pZ) h1) hp (L3 h2)
def Cu: ∀ {vs:List ae} {ls:List (List ak)},Rows vs ls->lU y9 vs=some ls/\pures vs=true
 | [],_,.nil=>⟨rfl,rfl⟩
 |v::vs,_,.cons h1 h2 h3=>by
  obtain⟨a,b⟩:=Cu h3;have h4:=i8 p8 h1;simp only[ce,lU,y9,h2,h4,a,pures,b,cH,and_self]
def zE:Sp
 | [.list 1 vs .GE,.func (.func 460) [] []]=>(lU y9 vs).bind fun ls=>bif bk vs.length 1000 then some (.int .i64 (qP ls 0)) else none
 |_=>none
def Ig:du:=[(460,xZ)]
def Xu:dc Ig:=.cons aiI .nil
def adK:cq ar 510 zE:=by
 intro args x hv G h w xs wr hx;unfold zE at hv;split at hv;rename_i vs;simp only[az] at hv;obtain⟨ls,h1,hv⟩:=hv;obtain⟨hs,hv⟩:=bm hv;injection hv with hv;subst hv
 have hR:=L3 h1;have hp:pures [.list 1 vs .GE,.func (.func 460) [] []]=true:=by
  show(aQ (.list 1 vs .GE)&&(aQ (.func (.func 460) [] [])&&true))=true;show((pures vs&&true)&&_)=true;rw[(Cu hR).2];rfl
 exact eA (Q:=QT Ig) (ep Xu) (fun _=>eH 1) (args:=[.list 1 vs .GE,.func (.func 460) [] []]) (v:=.int .i64 (qP ls 0)) (s':=s0) (kh hp) (by rw[gK hp];exact adM (sp:=fun f=>cI f Ig) rfl rfl hR (eG hs) s0) rfl ⟨1,rfl⟩ G h w xs wr hx;cases hv
def mN:List (List ak)->Bool
 | []=>false
 |l::ls=>i9 l||mN ls
def NP: ∀(ls:List (List ak)) (i:Nat),ec 0 (qP ls i)=mN ls
 | [],_=>rfl
 |l::ls,i=>by
  simp only[qP,mN];cases i9 l with
  |true=>simp only[cT,Bool.true_or];rw[show(0:Int)=((0:Nat):Int) from rfl,lj];simp
  |false=>simp only[cF,jd];exact NP ls (i+1)
def anI(h114:sp 374=none)(h181:sp 459=none)(h238:sp 510=some zE){vs:List ae}(hR:Rows vs ls)(hsmall:vs.length<1000)(s:St):aM (QS sp) 374 [.list 1 vs .GE] s (.bool (!mN ls)) s:=by
 have hsp:zE [.list 1 vs .GE,.func (.func 460) [] []]=some (.int .i64 (qP ls 0)):=by
  have q1:bk vs.length 1000=true:=cu hsmall;simp only[ce,zE,(Cu hR).1,q1]
 have hany:=NP ls 0;have r181:aM (QS sp) 459 [.list 1 vs .GE,.func (.func 460) [] []] s (.bool (mN ls)) s:=by
  refine dz FB.1 FB.2 FB.3 FB.4 h181 ?_;refine aw ?_;simp only[ai,bv,bt,ah,aG,aV];refine aw ?_;simp only[ai,aa,ah,h238,hsp,hany];exact bo ⟨rfl,.inr rfl,bz (by simp only[aq,aa, *]) rfl⟩
 refine dz Fh.1 Fh.2 Fh.3 Fh.4 h114 ?_;refine aw ?_;simp only[ai,bv,bt,ah,aV];refine aC (fU (fM 1 ?_));simp only[ai,aN,ay,aa,ah];refine fO (g:=459) (args:=[.list 1 vs .GE,.func (.func 460) [] []]) ?_ r181 (by decide) ?_;simp only[ai,callee,aa];refine fN ?_;simp only[ai,aA,aa,ah];exact bo ⟨rfl,.inr rfl,bz (by simp only[aq,aa, *]) rfl⟩
def Aw:Sp
 | [.list 1 vs .GE]=>(lU y9 vs).bind fun ls=>bif bk vs.length 1000 then some (.bool (!mN ls)) else none
 |_=>none
def H7:du:=[(510,zE)]
def Xn:dc H7:=.cons adK .nil
def anH:cq ar 374 Aw:=by
 intro args x hv G h w xs wr hx;unfold Aw at hv;split at hv;rename_i vs;simp only[az] at hv;obtain⟨ls,h1,hv⟩:=hv;obtain⟨hs,hv⟩:=bm hv;injection hv with hv;subst hv
 have hR:=L3 h1;have hp:pures [.list 1 vs .GE]=true:=by
  show((pures vs&&true)&&true)=true;rw[(Cu hR).2];rfl
 exact eA (Q:=QT H7) (ep Xn) (fun _=>eH 1) (args:=[.list 1 vs .GE]) (v:=.bool (!mN ls)) (s':=s0) (kh hp) (by rw[gK hp];exact anI (sp:=fun f=>cI f H7) rfl rfl rfl hR (eG hs) s0) rfl ⟨1,rfl⟩ G h w xs wr hx;cases hv
variable{fr:Fr}{Q:bF}
def wM{t u:Tmp}{w:ae}(h:aj fr.env t=v)(hv:v.aL=true)(hu:aj fr.env u=w)(hw:w.aL=true): ∃vs,bW Q [] fr s [.tmp t,.tmp u]=some vs/\gG vs= .tup [v,w]:=by
 refine⟨[v,w],?_,rfl⟩;simp only[ce,bW,dy,evc,ev,h,hu,hv,hw]
def sn(_vb vo vt:ae)(b o t:List ak):ae:=bif o==b then .tup [vt,.bool true] else bif t==b||t==o then .tup [vo,.bool true] else .tup [.AL,.bool false]
variable{t:List ak}{vb vo vt:ae}
def ajr(h116:sp 376=none)(h37:sp 70=some rU){b o:List ak}(hb:aD 1 aF vb b)(ho:aD 1 aF vo o)(ht:aD 1 aF vt t)(pb:aQ vb=true)(po:aQ vo=true)(pt:aQ vt=true)(so:o.length<small)(st:t.length<small)(s:St):
 aM (QS sp) 376 [vb,vo,vt] s (sn vb vo vt b o t) s:=by
 have cb:=hb.aL;have co:=ho.aL;have ct:=ht.aL;have e1:=Dw ho hb po pb so;have e2:=Dw ht hb pt pb st;have e3:=Dw ht ho pt po st;refine dz Fj.1 Fj.2 Fj.3 Fj.4 h116 ?_;refine aw ?_;simp only[ai,bv,bt,ah,aG,aV,ofValue,aX];refine aC (bL (aw ?_));simp only[ai,aa,ah,co,cb,h37,e1];cases h1:o==b with
 |true=>
  have hm:sn vb vo vt b o t= .tup [vt,.bool true]:=by simp only[sn,h1,cT]
  rw[hm];refine bU (aw ?_);simp only[ai,aa,ah];exact bo ⟨rfl,.inr rfl,wM (by simp only[aq,aa, *]) ct (by simp only[aq,aa, *]) rfl⟩
 |false=>
  refine cJ (aC (aC (bH ?_)));simp only[ai,aA,aa,ah,ct,cb,h37,e2];cases h2:t==b with
  |true=>
   have hm:sn vb vo vt b o t= .tup [vo,.bool true]:=by simp only[cz,sn,h1,h2,Bool.true_or]
   rw[hm];refine bU (cL ?_);simp only[bM];refine bU (aw ?_);simp only[ai,aa,ah];exact bo ⟨rfl,.inr rfl,wM (by simp only[aq,aa, *]) co (by simp only[aq,aa, *]) rfl⟩
  |false=>
   refine cJ (bH ?_);simp only[ai,aA,aa,ah,ct,co,h37,e3];cases h3:t==o with
   |true=>
    have hm:sn vb vo vt b o t= .tup [vo,.bool true]:=by simp only[cz,sn,h1,h2,h3,jd]
    rw[hm];refine bU (aw ?_);simp only[ai,aa,ah];exact bo ⟨rfl,.inr rfl,wM (by simp only[aq,aa, *]) co (by simp only[aq,aa, *]) rfl⟩
   |false=>
    have hm:sn vb vo vt b o t= .tup [.AL,.bool false]:=by simp only[sn,h1,h2,h3,Bool.or_self,cF]
    rw[hm];refine dq ?_;simp only[dA];refine aw ?_;simp only[cG,ah,ofValue,aX];exact bo ⟨rfl,.inr rfl,wM (by simp only[aq,aa, *]) rfl (by simp only[aq,aa, *]) rfl⟩
variable{fr1:Fr}{N:Fr->Prop}{K:Fr->St->Prop}{g:FuncId}{bs:List Nat}{l:List aB}{args:List ae}{rs:List dr}{b sz:Nat}{s1:St}{d:Tmp}{o:aB}{ft:dj}
section
variable{Q:bF}{f:FuncId}
def WD(Q:bF)(f:FuncId)(bs:List Nat)(rs:List dr)(i:Nat)(l:List aB)(fr:Fr)(s:St)(K:Fr->St->Prop):Prop:= ∃fr' s',kW Q f bs rs i l fr s fr' s'/\K fr' s'
def ur(i:Nat)(rs:List dr):Prop:= ∀r∈rs,r.i<i/\r.loud=false
def ur.cons{c0 c1:Nat}{lo:Bool}(h:ur i rs)(hl:lo=false):ur (i+1) (⟨i,c0,c1,ft,lo⟩::rs):=by
 intro r hr;rcases cQ.1 hr with rfl|hr
 exact⟨fK _,hl⟩;exact⟨nQ (h r hr).1,(h r hr).2⟩
def Lw(hst:isStore o.op=false)(hmw:s.al<=s1.ge):(bk s1.ge s.al||isStore o.op)=false:=by
 rw[hst,jL,jU];exact dN (by omega)
def WD.nil(h:K fr s):WD Q f bs rs i [] fr s K:=⟨fr,s,.nil,h⟩
def WD.hush(hr:ur i rs)(hst:isStore o.op=false)(hmw:s.al<=s1.ge)(hw:fT fr.env o.g=true)(hpl: ∀mk,df Q f o mk fr s.top=some (v,lc,s1))(hci:s1.ci=s.ci)(hp:di fr o.dst v lc=some fr1)(hk: ∀rs',ur (i+1) rs'->WD Q f bs rs' (i+1) l fr1 (s.Gt s1) K):WD Q f (b::bs) rs i (o::l) fr s K:=by
 have hl:=Lw hst hmw;obtain⟨fr',s',h1,h2⟩:=hk (⟨i,s.al,s1.al,bZ (Q.hint f) o.dst fr.env o.op,bk s1.ge s.al||isStore o.op⟩::rs) (hr.cons hl);exact⟨fr',s',.step hw (hpl _) (by rw[hl];exact abP fun r h=>(hr r h).2) hci hp h1,h2⟩
def WD.GE(hr:ur i rs)(hb: ∀j,j<i->b.testBit j=true)(hst:isStore o.op=false)(hmw:s.al<=s1.ge)(hw:fT fr.env o.g=true)(hpl:df Q f o [] fr s.top=some (v,lc,s1))(hci:s1.ci=s.ci)(hp:di fr o.dst v lc=some fr1)(hk: ∀rs',ur (i+1) rs'->WD Q f bs rs' (i+1) l fr1 (s.Gt s1) K):WD Q f (b::bs) rs i (o::l) fr s K:=by
 have hl:=Lw hst hmw;obtain⟨fr',s',h1,h2⟩:=hk (⟨i,s.al,s1.al,bZ (Q.hint f) o.dst fr.env o.op,bk s1.ge s.al||isStore o.op⟩::rs) (hr.cons hl);refine⟨fr',s',.step hw ?_ (Bs fun r h=>hb _ (hr r h).1) hci hp h1,h2⟩;show df Q f o (iz b rs []) fr s.top=_;rw[zP fun r h=>.inl (hb _ (hr r h).1)];exact hpl
def WD.fullL(hr: ∀r∈rs,r.i<i)(hb: ∀j,j<i->b.testBit j=true)(hw:fT fr.env o.g=true)(hpl:df Q f o [] fr s.top=some (v,lc,s1))(hci:s1.ci=s.ci)(hp:di fr o.dst v lc=some fr1)(hk: ∀rs',(∀r∈rs',r.i<i+1)->WD Q f bs rs' (i+1) l fr1 (s.Gt s1) K):WD Q f (b::bs) rs i (o::l) fr s K:=by
 obtain⟨fr',s',h1,h2⟩:=hk (⟨i,s.al,s1.al,bZ (Q.hint f) o.dst fr.env o.op,bk s1.ge s.al||isStore o.op⟩::rs) (fun r hr'=>by
  rcases cQ.1 hr' with rfl|hr'
  exact fK _;exact nQ (hr r hr'))
 refine⟨fr',s',.step hw ?_ (Bs fun r h=>hb _ (hr r h)) hci hp h1,h2⟩;show df Q f o (iz b rs []) fr s.top=_;rw[zP fun r h=>.inl (hb _ (hr r h))];exact hpl
def WD.call{c:Call}(hr:ur i rs)(hb: ∀j,j<i->b.testBit j=true)(ho:o.op= .call c)(hmw:s.al<=s1.ge)(hw:fT fr.env o.g=true)(hn: ∀b,c.callee≠ .builtin b)(hc:callee fr.env c=some (g,args))(hrun:aM Q g args s.top v s1)(hci:s1.ci=s.ci)(hp:di fr o.dst v fr.loc=some fr1)(hk: ∀rs',ur (i+1) rs'->WD Q f bs rs' (i+1) l fr1 (s.Gt s1) K):WD Q f (b::bs) rs i (o::l) fr s K:=by
 have hst:isStore o.op=false:=by rw[ho];rfl
 have hl:=Lw hst hmw;obtain⟨fr',s',h1,h2⟩:=hk (⟨i,s.al,s1.al,bZ (Q.hint f) o.dst fr.env o.op,bk s1.ge s.al||isStore o.op⟩::rs) (hr.cons hl);refine⟨fr',s',.call hw ho hn hc ?_ (Bs fun r h=>hb _ (hr r h).1) hci hp h1,h2⟩;show C8 Q g args (iz b rs []) s.top v s1;rw[zP fun r h=>.inl (hb _ (hr r h).1)];exact hrun
def W.drawD{ops:List aB}{K:Ex->Fr->St->Prop}(h:WD Q f bs [] 0 ops fr s fun fr s=>K .normal fr s):W Q f (.draw ops bs) fr s K:=let⟨_,_,h1,h2⟩:=h;W.drawR h1 h2
def KO(h:s.ge<=s.al)(h1:s.al<=s1.ge):(s.Gt s1).ge=s.ge:=by
 show(bif br s.ge s1.ge then s.ge else s1.ge)=s.ge;rw[cu (Nat.le_trans h h1)];rfl
def WD.calmOps(hm:s.ge<=s.al){l1 l2:List aB}(hc:calm rs)(hi: ∀r∈rs,r.i<i)(h:WQ Q f s.top l1 fr fun fr1=> ∀rs1,calm rs1->(∀r∈rs1,r.i<i+l1.length)->WD Q f (bs.drop l1.length) rs1 (i+l1.length) l2 fr1 s K):WD Q f bs rs i (l1++l2) fr s K:=
 WQ.thenD (N:=K) hm hc hi h
def WD.calmCall(hm:s.ge<=s.al)(hc:calm rs)(hi: ∀r∈rs,r.i<i)(hcal:callee e ⟨.value x,av,ts⟩=some (g,args))(hrun:aM Q g args s.top v s.top)(hd:d<sz)(hk: ∀rs1,calm rs1->(∀r∈rs1,r.i<i+1)->WD Q f bs rs1 (i+1) l ⟨e.set d (some v),sz,lc⟩ s K):WD Q f (b::bs) rs i (⟨some d,.call ⟨.value x,av,ts⟩,.aw⟩::l) ⟨e,sz,lc⟩ s K:=by
 have hl:(bk s.top.ge s.al||isStore (.call ⟨.value x,av,ts⟩))=false:=by
  rw[jU];have: ¬s.top.ge<s.al:=by show¬s.al<s.al;omega
  rw[dN this];rfl
 obtain⟨fr',s',h1,h2⟩:=hk (⟨i,s.al,s.al,bZ (Q.hint f) (some d) e (.call ⟨.value x,av,ts⟩),false⟩::rs) (fun r hr=>by
  rcases cQ.1 hr with rfl|hr
  exact⟨rfl,rfl⟩;exact hc r hr) (fun r hr=>by
  rcases cQ.1 hr with rfl|hr
  exact fK _;exact nQ (hi r hr))
 refine⟨fr',s',.call (v:=v) (s1:=s.top) rfl rfl (fun b=>by simp) hcal ?_ ?_ rfl (eM.2 ⟨hd,rfl⟩) ?_,h2⟩;show C8 Q g args (iz b rs []) s.top v s.top;rw[K9 hc];exact hrun;rw[hl];exact Je hc _ _;rw[hl,lQ hm];exact h1
def xi(i:Nat)(rs:List dr):Prop:= ∀r∈rs,r.i<i/\r.c0=r.c1/\(r.loud=true->r.foot= .all)
def zy:dj->Bool
 | .none=>true
 | .loc _=>true
 |_=>false
def SH(h: ∀r∈rs,r.c0=r.c1)(b:Nat):iz b rs []=[]:=zP fun r hr=>.inr (h r hr)
def abQ(h:xi i rs)(hf:zy ft=true):fits b ft false rs=true:=by
 simp only[fits,List.all_eq_true];intro r hr;obtain⟨_,_,h3⟩:=h r hr;cases hl:r.loud with
 |false=>simp
 |true=>
  rw[h3 hl];cases ft<;>first|(cases hf;done)|simp[dj.meets]
def YO(h:calm rs)(hi: ∀r∈rs,r.i<i):xi i rs:=fun r hr=>⟨hi r hr,(h r hr).1,fun hl=>by rw[(h r hr).2] at hl;cases hl⟩
def WX(Q:bF)(f:FuncId)(s:St):List aB->Fr->(Fr->Prop)->Prop
 | [],fr,N=>N fr
 |o::l,fr,N=> ∃v fr',fT fr.env o.g=true/\df Q f o [] fr s=some (v,fr.loc,s)/\isStore o.op=false/\zy (bZ (Q.hint f) o.dst fr.env o.op)=true/\di fr o.dst v fr.loc=some fr'/\WX Q f s l fr' N
def Mp(Q:bF)(f:FuncId)(s:St)(d:Tmp)(st:Bool)(fo:dj)(e:aI)(sz:Nat)(lc:Ag.Loc)(l:List aB)(N:Fr->Prop)(x:Option (ae×Ag.Loc×St)):Prop:= ∃v,x=some (v,lc,s)/\st=false/\zy fo=true/\d<sz/\WX Q f s l ⟨e.set d (some v),sz,lc⟩ N
def Dd:WX Q f s [] fr N=N fr:=rfl
def Hm{st:Bool}{fo:dj}:Mp Q f s d st fo e sz lc l N (some (v,lc,s))=(st=false/\zy fo=true/\d<sz/\WX Q f s l ⟨e.set d (some v),sz,lc⟩ N):=by
 unfold Mp;apply propext;constructor;rintro⟨u,h,r⟩;simp only[aP,Prod.mk.injEq,aT] at h;subst h;exact r;intro r;exact⟨v,rfl,r⟩
def Dc{op:Op}:
 WX Q f s (⟨some d,op,.aw⟩::l) ⟨e,sz,lc⟩ N=Mp Q f s d (isStore op) (bZ (Q.hint f) (some d) e op) e sz lc l N (df Q f ⟨some d,op,.aw⟩ [] ⟨e,sz,lc⟩ s):=by
 apply propext;constructor;rintro⟨v,fr',_,h2,h3,h4,h5,h6⟩;obtain⟨hd,rfl⟩:=eM.1 h5;exact⟨v,h2,h3,h4,hd,h6⟩;rintro⟨v,h2,h3,h4,hd,h6⟩;exact⟨v,_,rfl,h2,h3,h4,eM.2 ⟨hd,rfl⟩,h6⟩
def WD.loudOps{s:St}(hm:s.ge<=s.al){l2:List aB}{K:Fr->St->Prop}: ∀ {l1:List aB} {bs:List Nat} {rs:List dr} {i:Nat} {fr:Fr},xi i rs->
 WX Q f s.top l1 fr (fun fr1=> ∀rs1,xi (i+l1.length) rs1->WD Q f (bs.drop l1.length) rs1 (i+l1.length) l2 fr1 s K)->WD Q f bs rs i (l1++l2) fr s K
 | [],bs,rs,i,fr,hc,h=>h rs hc
 |o::l,bs,rs,i,fr,hc,h=>by
  have hdrop: ∀(bs:List Nat) (n:Nat),bs.tail.drop n=bs.drop (n+1):=fun bs n=>by cases bs<;>simp
  obtain⟨v,fr',hw,h1,h2,h3,h4,h5⟩:=h;have hl:(bk s.top.ge s.al||isStore o.op)=false:=by
   rw[h2,jL,jU];exact dN (by show¬s.al<s.al;omega)
  have hc2:xi (i+1) (⟨i,s.al,s.al,bZ (Q.hint f) o.dst fr.env o.op,false⟩::rs):=fun r hr=>by
   rcases cQ.1 hr with rfl|hr
   exact⟨fK _,rfl,fun hl=>by cases hl⟩;obtain⟨a,b,c⟩:=hc r hr;exact⟨nQ a,b,c⟩
  obtain⟨fr2,s2,q1,q2⟩:=WD.loudOps (l2:=l2) (K:=K) hm (l1:=l) (bs:=bs.tail) (i:=i+1) (fr:=fr') hc2 (by
   rw[hdrop];have e:i+1+l.length=i+(o::l).length:=by simp only[cP];omega
   rw[e];exact h5)
  refine⟨fr2,s2,.step hw (v:=v) (lc:=fr.loc) (s1:=s.top) ?_ ?_ rfl h4 ?_,q2⟩;rw[SH fun r hr=>(hc r hr).2.1];exact h1;rw[hl];exact abQ hc h3;rw[hl,lQ hm];exact q1
def WD.loudCall(hc:xi i rs)(hb: ∀j,j<i->b.testBit j=true)(hcal:callee e ⟨.value x,av,ts⟩=some (g,args))(hrun:aM Q g args s.top v s1)(hn:s1.al=s.al)(hci:s1.ci=s.ci)(hd:d<sz)(hk: ∀rs1,xi (i+1) rs1->WD Q f bs rs1 (i+1) l ⟨e.set d (some v),sz,lc⟩ (s.Gt s1) K):WD Q f (b::bs) rs i (⟨some d,.call ⟨.value x,av,ts⟩,.aw⟩::l) ⟨e,sz,lc⟩ s K:=by
 obtain⟨fr',s',h1,h2⟩:=hk (⟨i,s.al,s1.al,bZ (Q.hint f) (some d) e (.call ⟨.value x,av,ts⟩),bk s1.ge s.al||isStore (.call ⟨.value x,av,ts⟩)⟩::rs) (fun r hr=>by
  rcases cQ.1 hr with rfl|hr
  exact⟨fK _,hn.symm,fun _=>rfl⟩;obtain⟨p,q,t⟩:=hc r hr;exact⟨nQ p,q,t⟩)
 refine⟨fr',s',.call (v:=v) (s1:=s1) rfl rfl (fun b=>by simp) hcal ?_ (Bs fun r hr=>hb _ (hc r hr).1) hci (eM.2 ⟨hd,rfl⟩) h1,h2⟩;show C8 Q g args (iz b rs []) s.top v s1;rw[SH fun r hr=>(hc r hr).2.1];exact hrun
def Jj(h:Tmp->Nat)(d:Option Tmp)(e:aI)(t:TypeId)(a:Operand):bZ h d e (.load t a)=rY e a:=rfl
def Ji(h:Tmp->Nat)(d:Option Tmp)(e:aI)(t:TypeId)(a:Operand)(i:Nat):bZ h d e (.fieldAddr t a i)=oY e a:=rfl
def Dz(h:Tmp->Nat)(d:Option Tmp)(e:aI)(a:Operand):bZ h d e (.move a)= .none:=rfl
def abY(h:Tmp->Nat)(d:Option Tmp)(e:aI)(a:Operand):bZ h d e (.assign a)= .none:=rfl
def Jh(h:Tmp->Nat)(d:Option Tmp)(e:aI)(o:BinOp)(t u:TypeId)(x y:Operand):bZ h d e (.binOp o t x y u)= .none:=rfl
def abZ(h:Tmp->Nat)(d:Option Tmp)(e:aI)(a:Operand)(i:Nat):bZ h d e (.extract a i)= .none:=rfl
def Pe:ae->dj
 | .Ge t _ _=>.loc t
 | .ptr n _=>.obj n
 | .ro _=>.none
 |_=>.all
def Pf:ae->dj
 | .Ge t _ _=>.loc t
 |_=>.none
def Jl(e:aI)(t:Tmp):rY e (.tmp t)=Pe (aj e t):=by
 show(match ev e (.tmp t) with|some (.Ge t _ _)=>dj.loc t|some (.ptr n _)=>.obj n|some (.ro _)=>.none|_=>.all)=_;rw[bq];cases aj e t<;>rfl
def Jr(e:aI)(t:Tmp):oY e (.tmp t)=Pf (aj e t):=by
 show(match ev e (.tmp t) with|some (.Ge t _ _)=>dj.loc t|_=>.none)=_;rw[bq];cases aj e t<;>rfl
def Jk(t g o:Nat):Pe (.Ge t g o)= .loc t:=rfl
def Jq(t g o:Nat):Pf (.Ge t g o)= .loc t:=rfl
def Jp(t:Nat):zy (.loc t)=true:=rfl
def DA:zy .none=true:=rfl
end
def cE(sz lo:Nat)(s:St)(ov:ae)(xs:List ae):Prop:=(ov= .AL/\xs=[])\/(xs≠ []/\ ∃k,ov= .list sz xs (.own k)/\s.get [] k=some .tok/\lo<=k/\k<s.al)
variable{lo:Nat}{ov:ae}
def cE.aL(h:cE sz lo s ov xs):ov.aL=true:=by
 rcases h with⟨rfl,_⟩|⟨_,k,rfl,_⟩<;>rfl
def cE.keep{s':St}(h:cE sz lo s ov xs)(hg: ∀n,lo<=n->s'.get [] n=s.get [] n)(hn:s.al<=s'.al):cE sz lo s' ov xs:=by
 rcases h with h|⟨h1,k,h2,h3,h4,h5⟩
 exact .inl h;exact .inr ⟨h1,k,h2,(hg k h4).trans h3,h4,by omega⟩
def ji(s:St)(n:Nat)(o:Option bf)(h:s.ge<=s.al):(s.put n o).ge<=(s.put n o).al:=by
 show(bif br s.ge n then s.ge else n)<=s.al;cases hb:br s.ge n with
 |true=>exact h
 |false=>
  have: ¬s.ge<=n:=fun hc=>by rw[cu hc] at hb;cases hb
  simp only[cF];omega
def tf{t:TypeId}{E:EI}(hE:iI ar t=some E)(hn:E.n=sz)(hb:E.b<=88){y:ae}{ys:List ae}(h:cE sz lo s ov xs)(hy:jS [] E.g E.n y s=some ys)(hlen:xs.length+ys.length<=1000000)(hlo:lo<=s.al)(hm:s.ge<=s.al):
 ∃ov' s',hG ar [] t ov y false s=some (ov',s')/\cE sz lo s' ov' (xs++ys)/\s'.ci=s.ci/\s.al<=s'.al/\s'.ge<=s'.al/\(∀n,n<lo->s'.get [] n=s.get [] n)/\ov'.cells=[ov']:=by
 subst hn;have hov:xS ov=true/\ov.cells=[ov]:=by rcases h with⟨rfl,_⟩|⟨_,k,rfl,_⟩<;>exact⟨rfl,rfl⟩
 cases ys with
 |nil=>
  refine⟨ov,s,?_,by rw[ii];exact h,rfl,aU _,hm,fun _ _=>rfl,hov.2⟩;simp only[ce,hG,hE,hy,hov.1]
 |cons y0 ys=>
  rcases h with⟨rfl,rfl⟩|⟨hne,k,rfl,hk,h5,h6⟩
  have hr:lW (y0::ys).length E.b=true:=vq (by simpa using hlen) hb;refine⟨.list E.n (y0::ys) (.own s.al),s.new .tok,?_,.inr ⟨by simp,s.al,rfl,by rw[cp,bS];rfl,hlo,fK _⟩,rfl,Nat.le_succ _,ky hm,fun n hn'=>?_,rfl⟩;simp only[ce,hG,hE,hy,ml,kK,hr,cF];rw[cp,bN.2 (by omega)];rfl;have hr:lW (xs.length+(y0::ys).length) E.b=true:=vq hlen hb;refine⟨.list E.n (xs++(y0::ys)) (.own s.al),(s.put k none).new .tok,?_,.inr ⟨by simp,s.al,rfl,by rw[cp,sq,bS];rfl,hlo,fK _⟩,rfl,Nat.le_succ _,ky (ji s k none hm),fun n hn'=>?_,rfl⟩;simp only[ce,hG,hE,hy,ml,hk,hr,fe,bS,cH];rw[cp,sq,bN.2 (by omega),cF,bO,bN.2 (by omega)];rfl
def LS: ∀l:List ak,pures (l.map aF)=true
 | []=>rfl
 |a::l=>by
  show(aQ (aF a)&&pures (l.map aF))=true;rw[LS l];rfl
def Uk:fu->Bool
 | .own _=>false
 |_=>true
def GX(l:List ak)(r:fu):aQ (.list 1 (l.map aF) r)=Uk r:=by
 show(pures (l.map aF)&&_)=_;rw[LS];cases r<;>rfl
def CK:ar.underlying 25=some (.slice 9):=by kernel_rfl
def Hn:dZ ar 9=some 1:=by kernel_rfl
variable{l:List ak}{n:Nat}{V:ae}
def anM{env:aI}(hV:aD 1 aF V l)(pV:aQ V=true){y:Operand}(hx:ev env x=some (.int .i64 n))(hy:ev env y=some (.int .i64 n))(hn:n<=l.length):
 ∃V',ib ar [] 25 V none (some x) (some y) env s=some V'/\aD 1 aF V' (l.take n)/\aQ V'=true:=by
 rcases hV with⟨rfl,rfl⟩|⟨r,rfl⟩
 have h0:n=0:=by simpa using hn
 subst h0;refine⟨.AL,?_,.inl ⟨rfl,rfl⟩,rfl⟩;simp only[ib,CK,bn,Hn,iM,hx,hy];rfl;refine⟨.list 1 ((l.map aF).take n) .GE,?_,.inr ⟨.GE,by rw[List.map_take]⟩,by rw[<-List.map_take,GX];rfl⟩;have h1:br n (l.map aF).length=true:=cu (by rw[cZ];exact hn);have hna:eK (.int .i64 ((n:Nat):Int))=some n:=rfl;simp only[ce,ib,CK,Hn,iM,hx,hy,hna,h1,fe,bS,Option.isSome_some,List.drop_zero,rr];rfl
def anN(hV:aD 1 aF V l)(pV:aQ V=true)(hn:n<=l.length):
 ∃V',(∀(env:aI) (s:St) (x:Operand),ev env x=some (.int .i64 n)->ib ar [] 25 V (some x) none none env s=some V')/\aD 1 aF V' (l.drop n)/\aQ V'=true/\V'.cells=[V']:=by
 rcases hV with⟨rfl,rfl⟩|⟨r,rfl⟩
 have h0:n=0:=by simpa using hn
 subst h0;refine⟨.AL,fun env s x hx=>?_,.inl ⟨rfl,rfl⟩,rfl,rfl⟩;simp only[ib,CK,bn,Hn,iM,hx];rfl;obtain⟨r',hr'⟩: ∃r',r'=bif aJ (l.map aF).length (l.map aF).length&&(bk n (l.map aF).length||aJ n 0) then r else fu.no:=⟨_,rfl⟩
 have hp:Uk r'=true:=by
  rw[hr'];cases aJ (l.map aF).length (l.map aF).length&&(bk n (l.map aF).length||aJ n 0) with
  |true=>rw[GX] at pV;exact pV
  |false=>rfl
 refine⟨.list 1 (((l.map aF).take (l.map aF).length).drop n) r',fun env s x hx=>?_,.inr ⟨r',by rw[xc,List.map_drop]⟩,by rw[xc,<-List.map_drop,GX];exact hp,rfl⟩;have h1:br n (l.map aF).length=true:=cu (by rw[cZ];exact hn);have h2:br (l.map aF).length (l.map aF).length=true:=cu (aU _);have hna:eK (.int .i64 ((n:Nat):Int))=some n:=rfl;rw[hr'];simp only[ce,ib,CK,Hn,iM,hx,hna,h1,h2,fe,bS,cH]
def Yl(P:Program)(mk:aW)(ts:List TypeId)(mu:Bool)(a b:Int)(s:St):mp P mk .min ts mu [.int .i64 a,.int .i64 b] s=some (.int .i64 (bif bG b a then b else a),s):=by
 have:(IntKind.i64==IntKind.i64)=true:=rfl;simp only[ce,mp,u5,this,cF]
def ZY{x:Nat}{V':ae}{rs1:List dr}(hi: ∀r∈rs1,r.i<14)(hx:s.get [] x=some (.cells [V]))(hcl2:V'.aL=true)(hv4:V'.cells=[V'])(hm:s.ge<=s.al)(h13:aj e 13= .ptr x 0)(h26:aj e 26=V')(hk: ∀s',(∀k,s'.get [] k=(s.put x (some (.cells [V']))).get [] k)->s'.al=s.al->s'.ci=s.ci->s'.ge<=s'.al->K ⟨(e.set 27 (some (.ptr x 0))).set 28 (some (.ptr x 0)),30,lc⟩ s'):
 WD (QS sp) 377 [16383,32767,65535] rs1 14 (BK.drop 14) ⟨e,30,lc⟩ s K:=by
 have hxt:s.top.get [] x=some (.cells [V]):=hx;refine WD.fullL (v:=.ptr x 0) (lc:=lc) (s1:=s.top) (fr1:=⟨e.set 27 (some (.ptr x 0)),30,lc⟩) hi (by decide) rfl ?_ rfl (eM.2 ⟨by decide,rfl⟩) (fun rs3 k3=>?_);simp only[TW,bq,yy,bn,h13,fB];rw[lQ hm];refine WD.fullL (v:=.ptr x 0) (lc:=lc) (s1:=s.top) (fr1:=⟨(e.set 27 (some (.ptr x 0))).set 28 (some (.ptr x 0)),30,lc⟩) k3 (by decide) rfl ?_ rfl (eM.2 ⟨by decide,rfl⟩) (fun rs4 k4=>?_);simp only[ai,ax];rw[lQ hm];refine WD.fullL (v:=fX) (lc:=lc) (s1:=s.top.put x (some (.cells [V']))) (fr1:=⟨(e.set 27 (some (.ptr x 0))).set 28 (some (.ptr x 0)),30,lc⟩) k4 (by decide) rfl ?_ rfl rfl (fun rs5 k5=>?_);simp only[ai,ax,bu,aN,ay,aa,ah,aV,kg,hxt,kf,hv4,hcl2,h26];refine WD.nil (hk _ (fun k=>rfl) rfl rfl ?_);show(bif br s.ge (s.top.put x (some (.cells [V']))).ge then s.ge else(s.top.put x (some (.cells [V']))).ge)<=s.al;cases br s.ge (s.top.put x (some (.cells [V']))).ge with
 |true=>exact hm
 |false=>exact ji s.top x _ (aU _)
def IP(h117:sp 377=none){x:Nat}(hx:s.get [] x=some (.cells [V]))(hV:aD 1 aF V l)(pV:aQ V=true)(hn:n<=l.length)(hsmall:l.length<1000000)(hm:s.ge<=s.al):
 ∃v s',aM (QS sp) 377 [.ptr x 0,.int .i64 n] s v s'/\aD 1 aF v (l.take n)/\aQ v=true/\(∃V',aD 1 aF V' (l.drop (n+1))/\aQ V'=true/\ ∀k,s'.get [] k=(s.put x (some (.cells [V']))).get [] k)/\s'.al=s.al/\s'.ci=s.ci/\s'.ge<=s'.al:=by
 have hcl:=hV.aL;have hcc:V.cells=[V]:=by rcases hV with⟨rfl,_⟩|⟨r,rfl⟩<;>rfl
 have hlen:=fun mk s=>hV.len dB dH mk s;have hxt:s.top.get [] x=some (.cells [V]):=hx;have hdl:l.drop (min (n+1) l.length)=l.drop (n+1):=by
  rcases Nat.le_total (n+1) l.length with h|h
  rw[AO h];rw[Nat.min_eq_right h,List.drop_length,List.drop_eq_nil_of_le h]
 have hwr:=eE (n:=n) (by omega);refine aM.ofEx Fl.1 Fl.2 Fl.3 Fl.4 h117 ?_;refine aw ?_;simp only[ai,bv,bt,ah,aG,aV,ofValue,aX];refine aC (fU (fM 6 ?_));simp only[ai,ax,aN,ay,aa,ah,fB,cO,hx,cN];obtain⟨v,hv1,hv2,hv3⟩:=anM (env:=((((((((bt 0 [.ptr x 0,.int .i64 (n:Int)]).set 4 (some .AL)).set 6 (some (.ptr x 0))).set 7 (some (.ptr x 0))).set 8 (some (.ptr x 0))).set 9 (some V)).set 10 (some (.int .i64 (n:Int)))).set 11 (some (.int .i64 (n:Int))))) (s:=s) hV pV (x:=.tmp 10) (y:=.tmp 11) (by simp only[aq,bq,aa]) (by simp only[aq,bq,aa]) hn;have hvc:=hv2.aL;refine fN ?_;simp only[bt] at hv1;simp only[ai,aA,aa,ah,hcl,hv1];obtain⟨V',hs1,q1,q2,hv4⟩:=anN hV pV (n:=min (n+1) l.length) (Nat.min_le_right _ _);rw[hdl] at q1;have hcl2:=q1.aL;have hmin:(bif decide (l.length<n+1) then(l.length:Int) else((n+1:Nat):Int))=((min (n+1) l.length:Nat):Int):=by
  by_cases h:l.length<n+1;rw[dQ h,Nat.min_eq_right (by omega)];rfl;rw[dN h,AO (by omega)];rfl
 have hs2: ∀(env:aI) (s:St),aj env 25= .int .i64 (bif decide (l.length<n+1) then(l.length:Int) else((n+1:Nat):Int))->ib ar [] 25 V (some (.tmp 25)) none none env s=some V':=fun env s h=>hs1 env s _ (by rw[bq,h,hmin]);rw[show BK=BK.take 14++BK.drop 14 from(oH 14 _).symm];refine aC (W.drawD (WD.calmOps hm (fun _ h=>by cases h) (fun _ h=>by cases h) ?_));simp only[ai,ax,isStore,aN,ay,aa,ah,aG,ado,fB,cO,hxt,cN,hcl,hlen,hwr,Yl,hs2];intro rs1 hc1 hi1;refine ZY hi1 hx hcl2 hv4 hm (by simp only[aq,aa, *]) (by simp only[aq,aa, *]) ?_;intro s' q3 q4 q5 q6;simp only[bM];refine aw ?_;simp only[ai,aa,ah];exact bo ⟨.inr rfl,v,bz (by simp only[aq,aa, *]) hvc,hv2,hv3,⟨V',q1,q2,q3⟩,q4,q5,q6⟩
def N5(P:Program)(t:TypeId)(a b:Int):d8 P .mul t (.int .i64 a) (.int .i64 b)=some (.int .i64 (IntKind.i64.wrap (a*b))):=rfl
def XT(P:Program)(t:TypeId)(a b:Int):d8 P .add t (.int .i32 a) (.int .i32 b)=some (.int .i32 (IntKind.i32.wrap (a+b))):=rfl
def XU(P:Program)(t:TypeId)(a b:Int):d8 P .eql t (.int .i32 a) (.int .i32 b)=some (.bool (aK a b)):=rfl
def Yk(P:Program)(mk:aW)(ts:List TypeId)(mu:Bool)(a b:Int)(s:St):mp P mk .max ts mu [.int .i32 a,.int .i32 b] s=some (.int .i32 (bif bG a b then b else a),s):=by
 have:(IntKind.i32==IntKind.i32)=true:=rfl;simp only[ce,mp,u5,this]
def my(z:Int):ae:=.int .i32 z
def up(T:List Int)(o:Nat):Int:=(T[o]?).getD 0
def pA(a b:List ak)(w i k:Nat)(T:List Int):List Int:=
 T.set (i*w+k) (bif(a[i]?).getD []==(b[k]?).getD [] then IntKind.i32.wrap (up T ((i+1)*w+(k+1))+1) else bif bG (up T ((i+1)*w+k)) (up T (i*w+(k+1))) then up T (i*w+(k+1)) else up T ((i+1)*w+k))
def wN(a b:List ak)(w i:Nat):Nat->List Int->List Int
 |0,T=>T
 |k+1,T=>wN a b w i k (pA a b w i k T)
def xq(a b:List ak)(w:Nat):Nat->List Int->List Int
 |0,T=>T
 |i+1,T=>xq a b w i (wN a b w i b.length T)
def Ve(a b:List ak)(w i k:Nat)(T:List Int):(pA a b w i k T).length=T.length:=by simp[pA]
def L2(a b:List ak)(w i:Nat): ∀(k:Nat) (T:List Int),(wN a b w i k T).length=T.length
 |0,_=>rfl
 |k+1,T=>by rw[wN,L2 a b w i k,Ve]
variable{T:List Int}{o:Nat}
def CL(h:o<T.length):((T.map my).drop o).head?=some (my (up T o)):=by
 rw[List.head?_drop,List.getElem?_map,up,gL h];rfl
def V7(h:o<T.length)(z:Int):bu (T.map my) o [my z]=some ((T.set o z).map my):=by
 have h1:br (o+1) (T.map my).length=true:=cu (by rw[cZ];omega);simp only[jR,bu,h1,cT];rw[List.map_set,List.set_eq_take_append_cons_drop,iP (by rw[cZ];exact h)];rfl
structure nU (s:St) (bw ba row w:Nat) (T:List Int):Prop where
 hw:s.get [] bw=some (.cells [.int .i64 w])
 ha:s.get [] ba=some (.cells [.arr 1 row 0 T.length T.length])
 hr:s.get [] row=some (.cells (T.map my))
 ne:row≠bw/\row≠ba
 ge:s.ge<=s.al
variable{ba bw:Nat}
def nU.top{row w:Nat}(t:nU s bw ba row w T):nU s.top bw ba row w T:=⟨t.hw,t.ha,t.hr,t.ne,aU _⟩
variable{k:Nat}
def xy(h183:sp 461=none){row w:Nat}(t:nU s bw ba row w T)(hik:i*w+k<T.length)(hT:T.length<100000000):aM (QS sp) 461 [.int .i64 i,.int .i64 k,.ptr ba 0,.ptr bw 0] s (.ptr row (i*w+k)) s:=by
 have hw:=t.hw;have ha:=t.ha;have w1:IntKind.i64.wrap ((i:Int)*(w:Int))=((i*w:Nat):Int):=by
  have h2:((i*w:Nat):Int)<100000000:=by omega
  rw[show((i:Int)*(w:Int))=((i*w:Nat):Int) by simp,lC (by omega) (by omega)]
 have w2:IntKind.i64.wrap (((i*w:Nat):Int)+(k:Int))=((i*w+k:Nat):Int):=by rw[lC (by omega) (by omega)];omega
 have hnat:eK (.int .i64 ((i*w+k:Nat):Int))=some (i*w+k):=rfl;refine dz FD.1 FD.2 FD.3 FD.4 h183 ?_;refine aw ?_;simp only[ai,bv,bt,ah,aG,aV,iQ];refine aw ?_;simp only[ai,ax,ay,aa,ah,cO,hw,ha,cN,N5,w1,w2,hik,Nat.mul_one];exact bo ⟨rfl,.inr rfl,bz (by simp only[aq,aa, *]) rfl⟩
def xC(h:ev e x=some (.func (.func 461) [] [.ptr ba 0,.ptr bw 0])):callee e ⟨.value x,av,ts⟩=(evcs e av.toList).bind fun args=>some (461,args++[.ptr ba 0,.ptr bw 0]):=by
 simp only[callee,h,bn,mf]
structure AV (e e':aI):Prop where
 h0:aj e' 0=aj e 0
 h1:aj e' 1=aj e 1
 h7:aj e' 7=aj e 7
section
variable{sp:bC}(h183:sp 461=none){va vb:ae}{a b:List ak}(ha:aD 1 aF va a)(hb:aD 1 aF vb b)(sa:a.length<=2000)(sb:b.length<=2000){bw ba row:Nat}
include h183 ha hb sa sb
def amZ(hi:i<a.length): ∀(k:Nat) (e:aI) (lc:Ag.Loc) (s:St) (T:List Int),k<=b.length->nU s bw ba row (b.length+1) T->T.length=(a.length+1)*(b.length+1)->
 aj e 0=va->aj e 1=vb->aj e 7= .func (.func 461) [] [.ptr ba 0,.ptr bw 0]->aj e 8= .int .i64 i->aj e 9= .int .i64 ((k:Int)-1)->
 W (QS sp) 375 (.loop Ku) ⟨e,130,lc⟩ s fun x fr s'=>x= .exit 2/\fr.size=130/\AV e fr.env/\aj fr.env 8= .int .i64 i/\nU s' bw ba row (b.length+1) (wN a b (b.length+1) i k T)/\s'.al=s.al/\s'.ci=s.ci:=by
 have ca:=ha.aL;have cb:=hb.aL;intro k
 induction k with
 |zero=>
  intro e lc s T hk t hT h0 h1 h7 h8 h9;have hge:ec 0 ((0:Nat)-1:Int)=false:=rfl;refine bV ?_;refine aC (aC (bH ?_));simp only[ai,aA,ah,h9,hge];refine cJ (dL ?_);exact⟨rfl,rfl,⟨by simp only[au,aa, *],by simp only[au,aa, *],by simp only[au,aa, *]⟩,by simp only[au,aa, *],t,rfl,rfl⟩
 |succ k ih=>
  intro e lc s T hk t hT h0 h1 h7 h8 h9;have hkb:k<b.length:=hk;have hge:ec 0 (((k+1:Nat):Int)-1)=true:=by rw[show(((k+1:Nat):Int)-1)=((k:Nat):Int) by omega,show(0:Int)=((0:Nat):Int) from rfl,lj];simp
  have e9:aj e 9= .int .i64 (k:Nat):=by rw[h9];congr 1;omega
  have hu:a[i]? =some a[i]:=gL hi;have hv:b[k]? =some b[k]:=gL hkb;have hia:=fun lc=>ha.at gR hu lc .i64;have hib:=fun lc=>hb.at gR hv lc .i64;have wi:=eE (n:=i) (by omega);have wk:=eE (n:=k) (by omega);have wk2:IntKind.i64.wrap ((k:Int)-1)=(k:Int)-1:=lC (by omega) (by omega);have hN:(a.length+1)*(b.length+1)<=2001*2001:=Nat.mul_le_mul (by omega) (by omega);have hT2:T.length<100000000:=by omega
  have q0:(i+1)*(b.length+1)+(b.length+1)<=(a.length+1)*(b.length+1):=by
   have:=uj (b.length+1) (show i+1+1<=a.length+1 by omega);rw[oI,Nat.one_mul] at this;exact this
  have q00:(i+1)*(b.length+1)=i*(b.length+1)+(b.length+1):=by rw[oI,Nat.one_mul]
  have p0:i*(b.length+1)+k<T.length:=by omega
  have p1:(i+1)*(b.length+1)+(k+1)<T.length:=by omega
  have p2:(i+1)*(b.length+1)+k<T.length:=by omega
  have p3:i*(b.length+1)+(k+1)<T.length:=by omega
  have hrow:=t.hr;have hsc1:(aF a[i]).cells=[aF a[i]]:=rfl;have hsc2:(aF b[k]).cells=[aF b[k]]:=rfl;have step: ∀z,z=(bif(a[i]?).getD []==(b[k]?).getD [] then IntKind.i32.wrap (up T ((i+1)*(b.length+1)+(k+1))+1) else bif bG (up T ((i+1)*(b.length+1)+k)) (up T (i*(b.length+1)+(k+1))) then up T (i*(b.length+1)+(k+1)) else up T ((i+1)*(b.length+1)+k))->
   ∀s',(∀n,s'.get [] n=(s.put row (some (.cells ((T.set (i*(b.length+1)+k) z).map my)))).get [] n)->s'.ge<=s'.al->nU s' bw ba row (b.length+1) (pA a b (b.length+1) i k T):=fun z hz s' hg hm=>by
   have hst:pA a b (b.length+1) i k T=T.set (i*(b.length+1)+k) z:=by rw[pA,hz]
   rw[hst];refine⟨?_,?_,?_,t.ne,hm⟩;rw[hg,bO,bN.2 (fun h=>t.ne.1 h.symm)];exact t.hw;rw[hg,bO,bN.2 (fun h=>t.ne.2 h.symm),List.length_set];exact t.ha;rw[hg,bO,bS];rfl
  have fin: ∀(e':aI) (s':St),AV e e'->aj e' 8= .int .i64 i->aj e' 9= .int .i64 (k:Nat)->nU s' bw ba row (b.length+1) (pA a b (b.length+1) i k T)->s'.al=s.al->s'.ci=s.ci->
   W (QS sp) 375 (.region Rc) ⟨e',130,lc⟩ s' (Ex.next (fun x fr s'=>x= .exit 2/\fr.size=130/\AV e fr.env/\aj fr.env 8= .int .i64 i/\nU s' bw ba row (b.length+1) (wN a b (b.length+1) i (k+1) T)/\s'.al=s.al/\s'.ci=s.ci) fun fr s'=>W (QS sp) 375 (.loop Ku) fr s' fun x fr s'=>x= .exit 2/\fr.size=130/\AV e fr.env/\aj fr.env 8= .int .i64 i/\nU s' bw ba row (b.length+1) (wN a b (b.length+1) i (k+1) T)/\s'.al=s.al/\s'.ci=s.ci):=by
   intro e' s' kp e8 e9' t' hn hc;have e9'':=e9';refine bH ?_;simp only[ai,aA,aa,ah,e9'',wk2];refine jr (ih _ lc s' _ (by omega) t' (by rw[Ve];exact hT) ?_ ?_ ?_ ?_ ?_) ?_;simp only[au,aa,kp.h0,h0];simp only[au,aa,kp.h1,h1];simp only[au,aa,kp.h7,h7];simp only[au,aa,e8];simp only[ik,aa];rintro x fr s2 ⟨rfl,g1,g2,g3,g4,g5,g6⟩;refine⟨rfl,g1,⟨g2.h0.trans ?_,g2.h1.trans ?_,g2.h7.trans ?_⟩,g3,g4,g5.trans hn,g6.trans hc⟩;simp only[au,aa,kp.h0];simp only[au,aa,kp.h1];simp only[au,aa,kp.h7]
  refine bV ?_;refine aC (aC (bH ?_));simp only[ai,aA,ah,h9,hge];refine bU (cL ?_);simp only[bM];refine aC (bL (W.sdrawQ t.ge ?_));simp only[ai,ax,isStore,ay,aa,ah,h0,h1,e9,h8,hia,hib,aF];cases hz:a[i]==b[k] with
  |true=>
   have hz0:((a[i]?).getD []==(b[k]?).getD [])=true:=by rw[hu,hv];exact hz
   refine bU (fU (fM 3 ?_));simp only[au,vS,aN,ay,aa,ah,h7,h8,e9];refine fO (g:=461) (args:=[.int .i64 (i:Nat),.int .i64 (k:Nat),.ptr ba 0,.ptr bw 0]) ?_ (xy h183 t p0 hT2) (by decide) ?_;rw[xC (ba:=ba) (bw:=bw) (by simp only[aq,bq,aa])];simp only[ai,aa];refine fM 5 ?_;simp only[ai,aN,ay,aa,ah,h7,h8,e9,wi,wk];refine fO (g:=461) (args:=[.int .i64 ((i+1:Nat):Int),.int .i64 ((k+1:Nat):Int),.ptr ba 0,.ptr bw 0]) ?_ (xy h183 t p1 hT2) (by decide) ?_;rw[xC (ba:=ba) (bw:=bw) (by simp only[aq,bq,aa])];simp only[ai,aa];refine fN ?_;have hup:=CL p1;have hwr:=V7 p0 (IntKind.i32.wrap (up T ((i+1)*(b.length+1)+(k+1))+1));simp only[my] at hup hwr hrow;simp only[ai,ax,aA,aa,ah,fB,cO,hrow,cN,hup,XT,kg,kf,hwr];refine fin _ _ ?_ ?_ ?_ ?_ ?_ ?_;exact⟨by simp only[au,aa, *],by simp only[au,aa, *],by simp only[au,aa, *]⟩;simp only[au,aa, *];simp only[au,aa];exact e9;exact step _ (by rw[hz0];rfl) _ (fun n=>rfl) (ji s row _ t.ge);rfl;rfl
  |false=>
   have hz0:((a[i]?).getD []==(b[k]?).getD [])=false:=by rw[hu,hv];exact hz
   refine cJ (W.drawD ?_);rw[show tD=tD.take 3++(tD.drop 3) from(oH 3 _).symm];refine WD.calmOps t.ge (fun _ h=>by cases h) (fun _ h=>by cases h) ?_;simp only[ai,isStore,aN,ay,aa,ah,aG,h7,h8,e9];intro rs1 c1 i1;refine WD.calmCall t.ge (g:=461) (args:=[.int .i64 (i:Nat),.int .i64 (k:Nat),.ptr ba 0,.ptr bw 0]) c1 i1 ?_ (xy h183 t.top p0 hT2) (by decide) (fun rs2 c2 i2=>?_);rw[xC (ba:=ba) (bw:=bw) (by simp only[aq,bq,aa])];simp only[ai,aa];refine WD.calmOps (l1:=tD.drop 4|>.take 4) (l2:=tD.drop 8) t.ge c2 i2 ?_;simp only[ai,isStore,aN,ay,aa,ah,aG,h7,h8,e9,wi];intro rs3 c3 i3;refine WD.calmCall t.ge (g:=461) (args:=[.int .i64 ((i+1:Nat):Int),.int .i64 (k:Nat),.ptr ba 0,.ptr bw 0]) c3 i3 ?_ (xy h183 t.top p2 hT2) (by decide) (fun rs4 c4 i4=>?_);rw[xC (ba:=ba) (bw:=bw) (by simp only[aq,bq,aa])];simp only[ai,aa];have hup2:=CL p2;have hup3:=CL p3;have hrt:s.top.get [] row=some (.cells (T.map my)):=hrow;simp only[my] at hup2 hup3 hrt;refine WD.calmOps (l1:=tD.drop 9|>.take 6) (l2:=tD.drop 15) t.ge c4 i4 ?_;simp only[ai,ax,isStore,aN,ay,aa,ah,aG,h7,h8,e9,wk,fB,cO,hrt,cN,hup2,aN,ay];intro rs5 c5 i5;refine WD.calmCall t.ge (g:=461) (args:=[.int .i64 (i:Nat),.int .i64 ((k+1:Nat):Int),.ptr ba 0,.ptr bw 0]) c5 i5 ?_ (xy h183 t.top p3 hT2) (by decide) (fun rs6 c6 i6=>?_);rw[xC (ba:=ba) (bw:=bw) (by simp only[aq,bq,aa])];simp only[ai,aa];refine WD.calmOps (l1:=tD.drop 16|>.take 4) (l2:=tD.drop 20) t.ge c6 i6 ?_;simp only[ai,ax,isStore,aN,ay,aa,ah,aG,fB,cO,hrt,cN,hup3,Yk,aN,ay];intro rs7 c7 i7;have hwr:=V7 p0 (bif bG (up T ((i+1)*(b.length+1)+k)) (up T (i*(b.length+1)+(k+1))) then up T (i*(b.length+1)+(k+1)) else up T ((i+1)*(b.length+1)+k));simp only[my] at hwr;refine WD.fullL (v:=fX) (lc:=lc) (s1:=s.top.put row (some (.cells ((T.set (i*(b.length+1)+k) (bif bG (up T ((i+1)*(b.length+1)+k)) (up T (i*(b.length+1)+(k+1))) then up T (i*(b.length+1)+(k+1)) else up T ((i+1)*(b.length+1)+k))).map my)))) i7 (by decide) rfl ?_ rfl rfl (fun rs8 k8=>?_);simp only[ai,ax,aa,ah,kg,hrt,kf,hwr];refine WD.nil ?_;simp only[dA];refine fin _ _ ?_ ?_ ?_ ?_ ?_ ?_;exact⟨by simp only[au,aa, *],by simp only[au,aa, *],by simp only[au,aa, *]⟩;simp only[au,aa, *];simp only[au,aa];exact e9;refine step _ (by rw[hz0];rfl) _ (fun n=>rfl) ?_;show(bif br s.ge _ then s.ge else _)<=s.al;cases br s.ge _ with
   |true=>exact t.ge
   |false=>exact ji s.top row _ (aU _)
   rfl;rfl
end
def GS{f:FuncId}{d:Option Tmp}{g:SG}{mk:aW}(t:TypeId)(l c:Operand):df Q f ⟨d,.makeSlice t l c,g⟩ mk ⟨e,sz,lc⟩ s=(ev e l).bind fun l=>(ev e c).bind fun c=>gH (qR Q.P t l c (aJ (oZ (Q.hint f) d) 2) s) lc:=rfl
def Ut(z:ae): ∀n,eW [z] n=ui n z
 |0=>rfl
 |n+1=>by
  show [z]++eW [z] n=_;rw[Ut z n];rfl
def ajJ{N:Nat}(h0:0<N)(hN:N<100000000)(s:St):qR ar 502 (.int .i64 N) (.int .i64 N) false s=some (.arr 1 s.al 0 N N,s.new (.cells ((ui N 0).map my))):=by
 have hna:eK (.int .i64 ((N:Nat):Int))=some N:=rfl;have h1:br N N=true:=cu (aU _);have h2:br (N*4) 1099511627776=true:=cu (by omega);have h3:br N 1099511627776=true:=cu (by omega);have h4:aJ N 0=false:=by rw[fe];exact bN.2 (by omega)
 have h5:iI ar 502=some ⟨1,4,false,(.int .i32 0)⟩:=Z6;simp only[ce,qR,h5,hna,h1,h2,h3,h4,cH,Bool.false_and,cF];rw[show(ae.int IntKind.i32 0).cells=[my 0] from rfl,Ut,List.map_replicate]
def rd(p:Nat×Nat):ae:=.agg [.int .i64 p.1,.int .i64 p.2]
def na(T:List Int)(a b:List ak)(w:Nat):Nat->Nat->Nat->List (Nat×Nat)
 |0,_,_=>[]
 |n+1,i,k=>if i<a.length/\k<b.length then
   bif(a[i]?).getD []==(b[k]?).getD [] then(i,k)::na T a b w n (i+1) (k+1)
   else bif aK (up T ((i+1)*w+k)) (up T (i*w+k)) then na T a b w n (i+1) k else na T a b w n i (k+1)
  else []
inductive kB (la lb:Nat):Nat->Nat->List (Nat×Nat)->Prop
 |nil {i k:Nat}:kB la lb i k []
 |cons {i k p q:Nat} {l:List (Nat×Nat)}:i<=p->k<=q->p<la->q<lb->kB la lb (p+1) (q+1) l->kB la lb i k ((p,q)::l)
variable{l:List (Nat×Nat)}{la:Nat}
def kB.weak{lb i' k':Nat}(h:kB la lb i k l)(hi:i'<=i)(hk:k'<=k):kB la lb i' k' l:=by
 cases h with
 |nil=>exact .nil
 |cons a b c d e=>exact .cons (by omega) (by omega) c d e
def Hy(T:List Int)(a b:List ak)(w:Nat): ∀n i k,kB a.length b.length i k (na T a b w n i k)
 |0,_,_=>.nil
 |n+1,i,k=>by
  simp only[na];by_cases h:i<a.length/\k<b.length;rw[iP h];cases (a[i]?).getD []==(b[k]?).getD [] with
  |true=>exact .cons (aU _) (aU _) h.1 h.2 (Hy T a b w n _ _)
  |false=>
   cases aK (up T ((i+1)*w+k)) (up T (i*w+k)) with
   |true=>exact(Hy T a b w n _ _).weak (by omega) (aU _)
   |false=>exact(Hy T a b w n _ _).weak (aU _) (by omega)
  rw[iN h];exact .nil
def kB.length{lb:Nat}(h:kB la lb i k l)(hi:i<=la):l.length+i<=la:=by
 induction h with
 |nil=>simpa using hi
 |cons a b c d e ih=>
  have:=ih (by omega);simp only[cP];omega
def jx(a b:List ak):List (Nat×Nat):=na (xq a b (b.length+1) a.length (ui ((a.length+1)*(b.length+1)) 0)) a b (b.length+1) (a.length+b.length) 0 0
def sj(a b:List ak):kB a.length b.length 0 0 (jx a b):=Hy _ _ _ _ _ _ _
def NN(a b:List ak)(w:Nat): ∀(i:Nat) (T:List Int),(xq a b w i T).length=T.length
 |0,_=>rfl
 |i+1,T=>by rw[xq,NN a b w i,L2]
variable{a:ae}
def Yp{b:ae}(h:ev e x=some (.agg [a,b]))(s:St):cx ar 429 1 [(0,x)] false e s=some (.list 2 [.agg [a,b]] .GE,s):=by
 simp only[ce,jR,cx,OJ,cS,evc,h,nP,eW,kQ,bu,kR,aG,jg,fW,cut];rfl
section
variable{sp:bC}(h183:sp 461=none){va vb:ae}{a b:List ak}(ha:aD 1 aF va a)(hb:aD 1 aF vb b)(sa:a.length<=2000)(sb:b.length<=2000){bw ba row:Nat}
include h183 ha hb sa sb
def XD: ∀(i:Nat) (e:aI) (lc:Ag.Loc) (s:St) (T:List Int),i<=a.length->nU s bw ba row (b.length+1) T->T.length=(a.length+1)*(b.length+1)->
 aj e 0=va->aj e 1=vb->aj e 7= .func (.func 461) [] [.ptr ba 0,.ptr bw 0]->aj e 8= .int .i64 ((i:Int)-1)->
 W (QS sp) 375 (.loop Rb) ⟨e,130,lc⟩ s fun x fr s'=>x= .exit 0/\fr.size=130/\AV e fr.env/\nU s' bw ba row (b.length+1) (xq a b (b.length+1) i T)/\s'.al=s.al/\s'.ci=s.ci:=by
 have cb:=hb.aL;have hlen:=fun mk s=>hb.len dB dH mk s;intro i
 induction i with
 |zero=>
  intro e lc s T hi t hT h0 h1 h7 h8;have hge:ec 0 ((0:Nat)-1:Int)=false:=rfl;refine bV ?_;refine aC (aC (bH ?_));simp only[ai,aA,ah,h8,hge];refine cJ (dL ?_);exact⟨rfl,rfl,⟨by simp only[au,aa, *],by simp only[au,aa, *],by simp only[au,aa, *]⟩,t,rfl,rfl⟩
 |succ i ih=>
  intro e lc s T hi t hT h0 h1 h7 h8;have hge:ec 0 (((i+1:Nat):Int)-1)=true:=by rw[show(((i+1:Nat):Int)-1)=((i:Nat):Int) by omega,show(0:Int)=((0:Nat):Int) from rfl,lj];simp
  have e8:aj e 8= .int .i64 (i:Nat):=by rw[h8];congr 1;omega
  have w1:IntKind.i64.wrap ((b.length:Int)-1)=(b.length:Int)-1:=lC (by omega) (by omega);have w2:IntKind.i64.wrap ((i:Int)-1)=(i:Int)-1:=lC (by omega) (by omega);refine bV ?_;refine aC (aC (bH ?_));simp only[ai,aA,ah,h8,hge];refine bU (cL ?_);simp only[bM];refine aC (bL (aw ?_));simp only[ai,aa,ah,wd,h1,cb,hlen,w1];refine bL ?_;refine jr (amZ h183 ha hb sa sb (i:=i) (by omega) b.length _ lc s T (aU _) t hT ?_ ?_ ?_ ?_ ?_) ?_;simp only[au,aa, *];simp only[au,aa, *];simp only[au,aa, *];simp only[au,aa];exact e8;simp only[ik,aa];rintro x ⟨e',sz',lc'⟩ s' ⟨rfl,hs,kp,g8,t',hn,hc⟩;have hs:sz'=130:=hs;subst hs;have g8:aj e' 8= .int .i64 i:=g8;have k0:aj e' 0=va:=kp.h0.trans (by simp only[au,aa, *]);have k1:aj e' 1=vb:=kp.h1.trans (by simp only[au,aa, *]);have k7:aj e' 7= .func (.func 461) [] [.ptr ba 0,.ptr bw 0]:=kp.h7.trans (by simp only[au,aa, *]);show W (QS sp) 375 _ _ _ _;refine bH ?_;simp only[ai,aA,aa,ah,g8,w2];refine jr (ih _ lc' s' _ (by omega) t' (by rw[L2];exact hT) ?_ ?_ ?_ ?_) ?_;simp only[au,aa, *];simp only[au,aa, *];simp only[au,aa, *];simp only[ik,aa];rintro x ⟨e2,sz2,lc2⟩ s2 ⟨rfl,hs,kp2,t2,hn2,hc2⟩;refine⟨rfl,hs,⟨kp2.h0.trans ?_,kp2.h1.trans ?_,kp2.h7.trans ?_⟩,t2,hn2.trans hn,hc2.trans hc⟩;simp only[au,aa,k0,h0];simp only[au,aa,k1,h1];simp only[au,aa,k7,h7]
def apt(hT:T.length=(a.length+1)*(b.length+1))(hlo:bw<lo/\ba<lo/\row<lo): ∀(n i k:Nat) (e:aI) (lc:Ag.Loc) (s:St) (ov:ae) (acc:List (Nat×Nat)),a.length+b.length<=n+(i+k)->acc.length<=i->nU s bw ba row (b.length+1) T->lo<=s.al->cE 2 lo s ov (acc.map rd)->
 aj e 0=va->aj e 1=vb->aj e 7= .func (.func 461) [] [.ptr ba 0,.ptr bw 0]->aj e 10=ov->aj e 11= .int .i64 i->aj e 12= .int .i64 k->i<=a.length->k<=b.length->
 W (QS sp) 375 (.loop Kv) ⟨e,130,lc⟩ s fun x fr s'=>x= .exit 4/\fr.size=130/\ ∃ov',aj fr.env 10=ov'/\cE 2 lo s' ov' ((acc++na T a b (b.length+1) n i k).map rd)/\s'.ci=s.ci:=by
 have ca:=ha.aL;have cb:=hb.aL;have hla:=fun mk s=>ha.len dB dH mk s;have hlb:=fun mk s=>hb.len dB dH mk s;have stop: ∀(n i k:Nat) (e:aI) (lc:Ag.Loc) (s:St) (ov:ae) (acc:List (Nat×Nat)), ¬(i<a.length/\k<b.length)->cE 2 lo s ov (acc.map rd)->aj e 0=va->aj e 1=vb->aj e 10=ov->aj e 11= .int .i64 i->aj e 12= .int .i64 k->
  W (QS sp) 375 (.loop Kv) ⟨e,130,lc⟩ s fun x fr s'=>x= .exit 4/\fr.size=130/\ ∃ov',aj fr.env 10=ov'/\cE 2 lo s' ov' (acc.map rd)/\s'.ci=s.ci:=by
  intro n i k e lc s ov acc hik hO h0 h1 h10 h11 h12;refine bV ?_;refine aC (aC (bH ?_));by_cases hi:i<a.length;have hk: ¬k<b.length:=fun h=>hik ⟨hi,h⟩;simp only[ai,aA,aa,ah,wd,h0,h1,h11,h12,ca,cb,hla,hlb,hi,hk];refine cJ (dL ⟨rfl,rfl,ov,?_,hO,rfl⟩);simp only[au,aa,h10];simp only[ai,aA,aa,ah,wd,h0,h11,ca,hla,hi];refine cJ (dL ⟨rfl,rfl,ov,?_,hO,rfl⟩);simp only[au,aa,h10]
 intro n
 induction n with
 |zero=>
  intro i k e lc s ov acc hn hac t hls hO h0 h1 h7 h10 h11 h12 hia hkb
  have:=stop 0 i k e lc s ov acc (by omega) hO h0 h1 h10 h11 h12;simpa[na] using this
 |succ n ih=>
  intro i k e lc s ov acc hn hac t hls hO h0 h1 h7 h10 h11 h12 hia hkb;by_cases hik:i<a.length/\k<b.length;obtain⟨hi,hk⟩:=hik;have hu:a[i]? =some a[i]:=gL hi;have hv:b[k]? =some b[k]:=gL hk;have hja:=fun lc=>ha.at gR hu lc .i64;have hjb:=fun lc=>hb.at gR hv lc .i64;have wi:=eE (n:=i) (by omega);have wk:=eE (n:=k) (by omega);have hN:(a.length+1)*(b.length+1)<=2001*2001:=Nat.mul_le_mul (by omega) (by omega);have hT2:T.length<100000000:=by omega
  have q0:(i+1)*(b.length+1)+(b.length+1)<=(a.length+1)*(b.length+1):=by
   have:=uj (b.length+1) (show i+1+1<=a.length+1 by omega);rw[oI,Nat.one_mul] at this;exact this
  have q00:(i+1)*(b.length+1)=i*(b.length+1)+(b.length+1):=by rw[oI,Nat.one_mul]
  have p0:i*(b.length+1)+k<T.length:=by omega
  have p2:(i+1)*(b.length+1)+k<T.length:=by omega
  have hrow:=t.hr;have hwalk:na T a b (b.length+1) (n+1) i k=bif(a[i]?).getD []==(b[k]?).getD [] then(i,k)::na T a b (b.length+1) n (i+1) (k+1) else bif aK (up T ((i+1)*(b.length+1)+k)) (up T (i*(b.length+1)+k)) then na T a b (b.length+1) n (i+1) k else na T a b (b.length+1) n i (k+1):=by
   simp only[na];rw[iP ⟨hi,hk⟩]
  refine bV ?_;refine aC (aC (bH ?_));simp only[ai,aA,aa,ah,wd,h0,h1,h11,h12,ca,cb,hla,hlb,hi,hk];refine bU (cL ?_);simp only[bM];refine bL (bL (aC (W.drawQ t.ge ?_)));simp only[ai,ax,aA,isStore,ay,aa,ah,h0,h1,h11,h12,hja,hjb,aF];cases hz:a[i]==b[k] with
  |true=>
   have hz0:((a[i]?).getD []==(b[k]?).getD [])=true:=by rw[hu,hv];exact hz
   rw[hz0,cT] at hwalk;have hbs: ∀e s,aj e 105= .agg [.int .i64 (i:Nat),.int .i64 (k:Nat)]->cx ar 429 1 [(0,.tmp 105)] false e s=some (.list 2 [.agg [.int .i64 (i:Nat),.int .i64 (k:Nat)]] .GE,s):=fun e s h=>Yp (by rw[bq,h]) s;have hbd: ∀e,aj e 103= .int .i64 (i:Nat)->aj e 104= .int .i64 (k:Nat)->eV ar 432 [(0,.tmp 103),(1,.tmp 104)] e=some (.agg [.int .i64 (i:Nat),.int .i64 (k:Nat)]):=fun e p q=>by
    rw[X2];simp only[ce,We,cS,evc,ev,p,q,Ba];rfl
   obtain⟨ov',s',happ,hO',hc',hn',hm',hold,hcell⟩:=tf OJ rfl (by decide) (y:=.list 2 [.agg [.int .i64 (i:Nat),.int .i64 (k:Nat)]] .GE) (ys:=[rd (i,k)]) hO rfl (by rw[cZ,rB];omega) hls t.ge;have hoc:=hO.aL;have hoc':=hO'.aL;have t':nU s' bw ba row (b.length+1) T:=⟨(hold _ hlo.1).trans t.hw,(hold _ hlo.2.1).trans t.ha,(hold _ hlo.2.2).trans t.hr,t.ne,hm'⟩;refine bU (aC (bH ?_));simp only[ai,ax,aA,aa,ah,wd,h10,h11,h12,hoc,hbd,hbs,happ];refine bH ?_;simp only[ai,aA,aa,ah,h11,h12,wi,wk];refine jr (ih (i+1) (k+1) _ lc s' ov' (acc++[(i,k)]) (by omega) (by rw[dX,rB];omega) t' (by omega) (by rw[je];exact hO') ?_ ?_ ?_ ?_ ?_ ?_ (by omega) (by omega)) ?_;simp only[au,aa, *];simp only[au,aa, *];simp only[au,aa, *];simp only[aq,aa];simp only[aq,aa];simp only[aq,aa];rintro x fr s2 ⟨rfl,g1,ov2,g2,g3,g4⟩;refine⟨rfl,g1,ov2,g2,?_,g4.trans hc'⟩;rw[hwalk];rw[List.append_assoc] at g3;exact g3
  |false=>
   have hz0:((a[i]?).getD []==(b[k]?).getD [])=false:=by rw[hu,hv];exact hz
   rw[hz0,cF] at hwalk;have hup2:=CL p2;have hup0:=CL p0;have hrt:s.top.get [] row=some (.cells (T.map my)):=hrow;simp only[my] at hup2 hup0 hrt;refine cJ ?_;refine aC (W.drawD ?_);rw[show xU=xU.take 4++(xU.drop 4) from(oH 4 _).symm];refine WD.calmOps t.ge (fun _ h=>by cases h) (fun _ h=>by cases h) ?_;simp only[ai,isStore,aN,ay,aa,ah,aG,h7,h11,h12,wi];intro rs1 c1 i1;refine WD.calmCall t.ge (g:=461) (args:=[.int .i64 ((i+1:Nat):Int),.int .i64 (k:Nat),.ptr ba 0,.ptr bw 0]) c1 i1 ?_ (xy h183 t.top p2 hT2) (by decide) (fun rs2 c2 i2=>?_);rw[xC (ba:=ba) (bw:=bw) (by simp only[aq,bq,aa])];simp only[ai,aa];refine WD.calmOps (l1:=xU.drop 5|>.take 5) (l2:=xU.drop 10) t.ge c2 i2 ?_;simp only[ai,ax,isStore,aN,ay,aa,ah,aG,h7,h11,h12,fB,cO,hrt,cN,hup2,aN,ay];intro rs3 c3 i3;refine WD.calmCall t.ge (g:=461) (args:=[.int .i64 (i:Nat),.int .i64 (k:Nat),.ptr ba 0,.ptr bw 0]) c3 i3 ?_ (xy h183 t.top p0 hT2) (by decide) (fun rs4 c4 i4=>?_);rw[xC (ba:=ba) (bw:=bw) (by simp only[aq,bq,aa])];simp only[ai,aa];refine WD.calmOps (l1:=xU.drop 11) (l2:=[]) t.ge c4 i4 ?_;simp only[ai,ax,isStore,ay,aa,ah,aG,fB,cO,hrt,cN,hup0,XU,ay];intro rs5 c5 i5;refine WD.nil ?_;simp only[bM];cases hy:aK (up T ((i+1)*(b.length+1)+k)) (up T (i*(b.length+1)+k)) with
   |true=>
    rw[hy,cT] at hwalk;refine bU (bH ?_);simp only[ai,aA,aa,ah,h11,wi];refine jr (ih (i+1) k _ lc s ov acc (by omega) (by omega) t hls hO ?_ ?_ ?_ ?_ ?_ ?_ (by omega) (by omega)) ?_;simp only[au,aa, *];simp only[au,aa, *];simp only[au,aa, *];simp only[au,aa, *];simp only[aq,aa];simp only[au,aa, *];rintro x fr s2 ⟨rfl,g1,ov2,g2,g3,g4⟩;exact⟨rfl,g1,ov2,g2,by rw[hwalk];exact g3,g4⟩
   |false=>
    rw[hy,cF] at hwalk;refine cJ (bH ?_);simp only[ai,aA,aa,ah,h12,wk];refine jr (ih i (k+1) _ lc s ov acc (by omega) (by omega) t hls hO ?_ ?_ ?_ ?_ ?_ ?_ (by omega) (by omega)) ?_;simp only[au,aa, *];simp only[au,aa, *];simp only[au,aa, *];simp only[au,aa, *];simp only[au,aa, *];simp only[aq,aa];rintro x fr s2 ⟨rfl,g1,ov2,g2,g3,g4⟩;exact⟨rfl,g1,ov2,g2,by rw[hwalk];exact g3,g4⟩
  have hw:na T a b (b.length+1) (n+1) i k=[]:=by
   simp only[na];rw[iN hik]
  rw[hw,ii];exact stop 0 i k e lc s ov acc hik hO h0 h1 h10 h11 h12
end
variable{b:List ak}{va:ae}
def aiZ(h115:sp 375=none)(h183:sp 461=none){a:List ak}(ha:aD 1 aF va a)(hb:aD 1 aF vb b)(sa:a.length<=2000)(sb:b.length<=2000)(hm:s.ge<=s.al):
 ∃ov s',aM (QS sp) 375 [va,vb] s ov s'/\cE 2 (s.al+3) s' ov ((jx a b).map rd)/\s'.ci=s.ci:=by
 have ca:=ha.aL;have cb:=hb.aL;have hla:=fun mk s=>ha.len dB dH mk s;have hlb:=fun mk s=>hb.len dB dH mk s;have wa:=eE (n:=a.length) (by omega);have wb:=eE (n:=b.length) (by omega);have wa1:IntKind.i64.wrap ((a.length:Int)-1)=(a.length:Int)-1:=lC (by omega) (by omega);have hN:(a.length+1)*(b.length+1)<=2001*2001:=Nat.mul_le_mul (by omega) (by omega);have hN0:0<(a.length+1)*(b.length+1):=Nat.mul_pos (by omega) (by omega);have wm:IntKind.i64.wrap (((a.length+1:Nat):Int)*((b.length+1:Nat):Int))=(((a.length+1)*(b.length+1):Nat):Int):=by
  rw[<-Int.natCast_mul,lC (by omega) (by omega)]
 have hmk:=fun s=>ajJ hN0 (by omega) s;refine aM.ofEx Fi.1 Fi.2 Fi.3 Fi.4 h115 ?_;refine aw ?_;simp only[ai,bv,bt,ah,aG,aV,ofValue,aX];refine aw ?_;have hself:(s.new (.cells [.int .i64 0])).get [] s.al=some (.cells [.int .i64 0]):=by rw[cp,bS];rfl
 simp only[ai,ax,bu,aN,ay,aa,ah,aV,wd,cb,hlb,wb,kg,hself,kf];obtain⟨s1,hs1⟩: ∃x,x=(s.new (.cells [.int .i64 0])).put s.al (some (.cells [.int .i64 ((b.length+1:Nat):Int)])):=⟨_,rfl⟩;rw[<-hs1];have hw1:s1.get [] s.al=some (.cells [.int .i64 ((b.length+1:Nat):Int)]):=by rw[hs1,bO,bS];rfl
 have n1:s1.al=s.al+1:=by rw[hs1];rfl
 have m1:s1.ge<=s1.al:=by rw[hs1];exact ji _ _ _ (ky hm)
 have c1:s1.ci=s.ci:=by rw[hs1];rfl
 refine aw ?_;have hself2: ∀o,((s1.new o).new (.cells [.AL])).get [] (s1.al+1)=some (.cells [.AL]):=fun o=>by rw[cp,jy,bS];rfl
 simp only[ai,ax,bu,aN,ay,aa,ah,aV,wd,ca,hla,wa,cO,hw1,cN,N5,wm,GS,hmk,zf,Dm,zc,jy,kg,hself2,kf];obtain⟨s3,hs3⟩: ∃x,x=((s1.new (.cells ((ui ((a.length+1)*(b.length+1)) 0).map my))).new (.cells [.AL])).put (s1.al+1) (some (.cells [.arr 1 s1.al 0 ((a.length+1)*(b.length+1)) ((a.length+1)*(b.length+1))])):=⟨_,rfl⟩;rw[<-hs3];have n3:s3.al=s1.al+2:=by rw[hs3];rfl
 have c3:s3.ci=s.ci:=by rw[hs3];exact c1
 have t3:nU s3 s.al (s1.al+1) s1.al (b.length+1) (ui ((a.length+1)*(b.length+1)) 0):=by
  have hg: ∀n,n<s1.al->s3.get [] n=s1.get [] n:=fun n h=>by
   rw[hs3,bO,bN.2 (by omega:n≠s1.al+1),cF,cp,jy,bN.2 (by omega:n≠s1.al+1),cF,cp,bN.2 (by omega:n≠s1.al)];rfl
  refine⟨(hg _ (by omega)).trans hw1,?_,?_,⟨by omega,by omega⟩,?_⟩;rw[hs3,bO,bS,CS];rfl;rw[hs3,bO,bN.2 (by omega:s1.al≠s1.al+1),cF,cp,jy,bN.2 (by omega:s1.al≠s1.al+1),cF,cp,bS];rfl;rw[hs3];exact ji _ _ _ (by show s1.ge<=s1.al+1+1;omega)
 refine aw ?_;simp only[ai,aa,ah,si];refine aC (aw ?_);simp only[ai,aa,ah,wd,ca,hla,wa1];refine bL ?_;refine jr (XD h183 ha hb sa sb a.length _ _ s3 _ (aU _) t3 (CS ..) ?_ ?_ ?_ ?_) ?_;simp only[aq,aa, *];simp only[aq,aa, *];simp only[aq,aa, *];simp only[aq,aa, *];rintro x ⟨e,sz,lc⟩ s4 ⟨rfl,hs,kp,t4,n4,c4⟩;have hs:sz=130:=hs;subst hs;have k0:aj e 0=va:=kp.h0.trans (by simp only[aq,aa, *]);have k1:aj e 1=vb:=kp.h1.trans (by simp only[aq,aa, *]);have k7:aj e 7= .func (.func 461) [] [.ptr (s1.al+1) 0,.ptr s.al 0]:=kp.h7.trans (by simp only[aq,aa, *]);show W (QS sp) 375 _ _ _ _;refine aw ?_;simp only[cG,ah,ofValue,aX];refine aC (aw ?_);simp only[cG,hQ,ah];refine bL ?_;refine jr (apt h183 ha hb sa sb (T:=xq a b (b.length+1) a.length (ui ((a.length+1)*(b.length+1)) 0)) (by rw[NN,CS]) (lo:=s.al+3) ⟨by omega,by omega,by omega⟩ (a.length+b.length) 0 0 _ _ s4 .AL [] (by omega) (aU _) t4 (by omega) (.inl ⟨rfl,rfl⟩) ?_ ?_ ?_ ?_ ?_ ?_ (cV _) (cV _)) ?_;simp only[au,aa, *];simp only[au,aa, *];simp only[au,aa, *];simp only[aq,aa, *];simp only[aq,aa];rfl;simp only[aq,aa];rfl;rintro x ⟨e2,sz2,lc2⟩ s5 ⟨rfl,hs,ov,h10,hO,c5⟩;have hs:sz2=130:=hs;subst hs;have h10:aj e2 10=ov:=h10;have hoc:=hO.aL;show W (QS sp) 375 _ _ _ _;refine aw ?_;simp only[ai,ah,h10];exact bo ⟨.inr rfl,ov,bz (by simp only[aq,aa, *]) hoc,hO,c5.trans (c4.trans c3)⟩
def KU(l:List (Nat×Nat)):ae:=match l with
 | []=>.AL
 |l=>.list 2 (l.map rd) .no
def Sb(l:List (Nat×Nat)):aD 2 rd (KU l) l:=by
 cases l with
 |nil=>exact .inl ⟨rfl,rfl⟩
 |cons a l=>exact .inr ⟨.no,rfl⟩
def pures_all{l:List ae}(h: ∀v∈l,aQ v=true):pures l=true:=by
 induction l with
 |nil=>rfl
 |cons a l ih=>
  show(aQ a&&pures l)=true;rw[h a (by simp),ih fun v hv=>h v (by simp[hv])];rfl
def fv(sz:Nat):List ae->ae
 | []=>.AL
 |x::l=>.list sz (x::l) .no
variable{h:aZ bf}
def uL(hO:cE sz lo s ov xs)(hx: ∀v∈xs,cj h k v=some v):cj h (k+1) ov=some (fv sz xs):=by
 rcases hO with⟨rfl,rfl⟩|⟨hne,n,rfl,_⟩
 rfl;show(de (cj h k) xs).bind (fun ys=>some (ae.list sz ys .no))=_;rw[uJ hx];cases xs with
 |nil=>exact absurd rfl hne
 |cons a l=>rfl
def zR:Sp
 | [u,v]=>bif pures [u,v] then(fF 1 mS u).bind fun a=>(fF 1 mS v).bind fun b=>bif br a.length 2000&&br b.length 2000 then some (KU (jx a b)) else none else none
 |_=>none
def SJ{a:List ak}(ha:aD 1 aF va a)(hb:aD 1 aF vb b)(pa:aQ va=true)(pb:aQ vb=true)(sa:a.length<=2000)(sb:b.length<=2000):zR [va,vb]=some (KU (jx a b)):=by
 have h1:br a.length 2000=true:=cu sa;have h2:br b.length 2000=true:=cu sb;simp only[ce,zR,pures,pa,pb,cH,i8 p8 ha,i8 p8 hb,h1,h2]
def aiX:cq ar 375 zR:=by
 intro args x hv G h w xs wr hx;unfold zR at hv;split at hv;rename_i u v;obtain⟨hp,hv⟩:=bm hv;simp only[az] at hv;obtain⟨a,h1,b,h2,hv⟩:=hv;obtain⟨hs,hv⟩:=bm hv;injection hv with hv;subst hv
 simp only[bA] at hs;have ha:=ij (fun v a=>pZ) h1;have hb:=ij (fun v a=>pZ) h2;obtain⟨ov,s',r1,r2,r3⟩:=aiZ (sp:=fun f=>cI f []) rfl rfl ha hb (eG hs.1) (eG hs.2) (s:=s0) (aU _);refine eA (Q:=QT []) (ep .nil) (fun _=>eH 1) (args:=[u,v]) (v:=ov) (s':=s') (kh hp) (by rw[gK hp];exact r1) r3 ⟨3,?_⟩ G h w xs wr hx;rw[uL r2 (k:=2) fun v hv=>?_];cases jx a b<;>rfl;obtain⟨p,_,rfl⟩:=List.mem_map.1 hv;rfl;cases hv
def e7(k:Nat):List (Nat×Nat)->Option Nat
 | []=>none
 |(a,b)::l=>bif aJ k a then some b else e7 k l
def nY(n:Nat):List (Nat×Nat)->List cw
 | []=>[]
 |(a,b)::l=>⟨.int .i64 a,.int .i64 b,n⟩::nY (n+1) l
def R0(n:Int):qm ar 132 (.int .i64 n)=some (3,3):=by kernel_rfl
def aaj(a b:Int):lL ar 8 3 (.int .i64 a) (.int .i64 b)=some (aK a b):=by kernel_rfl
def adN(a b:Nat):aK (a:Int) (b:Int)=aJ a b:=by
 rw[o8,fe]
def Jc(k:Nat): ∀(l:List (Nat×Nat)) (n i:Nat),(e7 k l=none->lN ar 3 (.int .i64 k) (nY n l) i=some none)/\ ∀v,e7 k l=some v-> ∃j e,lN ar 3 (.int .i64 k) (nY n l) i=some (some (j,e))/\e.val= .int .i64 v
 | [],n,i=>⟨fun _=>rfl,fun v h=>by cases h⟩
 |(a,b)::l,n,i=>by
  obtain⟨h1,h2⟩:=Jc k l (n+1) (i+1);simp only[e7,nY,lN,aaj,adN,bn];cases aJ k a with
  |true=>exact⟨fun h=>(by cases h),fun v h=>⟨i,_,rfl,(by injection h with h;subst h;rfl)⟩⟩
  |false=>exact⟨h1,h2⟩
def OO: ∀(l r:List (Nat×Nat)) (n:Nat),nY n (l++r)=nY n l++nY (n+l.length) r
 | [],r,n=>rfl
 |(a,b)::l,r,n=>by simp only[mJ,nY,OO l r (n+1),cP];congr 3;omega
variable{m:Nat}
def apb(hs:s.get [] m=some (.map (nY 0 l) l.length)){v:Nat}(hk:e7 k l=none):
 nM ar [] 132 (.map m) (.int .i64 k) (.int .i64 v) s=some (s.put m (some (.map (nY 0 (l++[(k,v)])) (l++[(k,v)]).length))):=by
 simp only[cK,nM,R0,bn,hs,(Jc k l 0 0).1 hk,OO,nY,Nat.zero_add]
def aqe:ek ar 3=some (.int .i64 0):=by kernel_rfl
def F3(o:Option Nat):ae:=match o with
 |some v=>.tup [.int .i64 v,.bool true]
 |none=>.tup [.int .i64 0,.bool false]
def aiK{c:Nat}(hs:s.get [] m=some (.map (nY 0 l) c))(k:Nat):mU ar [] 132 (.map m) (.int .i64 k) true s=some (F3 (e7 k l)):=by
 obtain⟨h1,h2⟩:=Jc k l 0 0;simp only[mU,R0,bn,aqe,B3,hs];cases h:e7 k l with
 |none=>rw[h1 h];rfl
 |some v=>
  obtain⟨j,e,h3,h4⟩:=h2 v h;rw[h3];simp only[ce,h4,F3]
def iB(W:List (Nat×Nat)):List (Nat×Nat)->List (Nat×Nat×Nat)
 | []=>[]
 |(a,b)::l=>match e7 a W with
  |some k=>(a,b,k)::iB W l
  |none=>iB W l
inductive nT (la lb lc:Nat):Nat->Nat->Nat->List (Nat×Nat×Nat)->Prop
 |nil {i j k:Nat}:nT la lb lc i j k []
 |cons {i j k p q r:Nat} {l:List (Nat×Nat×Nat)}:i<=p->j<=q->k<=r->p<=la->q<=lb->r<=lc->nT la lb lc (p+1) (q+1) (r+1) l->nT la lb lc i j k ((p,q,r)::l)
def nT.weak{lb lc j i' j' k':Nat}{l:List (Nat×Nat×Nat)}(h:nT la lb lc i j k l)(hi:i'<=i)(hj:j'<=j)(hk:k'<=k):nT la lb lc i' j' k' l:=by
 cases h with
 |nil=>exact .nil
 |cons a b c d e f g=>exact .cons (by omega) (by omega) (by omega) d e f g
def BZ{la lc:Nat}: ∀ {W:List (Nat×Nat)} {i k:Nat},kB la lc i k W-> ∀ {p r:Nat},e7 p W=some r->i<=p/\k<=r/\r<lc
 | [],i,k,_,p,r,h=>by cases h
 |(a,b)::W,i,k,hr,p,r,h=>by
  cases hr with
  |cons h1 h2 h3 h4 h5=>
   simp only[e7] at h;cases hb:aJ p a with
   |true=>
    rw[hb] at h
    have:=iw hb;injection h with h
    subst this;subst h;exact⟨h1,h2,h4⟩
   |false=>
    rw[hb] at h
    have:=BZ h5 h;omega
def Sr{la lc:Nat}: ∀ {W:List (Nat×Nat)} {i k:Nat},kB la lc i k W-> ∀ {p p' r r':Nat},e7 p W=some r->e7 p' W=some r'->p<p'->r<r'
 | [],i,k,_,p,p',r,r',h,_,_=>by cases h
 |(a,b)::W,i,k,hr,p,p',r,r',h,h',hp=>by
  cases hr with
  |cons h1 h2 h3 h4 h5=>
   simp only[e7] at h h';cases hb':aJ p' a with
   |true=>
    have:=iw hb';cases hb:aJ p a with
    |true=>have:=iw hb;omega
    |false=>rw[hb] at h;have:=BZ h5 h;omega
   |false=>
    rw[hb'] at h';cases hb:aJ p a with
    |true=>
     rw[hb] at h;injection h with h
     have:=BZ h5 h';omega
    |false=>rw[hb] at h;exact Sr h5 h h' hp
def Mo{la lb lc:Nat}{W:List (Nat×Nat)}{i0 k0:Nat}(hW:kB la lc i0 k0 W): ∀ {M:List (Nat×Nat)} {i j k:Nat},kB la lb i j M->(∀p r,i<=p->e7 p W=some r->k<=r)->nT la lb lc i j k (iB W M)
 | [],i,j,k,_,_=>.nil
 |(a,b)::M,i,j,k,hM,hk=>by
  cases hM with
  |cons h1 h2 h3 h4 h5=>
   simp only[iB];cases h:e7 a W with
   |none=>exact(Mo hW h5 fun p r hp hr=>hk p r (by omega) hr).weak (by omega) (by omega) (aU _)
   |some r=>
    refine .cons h1 h2 (hk a r h1 h) (by omega) (by omega) (by have:=(BZ hW h).2.2;omega) (Mo hW h5 fun p r' hp hr=>?_);exact Sr hW h hr (by omega)
def Ux{la lb lc:Nat}: ∀ {l:List (Nat×Nat×Nat)} {i j k:Nat},nT la lb lc i j k l->(∀p q r,(p,q,r)∈l->p<la/\q<lb/\r<lc)->i<=la->j<=lb->k<=lc->nT la lb lc i j k (l++[(la,lb,lc)])
 | [],i,j,k,_,_,hi,hj,hk=>.cons hi hj hk (aU _) (aU _) (aU _) .nil
 |(p,q,r)::l,i,j,k,h,hl,hi,hj,hk=>by
  cases h with
  |cons a b c d e f g=>
   obtain⟨x1,x2,x3⟩:=hl p q r (by simp);exact .cons a b c d e f (Ux g (fun p q r h=>hl p q r (by simp[h])) (by omega) (by omega) (by omega))
def Uy{la lb:Nat}: ∀ {M:List (Nat×Nat)} {i j:Nat},kB la lb i j M-> ∀p q,(p,q)∈M->p<la/\q<lb
 | [],i,j,_,p,q,h=>by cases h
 |(a,b)::M,i,j,hM,p,q,h=>by
  cases hM with
  |cons h1 h2 h3 h4 h5=>
   rcases cQ.1 h with h|h
   cases h;exact⟨h3,h4⟩;exact Uy h5 p q h
def Mn{W:List (Nat×Nat)}: ∀ {M:List (Nat×Nat)} {p q r:Nat},(p,q,r)∈iB W M->(p,q)∈M/\e7 p W=some r
 | [],p,q,r,h=>by cases h
 |(a,b)::M,p,q,r,h=>by
  simp only[iB] at h;cases hl:e7 a W with
  |none=>
   rw[hl] at h
   have:=Mn h;exact⟨by simp[this.1],this.2⟩
  |some k=>
   rw[hl] at h;rcases cQ.1 h with h|h
   cases h;exact⟨by simp,hl⟩
   have:=Mn h;exact⟨by simp[this.1],this.2⟩
def rM(b o t:List ak):List (Nat×Nat×Nat):=iB (jx b t) (jx b o)++[(b.length,o.length,t.length)]
def Io(b o t:List ak):nT b.length o.length t.length 0 0 0 (rM b o t):=by
 refine Ux (Mo (sj b t) (sj b o) fun _ _ _ _=>cV _) (fun p q r h=>?_) (cV _) (cV _) (cV _);obtain⟨h1,h2⟩:=Mn h;have h3:=Uy (sj b o) p q h1;exact⟨h3.1,h3.2,(BZ (sj b t) h2).2.2⟩
def Ss{la lc:Nat}: ∀ {pre:List (Nat×Nat)} {i k p r:Nat} {rest:List (Nat×Nat)},kB la lc i k (pre++(p,r)::rest)->e7 p pre=none
 | [],_,_,_,_,_,_=>rfl
 |(a,b)::pre,i,k,p,r,rest,h=>by
  cases h with
  |cons h1 h2 h3 h4 h5=>
   have ih:=Ss h5;have:a<p:=by
    have: ∀ {l:List (Nat×Nat)} {i k:Nat},kB la lc i k l-> ∀x∈l,i<=x.1:=by
     intro l
     induction l with
     |nil=>intro i k _ x hx;cases hx
     |cons y l ihl=>
      intro i k hr x hx;cases hr with
      |cons a1 a2 a3 a4 a5=>
       rcases cQ.1 hx with rfl|hx
       exact a1
       have:=ihl a5 x hx;omega
    have:=this h5 (p,r) (by simp);exact this
   have hb:aJ p a=false:=by rw[fe];exact bN.2 (by omega)
   simp only[e7,hb,cF,ih]
def wU(p:Nat×Nat×Nat):ae:=.agg [.int .i64 p.1,.int .i64 p.2.1,.int .i64 p.2.2]
def N8{b c:ae}(h:ev e x=some (.agg [a,b,c]))(s:St):cx ar 433 1 [(0,x)] false e s=some (.list 3 [.agg [a,b,c]] .GE,s):=by
 simp only[ce,jR,cx,IW,cS,evc,h,nP,eW,kQ,bu,kR,aG,jg,fW,cut];rfl
variable{mW:Nat}
section
variable{sp:bC}{va:ae}
def apJ{lc0:Nat}{Wl:List (Nat×Nat)}(hv:aD 2 rd v Wl)(hr:kB la lc0 0 0 Wl)(hW:Wl.length<=2000): ∀(rest pre:List (Nat×Nat)) (e:aI) (lc:Ag.Loc) (s:St),Wl=pre++rest->s.ge<=s.al->mW<s.al->s.get [] mW=some (.map (nY 0 pre) pre.length)->
 aj e 8= .map mW->aj e 34=v->aj e 35= .int .i64 (Wl.length:Nat)->aj e 36= .int .i64 (pre.length:Nat)->
 W (QS sp) 280 (.loop QP) ⟨e,147,lc⟩ s fun x fr s'=>x= .exit 0/\ ∃e' lc',fr=⟨e',147,lc'⟩/\lc'.gen 19=lc.gen 19/\(aj e' 0=aj e 0/\aj e' 1=aj e 1/\aj e' 2=aj e 2/\aj e' 8=aj e 8)/\s'.get [] mW=some (.map (nY 0 Wl) Wl.length)/\s'.al=s.al/\s'.ge<=s'.al/\s'.ci=s.ci:=by
 intro rest;have hcl:=hv.aL
 induction rest with
 |nil=>
  intro pre e lc s hpre hm hlt hs h8 h34 h35 h36;have hl:Wl.length=pre.length:=by rw[hpre];simp
  have hpp:pre=Wl:=by rw[hpre];simp
  rw[hpp] at hs;refine bV ?_;refine aw ?_;simp only[ai,ah,h35,h36,hl,cR];refine aC (cJ ?_);rw[hl] at hs;exact dL ⟨rfl,_,_,rfl,rfl,⟨by simp only[au,aa, *],by simp only[au,aa, *],by simp only[au,aa, *],by simp only[au,aa, *]⟩,hs,rfl,hm,rfl⟩
 |cons q rest ih=>
  intro pre e lc s hpre hm hlt hs h8 h34 h35 h36;obtain⟨p,r⟩:=q;have hltp:pre.length<Wl.length:=by rw[hpre];simp
  have hat:Wl[pre.length]? =some (p,r):=by rw[hpre];simp
  have hia:=fun lc=>hv.at PS hat lc .i64;have hnone:e7 p pre=none:=Ss (by rw[hpre] at hr;exact hr);have hup:=apb hs (v:=r) hnone;have hwr:=eE (n:=pre.length) (by omega);refine bV ?_;refine aw ?_;simp only[ai,ah,h35,h36,hltp];refine aC (bU (cL ?_));simp only[bM];refine aC (bL (aw ?_));simp only[ai,ax,cut,bu,aN,ay,aa,ah,aG,aV,o0,h34,h36,hia,rd];refine bH ?_;simp only[ai,ax,aA,ay,aa,ah,h8,hup];refine bH ?_;simp only[ai,aA,aa,ah,h36,hwr];refine jr (ih (pre++[(p,r)]) _ _ _ (by rw[hpre];simp) ?_ hlt ?_ ?_ ?_ ?_ ?_) ?_;exact ji s mW _ hm;rw[bO,bS];rfl;simp only[au,aa, *];simp only[au,aa, *];simp only[au,aa, *];simp only[aq,cK,aa];rintro x fr s' ⟨rfl,e',lc',rfl,g19,⟨g0,g1,g2,g8⟩,q1,q2,q3,q4⟩;exact⟨rfl,e',lc',rfl,g19.trans (by simp only[eZ,aa,cF]),⟨g0.trans (by simp only[au,aa, *]),g1.trans (by simp only[au,aa, *]),g2.trans (by simp only[au,aa, *]),g8.trans (by simp only[au,aa, *])⟩,q1,q2,q3,q4⟩
def anW{_la _lb0:Nat}{M Wt:List (Nat×Nat)}(hv:aD 2 rd v M)(hM:M.length<=2000)(hmW:mW<lo): ∀(rest pre:List (Nat×Nat)) (e:aI) (lc:Ag.Loc) (s:St) (ov:ae),M=pre++rest->s.ge<=s.al->lo<=s.al->s.get [] mW=some (.map (nY 0 Wt) Wt.length)->cE 3 lo s ov ((iB Wt pre).map wU)->(iB Wt pre).length<=pre.length->
 aj e 8= .map mW->aj e 11=ov->aj e 48=v->aj e 49= .int .i64 (M.length:Nat)->aj e 50= .int .i64 (pre.length:Nat)->
 W (QS sp) 280 (.loop QQ) ⟨e,147,lc⟩ s fun x fr s'=>x= .exit 2/\ ∃e' lc' ov',fr=⟨e',147,lc'⟩/\lc'.gen 19=lc.gen 19/\(aj e' 0=aj e 0/\aj e' 1=aj e 1/\aj e' 2=aj e 2/\aj e' 11=ov')/\cE 3 lo s' ov' ((iB Wt M).map wU)/\(iB Wt M).length<=M.length/\s.al<=s'.al/\s'.ge<=s'.al/\s'.ci=s.ci:=by
 have stab_app: ∀(l r:List (Nat×Nat)),iB Wt (l++r)=iB Wt l++iB Wt r:=by
  intro l
  induction l with
  |nil=>intro r;rfl
  |cons a l ih=>
   intro r;obtain⟨x,y⟩:=a;simp only[mJ,iB,ih];cases e7 x Wt<;>rfl
 intro rest;have hcl:=hv.aL
 induction rest with
 |nil=>
  intro pre e lc s ov hpre hm hlo hs hO hlen h8 h11 h48 h49 h50;have hl:M.length=pre.length:=by rw[hpre];simp
  have hpp:pre=M:=by rw[hpre];simp
  refine bV ?_;refine aw ?_;simp only[ai,ah,h49,h50,hl,cR];refine aC (cJ ?_);rw[hpp] at hO hlen;exact dL ⟨rfl,_,_,ov,rfl,rfl,⟨by simp only[au,aa, *],by simp only[au,aa, *],by simp only[au,aa, *],by simp only[au,aa, *]⟩,hO,by first|exact hlen|(rw[<-hl];exact hlen)|(rw[hl];exact hlen),aU _,hm,rfl⟩
 |cons q rest ih=>
  intro pre e lc s ov hpre hm hlo hs hO hlen h8 h11 h48 h49 h50;obtain⟨p,r⟩:=q;have hltp:pre.length<M.length:=by rw[hpre];simp
  have hat:M[pre.length]? =some (p,r):=by rw[hpre];simp
  have hia:=fun lc=>hv.at PS hat lc .i64;have hlk:=aiK hs p;have hoc:=hO.aL;have hwr:=eE (n:=pre.length) (by omega);refine bV ?_;refine aw ?_;simp only[ai,ah,h49,h50,hltp];refine aC (bU (cL ?_));simp only[bM];refine aC (bL (aw ?_));simp only[ai,ax,cut,bu,aN,ay,aa,ah,aG,aV,o0,h48,h50,hia,rd];refine aw ?_;cases hz:e7 p Wt with
  |none=>
   have hst:iB Wt (pre++[(p,r)])=iB Wt pre:=by
    rw[stab_app];simp only[iB,hz,ii]
   rw[hz] at hlk;simp only[F3] at hlk;simp only[fG,ai,ax,ay,aa,ah,h8,hlk,dU];refine aw ?_;simp only[ai,aa,ah];refine dq ?_;simp only[dA];refine bH ?_;simp only[ai,aA,aa,ah,h50,hwr];refine jr (ih (pre++[(p,r)]) _ _ s ov (by rw[hpre];simp) hm hlo hs (by rw[hst];exact hO) (by rw[hst,dX];omega) ?_ ?_ ?_ ?_ ?_) ?_;simp only[au,aa, *];simp only[au,aa, *];simp only[au,aa, *];simp only[au,aa, *];simp only[aq,cK,aa];rintro x fr s' ⟨rfl,e',lc',ov',rfl,g19,⟨g0,g1,g2,g8⟩,q1,q2,q3,q4,q5⟩;exact⟨rfl,e',lc',ov',rfl,g19.trans (by simp only[eZ,aa,cF]),⟨g0.trans (by simp only[au,aa, *]),g1.trans (by simp only[au,aa, *]),g2.trans (by simp only[au,aa, *]),g8⟩,q1,q2,q3,q4,q5⟩
  |some k=>
   have hst:iB Wt (pre++[(p,r)])=iB Wt pre++[(p,r,k)]:=by
    rw[stab_app];simp only[iB,hz]
   have hbd: ∀e,aj e 64= .int .i64 (p:Nat)->aj e 66= .int .i64 (r:Nat)->aj e 67= .int .i64 (k:Nat)->eV ar 435 [(0,.tmp 64),(1,.tmp 66),(2,.tmp 67)] e=some (.agg [.int .i64 (p:Nat),.int .i64 (r:Nat),.int .i64 (k:Nat)]):=fun e p q r=>by
    rw[Iw];simp only[ce,HB,cS,evc,ev,p,q,r,Ba];rfl
   have hbs: ∀e s,aj e 68= .agg [.int .i64 (p:Nat),.int .i64 (r:Nat),.int .i64 (k:Nat)]->cx ar 433 1 [(0,.tmp 68)] false e s=some (.list 3 [.agg [.int .i64 (p:Nat),.int .i64 (r:Nat),.int .i64 (k:Nat)]] .GE,s):=fun e s h=>N8 (by rw[bq,h]) s;obtain⟨ov',s',happ,hO',hc',hn',hm',hold,hcell⟩:=tf IW rfl (by decide) (y:=.list 3 [.agg [.int .i64 (p:Nat),.int .i64 (r:Nat),.int .i64 (k:Nat)]] .GE) (ys:=[wU (p,r,k)]) hO rfl (by rw[cZ,rB];omega) hlo hm;have hoc':=hO'.aL;rw[hz] at hlk;simp only[F3] at hlk;simp only[fG,ai,ax,ay,aa,ah,h8,hlk,dU];refine aw ?_;simp only[ai,aa,ah];refine bU (bH ?_);simp only[ai,ax,aA,ay,aa,ah,o0,h11,hoc,hbd,hbs,happ];refine bH ?_;simp only[ai,aA,aa,ah,h50,hwr];refine jr (ih (pre++[(p,r)]) _ _ s' ov' (by rw[hpre];simp) hm' (by omega) ((hold _ hmW).trans hs) (by rw[hst,je];exact hO') (by rw[hst,dX,dX,rB,rB];omega) ?_ ?_ ?_ ?_ ?_) ?_;simp only[au,aa, *];simp only[aq,aa];simp only[au,aa, *];simp only[au,aa, *];simp only[aq,cK,aa];rintro x fr s2 ⟨rfl,e',lc',ov2,rfl,g19,⟨g0,g1,g2,g8⟩,q1,q2,q3,q4,q5⟩;exact⟨rfl,e',lc',ov2,rfl,g19.trans (by simp only[eZ,aa,cF]),⟨g0.trans (by simp only[au,aa, *]),g1.trans (by simp only[au,aa, *]),g2.trans (by simp only[au,aa, *]),g8⟩,q1,q2,by omega,q4,q5.trans hc'⟩
end
def lg(b o t:List ak):Option (List ak):=bif o==b then some t else bif t==b||t==o then some o else none
def jG(b:List ak)(p:Nat):List ak:=match b[p]? with
 |some x=>[x]
 |none=>[]
def j8(b o t:List ak):List (Nat×Nat×Nat)->Nat->Nat->Nat->List ak->Option (List ak)
 | [],_,_,_,out=>some out
 |(p,q,r)::l,i,j,k,out=>match lg ((b.drop i).take (p-i)) ((o.drop j).take (q-j)) ((t.drop k).take (r-k)) with
  |none=>none
  |some part=>j8 b o t l (p+1) (q+1) (r+1) (out++part++jG b p)
def qI(s:St)(x:Nat)(l:List ak):Prop:= ∃V,s.get [] x=some (.cells [V])/\aD 1 aF V l/\aQ V=true
variable{l:List ak}
def qI.keep{s':St}{x:Nat}(h:qI s x l)(hg:s'.get [] x=s.get [] x):qI s' x l:=by
 obtain⟨V,h1,h2,h3⟩:=h;exact⟨V,hg.trans h1,h2,h3⟩
def KQ(hm:s.ge<=s.al)(hn:s1.al=s.al)(h1:s1.ge<=s1.al):(s.Gt s1).ge<=(s.Gt s1).al:=by
 show(bif br s.ge s1.ge then s.ge else s1.ge)<=s1.al;cases br s.ge s1.ge with
 |true=>rw[hn];exact hm
 |false=>exact h1
variable{o:List ak}
def Zn(ho:aD 1 aF vo o)(ht:aD 1 aF vt t)(po:aQ vo=true)(pt:aQ vt=true):
 ∃pv bb,sn vb vo vt b o t= .tup [pv,.bool bb]/\pv.aL=true/\((bb=true/\ ∃part,lg b o t=some part/\aD 1 aF pv part/\aQ pv=true/\(part=t\/part=o))\/(bb=false/\lg b o t=none)):=by
 unfold sn lg;cases o==b with
 |true=>exact⟨vt,true,rfl,ht.aL,.inl ⟨rfl,t,rfl,ht,pt,.inl rfl⟩⟩
 |false=>
  cases t==b||t==o with
  |true=>exact⟨vo,true,rfl,ho.aL,.inl ⟨rfl,o,rfl,ho,po,.inr rfl⟩⟩
  |false=>exact⟨.AL,false,rfl,rfl,.inr ⟨rfl,rfl⟩⟩
def qk{α:Type}{enc:α->ae}{l:List α}(h:aD sz enc v l)(g:Bool)(s:St):jS [] g sz v s=some (l.map enc):=by
 rcases h with⟨rfl,rfl⟩|⟨r,rfl⟩
 rfl;simp only[jS,fe,bS,cT]
structure Fk (e:aI) (lc:Ag.Loc) (x y z g:Nat) (p q r:Int) (i j k:Int):Prop where
 h16:aj e 16= .ptr x 0
 h17:aj e 17= .ptr y 0
 h18:aj e 18= .ptr z 0
 h22:aj e 22= .Ge 22 g 0
 g22:lc.gen 22=g
 b22:lc.get 22 g=some [.int .i64 p,.int .i64 q,.int .i64 r]
 h19:aj e 19= .Ge 19 1 0
 g19:lc.gen 19=1
 b19:lc.get 19 1=some [.int .i64 i,.int .i64 j,.int .i64 k]
section
variable{sp:bC}(h116:sp 376=none)(h117:sp 377=none)(h37:sp 70=some rU)
include h116 h117 h37
def ZZ{x y z g:Nat}{p q r j:Nat}{lx ly lz:List ak}(F:Fk e lc x y z g p q r ((i:Int)-1) ((j:Int)-1) ((k:Int)-1))(hi:i<=p)(hj:j<=q)(hk:k<=r)(hp:p<=10000)(hq:q<=10000)(hr:r<=10000)(hx:qI s x lx)(hy:qI s y ly)(hz:qI s z lz)(hxy:x≠y)(hxz:x≠z)(hyz:y≠z)(nx:p-i<=lx.length)(ny:q-j<=ly.length)(nz:r-k<=lz.length)(sx:lx.length<=10000)(sy:ly.length<=10000)(sz:lz.length<=10000)(hm:s.ge<=s.al)(hK: ∀(e':aI) (s':St) (pv:ae) (bb:Bool),aj e' 23=pv->aj e' 24= .bool bb->(∀u,u<23->aj e' u=aj e u)->aj e' 92=aj e 92->aj e' 93=aj e 93->aj e' 94=aj e 94->pv.aL=true->
  ((bb=true/\ ∃part,lg (lx.take (p-i)) (ly.take (q-j)) (lz.take (r-k))=some part/\aD 1 aF pv part/\aQ pv=true/\(part=lz.take (r-k)\/part=ly.take (q-j)))\/(bb=false/\lg (lx.take (p-i)) (ly.take (q-j)) (lz.take (r-k))=none))->
  qI s' x (lx.drop (p-i+1))->qI s' y (ly.drop (q-j+1))->qI s' z (lz.drop (r-k+1))->(∀n,n≠x->n≠y->n≠z->s'.get [] n=s.get [] n)->s'.al=s.al->s'.ge<=s'.al->s'.ci=s.ci->K ⟨e',147,lc⟩ s'):
 WD (QS sp) 280 Ki [] 0 tC ⟨e,147,lc⟩ s K:=by
 obtain⟨h16,h17,h18,h22,g22,b22,h19,g19,b19⟩:=F;obtain⟨Vx,x1,x2,x3⟩:=hx;obtain⟨Vy,y1,y2,y3⟩:=hy;obtain⟨Vz,z1,z2,z3⟩:=hz;have sub1: ∀(p i:Nat),i<=p->p<=10000->IntKind.i64.wrap ((p:Int)-((i:Int)-1))=(p:Int)-i+1:=fun p i a b=>by rw[lC (by omega) (by omega)];omega
 have sub2: ∀(p i:Nat),i<=p->p<=10000->IntKind.i64.wrap ((p:Int)-i+1-1)=((p-i:Nat):Int):=fun p i a b=>by rw[lC (by omega) (by omega)];omega
 have ep1:=sub1 p i hi hp;have ep2:=sub2 p i hi hp;have eq1:=sub1 q j hj hq;have eq2:=sub2 q j hj hq;have er1:=sub1 r k hk hr;have er2:=sub2 r k hk hr;obtain⟨v1,s1,r1,u1,w1,⟨Vx',a1,a2,a3⟩,n1,c1,m1⟩:=IP h117 (s:=s.top) x1 x2 x3 nx (by omega) (aU _);obtain⟨sA,hsA⟩: ∃a,a=s.Gt s1:=⟨_,rfl⟩;have nA:sA.al=s.al:=by rw[hsA];exact n1
 have mA:sA.ge<=sA.al:=by rw[hsA];exact KQ hm n1 m1
 have gA: ∀n,sA.get [] n=(s.put x (some (.cells [Vx']))).get [] n:=fun n=>by rw[hsA];exact a3 n
 have cA:sA.ci=s.ci:=by rw[hsA];exact c1
 have y1':sA.top.get [] y=some (.cells [Vy]):=by
  show sA.get [] y=_;rw[gA,bO,bN.2 hxy.symm];exact y1
 obtain⟨v2,s2,r2,u2,w2,⟨Vy',b1,b2,b3⟩,n2,c2,m2⟩:=IP h117 (s:=sA.top) y1' y2 y3 ny (by omega) (aU _);obtain⟨sB,hsB⟩: ∃a,a=sA.Gt s2:=⟨_,rfl⟩;have nB:sB.al=s.al:=by rw[hsB];exact n2.trans nA
 have mB:sB.ge<=sB.al:=by rw[hsB];exact KQ mA n2 m2
 have gB: ∀n,sB.get [] n=(sA.put y (some (.cells [Vy']))).get [] n:=fun n=>by rw[hsB];exact b3 n
 have cB:sB.ci=s.ci:=by rw[hsB];exact c2.trans cA
 have z1':sB.top.get [] z=some (.cells [Vz]):=by
  show sB.get [] z=_;rw[gB,bO,bN.2 hyz.symm,cF,gA,bO,bN.2 hxz.symm];exact z1
 obtain⟨v3,s3,r3,u3,w3,⟨Vz',d1,d2,d3⟩,n3,c3,m3⟩:=IP h117 (s:=sB.top) z1' z2 z3 nz (by omega) (aU _);obtain⟨sC,hsC⟩: ∃a,a=sB.Gt s3:=⟨_,rfl⟩;have nC:sC.al=s.al:=by rw[hsC];exact n3.trans nB
 have mC:sC.ge<=sC.al:=by rw[hsC];exact KQ mB n3 m3
 have gC: ∀n,sC.get [] n=(sB.put z (some (.cells [Vz']))).get [] n:=fun n=>by rw[hsC];exact d3 n
 have cC:sC.ci=s.ci:=by rw[hsC];exact c3.trans cB
 have hsmall:=fg;have r4:=ajr (sp:=sp) h116 h37 u1 u2 u3 w1 w2 w3 (by rw[oG];omega) (by rw[oG];omega) sC.top;obtain⟨pv,bb,hpv,hpc,hcase⟩:=Zn (vb:=v1) (b:=lx.take (p-i)) u2 u3 w2 w3;rw[hpv] at r4;rw[show tC=tC.take 7++tC.drop 7 from(oH 7 _).symm];refine WD.loudOps hm (fun _ h=>by cases h) ?_;unfold Ki;simp only[ai,ax,Dd,Dc,Hm,Jj,Ji,Dz,Jh,Jl,Jr,Jk,Jq,Jp,DA,isStore,aN,ay,aa,ah,aG,h16,h22,g22,b22,h19,g19,b19,ep1,ep2];intro rs1 k1;refine WD.loudCall (g:=377) (args:=[.ptr x 0,.int .i64 ((p-i:Nat):Int)]) k1 (by decide) ?_ r1 n1 c1 (by decide) (fun rs2 k2=>?_);simp only[ai,callee,aa];rw[<-hsA];refine WD.loudOps (l1:=tC.drop 8|>.take 7) (l2:=tC.drop 15) mA k2 ?_;simp only[ai,ax,Dd,Dc,Hm,Jj,Ji,Dz,Jh,Jl,Jr,Jk,Jq,Jp,DA,isStore,aN,ay,aa,ah,aG,h17,h22,g22,b22,h19,g19,b19,eq1,eq2];intro rs3 k3;refine WD.loudCall (g:=377) (args:=[.ptr y 0,.int .i64 ((q-j:Nat):Int)]) k3 (by decide) ?_ r2 n2 c2 (by decide) (fun rs4 k4=>?_);simp only[ai,callee,aa];rw[<-hsB];refine WD.loudOps (l1:=tC.drop 16|>.take 7) (l2:=tC.drop 23) mB k4 ?_;simp only[ai,ax,Dd,Dc,Hm,Jj,Ji,Dz,Jh,Jl,Jr,Jk,Jq,Jp,DA,isStore,aN,ay,aa,ah,aG,h18,h22,g22,b22,h19,g19,b19,er1,er2];intro rs5 k5;refine WD.loudCall (g:=377) (args:=[.ptr z 0,.int .i64 ((r-k:Nat):Int)]) k5 (by decide) ?_ r3 n3 c3 (by decide) (fun rs6 k6=>?_);simp only[ai,callee,aa];rw[<-hsC];have e1:=u1.aL;have e2:=u2.aL;have e3:=u3.aL;refine WD.loudCall (g:=376) (args:=[v1,v2,v3]) k6 (by decide) ?_ r4 rfl rfl (by decide) (fun rs7 k7=>?_);simp only[ai,callee,aa,e1,e2,e3];rw[lQ mC];refine WD.loudOps (l1:=tC.drop 25) (l2:=[]) mC k7 ?_;simp only[fG,ai,Dd,Dc,Hm,Dz,abY,abZ,DA,isStore,ay,aa,ah,aG,dU];intro rs8 k8;refine WD.nil (hK _ sC pv bb ?_ ?_ ?_ ?_ ?_ ?_ hpc hcase ?_ ?_ ?_ ?_ nC mC cC);simp only[aq,aa, *];simp only[aq,aa, *];intro u hu;have hne: ∀m,23<=m->(u==m)=false:=fun m h=>bN.2 (by omega);simp only[au,hne _ (by decide:23<=99),hne _ (by decide:23<=100),hne _ (by decide:23<=101),hne _ (by decide:23<=102),hne _ (by decide:23<=103),hne _ (by decide:23<=104),hne _ (by decide:23<=105),hne _ (by decide:23<=106),hne _ (by decide:23<=107),hne _ (by decide:23<=108),hne _ (by decide:23<=109),hne _ (by decide:23<=110),hne _ (by decide:23<=111),hne _ (by decide:23<=112),hne _ (by decide:23<=113),hne _ (by decide:23<=114),hne _ (by decide:23<=115),hne _ (by decide:23<=116),hne _ (by decide:23<=117),hne _ (by decide:23<=118),hne _ (by decide:23<=119),hne _ (by decide:23<=120),hne _ (by decide:23<=121),hne _ (by decide:23<=122),hne _ (by decide:23<=123),hne _ (by decide:23<=98),hne _ (by decide:23<=124),hne _ (by decide:23<=125),hne _ (by decide:23<=23),hne _ (by decide:23<=24)];simp only[au,aa, *];simp only[au,aa, *];simp only[au,aa, *];refine⟨Vx',?_,a1,a2⟩;rw[gC,bO,bN.2 hxz,cF,gB,bO,bN.2 hxy,cF,gA,bO,bS];rfl;refine⟨Vy',?_,b1,b2⟩;rw[gC,bO,bN.2 hyz,cF,gB,bO,bS];rfl;refine⟨Vz',?_,d1,d2⟩;rw[gC,bO,bS];rfl;intro n hn1 hn2 hn3;rw[gC,bO,bN.2 hn3,cF,gB,bO,bN.2 hn2,cF,gA,bO,bN.2 hn1];rfl
end
def CB(b o t:List ak):Option (List ak):=j8 b o t (rM b o t) 0 0 0 []
def KJ(b:List ak)(p:Nat):(jG b p).length<=1:=by
 unfold jG;cases b[p]? <;>simp
section
variable{sp:bC}(h116:sp 376=none)(h117:sp 377=none)(h37:sp 70=some rU)
include h116 h117 h37
def Zo(hb:aD 1 aF vb b)(sb:b.length<=2000)(so:o.length<=2000)(st:t.length<=2000){all:List (Nat×Nat×Nat)}(hva:aD 3 wU va all)(hal:all.length<=10000){x y z:Nat}(hxy:x≠y)(hxz:x≠z)(hyz:y≠z)(hlo:x<lo/\y<lo/\z<lo):
 ∀(rest pre:List (Nat×Nat×Nat)) (i j k:Nat) (e:aI) (lc:Ag.Loc) (s:St) (ov:ae) (out:List ak),all=pre++rest->nT b.length o.length t.length i j k rest->s.ge<=s.al->lo<=s.al->cE 1 lo s ov (out.map aF)->out.length<=i+j+k->i<=2001->j<=2001->k<=2001->
 qI s x (b.drop i)->qI s y (o.drop j)->qI s z (t.drop k)->aj e 0=vb->aj e 20=ov->aj e 92=va->aj e 93= .int .i64 (all.length:Nat)->aj e 94= .int .i64 (pre.length:Nat)->
 aj e 16= .ptr x 0->aj e 17= .ptr y 0->aj e 18= .ptr z 0->aj e 19= .Ge 19 1 0->lc.gen 19=1->lc.get 19 1=some [.int .i64 ((i:Int)-1),.int .i64 ((j:Int)-1),.int .i64 ((k:Int)-1)]->
 W (QS sp) 280 (.loop Kj) ⟨e,147,lc⟩ s fun w fr s'=>fr.size=147/\s'.ci=s.ci/\((w= .exit 4/\ ∃out' ov',j8 b o t rest i j k out=some out'/\aj fr.env 20=ov'/\cE 1 lo s' ov' (out'.map aF))\/(w= .ret/\j8 b o t rest i j k out=none/\aj fr.env 6= .AL/\aj fr.env 7= .bool false)):=by
 have cb:=hb.aL;have ca:=hva.aL;have hlb:=fun mk s=>hb.len dB dH mk s;intro rest
 induction rest with
 |nil=>
  intro pre i j k e lc s ov out hpre hR hm hls hO hol hi hj hk hx hy hz h0 h20 h92 h93 h94 h16 h17 h18 h19 g19 b19;have hl:all.length=pre.length:=by rw[hpre];simp
  refine bV ?_;refine aw ?_;simp only[ai,ah,h93,h94,hl,cR];refine aC (cJ ?_);exact dL ⟨rfl,rfl,.inl ⟨rfl,out,ov,rfl,by simp only[au,aa, *],hO⟩⟩
 |cons tr rest ih=>
  intro pre i j k e lc s ov out hpre hR hm hls hO hol hi hj hk hx hy hz h0 h20 h92 h93 h94 h16 h17 h18 h19 g19 b19;obtain⟨p,q,r⟩:=tr;cases hR with
  |cons r1 r2 r3 r4 r5 r6 r7=>
  have hlt:pre.length<all.length:=by rw[hpre];simp
  have hat:all[pre.length]? =some (p,q,r):=by rw[hpre];simp
  have hia:=fun lc=>hva.at adz hat lc .i64;have hwr:=eE (n:=pre.length) (by omega);have hoc:=hO.aL;refine bV ?_;refine aw ?_;simp only[ai,ah,h93,h94,hlt];refine aC (bU (cL ?_));simp only[bM];refine aC (bL (aw ?_));simp only[ai,ax,cut,bu,aN,ay,aa,ah,aG,aV,o0,h92,h94,hia,wU];refine aC (W.drawD (ZZ h116 h117 h37 (g:=lc.gen 22+1) (x:=x) (y:=y) (z:=z) (p:=p) (q:=q) (r:=r) (i:=i) (j:=j) (k:=k) (lx:=b.drop i) (ly:=o.drop j) (lz:=t.drop k) ⟨?_,?_,?_,?_,?_,?_,?_,?_,?_⟩ r1 r2 r3 (by omega) (by omega) (by omega) hx hy hz hxy hxz hyz (by rw[sX];omega) (by rw[sX];omega) (by rw[sX];omega) (by rw[sX];omega) (by rw[sX];omega) (by rw[sX];omega) hm ?_));simp only[au,aa, *];simp only[au,aa, *];simp only[au,aa, *];simp only[aq,aa, *];simp only[eZ,aa,cT];simp only[ew,cT,bS];simp only[au,aa, *];simp only[eZ,aa,cF,g19];simp only[ew,aa,cF,b19];intro e' s' pv bb q23 q24 qlow q92 q93 q94 hpc hcase hx' hy' hz' hold hn' hm' hc';have p0:aj e' 0=vb:=(qlow 0 (by decide)).trans (by simp only[au,aa, *]);have p16:aj e' 16= .ptr x 0:=(qlow 16 (by decide)).trans (by simp only[au,aa, *]);have p17:aj e' 17= .ptr y 0:=(qlow 17 (by decide)).trans (by simp only[au,aa, *]);have p18:aj e' 18= .ptr z 0:=(qlow 18 (by decide)).trans (by simp only[au,aa, *]);have p19:aj e' 19= .Ge 19 1 0:=(qlow 19 (by decide)).trans (by simp only[au,aa, *]);have p20:aj e' 20=ov:=(qlow 20 (by decide)).trans (by simp only[au,aa, *]);have p22:aj e' 22= .Ge 22 (lc.gen 22+1) 0:=(qlow 22 (by decide)).trans (by simp only[aq,aa, *]);have p92:aj e' 92=va:=q92.trans (by simp only[au,aa, *]);have p93:aj e' 93= .int .i64 (all.length:Nat):=q93.trans (by simp only[au,aa, *]);have p94:aj e' 94= .int .i64 (pre.length:Nat):=q94.trans (by simp only[au,aa, *]);simp only[bM];rcases hcase with⟨rfl,part,hch,hpl,hpp,hpe⟩|⟨rfl,hch⟩
  ·have hpl2:part.length<=(q-j)+(r-k):=by
    rcases hpe with rfl|rfl
    rw[oG];omega;rw[oG];omega
   have hseq:j8 b o t ((p,q,r)::rest) i j k out=j8 b o t rest (p+1) (q+1) (r+1) (out++part++jG b p):=by
    simp only[j8,hch]
   rw[hseq];have hO1:cE 1 lo s' ov (out.map aF):=hO.keep (fun n hn=>hold n (by omega) (by omega) (by omega)) (by omega);obtain⟨ov1,s1,happ,hO2,hc1,hn1,hm1,hold1,hcell1⟩:=tf qM rfl (by decide) (y:=pv) (ys:=part.map aF) hO1 (qk hpl _ _) (by rw[cZ,cZ];omega) (by omega) hm';have hoc1:=hO2.aL;have fin: ∀(e2:aI) (lc2:Ag.Loc) (s2:St) (ov2:ae),aj e2 0=vb->aj e2 16= .ptr x 0->aj e2 17= .ptr y 0->aj e2 18= .ptr z 0->aj e2 19= .Ge 19 1 0->aj e2 20=ov2->aj e2 22= .Ge 22 (lc.gen 22+1) 0->aj e2 92=va->aj e2 93= .int .i64 (all.length:Nat)->aj e2 94= .int .i64 (pre.length:Nat)->
    lc2.gen 22=lc.gen 22+1->lc2.get 22 (lc.gen 22+1)=some [.int .i64 (p:Nat),.int .i64 (q:Nat),.int .i64 (r:Nat)]->lc2.gen 19=1->lc2.get 19 1=some [.int .i64 ((i:Int)-1),.int .i64 ((j:Int)-1),.int .i64 ((k:Int)-1)]->
    cE 1 lo s2 ov2 ((out++part++jG b p).map aF)->s2.ge<=s2.al->s1.al<=s2.al->(∀n,n<lo->s2.get [] n=s1.get [] n)->s2.ci=s.ci->
    W (QS sp) 280 (.region QR) ⟨e2,147,lc2⟩ s2 (fun w fr s3=>w= .normal/\ ∃e3 lc3,fr=⟨e3,147,lc3⟩/\s3=s2/\aj e3 0=vb/\aj e3 16= .ptr x 0/\aj e3 17= .ptr y 0/\aj e3 18= .ptr z 0/\aj e3 19= .Ge 19 1 0/\aj e3 20=ov2/\aj e3 92=va/\aj e3 93= .int .i64 (all.length:Nat)/\aj e3 94= .int .i64 (pre.length:Nat)/\lc3.gen 19=1/\lc3.get 19 1=some [.int .i64 (p:Nat),.int .i64 (q:Nat),.int .i64 (r:Nat)]):=by
    intro e2 lc2 s2 ov2 a0 a16 a17 a18 a19 a20 a22 a92 a93 a94 l22 l22' l19 l19' aO am an ag ac;refine bH ?_;simp only[ai,ax,cut,bu,aN,ay,aa,ah,aG,aV,a22,a19,l22',l19'];refine⟨_,_,rfl,?_,?_,?_,?_,?_,?_,?_,?_,?_,?_,?_⟩;simp only[au,aa, *];simp only[au,aa, *];simp only[au,aa, *];simp only[au,aa, *];simp only[au,aa, *];simp only[au,aa, *];simp only[au,aa, *];simp only[au,aa, *];simp only[au,aa, *];simp only[eZ,aa,cT];simp only[ew,cT,bS]
   have go: ∀(e3:aI) (lc3:Ag.Loc) (s2:St) (ov2:ae),aj e3 0=vb->aj e3 16= .ptr x 0->aj e3 17= .ptr y 0->aj e3 18= .ptr z 0->aj e3 19= .Ge 19 1 0->aj e3 20=ov2->aj e3 92=va->aj e3 93= .int .i64 (all.length:Nat)->aj e3 94= .int .i64 (pre.length:Nat)->lc3.gen 19=1->lc3.get 19 1=some [.int .i64 (p:Nat),.int .i64 (q:Nat),.int .i64 (r:Nat)]->
    cE 1 lo s2 ov2 ((out++part++jG b p).map aF)->s2.ge<=s2.al->s1.al<=s2.al->(∀n,n<lo->s2.get [] n=s1.get [] n)->s2.ci=s.ci->
    W (QS sp) 280 (.region QU) ⟨e3,147,lc3⟩ s2 (Ex.next (fun w fr s'=>fr.size=147/\s'.ci=s.ci/\((w= .exit 4/\ ∃out' ov',j8 b o t rest (p+1) (q+1) (r+1) (out++part++jG b p)=some out'/\aj fr.env 20=ov'/\cE 1 lo s' ov' (out'.map aF))\/(w= .ret/\j8 b o t rest (p+1) (q+1) (r+1) (out++part++jG b p)=none/\aj fr.env 6= .AL/\aj fr.env 7= .bool false))) fun fr s'=>W (QS sp) 280 (.loop Kj) fr s' fun w fr s'=>fr.size=147/\s'.ci=s.ci/\((w= .exit 4/\ ∃out' ov',j8 b o t rest (p+1) (q+1) (r+1) (out++part++jG b p)=some out'/\aj fr.env 20=ov'/\cE 1 lo s' ov' (out'.map aF))\/(w= .ret/\j8 b o t rest (p+1) (q+1) (r+1) (out++part++jG b p)=none/\aj fr.env 6= .AL/\aj fr.env 7= .bool false))):=by
    intro e3 lc3 s2 ov2 a0 a16 a17 a18 a19 a20 a92 a93 a94 l19 l19' aO am an ag ac;have hls1:=KJ b p;refine bH ?_;simp only[ai,aA,ah,a94,hwr];have hgg: ∀n,n<lo->s2.get [] n=s'.get [] n:=fun n hn=>(ag n hn).trans (hold1 n hn);have dd: ∀(l:List ak) (i p:Nat),i<=p->(l.drop i).drop (p-i+1)=l.drop (p+1):=fun l i p h=>by rw[List.drop_drop,show i+(p-i+1)=p+1 by omega]
    refine jr (ih (pre++[(p,q,r)]) (p+1) (q+1) (r+1) _ lc3 s2 ov2 (out++part++jG b p) (by rw[hpre];simp) r7 am (by omega) aO ?_ (by omega) (by omega) (by omega) ?_ ?_ ?_ ?_ ?_ ?_ ?_ ?_ ?_ ?_ ?_ ?_ l19 ?_) ?_;rw[dX,dX];omega;rw[<-dd b i p r1];exact hx'.keep (hgg x hlo.1);rw[<-dd o j q r2];exact hy'.keep (hgg y hlo.2.1);rw[<-dd t k r r3];exact hz'.keep (hgg z hlo.2.2);simp only[au,aa, *];simp only[au,aa, *];simp only[au,aa, *];simp only[au,aa, *];simp only[aq,cK,aa];simp only[au,aa, *];simp only[au,aa, *];simp only[au,aa, *];simp only[au,aa, *];rw[l19'];have: ∀p:Nat,((p+1:Nat):Int)-1=(p:Int):=fun p=>by omega
    rw[this,this,this];rintro w fr s3 ⟨g1,g2,g3⟩;exact⟨g1,g2.trans ac,g3⟩
   refine aC (aC (bH ?_));simp only[ai,aA,ah,q24];refine dq ?_;simp only[bM];refine aC (bH ?_);simp only[ai,ax,aA,aa,ah,o0,p20,q23,hoc,hpc,happ];refine aC (aC (bH ?_));simp only[ai,ax,aA,ay,aa,ah,o0,p0,p22,cb,hlb];by_cases hpb:p<b.length;have hv:b[p]? =some b[p]:=gL hpb;have hib:=fun lc=>hb.at gR hv lc .i64;have hlm:jG b p=[b[p]]:=by simp only[jG,hv]
   have hbs: ∀e s,aj e 141= .str b[p]->cx ar 25 1 [(0,.tmp 141)] false e s=some (.list 1 [.str b[p]] .GE,s):=fun e s p=>by
    simp only[ce,jR,cx,qM,cS,evc,ev,p,nP,eW,kQ,bu,kR,jg,fW,cut];rfl
   obtain⟨ov2,s2,happ2,hO3,hc2,hn2,hm2,hold2,hcell2⟩:=tf qM rfl (by decide) (y:=.list 1 [.str b[p]] .GE) (ys:=[aF b[p]]) hO2 rfl (by rw[dX,cZ,cZ,rB];omega) (by omega) hm1;have hoc2:=hO3.aL;refine dJ (t:=true) (by simp only[aq,bq,aa,hpb,dT]) (bH ?_);simp only[ai,ax,aA,ay,aa,ah,o0,p0,p22,hib,aF,hoc1,hbs,happ2];refine jr (fin _ _ s2 ov2 ?_ ?_ ?_ ?_ ?_ ?_ ?_ ?_ ?_ ?_ ?_ ?_ ?_ ?_ ?_ hm2 hn2 hold2 (hc2.trans (hc1.trans hc'))) ?_;simp only[au,aa, *];simp only[au,aa, *];simp only[au,aa, *];simp only[au,aa, *];simp only[au,aa, *];simp only[aq,aa, *];simp only[au,aa, *];simp only[au,aa, *];simp only[au,aa, *];simp only[au,aa, *];simp only[eZ,aa,cT];simp only[ew,cT,bS];simp only[eZ,aa,cF,g19];simp only[ew,aa,cF,b19];rw[hlm,je,je];exact hO3;rintro w fr s3 ⟨rfl,e3,lc3,rfl,rfl,j0,j16,j17,j18,j19,j20,j92,j93,j94,l19,l19'⟩;simp only[dA];exact go e3 lc3 s3 ov2 j0 j16 j17 j18 j19 j20 j92 j93 j94 l19 l19' (by rw[hlm,je,je];exact hO3) hm2 hn2 hold2 (hc2.trans (hc1.trans hc'));have hv:b[p]? =none:=List.getElem?_eq_none (by omega);have hlm:jG b p=[]:=by simp only[jG,hv]
   refine dJ (t:=false) (by simp only[aq,bq,aa,hpb,dF]) (cL ?_);simp only[bM];refine jr (fin _ _ s1 ov1 ?_ ?_ ?_ ?_ ?_ ?_ ?_ ?_ ?_ ?_ ?_ ?_ ?_ ?_ ?_ hm1 (aU _) (fun _ _=>rfl) (hc1.trans hc')) ?_;simp only[au,aa, *];simp only[au,aa, *];simp only[au,aa, *];simp only[au,aa, *];simp only[au,aa, *];simp only[aq,aa, *];simp only[au,aa, *];simp only[au,aa, *];simp only[au,aa, *];simp only[au,aa, *];simp only[eZ,aa,cT];simp only[ew,cT,bS];simp only[eZ,aa,cF,g19];simp only[ew,aa,cF,b19];rw[hlm,ii,je];exact hO2;rintro w fr s3 ⟨rfl,e3,lc3,rfl,rfl,j0,j16,j17,j18,j19,j20,j92,j93,j94,l19,l19'⟩;simp only[dA];exact go e3 lc3 s3 ov1 j0 j16 j17 j18 j19 j20 j92 j93 j94 l19 l19' (by rw[hlm,ii,je];exact hO2) hm1 (aU _) (fun _ _=>rfl) (hc1.trans hc')
  refine aC (aC (bH ?_));simp only[ai,aA,ah,q24];refine bU (aw ?_);simp only[cG,ah,ofValue,aX];exact bo ⟨rfl,hc',.inr ⟨rfl,by simp only[j8,hch],by simp only[aq,aa, *],by simp only[aq,aa, *]⟩⟩
end
def jB(b o t:List ak):Option (List ak):=bif mN [b,o,t] then none else CB b o t
def pq:Option (List ak)->ae
 |some l=>.tup [fv 1 (l.map aF),.bool true]
 |none=>.tup [.AL,.bool false]
def Yr{y z:Operand}{b c:ae}(hx:ev e x=some a)(hy:ev e y=some b)(hz:ev e z=some c)(ca:a.aL=true)(cb:b.aL=true)(cc:c.aL=true)(la:a.cells=[a])(lb:b.cells=[b])(lc:c.cells=[c])(s:St):cx ar 499 3 [(0,x),(1,y),(2,z)] false e s=some (.list 1 [a,b,c] .GE,s):=by
 have el:iI ar 499=some ⟨1,24,false,.AL⟩:=Z5;simp only[ce,jR,cx,el,cS,evc,hx,hy,hz,ca,cb,cc,la,lb,lc,eW,zc,bu,kR,aG,jg,fW,cut];rfl
def Pp(hO:cE 1 lo s ov (l.map aF)):dP h (.tup [ov,.bool true]) (pq (some l)):=by
 refine⟨4,?_⟩;have h1:cj h 3 ov=some (fv 1 (l.map aF)):=uL hO (k:=2) fun v hv=>by
  obtain⟨p,_,rfl⟩:=List.mem_map.1 hv;rfl
 show((de (cj h 3) [ov,.bool true])).bind (fun r=>some (ae.tup r))=_;have h2:cj h 3 (.bool true)=some (.bool true):=rfl;simp only[de,h1,h2,bn,pq]
def Vb(W:List (Nat×Nat)): ∀M:List (Nat×Nat),(iB W M).length<=M.length
 | []=>aU _
 |(a,b)::M=>by
  simp only[iB]
  have:=Vb W M;cases e7 a W<;>simp only[cP]<;>omega
def anB(h74:sp 280=none)(h114:sp 374=some Aw)(h115:sp 375=some zR)(h116:sp 376=none)(h117:sp 377=none)(h37:sp 70=some rU)(hb:aD 1 aF vb b)(ho:aD 1 aF vo o)(ht:aD 1 aF vt t)(pb:aQ vb=true)(po:aQ vo=true)(pt:aQ vt=true)(hm:s.ge<=s.al):
 ∃v s',aM (QS sp) 280 [vb,vo,vt] s v s'/\(dP s'.heap v (pq (jB b o t))/\s'.ci=s.ci):=by
 have cb:=hb.aL;have co:=ho.aL;have ct:=ht.aL;have cell: ∀ {v:ae} {l:List ak},aD 1 aF v l->v.cells=[v]:=fun h=>by rcases h with⟨rfl,_⟩|⟨r,rfl⟩<;>rfl
 have lb:=cell hb;have lo:=cell ho;have lt:=cell ht;have hlb:=fun mk s=>hb.len dB dH mk s;have hlo:=fun mk s=>ho.len dB dH mk s;have hlt:=fun mk s=>ht.len dB dH mk s;have hR:Rows [vb,vo,vt] [b,o,t]:=.cons hb pb (.cons ho po (.cons ht pt .nil));have hsh:Aw [.list 1 [vb,vo,vt] .GE]=some (.bool (!mN [b,o,t])):=by
  have q1:bk [vb,vo,vt].length 1000=true:=rfl;simp only[ce,Aw,(Cu hR).1,q1]
 have hbs: ∀e s,aj e 25=vb->aj e 26=vo->aj e 27=vt->cx ar 499 3 [(0,.tmp 25),(1,.tmp 26),(2,.tmp 27)] false e s=some (.list 1 [vb,vo,vt] .GE,s):=fun e s p q r=>Yr (by rw[bq,p]) (by rw[bq,q]) (by rw[bq,r]) cb co ct lb lo lt s;refine aM.ofEx EX.1 EX.2 EX.3 EX.4 h74 ?_;refine aw ?_;simp only[ai,bv,bt,ah,aG,aV,ofValue,aX];refine aC (aC (bH ?_));simp only[ai,aA,aa,ah,o0,hbs,h114,hsh];cases hlong:mN [b,o,t] with
 |true=>
  have hres:jB b o t=none:=by simp only[jB,hlong,cT]
  refine dJ (t:=true) (by simp only[aq,bq,aa,dS]) (aw ?_);simp only[cG,dS,ah,ofValue,aX];refine bo ⟨.inr rfl,.tup [.AL,.bool false],wM (v:=.AL) (w:=.bool false) (by simp only[aq,aa, *]) rfl (by simp only[aq,aa, *]) rfl,?_,rfl⟩;rw[hres];exact⟨3,rfl⟩
 |false=>
  have hres:jB b o t=CB b o t:=by simp only[jB,hlong,cF]
  have hl3:i9 b=false/\i9 o=false/\i9 t=false:=by
   simp only[mN,jL,Bool.or_eq_false_iff] at hlong;exact hlong
  have sb:b.length<=2000:=by have:=of_decide_eq_false hl3.1;omega
  have so:o.length<=2000:=by have:=of_decide_eq_false hl3.2.1;omega
  have st:t.length<=2000:=by have:=of_decide_eq_false hl3.2.2;omega
  have hmt:=SJ hb ht pb pt sb st;have hmo:=SJ hb ho pb po sb so;have lWt:=(sj b t).length (cV _);have lWo:=(sj b o).length (cV _);have iWt:=Sb (jx b t);have iWo:=Sb (jx b o);have hct:=iWt.aL;have hco:=iWo.aL;have hnt:=fun mk s=>iWt.len Sf Se mk s;have hno:=fun mk s=>iWo.len Sf Se mk s;rw[hres];refine dJ (t:=false) (by simp only[aq,bq,aa,Bool.not_false]) (cL ?_);simp only[bM];refine aw ?_;simp only[ai,aa,ah,Gj];refine aC (aw ?_);simp only[ai,aa,ah,o0,cb,ct,h115,hmt,hct,hnt];refine bL ?_;refine jr (apJ (mW:=s.al) iWt (sj b t) (by omega) (jx b t) [] _ _ (s.new (.map [] 0)) rfl (ky hm) (fK _) (by rw[cp,bS];rfl) ?_ ?_ ?_ ?_) ?_;simp only[aq,aa, *];simp only[aq,aa, *];simp only[aq,aa, *];simp only[aq,aa];rfl;rintro x fr s1 ⟨rfl,e1,lc1,rfl,g1,⟨a0,a1,a2,a8⟩,hW1,n1,m1,c1⟩;have n1:s1.al=s.al+1:=n1;have c1:s1.ci=s.ci:=c1;have b0:aj e1 0=vb:=a0.trans (by simp only[aq,aa, *]);have b1:aj e1 1=vo:=a1.trans (by simp only[aq,aa, *]);have b2:aj e1 2=vt:=a2.trans (by simp only[aq,aa, *]);have b8:aj e1 8= .map s.al:=a8.trans (by simp only[aq,aa, *]);show W (QS sp) 280 _ _ _ _;refine aw ?_;simp only[cG,ah,ofValue,aX];refine aC (aw ?_);simp only[ai,aa,ah,o0,b0,b1,cb,co,h115,hmo,hco,hno];refine bL ?_;refine jr (anW (_la:=0) (_lb0:=0) (Wt:=jx b t) iWo (by omega) (mW:=s.al) (lo:=s.al+1) (fK _) (jx b o) [] _ _ s1 .AL rfl m1 (by omega) hW1 (.inl ⟨rfl,rfl⟩) (aU _) ?_ ?_ ?_ ?_ ?_) ?_;simp only[aq,aa, *];simp only[aq,aa, *];simp only[aq,aa, *];simp only[aq,aa, *];simp only[aq,aa];rfl;rintro x fr s2 ⟨rfl,e2,lc2,ov2,rfl,g2,⟨d0,d1,d2,d11⟩,hO2,hl2,n2,m2,c2⟩;have f0:aj e2 0=vb:=d0.trans (by simp only[aq,aa, *]);have f1:aj e2 1=vo:=d1.trans (by simp only[aq,aa, *]);have f2:aj e2 2=vt:=d2.trans (by simp only[aq,aa, *]);have hoc2:=hO2.aL;have hbd: ∀e,aj e 74= .int .i64 (b.length:Nat)->aj e 76= .int .i64 (o.length:Nat)->aj e 78= .int .i64 (t.length:Nat)->eV ar 435 [(0,.tmp 74),(1,.tmp 76),(2,.tmp 78)] e=some (.agg [.int .i64 (b.length:Nat),.int .i64 (o.length:Nat),.int .i64 (t.length:Nat)]):=fun e p q r=>by
   rw[Iw];simp only[ce,HB,cS,evc,ev,p,q,r,Ba];rfl
  have hbs4: ∀e s,aj e 79= .agg [.int .i64 (b.length:Nat),.int .i64 (o.length:Nat),.int .i64 (t.length:Nat)]->cx ar 433 1 [(0,.tmp 79)] false e s=some (.list 3 [.agg [.int .i64 (b.length:Nat),.int .i64 (o.length:Nat),.int .i64 (t.length:Nat)]] .GE,s):=fun e s h=>N8 (by rw[bq,h]) s;obtain⟨ov3,s3,happ,hO3,hc3,hn3,hm3,hold3,hcell3⟩:=tf IW rfl (by decide) (y:=.list 3 [.agg [.int .i64 (b.length:Nat),.int .i64 (o.length:Nat),.int .i64 (t.length:Nat)]] .GE) (ys:=[wU (b.length,o.length,t.length)]) hO2 rfl (by rw[cZ,rB];omega) (by omega) m2;have hall:cE 3 (s.al+1) s3 ov3 ((rM b o t).map wU):=by rw[rM,je];exact hO3
  have hoc3:=hO3.aL;have hva:aD 3 wU ov3 (rM b o t):=by
   rcases hall with⟨h1,h2⟩|⟨_,k,h1,_⟩
   exact .inl ⟨h1,List.map_eq_nil_iff.1 h2⟩;exact .inr ⟨_,h1⟩
  have hln:=fun mk s=>hva.len aia ah9 mk s;have hall_len:(rM b o t).length<=10000:=by rw[rM,dX,rB];have:=Vb (jx b t) (jx b o);omega
  show W (QS sp) 280 _ _ _ _;refine aw ?_;simp only[ai,ax,aa,ah,o0,f0,f1,f2,d11,cb,co,ct,hlb,hlo,hlt,hoc2,hbd,hbs4,happ];have hb82: ∀e,aj e 82=vb->eV ar 438 [(0,.tmp 82)] e=some (.agg [vb]):=fun e p=>by
   rw[Ix];simp only[ce,MR,cS,evc,ev,p,cb,lb];rfl
  have hb85: ∀e,aj e 85=vo->eV ar 438 [(0,.tmp 85)] e=some (.agg [vo]):=fun e p=>by
   rw[Ix];simp only[ce,MR,cS,evc,ev,p,co,lo];rfl
  have hb88: ∀e,aj e 88=vt->eV ar 438 [(0,.tmp 88)] e=some (.agg [vt]):=fun e p=>by
   rw[Ix];simp only[ce,MR,cS,evc,ev,p,ct,lt];rfl
  refine aw ?_;simp only[ai,aa,ah,o0,f0,f1,f2,hb82,hb85,hb88,jy];obtain⟨s4,hs4⟩: ∃a,a=((s3.new (.cells [vb])).new (.cells [vo])).new (.cells [vt]):=⟨_,rfl⟩;rw[<-hs4];have n4:s4.al=s3.al+3:=by rw[hs4];rfl
  have m4:s4.ge<=s4.al:=by rw[n4];have:s4.ge=s3.ge:=by rw[hs4];rfl
                           omega
  have c4:s4.ci=s.ci:=by rw[hs4];exact hc3.trans (c2.trans c1)
  have gx:s4.get [] s3.al=some (.cells [vb]):=by rw[hs4,cp,jy,jy,bN.2 (by omega),cF,cp,jy,bN.2 (by omega),cF,cp,bS];rfl
  have gy:s4.get [] (s3.al+1)=some (.cells [vo]):=by rw[hs4,cp,jy,jy,bN.2 (by omega),cF,cp,jy,bS];rfl
  have gz:s4.get [] (s3.al+1+1)=some (.cells [vt]):=by rw[hs4,cp,jy,jy,bS];rfl
  refine aw ?_;have hbd3: ∀e,eV ar 435 [(0,.const (.int .i64 (-1))),(1,.const (.int .i64 (-1))),(2,.const (.int .i64 (-1)))] e=some (.agg [.int .i64 (-1),.int .i64 (-1),.int .i64 (-1)]):=fun e=>by
   rw[Iw];simp only[ce,HB,cS,evc,ev,ofValue,aX,Ba];rfl
  simp only[ai,ax,bu,aN,ay,aa,ah,aG,aV,o0,hbd3];have gz19:lc2.gen 19=0:=g2.trans (g1.trans (by first|rfl|(simp only[eZ,aa,cF,gi];try rfl)));refine aw ?_;simp only[cG,ah,ofValue,aX];refine aC (aw ?_);simp only[ai,aa,ah,o0,hoc3,hln];refine bL ?_;refine jr (Zo h116 h117 h37 hb sb so st hva hall_len (x:=s3.al) (y:=s3.al+1) (z:=s3.al+1+1) (lo:=s3.al+3) (by omega) (by omega) (by omega) ⟨by omega,by omega,by omega⟩ (rM b o t) [] 0 0 0 _ _ s4 .AL [] rfl (Io b o t) m4 (by omega) (.inl ⟨rfl,rfl⟩) (aU _) (by omega) (by omega) (by omega) ⟨vb,gx,hb,pb⟩ ⟨vo,gy,ho,po⟩ ⟨vt,gz,ht,pt⟩ ?_ ?_ ?_ ?_ ?_ ?_ ?_ ?_ ?_ ?_ ?_) ?_;simp only[aq,gi,aG,aa, *];simp only[aq,gi,aG,aa, *];simp only[aq,gi,aG,aa, *];simp only[aq,gi,aG,aa, *];simp only[aq,aa];rfl;simp only[aq,gi,aG,aa, *];simp only[aq,gi,aG,aa, *];simp only[aq,gi,aG,aa, *];simp only[aq,aa,gz19];simp only[eZ,aa,cT,gz19];simp only[ew,aa,cT,gz19];rfl;rintro w fr s5 ⟨hz,c5,hcase⟩;have hci:s5.ci=s.ci:=c5.trans c4;rcases hcase with⟨rfl,out',ov',hq,h20,hO5⟩|⟨rfl,hq,h6,h7⟩
  obtain⟨e5,z5,lc5⟩:=fr;have hz:z5=147:=hz;subst hz;have h20:aj e5 20=ov':=h20;have hoc5:=hO5.aL;have hr:CB b o t=some out':=hq;show W (QS sp) 280 _ _ _ _;refine aw ?_;simp only[ai,ah,ofValue,aX,h20];refine bo ⟨.inr rfl,.tup [ov',.bool true],wM (v:=ov') (w:=.bool true) (by simp only[aq,aa, *]) hoc5 (by simp only[aq,aa, *]) rfl,?_,hci⟩;rw[hr];exact Pp hO5;refine⟨.inr rfl,.tup [.AL,.bool false],wM (v:=.AL) (w:=.bool false) h6 rfl h7 rfl,?_,hci⟩;have hr:CB b o t=none:=hq;rw[hr];exact⟨3,rfl⟩
def wR:Sp
 | [u,v,w]=>bif pures [u,v,w] then(fF 1 mS u).bind fun b=>(fF 1 mS v).bind fun o=>(fF 1 mS w).bind fun t=>some (pq (jB b o t)) else none
 |_=>none
def anz(hb:aD 1 aF vb b)(ho:aD 1 aF vo o)(ht:aD 1 aF vt t)(pb:aQ vb=true)(po:aQ vo=true)(pt:aQ vt=true):wR [vb,vo,vt]=some (pq (jB b o t)):=by
 simp only[ce,wR,pures,pb,po,pt,cH,i8 p8 hb,i8 p8 ho,i8 p8 ht]
def H4:du:=[(70,rU),(374,Aw),(375,zR)]
def W5:dc H4:=.cons OU (.cons anH (.cons aiX .nil))
def anA:cq ar 280 wR:=by
 intro args x hv G h w xs wr hx;unfold wR at hv;split at hv;rename_i u v t;obtain⟨hp,hv⟩:=bm hv;simp only[az] at hv;obtain⟨a,h1,b,h2,c,h3,hv⟩:=hv;injection hv with hv;subst hv
 have ha:=ij (fun v a=>pZ) h1;have hb:=ij (fun v a=>pZ) h2;have hc:=ij (fun v a=>pZ) h3;have hq:aQ u=true/\aQ v=true/\aQ t=true:=by
  simp only[pures,rr,bA] at hp;exact hp
 obtain⟨ov,s',r1,r2,r3⟩:=anB (sp:=fun f=>cI f H4) rfl rfl rfl rfl rfl rfl ha hb hc hq.1 hq.2.1 hq.2.2 (s:=s0) (aU _);exact eA (Q:=QT H4) (ep W5) (fun _=>eH 1) (args:=[u,v,t]) (v:=ov) (s':=s') (kh hp) (by rw[gK hp];exact r1) r3 r2 G h w xs wr hx;cases hv
def amK(r:Option (List ak)):(∃l,r=some l/\pq r= .tup [fv 1 (l.map aF),.bool true]/\aD 1 aF (fv 1 (l.map aF)) l)\/(r=none/\pq r= .tup [.AL,.bool false]):=by
 cases r with
 |none=>exact .inr ⟨rfl,rfl⟩
 |some l=>
  refine .inl ⟨l,rfl,rfl,?_⟩;cases l with
  |nil=>exact .inl ⟨rfl,rfl⟩
  |cons a l=>exact .inr ⟨_,rfl⟩
