/- Lemmas for ValidViews. -/
import Derived.Test.YtnnppcoplinajaaGreatB8
import Derived.Test.YtnnppcoplinajaaGreatB12
import Derived.Test.YtnnppcoplinajaaGreatAg3
set_option linter.all false
open Bool renaming and_eq_true→bu,and_false→gN,and_self→cw,false_and→dW,false_ne_true→K5,false_or→kg,not_false→hG,not_true→fp,or_eq_false_iff→v9,true_and→eH
open Classical renaming byContradiction→sB
open List renaming all_cons→ju,all_eq_true→f8,append_assoc→ny,append_nil→kC,drop→bP,eq_nil_of_length_eq_zero→uv,filter_append→DR,filter_cons_of_neg→G5,filter_cons_of_pos→K9,foldl_cons→uA,getD_eq_getElem?_getD→nA,getElem?_eq_getElem→gn,getElem?_eq_some_iff→nY,getElem?_map→jf,getElem?_of_mem→we,getElem?_zip_eq_some→La,getElem_mem→xR,length_append→cJ,length_cons→bH,length_filter_le→kT,length_map→ce,length_nil→bn,length_tail→xS,map_append→ff,map_cons→fy,map_eq_nil_iff→xT,map_nil→uB,mem_append_left→Lc,mem_append→lj,mem_cons_of_mem→iE,mem_cons_self→iL,mem_cons→fc,mem_map→dy,mem_of_getElem?→eP,nodup_append→wf,range→ix,take→df
open Nat renaming beq→aQ,ble_eq_true_of_le→cP,ble→bw,blt→bm,eq_of_beq_eq_true→jP,le_of_ble_eq_true→fW,le_refl→br,le_succ_of_le→cq,lt_irrefl→cD,lt_of_lt_of_le→hJ,lt_succ_self→kU,mod_lt→uF,mul_one→xU,not_lt_zero→Hb,reduceAdd→bQ,reduceBEq→ah,reduceDiv→eR,reduceEqDiff→eI,reduceLT→aB,reduceLeDiff→cK,reduceMod→ep,reduceMul→ee,reducePow→ew,reduceSub→ey,zero_add→bV
open Option renaming bind_eq_some_iff→ak,bind_some→au,map_none→sF,map_some→kn
open Option.some renaming injEq→aJ
open Go.Proofs.Tryz renaming prog→ae
open Go.Ag.W renaming drawX→iT,loopC→bG,rfun→oS
open Go.Ag.WC renaming sound→co
namespace Go.Proofs.YtnnppcoplinajaaGreat
open Go.Ag
noncomputable abbrev m4(E:ax)(x:Option Ex):aR:=.loop 229 E 54 [21,22] E6 E8 x
variable{a:Nat}
def abw{b:Nat}(h:b<=a)(j:a<=100000):IntKind.i64.wrap (((a:Nat):Int)-((b:Nat):Int))=((a-b:Nat):Int):=by
 have d:nh ((a:Nat):Int)=true:=by unfold nh;simp only[bu,dE];omega
 have c:nh ((b:Nat):Int)=true:=by unfold nh;simp only[bu,dE];omega
 rw[KC d c];omega
def Vl(a b:Nat):an ((a:Nat):Int) ((b:Nat):Int)=(a==b):=by
 rw[Bool.eq_iff_iff];simp only[an,bE];omega
variable{i:Nat}
def Bc{r:List Pt}(c:r.all bk=true)(d:i<r.length):bk (fw r i).1=true/\bk (fw r i).2=true:=by
 have h:=f8.1 c;have j:(i+1) % r.length<r.length:=uF _ (by omega);unfold fw;rw[gn d,gn j];exact⟨h _ (xR _),h _ (xR _)⟩
structure iG (r:List Pt) (i:Nat) (s0 s:St):Prop where
 old: ∀j,j<s0.aL->s.get [] j=s0.get [] j
 mw:s.gt<=s.aL
 lt:s0.aL<s.aL
 ci:s.ci=s0.ci
variable{b2 b3 b4 b5 bx k:Nat}{s:St}{rv:aa}{E:ax}
section
variable{Q:aH}(hP:Q.P=ae)(hh:Q.hint=ai)(hH: ∀f,Q.specH f=none)
include hP hh hH
omit hH in
theorem aqF(d:Q.spec 225=some lD){r:List Pt}(a7:r.length<=2000)(hn:r.all bk=true)(hi:i<r.length){s0:St}(a0:s0.get [] b2=some (.cells [.bool false]))(a6:s0.get [] b3=some (.cells [.int .i64 (r.length:Nat)]))(a5:s0.get [] b4=some (.cells [.int .i64 (i:Nat)]))(a4:s0.get [] b5=some (.cells (bX (fw r i)).cells))(l2:b2<s0.aL)(l3:b3<s0.aL)(l4:b4<s0.aL)(l5:b5<s0.aL)(e2:ac E 2= .ptr b2 0)(e3:ac E 3= .ptr b3 0)(Y:ac E 4= .ptr b4 0)(e5:ac E 5= .ptr b5 0)(hk:k<r.length)(a2:k<=i)(hI:iG r i s0 s)(hl:s.get [] s0.aL=some (m4 E none)):
 ∃v s',ji Q s0.aL [.int .i64 (k:Nat),bX (fw r k)] s.top v s'/\(s'.ci=s.ci/\s.aL<=s'.aL/\iG r i s0 (s.Gt s')/\((v= .bool true/\s'.get [] s0.aL=some (m4 E none)/\k<i/\nQ r i k=true)\/(v= .bool false/\((s'.get [] s0.aL=some (m4 E (some (.exit 2)))/\k=i)\/(s'.get [] s0.aL=some (m4 E (some .ret))/\k<i/\nQ r i k=false))))):=by
 obtain⟨n1,n2⟩:=Bc hn hi;obtain⟨n3,n4⟩:=Bc hn hk;have F:=OQ n1 n2 n3 n4;have a8:=hI.lt;have a1:=hI.mw;refine ji.any (ca:=NS) (cb:=w6) (show s.top.get [] s0.aL=_ from hl) rfl rfl ai4 ai6 ?_;refine co ?_;obtain⟨w,hw⟩:=ct (s.top.put s0.aL none);have wn:w.aL=s.aL:=by rw[<-hw];rfl
 have wo: ∀j,j≠s0.aL->w.get [] j=s.get [] j:=fun j V=>by rw[<-hw,aX,bN.2 V];rfl
 obtain⟨z,R⟩:=ct ((w.new (.cells [.int .i64 0,.int .i64 0,.int .i64 0,.int .i64 0])).put w.aL (some (.cells (bX (fw r k)).cells)));simp only[bX,gD] at R;have a3:(w.new (.cells [.int .i64 0,.int .i64 0,.int .i64 0,.int .i64 0])).get [] w.aL=some (.cells [.int .i64 0,.int .i64 0,.int .i64 0,.int .i64 0]):=cW;simp only[go_sem,hP,hh,seval,NS,bX,hw,dn,a3,dp,R,bj,bg,aZ,bf,evc];have zn:z.aL=s.aL+1:=by rw[<-R,<-wn];rfl
 have zc:z.ci=s.ci:=by rw[<-R,<-hw];rfl
 have zm:z.gt<=z.aL:=by
  rw[<-R];exact dh _ _ _ (by show w.gt<=w.aL+1;rw[<-hw];exact cq (dh s.top _ _ (br _)))
 have I:z.get [] w.aL=some (.cells (bX (fw r k)).cells):=by rw[<-R,aX,bS];rfl
 have H: ∀j,j<s0.aL->z.get [] j=s0.get [] j:=fun j V=>by
  rw[<-R,aX,bN.2 (by omega:j≠w.aL),cF,cz (by omega),wo j (by omega)];exact hI.old j V
 have z2:=(H b2 l2).trans a0;have Z:=(H b3 l3).trans a6;have O:=(H b4 l4).trans a5;have J:=(H b5 l5).trans a4;have fin: ∀(D:St) (o:Option Ex),(∀j,j<s0.aL->D.get [] j=s0.get [] j)->D.aL=s.aL+1->D.ci=s.ci->D.gt<=D.aL->(D.put s0.aL (some (m4 E o))).ci=s.ci/\s.aL<=(D.put s0.aL (some (m4 E o))).aL/\iG r i s0 (s.Gt (D.put s0.aL (some (m4 E o))))/\(D.put s0.aL (some (m4 E o))).get [] s0.aL=some (m4 E o):=fun D o q1 q2 q3 q4=>by
  have qn:(D.put s0.aL (some (m4 E o))).aL=s.aL+1:=q2;refine⟨q3,by omega,⟨fun j V=>?_,pW a1 (by omega),?_,?_⟩,by rw[aX,bS];rfl⟩;rw[mY,aX,bN.2 (by omega:j≠s0.aL)];exact q1 j V;show s0.aL<(D.put s0.aL (some (m4 E o))).aL;omega;exact q3.trans hI.ci
 obtain⟨M,hM⟩:=ct (ld (fw r i) (fw r k));rw[hM] at F;have m:nQ r i k=bif(an ((i-k:Nat):Int) 1||an ((i-k:Nat):Int) ((r.length-1:Nat):Int)) then an M 1 else an M 0:=by
  have h1:an ((i-k:Nat):Int) 1=(i-k==1):=Vl (i-k) 1;unfold nQ;rw[hM,h1,Vl]
 have C:=abw a2 (by omega);have B:IntKind.i64.wrap (((r.length:Nat):Int)-1)=((r.length-1:Nat):Int):=abw (a:=r.length) (b:=1) (by omega) (by omega);refine co ?_;simp only[bX,gD] at F J I;by_cases hE:k=i;subst hE;have u:cr ((k:Nat):Int) ((k:Nat):Int)=true:=by simp[cr]
 simp only[go_sem,hP,hh,seval,w6,Y,O,aW,aY,kE,u,jI,jL];obtain⟨f1,f2,f3,f4⟩:=fin z (some (.exit 2)) H zn zc zm;exact⟨f1,f2,f3,.inr (.inl f4)⟩;have c:k<i:=by omega
 have u:cr ((i:Nat):Int) ((k:Nat):Int)=false:=by simp only[cr,decide_eq_false_iff_not];omega
 obtain⟨y,U⟩:=ct (z.put b2 (some (.cells [.bool false])));have yn:y.aL=s.aL+1:=by rw[<-U];exact zn
 have yc:y.ci=s.ci:=by rw[<-U];exact zc
 have ym:y.gt<=y.aL:=by rw[<-U];exact dh _ _ _ zm
 have yo: ∀j,j<s0.aL->y.get [] j=s0.get [] j:=fun j V=>by
  rw[<-U,aX];cases e:j==b2 with
  |true=>
   have:=eq_of_beq e;subst this;exact a0.symm
  |false=>exact H j V
 obtain⟨f1,f2,f3,f4⟩:=fin z none H zn zc zm;obtain⟨g1,g2,g3,g4⟩:=fin y (some .ret) yo yn yc ym;cases c1:an ((i-k:Nat):Int) 1 with
 |true=>
  rw[c1,Bool.true_or,cT] at m;cases c3:an M 1 with
  |true=>
   simp only[go_sem,hP,hh,seval,w6,e2,e3,Y,e5,z2,Z,O,J,I,aW,aY,kE,u,jI,jL,d,F,cd,C,B,c1,c3];exact⟨f1,f2,f3,.inl ⟨f4,c,by rw[m,c3]⟩⟩
  |false=>
   simp only[go_sem,hP,hh,seval,w6,e2,e3,Y,e5,z2,Z,O,J,I,aW,aY,kE,u,jI,jL,d,F,cd,C,B,c1,c3,dn,dp,U];exact⟨g1,g2,g3,.inr (.inr ⟨g4,c,by rw[m,c3]⟩)⟩
 |false=>
  cases c2:an ((i-k:Nat):Int) ((r.length-1:Nat):Int) with
  |true=>
   rw[c1,c2,kg,cT] at m;cases c3:an M 1 with
   |true=>
    simp only[go_sem,hP,hh,seval,w6,e2,e3,Y,e5,z2,Z,O,J,I,aW,aY,kE,u,jI,jL,d,F,cd,C,B,c1,c2,c3];exact⟨f1,f2,f3,.inl ⟨f4,c,by rw[m,c3]⟩⟩
   |false=>
    simp only[go_sem,hP,hh,seval,w6,e2,e3,Y,e5,z2,Z,O,J,I,aW,aY,kE,u,jI,jL,d,F,cd,C,B,c1,c2,c3,dn,dp,U];exact⟨g1,g2,g3,.inr (.inr ⟨g4,c,by rw[m,c3]⟩)⟩
  |false=>
   rw[c1,c2,kg,cF] at m;cases c3:an M 0 with
   |true=>
    simp only[go_sem,hP,hh,seval,w6,e2,e3,Y,e5,z2,Z,O,J,I,aW,aY,kE,u,jI,jL,d,F,cd,C,B,c1,c2,c3];exact⟨f1,f2,f3,.inl ⟨f4,c,by rw[m,c3]⟩⟩
   |false=>
    simp only[go_sem,hP,hh,seval,w6,e2,e3,Y,e5,z2,Z,O,J,I,aW,aY,kE,u,jI,jL,d,F,cd,C,B,c1,c2,c3,dn,dp,U];exact⟨g1,g2,g3,.inr (.inr ⟨g4,c,by rw[m,c3]⟩)⟩
theorem aqG(w:Q.spec 339=none)(d:Q.specW 339=none)(y:Q.spec 225=some lD){r:List Pt}(hr:ay 2 aU rv r)(c:r.length<=2000)(hn:r.all bk=true)(hi:i<r.length){s0:St}(J:s0.get [] bx=some (.cells [rv]))(U:s0.get [] b2=some (.cells [.bool false]))(R:s0.get [] b3=some (.cells [.int .i64 (r.length:Nat)]))(O:s0.get [] b4=some (.cells [.int .i64 (i:Nat)]))(M:s0.get [] b5=some (.cells (bX (fw r i)).cells))(lx:bx<s0.aL)(l2:b2<s0.aL)(l3:b3<s0.aL)(l4:b4<s0.aL)(l5:b5<s0.aL)(e2:ac E 2= .ptr b2 0)(e3:ac E 3= .ptr b3 0)(e4:ac E 4= .ptr b4 0)(e5:ac E 5= .ptr b5 0)(H:s0.gt<=s0.aL):
 ∃v s',aq Q 339 [.yld s0.aL,.ptr bx 0] (s0.new (m4 E none)) v s'/\(v= .tup []/\iG r i s0 s'/\((s'.get [] s0.aL=some (m4 E (some (.exit 2)))/\ ∀k,k<i->nQ r i k=true)\/(s'.get [] s0.aL=some (m4 E (some .ret))/\ ∃k,k<i/\nQ r i k=false))):=by
 obtain⟨v,s',m,rfl,h⟩:=Bk hP hh hH w d hr c (bx:=bx) (n:=s0.aL) (P:=fun k s=>iG r i s0 s/\s.get [] s0.aL=some (m4 E none)/\k<=i/\ ∀j,j<k->nQ r i j=true) (D:=fun s=>iG r i s0 s/\((s.get [] s0.aL=some (m4 E (some (.exit 2)))/\ ∀k,k<i->nQ r i k=true)\/(s.get [] s0.aL=some (m4 E (some .ret))/\ ∃k,k<i/\nQ r i k=false))) (fun k s h=>(h.1.old bx lx).trans J) (fun k s h=>h.1.mw) (fun k s hk ⟨hI,hl,I,u⟩=>by
  obtain⟨v,s',q1,q2,Z,F,Y⟩:=aqF hP hh y c hn hi U R O M l2 l3 l4 l5 e2 e3 e4 e5 hk I hI hl;refine⟨v,s',q1,q2,Z,?_⟩;rcases Y with⟨rfl,z,C,V⟩|⟨rfl,⟨z,C⟩|⟨z,C,V⟩⟩
  refine .inl ⟨rfl,F,z,by omega,fun j B=>?_⟩;by_cases e:j=k;subst e;exact V;exact u j (by omega);subst C;exact .inr ⟨rfl,F,.inl ⟨z,u⟩⟩;exact .inr ⟨rfl,F,.inr ⟨z,k,C,V⟩⟩) (s:=s0.new (m4 E none)) ⟨⟨fun j B=>cz B,cq H,kU _,rfl⟩,cW,Nat.zero_le _,fun j B=>absurd B (Hb _)⟩
 refine⟨_,s',m,rfl,?_⟩;rcases h with⟨_,_,h,_⟩|h
 omega;exact h
end
noncomputable abbrev qM(E:ax)(x:Option Ex):aR:=.loop 229 E 54 [17,18] E7 E9 x
def rJ:tz ae 339=true:=by kernel_rfl
def vH{r:List Pt}(h:ay 2 aU rv r):jY rv=true:=by
 rcases h with⟨rfl,_⟩|⟨_,rfl⟩<;>rfl
variable{K:Ex->Fr->St->Prop}
section
variable{Q:aH}(hP:Q.P=ae)(hh:Q.hint=ai)(hH: ∀f,Q.specH f=none)
include hP hh hH
theorem aqE(y:Q.spec 339=none)(d:Q.specW 339=none)(z:Q.spec 225=some lD){r:List Pt}(hr:ay 2 aU rv r)(m:r.length<=2000)(hn:r.all bk=true)(hi:i<r.length){s0:St}(I:s0.get [] bx=some (.cells [rv]))(R:s0.get [] b2=some (.cells [.bool false]))(O:s0.get [] b3=some (.cells [.int .i64 (r.length:Nat)]))(M:s0.get [] b4=some (.cells [.int .i64 (i:Nat)]))(J:s0.get [] b5=some (.cells (bX (fw r i)).cells))(Z:bx<s0.aL)(l2:b2<s0.aL)(l3:b3<s0.aL)(l4:b4<s0.aL)(l5:b5<s0.aL)(e2:ac E 2= .ptr b2 0)(e3:ac E 3= .ptr b3 0)(e4:ac E 4= .ptr b4 0)(e5:ac E 5= .ptr b5 0)(B:ac E 20= .func (.func 339) [] [.ptr bx 0])(Y:E.all jY=true)(F:s0.gt<=s0.aL)(V: ∀x U,iG r i s0 U->((x= .exit 2/\ ∀k,k<i->nQ r i k=true)\/(x= .ret/\ ∃k,k<i/\nQ r i k=false))->K x ⟨E,54,[]⟩ U):W Q 229 (.rfun (.tmp 20) [21,22] E6 E8) ⟨E,54,[]⟩ s0 K:=by
 obtain⟨v,s',c,rfl,C,h⟩:=aqG hP hh hH y d z hr m hn hi I R O M J Z l2 l3 l4 l5 e2 e3 e4 e5 F;have w:iG r i s0 (s'.put s0.aL none):=⟨fun j hj=>by rw[aX,bN.2 (by omega:j≠s0.aL)];exact C.old j hj,dh _ _ _ C.mw,C.lt,C.ci⟩;rcases h with⟨H,D⟩|⟨H,u⟩
 exact oS (h:=339) (first:=[]) (captured:=[.ptr bx 0]) (v:=.tup []) (s1:=s') (by simp only[aA,B]) (by rw[hP,rJ,Wb,Y];rfl) c H (V _ _ w (.inl ⟨rfl,D⟩));exact oS (h:=339) (first:=[]) (captured:=[.ptr bx 0]) (v:=.tup []) (s1:=s') (by simp only[aA,B]) (by rw[hP,rJ,Wb,Y];rfl) c H (V _ _ w (.inr ⟨rfl,u⟩))
theorem aqC(V:Q.spec 339=none)(J:Q.specW 339=none)(B:Q.spec 235=none)(M:Q.specW 235=none)(Y:Q.spec 225=some lD){r:List Pt}(Z:ay 2 aU rv r)(R:r.length<=2000)(hn:r.all bk=true)(hi:i<r.length){s0:St}(a7:s0.get [] bx=some (.cells [rv]))(a9:s0.get [] b2=some (.cells [.bool false]))(a8:s0.get [] b3=some (.cells [.int .i64 (r.length:Nat)]))(lx:bx<s0.aL)(l2:b2<s0.aL)(l3:b3<s0.aL)(e1:ac E 1= .ptr bx 0)(e2:ac E 2= .ptr b2 0)(e3:ac E 3= .ptr b3 0)(hE:E.all jY=true)(hI:iG r 0 s0 s)(hl:s.get [] s0.aL=some (qM E none)):
 ∃v s',ji Q s0.aL [.int .i64 (i:Nat),bX (fw r i)] s.top v s'/\(s'.ci=s.ci/\s.aL<=s'.aL/\iG r 0 s0 (s.Gt s')/\((v= .bool true/\s'.get [] s0.aL=some (qM E none)/\ ∀k,k<i->nQ r i k=true)\/(v= .bool false/\s'.get [] s0.aL=some (qM E (some .ret))/\ ∃k,k<i/\nQ r i k=false))):=by
 have b0:=hI.lt;have a3:=hI.mw;have a6:=Z.ge;refine ji.any (ca:=NT) (cb:=NV) (show s.top.get [] s0.aL=_ from hl) rfl rfl ai5 ai7 ?_;refine co ?_;obtain⟨w,O⟩:=ct (s.top.put s0.aL none);have wn:w.aL=s.aL:=by rw[<-O];rfl
 have wc:w.ci=s.ci:=by rw[<-O];rfl
 have wo: ∀j,j≠s0.aL->w.get [] j=s.get [] j:=fun j c=>by rw[<-O,aX,bN.2 c];rfl
 have wm:w.gt<=w.aL:=by rw[<-O];exact dh s.top _ _ (br _)
 obtain⟨z,H⟩:=ct ((w.new (.cells [.int .i64 0])).put w.aL (some (.cells [.int .i64 (i:Nat)])));have zn:z.aL=s.aL+1:=by rw[<-H,<-wn];rfl
 have zm:z.gt<=z.aL:=by rw[<-H];exact dh _ _ _ (cq wm)
 have zk:z.get [] w.aL=some (.cells [.int .i64 (i:Nat)]):=by rw[<-H,aX,bS];rfl
 have zo: ∀j,j<w.aL->z.get [] j=w.get [] j:=fun j c=>by rw[<-H,aX,bN.2 (by omega:j≠w.aL),cF,cz c]
 obtain⟨y,D⟩:=ct ((z.new (.cells [.int .i64 0,.int .i64 0,.int .i64 0,.int .i64 0])).put z.aL (some (.cells (bX (fw r i)).cells)));have yn:y.aL=s.aL+2:=by
  rw[<-D];show z.aL+1=_;omega
 have ym:y.gt<=y.aL:=by rw[<-D];exact dh _ _ _ (cq zm)
 have yk:y.get [] z.aL=some (.cells (bX (fw r i)).cells):=by rw[<-D,aX,bS];rfl
 have yo: ∀j,j<z.aL->y.get [] j=z.get [] j:=fun j c=>by rw[<-D,aX,bN.2 (by omega:j≠z.aL),cF,cz c]
 have yc:y.ci=s.ci:=by rw[<-D,<-H];exact wc
 have m: ∀j,j<s0.aL->y.get [] j=s0.get [] j:=fun j c=>by rw[yo j (by omega),zo j (by omega),wo j (by omega)];exact hI.old j c
 have a0:=(m bx lx).trans a7;simp only[bX,gD] at D;have a5:(w.new (.cells [.int .i64 0])).get [] w.aL=some (.cells [.int .i64 0]):=cW;have a4:(z.new (.cells [.int .i64 0,.int .i64 0,.int .i64 0,.int .i64 0])).get [] z.aL=some (.cells [.int .i64 0,.int .i64 0,.int .i64 0,.int .i64 0]):=cW;simp only[go_sem,hP,hh,seval,NT,bX,O,dn,a5,a4,dp,H,D,bj,bg,aZ,bf,evc];refine co ?_;have C:=Bj hP hh hH B M Z y;obtain⟨x,I⟩:=ct (y.new (.cells [rv]));have xn:x.aL=s.aL+3:=by
  rw[<-I];show y.aL+1=_;omega
 have xm:x.gt<=x.aL:=by rw[<-I];exact cq ym
 have xc:x.ci=s.ci:=by rw[<-I];exact yc
 have xk:x.get [] y.aL=some (.cells [rv]):=by rw[<-I];exact cW
 have xo: ∀j,j<y.aL->x.get [] j=y.get [] j:=fun j c=>by rw[<-I,cz c]
 have d: ∀j,j<s0.aL->x.get [] j=s0.get [] j:=fun j c=>(xo j (by omega)).trans (m j c);rw[I] at C;simp only[go_sem,hP,hh,seval,NV,e1,a0,aW,aY,sj,a6,B];refine cG.of C (by decide) ?_;simp only[go_sem,hP,hh,seval];have a1:=vH Z;refine aqE hP hh hH V J Y Z R hn hi (bx:=y.aL) (b2:=b2) (b3:=b3) (b4:=w.aL) (b5:=z.aL) (s0:=x) xk ((d b2 l2).trans a9) ((d b3 l3).trans a8) ?_ ?_ (by omega) (by omega) (by omega) (by omega) (by omega) ?_ ?_ ?_ ?_ ?_ ?_ xm ?_;rw[xo _ (by omega),yo _ (by omega)];exact zk;rw[xo _ (by omega)];exact yk;simp only[sN,seval,e2];simp only[sN,seval,e3];simp only[sN,seval];simp only[sN,seval];simp only[sN,seval];exact aC.all_set (aC.all_set (aC.all_set (aC.all_set (aC.all_set (aC.all_set hE rfl) rfl) rfl) rfl) a1) rfl;intro ex u F hc;have n2:=F.lt;have g1: ∀(o:Option Ex),(u.put s0.aL (some (qM E o))).ci=s.ci/\s.aL<=(u.put s0.aL (some (qM E o))).aL/\iG r 0 s0 (s.Gt (u.put s0.aL (some (qM E o))))/\(u.put s0.aL (some (qM E o))).get [] s0.aL=some (qM E o):=fun o=>by
  have qn:(u.put s0.aL (some (qM E o))).aL=u.aL:=rfl;have qc:(u.put s0.aL (some (qM E o))).ci=s.ci:=F.ci.trans xc;refine⟨qc,by omega,⟨fun j c=>?_,pW a3 (by omega),?_,qc.trans hI.ci⟩,by rw[aX,bS];rfl⟩;rw[mY,aX,bN.2 (by omega:j≠s0.aL)];exact(F.old j (by omega)).trans (d j c);show s0.aL<u.aL;omega
 rcases hc with⟨rfl,a2⟩|⟨rfl,U⟩
 obtain⟨f1,f2,f3,f4⟩:=g1 none;exact⟨f1,f2,f3,.inl ⟨rfl,f4,a2⟩⟩;obtain⟨f1,f2,f3,f4⟩:=g1 (some .ret);exact⟨f1,f2,f3,.inr ⟨rfl,f4,U⟩⟩
end
def Wc:(dY E7&&dY E9)=true:=by kernel_rfl
def aal{r:List Pt}(h:pz r=true):(kz r=true↔ ∀i,i<r.length-> ∀k,k<i->nQ r i k=true):=by
 unfold kz;rw[h,eH,f8];simp only[List.mem_range,f8]
def aqH{r:List Pt}(j:i<r.length)(d:k<i)(h:nQ r i k=false):kz r=false:=by
 cases e:kz r with
 |false=>rfl
 |true=>
  have c:pz r=true:=by unfold kz at e;simp only[bu] at e;exact e.1
  have:=(aal c).1 e i j k d;rw[h] at this;cases this
def Dk{r:List Pt}(h:pz r=true):(3<=r.length/\r.length<=2000)/\r.all bk=true:=by
 unfold pz at h;simp only[bu,dE] at h;exact⟨⟨h.1,h.2.1⟩,h.2.2⟩
variable{lc:Ag.Loc}
section
variable{Q:aH}(hP:Q.P=ae)(hh:Q.hint=ai)(hH: ∀f,Q.specH f=none)
include hP hh hH
theorem aqD(y:Q.spec 339=none)(d:Q.specW 339=none)(J:Q.spec 235=none)(C:Q.specW 235=none)(M:Q.spec 225=some lD){r:List Pt}(hr:ay 2 aU rv r)(u:pz r=true){by':Nat}{s0:St}(Y:s0.get [] bx=some (.cells [rv]))(V:s0.get [] by'=some (.cells [rv]))(a0:s0.get [] b2=some (.cells [.bool false]))(Z:s0.get [] b3=some (.cells [.int .i64 (r.length:Nat)]))(lx:bx<s0.aL)(ly:by'<s0.aL)(l2:b2<s0.aL)(l3:b3<s0.aL)(e1:ac E 1= .ptr bx 0)(e2:ac E 2= .ptr b2 0)(e3:ac E 3= .ptr b3 0)(O:ac E 16= .func (.func 339) [] [.ptr by' 0])(hE:E.all jY=true)(R:s0.gt<=s0.aL)(H: ∀x s2,iG r 0 s0 s2->((x= .normal/\kz r=true)\/(x= .ret/\kz r=false))->K x ⟨E,54,lc⟩ s2):W Q 229 (.rfun (.tmp 16) [17,18] E7 E9) ⟨E,54,lc⟩ s0 K:=by
 obtain⟨⟨a1,w⟩,hn⟩:=Dk u;obtain⟨v,s',m,rfl,h⟩:=Bk hP hh hH y d hr w (bx:=by') (n:=s0.aL) (P:=fun i s=>iG r 0 s0 s/\s.get [] s0.aL=some (qM E none)/\ ∀j,j<i-> ∀k,k<j->nQ r j k=true) (D:=fun s=>iG r 0 s0 s/\s.get [] s0.aL=some (qM E (some .ret))/\kz r=false) (fun k s h=>(h.1.old by' ly).trans V) (fun k s h=>h.1.mw) (fun i s hi ⟨c,hl,z⟩=>by
  obtain⟨v,s',q1,q2,q3,q4,q5⟩:=aqC hP hh hH y d J C M hr w hn hi Y a0 Z lx l2 l3 e1 e2 e3 hE c hl;refine⟨v,s',q1,q2,q3,?_⟩;rcases q5 with⟨rfl,h1,h2⟩|⟨rfl,h1,k,h2,h3⟩
  refine .inl ⟨rfl,q4,h1,fun j B k H=>?_⟩;by_cases e:j=i;subst e;exact h2 k H;exact z j (by omega) k H;exact .inr ⟨rfl,q4,h1,aqH hi h2 h3⟩) (s:=s0.new (qM E none)) ⟨⟨fun j B=>cz B,cq R,kU _,rfl⟩,cW,fun j B=>absurd B (Hb _)⟩
 have F:iG r 0 s0 s'->iG r 0 s0 (s'.put s0.aL none):=fun c=>⟨fun j B=>by rw[aX,bN.2 (by omega:j≠s0.aL)];exact c.old j B,dh _ _ _ c.mw,c.lt,c.ci⟩;rcases h with⟨c,U,z⟩|⟨c,U,I⟩
 exact oS (h:=339) (first:=[]) (captured:=[.ptr by' 0]) (v:=.tup []) (s1:=s') (by simp only[aA,O]) (by rw[hP,rJ,Wc,hE];rfl) m U (H _ _ (F c) (.inl ⟨rfl,(aal u).2 z⟩));exact oS (h:=339) (first:=[]) (captured:=[.ptr by' 0]) (v:=.tup []) (s1:=s') (by simp only[aA,O]) (by rw[hP,rJ,Wc,hE];rfl) m U (H _ _ (F c) (.inr ⟨rfl,I⟩))
theorem aqI(a2:Q.spec 495=none)(O:Q.specW 495=none)(a5:Q.spec 428=none)(V:Q.specW 428=none)(a3:Q.spec 430=none)(R:Q.specW 430=none)(a4:Q.spec 429=none)(U:Q.specW 429=none)(B:Q.spec 326=none)(Z:Q.specW 326=none)(a6:Q.spec 339=none)(Y:Q.specW 339=none)(m:Q.spec 235=none)(z:Q.specW 235=none)(a8:Q.spec 225=some lD)(a7:Q.spec 229=none)(a0:Q.specW 229=none){r:List Pt}(F:ay 2 aU rv r)(b8:s.gt<=s.aL):
 ∃v s',aq Q 229 [rv] s v s'/\(v= .bool (kz r)/\(∀j,j<s.aL->s'.get [] j=s.get [] j)/\s.aL<=s'.aL/\s'.gt<=s'.aL/\s'.ci=s.ci):=by
 have a1:=F.ge;have b0:=F.scal;have b1:=vH F;have c3:=F.lenS pB;obtain⟨x,D⟩:=ct ((s.new (.cells [rv])).new (.cells [.bool false]));have H:(s.new (.cells [rv])).aL=s.aL+1:=rfl;have xn:x.aL=s.aL+2:=by rw[<-D];rfl
 have xm:x.gt<=x.aL:=by rw[<-D];exact cq (cq b8)
 have x0:x.get [] s.aL=some (.cells [rv]):=by rw[<-D,cz (by rw[H];omega)];exact cW
 have x1:x.get [] (s.aL+1)=some (.cells [.bool false]):=by rw[<-D];exact cW
 have xo: ∀j,j<s.aL->x.get [] j=s.get [] j:=fun j d=>by rw[<-D,cz (by rw[H];omega),cz d]
 have xc:x.ci=s.ci:=by rw[<-D];rfl
 have a9:=ZM hP hh hH a2 O a5 V a3 R a4 U B Z F x;refine aq.ofWZ hP hH ai8 a7 a0 ?_;refine co ?_;simp only[go_sem,hP,hh,seval,a1,b0,H,D,aW,x0,aY,sj,B];refine cG.of a9 (by decide) ?_;cases hreg:pz r with
 |false=>
  have hs:kz r=false:=by unfold kz;rw[hreg];rfl
  obtain⟨y,c⟩:=ct (x.put (s.aL+1) (some (.cells [.bool false])));have yk:y.get [] (s.aL+1)=some (.cells [.bool false]):=by rw[<-c,aX,bS];rfl
  simp only[go_sem,hP,hh,seval,dn,x1,dp,c,aW,yk,aY];refine⟨_,rfl,by rw[hs],fun j d=>?_,?_,?_,?_⟩;rw[<-c,aX,bN.2 (by omega:j≠s.aL+1)];exact xo j d;rw[<-c];show s.aL<=x.aL;omega;rw[<-c];exact dh _ _ _ xm;rw[<-c];exact xc
 |true=>
  obtain⟨w,J⟩:=ct ((x.new (.cells [.int .i64 0])).put x.aL (some (.cells [.int .i64 (r.length:Nat)])));have c4:(x.new (.cells [.int .i64 0])).get [] x.aL=some (.cells [.int .i64 0]):=cW;have wn:w.aL=s.aL+3:=by
   rw[<-J];show x.aL+1=_;omega
  have wm:w.gt<=w.aL:=by rw[<-J];exact dh _ _ _ (cq xm)
  have wk:w.get [] x.aL=some (.cells [.int .i64 (r.length:Nat)]):=by rw[<-J,aX,bS];rfl
  have wo: ∀j,j<x.aL->w.get [] j=x.get [] j:=fun j d=>by rw[<-J,aX,bN.2 (by omega:j≠x.aL),cF,cz d]
  have wc:w.ci=s.ci:=by rw[<-J];exact xc
  have w0:=(wo s.aL (by omega)).trans x0;have C:=Bj hP hh hH m z F w;obtain⟨u,M⟩:=ct (w.new (.cells [rv]));have un:u.aL=s.aL+4:=by
   rw[<-M];show w.aL+1=_;omega
  have um:u.gt<=u.aL:=by rw[<-M];exact cq wm
  have uk:u.get [] w.aL=some (.cells [rv]):=by rw[<-M];exact cW
  have uo: ∀j,j<w.aL->u.get [] j=w.get [] j:=fun j d=>by rw[<-M,cz d]
  have uc:u.ci=s.ci:=by rw[<-M];exact wc
  rw[M] at C;simp only[go_sem,hP,hh,seval,aW,x0,aY,sj,a1,c3,dn,c4,dp,J,w0,m];refine cG.of C (by decide) ?_;simp only[go_sem,hP,hh,seval];refine aqD hP hh hH a6 Y m z a8 F hreg (bx:=s.aL) (by':=w.aL) (b2:=s.aL+1) (b3:=x.aL) (s0:=u) ?_ uk ?_ ?_ (by omega) (by omega) (by omega) (by omega) ?_ ?_ ?_ ?_ ?_ um ?_;rw[uo _ (by omega)];exact w0;rw[uo _ (by omega),wo _ (by omega)];exact x1;rw[uo _ (by omega)];exact wk;simp only[sN,seval];simp only[sN,seval];simp only[sN,seval];simp only[sN,seval]
  ·repeat' (first|exact rfl|refine aC.all_set ?_ (by first|exact b1|rfl))
  intro ex s2 I hc;have n2:=I.lt;have b2:s2.get [] (s.aL+1)=some (.cells [.bool false]):=by rw[I.old _ (by omega),uo _ (by omega),wo _ (by omega)];exact x1
  have old: ∀j,j<s.aL->s2.get [] j=s.get [] j:=fun j d=>by rw[I.old _ (by omega),uo _ (by omega),wo _ (by omega)];exact xo j d
  rcases hc with⟨rfl,hs⟩|⟨rfl,hs⟩
  obtain⟨y,c⟩:=ct (s2.put (s.aL+1) (some (.cells [.bool true])));have yk:y.get [] (s.aL+1)=some (.cells [.bool true]):=by rw[<-c,aX,bS];rfl
  simp only[go_sem,hP,hh,seval,dn,b2,dp,c,aW,yk,aY];refine⟨_,rfl,by rw[hs],fun j d=>?_,?_,?_,?_⟩;rw[<-c,aX,bN.2 (by omega:j≠s.aL+1)];exact old j d;rw[<-c];show s.aL<=s2.aL;omega;rw[<-c];exact dh _ _ _ I.mw;rw[<-c];exact I.ci.trans uc;simp only[go_sem,hP,hh,seval,aW,b2,aY];exact⟨_,rfl,by rw[hs],old,by omega,I.mw,I.ci.trans uc⟩
end
def rm(v:aa):Option (List Pt):=eX 2 jT v
variable{v:aa}
def wC{r:List Pt}(h:rm v=some r):ay 2 aU v r/\d8 v=true/\ay 2 aU (de v) r:=by
 have c:ay 2 aU v r:=kr (fun _ _ h=>mj h) h;exact⟨c,pU Gb c⟩
theorem qx{r:List Pt}(h:ay 2 aU v r):rm v=some r:=by
 rcases h with⟨rfl,rfl⟩|⟨k,rfl⟩
 rfl;show(bif aQ 2 2 then iV jT (r.map aU) else none)=_;exact yX wB r
def qe:Sp
 | [v]=>(rm v).bind fun r=>some (.bool (kz r))
 |_=>none
def Ky{r:List Pt}(h:ay 2 aU v r):qe [v]=some (.bool (kz r)):=by
 simp only[qe,qx h,au]
def RI:dX:=[(225,lD)]
def ab8:dR RI:=.cons OS .nil
def Kz:db ae 229 qe:=by
 intro d u h G hh w xs j m;unfold qe at h;split at h;simp only[ak] at h;obtain⟨r,B,h⟩:=h;have h:=sI h;subst h;obtain⟨_,z,y⟩:=wC B;refine j9 ab8 (W:=[]) .nil (by simp only[eO,z,cw]) (fun C=>?_) G hh w xs j m;obtain⟨v,s',c,rfl,_⟩:=aqI (Q:=QW RI [] C) rfl rfl (fun _=>rfl) rfl rfl rfl rfl rfl rfl rfl rfl rfl rfl rfl rfl rfl rfl rfl rfl rfl y (s:=s0) (by decide);exact⟨_,_,c,1,rfl⟩;cases h
def iQ(p:Pt):Bool:=(cr (-4194304) p.1&&cr p.1 4194304)&&(cr (-4194304) p.2&&cr p.2 4194304)
variable{p:Pt}
def QP(h:iQ p=true):(-4194304<=p.1/\p.1<=4194304)/\(-4194304<=p.2/\p.2<=4194304):=by
 simp only[iQ,cr,bu,dE] at h;exact h
def KM{x y:Int}(d: -4194304<=x/\x<=4194304)(c: -4194304<=y/\y<=4194304): -8388608<=x-y/\x-y<=8388608:=by omega
section
variable{Q:aH}(hP:Q.P=ae)(hh:Q.hint=ai)(hH: ∀f,Q.specH f=none)
include hP hh hH
theorem arQ(j:Q.spec 442=none)(d:Q.specW 442=none){a b c:Pt}(M:iQ a=true)(J:iQ b=true)(I:iQ c=true)(s:St):aq Q 442 [aU a,aU b,aU c] s (cd (vS a b c)) s:=by
 have⟨a1,a2⟩:=QP M;have⟨b1,b2⟩:=QP J;have⟨c1,c2⟩:=QP I;have D:=DC b1 a1;have C:=DC c2 b2;have B:=DC b2 a2;have z:=DC c1 b1;have w:=KM b1 a1;have u:=KM c2 b2;have d3:=KM b2 a2;have m:=KM c1 b1;have H:=FM w u;have F:=FM d3 m;have R:=CV w u;have O:=CV d3 m;have y:IntKind.i64.wrap ((b.1-a.1)*(c.2-b.2)-(b.2-a.2)*(c.1-b.1))=(b.1-a.1)*(c.2-b.2)-(b.2-a.2)*(c.1-b.1):=iC (by omega) (by omega);refine aq.ofZ hP hH akM j d rfl ?_;refine co ?_;simp only[go_sem,hP,hh,seval,aU,cd,vS,D,C,B,z,H,F,y,qy]
theorem adc(d:Q.spec 443=none)(c:Q.specW 443=none)(a n b:Int)(s:St):aq Q 443 [.int .i64 a,.int .i64 n,.int .i64 b] s (.bool (rt a n b)) s:=by
 have j:rt a n b=(cr (min a b) n&&cr n (max a b)):=rfl;refine aq.ofZ hP hH akO d c rfl ?_;refine co ?_;rw[j];cases e1:cr (min a b) n with
 |false=>simp only[go_sem,hP,hh,seval,ru,sY,e1,dW]
 |true=>simp only[go_sem,hP,hh,seval,ru,sY,e1,eH]
end
def zI:Sp
 | [u,v,w]=>(jT u).bind fun a=>(jT v).bind fun b=>(jT w).bind fun c=>bif iQ a&&(iQ b&&iQ c) then some (cd (vS a b c)) else none
 |_=>none
def arN{a b c:Pt}(m:iQ a=true)(j:iQ b=true)(d:iQ c=true):zI [aU a,aU b,aU c]=some (cd (vS a b c)):=by
 simp only[adz,zI,wB,m,j,d,cw]
def arO:db ae 442 zI:=by
 refine GK (T:=[]) .nil (W:=[]) .nil fun j u h=>?_;unfold zI at h;split at h;simp only[ak] at h;obtain⟨a,y,b,w,c,m,h⟩:=h;obtain⟨d,h⟩:=bh h;simp only[bu] at d;have h:=sI h;subst h;rw[mj y,mj w,mj m];exact⟨rfl,fun z=>⟨_,_,arQ (Q:=QW [] [] z) rfl rfl (fun _=>rfl) rfl rfl d.1 d.2.1 d.2.2 _,1,rfl⟩⟩;cases h
def wG:Sp
 | [.int .i64 a,.int .i64 n,.int .i64 b]=>some (.bool (rt a n b))
 |_=>none
def adb:db ae 443 wG:=by
 refine GK (T:=[]) .nil (W:=[]) .nil fun c u h=>?_;unfold wG at h;split at h;have h:=sI h;subst h;exact⟨rfl,fun d=>⟨_,_,adc (Q:=QW [] [] d) rfl rfl (fun _=>rfl) rfl rfl _ _ _ _,1,rfl⟩⟩;cases h
theorem Dr(r:List Pt):(gz r).length=r.length:=by
 unfold gz;rw[List.length_zip,cJ,xS,List.length_take];omega
def Dq{r:List Pt}(c:i<r.length):(gz r)[i]? =some (fw r i):=by
 have d:(i+1) % r.length<r.length:=uF _ (by omega);rw[aaf (gn c) (gn d)];unfold gz;rw[La];refine⟨gn c,?_⟩;by_cases e:i+1<r.length;have:i<r.tail.length:=by rw[xS];omega
 rw[List.getElem?_append_left this,List.getElem?_tail,gn e];simp only[Nat.mod_eq_of_lt e];have u:i+1=r.length:=by omega
 have:r.tail.length<=i:=by rw[xS];omega
 rw[List.getElem?_append_right this,xS];have m:i-(r.length-1)=0:=by omega
 have j:(i+1) % r.length=0:=by rw[u,Nat.mod_self]
 rw[m,List.getElem?_take,iP (by omega)];simp only[j];rw[gn]
noncomputable abbrev pX(E:ax)(x:Option Ex):aR:=.loop 342 E 88 [11,12] Fl Fm x
structure Ll (e e':ax):Prop where
 h3:ac e' 3=ac e 3
 h4:ac e' 4=ac e 4
 h5:ac e' 5=ac e 5
 h7:ac e' 7=ac e 7
 h8:ac e' 8=ac e 8
variable{N:Fr->St->Prop}{T:Int}{b7:Nat}{e:ax}{S:bT}
section
variable{Q:aH}(hP:Q.P=ae)(hh:Q.hint=ai)
include hP hh
theorem apn(c:Q.spec 443=some wG)(w:ac e 3= .ptr b3 0)(u:ac e 7= .ptr b7 0)(m:ac e 8= .int .i64 T)(g3:s.get [] b3=some (.cells [.int .i64 p.1,.int .i64 p.2]))(j:s.get [] b7=some (.cells (bX S).cells))(h: ∀y,ac y 19= .bool (an T 0&&(rt S.1.1 p.1 S.2.1&&rt S.1.2 p.2 S.2.2))->Ll e y->N ⟨y,88,lc⟩ s):WV Q 342 WM ⟨e,88,lc⟩ s N:=by
 have B:=hh;simp only[bX,gD] at j;have d:wG [.int .i64 S.1.1,.int .i64 p.1,.int .i64 S.2.1]=some (.bool (rt S.1.1 p.1 S.2.1)):=rfl;have z:wG [.int .i64 S.1.2,.int .i64 p.2,.int .i64 S.2.2]=some (.bool (rt S.1.2 p.2 S.2.2)):=rfl;cases c1:an T 0 with
 |false=>
  simp only[go_sem,hP,hh,seval,WM,WN,WO,w,u,m,g3,j,aW,aY,c1];refine h _ ?_ ⟨?_,?_,?_,?_,?_⟩
  all_goals simp only[sN,seval,c1,dW]
 |true=>
  cases c2:rt S.1.1 p.1 S.2.1 with
  |false=>
   rw[c2] at d;simp only[go_sem,hP,hh,seval,WM,WN,WO,w,u,m,g3,j,aW,aY,c1,c,d];refine h _ ?_ ⟨?_,?_,?_,?_,?_⟩
   all_goals simp only[sN,seval,c1,c2,dW,gN]
  |true=>
   rw[c2] at d;simp only[go_sem,hP,hh,seval,WM,WN,WO,w,u,m,g3,j,aW,aY,c1,c,d,z];refine h _ ?_ ⟨?_,?_,?_,?_,?_⟩
   all_goals simp only[sN,seval,c1,c2,eH]
theorem apo(m:ac e 3= .ptr b3 0)(j:ac e 7= .ptr b7 0)(d:ac e 8= .int .i64 T)(g3:s.get [] b3=some (.cells [.int .i64 p.1,.int .i64 p.2]))(c:s.get [] b7=some (.cells (bX S).cells))(h: ∀u,ac u 44= .bool (cr S.1.2 p.2&&(bc p.2 S.2.2&&bc 0 T))->Ll e u->N ⟨u,88,lc⟩ s):WV Q 342 WN ⟨e,88,lc⟩ s N:=by
 have w:=hh;simp only[bX,gD] at c;cases c1:cr S.1.2 p.2 with
 |false=>
  simp only[go_sem,hP,hh,seval,WM,WN,WO,m,j,d,g3,c,aW,aY,c1];refine h _ ?_ ⟨?_,?_,?_,?_,?_⟩
  all_goals simp only[sN,seval,c1,dW]
 |true=>
  cases c2:bc p.2 S.2.2 with
  |false=>
   simp only[go_sem,hP,hh,seval,WM,WN,WO,m,j,d,g3,c,aW,aY,c1,c2];refine h _ ?_ ⟨?_,?_,?_,?_,?_⟩
   all_goals simp only[sN,seval,c1,c2,dW,gN]
  |true=>
   simp only[go_sem,hP,hh,seval,WM,WN,WO,m,j,d,g3,c,aW,aY,c1,c2];refine h _ ?_ ⟨?_,?_,?_,?_,?_⟩
   all_goals simp only[sN,seval,c1,c2,eH]
theorem apq(m:ac e 3= .ptr b3 0)(j:ac e 7= .ptr b7 0)(d:ac e 8= .int .i64 T)(g3:s.get [] b3=some (.cells [.int .i64 p.1,.int .i64 p.2]))(c:s.get [] b7=some (.cells (bX S).cells))(h: ∀u,ac u 65= .bool (bc p.2 S.1.2&&(cr S.2.2 p.2&&bc T 0))->Ll e u->N ⟨u,88,lc⟩ s):WV Q 342 WO ⟨e,88,lc⟩ s N:=by
 have w:=hh;simp only[bX,gD] at c;cases c1:bc p.2 S.1.2 with
 |false=>
  simp only[go_sem,hP,hh,seval,WM,WN,WO,m,j,d,g3,c,aW,aY,c1];refine h _ ?_ ⟨?_,?_,?_,?_,?_⟩
  all_goals simp only[sN,seval,c1,dW]
 |true=>
  cases c2:cr S.2.2 p.2 with
  |false=>
   simp only[go_sem,hP,hh,seval,WM,WN,WO,m,j,d,g3,c,aW,aY,c1,c2];refine h _ ?_ ⟨?_,?_,?_,?_,?_⟩
   all_goals simp only[sN,seval,c1,c2,dW,gN]
  |true=>
   simp only[go_sem,hP,hh,seval,WM,WN,WO,m,j,d,g3,c,aW,aY,c1,c2];refine h _ ?_ ⟨?_,?_,?_,?_,?_⟩
   all_goals simp only[sN,seval,c1,c2,eH]
end
structure mN (b5:Nat) (s0 s:St):Prop where
 old: ∀j,j<s0.aL->j≠b5->s.get [] j=s0.get [] j
 mw:s.gt<=s.aL
 lt:s0.aL<s.aL
 ci:s.ci=s0.ci
variable{l:List bT}
def Xo{w:Int}:yU p (S::l) w=bif A6 S p then 0 else yU p l (w+v6 S p):=rfl
variable{n:Int}
section
variable{Q:aH}(hP:Q.P=ae)(hh:Q.hint=ai)
include hP hh
theorem amd(a2:Q.spec 442=some zI)(a1:Q.spec 443=some wG)(wa:iQ S.1=true)(wb:iQ S.2=true)(wp:iQ p=true)(hi:i<=2000){s0:St}(a7:s0.get [] b3=some (.cells [.int .i64 p.1,.int .i64 p.2]))(a0:s0.get [] b4=some (.cells [.int .i64 0]))(l3:b3<s0.aL)(l4:b4<s0.aL)(l5:b5<s0.aL)(d3:b3≠b5)(d4:b4≠b5)(e3:ac E 3= .ptr b3 0)(e4:ac E 4= .ptr b4 0)(e5:ac E 5= .ptr b5 0)(hI:mN b5 s0 s)(hl:s.get [] s0.aL=some (pX E none))(a3:s.get [] b5=some (.cells [.int .i64 n]))(hn: -(i:Int)<=n/\n<=i):
 ∃v s',ji Q s0.aL [.int .i64 (i:Nat),bX S] s.top v s'/\(s'.ci=s.ci/\s.aL<=s'.aL/\mN b5 s0 (s.Gt s')/\((v= .bool true/\A6 S p=false/\s'.get [] s0.aL=some (pX E none)/\s'.get [] b5=some (.cells [.int .i64 (n+v6 S p)]))\/(v= .bool false/\A6 S p=true/\s'.get [] s0.aL=some (pX E (some .ret))))):=by
 have a8:=hI.lt;have a5:=hI.mw;have hq:=arN wa wb wp;obtain⟨T,hT⟩:=ct (vS S.1 S.2 p);rw[hT] at hq;simp only[aU,cd] at hq;have a4:A6 S p=(an T 0&&(rt S.1.1 p.1 S.2.1&&rt S.1.2 p.2 S.2.2)):=by rw[<-hT];rfl
 have c:v6 S p=bif(cr S.1.2 p.2&&(bc p.2 S.2.2&&bc 0 T)) then 1 else bif(bc p.2 S.1.2&&(cr S.2.2 p.2&&bc T 0)) then-1 else 0:=by rw[<-hT];rfl
 refine ji.any (ca:=N8) (cb:=N9) (show s.top.get [] s0.aL=_ from hl) rfl rfl akn ako ?_;refine co ?_;obtain⟨w,hw⟩:=ct (s.top.put s0.aL none);have wn:w.aL=s.aL:=by rw[<-hw];rfl
 have wo: ∀j,j≠s0.aL->w.get [] j=s.get [] j:=fun j B=>by rw[<-hw,aX,bN.2 B];rfl
 have wm:w.gt<=w.aL:=by rw[<-hw];exact dh s.top _ _ (br _)
 obtain⟨z,H⟩:=ct ((w.new (.cells [.int .i64 0,.int .i64 0,.int .i64 0,.int .i64 0])).put w.aL (some (.cells (bX S).cells)));have zn:z.aL=s.aL+1:=by rw[<-H,<-wn];rfl
 have zc:z.ci=s.ci:=by rw[<-H,<-hw];rfl
 have zm:z.gt<=z.aL:=by rw[<-H];exact dh _ _ _ (cq wm)
 have zk:z.get [] w.aL=some (.cells (bX S).cells):=by rw[<-H,aX,bS];rfl
 have zs: ∀j,j<s.aL->j≠s0.aL->z.get [] j=s.get [] j:=fun j B d=>by rw[<-H,aX,bN.2 (by omega:j≠w.aL),cF,cz (by omega),wo j d]
 have U: ∀j,j<s0.aL->j≠b5->z.get [] j=s0.get [] j:=fun j B d=>(zs j (by omega) (by omega)).trans (hI.old j B d);have z3:=(U b3 l3 d3).trans a7;have z4:=(U b4 l4 d4).trans a0;have z5:=(zs b5 (by omega) (by omega)).trans a3;simp only[bX,gD] at H;have a6:(w.new (.cells [.int .i64 0,.int .i64 0,.int .i64 0,.int .i64 0])).get [] w.aL=some (.cells [.int .i64 0,.int .i64 0,.int .i64 0,.int .i64 0]):=cW;simp only[go_sem,hP,hh,seval,WM,WN,WO,N8,bX,hw,dn,a6,dp,H,bj,bg,aZ,bf,evc];have fin: ∀(u:St) (o:Option Ex),(∀j,j<s0.aL->j≠b5->u.get [] j=s0.get [] j)->u.aL=s.aL+1->u.ci=s.ci->u.gt<=u.aL->(u.put s0.aL (some (pX E o))).ci=s.ci/\s.aL<=(u.put s0.aL (some (pX E o))).aL/\mN b5 s0 (s.Gt (u.put s0.aL (some (pX E o))))/\(u.put s0.aL (some (pX E o))).get [] s0.aL=some (pX E o)/\(u.put s0.aL (some (pX E o))).get [] b5=u.get [] b5:=fun u o q1 q2 q3 q4=>by
  have qn:(u.put s0.aL (some (pX E o))).aL=s.aL+1:=q2;refine⟨q3,by omega,⟨fun j B d=>?_,pW a5 (by omega),?_,q3.trans hI.ci⟩,by rw[aX,bS];rfl,by rw[aX,bN.2 (by omega:b5≠s0.aL)];rfl⟩;rw[mY,aX,bN.2 (by omega:j≠s0.aL)];exact q1 j B d;show s0.aL<(u.put s0.aL (some (pX E o))).aL;omega
 refine co ?_;have Y:=zk;simp only[bX,gD] at Y;simp only[go_sem,hP,hh,seval,N9,e3,z3,Y,aW,aY,a2,hq];refine apn hP hh a1 (b3:=b3) (b7:=w.aL) (p:=p) (S:=S) (T:=T) ?_ ?_ ?_ z3 zk ?_;simp only[sN,seval,e3];simp only[sN,seval];simp only[sN,seval];intro e1 C ⟨k3,k4,k5,k7,k8⟩;simp only[sN,seval,e3,e4,e5] at k3 k4 k5 k7 k8;rw[<-a4] at C;cases ho:A6 S p with
 |true=>
  rw[ho] at C;obtain⟨y,m⟩:=ct (z.put b4 (some (.cells [.int .i64 0])));have Z: ∀j,j<s0.aL->j≠b5->y.get [] j=s0.get [] j:=fun j B d=>by
   rw[<-m,aX];cases e:j==b4 with
   |true=>
    have:=eq_of_beq e;subst this;exact a0.symm
   |false=>exact U j B d
  obtain⟨R,O,M,J,V⟩:=fin y (some .ret) Z (by rw[<-m];exact zn) (by rw[<-m];exact zc) (by rw[<-m];exact dh _ _ _ zm);simp only[go_sem,hP,hh,seval,WM,WN,WO,C,k4,z4,dn,dp,m,jI,jL];exact⟨R,O,M,.inr J⟩
 |false=>
  rw[ho] at C;simp only[go_sem,hP,hh,seval,WM,C];refine apo hP hh (b3:=b3) (b7:=w.aL) (p:=p) (S:=S) (T:=T) k3 k7 k8 z3 zk ?_;intro b0 F ⟨j3,j4,j5,j7,j8⟩;cases h7:(cr S.1.2 p.2&&(bc p.2 S.2.2&&bc 0 T)) with
  |true=>
   rw[h7] at F c;have c:v6 S p=1:=c;obtain⟨y,m⟩:=ct (z.put b5 (some (.cells [.int .i64 (n+1)])));have I:IntKind.i64.wrap (n+1)=n+1:=iC (by omega) (by omega);have Z: ∀j,j<s0.aL->j≠b5->y.get [] j=s0.get [] j:=fun j B d=>by rw[<-m,aX,bN.2 d];exact U j B d
   obtain⟨R,O,M,J,V⟩:=fin y none Z (by rw[<-m];exact zn) (by rw[<-m];exact zc) (by rw[<-m];exact dh _ _ _ zm);have y5:y.get [] b5=some (.cells [.int .i64 (n+1)]):=by rw[<-m,aX,bS];rfl
   simp only[go_sem,hP,hh,seval,WM,WN,WO,F,j5,k5,z5,aW,aY,I,dn,dp,m,jI,jL];exact⟨R,O,M,.inl ⟨J,by rw[c];exact V.trans y5⟩⟩
  |false=>
   rw[h7] at F c;simp only[go_sem,hP,hh,seval,WM,WN,F];refine apq hP hh (b3:=b3) (b7:=w.aL) (p:=p) (S:=S) (T:=T) (j3.trans k3) (j7.trans k7) (j8.trans k8) z3 zk ?_;intro a9 D ⟨i3,i4,i5,i7,i8⟩;cases h9:(bc p.2 S.1.2&&(cr S.2.2 p.2&&bc T 0)) with
   |true=>
    rw[h9] at D c;have c:v6 S p= -1:=c;obtain⟨y,m⟩:=ct (z.put b5 (some (.cells [.int .i64 (n-1)])));have I:IntKind.i64.wrap (n-1)=n-1:=iC (by omega) (by omega);have Z: ∀j,j<s0.aL->j≠b5->y.get [] j=s0.get [] j:=fun j B d=>by rw[<-m,aX,bN.2 d];exact U j B d
    obtain⟨R,O,M,J,V⟩:=fin y none Z (by rw[<-m];exact zn) (by rw[<-m];exact zc) (by rw[<-m];exact dh _ _ _ zm);have y5:y.get [] b5=some (.cells [.int .i64 (n-1)]):=by rw[<-m,aX,bS];rfl
    simp only[go_sem,hP,hh,seval,WM,WN,WO,D,i5,j5,k5,z5,aW,aY,I,dn,dp,m,jI,jL];exact⟨R,O,M,.inl ⟨J,by rw[c];exact V.trans y5⟩⟩
   |false=>
    rw[h9] at D c;have c:v6 S p=0:=c;obtain⟨R,O,M,J,V⟩:=fin z none U zn zc zm;simp only[go_sem,hP,hh,seval,WM,WN,WO,D,jI,jL];exact⟨R,O,M,.inl ⟨J,by rw[c,Int.add_zero];exact V.trans z5⟩⟩
end
def WK:(dY Fl&&dY Fm)=true:=by kernel_rfl
def asR{r:List Pt}(c:r.all iQ=true)(d:i<r.length):iQ (fw r i).1=true/\iQ (fw r i).2=true:=by
 have h:=f8.1 c;have j:(i+1) % r.length<r.length:=uF _ (by omega);unfold fw;rw[gn d,gn j];exact⟨h _ (xR _),h _ (xR _)⟩
def asS(S:bT)(p:Pt): -1<=v6 S p/\v6 S p<=1:=by
 unfold v6;cases (cr S.1.2 p.2&&(bc p.2 S.2.2&&bc 0 (vS S.1 S.2 p))) with
 |true=>simp
 |false=>
  cases (bc p.2 S.1.2&&(cr S.2.2 p.2&&bc (vS S.1 S.2 p) 0))<;>simp
section
variable{Q:aH}(hP:Q.P=ae)(hh:Q.hint=ai)(hH: ∀f,Q.specH f=none)
include hP hh hH
theorem amc(H:Q.spec 339=none)(u:Q.specW 339=none)(F:Q.spec 442=some zI)(C:Q.spec 443=some wG){r:List Pt}(hr:ay 2 aU rv r)(z:r.length<=2000)(hn:r.all iQ=true)(wp:iQ p=true){s0:St}(V:s0.get [] bx=some (.cells [rv]))(a0:s0.get [] b3=some (.cells [.int .i64 p.1,.int .i64 p.2]))(Z:s0.get [] b4=some (.cells [.int .i64 0]))(Y:s0.get [] b5=some (.cells [.int .i64 0]))(lx:bx<s0.aL)(l3:b3<s0.aL)(l4:b4<s0.aL)(l5:b5<s0.aL)(dx:bx≠b5)(d3:b3≠b5)(d4:b4≠b5)(e3:ac E 3= .ptr b3 0)(e4:ac E 4= .ptr b4 0)(e5:ac E 5= .ptr b5 0)(I:ac E 10= .func (.func 339) [] [.ptr bx 0])(hE:E.all jY=true)(R:s0.gt<=s0.aL)(hk: ∀x J,mN b5 s0 J->((x= .normal/\ ∃w,J.get [] b5=some (.cells [.int .i64 w])/\qI r p=bif an w 0 then-1 else 1)\/(x= .ret/\qI r p=0))->K x ⟨E,88,lc⟩ J):W Q 342 (.rfun (.tmp 10) [11,12] Fl Fm) ⟨E,88,lc⟩ s0 K:=by
 obtain⟨v,s',m,rfl,h⟩:=Bk hP hh hH H u hr z (bx:=bx) (n:=s0.aL) (P:=fun i s=>mN b5 s0 s/\s.get [] s0.aL=some (pX E none)/\ ∃w:Int,(-(i:Int)<=w/\w<=i)/\s.get [] b5=some (.cells [.int .i64 w])/\yU p ((gz r).drop i) w=qI r p) (D:=fun s=>mN b5 s0 s/\s.get [] s0.aL=some (pX E (some .ret))/\qI r p=0) (fun k s h=>(h.1.old bx lx dx).trans V) (fun k s h=>h.1.mw) (fun i s hi ⟨c,B,w,hw,h5,d⟩=>by
  obtain⟨wa,wb⟩:=asR hn hi;obtain⟨v,s',q1,q2,q3,q4,q5⟩:=amd hP hh F C wa wb wp (by omega:i<=2000) a0 Z l3 l4 l5 d3 d4 e3 e4 e5 c B h5 hw;rw[TP (Dq hi),Xo] at d;refine⟨v,s',q1,q2,q3,?_⟩;rcases q5 with⟨rfl,M,h1,h2⟩|⟨rfl,M,h1⟩
  rw[M] at d;have hb:=asS (fw r i) p;exact .inl ⟨rfl,q4,h1,_,by omega,h2,d⟩;rw[M] at d;exact .inr ⟨rfl,q4,h1,d.symm⟩) (s:=s0.new (pX E none)) ⟨⟨fun j U _=>cz U,cq R,kU _,rfl⟩,cW,0,by simp,(cz l5).trans Y,rfl⟩
 have y:mN b5 s0 s'->mN b5 s0 (s'.put s0.aL none):=fun c=>⟨fun j U O=>by rw[aX,bN.2 (by omega:j≠s0.aL)];exact c.old j U O,dh _ _ _ c.mw,c.lt,c.ci⟩;rcases h with⟨c,d,w,hw,h5,B⟩|⟨c,d,B⟩
 refine oS (h:=339) (first:=[]) (captured:=[.ptr bx 0]) (v:=.tup []) (s1:=s') (by simp only[aA,I]) (by rw[hP,rJ,WK,hE];rfl) m d (hk _ _ (y c) (.inl ⟨rfl,w,?_,?_⟩));rw[aX,bN.2 (by omega:b5≠s0.aL)];exact h5;rw[<-B,List.drop_eq_nil_of_le (by rw[Dr];exact br _)];rfl;exact oS (h:=339) (first:=[]) (captured:=[.ptr bx 0]) (v:=.tup []) (s1:=s') (by simp only[aA,I]) (by rw[hP,rJ,WK,hE];rfl) m d (hk _ _ (y c) (.inr ⟨rfl,B⟩))
theorem ami(V:Q.spec 339=none)(B:Q.specW 339=none)(c:Q.spec 235=none)(C:Q.specW 235=none)(R:Q.spec 442=some zI)(O:Q.spec 443=some wG)(U:Q.spec 342=none)(z:Q.specW 342=none){r:List Pt}(Z:ay 2 aU rv r)(M:r.length<=2000)(hn:r.all iQ=true)(wp:iQ p=true)(a1:s.gt<=s.aL):
 ∃v s',aq Q 342 [rv,aU p] s v s'/\v= .int .i64 (qI r p):=by
 have a3:=Z.ge;have a0:=vH Z;obtain⟨x,F⟩:=ct ((s.new (.cells [.int .i64 p.1,.int .i64 p.2])).new (.cells [.int .i64 0]));have J:(s.new (.cells [.int .i64 p.1,.int .i64 p.2])).aL=s.aL+1:=rfl;have xn:x.aL=s.aL+2:=by rw[<-F];rfl
 have xm:x.gt<=x.aL:=by rw[<-F];exact cq (cq a1)
 have x0:x.get [] s.aL=some (.cells [.int .i64 p.1,.int .i64 p.2]):=by rw[<-F,cz (by rw[J];omega)];exact cW
 have x1:x.get [] (s.aL+1)=some (.cells [.int .i64 0]):=by rw[<-F];exact cW
 obtain⟨w,H⟩:=ct ((x.new (.cells [.int .i64 0])).put x.aL (some (.cells [.int .i64 0])));have a2:(x.new (.cells [.int .i64 0])).get [] x.aL=some (.cells [.int .i64 0]):=cW;have wn:w.aL=s.aL+3:=by
  rw[<-H];show x.aL+1=_;omega
 have wm:w.gt<=w.aL:=by rw[<-H];exact dh _ _ _ (cq xm)
 have wk:w.get [] x.aL=some (.cells [.int .i64 0]):=by rw[<-H,aX,bS];rfl
 have wo: ∀j,j<x.aL->w.get [] j=x.get [] j:=fun j hj=>by rw[<-H,aX,bN.2 (by omega:j≠x.aL),cF,cz hj]
 have d:=Bj hP hh hH c C Z w;obtain⟨u,I⟩:=ct (w.new (.cells [rv]));have un:u.aL=s.aL+4:=by
  rw[<-I];show w.aL+1=_;omega
 have um:u.gt<=u.aL:=by rw[<-I];exact cq wm
 have uk:u.get [] w.aL=some (.cells [rv]):=by rw[<-I];exact cW
 have Y: ∀j,j<w.aL->u.get [] j=w.get [] j:=fun j hj=>by rw[<-I,cz hj]
 rw[I] at d;refine aq.ofWZ hP hH akp U z ?_;refine co ?_;simp only[go_sem,hP,hh,seval,WM,WN,WO,aU,a3,J,F,a2,dn,dp,H,c];refine cG.of d (by decide) ?_;simp only[go_sem,hP,hh,seval,WM,WN,WO];refine amc hP hh hH V B R O Z M hn wp (bx:=w.aL) (b3:=s.aL) (b4:=s.aL+1) (b5:=x.aL) (s0:=u) uk ?_ ?_ ?_ (by omega) (by omega) (by omega) (by omega) (by omega) (by omega) (by omega) ?_ ?_ ?_ ?_ ?_ um ?_;rw[Y _ (by omega),wo _ (by omega)];exact x0;rw[Y _ (by omega),wo _ (by omega)];exact x1;rw[Y _ (by omega)];exact wk;simp only[sN,seval];simp only[sN,seval];simp only[sN,seval];simp only[sN,seval]
 ·repeat' (first|exact rfl|refine aC.all_set ?_ (by first|exact a0|rfl))
 intro ex s2 hI hc;have b4:s2.get [] (s.aL+1)=some (.cells [.int .i64 0]):=by rw[hI.old _ (by omega) (by omega),Y _ (by omega),wo _ (by omega)];exact x1
 rcases hc with⟨rfl,wi,h5,m⟩|⟨rfl,m⟩
 cases hz:an wi 0 with
 |true=>
  rw[hz] at m;obtain⟨y,D⟩:=ct (s2.put (s.aL+1) (some (.cells [.int .i64 (-1)])));have yk:y.get [] (s.aL+1)=some (.cells [.int .i64 (-1)]):=by rw[<-D,aX,bS];rfl
  simp only[go_sem,hP,hh,seval,WM,WN,WO,aW,h5,hz,aY,dn,b4,dp,D,yk];exact⟨_,rfl,by rw[m];rfl⟩
 |false=>
  rw[hz] at m;obtain⟨y,D⟩:=ct (s2.put (s.aL+1) (some (.cells [.int .i64 1])));have yk:y.get [] (s.aL+1)=some (.cells [.int .i64 1]):=by rw[<-D,aX,bS];rfl
  simp only[go_sem,hP,hh,seval,WM,WN,WO,aW,h5,hz,aY,dn,b4,dp,D,yk];exact⟨_,rfl,by rw[m];rfl⟩
 simp only[go_sem,hP,hh,seval,WM,WN,WO,aW,b4,aY];exact⟨_,rfl,by rw[m]⟩
end
def vm:Sp
 | [u,v]=>(rm u).bind fun r=>(jT v).bind fun p=>bif decide (r.length<=2000)&&(r.all iQ&&iQ p) then some (cd (qI r p)) else none
 |_=>none
def RJ:dX:=[(442,zI),(443,wG)]
def ab9:dR RJ:=.cons arO (.cons adb .nil)
def Xv{r:List Pt}(h:ay 2 aU v r)(j:r.length<=2000)(d:r.all iQ=true)(c:iQ p=true):vm [v,aU p]=some (cd (qI r p)):=by
 simp only[adz,vm,qx h,wB,dQ j,d,c,cw]
def Xw:db ae 342 vm:=by
 intro j u h G hh w xs m y;unfold vm at h;split at h;simp only[ak] at h;obtain⟨r,F,p,D,h⟩:=h;obtain⟨d,h⟩:=bh h;simp only[bu,dE] at d;have h:=sI h;subst h;obtain⟨_,C,z⟩:=wC F;have B:=mj D;subst B;refine j9 ab9 (W:=[]) .nil (by simp only[eO,C,eH];rfl) (fun H=>?_) G hh w xs m y;obtain⟨v,s',c,rfl⟩:=ami (Q:=QW RJ [] H) rfl rfl (fun _=>rfl) rfl rfl rfl rfl rfl rfl rfl rfl z d.1 d.2.1 d.2.2 (s:=s0) (by decide);exact⟨_,_,c,1,rfl⟩;cases h
def BJ(sz lo:Nat)(s:St)(ov:aa)(xs:List aa):Prop:= ∃k,ov= .list sz xs (.own k)/\s.get [] k=some .tok/\lo<=k/\k<s.aL
variable{xs:List aa}{lo:Nat}{ov:aa}
def BJ.ge{sz:Nat}(h:BJ sz lo s ov xs):ov.ge=true:=by
 obtain⟨k,rfl,_⟩:=h;rfl
def acL{t:TypeId}{E:EI}{sz:Nat}(D:lV ae t=some E)(w:E.n=sz)(C:E.b<=88){y y0:aa}(h:BJ sz lo s ov xs)(j:eE [] E.g E.n y s=some [y0])(d:xs.length<=900000)(z:s.gt<=s.aL):
 ∃c s',fF ae [] t ov y false s=some (c,s')/\BJ sz lo s' c (xs++[y0])/\s'.ci=s.ci/\s.aL<=s'.aL/\s'.gt<=s'.aL/\(∀n,n<lo->s'.get [] n=s.get [] n):=by
 subst w;obtain⟨k,rfl,B,H,F⟩:=h;have m:jc (xs.length+ [y0].length) E.b=true:=vI (by simp only[bH,bn];omega) C;refine⟨.list E.n (xs++[y0]) (.own s.aL),(s.put k none).new .tok,?_,⟨s.aL,rfl,by rw[fk,lR,bS];rfl,by omega,kU _⟩,rfl,Nat.le_succ _,cq (dh s k none z),fun n u=>?_⟩;simp only[afo,fF,D,au,j,jG,B,m,cw];rw[fk,lR,bN.2 (by omega),cF,aX,bN.2 (by omega)];rfl
def zJ(p:Pt):Pt:=(2*p.1,2*p.2)
def xh(h:bk p=true):(-2097152<=p.1/\p.1<=2097152)/\(-2097152<=p.2/\p.2<=2097152):=by
 simp only[bk,bc,bu,Bool.not_eq_true',decide_eq_false_iff_not] at h;omega
def aeD{r:List Pt}(h:r.all bk=true):(o7 r).all iQ=true:=by
 rw[f8];intro q c;obtain⟨p,d,rfl⟩:=dy.1 c
 have:=xh (f8.1 h p d);simp only[iQ,cr,bu,dE];omega
section
variable{Q:aH}(hP:Q.P=ae)(hh:Q.hint=ai)(hH: ∀f,Q.specH f=none)
include hP hh hH
theorem arW(d:Q.spec 341=none)(c:Q.specW 341=none)(u:bk p=true)(s:St):aq Q 341 [aU p] s (aU (zJ p)) s:=by
 have w:=xh u;have m:IntKind.i64.wrap (2*p.1)=2*p.1:=iC (by omega) (by omega);have j:IntKind.i64.wrap (2*p.2)=2*p.2:=iC (by omega) (by omega);have h: ∃v s',aq Q 341 [aU p] s v s'/\(v=aU (zJ p)/\s'=s):=by
  refine aq.ofWZ hP hH akl d c ?_;refine co ?_;simp only[go_sem,hP,hh,seval,aU,zJ,m,j,qy,bj,bg,aZ,bf,evc];exact⟨_,rfl,by simp[zJ,aU]⟩
 obtain⟨_,_,h,rfl,rfl⟩:=h;exact h
theorem amt(u:Q.spec 341=none)(H:Q.specW 341=none){r:List Pt}(hr:ay 2 aU rv r)(a9:r.length<=2000)(hn:r.all bk=true){s0:St}(hx: ∀e lc s ov,BJ 2 lo s ov ((o7 r).map aU)->(∀k,k<lo->s.get [] k=s0.get [] k)->s.gt<=s.aL->lo<=s.aL->s.ci=s0.ci->ac e 5=ov->K (.exit 0) ⟨e,25,lc⟩ s):
 ∀(d c:List Pt) (e:ax) (lc:Ag.Loc) (s:St) (ov:aa),r=c++d->BJ 2 lo s ov ((o7 c).map aU)->(∀k,k<lo->s.get [] k=s0.get [] k)->s.gt<=s.aL->lo<=s.aL->s.ci=s0.ci->ac e 5=ov->ac e 1= .func (.func 341) [] []->ac e 11=rv->ac e 12= .int .i64 (r.length:Nat)->ac e 13= .int .i64 (c.length:Nat)->W Q 340 (.loop N7) ⟨e,25,lc⟩ s K:=by
 intro d
 induction d with
 |nil=>
  intro c e lc s ov F R B z M C U h0 D m j;have a7:c.length=r.length:=by rw[F];simp
  have Z:c=r:=by rw[F];simp
  refine bG ?_;simp only[go_sem,hP,hh,seval,N7,m,j,a7,cD];rw[Z] at R;exact hx _ _ _ ov R B z M C (by simp only[sN,seval,U])
 |cons p d ih=>
  intro c e lc s ov F R B z M C U h0 D m j;have a0:c.length<r.length:=by rw[F];simp
  have O:r[c.length]? =some p:=by rw[F];simp
  have a8:=fun lc k=>hr.at pB.2.2.1 O lc k;have Y:=dB (n:=c.length) (by omega);have hp:=f8.1 hn p (eP O);have w:=arW hP hh hH u H hp s;have J:=R.ge;obtain⟨V,s1,a1,a2,a3,a4,a5,a6⟩:=acL (t:=218) pB.1 rfl (by decide) (s:=s) (y:=.list 2 [aU (zJ p)] .GE) (y0:=aU (zJ p)) R (by simp only[afo,eE]) (by simp only[ce,o7];omega) z;have I:=a2.ge;simp only[aU] at w a1;refine bG ?_;simp only[go_sem,hP,hh,seval,N7,h0,U,D,m,j,a0,a8,aU,J,u];refine cG.of w (by decide) ?_;simp only[go_sem,hP,hh,seval,U,j,Y,J,I,a1,bj,bg,aZ,bf,evc];refine ih (c++[p]) _ _ s1 V (by rw[F];simp) (by
   have e1:(o7 (c++[p])).map aU=(o7 c).map aU++[aU (zJ p)]:=by simp[o7,zJ]
   rw[e1];exact a2) (fun k hk=>(a6 k hk).trans (B k hk)) a5 (by omega) (a3.trans C) ?_ ?_ ?_ ?_ ?_
  all_goals simp only[sN,seval,h0,D,m,sA]
theorem amu(w:Q.spec 340=none)(d:Q.specW 340=none)(u:Q.spec 341=none)(c:Q.specW 341=none){r:List Pt}(z:ay 2 aU rv r)(m:r.length<=2000)(U:r.all bk=true)(B:s.gt<=s.aL):
 ∃v s',aq Q 340 [rv,.func (.func 341) [] []] s v s'/\(ay 2 aU v (o7 r)/\(∀k,k<s.aL->s'.get [] k=s.get [] k)/\s.aL<=s'.aL/\s'.gt<=s'.aL/\s'.ci=s.ci):=by
 have I:=z.ge;have F:=z.lenS pB;have C:ow ae 218 (.int .i64 0) (.int .i64 (r.length:Nat)) false s=some (.list 2 [] (.own s.aL),s.new .tok):=by
  have h1:bw 0 r.length=true:=cP (Nat.zero_le _);have Z:bw (r.length*16) 1099511627776=true:=cP (by omega);have Y:bw r.length 1099511627776=true:=cP (by omega);have R:dS (.int .i64 0)=some 0:=rfl;simp only[adz,ow,pB,R,oz,h1,Z,Y,cw];rfl
 refine aq.ofWZ hP hH akj w d ?_;refine co ?_;simp only[go_sem,hP,hh,seval,I,F,Py,C];refine amt hP hh hH u c z m U (lo:=s.aL) (s0:=s.new .tok) ?_ r [] _ _ (s.new .tok) (.list 2 [] (.own s.aL)) rfl ⟨s.aL,rfl,cW,br _,kU _⟩ (fun _ _=>rfl) (cq B) (Nat.le_succ _) rfl ?_ ?_ ?_ ?_ ?_;intro e lc s1 ov O H j D J V;have y:=O.ge;simp only[go_sem,hP,hh,seval,V,y];refine⟨_,rfl,?_,fun k M=>(H k M).trans (cz M),D,j,J⟩;obtain⟨k,rfl,_⟩:=O;exact .inr ⟨_,rfl⟩
 all_goals simp only[sN,seval,bn]
 all_goals rfl
end
def Nb(lc:Ag.Loc)(m o:Nat)(i:aa):ja ae lc 303 (.ptr m o) i=(dS i).bind fun i=>bif bm i 3 then some (.ptr m (o+i*1)) else none:=by kernel_rfl
noncomputable abbrev rQ(E:ax)(x:Option Ex):aR:=.loop 236 E 38 [13,14] Fb Fc x
def CR(x:bT):Pt:=(x.1.1+x.2.1,x.1.2+x.2.2)
def kG(l:List bT)(s:List Pt)(v:Int):Nat:=(l.filter fun x=>an (qI (o7 s) (CR x)) v).length
theorem wN(l:List bT)(S:bT)(s:List Pt)(v:Int):kG (l++[S]) s v=kG l s v+bif an (qI (o7 s) (CR S)) v then 1 else 0:=by
 grind [kG]
def Mp(l:List bT)(s:List Pt)(v:Int):kG l s v<=l.length:=kT _ _
def Xp{p:Pt}: ∀ {l:List bT} {w:Int},yU p l w=1\/yU p l w=0\/yU p l w= -1
 | [],w=>by
   show(bif an w 0 then(-1:Int) else 1)=1\/(bif an w 0 then(-1:Int) else 1)=0\/(bif an w 0 then(-1:Int) else 1)= -1;cases an w 0<;>simp
 |S::l,w=>by
  rw[Xo];cases A6 S p with
  |true=>exact .inr (.inl rfl)
  |false=>exact Xp
def kH(c:Nat×Nat×Nat):List aa:=[.int .i64 (c.1:Nat),.int .i64 (c.2.1:Nat),.int .i64 (c.2.2:Nat)]
def lN(l:List bT)(s:List Pt):Nat×Nat×Nat:=(kG l s 1,kG l s 0,kG l s (-1))
variable{t:List Pt}{b6:Nat}{bv tv:aa}
section
variable{Q:aH}(hP:Q.P=ae)(hh:Q.hint=ai)
include hP hh
theorem amI(m:Q.spec 342=some vm)(a4:t.length<=2000)(ht:t.all bk=true)(M:ay 2 aU bv (o7 t))(na:bk S.1=true)(nb:bk S.2=true)(a6:l.length<=2000){s0:St}(a3:s0.get [] b6=some (.cells [bv]))(l5:b5<s0.aL)(l6:b6<s0.aL)(d6:b6≠b5)(e5:ac E 5= .ptr b5 0)(e6:ac E 6= .ptr b6 0)(hI:mN b5 s0 s)(hl:s.get [] s0.aL=some (rQ E none))(a0:s.get [] b5=some (.cells (kH (lN l t)))):
 ∃v s',ji Q s0.aL [.int .i64 (i:Nat),bX S] s.top v s'/\(s'.ci=s.ci/\s.aL<=s'.aL/\mN b5 s0 (s.Gt s')/\v= .bool true/\s'.get [] s0.aL=some (rQ E none)/\s'.get [] b5=some (.cells (kH (lN (l++[S]) t)))):=by
 have a5:=hI.lt;have a1:=hI.mw;have n1:=xh na;have n2:=xh nb;have C:=M.ge;have u:iQ (CR S)=true:=by
  have h1: -4194304<=S.1.1+S.2.1/\S.1.1+S.2.1<=4194304:=by omega
  have h2: -4194304<=S.1.2+S.2.2/\S.1.2+S.2.2<=4194304:=by omega
  simp only[iQ,CR,cr,bu,dE];exact⟨⟨dQ h1.1,dQ h1.2⟩,dQ h2.1,dQ h2.2⟩
 have H:=Xv M (by grind [o7]) (aeD ht) u;obtain⟨L,O⟩:=ct (qI (o7 t) (CR S));have hv:L=1\/L=0\/L= -1:=by rw[<-O];exact Xp
 rw[O] at H;simp only[aU,cd,CR] at H;have w1:IntKind.i64.wrap (S.1.1+S.2.1)=S.1.1+S.2.1:=iC (by omega) (by omega);have w2:IntKind.i64.wrap (S.1.2+S.2.2)=S.1.2+S.2.2:=iC (by omega) (by omega);refine ji.any (ca:=NW) (cb:=Fa) (show s.top.get [] s0.aL=_ from hl) rfl rfl ajh aji ?_;refine co ?_;obtain⟨w,F⟩:=ct (s.top.put s0.aL none);have wn:w.aL=s.aL:=by rw[<-F];rfl
 have wo: ∀j,j≠s0.aL->w.get [] j=s.get [] j:=fun j I=>by rw[<-F,aX,bN.2 I];rfl
 have wm:w.gt<=w.aL:=by rw[<-F];exact dh s.top _ _ (br _)
 obtain⟨z,D⟩:=ct ((w.new (.cells [.int .i64 0,.int .i64 0,.int .i64 0,.int .i64 0])).put w.aL (some (.cells (bX S).cells)));have zn:z.aL=s.aL+1:=by rw[<-D,<-wn];rfl
 have zc:z.ci=s.ci:=by rw[<-D,<-F];rfl
 have zm:z.gt<=z.aL:=by rw[<-D];exact dh _ _ _ (cq wm)
 have zk:z.get [] w.aL=some (.cells (bX S).cells):=by rw[<-D,aX,bS];rfl
 have zs: ∀j,j<s.aL->j≠s0.aL->z.get [] j=s.get [] j:=fun j I B=>by grind [aX,cz]
 have zo: ∀j,j<s0.aL->j≠b5->z.get [] j=s0.get [] j:=fun j I B=>(zs j (by omega) (by omega)).trans (hI.old j I B);have z6:=(zo b6 l6 d6).trans a3;have z5:=(zs b5 (by omega) (by omega)).trans a0;simp only[bX,gD] at D zk;have a2:(w.new (.cells [.int .i64 0,.int .i64 0,.int .i64 0,.int .i64 0])).get [] w.aL=some (.cells [.int .i64 0,.int .i64 0,.int .i64 0,.int .i64 0]):=cW;simp only[go_sem,hP,hh,df,bP,ah,aB,bQ,ee,ey,eI,cK,ew,ep,reduceCtorEq,eR,NW,bX,F,dn,a2,dp,D,bj,bg,aZ,bf,evc];have fin: ∀(y:St) (c:List aa),z.put b5 (some (.cells c))=y->(y.put s0.aL (some (rQ E none))).ci=s.ci/\s.aL<=(y.put s0.aL (some (rQ E none))).aL/\mN b5 s0 (s.Gt (y.put s0.aL (some (rQ E none))))/\(y.put s0.aL (some (rQ E none))).get [] s0.aL=some (rQ E none)/\(y.put s0.aL (some (rQ E none))).get [] b5=some (.cells c):=fun y c d=>by
  have yn:y.aL=s.aL+1:=by rw[<-d];exact zn
  have qn:(y.put s0.aL (some (rQ E none))).aL=s.aL+1:=yn;have yc:y.ci=s.ci:=by rw[<-d];exact zc
  refine⟨yc,by omega,⟨fun j I B=>?_,pW a1 (by omega),?_,yc.trans hI.ci⟩,by rw[aX,bS];rfl,?_⟩
  grind [mY,aX]
  show s0.aL<(y.put s0.aL (some (rQ E none))).aL;omega
  grind [aX]
 have k1:=Mp l t 1;have k2:=Mp l t 0;have k3:=Mp l t (-1);have q1:=dB (n:=kG l t 1) (by omega);have q2:=dB (n:=kG l t 0) (by omega);have q3:=dB (n:=kG l t (-1)) (by omega);have m0:dS (.int .i64 0)=some 0:=rfl;have m1:dS (.int .i64 1)=some 1:=rfl;have m2:dS (.int .i64 2)=some 2:=rfl;have v0:IntKind.i64.wrap (1-1)=0:=by rfl
 have v1:IntKind.i64.wrap (1-0)=1:=by rfl
 have v2:IntKind.i64.wrap (1- -1)=2:=by rfl
 simp only[kH,lN] at z5;refine co ?_;rcases hv with rfl|rfl|rfl
 have J:lN (l++[S]) t=(kG l t 1+1,kG l t 0,kG l t (-1)):=by
  unfold lN;rw[wN,wN,wN,O];rfl
 obtain⟨y,d⟩:=ct (z.put b5 (some (.cells (kH (lN (l++[S]) t)))));obtain⟨Z,Y,V,U,R⟩:=fin y _ d;rw[J] at d;simp only[kH] at d;simp only[go_sem,hP,hh,df,bP,ah,aB,bQ,ee,ey,eI,cK,ew,ep,reduceCtorEq,eR,Fa,e5,e6,z5,z6,zk,C,aW,aY,sj,w1,w2,m,H,v0,Nb,m0,q1,dn,dp,d,jI,jL,bj,bg,aZ,bf,evc];exact⟨Z,Y,V,U,R⟩;have J:lN (l++[S]) t=(kG l t 1,kG l t 0+1,kG l t (-1)):=by
  unfold lN;rw[wN,wN,wN,O];rfl
 obtain⟨y,d⟩:=ct (z.put b5 (some (.cells (kH (lN (l++[S]) t)))));obtain⟨Z,Y,V,U,R⟩:=fin y _ d;rw[J] at d;simp only[kH] at d;simp only[go_sem,hP,hh,df,bP,ah,aB,bQ,ee,ey,eI,cK,ew,ep,reduceCtorEq,eR,Fa,e5,e6,z5,z6,zk,C,aW,aY,sj,w1,w2,m,H,v1,Nb,m1,q2,dn,dp,d,jI,jL,bj,bg,aZ,bf,evc];exact⟨Z,Y,V,U,R⟩;have J:lN (l++[S]) t=(kG l t 1,kG l t 0,kG l t (-1)+1):=by
  unfold lN;rw[wN,wN,wN,O];rfl
 obtain⟨y,d⟩:=ct (z.put b5 (some (.cells (kH (lN (l++[S]) t)))));obtain⟨Z,Y,V,U,R⟩:=fin y _ d;rw[J] at d;simp only[kH] at d;simp only[go_sem,hP,hh,df,bP,ah,aB,bQ,ee,ey,eI,cK,ew,ep,reduceCtorEq,eR,Fa,e5,e6,z5,z6,zk,C,aW,aY,sj,w1,w2,m,H,v2,Nb,m2,q3,dn,dp,d,jI,jL,bj,bg,aZ,bf,evc];exact⟨Z,Y,V,U,R⟩
variable(hH: ∀f,Q.specH f=none)
include hH
theorem amH(z:Q.spec 339=none)(d:Q.specW 339=none)(y:Q.spec 342=some vm){r:List Pt}(hr:ay 2 aU rv r)(w:r.length<=2000)(hn:r.all bk=true)(u:t.length<=2000)(ht:t.all bk=true)(M:ay 2 aU bv (o7 t)){s0:St}(J:s0.get [] bx=some (.cells [rv]))(O:s0.get [] b6=some (.cells [bv]))(R:s0.get [] b5=some (.cells [.int .i64 0,.int .i64 0,.int .i64 0]))(lx:bx<s0.aL)(V:b5<s0.aL)(l6:b6<s0.aL)(dx:bx≠b5)(d6:b6≠b5)(e5:ac E 5= .ptr b5 0)(e6:ac E 6= .ptr b6 0)(U:ac E 12= .func (.func 339) [] [.ptr bx 0])(hE:E.all jY=true)(H:s0.gt<=s0.aL)(hk: ∀B,mN b5 s0 B->B.get [] b5=some (.cells (kH (lN (gz r) t)))->K .normal ⟨E,38,lc⟩ B):W Q 236 (.rfun (.tmp 12) [13,14] Fb Fc) ⟨E,38,lc⟩ s0 K:=by
 obtain⟨v,s',m,rfl,h⟩:=Bk hP hh hH z d hr w (bx:=bx) (n:=s0.aL) (P:=fun i s=>mN b5 s0 s/\s.get [] s0.aL=some (rQ E none)/\s.get [] b5=some (.cells (kH (lN ((gz r).take i) t)))) (D:=fun _=>False) (fun k s h=>(h.1.old bx lx dx).trans J) (fun k s h=>h.1.mw) (fun i s Y ⟨c,hl,Z⟩=>by
  obtain⟨na,nb⟩:=Bc hn Y;obtain⟨v,s',q1,q2,q3,q4,rfl,q5,q6⟩:=amI hP hh y u ht M na nb (l:=(gz r).take i) (i:=i) (by grind) O V l6 d6 e5 e6 c hl Z;refine⟨_,s',q1,q2,q3,.inl ⟨rfl,q4,q5,?_⟩⟩;have e:(gz r).take (i+1)=(gz r).take i++[fw r i]:=by
   rw[List.take_add_one,Dq Y];rfl
  rw[e];exact q6) (s:=s0.new (rQ E none)) ⟨⟨fun j I _=>cz I,cq H,kU _,rfl⟩,cW,(cz V).trans R⟩
 have C:mN b5 s0 s'->mN b5 s0 (s'.put s0.aL none):=fun c=>⟨fun j I F=>by rw[aX,bN.2 (by omega:j≠s0.aL)];exact c.old j I F,dh _ _ _ c.mw,c.lt,c.ci⟩;rcases h with⟨c,hg,Z⟩|h
 refine oS (h:=339) (first:=[]) (captured:=[.ptr bx 0]) (v:=.tup []) (s1:=s') (by simp only[aA,U]) (by rw[hP,rJ,ajk,hE];rfl) m hg (hk _ (C c) ?_)
 grind [aX,Dr]
 exact h.elim
theorem amJ(a0:Q.spec 339=none)(H:Q.specW 339=none)(z:Q.spec 235=none)(J:Q.specW 235=none)(Y:Q.spec 342=some vm)(m:Q.spec 340=none)(F:Q.specW 340=none)(Z:Q.spec 341=none)(D:Q.specW 341=none)(a1:Q.spec 236=none)(I:Q.specW 236=none){r:List Pt}(hr:ay 2 aU rv r)(U:r.length<=2000)(hn:r.all bk=true)(C:ay 2 aU tv t)(d:t.length<=2000)(ht:t.all bk=true)(a6:s.gt<=s.aL):
 ∃v s',aq Q 236 [rv,tv] s v s'/\v= .agg (kH (lN (gz r) t)):=by
 have V:=hr.ge;have a4:=C.ge;have a5:=vH hr;have a3:=vH C;obtain⟨x,M⟩:=ct ((s.new (.cells [.int .i64 0,.int .i64 0,.int .i64 0])).new (.cells [.int .i64 0,.int .i64 0,.int .i64 0]));have R:(s.new (.cells [.int .i64 0,.int .i64 0,.int .i64 0])).aL=s.aL+1:=rfl;have xn:x.aL=s.aL+2:=by rw[<-M];rfl
 have xm:x.gt<=x.aL:=by rw[<-M];exact cq (cq a6)
 have x0:x.get [] s.aL=some (.cells [.int .i64 0,.int .i64 0,.int .i64 0]):=by rw[<-M,cz (by rw[R];omega)];exact cW
 have x1:x.get [] (s.aL+1)=some (.cells [.int .i64 0,.int .i64 0,.int .i64 0]):=by rw[<-M];exact cW
 have a2:=amu hP hh hH m F Z D C d ht xm;refine aq.ofWZ hP hH ajj a1 I ?_;refine co ?_;simp only[go_sem,hP,hh,df,bP,ah,aB,bQ,ee,ey,eI,cK,ew,ep,reduceCtorEq,eR,V,a4,R,M,m];refine cG.ex a2 (by decide) ?_;rintro bv y ⟨c,yo,yn,ym,yc⟩;have a9:=c.ge;have a8:=c.scal;obtain⟨w,hw⟩:=ct ((y.new (.cells [.AL])).put y.aL (some (.cells [bv])));have a7:(y.new (.cells [.AL])).get [] y.aL=some (.cells [.AL]):=cW;have cn:aa.AL.cells=[.AL]:=rfl;have wn:w.aL=y.aL+1:=by rw[<-hw];rfl
 have wm:w.gt<=w.aL:=by rw[<-hw];exact dh _ _ _ (cq ym)
 have wk:w.get [] y.aL=some (.cells [bv]):=by rw[<-hw,aX,bS];rfl
 have wo: ∀j,j<y.aL->w.get [] j=y.get [] j:=fun j hj=>by grind [aX,cz]
 have B:=Bj hP hh hH z J hr w;obtain⟨u,O⟩:=ct (w.new (.cells [rv]));have un:u.aL=y.aL+2:=by
  rw[<-O];show w.aL+1=_;omega
 have um:u.gt<=u.aL:=by rw[<-O];exact cq wm
 have uk:u.get [] w.aL=some (.cells [rv]):=by rw[<-O];exact cW
 have uo: ∀j,j<w.aL->u.get [] j=w.get [] j:=fun j hj=>by rw[<-O,cz hj]
 rw[O] at B;simp only[go_sem,hP,hh,df,bP,ah,aB,bQ,ee,ey,eI,cK,ew,ep,reduceCtorEq,eR,a9,a8,cn,a7,dn,dp,hw,V,z];refine cG.of B (by decide) ?_;simp only[go_sem,hP,hh,df,bP,ah,aB,bQ,ee,ey,eI,cK,ew,ep,reduceCtorEq,eR];refine amH hP hh hH a0 H Y hr U hn d ht c (bx:=w.aL) (b5:=s.aL+1) (b6:=y.aL) (s0:=u) uk ?_ ?_ (by omega) (by omega) (by omega) (by omega) (by omega) ?_ ?_ ?_ ?_ um ?_;rw[uo _ (by omega)];exact wk
 grind
 simp only[sN,ah,bQ];simp only[sN,ah,bQ];simp only[sN,ah,bQ]
 ·have b0:=vH c
  repeat' (first|exact rfl|refine aC.all_set ?_ (by first|exact a5|exact a3|exact b0|rfl))
 intro s2 hI h5;have h4:s2.get [] s.aL=some (.cells [.int .i64 0,.int .i64 0,.int .i64 0]):=by rw[hI.old _ (by omega) (by omega),uo _ (by omega),wo _ (by omega),yo _ (by omega)];exact x0
 obtain⟨q,hq⟩:=ct (s2.put s.aL (some (.cells (kH (lN (gz r) t)))));have qk:q.get [] s.aL=some (.cells (kH (lN (gz r) t))):=by rw[<-hq,aX,bS];rfl
 simp only[kH] at h5 hq qk;simp only[go_sem,hP,hh,df,bP,ah,aB,bQ,ee,ey,eI,cK,ew,ep,reduceCtorEq,eR,aW,h5,aY,dn,h4,dp,hq,qk];exact⟨_,rfl,rfl⟩
end
def xg:Sp
 | [u,v]=>(rm u).bind fun r=>(rm v).bind fun t=>bif(decide (r.length<=2000)&&r.all bk)&&(decide (t.length<=2000)&&t.all bk) then some (.agg (kH (lN (gz r) t))) else none
 |_=>none
def XT{u:aa}{r:List Pt}(h:ay 2 aU u r)(w:ay 2 aU v t)(m:r.length<=2000)(j:r.all bk=true)(d:t.length<=2000)(c:t.all bk=true):xg [u,v]=some (.agg (kH (lN (gz r) t))):=by
 simp only[adz,xg,qx h,qx w,dQ m,j,dQ d,c,cw]
def RK:dX:=[(342,vm)]
def aca:dR RK:=.cons Xw .nil
def amG:db ae 236 xg:=by
 intro j u h G hh w xs m y;unfold xg at h;split at h;simp only[ak] at h;obtain⟨r,H,t,F,h⟩:=h;obtain⟨d,h⟩:=bh h;simp only[bu,dE] at d;have h:=sI h;subst h;obtain⟨_,D,B⟩:=wC H;obtain⟨_,C,z⟩:=wC F;refine j9 aca (W:=[]) .nil (by simp only[eO,D,C,cw]) (fun I=>?_) G hh w xs m y;obtain⟨v,s',c,rfl⟩:=amJ (Q:=QW RK [] I) rfl rfl (fun _=>rfl) rfl rfl rfl rfl rfl rfl rfl rfl rfl rfl rfl B d.1.1 d.1.2 z d.2.1 d.2.2 (s:=s0) (by decide);exact⟨_,_,c,2,rfl⟩;cases h
def FO:Sp
 | [v]=>(jT v).bind fun p=>some (.bool (bk p))
 |_=>none
def am7:db ae 430 FO:=by
 refine GK (T:=[]) .nil (W:=[]) .nil fun c u h=>?_;unfold FO at h;split at h;simp only[ak] at h;obtain⟨p,d,h⟩:=h;have h:=sI h;subst h;rw[mj d];exact⟨rfl,fun j=>⟨_,_,X3 (Q:=QW [] [] j) rfl rfl (fun _=>rfl) rfl rfl p _,1,rfl⟩⟩;cases h
def X5(h:bk p=true):iQ p=true:=by
 have:=xh h;have d: -4194304<=p.1/\p.1<=4194304:=by omega
 have c: -4194304<=p.2/\p.2<=4194304:=by omega
 simp only[iQ,cr,bu];exact⟨⟨dQ d.1,dQ d.2⟩,dQ c.1,dQ c.2⟩
def P6{r:List Pt}(h:kz r=true):pz r=true:=by
 unfold kz at h;simp only[bu] at h;exact h.1
section
variable{Q:aH}(hP:Q.P=ae)(hh:Q.hint=ai)(hH: ∀f,Q.specH f=none)
include hP hh hH
theorem aqz(c:Q.spec 229=some qe)(d:Q.spec 430=some FO)(B:Q.spec 342=some vm)(z:Q.spec 406=none)(m:Q.specW 406=none){r:List Pt}(D:ay 2 aU rv r)(p:Pt)(s:St):aq Q 406 [rv,aU p] s (cd (sn r p)) s:=by
 have j:=D.ge;have u:=Ky D;have C:FO [.agg [.int .i64 p.1,.int .i64 p.2]]=some (.bool (bk p)):=rfl;have h: ∃v s',aq Q 406 [rv,aU p] s v s'/\(v=cd (sn r p)/\s'=s):=by
  refine aq.ofWZ hP hH akz z m ?_;refine co ?_;cases e1:kz r with
  |false=>
   have w:sn r p= -1:=by unfold sn;rw[e1];rfl
   rw[e1] at u;simp only[go_sem,hP,hh,seval,aU,j,c,u];exact⟨_,rfl,by rw[w];rfl⟩
  |true=>
   rw[e1] at u;cases e2:bk p with
   |false=>
    have w:sn r p= -1:=by unfold sn;rw[e1,e2];rfl
    rw[e2] at C;simp only[go_sem,hP,hh,seval,aU,j,c,u,d,C];exact⟨_,rfl,by rw[w];rfl⟩
   |true=>
    have w:sn r p=qI r p:=by unfold sn;rw[e1,e2];rfl
    rw[e2] at C;obtain⟨⟨_,y⟩,I⟩:=Dk (P6 e1);have F:=Xv D y (by rw[f8];exact fun x H=>X5 (f8.1 I x H)) (X5 e2);simp only[aU,cd] at F;simp only[go_sem,hP,hh,seval,aU,j,c,u,d,C,B,F];exact⟨_,rfl,by rw[w];rfl⟩
 obtain⟨_,_,h,rfl,rfl⟩:=h;exact h
end
def Bi:Sp
 | [u,v]=>(rm u).bind fun r=>(jT v).bind fun p=>some (cd (sn r p))
 |_=>none
def RL:dX:=[(229,qe),(430,FO),(342,vm)]
def acb:dR RL:=.cons Kz (.cons am7 (.cons Xw .nil))
def aqy:db ae 406 Bi:=by
 intro c u h G hh w xs d j;unfold Bi at h;split at h;simp only[ak] at h;obtain⟨r,C,p,B,h⟩:=h;have h:=sI h;subst h;obtain⟨_,z,m⟩:=wC C;have y:=mj B;subst y;refine j9 acb (W:=[]) .nil (by simp only[eO,z,eH];rfl) (fun D=>?_) G hh w xs d j;exact⟨_,_,aqz (Q:=QW RL [] D) rfl rfl (fun _=>rfl) rfl rfl rfl rfl rfl m p s0,1,rfl⟩;cases h
noncomputable abbrev qK(E:ax)(x:Option Ex):aR:=.loop 141 E 71 [25,26] EV EX x
noncomputable abbrev qL(E:ax)(x:Option Ex):aR:=.loop 141 E 71 [21,22] EW EY x
def VL:(dY EW&&dY EY)=true:=by kernel_rfl
variable{A:bT}
section
variable{Q:aH}(hP:Q.P=ae)(hh:Q.hint=ai)(hH: ∀f,Q.specH f=none)
include hP hh
theorem apJ(c:Q.spec 225=some lD){B:bT}(n1:bk A.1=true)(n2:bk A.2=true)(n3:bk B.1=true)(n4:bk B.2=true){s0:St}(a2:s0.get [] b4=some (.cells [.int .i64 0]))(a1:s0.get [] b6=some (.cells (bX A).cells))(l4:b4<s0.aL)(l6:b6<s0.aL)(U:ac E 4= .ptr b4 0)(R:ac E 6= .ptr b6 0)(O:iG [] 0 s0 s)(hl:s.get [] s0.aL=some (qK E none)):
 ∃v s',ji Q s0.aL [.int .i64 (k:Nat),bX B] s.top v s'/\(s'.ci=s.ci/\s.aL<=s'.aL/\iG [] 0 s0 (s.Gt s')/\((v= .bool true/\s'.get [] s0.aL=some (qK E none)/\oK A B=false)\/(v= .bool false/\s'.get [] s0.aL=some (qK E (some .ret))/\oK A B=true))):=by
 have C:=OQ n1 n2 n3 n4;have a3:=O.lt;have Z:=O.mw;obtain⟨M,hM⟩:=ct (ld A B);have Y:oK A B=(an M 2||(an M 3||an M 5)):=by rw[<-hM];rfl
 rw[hM] at C;refine ji.any (ca:=Ny) (cb:=CA) (show s.top.get [] s0.aL=_ from hl) rfl rfl ah3 ah5 ?_;refine co ?_;obtain⟨w,H⟩:=ct (s.top.put s0.aL none);have wn:w.aL=s.aL:=by rw[<-H];rfl
 have wo: ∀j,j≠s0.aL->w.get [] j=s.get [] j:=fun j I=>by rw[<-H,aX,bN.2 I];rfl
 have wm:w.gt<=w.aL:=by rw[<-H];exact dh s.top _ _ (br _)
 obtain⟨z,m⟩:=ct ((w.new (.cells [.int .i64 0,.int .i64 0,.int .i64 0,.int .i64 0])).put w.aL (some (.cells (bX B).cells)));have zn:z.aL=s.aL+1:=by rw[<-m,<-wn];rfl
 have zc:z.ci=s.ci:=by rw[<-m,<-H];rfl
 have zm:z.gt<=z.aL:=by rw[<-m];exact dh _ _ _ (cq wm)
 have D:z.get [] w.aL=some (.cells (bX B).cells):=by rw[<-m,aX,bS];rfl
 have V: ∀j,j<s0.aL->z.get [] j=s0.get [] j:=fun j I=>by
  rw[<-m,aX,bN.2 (by omega:j≠w.aL),cF,cz (by omega),wo j (by omega)];exact O.old j I
 have J:=(V b4 l4).trans a2;have F:=(V b6 l6).trans a1;simp only[bX,gD,cd] at m C D F;have a0:(w.new (.cells [.int .i64 0,.int .i64 0,.int .i64 0,.int .i64 0])).get [] w.aL=some (.cells [.int .i64 0,.int .i64 0,.int .i64 0,.int .i64 0]):=cW;simp only[go_sem,hP,hh,seval,lB,VM,Ny,bX,H,dn,a0,dp,m,bj,bg,aZ,bf,evc];have fin: ∀(d:St) (o:Option Ex),(∀j,j<s0.aL->d.get [] j=s0.get [] j)->d.aL=s.aL+1->d.ci=s.ci->d.gt<=d.aL->(d.put s0.aL (some (qK E o))).ci=s.ci/\s.aL<=(d.put s0.aL (some (qK E o))).aL/\iG [] 0 s0 (s.Gt (d.put s0.aL (some (qK E o))))/\(d.put s0.aL (some (qK E o))).get [] s0.aL=some (qK E o):=fun d o q1 q2 q3 q4=>by
  have qn:(d.put s0.aL (some (qK E o))).aL=s.aL+1:=q2;refine⟨q3,by omega,⟨fun j I=>?_,pW Z (by omega),?_,q3.trans O.ci⟩,by rw[aX,bS];rfl⟩
  grind [mY,aX]
  show s0.aL<(d.put s0.aL (some (qK E o))).aL;omega
 obtain⟨y,u⟩:=ct (z.put b4 (some (.cells [.int .i64 0])));have yo: ∀j,j<s0.aL->y.get [] j=s0.get [] j:=fun j I=>by
  grind [aX]
 obtain⟨f1,f2,f3,f4⟩:=fin z none V zn zc zm;obtain⟨g1,g2,g3,g4⟩:=fin y (some .ret) yo (by rw[<-u];exact zn) (by rw[<-u];exact zc) (by rw[<-u];exact dh _ _ _ zm);refine co ?_;cases c1:an M 2 with
 |true=>
  simp only[go_sem,hP,hh,seval,lB,VM,CA,U,R,J,F,D,aW,aY,c,C,c1,dn,dp,u,jI,jL];exact⟨g1,g2,g3,.inr ⟨g4,by rw[Y,c1];rfl⟩⟩
 |false=>
  cases c2:an M 3 with
  |true=>
   simp only[go_sem,hP,hh,seval,lB,VM,CA,U,R,J,F,D,aW,aY,c,C,c1,c2,dn,dp,u,jI,jL];exact⟨g1,g2,g3,.inr ⟨g4,by rw[Y,c1,c2];rfl⟩⟩
  |false=>
   cases c3:an M 5 with
   |true=>
    simp only[go_sem,hP,hh,seval,lB,VM,CA,U,R,J,F,D,aW,aY,c,C,c1,c2,c3,dn,dp,u,jI,jL];exact⟨g1,g2,g3,.inr ⟨g4,by rw[Y,c1,c2,c3];rfl⟩⟩
   |false=>
    simp only[go_sem,hP,hh,seval,lB,VM,CA,U,R,J,F,D,aW,aY,c,C,c1,c2,c3,dn,dp,jI,jL]
    grind
include hH
theorem apI(F:Q.spec 339=none)(u:Q.specW 339=none)(H:Q.spec 225=some lD)(J:ay 2 aU tv t)(z:t.length<=2000)(hn:t.all bk=true)(n1:bk A.1=true)(n2:bk A.2=true){s0:St}(R:s0.get [] bx=some (.cells [tv]))(V:s0.get [] b4=some (.cells [.int .i64 0]))(U:s0.get [] b6=some (.cells (bX A).cells))(lx:bx<s0.aL)(l4:b4<s0.aL)(l6:b6<s0.aL)(e4:ac E 4= .ptr b4 0)(e6:ac E 6= .ptr b6 0)(I:ac E 24= .func (.func 339) [] [.ptr bx 0])(hE:E.all jY=true)(M:s0.gt<=s0.aL)(B: ∀x Z,iG [] 0 s0 Z->((x= .normal/\ ∀j,j<t.length->oK A (fw t j)=false)\/(x= .ret/\ ∃j,j<t.length/\oK A (fw t j)=true))->K x ⟨E,71,[]⟩ Z):W Q 141 (.rfun (.tmp 24) [25,26] EV EX) ⟨E,71,[]⟩ s0 K:=by
 obtain⟨v,s',d,rfl,h⟩:=Bk hP hh hH F u J z (bx:=bx) (n:=s0.aL) (P:=fun k s=>iG [] 0 s0 s/\s.get [] s0.aL=some (qK E none)/\ ∀j,j<k->oK A (fw t j)=false) (D:=fun s=>iG [] 0 s0 s/\s.get [] s0.aL=some (qK E (some .ret))/\ ∃j,j<t.length/\oK A (fw t j)=true) (fun k s h=>(h.1.old bx lx).trans R) (fun k s h=>h.1.mw) (fun k s B ⟨c,hl,y⟩=>by
  obtain⟨n3,n4⟩:=Bc hn B;obtain⟨v,s',q1,q2,q3,q4,q5⟩:=apJ hP hh H n1 n2 n3 n4 (k:=k) V U l4 l6 e4 e6 c hl;refine⟨v,s',q1,q2,q3,?_⟩;rcases q5 with⟨rfl,Y,h2⟩|⟨rfl,Y,h2⟩
  refine .inl ⟨rfl,q4,Y,fun j m=>?_⟩
  grind
  exact .inr ⟨rfl,q4,Y,k,B,h2⟩) (s:=s0.new (qK E none)) ⟨⟨fun j m=>cz m,cq M,kU _,rfl⟩,cW,fun j m=>absurd m (Hb _)⟩
 have w:iG [] 0 s0 s'->iG [] 0 s0 (s'.put s0.aL none):=fun c=>⟨fun j m=>by rw[aX,bN.2 (by omega:j≠s0.aL)];exact c.old j m,dh _ _ _ c.mw,c.lt,c.ci⟩;rcases h with⟨c,O,y⟩|⟨c,O,C⟩
 exact oS (h:=339) (first:=[]) (captured:=[.ptr bx 0]) (v:=.tup []) (s1:=s') (by simp only[aA,I]) (by rw[hP,rJ,VK,hE];rfl) d O (B _ _ (w c) (.inl ⟨rfl,y⟩));exact oS (h:=339) (first:=[]) (captured:=[.ptr bx 0]) (v:=.tup []) (s1:=s') (by simp only[aA,I]) (by rw[hP,rJ,VK,hE];rfl) d O (B _ _ (w c) (.inr ⟨rfl,C⟩))
theorem apH(R:Q.spec 339=none)(H:Q.specW 339=none)(y:Q.spec 235=none)(I:Q.specW 235=none)(U:Q.spec 225=some lD)(c:ay 2 aU tv t)(M:t.length<=2000)(hn:t.all bk=true)(n1:bk A.1=true)(n2:bk A.2=true){s0:St}(a4:s0.get [] b3=some (.cells [tv]))(a3:s0.get [] b4=some (.cells [.int .i64 0]))(l3:b3<s0.aL)(l4:b4<s0.aL)(e3:ac E 3= .ptr b3 0)(e4:ac E 4= .ptr b4 0)(hE:E.all jY=true)(V:iG [] 0 s0 s)(hl:s.get [] s0.aL=some (qL E none)):
 ∃v s',ji Q s0.aL [.int .i64 (i:Nat),bX A] s.top v s'/\(s'.ci=s.ci/\s.aL<=s'.aL/\iG [] 0 s0 (s.Gt s')/\((v= .bool true/\s'.get [] s0.aL=some (qL E none)/\ ∀j,j<t.length->oK A (fw t j)=false)\/(v= .bool false/\s'.get [] s0.aL=some (qL E (some .ret))/\ ∃j,j<t.length/\oK A (fw t j)=true))):=by
 have a5:=V.lt;have a0:=V.mw;have a2:=c.ge;have Y:=vH c;refine ji.any (ca:=Nz) (cb:=NA) (show s.top.get [] s0.aL=_ from hl) rfl rfl ah4 ah6 ?_;refine co ?_;obtain⟨w,J⟩:=ct (s.top.put s0.aL none);have wn:w.aL=s.aL:=by rw[<-J];rfl
 have wo: ∀j,j≠s0.aL->w.get [] j=s.get [] j:=fun j d=>by rw[<-J,aX,bN.2 d];rfl
 have wm:w.gt<=w.aL:=by rw[<-J];exact dh s.top _ _ (br _)
 obtain⟨z,C⟩:=ct ((w.new (.cells [.int .i64 0,.int .i64 0,.int .i64 0,.int .i64 0])).put w.aL (some (.cells (bX A).cells)));have zn:z.aL=s.aL+1:=by rw[<-C,<-wn];rfl
 have zc:z.ci=s.ci:=by rw[<-C,<-J];rfl
 have zm:z.gt<=z.aL:=by rw[<-C];exact dh _ _ _ (cq wm)
 have zk:z.get [] w.aL=some (.cells (bX A).cells):=by rw[<-C,aX,bS];rfl
 have zo: ∀j,j<s0.aL->z.get [] j=s0.get [] j:=fun j d=>by
  rw[<-C,aX,bN.2 (by omega:j≠w.aL),cF,cz (by omega),wo j (by omega)];exact V.old j d
 have z3:=(zo b3 l3).trans a4;simp only[bX,gD] at C;have a1:(w.new (.cells [.int .i64 0,.int .i64 0,.int .i64 0,.int .i64 0])).get [] w.aL=some (.cells [.int .i64 0,.int .i64 0,.int .i64 0,.int .i64 0]):=cW;simp only[go_sem,hP,hh,seval,lB,VM,Nz,bX,J,dn,a1,dp,C,bj,bg,aZ,bf,evc];refine co ?_;have B:=Bj hP hh hH y I c z;obtain⟨x,F⟩:=ct (z.new (.cells [tv]));have xn:x.aL=s.aL+2:=by
  rw[<-F];show z.aL+1=_;omega
 have xm:x.gt<=x.aL:=by rw[<-F];exact cq zm
 have xc:x.ci=s.ci:=by rw[<-F];exact zc
 have xk:x.get [] z.aL=some (.cells [tv]):=by rw[<-F];exact cW
 have xo: ∀j,j<z.aL->x.get [] j=z.get [] j:=fun j d=>by rw[<-F,cz d]
 have m: ∀j,j<s0.aL->x.get [] j=s0.get [] j:=fun j d=>(xo j (by omega)).trans (zo j d);rw[F] at B;simp only[go_sem,hP,hh,seval,lB,VM,NA,e3,z3,aW,aY,sj,a2,y];refine cG.of B (by decide) ?_;simp only[go_sem,hP,hh,seval,lB,VM];refine apI hP hh hH R H U c M hn n1 n2 (bx:=z.aL) (b4:=b4) (b6:=w.aL) (s0:=x) xk ((m b4 l4).trans a3) ?_ (by omega) (by omega) (by omega) ?_ ?_ ?_ ?_ xm ?_;rw[xo _ (by omega)];exact zk;simp only[sN,seval,e4];simp only[sN,seval];simp only[sN,seval]
 ·repeat' (first|exact hE|refine aC.all_set ?_ (by first|exact Y|rfl))
 intro ex u D hc;have n2:=D.lt;have g1: ∀(o:Option Ex),(u.put s0.aL (some (qL E o))).ci=s.ci/\s.aL<=(u.put s0.aL (some (qL E o))).aL/\iG [] 0 s0 (s.Gt (u.put s0.aL (some (qL E o))))/\(u.put s0.aL (some (qL E o))).get [] s0.aL=some (qL E o):=fun o=>by
  have qn:(u.put s0.aL (some (qL E o))).aL=u.aL:=rfl;have qc:(u.put s0.aL (some (qL E o))).ci=s.ci:=D.ci.trans xc;refine⟨qc,by omega,⟨fun j d=>?_,pW a0 (by omega),?_,qc.trans V.ci⟩,by rw[aX,bS];rfl⟩;rw[mY,aX,bN.2 (by omega:j≠s0.aL)];exact(D.old j (by omega)).trans (m j d);show s0.aL<u.aL;omega
 rcases hc with⟨rfl,Z⟩|⟨rfl,O⟩
 obtain⟨f1,f2,f3,f4⟩:=g1 none;exact⟨f1,f2,f3,.inl ⟨rfl,f4,Z⟩⟩;obtain⟨f1,f2,f3,f4⟩:=g1 (some .ret);exact⟨f1,f2,f3,.inr ⟨rfl,f4,O⟩⟩
theorem apG(u:Q.spec 339=none)(d:Q.specW 339=none)(I:Q.spec 235=none)(w:Q.specW 235=none)(J:Q.spec 225=some lD){r:List Pt}(hr:ay 2 aU rv r)(V:r.length<=2000)(R:r.all bk=true)(O:ay 2 aU tv t)(B:t.length<=2000)(hn:t.all bk=true){s0:St}(Z:s0.get [] bx=some (.cells [rv]))(a1:s0.get [] b3=some (.cells [tv]))(a0:s0.get [] b4=some (.cells [.int .i64 0]))(lx:bx<s0.aL)(l3:b3<s0.aL)(l4:b4<s0.aL)(e3:ac E 3= .ptr b3 0)(e4:ac E 4= .ptr b4 0)(M:ac E 20= .func (.func 339) [] [.ptr bx 0])(hE:E.all jY=true)(U:s0.gt<=s0.aL)(C: ∀x s2,iG [] 0 s0 s2->((x= .normal/\ ∀i,i<r.length-> ∀j,j<t.length->oK (fw r i) (fw t j)=false)\/(x= .ret/\ ∃i,i<r.length/\ ∃j,j<t.length/\oK (fw r i) (fw t j)=true))->K x ⟨E,71,lc⟩ s2):W Q 141 (.rfun (.tmp 20) [21,22] EW EY) ⟨E,71,lc⟩ s0 K:=by
 obtain⟨v,s',m,rfl,h⟩:=Bk hP hh hH u d hr V (bx:=bx) (n:=s0.aL) (P:=fun k s=>iG [] 0 s0 s/\s.get [] s0.aL=some (qL E none)/\ ∀i,i<k-> ∀j,j<t.length->oK (fw r i) (fw t j)=false) (D:=fun s=>iG [] 0 s0 s/\s.get [] s0.aL=some (qL E (some .ret))/\ ∃i,i<r.length/\ ∃j,j<t.length/\oK (fw r i) (fw t j)=true) (fun k s h=>(h.1.old bx lx).trans Z) (fun k s h=>h.1.mw) (fun k s C ⟨c,hl,z⟩=>by
  obtain⟨n1,n2⟩:=Bc R C;obtain⟨v,s',q1,q2,q3,q4,q5⟩:=apH hP hh hH u d I w J O B hn n1 n2 (i:=k) a1 a0 l3 l4 e3 e4 hE c hl;refine⟨v,s',q1,q2,q3,?_⟩;rcases q5 with⟨rfl,h1,h2⟩|⟨rfl,h1,h2⟩
  refine .inl ⟨rfl,q4,h1,fun i hi=>?_⟩
  grind
  exact .inr ⟨rfl,q4,h1,k,C,h2⟩) (s:=s0.new (qL E none)) ⟨⟨fun j F=>cz F,cq U,kU _,rfl⟩,cW,fun j F=>absurd F (Hb _)⟩
 have y:iG [] 0 s0 s'->iG [] 0 s0 (s'.put s0.aL none):=fun c=>⟨fun j F=>by rw[aX,bN.2 (by omega:j≠s0.aL)];exact c.old j F,dh _ _ _ c.mw,c.lt,c.ci⟩;rcases h with⟨c,Y,z⟩|⟨c,Y,H⟩
 exact oS (h:=339) (first:=[]) (captured:=[.ptr bx 0]) (v:=.tup []) (s1:=s') (by simp only[aA,M]) (by rw[hP,rJ,VL,hE];rfl) m Y (C _ _ (y c) (.inl ⟨rfl,z⟩));exact oS (h:=339) (first:=[]) (captured:=[.ptr bx 0]) (v:=.tup []) (s1:=s') (by simp only[aA,M]) (by rw[hP,rJ,VL,hE];rfl) m Y (C _ _ (y c) (.inr ⟨rfl,H⟩))
end
def Hr{r:List Pt}{f:bT->Bool}:(gz r).any f=true↔ ∃i,i<r.length/\f (fw r i)=true:=by
 rw[List.any_eq_true];constructor;rintro⟨x,j,h⟩;obtain⟨i,c,rfl⟩:=List.getElem_of_mem j;have d:i<r.length:=by rw[Dr] at c;exact c
 have:=Dq d;rw[gn c] at this;injection this with this
 exact⟨i,d,by rw[<-this];exact h⟩;rintro⟨i,c,h⟩;exact⟨_,eP (Dq c),h⟩
def Ia(n:Nat):bc 0 ((n:Nat):Int)=decide (0<n):=decide_eq_decide.2 (by omega)
def AG(s:St)(n:Nat)(o:Option aR):(s.put n o).get [] n=o:=by rw[aX,bS];rfl
section
variable{Q:aH}(hP:Q.P=ae)(hh:Q.hint=ai)(hH: ∀f,Q.specH f=none)
include hP hh hH
theorem apL(u:Q.spec 236=some xg){c d:Nat×Nat×Nat}(y:rv.ge=true)(w:tv.ge=true)(q1:xg [rv,tv]=some (.agg (kH c)))(z:xg [tv,rv]=some (.agg (kH d)))(D:ac E 0=rv)(C:ac E 3= .ptr b3 0)(g3:s.get [] b3=some (.cells [tv]))(j:s.gt<=s.aL)(B: ∀e,ac e 4=ac E 4->ac e 9= .Ge 9 1 0->ac e 10= .Ge 10 1 0->K .normal ⟨e,71,(Loc.set [] 9 1 (kH c)).set 10 1 (kH d)⟩ s):W Q 141 (.draw VM lB) ⟨E,71,[]⟩ s K:=by
 have F:=hH;have m:=kZ j;simp only[kH] at q1 z;refine iT j ?_;simp only[go_sem,hP,hh,lB,seval,VM,D,C,g3,y,w,aW,aY,sj,u,q1,z,m,bj,bg,aZ,bf,evc];refine B _ ?_ ?_ ?_
 all_goals simp only[abc,gw,dj,bQ,ah]
theorem apM(a6:Q.spec 339=none)(a0:Q.specW 339=none)(z:Q.spec 235=none)(J:Q.specW 235=none)(a8:Q.spec 225=some lD)(B:Q.spec 229=some qe)(a7:Q.spec 236=some xg)(a9:Q.spec 141=none)(a1:Q.specW 141=none){r:List Pt}(R:ay 2 aU rv r)(d:ay 2 aU tv t)(b0:s.gt<=s.aL):
 ∃v s',aq Q 141 [rv,tv] s v s'/\v=cd (qa r t):=by
 have I:=R.ge;have F:=d.ge;have M:=d.scal;have a3:=vH R;have a2:=vH d;have Y:=Ky R;have p2:=Ky d;obtain⟨x,O⟩:=ct ((s.new (.cells [tv])).new (.cells [.int .i64 0]));have H:(s.new (.cells [tv])).aL=s.aL+1:=rfl;have xn:x.aL=s.aL+2:=by rw[<-O];rfl
 have xm:x.gt<=x.aL:=by rw[<-O];exact cq (cq b0)
 have x0:x.get [] s.aL=some (.cells [tv]):=by rw[<-O,cz (by rw[H];omega)];exact cW
 have x1:x.get [] (s.aL+1)=some (.cells [.int .i64 0]):=by rw[<-O];exact cW
 refine aq.ofWZ hP hH ah7 a9 a1 ?_;refine WE.sound ?_;cases e1:kz r with
 |false=>
  have hs:qa r t=0:=by unfold qa;rw[e1];rfl
  rw[e1] at Y;simp only[go_sem,hP,hh,seval,lB,VM,I,F,M,H,O,B,Y,x0,x1,aW,aY,dn,dp,AG];exact⟨_,rfl,by rw[hs];rfl⟩
 |true=>
  rw[e1] at Y;cases e2:kz t with
  |false=>
   have hs:qa r t=0:=by unfold qa;rw[e1,e2];rfl
   rw[e2] at p2;simp only[go_sem,hP,hh,seval,lB,VM,I,F,M,H,O,B,Y,p2,x0,x1,aW,aY,sj,dn,dp,AG];exact⟨_,rfl,by rw[hs];rfl⟩
  |true=>
   rw[e2] at p2;obtain⟨⟨_,V⟩,U⟩:=Dk (P6 e1);obtain⟨⟨_,y⟩,hn⟩:=Dk (P6 e2);have D:=Bj hP hh hH z J R x;obtain⟨u,hu⟩:=ct (x.new (.cells [rv]));have un:u.aL=s.aL+3:=by
    rw[<-hu];show x.aL+1=_;omega
   have um:u.gt<=u.aL:=by rw[<-hu];exact cq xm
   have uk:u.get [] x.aL=some (.cells [rv]):=by rw[<-hu];exact cW
   have uo: ∀j,j<x.aL->u.get [] j=x.get [] j:=fun j hj=>by rw[<-hu,cz hj]
   rw[hu] at D;simp only[go_sem,hP,hh,seval,lB,VM,I,F,M,H,O,B,Y,p2,x0,aW,aY,sj,z];refine cG.of D (by decide) ?_;simp only[go_sem,hP,hh,seval,lB,VM];refine apG hP hh hH a6 a0 z J a8 R V U d y hn (bx:=x.aL) (b3:=s.aL) (b4:=s.aL+1) (s0:=u) uk ((uo _ (by omega)).trans x0) ((uo _ (by omega)).trans x1) (by omega) (by omega) (by omega) ?_ ?_ ?_ ?_ um ?_;simp only[sN,seval];simp only[sN,seval];simp only[sN,seval]
   ·repeat' (first|exact rfl|refine aC.all_set ?_ (by first|exact a3|exact a2|rfl))
   intro ex s2 hI hc;have g3:s2.get [] s.aL=some (.cells [tv]):=(hI.old _ (by omega)).trans ((uo _ (by omega)).trans x0);have g4:s2.get [] (s.aL+1)=some (.cells [.int .i64 0]):=(hI.old _ (by omega)).trans ((uo _ (by omega)).trans x1);rcases hc with⟨rfl,a4⟩|⟨rfl,i,hi,j,hj,a5⟩
   have m:((gz r).any fun a=>(gz t).any fun b=>oK a b)=false:=by
    rw[Bool.eq_false_iff];intro h;obtain⟨i,hi,h⟩:=Hr.1 h;obtain⟨j,hj,h⟩:=Hr.1 h;rw[a4 i hi j hj] at h;cases h
   have q1:=XT R d V U y hn;have q2:=XT d R y hn V U;obtain⟨b1,h1⟩: ∃b,bc 0 ((kG (gz r) t 1:Nat):Int)=b:=⟨_,rfl⟩;obtain⟨b2,h2⟩: ∃b,bc 0 ((kG (gz r) t (-1):Nat):Int)=b:=⟨_,rfl⟩;obtain⟨b3,h3⟩: ∃b,bc 0 ((kG (gz t) r 1:Nat):Int)=b:=⟨_,rfl⟩;obtain⟨b4,Z⟩: ∃b,bc 0 ((kG (gz t) r (-1):Nat):Int)=b:=⟨_,rfl⟩;have c:qa r t=bif(b1&&b2)||(b3&&b4) then 0 else bif b1 then 2 else bif b3 then 3 else bif b2 then 1 else 4:=by
    unfold qa;rw[e1,e2,m,<-h1,<-h2,<-h3,<-Z,Ia,Ia,Ia,Ia];rfl
   have b8:=kZ hI.mw;have m0:dS (.int .i64 0)=some 0:=rfl;have m2:dS (.int .i64 2)=some 2:=rfl;simp only[go_sem,hP,hh,seval];refine apL hP hh hH a7 I F q1 q2 (b3:=s.aL) ?_ ?_ g3 hI.mw ?_;simp only[sN,seval];simp only[sN,seval];intro e w h9 C;simp only[sN,seval] at w;clear a3 a2 Y p2 D q1 q2 a4 m;simp only[kH,lN];cases b1 with
   |true=>
    cases b2 with
    |true=>
     simp only[go_sem,hP,hh,seval,lB,VM,g4,w,h9,C,aW,aY,AI,m0,m2,h1,h2,h3,Z,dn,dp,AG];exact⟨_,rfl,by rw[c];rfl⟩
    |false=>
     cases b3 with
     |true=>cases b4<;>simp only[go_sem,hP,hh,seval,lB,VM,g4,w,h9,C,aW,aY,AI,m0,m2,h1,h2,h3,Z,dn,dp,AG]<;>exact⟨_,rfl,by rw[c];rfl⟩
     |false=>
      simp only[go_sem,hP,hh,seval,lB,VM,g4,w,h9,C,aW,aY,AI,m0,m2,h1,h2,h3,Z,dn,dp,AG];exact⟨_,rfl,by rw[c];rfl⟩
   |false=>
    cases b3 with
    |true=>cases b4<;>simp only[go_sem,hP,hh,seval,lB,VM,g4,w,h9,C,aW,aY,AI,m0,m2,h1,h2,h3,Z,dn,dp,AG]<;>exact⟨_,rfl,by rw[c,dW];rfl⟩
    |false=>cases b2<;>simp only[go_sem,hP,hh,seval,lB,VM,g4,w,h9,C,aW,aY,AI,m0,m2,h1,h2,h3,Z,dn,dp,AG]<;>exact⟨_,rfl,by rw[c,dW,dW];rfl⟩
   have m:((gz r).any fun a=>(gz t).any fun b=>oK a b)=true:=Hr.2 ⟨i,hi,Hr.2 ⟨j,hj,a5⟩⟩;have hs:qa r t=0:=by unfold qa;rw[e1,e2,m];rfl
   simp only[go_sem,hP,hh,seval,lB,VM,g4,aW,aY];exact⟨_,rfl,by rw[hs];rfl⟩
end
def zt:Sp
 | [u,v]=>(rm u).bind fun r=>(rm v).bind fun t=>some (cd (qa r t))
 |_=>none
def RM:dX:=[(225,lD),(229,qe),(236,xg)]
def acd:dR RM:=.cons OS (.cons Kz (.cons amG .nil))
def apK:db ae 141 zt:=by
 intro d u h G hh w xs j m;unfold zt at h;split at h;simp only[ak] at h;obtain⟨r,F,t,D,h⟩:=h;have h:=sI h;subst h;obtain⟨_,C,z⟩:=wC F;obtain⟨_,B,y⟩:=wC D;refine j9 acd (W:=[]) .nil (by simp only[eO,C,B,cw]) (fun H=>?_) G hh w xs j m;obtain⟨v,s',c,rfl⟩:=apM (Q:=QW RM [] H) rfl rfl (fun _=>rfl) rfl rfl rfl rfl rfl rfl rfl rfl rfl z y (s:=s0) (by decide);exact⟨_,_,c,1,rfl⟩;cases h
def Dj:Sp
 | [v]=>(rm v).bind fun r=>some (.bool (pz r))
 |_=>none
def apE{r:List Pt}(h:ay 2 aU v r):Dj [v]=some (.bool (pz r)):=by
 simp only[Dj,qx h,au]
def apF:db ae 326 Dj:=by
 intro c u h G hh w xs d j;unfold Dj at h;split at h;simp only[ak] at h;obtain⟨r,z,h⟩:=h;have h:=sI h;subst h;obtain⟨_,y,m⟩:=wC z;refine j9 (T:=[]) .nil (W:=[]) .nil (by simp only[eO,y,cw]) (fun B=>?_) G hh w xs d j;exact⟨_,_,ZM (Q:=QW [] [] B) rfl rfl (fun _=>rfl) rfl rfl rfl rfl rfl rfl rfl rfl rfl rfl m s0,1,rfl⟩;cases h
noncomputable abbrev CO(E:ax)(x:Option Ex):aR:=.loop 329 E 31 [11,12] Fj Fk x
def pL(S:bT):Int:=(S.1.1+S.2.1)*(S.2.2-S.1.2)
def qY(l:List bT):Int:=l.foldl (fun n S=>n+pL S) 0
def ql(r:List Pt):Int:=bif pz r then qY (gz r) else 0
def aaG(l:List bT)(S:bT):qY (l++[S])=qY l+pL S:=by unfold qY;rw[List.foldl_append];rfl
def LJ(d:bk S.1=true)(c:bk S.2=true): -70368744177664<=pL S/\pL S<=70368744177664:=by
 have a:=xh d;have b:=xh c;exact CV (by omega) (by omega)
section
variable{Q:aH}(hP:Q.P=ae)(hh:Q.hint=ai)
include hP hh
theorem arT(O:bk S.1=true)(nb:bk S.2=true)(hi:i<=2000){s0:St}(l3:b3<s0.aL)(e3:ac E 3= .ptr b3 0)(C:mN b3 s0 s)(hl:s.get [] s0.aL=some (CO E none))(D:s.get [] b3=some (.cells [.int .i64 n]))(hn: -(i*70368744177664:Int)<=n/\n<=i*70368744177664):
 ∃v s',ji Q s0.aL [.int .i64 (i:Nat),bX S] s.top v s'/\(s'.ci=s.ci/\s.aL<=s'.aL/\mN b3 s0 (s.Gt s')/\v= .bool true/\s'.get [] s0.aL=some (CO E none)/\s'.get [] b3=some (.cells [.int .i64 (n+pL S)])):=by
 have a0:=C.lt;have F:=C.mw;have n1:=xh O;have n2:=xh nb;have ab:=LJ O nb;have w1:IntKind.i64.wrap (S.1.1+S.2.1)=S.1.1+S.2.1:=iC (by omega) (by omega);have w2:IntKind.i64.wrap (S.2.2-S.1.2)=S.2.2-S.1.2:=iC (by omega) (by omega);have w3:IntKind.i64.wrap ((S.1.1+S.2.1)*(S.2.2-S.1.2))=pL S:=FM (by omega) (by omega);have w4:IntKind.i64.wrap (n+pL S)=n+pL S:=iC (by omega) (by omega);refine ji.any (ca:=N4) (cb:=N5) (show s.top.get [] s0.aL=_ from hl) rfl rfl aj9 aka ?_;refine co ?_;obtain⟨w,B⟩:=ct (s.top.put s0.aL none);have wn:w.aL=s.aL:=by rw[<-B];rfl
 have wo: ∀j,j≠s0.aL->w.get [] j=s.get [] j:=fun j m=>by rw[<-B,aX,bN.2 m];rfl
 have wm:w.gt<=w.aL:=by rw[<-B];exact dh s.top _ _ (br _)
 obtain⟨z,d⟩:=ct ((w.new (.cells [.int .i64 0,.int .i64 0,.int .i64 0,.int .i64 0])).put w.aL (some (.cells (bX S).cells)));have U:z.aL=s.aL+1:=by rw[<-d,<-wn];rfl
 have V:z.ci=s.ci:=by rw[<-d,<-B];rfl
 have zm:z.gt<=z.aL:=by rw[<-d];exact dh _ _ _ (cq wm)
 have J:z.get [] w.aL=some (.cells (bX S).cells):=by rw[<-d,aX,bS];rfl
 have I: ∀j,j<s.aL->j≠s0.aL->z.get [] j=s.get [] j:=fun j m c=>by rw[<-d,aX,bN.2 (by omega:j≠w.aL),cF,cz (by omega),wo j c]
 have R: ∀j,j<s0.aL->j≠b3->z.get [] j=s0.get [] j:=fun j m c=>(I j (by omega) (by omega)).trans (C.old j m c);have Y:=(I b3 (by omega) (by omega)).trans D;simp only[bX,gD] at d J;have H:(w.new (.cells [.int .i64 0,.int .i64 0,.int .i64 0,.int .i64 0])).get [] w.aL=some (.cells [.int .i64 0,.int .i64 0,.int .i64 0,.int .i64 0]):=cW;simp only[go_sem,hP,hh,seval,N4,bX,B,dn,H,dp,d,bj,bg,aZ,bf,evc];obtain⟨y,u⟩:=ct (z.put b3 (some (.cells [.int .i64 (n+pL S)])));have Z:y.aL=s.aL+1:=by rw[<-u];exact U
 have qn:(y.put s0.aL (some (CO E none))).aL=s.aL+1:=Z;have M:y.ci=s.ci:=by rw[<-u];exact V
 refine co ?_;simp only[go_sem,hP,hh,seval,N5,e3,Y,J,aW,aY,w1,w2,w3,w4,qy,dn,dp,u,jI,jL];refine⟨M,(by show s.aL<=y.aL;omega),⟨fun j m c=>?_,pW F (by show s.aL<=y.aL;omega),?_,M.trans C.ci⟩,?_,?_⟩;rw[mY,aX,bN.2 (by omega:j≠s0.aL),cF,<-u,aX,bN.2 c];exact R j m c;show s0.aL<(y.put s0.aL (some (CO E none))).aL;omega;rw[aX,bS];rfl;rw[aX,bN.2 (by omega:b3≠s0.aL),cF,<-u,aX,bS];rfl
variable(hH: ∀f,Q.specH f=none)
include hH
theorem arU(R:Q.spec 339=none)(z:Q.specW 339=none)(m:Q.spec 235=none)(C:Q.specW 235=none)(d:Q.spec 326=some Dj)(U:Q.spec 329=none)(B:Q.specW 329=none){r:List Pt}(J:ay 2 aU rv r)(a1:s.gt<=s.aL):
 ∃v s',aq Q 329 [rv] s v s'/\v=cd (ql r):=by
 have O:=J.ge;have a0:=vH J;have V:=apE J;refine aq.ofWZ hP hH akb U B ?_;refine co ?_;cases e1:pz r with
 |false=>
  have Z:ql r=0:=by unfold ql;rw[e1];rfl
  rw[e1] at V;simp only[go_sem,hP,hh,seval,O,d,V];exact⟨_,rfl,by rw[Z];rfl⟩
 |true=>
  have Z:ql r=qY (gz r):=by unfold ql;rw[e1];rfl
  rw[e1] at V;obtain⟨⟨_,M⟩,hn⟩:=Dk e1;obtain⟨x,Y⟩:=ct ((s.new (.cells [.int .i64 0])).put s.aL (some (.cells [.int .i64 0])));have a2:(s.new (.cells [.int .i64 0])).get [] s.aL=some (.cells [.int .i64 0]):=cW;have xn:x.aL=s.aL+1:=by rw[<-Y];rfl
  have xm:x.gt<=x.aL:=by rw[<-Y];exact dh _ _ _ (cq a1)
  have x0:x.get [] s.aL=some (.cells [.int .i64 0]):=by rw[<-Y,aX,bS];rfl
  have w:=Bj hP hh hH m C J x;obtain⟨u,H⟩:=ct (x.new (.cells [rv]));have un:u.aL=s.aL+2:=by
   rw[<-H];show x.aL+1=_;omega
  have um:u.gt<=u.aL:=by rw[<-H];exact cq xm
  have uk:u.get [] x.aL=some (.cells [rv]):=by rw[<-H];exact cW
  have u0:u.get [] s.aL=some (.cells [.int .i64 0]):=by rw[<-H,cz (by omega)];exact x0
  rw[H] at w;simp only[go_sem,hP,hh,seval,O,d,V,dn,a2,dp,Y,m];refine cG.of w (by decide) ?_;simp only[go_sem,hP,hh,seval];have F: ∀(E:ax) (K:Ex->Fr->St->Prop),ac E 3= .ptr s.aL 0->ac E 10= .func (.func 339) [] [.ptr x.aL 0]->E.all jY=true->(∀c,c.get [] s.aL=some (.cells [.int .i64 (qY (gz r))])->K .normal ⟨E,31,[]⟩ c)->W Q 329 (.rfun (.tmp 10) [11,12] Fj Fk) ⟨E,31,[]⟩ u K:=by
   intro E K e3 a3 hE hk;obtain⟨v,s',I,rfl,h⟩:=Bk hP hh hH R z J M (bx:=x.aL) (n:=u.aL) (P:=fun i c=>mN s.aL u c/\c.get [] u.aL=some (CO E none)/\c.get [] s.aL=some (.cells [.int .i64 (qY ((gz r).take i))])/\(-(i*70368744177664:Int)<=qY ((gz r).take i)/\qY ((gz r).take i)<=i*70368744177664)) (D:=fun _=>False) (fun k s h=>(h.1.old x.aL (by omega) (by omega)).trans uk) (fun k s h=>h.1.mw) (fun i c hi ⟨hI,hl,y,hb⟩=>by
    obtain⟨na,nb⟩:=Bc hn hi;obtain⟨v,s',q1,q2,q3,q4,rfl,q5,q6⟩:=arT hP hh na nb (i:=i) (by omega) (by omega) e3 hI hl y hb;have ab:=LJ na nb;have e:(gz r).take (i+1)=(gz r).take i++[fw r i]:=by
     rw[List.take_add_one,Dq hi];rfl
    refine⟨_,s',q1,q2,q3,.inl ⟨rfl,q4,q5,?_,?_⟩⟩;rw[e,aaG];exact q6;rw[e,aaG];omega) (s:=u.new (CO E none)) ⟨⟨fun j hj _=>cz hj,cq um,kU _,rfl⟩,cW,(cz (by omega)).trans u0,by simp[qY]⟩
   rcases h with⟨hI,hg,y,_⟩|h
   refine oS (h:=339) (first:=[]) (captured:=[.ptr x.aL 0]) (v:=.tup []) (s1:=s') (by simp only[aA,a3]) (by rw[hP,rJ,akc,hE];rfl) I hg (hk _ ?_);rw[aX,bN.2 (by omega:s.aL≠u.aL)];rw[List.take_of_length_le (by rw[Dr];exact br _)] at y;exact y;exact h.elim
  refine F _ _ ?_ ?_ ?_ ?_;simp only[sN,seval];simp only[sN,seval]
  ·repeat' (first|exact rfl|refine aC.all_set ?_ (by first|exact a0|rfl))
  intro c y;simp only[go_sem,hP,hh,seval,aW,y,aY];exact⟨_,rfl,by rw[Z];rfl⟩
end
def Bo:Sp
 | [v]=>(rm v).bind fun r=>some (cd (ql r))
 |_=>none
def RN:dX:=[(326,Dj)]
def ace:dR RN:=.cons apF .nil
def arR:db ae 329 Bo:=by
 intro d u h G hh w xs j m;unfold Bo at h;split at h;simp only[ak] at h;obtain⟨r,B,h⟩:=h;have h:=sI h;subst h;obtain⟨_,z,y⟩:=wC B;refine j9 ace (W:=[]) .nil (by simp only[eO,z,cw]) (fun C=>?_) G hh w xs j m;obtain⟨v,s',c,rfl⟩:=arU (Q:=QW RN [] C) rfl rfl (fun _=>rfl) rfl rfl rfl rfl rfl rfl rfl y (s:=s0) (by decide);exact⟨_,_,c,1,rfl⟩;cases h
def Hj(s:St)(m:Nat)(L:List (ag×aa)):Prop:=s.get [] m=some (.fix (.map (dw aa.str 0 L) L.length))
def amk{t:TypeId}{e:TypeId}{z:aa}(j: ∀k:ag,lP ae t (.str k)=some (9,e))(d:eV ae e=some z){m:Nat}{l:List (ag×aa)}(c:Hj s m l)(k:ag):ou ae [] t (.map m) (.str k) false s=some ((cI k l).getD z):=by
 have c:s.get [] m=_:=c;simp only[ou,j,au,d,AZ,c,Cm jA l k 0 0];cases cI k l<;>rfl
def mB(L:List (ag×aa))(k:ag):List Pt:=((cI k L).bind rm).getD []
def gA(L:List (ag×aa))(k:ag):Int:=max (ql (mB L k)) (-ql (mB L k))
def mh(L:List (ag×aa)):Prop:= ∀x∈L, ∃r,ay 2 aU x.2 r
def CM{α:Type}[DecidableEq α]{k:α}{v:aa}: ∀ {L:List (α×aa)},cI k L=some v->(k,v)∈L
 | [],h=>by cases h
 |(a,u)::l,h=>by
  simp only[cI] at h;by_cases e:k=a;rw[iP e] at h;injection h with h;subst h;subst e;exact iL
  rw[iN e] at h;exact iE _ (CM h)
def PU{L:List (ag×aa)}(h:mh L)(k:ag):ay 2 aU ((cI k L).getD .AL) (mB L k):=by
 unfold mB;cases e:cI k L with
 |none=>exact .inl ⟨rfl,rfl⟩
 |some v=>
  obtain⟨r,c⟩:=h _ (CM e);simp only[Option.getD_some,au,qx c];exact c
def asm(k:IntKind)(n:Int):Bq .neg (.int k n)=some (.int k (k.wrap (0-n))):=rfl
def aaF: ∀(l:List bT) (n:Int),(∀S∈l, -70368744177664<=pL S/\pL S<=70368744177664)->n-l.length*70368744177664<=l.foldl (fun n S=>n+pL S) n/\l.foldl (fun n S=>n+pL S) n<=n+l.length*70368744177664
 | [],n,_=>by simp
 |S::l,n,h=>by
  have j:=h S iL;have d:=aaF l (n+pL S) fun T c=>h T (iE _ c);simp only[uA,bH];omega
def arS(r:List Pt): -140737488355328000<=ql r/\ql r<=140737488355328000:=by
 unfold ql;cases e:pz r with
 |false=>
  show(-140737488355328000:Int)<=0/\(0:Int)<=140737488355328000;decide
 |true=>
  obtain⟨⟨_,u⟩,j⟩:=Dk e;have h:=aaF (gz r) 0 fun S m=>by
   obtain⟨i,d⟩:=we m;have c:i<r.length:=by
    have:=(nY.1 d).1;rwa [Dr] at this
   rw[Dq c] at d;injection d with d;subst d
   obtain⟨a,b⟩:=Bc j c;exact LJ a b
  rw[Dr] at h;show _<=qY _/\qY _<=_;unfold qY;omega
def o6(L:List (ag×aa))(a b:ag):Int:=mz [jx (gA L a) (gA L b),gu a b]
section
variable{Q:aH}(hP:Q.P=ae)(hh:Q.hint=ai)(hH: ∀f,Q.specH f=none)
include hP hh hH
theorem aam(m:Q.spec 233=none)(c:Q.specW 233=none)(j:Q.spec 329=some Bo){p:Nat}{L:List (ag×aa)}(F:mh L)(C:s.get [] p=some (.fix (.cells [.map a])))(D:Hj s a L)(k:ag):aq Q 233 [.ptr p 0,.str k] s (cd (gA L k)) s:=by
 have u:=PU F k;have d:=amk CU GX D k;obtain⟨v,B⟩:=ct ((cI k L).getD .AL);rw[B] at u d;have w:=u.ge;have y:Bo [v]=some (cd (ql (mB L k))):=by simp only[Bo,qx u,au]
 have H:=arS (mB L k);have z:IntKind.i64.wrap (0-ql (mB L k))= -ql (mB L k):=by rw[iC (by omega) (by omega)];omega
 refine aq.ofZ hP hH ajd m c rfl ?_;refine co ?_;simp only[go_sem,hP,hh,seval,y8,aW,C,OM,d,w,j,y,cd,asm,z,ru,gA]
theorem aed(B:Q.spec 231=none)(m:Q.specW 231=none)(c:Q.spec 233=none)(d:Q.specW 233=none)(j:Q.spec 329=some Bo)(z:Q.spec 232=some o5)(C:Q.spec 228=some pO)(D:Q.spec 108=some vA)(u:s.gt<=s.aL){p:Nat}{L:List (ag×aa)}(J:mh L)(H:s.get [] bx=some (.fix (.cells [.ptr p 0])))(F:s.get [] p=some (.fix (.cells [.map a])))(I:Hj s a L)(x y:ag):aq Q 231 [.str x,.str y,.ptr bx 0] s (cd (o6 L x y)) s:=by
 have c1:=aam hP hh hH c d j (s:=s.top) J F I x;have c2:=aam hP hh hH c d j (s:=s.top) J F I y;have R:o5 [.int .i64 (gA L x),.int .i64 (gA L y)]=some (.int .i64 (jx (gA L x) (gA L y))):=rfl;have O:pO [.str x,.str y]=some (.int .i64 (gu x y)):=rfl;have M:vA [.list 1 [.int .i64 (jx (gA L x) (gA L y)),.int .i64 (gu x y)] .GE]=some (.int .i64 (o6 L x y)):=rfl;have w:=kZ u;refine aq.ofZ hP hH aja B m rfl ?_;refine WE.sound ?_;simp only[go_sem,hP,hh,seval];refine iT u ?_;simp only[go_sem,hP,hh,IR,seval,aW,H,OM,c];refine kY.quiet c1 (by decide) (by simp[fo,pD]) ?_;simp only[go_sem,hP,hh,IR,seval,aW,H,OM,c];refine kY.quiet c2 (by decide) (by simp[fo,pD]) ?_;simp only[go_sem,hP,hh,IR,seval,cd,z,R,C,O,D,M,ng,w,bj,bg,aZ,bf,evc]
end
end Go.Proofs.YtnnppcoplinajaaGreat
namespace Go.Proofs.YtnnppcoplinajaaGreat
open Go.Ag
open Go.Sort (putRow grow Holds SWO)
noncomputable def AH(bx p a:Nat)(es:List dK)(c:Nat):aC aR:=((aC.nil.set bx (some (.fix (.cells [.ptr p 0])))).set p (some (.fix (.cells [.map a])))).set a (some (.fix (.map es c)))
def AF(G:Gh)(bx p a:Nat):Gh where
 at_ n:=if n=bx\/n=p\/n=a then G.at_ n else none
 ro:=G.plain.ro
 dim:=G.dim
def agB(G:Gh)(bx p a:Nat):G.plain.le (AF G bx p a):=⟨fun _ _ e=>(by cases e),fun _ _ _ e=>e,fun _ _ e=>e⟩
variable{x:Addr}{G:Gh}{a bx n p:Nat}
def H6(h:(AF G bx p a).at_ n=some x):(n=bx\/n=p\/n=a)/\G.at_ n=some x:=by
 have h:(if n=bx\/n=p\/n=a then G.at_ n else none)=some x:=h;by_cases e:n=bx\/n=p\/n=a;rw[iP e] at h;exact⟨e,h⟩;rw[iN e] at h;cases h
def Cr(e:n=bx\/n=p\/n=a)(h:G.at_ n=some x):(AF G bx p a).at_ n=some x:=by
 show(if n=bx\/n=p\/n=a then G.at_ n else none)=some x;rw[iP e];exact h
def QK(es:List dK):List dK:=es.map fun e=>⟨e.key,de e.val,e.born⟩
def TU{G G2:Gh}(c:G.plain.le G2): ∀ {es:List dK} {ms:List MapEntry},hZ G es ms->(∀e∈es,bL e.key=true/\d8 e.val=true)->hZ G2 (QK es) ms
 |_,_,.nil,_=>.nil
 |_,_,.cons (e:=e) x l,h=>by
  obtain⟨m,j⟩:=h e iL;exact .cons ⟨(x.key.onto (Ka G) m).mono c,(VR.top (Ka G) x.val j).mono c,x.born⟩ (TU c l fun e d=>h e (iE _ d))
def Ct(bx p a:Nat)(es:List dK)(c n:Nat):(AH bx p a es c).get n=if n=a then some (.fix (.map es c)) else if n=p then some (.fix (.cells [.map a])) else if n=bx then some (.fix (.cells [.ptr p 0])) else none:=by
 simp only[AH,aC.get_set];rfl
variable{α:Type}
def YA{x y:α}{i:Nat}(h:[x][i]? =some y):i=0/\y=x:=by
 cases i with
 |zero=>exact⟨rfl,(sI h).symm⟩
 |succ i=>simp at h
variable{c1:List aa}{h:aC aR}
def wr3{w:World}(wr:WR G h w){c2:List aa}{es:List dK}{c:Nat}(Y:h.get bx=some (.cells (.ptr p 0::c1)))(M:h.get p=some (.cells (.map a::c2)))(J:h.get a=some (.map es c))(he: ∀e∈es,bL e.key=true/\d8 e.val=true):WR (AF G bx p a) (AH bx p a (QK es) c) w:=by
 have a1:a≠p:=fun e=>by rw[e,M] at J;cases J
 have a2:a≠bx:=fun e=>by rw[e,Y] at J;cases J
 have a0:p≠bx:=fun e=>by rw[e,Y] at M;cases M
 have O:=agB G bx p a;have old: ∀n,n=bx\/n=p\/n=a-> ∃o,h.get n=some o/\o≠ .tok:=by
  rintro n (rfl|rfl|rfl);exact⟨_,Y,fun e=>by cases e⟩;exact⟨_,M,fun e=>by cases e⟩;exact⟨_,J,fun e=>by cases e⟩
 refine⟨fun n o d=>?_,fun n m x y hn hm j hy he=>?_,fun b o v hv=>?_,fun n ob x i v hn j z=>?_,wr.dim,fun n x j=>wr.below n x (H6 j).2⟩;rw[Ct] at d;by_cases I:n=a;rw[iP I] at d;injection d with d;subst d;subst I
 obtain⟨V,H,F,ES,D,R⟩:=wr.obj n _ J;exact⟨V,Cr (.inr (.inr rfl)) H,F,ES,D,TU O R he⟩;rw[iN I] at d;by_cases U:n=p;rw[iP U] at d;injection d with d;subst d;subst U
 obtain⟨V,H,F,C,e,D,R,h5⟩:=wr.obj n _ M;refine⟨V,Cr (.inr (.inl rfl)) H,F,C,e,D,R,fun i v z=>?_⟩;obtain⟨rfl,rfl⟩:=YA z;obtain⟨q1,x,q2,Z⟩:=h5 0 (.map a) rfl;refine⟨q1,x,q2,?_⟩;cases Z with
 |map B=>exact .map (Cr (.inr (.inr rfl)) B)
 rw[iN U] at d;by_cases e3:n=bx;rw[iP e3] at d;injection d with d;subst d;subst e3
 obtain⟨V,H,F,C,e,D,R,h5⟩:=wr.obj n _ Y;refine⟨V,Cr (.inl rfl) H,F,C,e,D,R,fun i v z=>?_⟩;obtain⟨rfl,rfl⟩:=YA z;obtain⟨q1,x,q2,Z⟩:=h5 0 (.ptr p 0) rfl;refine⟨q1,x,q2,?_⟩;cases Z with
 |ptr B=>exact .ptr (Cr (.inr (.inl rfl)) B)
 rw[iN e3] at d;cases d;obtain⟨I,j⟩:=H6 j;obtain⟨U,hy⟩:=H6 hy;obtain⟨o1,g1,_⟩:=old n I;obtain⟨o2,g2,_⟩:=old m U;exact wr.sep n m x y (by rw[g1];simp) (by rw[g2];simp) j hy he;obtain⟨H,x,F,D⟩:=wr.plain.ro b o v hv;exact⟨H,x,F,D.mono O⟩;obtain⟨I,j⟩:=H6 j;obtain⟨o1,g1,g2⟩:=old n I;have z:((G.ro x.block i).bind fun v=>if bL v=true then some v else none)=some v:=z;simp only[ak] at z;obtain⟨u,hu,_⟩:=z;exact absurd (wr.apart n o1 x i u g1 j hu).1 g2
def TX: ∀(L:List (ag×aa)) (n:Nat),QK (dw aa.str n L)=dw aa.str n (L.map fun x=>(x.1,de x.2))
 | [],_=>rfl
 |(k,v)::L,n=>by
  simp only[dw,fy];rw[<-TX L (n+1)];rfl
def Xy(k:ag): ∀L:List (ag×aa),cI k (L.map fun x=>(x.1,de x.2))=(cI k L).map de
 | []=>rfl
 |(a,v)::L=>by
  simp only[fy,cI];by_cases e:k=a;rw[iP e,iP e];rfl;rw[iN e,iN e];exact Xy k L
def ZT{L:List (ag×aa)}(d:mh L)(k:ag):mB (L.map fun x=>(x.1,de x.2)) k=mB L k:=by
 unfold mB;rw[Xy];cases e:cI k L with
 |none=>rfl
 |some v=>
  obtain⟨r,c⟩:=d _ (CM e);have j:=(pU Gb c).2;simp only[kn,au,qx c,qx j]
def apQ{L:List (ag×aa)}(m:mh L):mh (L.map fun x=>(x.1,de x.2)):=fun x d=>by
 obtain⟨y,c,rfl⟩:=dy.1 d;obtain⟨r,j⟩:=m y c;exact⟨r,(pU Gb j).2⟩
def aeU{L:List (ag×aa)}(j:mh L): ∀e∈dw aa.str n L,bL e.key=true/\d8 e.val=true:=fun e d=>by
 obtain⟨x,w,u,m⟩:=MA L n e d;obtain⟨r,c⟩:=j x (eP w);rw[u,m];exact⟨rfl,(pU Gb c).1⟩
def Hm:dX:=[(329,Bo),(232,o5),(228,pO),(108,vA)]
def abT:dR Hm:=.cons arR (.cons HH (.cons Mi (.cons Y1 .nil)))
def aec{W:World}(wr:WR G h W){c2:List aa}{L:List (ag×aa)}(hL:mh L)(hb:h.get bx=some (.cells (.ptr p 0::c1)))(Y:h.get p=some (.cells (.map a::c2)))(R:h.get a=some (.map (dw aa.str 0 L) L.length)){J:Value}(hx:VR G (.ptr bx 0) J)(x y:ag):
 Calls ae 231 (#[.string ⟨⟨x⟩⟩,.string ⟨⟨y⟩⟩]++ #[J]) W fun e z=>e= .returned (.int .i64 (o6 L x y))/\ ∃q a1,z=grow (W.drewN q) a1:=by
 have D:=wr3 wr hb Y R (aeU hL);rw[TX] at D;obtain⟨L',B⟩: ∃L',(L.map fun x=>(x.1,de x.2))=L':=⟨_,rfl⟩;have a6:L.length=L'.length:=by rw[<-B,ce]
 have a5:mh L':=by rw[<-B];exact apQ hL
 have a8:o6 L x y=o6 L' x y:=by
  unfold o6 gA;rw[<-B,ZT hL,ZT hL]
 rw[B,a6] at D;rw[a8];obtain⟨N,hN⟩:=ct (bx+p+a+1);obtain⟨j,w⟩: ∃j:St,(⟨AH bx p a (dw aa.str 0 L') L'.length,N,N,0⟩:St)=j:=⟨_,rfl⟩;have a3:a≠p:=fun e=>by rw[e,Y] at R;cases R
 have a4:a≠bx:=fun e=>by rw[e,hb] at R;cases R
 have a2:p≠bx:=fun e=>by rw[e,hb] at Y;cases Y
 have sg: ∀n,j.get [] n=(AH bx p a (dw aa.str 0 L') L'.length).get n:=fun n=>by rw[<-w];rfl
 have gb:j.get [] bx=some (.fix (.cells [.ptr p 0])):=by rw[sg,Ct,iN (Ne.symm a4),iN (Ne.symm a2),iP rfl]
 have gp:j.get [] p=some (.fix (.cells [.map a])):=by rw[sg,Ct,iN (Ne.symm a3),iP rfl]
 have ga:Hj j a L':=by
  show j.get [] a=_;rw[sg,Ct,iP rfl]
 have O:=aed (Q:=QW Hm [] fun _=>0) rfl rfl (fun _=>rfl) rfl rfl rfl rfl rfl rfl rfl rfl (s:=j) (by rw[<-w];exact br _) a5 gb gp ga x y;obtain⟨n,hn⟩:=O;have a7:j.ci=0:=by rw[<-w]
 have C: ∀ch,(cy ((QW Hm [] fun _=>0).at ch) n).call 231 [.str x,.str y,.ptr bx 0] [] j=some (cd (o6 L' x y),j):=fun ch=>
  (tL (QW Hm [] fun _=>0) n).call 231 _ [] (fun _=>0) j _ j hn ch fun i Z=>by rw[a7] at Z;omega
 have hv:ck (AF G bx p a) [.str x,.str y,.ptr bx 0] [.string ⟨⟨x⟩⟩,.string ⟨⟨y⟩⟩,J]:=by
  refine .cons (.str x) (.cons (.str y) (.cons ?_ .nil));cases hx with
  |ptr a9=>exact .ptr (Cr (.inl rfl) a9)
 have a0:mg [] (fun m=>N<=m) (AF G bx p a) j j W:=by
  refine⟨fun m hm=>?_,.refl _ _,by rw[<-w];exact D,fun m _ hA=>?_⟩;have hm:N<=m:=by rw[<-w] at hm;exact hm
  rw[<-w];show(AH _ _ _ _ _).get m=none;rw[Ct,iN (by omega),iN (by omega),iN (by omega)];have hA:N<=m:=hA;show(if m=bx\/m=p\/m=a then G.at_ m else none)=none;rw[iN (by omega)]
 have hc:=(Sd (U2 abT (W:=[]) .nil) n).1 231 [.str x,.str y,.ptr bx 0] [] j j (AF G bx p a) W [.string ⟨⟨x⟩⟩,.string ⟨⟨y⟩⟩,J] (fun _=>0) (fun m=>N<=m) a0 hv (fun _=>(by decide:0<1000000)) (fun I _ _=>⟨_,j,C I,fun m U h2=>by omega⟩);rcases hc with⟨y',z,U,_⟩|⟨_,h2⟩
 have eg:=Go.Proofs.enters_of Tryz.func231 (by kernel_rfl) rfl ⟨[.string ⟨⟨x⟩⟩,.string ⟨⟨y⟩⟩,J]⟩ W;have U:(callFunc 231 ⟨[.string ⟨⟨x⟩⟩,.string ⟨⟨y⟩⟩,J]⟩).run ae W=_:=U;rw[eg] at U;cases U;refine Calls.mono h2 ?_;rintro e z ⟨v,rfl,I,u,s',b0,G',c⟩;have H:=c.eval;rw[C I] at H;simp only[aJ,Prod.mk.injEq] at H;obtain⟨rfl,rfl⟩:=H;have M:=c.val;cases M;refine⟨rfl,z.drawn-W.drawn,z.heap.extract W.heap.size z.heap.size,?_⟩;have V:=c.ext.quiet;have b1:=c.ext.size;have F:z.heap=W.heap++z.heap.extract W.heap.size z.heap.size:=by
  apply Array.ext_getElem?;intro i;by_cases Z:i<W.heap.size;rw[Array.getElem?_append_left Z];refine c.ext.keepW i Z ?_;rintro⟨n,ad,o,d,q2,q3,_⟩;have d:j.heap.get n=some o:=d;rw[<-w] at d;have d:(AH _ _ _ _ _).get n=some o:=d;rw[Ct] at d;by_cases e1:n=a;rw[iP e1] at d;injection d with d;subst d;cases q2
  rw[iN e1] at d;by_cases e2:n=p;rw[iP e2] at d;injection d with d;subst d;cases q2
  rw[iN e2] at d;by_cases e3:n=bx;rw[iP e3] at d;injection d with d;subst d;cases q2
  rw[iN e3] at d;cases d;rw[Array.getElem?_append_right (by omega),Array.getElem?_extract];by_cases hj:i-W.heap.size<z.heap.size-W.heap.size;rw[iP (by omega),show W.heap.size+(i-W.heap.size)=i by omega];rw[iN (by omega),Array.getElem?_eq_none (by omega)]
 have hd:=V.2.2.2.2.2;refine abv F V.2.2.2.2.1 ?_ V.1 V.2.1;show z.drawn=W.drawn+(z.drawn-W.drawn);omega
def HJ{L:List (ag×aa)}{a b:ag}:o6 L a b<0↔(gA L a<gA L b\/(gA L a=gA L b/\dz a b<0)):=by
 unfold o6;rw[Pq,HI];unfold jx;by_cases h1:gA L a<gA L b;simp[bc,an,h1];by_cases h2:gA L b<gA L a;have: ¬gA L a=gA L b:=by omega
 simp[bc,an,h1,h2,this];have:gA L a=gA L b:=by omega
 simp[bc,an,this]
def aro(L:List (ag×aa)):SWO (ltOf (o6 L)) where
 irrefl x:=by
  simp only[ltOf,decide_eq_false_iff_not,HJ,En];omega
 trans x y z c h2:=by
  simp only[ltOf,dE,HJ] at*;rcases c with c|⟨c,w⟩<;>rcases h2 with h2|⟨h2,u⟩
  exact .inl (by omega);exact .inl (by omega);exact .inl (by omega);exact .inr ⟨by omega,Eo w u⟩
 ntrans x y z c h2:=by
  simp only[ltOf,decide_eq_false_iff_not,HJ] at*;intro h3;rcases h3 with h3|⟨h3,d⟩
  by_cases e:gA L x<gA L y;exact c (.inl e);exact h2 (.inl (by omega));by_cases e:gA L x<gA L y;exact c (.inl e);by_cases e2:gA L y<gA L z;exact h2 (.inl e2);have B:gA L x=gA L y:=by omega
  have j:gA L y=gA L z:=by omega
  rcases Int.lt_trichotomy (dz x y) 0 with q|q|q
  exact c (.inr ⟨B,q⟩);rw[uU q] at d;exact h2 (.inr ⟨j,d⟩);have m:dz y x<0:=by rw[B7 x y];omega
  exact h2 (.inr ⟨j,Eo m d⟩)
def arM(L:List (ag×aa))(x y:ag)(d:ltOf (o6 L) x y=false)(c:ltOf (o6 L) y x=false):x=y:=by
 simp only[ltOf,decide_eq_false_iff_not,HJ] at d c;have m: ¬dz x y<0:=fun q=>by
  by_cases e:gA L x=gA L y;exact d (.inr ⟨e,q⟩);exact d (.inl (sB fun j=>c (.inl (by omega))))
 have j: ¬dz y x<0:=fun q=>by
  by_cases e:gA L y=gA L x;exact c (.inr ⟨e,q⟩);exact c (.inl (sB fun j=>d (.inl (by omega))))
 rw[B7 x y] at j;exact uU (by omega)
def vO(L:List (ag×aa))(l:List ag):List ag:=l.mergeSort fun x y=> !(ltOf (o6 L)) y x
def Qc(L:List (ag×aa))(l:List ag):(vO L l).Perm l:=List.mergeSort_perm _ _
def Gm{α:Type}(x:Option α)(k:α->Rd):Rd:=match x with|some a=>k a|none=>.ret none
def PK:aR->Option Nat
 | .cells (.ptr p o::_)=>bif aQ o 0 then some p else none
 |_=>none
def OP:aR->Option Nat
 | .cells (.map a::_)=>some a
 |_=>none
noncomputable def Ey(o:aR):Option (List (ag×aa)):=by
 classical exact if h: ∃L:List (ag×aa),o= .map (dw aa.str 0 L) L.length/\mh L then some h.choose else none
def aeR{o:aR}{L:List (ag×aa)}(h:Ey o=some L):o= .map (dw aa.str 0 L) L.length/\mh L:=by
 unfold Ey at h;split at h;rename_i c;injection h with h;subst h
 exact c.choose_spec;cases h
def TT: ∀ {L M:List (ag×aa)} {n:Nat},dw aa.str n L=dw aa.str n M->L=M
 | [],[],_,_=>rfl
 | [],_::_,_,h=>by cases h
 |_::_,[],_,h=>by cases h
 |(a,u)::L,(b,v)::M,n,h=>by
  simp only[dw,List.cons.injEq,dK.mk.injEq,aa.str.injEq] at h;obtain⟨⟨rfl,rfl,_⟩,h⟩:=h;rw[TT h]
def aeQ{L:List (ag×aa)}(d:mh L):Ey (.map (dw aa.str 0 L) L.length)=some L:=by
 have c: ∃M:List (ag×aa),(aR.map (dw aa.str 0 L) L.length)= .map (dw aa.str 0 M) M.length/\mh M:=⟨L,rfl,d⟩;unfold Ey;rw[dif_pos c];have h:=c.choose_spec.1;injection h with h _
 exact congrArg some (TT h).symm
noncomputable def GI(bx len:Nat)(cs:List aa):Rd:=.ask bx fun o=>Gm (PK o) fun p=>.ask p fun o=>Gm (OP o) fun a=>.ask a fun o=>Gm (Ey o) fun L=>
 t6 (bif aQ cs.length len&&bw len 1000000 then(wD cs).bind fun l=>some ((vO L l).map aG) else none)
noncomputable def Dv:List aa->Option pH
 | [.arr k m 0 len _,.func (.func g) [] [.ptr bx 0]]=>bif aQ k 1&&aQ g 231 then some (some (m,GI bx len)) else none
 | [.AL,.func (.func g) [] [.ptr _ 0]]=>bif aQ g 231 then some none else none
 |_=>none
variable{g:Nat->Option aR}
def PM{x:Option α}{k:α->Rd}{v:aa}(h:gm g (Gm x k)=some v): ∃a,x=some a/\gm g (k a)=some v:=by
 cases x with
 |none=>cases h
 |some a=>exact⟨a,rfl,h⟩
def aq2{len:Nat}{cs cs':List aa}(h:gm g (GI bx len cs)=some (.agg cs')): ∃(p a:Nat) (c1 c2:List aa) (L:List (ag×aa)) (l:List ag),g bx=some (.cells (.ptr p 0::c1))/\g p=some (.cells (.map a::c2))/\g a=some (.map (dw aa.str 0 L) L.length)/\mh L/\cs=l.map aG/\l.length=len/\len<=1000000/\cs'=(vO L l).map aG:=by
 unfold GI at h;simp only[gm,ak] at h;obtain⟨O,I,h⟩:=h;obtain⟨p,c,h⟩:=PM h;simp only[gm,ak] at h;obtain⟨M,H,h⟩:=h;obtain⟨a,d,h⟩:=PM h;simp only[gm,ak] at h;obtain⟨J,F,h⟩:=h;obtain⟨L,z,B⟩:=PM h;obtain⟨rfl,y⟩:=aeR z;have h:=Gl B;obtain⟨w,h⟩:=bh h;simp only[bu] at w;simp only[ak,aJ] at h;obtain⟨l,D,C⟩:=h;have m:=LO D;have j:=jP w.1;have u:=fW w.2;unfold PK at c;split at c;obtain⟨e,c⟩:=bh c;have e:=jP e;injection c with c;subst c;subst e
 unfold OP at d;split at d;injection d with d;subst d
 exact⟨_,_,_,_,L,l,I,H,F,y,m,by rw[<-j,m,ce],u,C.symm⟩;cases d;cases c
variable{l:List ag}
def arj(h:l.map aG= .ptr p 0::c1):False:=by
 cases l with
 |nil=>cases h
 |cons x l=>injection h with h _;cases h
def ark(h:l.map aG= .map a::c1):False:=by
 cases l with
 |nil=>cases h
 |cons x l=>injection h with h _;cases h
def aqU:uN 230 Dv:=by
 intro d1 G h w xs wr hx;refine⟨fun c=>?_,fun n gf cs d5 c hl hg=>?_⟩
 ·unfold Dv at c
  split at c;obtain⟨_,c⟩:=bh c;cases c
  ·cases hx with
   |cons p q=>
   cases q with
   |cons q r=>
   cases r;cases p;refine .inr ⟨Go.Proofs.enters_of Tryz.func230 (by kernel_rfl) rfl _ _,(AnyF.slices_SortFunc_none (P:=ae) (ρ:=Tryz.sortF230_ren) {Tryz.sortF230 with } none 0 _ w).mono ?_⟩;rintro e w' ⟨rfl,rfl⟩;exact⟨_,rfl,G,wr,.refl,.tup .nil⟩
  cases c
 ·unfold Dv at c
  split at c
  ·rename_i k m len c9 g bx
   obtain⟨hb,c⟩:=bh c;simp only[bu] at hb;have e1:=jP hb.1;have e2:=jP hb.2;subst e1;subst e2;injection c with c;injection c with c;injection c with b8 b1
   subst b8;subst b1;obtain⟨p,a,c1,c2,L,l,gb,Z,ga,hL,rfl,rfl,d2,rfl⟩:=aq2 hg;cases hx with
   |cons x1 x2=>
   cases x2 with
   |cons x2 x3=>
   cases x3;cases x2 with
   |func u1 u2=>
   cases u1;cases u2 with
   |cons c3 u3=>
   cases u3;rename_i px;obtain⟨ad,b,a4,rfl,Y,B,d0,c7,d,u,hd⟩:=LK x1;obtain⟨b',H,_,C,e,hC,V,c5⟩:=wr.obj m _ hl;rw[Y] at H;injection H with H;subst H
   rw[V] at u;injection u with u
   have a6:bx≠m:=fun e=>by rw[e,hl] at gb;injection gb with gb;injection gb with gb;exact arj gb
   have a5:p≠m:=fun e=>by rw[e,hl] at Z;injection Z with Z;injection Z with Z;exact ark Z
   have a7:a≠m:=fun e=>by rw[e,hl] at ga;cases ga
   have c8: ∀i (R:i<l.length),C[b.off+i]? =some (encStr l[i]):=fun i R=>by
    obtain⟨_,x,a9,a8⟩:=c5 i (aG l[i]) (by rw[jf,gn R];rfl);cases a8;exact a9
   have D: ∀n I (F:Array ag),F.size=l.length-> ∃O,WR O (h.set m (some (.cells (F.toList.map aG)))) (grow (putRow encStr (Sort.ahead w n) b.block b.off F) I)/\cZ G h w O (h.set m (some (.cells (F.toList.map aG)))) (grow (putRow encStr (Sort.ahead w n) b.block b.off F) I) 0 0/\VR O (.tup []) (.tuple #[]):=fun n I F U=>by
    refine Kn wr hl Y encStr F n I (fun C' e' z=>?_) (fun i v R=>?_);rw[hC] at z;injection z with z;injection z with z _ _;subst z
    rw[U,u];omega;rw[jf,Option.map_eq_some_iff] at R;obtain⟨s,c,rfl⟩:=R;rw[Array.getElem?_toList] at c;obtain⟨R,d4⟩:=Array.getElem?_eq_some_iff.1 c;refine⟨R,rfl,?_⟩;have:F[i]! =s:=by rw[getElem!_def,c]
    rw[this];exact .str s
   have a1:(vO L l).length=l.length:=(Qc L l).length_eq;rcases c7 with h0|⟨M,J⟩
   have c4:l=[]:=uv h0;subst c4;refine .inr ⟨Go.Proofs.enters_of Tryz.func230 (by kernel_rfl) rfl _ _,(AnyF.slices_SortFunc_none (P:=ae) (ρ:=Tryz.sortF230_ren) {Tryz.sortF230 with } (some ad) a4 _ w).mono ?_⟩;rintro e' w' ⟨rfl,rfl⟩;obtain⟨O,g1,g2,g3⟩:=D 0 #[] #[] rfl;have hw:grow (putRow encStr (Sort.ahead w' 0) b.block b.off #[]) #[]=w':=by
    rw[Go.Sort.grow_empty,Go.Sort.ahead_zero];exact Go.Sort.putRow_self encStr w' b.block b.off _ (fun j hj=>by simp at hj)
   rw[hw] at g1 g2;rw[uv (l:=vO L []) a1];exact⟨_,rfl,O,g1,g2,g3⟩;obtain⟨ab,ao,d6⟩:=ad;simp only at M J B;subst M;subst J;subst B;have hH:Holds encStr w b.block b.off l.toArray:=fun j hj=>by
    have a2:j<l.length:=by simpa using hj
    refine⟨?_,by simp[World.frozen?,hC]⟩;rw[o0 hC,c8 j a2];simp[a2]
   have c6:=wr.below m b Y;have a3:CmpLays1 ae 231 #[px] encStr (o6 L) b.block b.off l.toArray.size w:=fun n I F U x y=>by
    obtain⟨O,g1,g2,_⟩:=D n I F (by simpa using U);exact aec g1 hL (by rw[aC.get_set,iN a6];exact gb) (by rw[aC.get_set,iN a5];exact Z) (by rw[aC.get_set,iN a7];exact ga) (c3.mono g2.le) x y
   have a0:=Any.slices_SortFunc_total Tryz.sortF230 encStr (fun _=>rfl) (o6 L) (aro L) 231 #[px] b.block b.off a4 l.toArray w (Go.Proofs.enters_of Tryz.func231 (by kernel_rfl) rfl) a3 hH c6 (by simp;omega) (arM L);have b0:l.toArray.size=l.length:=by simp
   rw[b0] at a0;refine .inr ⟨Go.Proofs.enters_of Tryz.func230 (by kernel_rfl) rfl _ _,a0.mono ?_⟩;rintro e' w' ⟨rfl,n,I,rfl⟩;obtain⟨O,g1,g2,g3⟩:=D n I (vO L l).toArray (by simpa using a1);exact⟨_,rfl,O,g1,g2,g3⟩
  obtain⟨_,c⟩:=bh c;cases c;cases c
end Go.Proofs.YtnnppcoplinajaaGreat
namespace Go.Proofs.YtnnppcoplinajaaGreat
open Go.Ag
def kx(l:List Obj):List (ag×aa):=l.map fun o=>(o.id,o.val)
def AX(k:ag): ∀l:List Obj,cI k (kx l)=(dP k l).map Obj.val
 | []=>rfl
 |o::l=>by
  have c:=AX k l;simp only[kx,fy,cI,dP] at c ⊢;by_cases h:k=o.id;subst h;simp;have:(k==o.id)=false:=by simpa using h
  rw[iN h,this];exact c
def C4{k:ag}: ∀ {l:List Obj},k ∉ l.map Obj.id->dP k l=none
 | [],_=>rfl
 |o::l,h=>by
  have j:(k==o.id)=false:=by
   simp only[fy,fc,not_or] at h;simpa using h.1
  have c:=C4 (k:=k) (l:=l) fun d=>h (by rw[fy];exact iE _ d);simp only[dP,j,cF,c]
variable{K:Ex->Fr->St->Prop}{l:List Obj}{b lo n p:Nat}{bv ov:aa}
section
variable{Q:aH}(hP:Q.P=ae)(hh:Q.hint=ai)(hH: ∀f,Q.specH f=none)
include hP hh
theorem ani(ho:ay 6 Obj.val ov l)(hl:l.length<=1000000)(z:(l.map Obj.id).Nodup){av:aa}{s0:St}(hp:s0.get [] p=some (.cells [av,.map b,bv]))(O:p≠b)(hx: ∀e lc s,ac e 3= .ptr p 0->ac e 1= .Ge 1 1 0->lc.gen 1=1->lc.get 1 1=some [ov]->lc.gen 7=0->eL b s0 s->bR aa.str s b (kx l)->K (.exit 0) ⟨e,97,lc⟩ s):
 ∀(d c:List Obj) (e:ax) (lc:Ag.Loc) (s:St),l=c++d->eL b s0 s->bR aa.str s b (kx c)->
  ac e 3= .ptr p 0->ac e 1= .Ge 1 1 0->lc.gen 1=1->lc.get 1 1=some [ov]->lc.gen 7=0->ac e 21=ov->ac e 22= .int .i64 (l.length:Nat)->ac e 23= .int .i64 (c.length:Nat)->W Q 137 (.loop Ir) ⟨e,97,lc⟩ s K:=by
 intro d
 induction d with
 |nil=>
  intro c e lc s y C V D F g1 H g7 w j u;have Z:c.length=l.length:=by rw[y];simp
  have M:c=l:=by rw[y];simp
  refine bG ?_;simp only[go_sem,hP,hh,seval,Ir,j,u,Z,cD];exact hx _ _ _ (by simp only[sN,seval,D]) (by simp only[sN,seval,F]) g1 H g7 C (by rw[<-M];exact V)
 |cons o d ih=>
  intro c e lc s y C V D F g1 H g7 w j u;have Y:c.length<l.length:=by rw[y];simp
  have a1:l[c.length]? =some o:=by rw[y];simp
  have a0:=fun lc k=>ho.at gX.2.2.1 a1 lc k;have I:=dB (n:=c.length) (by omega);have R:cI o.id (kx c)=none:=by
   rw[AX,C4,sF];intro hc;rw[y,ff] at z;exact(wf.1 z).2.2 _ hc o.id (by simp) rfl
  have J:s.get [] p=some (.cells [av,.map b,bv]):=(C.old p O).trans hp;have U:bR aa.str s.top b (kx c):=V;have m:=vU jA yY U o.id o.val;have B:fe o.id o.val (kx c)=kx (c++[o]):=by
   rw[vj R];unfold kx;rw[ff];rfl
  rw[B] at m;simp only[Obj.val,Obj.cells] at m;refine bG ?_;simp only[go_sem,hP,hh,seval,Ir,D,w,j,u,Y,a0,I,J,C.mw,aW,aY,Obj.val,Obj.cells,m];refine ih (c++[o]) _ _ _ (by rw[y];simp) (C.putT _) ?_ ?_ ?_ ?_ ?_ ?_ ?_ ?_ ?_;show St.get _ [] b=_;rw[mY,aX,bS];rfl
  all_goals simp only[abc,dj,cY,ah,D,F,g1,H,g7,w,j,sA]
structure Lj (p g7:Nat) (c7:List aa) (ov:aa) (n i:Nat) (e:ax) (lc:Ag.Loc):Prop where
 h3:ac e 3= .ptr p 0
 h7:ac e 7= .Ge 7 g7 0
 q7:lc.gen 7=g7
 l7:lc.get 7 g7=some c7
 h36:ac e 36=ov
 h37:ac e 37= .int .i64 (n:Nat)
 h38:ac e 38= .int .i64 (i:Nat)
theorem anq{rv:aa}{z:List ag}(a0:ay 1 aG rv z)(c4:z.length<=900000){g7 i:Nat}{c7:List aa}{av:aa}{s0:St}(hp:s0.get [] p=some (.cells [av,.map b,bv]))(hM:bR aa.str s0 b (kx l))(J:p<lo)(b1:b<lo)(hx: ∀e lc s v,z.all (ei l)=true->cR 2 lo s v ((z.map (fJ l)).map aU)->(∀k,k<lo->s.get [] k=s0.get [] k)->s.gt<=s.aL->lo<=s.aL->ac e 8=v->Lj p g7 c7 ov n i e lc->K (.exit 4) ⟨e,97,lc⟩ s)(hc: ∀e lc s,z.all (ei l)=false->(∀k,k<lo->s.get [] k=s0.get [] k)->s.gt<=s.aL->lo<=s.aL->Lj p g7 c7 ov n i e lc->K (.exit 3) ⟨e,97,lc⟩ s):
 ∀(m c:List ag) (e:ax) (lc:Ag.Loc) (s:St) (v:aa),z=c++m->c.all (ei l)=true->cR 2 lo s v ((c.map (fJ l)).map aU)->(∀k,k<lo->s.get [] k=s0.get [] k)->s.gt<=s.aL->lo<=s.aL->ac e 8=v->ac e 46=rv->ac e 47= .int .i64 (z.length:Nat)->ac e 48= .int .i64 (c.length:Nat)->Lj p g7 c7 ov n i e lc->W Q 137 (.loop Cy) ⟨e,97,lc⟩ s K:=by
 intro m
 induction m with
 |nil=>
  intro c e lc s v H V U j B C Y D w u F;have b0:c.length=z.length:=by rw[H];simp
  have J:c=z:=by rw[H];simp
  refine bG ?_;simp only[go_sem,hP,hh,seval,Cy,w,u,b0,cD];rw[J] at U V;refine hx _ _ _ v V U j B C ?_ ⟨?_,?_,F.q7,F.l7,?_,?_,?_⟩
  all_goals simp only[sN,seval,Y,F.h3,F.h7,F.h36,F.h37,F.h38]
 |cons r m ih=>
  intro c e lc s v H V U j B C Y D w u F;have M:c.length<z.length:=by rw[H];simp
  have b8:z[c.length]? =some r:=by rw[H];simp
  have R:=fun lc k=>a0.at cH.2.2.1 b8 lc k;have Z:=dB (n:=c.length) (by omega);have I:s.get [] p=some (.cells [av,.map b,bv]):=(j p J).trans hp;have c3:bR aa.str s b (kx l):=(j b b1).trans hM;have d:=yW jA yY zP c3 r;rw[AX] at d;have vc:=U.ge;have e3:=F.h3;have e7:=F.h7;cases hq:dP r l with
  |none=>
   have hb:z.all (ei l)=false:=by
    rw[H,List.all_append,ju];have:ei l r=false:=by simp only[ei,pV,hq];rfl
    rw[this];simp
   rw[hq] at d;simp only[sF,oB] at d;refine bG ?_;simp only[go_sem,hP,hh,seval,Cy,aG,e3,D,w,u,M,R,I,aW,aY,d,fh];refine hc _ _ _ hb j B C ⟨?_,?_,?_,?_,?_,?_,?_⟩
   all_goals simp only[abK,dj,cY,ah,F.h3,F.h7,F.q7,F.l7,F.h36,F.h37,F.h38]
  |some q=>
   rw[hq] at d;simp only[kn,oB,Obj.val,Obj.cells] at d;cases O:an q.uP 1 with
   |false=>
    have hb:z.all (ei l)=false:=by
     rw[H,List.all_append,ju];have:ei l r=false:=by simp only[ei,pV,hq];exact O
     rw[this];simp
    refine bG ?_;simp only[go_sem,hP,hh,seval,Cy,aG,e3,D,w,u,M,R,I,aW,aY,d,fh,O];refine hc _ _ _ hb j B C ⟨?_,?_,?_,?_,?_,?_,?_⟩
    all_goals simp only[abK,dj,cY,ah,F.h3,F.h7,F.q7,F.l7,F.h36,F.h37,F.h38]
   |true=>
    have a9:ei l r=true:=by simp only[ei,pV,hq];exact O
    have a8:aU (fJ l r)= .agg [.int .i64 q.x,.int .i64 q.y]:=by simp only[Gi hq,aU]
    obtain⟨v',s1,a1,a2,a3,a4,a5,a6,a7⟩:=Eb (t:=218) pB.1 rfl (by decide) (s:=s) (y:=.list 2 [aU (fJ l r)] .GE) (ys:=[aU (fJ l r)]) U (by simp only[afo,eE]) (by
     simp only[ce,bH,bn];omega) C B
    rw[a8] at a1;refine bG ?_;simp only[go_sem,hP,hh,seval,Cy,aG,e3,Y,D,w,u,M,R,I,aW,aY,d,fh,O];simp only[go_sem,hP,hh,seval,Y,vc,u,Z,a1,a7,bj,bg,aZ,bf,evc];refine ih (c++[r]) _ _ s1 v' (by rw[H];simp) ?_ ?_ (fun k O=>(a6 k O).trans (j k O)) a5 (by omega) ?_ ?_ ?_ ?_ ⟨?_,?_,?_,?_,?_,?_,?_⟩;rw[List.all_append,V,ju,a9];rfl;rw[ff,ff];exact a2
    all_goals simp only[abc,dj,cY,ah,D,w,F.h3,F.h7,F.q7,F.l7,F.h36,F.h37,F.h38,sA]
end
def oY(l:List Obj)(o:Obj):Bool:=match zu l o with|some r=> !kz r|none=>false
def ph(l:List Obj)(o:Obj):Bool:=(tY l o).isSome
structure wz (l pre:List Obj) (p a b lo:Nat) (s0 s:St) (L:List (ag×aa)) (bv:aa):Prop where
 hp:s.get [] p=some (.cells [.map a,.map b,bv])
 ma:bR aa.str s a L
 mb:bR aa.str s b (kx l)
 ids:L.map (·.1)=(pre.filter (ph l)).map Obj.id
 rings: ∀x∈L, ∃o∈pre,x.1=o.id/\ ∃r,tY l o=some r/\ay 2 aU x.2 r
 bad:cR 1 lo s bv (((pre.filter (oY l)).map Obj.id).map aG)
 old: ∀k,k<lo->k≠p->k≠a->s.get [] k=s0.get [] k
 mw:s.gt<=s.aL
 nx:lo<=s.aL
variable{α:Type}
def tm{f:α->Bool}{l:List α}{x:α}(h:f x=true):(l++[x]).filter f=l.filter f++[x]:=by
 rw[DR,K9 h];rfl
def o9{f:α->Bool}{l:List α}{x:α}(h:f x=false):(l++[x]).filter f=l.filter f:=by
 rw[DR,G5 (by rw[h];exact K5)];simp
variable{a:Nat}{o:Obj}{s s':St}
def wz.skip{c:List Obj}{s0:St}{L:List (ag×aa)}(I:wz l c p a b lo s0 s L bv)(U:ph l o=false)(R:oY l o=false)(d: ∀k,k<s.aL->s'.get [] k=s.get [] k)(H:s'.gt<=s'.aL)(Y:s.aL<=s'.aL)(F:p<lo)(O:a<lo)(M:b<lo):wz l (c++[o]) p a b lo s0 s' L bv:=by
 have V:=I.nx;refine⟨(d p (by omega)).trans I.hp,(d a (by omega)).trans I.ma,(d b (by omega)).trans I.mb,by rw[o9 U];exact I.ids,fun x D=>?_,?_,fun k J C B=>(d k (by omega)).trans (I.old k J C B),H,by omega⟩;obtain⟨z,m,j⟩:=I.rings x D;exact⟨z,Lc _ m,j⟩;rw[o9 R];rcases I.bad with h|⟨m,k,j,y,w,u⟩
 exact .inl h;exact .inr ⟨m,k,j,(d k u).trans y,w,by omega⟩
section
variable{Q:aH}(hP:Q.P=ae)(hh:Q.hint=ai)(hH: ∀f,Q.specH f=none)
include hP hh
theorem am0(b0:Q.spec 229=some qe)(ho:ay 6 Obj.val ov l)(hg: ∀o∈l,o.Al)(hl:l.length<=900000)(hr: ∀o∈l,o.gE.length<=900000)(d5:(l.map Obj.id).Nodup)(O:p<lo)(c6:a<lo)(b8:b<lo)(d2:p≠a)(e9:p≠b)(f3:a≠b){s0:St}(M: ∀e lc s L bv,ac e 3= .ptr p 0->wz l l p a b lo s0 s L bv->K (.exit 2) ⟨e,97,lc⟩ s):
 ∀(z c:List Obj) (e:ax) (lc:Ag.Loc) (s:St) (L:List (ag×aa)) (bv:aa),l=c++z->wz l c p a b lo s0 s L bv->
  ac e 3= .ptr p 0->ac e 36=ov->ac e 37= .int .i64 (l.length:Nat)->ac e 38= .int .i64 (c.length:Nat)->W Q 137 (.loop Cz) ⟨e,97,lc⟩ s K:=by
 intro z
 induction z with
 |nil=>
  intro c e lc s L bv h1 I h3 U C B;have f2:c.length=l.length:=by rw[h1];simp
  have O:c=l:=by rw[h1];simp
  refine bG ?_;simp only[go_sem,hP,hh,seval,Cz,C,B,f2,cD];exact M _ _ _ L bv (by simp only[sN,seval,h3]) (by rw[O] at I;exact I)
 |cons o z ih=>
  intro c e lc s L bv h1 I h3 U C B;have d7:c.length<l.length:=by rw[h1];simp
  have e5:l[c.length]? =some o:=by rw[h1];simp
  have d4:o∈l:=eP e5;have go:=hg o d4;have rc:=go.gE.ge;have f1:=go.gE.lenS cH;have e0:=fun lc k=>ho.at gX.2.2.1 e5 lc k;have Z:=dB (n:=c.length) (by omega);have next: ∀(e':ax) (d0:Ag.Loc) (s':St) (L':List (ag×aa)) (D:aa),wz l (c++[o]) p a b lo s0 s' L' D->ac e' 3= .ptr p 0->ac e' 36=ov->ac e' 37= .int .i64 (l.length:Nat)->ac e' 38= .int .i64 (c.length:Nat)->W Q 137 (.loop Cz) ⟨(e'.set 95 (some (.int .i64 ((c.length+1:Nat):Int)))).set 38 (some (.int .i64 ((c.length+1:Nat):Int))),97,d0⟩ s' K:=fun e' d0 s' L' D I' e3 g0 f6 V=>by
   refine ih (c++[o]) _ _ s' L' D (by rw[h1];simp) I' ?_ ?_ ?_ ?_
   all_goals simp only[sN,seval,e3,g0,f6,sA,bV]
  cases hk:an o.uP 3 with
  |false=>
   have j:zu l o=none:=by unfold zu;rw[hk];rfl
   have J:ph l o=false:=by unfold ph tY;rw[j];rfl
   have H:oY l o=false:=by unfold oY;rw[j]
   refine bG ?_;simp only[go_sem,hP,hh,seval,Cz,h3,U,C,B,d7,e0,Z,hk,Obj.val,Obj.cells];refine next _ _ s L bv (I.skip J H (fun _ _=>rfl) I.mw (br _) O c6 b8) ?_ ?_ ?_ ?_
   all_goals simp only[sN,seval,h3,U,C,B]
  |true=>
   refine W.loopE ?_;simp only[go_sem,hP,hh,seval,Cz,h3,U,C,B,d7,e0,hk,Obj.val,Obj.cells,rc,f1];have nx:=I.nx;refine anq hP hh go.gE (hr o d4) (c7:=[.str o.id,.int .i64 o.uP,.int .i64 o.x,.int .i64 o.y,o.refsV,o.tagsV]) (p:=p) (b:=b) (lo:=s.aL) (n:=l.length) (i:=c.length) (ov:=ov) (av:=.map a) (bv:=bv) (s0:=s) I.hp I.mb (by omega) (by omega) ?_ ?_ o.gE [] _ _ s .AL rfl rfl (.inl ⟨rfl,rfl⟩) (fun _ _=>rfl) I.mw (br _) ?_ ?_ ?_ ?_ ⟨?_,?_,rfl,?_,?_,?_,?_⟩
   ·intro e1 c9 s1 v R hO w m a9 h8 F
    have j:zu l o=some (o.gE.map (fJ l)):=by unfold zu;rw[hk,R];rfl
    have vc:=hO.ge;have Y:=Ky hO.isL;have e3:=F.h3;have e7:=F.h7;have f5:=F.q7;have c8:=F.l7;have V:=F.h38;obtain⟨g,b1⟩:=ct (c9.gen 7);rw[<-f5,b1] at e7 c8;have a0:s1.get [] p=some (.cells [.map a,.map b,bv]):=(w p (by omega)).trans I.hp;cases hs:kz (o.gE.map (fJ l)) with
    |false=>
     have J:ph l o=false:=by unfold ph tY;rw[j];simp[hs]
     have H:oY l o=true:=by unfold oY;rw[j];simp[hs]
     rw[hs] at Y;have e4:cR 1 lo s1 bv (((c.filter (oY l)).map Obj.id).map aG):=by
      rcases I.bad with h|⟨Y,k,q2,q3,q4,q5⟩
      exact .inl h;exact .inr ⟨Y,k,q2,(w k q5).trans q3,q4,by omega⟩
     have e2:((c.filter (oY l)).map Obj.id).length<=900000:=by
      rw[ce]
      have:=kT (oY l) c;omega
     obtain⟨D,s2,a1,a2,a3,a4,a5,a6,a7,a8⟩:=LG (t:=25) cH.1 rfl (by decide) (enc:=aG) e4 o.id e2 (by omega) m;simp only[aG] at a1;have g1:=e4.ge;obtain⟨u,hu⟩:=ct (s1.Gt s2);rw[hu] at a2 a5 a6;have un:u.aL=s2.aL:=by rw[<-hu];rfl
     have e6:u.get [] p=some (.cells [.map a,.map b,bv]):=(a6 p O).trans a0;have d:=(eL.refl a5:eL p u u).putT (some (.cells [.map a,.map b,D]));simp only[go_sem,hP,hh,seval,h8,vc,b0,Y];refine iT m ?_;have d6:=kZ m;simp only[go_sem,hP,hh,EU,Ip,Iq,seval,e3,e7,c8,b1,a0,aW,aY,g1,d6,aG,bj,bg,aZ,bf,evc];simp only[go_sem,hP,hh,EU,Ip,Iq,seval,aG,a1,a3,a4,a7,a8,hu,e6,dn,dp,V,Z];refine next _ _ _ L D ⟨?_,?_,?_,?_,fun x M=>?_,?_,fun k hk J H=>?_,d.mw,?_⟩ ?_ ?_ ?_ ?_
     rw[mY,aX,bS];rfl;exact(d.old a d2.symm).trans ((a6 a c6).trans ((w a (by omega)).trans I.ma));exact(d.old b e9.symm).trans ((a6 b b8).trans ((w b (by omega)).trans I.mb));rw[o9 J];exact I.ids;obtain⟨o',Y,q2⟩:=I.rings x M;exact⟨o',Lc _ Y,q2⟩;rw[tm H,ff];rcases a2 with⟨c1,c2⟩|⟨c1,k,c2,c3,c4,c5⟩
     simp at c2;exact .inr ⟨c1,k,c2,(d.old k (by omega)).trans c3,c4,by rw[d.aL];exact c5⟩;exact(d.old k J).trans ((a6 k hk).trans ((w k (by omega)).trans (I.old k hk J H)));rw[d.aL,un];omega
     all_goals simp only[sN,seval,F.h3,F.h36,F.h37,F.h38]
    |true=>
     have J:ph l o=true:=by unfold ph tY;rw[j];simp[hs]
     have e8:tY l o=some (o.gE.map (fJ l)):=by unfold tY;rw[j];simp[hs]
     have H:oY l o=false:=by unfold oY;rw[j];simp[hs]
     rw[hs] at Y;have f4:bR aa.str s1.top a L:=(w a (by omega)).trans I.ma;have f0:cI o.id L=none:=by
      cases hc:cI o.id L with
      |none=>rfl
      |some v'=>
       obtain⟨o',c1,c2,_⟩:=I.rings _ (CM hc);have c2:o.id=o'.id:=c2;rw[h1,ff] at d5;exact absurd c2.symm ((wf.1 d5).2.2 o'.id (List.mem_map_of_mem c1) o.id (by simp))
     have d1:=vU jA CU f4 o.id v;rw[vj f0] at d1;have d:=(eL.refl m:eL a s1 s1).putT (some (.map (dw aa.str 0 (L++[(o.id,v)])) (L++[(o.id,v)]).length));simp only[go_sem,hP,hh,seval,h8,vc,b0,Y];refine iT m ?_;simp only[go_sem,hP,hh,EU,Ip,Iq,seval,e3,e7,c8,b1,h8,vc,a0,aW,aY,d1,V,Z];refine next _ _ _ (L++[(o.id,v)]) bv ⟨?_,?_,?_,?_,fun x M=>?_,?_,fun k hk J H=>?_,d.mw,?_⟩ ?_ ?_ ?_ ?_
     exact(d.old p d2).trans a0;show St.get _ [] a=_;rw[mY,aX,bS];rfl;exact(d.old b f3.symm).trans ((w b (by omega)).trans I.mb);rw[tm J,ff,ff,I.ids];rfl;rcases lj.1 M with M|M
     obtain⟨o',Y,q2⟩:=I.rings x M;exact⟨o',Lc _ Y,q2⟩;have M:=List.mem_singleton.1 M;subst M;exact⟨o,by simp,rfl,_,e8,hO.isL⟩;rw[o9 H];rcases I.bad with h|⟨c1,k,c2,c3,c4,c5⟩
     exact .inl h;exact .inr ⟨c1,k,c2,(d.old k (by omega)).trans ((w k c5).trans c3),c4,by rw[d.aL];omega⟩;exact(d.old k H).trans ((w k (by omega)).trans (I.old k hk J H));rw[d.aL];omega
     all_goals simp only[sN,seval,F.h3,F.h36,F.h37,F.h38]
   ·intro e1 c9 s1 R w m a9 F
    have j:zu l o=none:=by unfold zu;rw[R,gN];rfl
    have J:ph l o=false:=by unfold ph tY;rw[j];rfl
    have H:oY l o=false:=by unfold oY;rw[j]
    have V:=F.h38;simp only[go_sem,hP,hh,seval,V,Z];refine next _ _ s1 L bv (I.skip J H w m a9 O c6 b8) ?_ ?_ ?_ ?_
    all_goals simp only[sN,seval,F.h3,F.h36,F.h37,F.h38]
   all_goals simp only[sL,seval,h3,U,C,B,bn]
   all_goals rfl
end
section
variable{Q:aH}(hP:Q.P=ae)(hh:Q.hint=ai)(hH: ∀f,Q.specH f=none)
include hP hh hH
theorem Yp(O:Q.spec 31=some jK)(F:Q.spec 229=some qe)(H:Q.spec 137=none)(u:Q.specW 137=none)(m:ay 6 Obj.val ov l)(hg: ∀o∈l,o.Al)(hl:l.length<=900000)(hr: ∀o∈l,o.gE.length<=900000)(hv:dD l=true)(hm:s.gt<=s.aL):
 ∃v s',aq Q 137 [.agg [ov]] s v s'/\(v= .ptr (s.aL+2) 0/\ ∃c L bv,wz l l (s.aL+2) s.aL (s.aL+1) (s.aL+3) c s' L bv/\ ∀k,k<s.aL->c.get [] k=s.get [] k):=by
 have a1:=ajJ;have B:=m.lenS gX;have C:=m.ge;have J:=m.scal;have w:=yK hv;have Y:=A0 m hg (by omega);rw[hv] at Y;obtain⟨z,j⟩:=ct ((s.new (.map [] 0)).new (.map [] 0));have U:z.aL=s.aL+2:=by rw[<-j];rfl
 have Z:(s.new (.map [] 0)).aL=s.aL+1:=rfl;obtain⟨y,d⟩:=ct (z.new (.cells [.map s.aL,.map (s.aL+1),.AL]));have yn:y.aL=s.aL+3:=by rw[<-d];show z.aL+1=_;omega
 have ym:y.gt<=y.aL:=by rw[<-d,<-j];exact cq (cq (cq hm))
 have V:y.get [] (s.aL+2)=some (.cells [.map s.aL,.map (s.aL+1),.AL]):=by rw[<-d,<-U];exact cW
 have ya:y.get [] s.aL=some (.map [] 0):=by rw[<-d,cz (by omega),<-j,cz (by omega)];exact cW
 have yb:y.get [] (s.aL+1)=some (.map [] 0):=by rw[<-d,cz (by omega),<-j,<-Z];exact cW
 have yo: ∀k,k<s.aL->y.get [] k=s.get [] k:=fun k M=>by rw[<-d,cz (by omega),<-j,cz (by omega),cz M]
 refine aq.ofWZ hP hH ahY H u ?_;refine co ?_;simp only[go_sem,hP,hh,seval,B,C,J,O,Y,m7,wJ,Ei,Z,j,U,d,bj,bg,aZ,bf,evc];refine ani hP hh m (by omega) w (p:=s.aL+2) (b:=s.aL+1) (av:=.map s.aL) (bv:=.AL) (s0:=y) V (by omega) ?_ l [] _ _ y rfl (.refl ym) yb ?_ ?_ ?_ ?_ ?_ ?_ ?_ ?_
 ·intro e lc c R r1 g1 l1 g7 D hM
  have I0:wz l [] (s.aL+2) s.aL (s.aL+1) (s.aL+3) c c [] .AL:=by
   refine⟨(D.old _ (by omega)).trans V,(D.old _ (by omega)).trans ya,hM,rfl,fun x hx=>(by cases hx),.inl ⟨rfl,rfl⟩,fun _ _ _ _=>rfl,D.mw,by rw[D.aL];omega⟩
  simp only[go_sem,hP,hh,seval,r1,l1,g1,B,C];refine am0 hP hh F m hg hl hr w (p:=s.aL+2) (a:=s.aL) (b:=s.aL+1) (lo:=s.aL+3) (by omega) (by omega) (by omega) (by omega) (by omega) (by omega) (s0:=c) ?_ l [] _ _ c [] .AL rfl I0 ?_ ?_ ?_ ?_;intro e2 a0 s2 L bv R I;simp only[go_sem,hP,hh,seval,R];exact⟨_,rfl,rfl,c,L,bv,I,fun k M=>(D.old k (by omega)).trans (yo k M)⟩
  all_goals simp only[sN,seval,R,bn]
  all_goals rfl
 all_goals simp only[abc,alb,ah,bQ]
 all_goals rfl
end
def arZ:ae.underlying 214=some (.map 9 218):=by kernel_rfl
variable{c2:List aa}{bx:Nat}{v:aa}
section
variable{Q:aH}(hP:Q.P=ae)(hh:Q.hint=ai)(hH: ∀f,Q.specH f=none)
include hP hh hH
theorem acD(d:Q.spec 139=none)(c:Q.specW 139=none)(k:ag)(j:v.ge=true)(s:St):aq Q 139 [.str k,v] s (.bool true) s:=by
 refine aq.ofZ hP hH ah1 d c rfl ?_;refine co ?_;simp only[go_sem,hP,hh,seval]
theorem anr(hK: ∀i,1000000<=Q.kmax i)(u:Q.spec 139=none)(D:Q.specW 139=none){it:Nat}{L:List (ag×aa)}(a9:L.length<1000000)(a8:mh L)(c1:it<lo)(c2:a<lo)(d1:a≠it){s0:St}{C:Ex->Fr->St->Prop}(hx: ∀e lc s ov (c:List ag),c.Perm (L.map (·.1))->kW 1 s ov (c.map aG)->(∀k,k<lo->k≠it->s.get [] k=s0.get [] k)->lo<=s.aL->s.gt<=s.aL->(∀r,j1 ov=some r->lo<=r)->ac e 5=ov->ac e 2= .ptr bx 0->C (.exit 0) ⟨e,30,lc⟩ s):
 ∀(U:Nat) (seen:List Nat) (e:ax) (lc:Ag.Loc) (s:St) (ov:aa) (c:List ag),U+seen.length=L.length->jv aa.str s it a L seen->c=seen.map (fun b=>(L.getD b ([],.AL)).1)->kW 1 s ov (c.map aG)->(∀k,k<lo->k≠it->s.get [] k=s0.get [] k)->lo<=s.aL->s.gt<=s.aL->(∀r,j1 ov=some r->lo<=r)->ac e 5=ov->ac e 1= .func (.func 139) [] []->ac e 2= .ptr bx 0->ac e 12= .ptr it 0->W Q 138 (.loop Nx) ⟨e,30,lc⟩ s C:=by
 intro U
 induction U with
 |zero=>
  intro seen e lc s ov c hc I j O z J w d R Y V m;rcases I.aL Q.ch Q.kmax (fun i=>by have:=hK i;omega) with⟨hp,hn⟩|⟨b,p,s1,hb,hnm,hlt,_⟩
  refine bG ?_;simp only[go_sem,hP,hh,seval,Nx,m,yG,hn,fh,bj,bg,aZ,bf,evc];refine hx _ _ s ov c ?_ O z J w d (by simp only[sN,seval,R]) (by simp only[sN,seval,V]);rw[j];refine(hp.map _).trans ?_;have:(ix L.length).map (fun b=>(L.getD b ([],.AL)).1)=L.map (·.1):=by
   refine List.ext_getElem (by simp) fun i h1 h2=>?_;have h2:i<L.length:=by simpa using h2
   simp[nA,h2]
  rw[this];omega
 |succ U ih=>
  intro seen e lc s ov c hc I j O z J w d R Y V m;rcases I.aL Q.ch Q.kmax (fun i=>by have:=hK i;omega) with⟨hp,hn⟩|⟨b,p,s1,hb,hnm,hlt,hn,ho,hi,hn1,hm1⟩
  have:=hp.length_eq;rw[List.length_range] at this;omega
  ·have I1:=I.go d1 hb hnm ho hi
   have a0:=jv.entry hi I1.hm hb;have H:s1.gt<=s1.aL:=by rw[hm1,hn1];exact dh s it none w
   have Z:=O.ge;obtain⟨r,B⟩:=a8 p (eP hb);have pc:=B.ge;have a7:kW 1 s1 ov (c.map aG):=O.mono (fun r B=>ho r (by have:=d r B;omega)) (by omega);have M:c.length<1000000:=by rw[j,ce];omega
   obtain⟨s3,a1,a2,a3,a4,a5,a6⟩:=LH (t:=25) cH.1 rfl (by decide) (aG p.1) (fun y hy=>by
    obtain⟨x,_,rfl⟩:=dy.1 hy;rfl) (by rw[ce];exact M) H a7
   simp only[aG] at a1;refine bG ?_;simp only[go_sem,hP,hh,seval,Nx,R,Y,m,yG,hn,EH,a0,fh,pc,u,bj,bg,aZ,bf,evc];refine cG.of (acD hP hh hH u D p.1 pc s1) (by decide) ?_;simp only[go_sem,hP,hh,seval,R,Z,a1,iU,S8,bj,bg,aZ,bf,evc];refine ih (seen++[b]) _ _ s3 (.arr 1 s1.aL 0 ((c.map aG).length+1) ((c.map aG).length+1)) (c++[p.1]) (by rw[cJ];simp only[bH,bn];omega) ⟨?_,?_,I1.nd,I1.lt⟩ ?_ ?_ (fun k hk F=>?_) (by omega) a5 (fun r B=>?_) ?_ ?_ ?_ ?_;rw[a6 it (by omega) (fun e=>by have:=d it e;omega)];exact I1.hi;exact(a6 a (by omega) (fun e=>by have:=d a e;omega)).trans I1.hm;rw[ff,<-j];simp[nA,hb];rw[ff];exact a2;rw[a6 k (by omega) (fun e=>by have:=d k e;omega),ho k F];exact z k hk F;injection B with B
   omega
   all_goals simp only[sN,seval,Y,V,m,ce]
theorem aq7(hK: ∀i,1000000<=Q.kmax i)(a2:Q.spec 139=none)(I:Q.specW 139=none)(w:Q.spec 230=none)(B:Q.specW 230=some Dv)(a3:Q.spec 138=none)(J:Q.specW 138=none){L:List (ag×aa)}(a0:L.length<1000000)(a1:mh L)(hp:s.get [] p=some (.cells (.map a::c2)))(ha:bR aa.str s a L)(pl:p<s.aL)(al:a<s.aL)(a6:s.gt<=s.aL):
 ∃v s',aq Q 138 [.ptr p 0,.func (.func 139) [] []] s v s'/\ ∃c:List ag,c.Perm (L.map (·.1))/\kW 1 s' v (c.map aG)/\(∀k,k<s.aL->s'.get [] k=s.get [] k)/\s.aL<=s'.aL/\s'.gt<=s'.aL/\(∀r,j1 v=some r->s.aL<=r):=by
 obtain⟨z,O⟩:=ct (s.new (.cells [.ptr p 0]));have zn:z.aL=s.aL+1:=by rw[<-O];rfl
 have zb:z.get [] s.aL=some (.cells [.ptr p 0]):=by rw[<-O];exact cW
 have zo: ∀k,k<s.aL->z.get [] k=s.get [] k:=fun k V=>by rw[<-O,cz V]
 have zm:z.gt<=z.aL:=by rw[<-O];exact cq a6
 have zp:=(zo p pl).trans hp;have za:bR aa.str z a L:=(zo a al).trans ha;have U:=jv.new arZ za;have hI:=jv.begin za (by omega);obtain⟨u,hu⟩:=ct (z.new (.iter (some a) L.length [] L.length));rw[hu] at U hI;have un:u.aL=s.aL+2:=by rw[<-hu];show z.aL+1=_;omega
 have uo: ∀k,k<z.aL->u.get [] k=z.get [] k:=fun k V=>by rw[<-hu,cz V]
 have um:u.gt<=u.aL:=by rw[<-hu];exact cq zm
 refine aq.ofWZ hP hH ahZ a3 J ?_;refine co ?_;simp only[go_sem,hP,hh,seval,L9,O,zb,zp,aW,aY,H3,U,bj,bg,aZ,bf,evc];refine anr hP hh hH hK a2 I (it:=z.aL) (a:=a) (lo:=s.aL+2) (bx:=s.aL) a0 a1 (by omega) (by omega) (by omega) (s0:=u) ?_ L.length [] _ _ u .AL [] (by simp) hI rfl (.inl ⟨rfl,rfl⟩) (fun _ _ _=>rfl) (by omega) um (fun r hr=>by cases hr) ?_ ?_ ?_ ?_;intro e lc y ov c d hO Y a9 C R h5 r2;have M:=hO.ge;have old: ∀k,k<s.aL->y.get [] k=s.get [] k:=fun k V=>(Y k (by omega) (by omega)).trans ((uo k (by omega)).trans (zo k V));have b8:c.length<1000000:=by rw[d.length_eq,ce];exact a0
 simp only[go_sem,hP,hh,seval,h5,r2,M,w,rR];have F: ∃v D,aq Q 230 [ov,.func (.func 231) [] [.ptr s.aL 0]] y v D/\(v= .tup []/\ ∃m:List ag,m.Perm (L.map (·.1))/\kW 1 D ov (m.map aG)/\(∀k,k<s.aL->D.get [] k=s.get [] k)/\s.aL<=D.aL/\D.gt<=D.aL):=by
  rcases hO with⟨rfl,h0⟩|⟨h0,k,rfl,hg,a7⟩
  have h0:=xT.1 h0;subst h0;exact⟨_,y,aq.specW0 w (hH _) B rfl,rfl,[],d,.inl ⟨rfl,rfl⟩,old,by omega,C⟩;have b0:=R k rfl;have gb:y.get [] s.aL=some (.cells [.ptr p 0]):=(Y _ (by omega) (by omega)).trans ((uo _ (by omega)).trans zb);have gp:y.get [] p=some (.cells (.map a::c2)):=(old p pl).trans hp;have ga:y.get [] a=some (.map (dw aa.str 0 L) L.length):=(old a al).trans ha;have a8:aQ (c.map aG).length (c.map aG).length=true:=Nat.beq_refl _;have Z:bw (c.map aG).length 1000000=true:=cP (by rw[ce];omega);have a4:gm (y.get []) (GI s.aL (c.map aG).length (aF (c.map aG)))=some (.agg ((vO L c).map aG)):=by
   rw[AA];simp only[afo,GI,gm,gb,au,PK,Gm,gp,OP,ga,aeQ a1,t6,Z,cw,LP]
  have a5:=(Qc L c).trans d;have H:((vO L c).map aG).length=(c.map aG).length:=by rw[ce,ce,(Qc L c).length_eq]
  refine⟨_,_,aq.specW (n:=k) (cs':=(vO L c).map aG) w (hH _) B rfl hg a4,rfl,vO L c,a5,.inr ⟨fun e=>?_,k,?_,?_,a7⟩,fun j hj=>?_,?_,dh y k _ C⟩;rw[e] at H;exact h0 (uv H.symm);rw[H];rw[aX,bS,AA];rfl;rw[aX,bN.2 (by omega:j≠k)];exact old j hj;show s.aL<=y.aL;omega
 refine cG.ex F (by decide) ?_;rintro v D ⟨rfl,m,b1,b2,b3,b4,b5⟩;simp only[go_sem,hP,hh,seval,h5,M];exact⟨_,rfl,m,b1,b2,b3,b4,b5,fun r hr=>by have:=R r hr;omega⟩
 all_goals simp only[sN,seval]
end
variable{xs:List aa}
def BL{t:TypeId}{E:EI}{sz:Nat}(F:lV ae t=some E)(B:E.n=sz)(D:E.b<=88){y x:aa}(h:cR sz lo s ov xs)(z:eE [] E.g E.n y s=some [x])(m:xs.length<=900000)(d:lo<=s.aL)(C:s.gt<=s.aL):
 ∃c s',fF ae [] t ov y false s=some (c,s')/\cR sz lo s' c (xs++[x])/\c.cells=[c]/\s'.aL=s.aL+1/\s'.gt<=s'.aL/\(∀n,n<s.aL->s.get [] n≠some .tok->s'.get [] n=s.get [] n)/\(∀n,n<lo->s'.get [] n=s.get [] n):=by
 obtain⟨s',O,M,R,J,I,w⟩:=Sh F B D h z (by simp) (by rw[List.length_singleton];omega) C;refine⟨_,s',O,.inr ⟨by simp,s.aL,rfl,M,d,by omega⟩,rfl,J,I,fun n u H=>w n u fun k j e=>?_,fun n u=>w n (by omega) fun k j e=>?_⟩;subst e;exact H (h.token j).2.2
 have:=(h.token j).1;omega
def fC(k:Int)(c:List ag):aa:=.agg [.str [],.int .i64 k,.list 1 (c.map aG) .GE]
structure oV (s s':St):Prop where
 old: ∀n,n<s.aL->s.get [] n≠some .tok->s'.get [] n=s.get [] n
 nx:s.aL<=s'.aL
 mw:s'.gt<=s'.aL
def oV.refl(h:s.gt<=s.aL):oV s s:=⟨fun _ _ _=>rfl,br _,h⟩
def oV.app{s1 s2:St}(h:oV s s1)(w:s2.aL=s1.aL+1)(d:s2.gt<=s2.aL)(j: ∀n,n<s1.aL->s1.get [] n≠some .tok->s2.get [] n=s1.get [] n):oV s s2:=by
 have u:=h.nx;refine⟨fun n m c=>?_,by omega,d⟩;have e:=h.old n m c;rw[j n (by omega) (by rw[e];exact c),e]
variable{S:List ag}
section
variable{Q:aH}(hP:Q.P=ae)(hh:Q.hint=ai)
include hP hh
theorem am1{pv:aa}{B:List ag}(hB:ay 1 aG bv B)(hl:B.length<=900000){s0:St}(hx: ∀e lc s ov,cR 3 lo s ov (B.map fun i=>fC 3 [i])->oV s0 s->lo<=s.aL->ac e 3=pv->ac e 4=ov->K (.exit 0) ⟨e,76,lc⟩ s):
 ∀(d c:List ag) (e:ax) (lc:Ag.Loc) (s:St) (ov:aa),B=c++d->cR 3 lo s ov (c.map fun i=>fC 3 [i])->oV s0 s->lo<=s.aL->ac e 3=pv->ac e 4=ov->ac e 19=bv->ac e 20= .int .i64 (B.length:Nat)->ac e 21= .int .i64 (c.length:Nat)->W Q 60 (.loop Ow) ⟨e,76,lc⟩ s K:=by
 intro d
 induction d with
 |nil=>
  intro c e lc s ov z F H u Y I w m j;have R:c.length=B.length:=by rw[z];simp
  have M:c=B:=by rw[z];simp
  refine bG ?_;simp only[go_sem,hP,hh,seval,Ow,m,j,R,cD];rw[M] at F;exact hx _ _ _ ov F H u (by simp only[sN,seval,Y]) (by simp only[sN,seval,I])
 |cons x d ih=>
  intro c e lc s ov z F H u Y I w m j;have O:c.length<B.length:=by rw[z];simp
  have V:B[c.length]? =some x:=by rw[z];simp
  have U:=fun lc k=>hB.at cH.2.2.1 V lc k;have D:=dB (n:=c.length) (by omega);have C:=F.ge;obtain⟨J,s1,a1,a2,a3,a4,a5,a6,a7⟩:=BL (t:=35) j6.1 rfl (by decide) (s:=s) (y:=.list 3 [fC 3 [x]] .GE) (x:=fC 3 [x]) F (by simp only[afo,eE]) (by rw[ce];omega) u H.mw;have Z:=a2.ge;simp only[fC,fy,uB,aG] at a1;refine bG ?_;simp only[go_sem,hP,hh,seval,Ow,aG,I,w,m,j,O,U,D,C,bj,bg,aZ,bf,evc];simp only[go_sem,hP,hh,seval,aG,I,j,D,C,a1,a3,bj,bg,aZ,bf,evc];refine ih (c++[x]) _ _ s1 J (by rw[z];simp) (by rw[ff];exact a2) (H.app a4 a5 a6) (by omega) ?_ ?_ ?_ ?_ ?_
  all_goals simp only[sN,seval,Y,w,m,sA]
def HP(L:List (ag×aa))(q:ag×ag):Bool:=an (qa (mB L q.1) (mB L q.2)) 0
def lX(L:List (ag×aa))(l:List (ag×ag)):List aa:=(l.filter (HP L)).map fun q=>fC 4 [q.1,q.2]
omit hP hh in
theorem QH(L:List (ag×aa))(a b:List (ag×ag)):lX L (a++b)=lX L a++lX L b:=by
 unfold lX;rw[DR,ff]
theorem ano(M:Q.spec 141=some zt){r:Nat}{L:List (ag×aa)}(b0:mh L)(hl:S.length<=900000){i:Nat}(hi:i<S.length){x:ag}(c8:S[i]? =some x){bse:List aa}(d0:bse.length+S.length<=900000){s0:St}(hp:s0.get [] p=some (.cells (.map a::c2)))(ha:bR aa.str s0 a L)(hr:s0.get [] r=some (.cells (S.map aG)))(pl:p<s0.aL)(al:a<s0.aL)(rl:r<s0.aL)(hx: ∀e lc s ov,cR 3 lo s ov (bse++lX L ((S.drop (i+1)).map fun y=>(x,y)))->oV s0 s->lo<=s.aL->ac e 3= .ptr p 0->ac e 4=ov->ac e 7= .arr 1 r 0 S.length S.length->ac e 36= .arr 1 r 0 S.length S.length->ac e 37= .int .i64 (S.length:Nat)->ac e 38= .int .i64 (i:Nat)->K (.exit 4) ⟨e,76,lc⟩ s):
 ∀(j c:List ag) (e:ax) (lc:Ag.Loc) (s:St) (ov:aa),S.drop (i+1)=c++j->cR 3 lo s ov (bse++lX L (c.map fun y=>(x,y)))->oV s0 s->lo<=s.aL->ac e 3= .ptr p 0->ac e 4=ov->ac e 7= .arr 1 r 0 S.length S.length->ac e 9= .str x->ac e 36= .arr 1 r 0 S.length S.length->ac e 37= .int .i64 (S.length:Nat)->ac e 38= .int .i64 (i:Nat)->ac e 46= .arr 1 r (i+1) (S.length-(i+1)) (S.length-(i+1))->ac e 47= .int .i64 ((S.length-(i+1):Nat):Int)->ac e 48= .int .i64 (c.length:Nat)->W Q 60 (.loop CH) ⟨e,76,lc⟩ s K:=by
 intro j;have a8:(S.drop (i+1)).length=S.length-(i+1):=List.length_drop
 induction j with
 |nil=>
  intro c e lc s ov Y Z C B J h4 h7 I H F D w u d;have c6:c.length=S.length-(i+1):=by rw[<-a8,Y];simp
  have c5:c=S.drop (i+1):=by rw[Y];simp
  refine bG ?_;simp only[go_sem,hP,hh,seval,CH,u,d,c6,cD];rw[c5] at Z;refine hx _ _ _ ov Z C B ?_ ?_ ?_ ?_ ?_ ?_
  all_goals simp only[sN,seval,J,h4,h7,H,F,D]
 |cons y j ih=>
  intro c e lc s ov Y Z C B J h4 h7 I H F D w u d;have U:c.length<S.length-(i+1):=by rw[<-a8,Y];simp
  have c7:S[i+1+c.length]? =some y:=by
   have:(S.drop (i+1))[c.length]? =some y:=by rw[Y];simp
   rw[List.getElem?_drop] at this;exact this
  have R:=dB (n:=c.length) (by omega);have z:=(C.old p pl (by rw[hp];simp)).trans hp;have a9:bR aa.str s a L:=(C.old a al (by rw[show s0.get [] a=_ from ha];simp)).trans ha;have c4:=(C.old r rl (by rw[hr];simp)).trans hr;have a0:yT ae 9 (i+1+c.length*1) (s.get [] r)=some (.str y):=by
   rw[c4,aY,iB,xU,List.head?_drop,jf,c7];rfl
  have hb:bm c.length (S.length-(i+1))=true:=cP U;have m:s.gt<=s.aL:=C.mw;have k1:=tK jA CU GX (s:=s.top) a9 x;have k2:=tK jA CU GX (s:=s.top) a9 y;have r1:=PU b0 x;have r2:=PU b0 y;obtain⟨v1,c3⟩: ∃v,(cI x L).getD .AL=v:=⟨_,rfl⟩;obtain⟨v2,b8⟩: ∃v,(cI y L).getD .AL=v:=⟨_,rfl⟩;rw[c3] at r1 k1;rw[b8] at r2 k2;have c1:=r1.ge;have c2:=r2.ge;have q1:zt [v1,v2]=some (cd (qa (mB L x) (mB L y))):=by simp only[zt,qx r1,qx r2,au]
  have b1:=Z.ge;have c9:(lX L (c.map fun y=>(x,y))).length<=c.length:=by
   unfold lX;rw[ce];refine Nat.le_trans (kT _ _) ?_;rw[ce];exact br _
  cases hz:an (qa (mB L x) (mB L y)) 0 with
  |false=>
   have V:cR 3 lo s ov (bse++lX L ((c++[y]).map fun y=>(x,y))):=by
    have:lX L [(x,y)]=[]:=by unfold lX HP;rw[G5 (by rw[hz];exact K5)];rfl
    rw[ff,QH];show cR 3 lo s ov (bse++(_++lX L [(x,y)]));rw[this,kC];exact Z
   refine bG ?_;simp only[go_sem,hP,hh,seval,CH,J,I,w,u,d,U,hb,m,cH,aW,a0,z,aY,xL];simp only[go_sem,hP,hh,seval,CH,m,J,I,d,z,R,aW,aY,xL,k1,k2,c1,c2,M,q1,cd,hz];refine ih (c++[y]) _ _ s ov (by rw[Y];simp) V C B ?_ ?_ ?_ ?_ ?_ ?_ ?_ ?_ ?_ ?_
   all_goals simp only[sN,seval,J,h4,h7,I,H,F,D,w,u,sA]
  |true=>
   obtain⟨O,s1,a1,a2,a3,a4,a5,a6,a7⟩:=BL (t:=35) j6.1 rfl (by decide) (s:=s) (y:=.list 3 [fC 4 [x,y]] .GE) (x:=fC 4 [x,y]) Z (by simp only[afo,eE]) (by rw[cJ];omega) B C.mw;simp only[fC,fy,uB,aG] at a1;have V:cR 3 lo s1 O (bse++lX L ((c++[y]).map fun y=>(x,y))):=by
    have:lX L [(x,y)]=[fC 4 [x,y]]:=by unfold lX HP;simp[hz]
    rw[ff,QH];show cR 3 lo s1 O (bse++(_++lX L [(x,y)]));rw[this,<-ny];exact a2
   refine bG ?_;simp only[go_sem,hP,hh,seval,CH,J,I,w,u,d,U,hb,m,cH,aW,a0,z,aY,xL];simp only[go_sem,hP,hh,seval,CH,m,J,I,d,z,R,aW,aY,xL,k1,k2,c1,c2,M,q1,cd,hz];simp only[go_sem,hP,hh,seval,aG,h4,I,d,R,b1,a1,a3,bj,bg,aZ,bf,evc];refine ih (c++[y]) _ _ s1 O (by rw[Y];simp) V (C.app a4 a5 a6) (by omega) ?_ ?_ ?_ ?_ ?_ ?_ ?_ ?_ ?_ ?_
   all_goals simp only[sN,seval,J,h7,I,H,F,D,w,u,sA]
end
def O6(e:ax)(x:Operand)(d:Nat):fR e (some x) d=(ev e x).bind dS:=rfl
def O5(e:ax)(d:Nat):fR e none d=some d:=rfl
def Gf(n o:Nat):eB ae .eql 212 (.ptr n o) .nilp=some (.bool false):=by kernel_rfl
theorem EF(h:aC aR)(k:Int)(c:List ag):cL h 3 (fC k c)=some (fC k c):=by
 have e:cL h 2 (.list 1 (c.map aG) .GE)=some (.list 1 (c.map aG) .GE):=H1 h (by rw[Gj];rfl) fun v d=>by
  obtain⟨x,_,rfl⟩:=dy.1 d;rfl
 show(dL (cL h 2) [.str [],.int .i64 k,.list 1 (c.map aG) .GE]).bind (fun r=>some (aa.agg r))=_;rw[yF fun v d=>?_];rfl;simp only[fc,List.not_mem_nil,or_false] at d;rcases d with rfl|rfl|rfl
 rfl;rfl;exact e
def Km(l:List Obj)(k:ag):List Pt:=(vD l k).getD []
def HO(l:List Obj)(q:ag×ag):Bool:=an (qa (Km l q.1) (Km l q.2)) 0
def wF(l:List Obj):List ag:=(l.filter (oY l)).map Obj.id
def lK(l:List Obj):List ag:=(l.filter (ph l)).map Obj.id
def vo(l:List Obj):List aa:=(wF l).map (fun i=>fC 3 [i])++((vC (lK l)).filter (HO l)).map fun q=>fC 4 [q.1,q.2]
def DH(l:List Obj):aa:=fI 3 (vo l)
theorem XS{α:Type}{q:α×α}: ∀ {l:List α},q∈vC l->q.1∈l/\q.2∈l
 | [],h=>by cases h
 |a::l,h=>by
  rcases lj.1 h with h|h
  grind
  have:=XS h
  grind
theorem PB{α:Type}: ∀l:List α,(vC l).length<=l.length*l.length
 | []=>br _
 |a::l=>by
  have:=PB l
  grind [vC,Nat.succ_mul,Nat.mul_succ]
variable{k:ag}
theorem ZR(m:(l.map Obj.id).Nodup){L:List (ag×aa)}(u:L.map (·.1)=lK l)(j: ∀x∈L, ∃o∈l,x.1=o.id/\ ∃r,tY l o=some r/\ay 2 aU x.2 r)(c:k∈lK l):mB L k=Km l k:=by
 rw[<-u] at c;cases e:cI k L with
 |none=>
  obtain⟨x,d,rfl⟩:=dy.1 c;exfalso;have: ∀ {M:List (ag×aa)},x∈M->cI x.1 M≠none:=by
   intro M
   induction M with
   |nil=>intro h;cases h
   |cons y M w=>
    grind [cI]
  exact this d e
 |some v=>
  obtain⟨o,z,D,r,C,B⟩:=j _ (CM e)
  grind [mB,Km,vD,FR,qx]
theorem ag5(h:dD l=true)(p:Obj->Bool){c:List ag}(u:c.Perm ((l.filter p).map Obj.id)):lW c=(l.filter p).map Obj.id:=by
 simp only[dD,bu] at h;have j:(l.map (·.id)).Pairwise (fun a b=>lQ a b=true):=(H9 l [] h.1).2.imp fun m=>by
  grind [Go.Proofs.bytesLess_eq,lQ]
 have d:((l.filter p).map Obj.id).Pairwise (fun a b=>lQ a b=true):=j.sublist (List.filter_sublist.map _)
 grind [List.Perm.eq_of_pairwise,lQ,Qd,GG]
section
variable{Q:aH}(hP:Q.P=ae)(hh:Q.hint=ai)
include hP hh
theorem anm(R:Q.spec 141=some zt){r:Nat}{L:List (ag×aa)}(a5:mh L){tot:List aa}(a8:tot.length+S.length<=900000){s0:St}(hp:s0.get [] p=some (.cells (.map a::c2)))(ha:bR aa.str s0 a L)(Z:s0.get [] r=some (.cells (S.map aG)))(pl:p<s0.aL)(al:a<s0.aL)(rl:r<s0.aL)(hx: ∀e lc s ov,cR 3 lo s ov tot->oV s0 s->ac e 4=ov->K (.exit 2) ⟨e,76,lc⟩ s):
 ∀(d c:List ag) (e:ax) (lc:Ag.Loc) (s:St) (ov:aa) (j:List aa),S=c++d->j++lX L (vC d)=tot->cR 3 lo s ov j->oV s0 s->lo<=s.aL->ac e 3= .ptr p 0->ac e 4=ov->ac e 7= .arr 1 r 0 S.length S.length->ac e 36= .arr 1 r 0 S.length S.length->ac e 37= .int .i64 (S.length:Nat)->ac e 38= .int .i64 (c.length:Nat)->W Q 60 (.loop Fv) ⟨e,76,lc⟩ s K:=by
 intro d
 induction d with
 |nil=>
  intro c e lc s ov j z y hO U D h3 h4 h7 O w u;have a1:c.length=S.length:=by rw[z];simp
  refine bG ?_;simp only[go_sem,hP,hh,seval,Fv,w,u,a1,cD];have y:j=tot:=by rw[<-y];exact(kC j).symm
  subst y;exact hx _ _ _ ov hO U (by simp only[sN,seval,h4])
 |cons x d ih=>
  intro c e lc s ov j z y hO U D h3 h4 h7 O w u;have m:c.length<S.length:=by rw[z];simp
  have J:S[c.length]? =some x:=by rw[z];simp
  have I:S.drop (c.length+1)=d:=by rw[z];simp
  have a9:j.length<=tot.length:=by rw[<-y,cJ];omega
  have B:=dB (n:=c.length) (by omega);have Y:=(U.old r rl (by rw[Z];simp)).trans Z;have H:yT ae 9 (0+c.length*1) (s.get [] r)=some (.str x):=by
   rw[Y,aY,iB,xU,bV,List.head?_drop,jf,J];rfl
  rw[bV] at H;have hb:bm c.length S.length=true:=cP m;have a4:bw (c.length+1) S.length=true:=cP m;have a3:bw S.length S.length=true:=cP (br _);have F:c.length+1<=S.length:=m;have a0:dS (.int .i64 (((c.length+1:Nat):Int)))=some (c.length+1):=rfl;refine bG ?_;simp only[go_sem,hP,hh,seval,Fv,h3,h7,O,w,u,m,hb,cH,iU,aW,H];simp only[go_sem,hP,hh,seval,Fv,h7,u,B,a4,a3,F,a0,PA,P8,O6,O5,yQ,iU,xU,br];refine ano hP hh R a5 (i:=c.length) (x:=x) (S:=S) (by omega) m J (bse:=j) (by omega) (s0:=s0) hp ha Z pl al rl ?_ d [] _ _ s ov I (by show cR 3 lo s ov (j++[]);rw[kC];exact hO) U D ?_ ?_ ?_ ?_ ?_ ?_ ?_ ?_ ?_ ?_
  ·intro e1 a7 s1 V M a2 C g3 g4 g7 b1 b0 a6
   rw[I] at M;simp only[go_sem,hP,hh,seval,a6,B];refine ih (c++[x]) _ _ s1 V _ (by rw[z];simp) ?_ M a2 C ?_ ?_ ?_ ?_ ?_ ?_;rw[ny,<-QH];exact y
   all_goals simp_all [sN]
  all_goals simp_all [sN]
  all_goals rfl
variable(hH: ∀f,Q.specH f=none)
include hH
theorem adU(hK: ∀i,1000000<=Q.kmax i)(g0:Q.spec 31=some jK)(d0:Q.spec 229=some qe)(d1:Q.spec 141=some zt)(O:Q.spec 137=none)(a6:Q.specW 137=none)(d2:Q.spec 139=none)(a4:Q.specW 139=none)(c9:Q.spec 230=none)(a3:Q.specW 230=some Dv)(z:Q.spec 140=none)(D:Q.specW 140=some GJ)(M:Q.spec 138=none)(a5:Q.specW 138=none)(f6:Q.spec 60=none)(d5:Q.specW 60=none)(ho:ay 6 Obj.val ov l)(hg: ∀o∈l,o.Al)(hl:l.length<=900)(hr: ∀o∈l,o.gE.length<=999)(hv:dD l=true)(hm:s.gt<=s.aL):
 ∃v s',aq Q 60 [.agg [ov]] s v s'/\fY s'.heap v (DH l):=by
 have f2:=ho.ge;have e5:=ho.scal;have c4:=yK hv;refine aq.ofWZ hP hH ak4 f6 d5 ?_;refine co ?_;simp only[go_sem,hP,hh,seval,f2,e5,O,bj,bg,aZ,bf,evc];refine cG.ex (Yp hP hh hH g0 d0 O a6 ho hg (by omega) (fun o ho=>by have:=hr o ho;omega) hv hm) (by decide) ?_;rintro v H ⟨rfl,s1,L,bv,I,g3⟩;have nx:=I.nx;have a1:=I.bad.isL;have g2:=a1.ge;have f3:=a1.lenS cH;have h8:(wF l).length<=900:=by unfold wF;rw[ce];have:=kT (oY l) l;omega
 have Z:=I.hp;have c8:mh L:=fun x hx=>let⟨_,_,_,r,_,h⟩:=I.rings x hx;⟨r,h⟩
 have f5:L.length<=900:=by
  have:=congrArg List.length I.ids;rw[ce,ce] at this
  have:=kT (ph l) l;omega
 have np:(aa.ptr (s.aL+2) 0)= .ptr (s.aL+2) 0:=rfl;have g1:(aa.nilp).ge=true:=rfl;simp only[go_sem,hP,hh,seval,Z,aW,aY,g2,f3,g1,Gf,bj,bg,aZ,bf,evc];refine am1 hP hh a1 (by show(wF l).length<=_;omega) (lo:=H.aL) (s0:=H) (pv:=.ptr (s.aL+2) 0) ?_ _ [] _ _ H .AL rfl (.inl ⟨rfl,rfl⟩) (.refl I.mw) (br _) ?_ ?_ ?_ ?_ ?_
 ·intro e lc s3 R f4 a0 g5 e3 e4
  have a7:=(a0.old (s.aL+2) (by omega) (by rw[Z];simp)).trans Z;have b8:bR aa.str s3 s.aL L:=(a0.old s.aL (by omega) (by rw[show H.get [] s.aL=_ from I.ma];simp)).trans I.ma;have d4:=aq7 hP hh hH hK d2 a4 c9 a3 M a5 (by omega) c8 a7 b8 (by omega) (by omega) a0.mw;simp only[go_sem,hP,hh,seval,e3,M,bj,bg,aZ,bf,evc];refine cG.ex d4 (by decide) ?_;rintro v s4 ⟨c,y,J,a9,b0,b1,c3⟩;have vc:=J.ge;have g6:c.length<=900:=by rw[y.length_eq,ce];exact f5
  have hS:lW c=lK l:=ag5 hv (ph l) (by rw[<-I.ids];exact y);have V: ∃w d,aq Q 140 [v] s4 w d/\(w= .tup []/\kW 1 d v ((lK l).map aG)/\(∀k,k<s3.aL->d.get [] k=s3.get [] k)/\s3.aL<=d.aL/\d.gt<=d.aL):=by
   rcases J with⟨rfl,C⟩|⟨C,k,rfl,c6,e9⟩
   have C:=xT.1 C;subst C;exact⟨_,s4,aq.specW0 z (hH _) D rfl,rfl,.inl ⟨rfl,by rw[<-hS];rfl⟩,a9,b0,b1⟩;have h6:=c3 k rfl;have h5:(lW c).length=c.length:=(GG c).length_eq;have c7:bm (c.map aG).length 1000001=true:=cP (by rw[ce];omega);rw[AA] at c6;have e8:gm (s4.get []) (t6 (bif aQ (c.map aG).length (c.map aG).length&&bm (c.map aG).length 1000001 then(wD (c.map aG)).bind fun l=>some ((lW l).map aG) else none))=some (.agg ((lW c).map aG)):=by
    rw[c7,Nat.beq_refl,cw,cT,LP];rfl
   refine⟨_,_,aq.specW (n:=k) (cs':=(lW c).map aG) z (hH _) D rfl c6 e8,rfl,.inr ⟨fun e=>?_,k,?_,?_,e9⟩,fun j hj=>?_,?_,dh s4 k _ b1⟩
   grind [ce]
   grind
   rw[aX,bS,hS,AA];rfl
   grind [aX]
   exact b0
  simp only[go_sem,hP,hh,seval,vc,z,bj,bg,aZ,bf,evc];refine cG.ex V (by decide) ?_;rintro w d ⟨rfl,Y,m,g8,e0⟩;have a2:cR 3 H.aL d R ((wF l).map fun i=>fC 3 [i]):=by
   rcases f4 with h|⟨q1,k,q2,q3,q4,q5⟩
   exact .inl h;exact .inr ⟨q1,k,q2,(m k q5).trans q3,q4,by omega⟩
  have d6:=(m (s.aL+2) (by omega)).trans a7;have e1:bR aa.str d s.aL L:=(m s.aL (by omega)).trans b8;have hid:(lK l).length<=900:=by unfold lK;rw[ce];have:=kT (ph l) l;omega
  have u:(wF l).map (fun i=>fC 3 [i])++lX L (vC (lK l))=vo l:=by
   unfold vo lX;congr 2;refine List.filter_congr fun q hq=>?_;obtain⟨m1,m2⟩:=XS hq;unfold HP HO;rw[ZR c4 I.ids I.rings m1,ZR c4 I.ids I.rings m2]
  have e2:(vo l).length+(lK l).length<=900000:=by
   unfold vo;rw[cJ,ce,ce];have h1:=kT (HO l) (vC (lK l));have h2:=PB (lK l);have h3:(lK l).length*(lK l).length<=900*900:=Nat.mul_le_mul hid hid;omega
  have d7:=a2.ge;have F: ∀(s':St) (U:aa),cR 3 H.aL s' U (vo l)->fY s'.heap U (DH l):=fun s' U hO=>by
   refine⟨4,AE hO fun v hv=>?_⟩
   grind [EF,vo]
  rcases Y with⟨rfl,C⟩|⟨C,r,rfl,c5,e7⟩
  have C:=xT.1 C;rw[C] at u;have B:cR 3 H.aL d R (vo l):=by rw[<-u];simpa[lX,vC] using a2
  simp only[go_sem,hP,hh,seval,cH,bj,bg,aZ,bf,evc];refine bG ?_;have f1:bc (0:Int) ((0:Nat):Int)=false:=rfl;have f0:bc (0:Int) 0=false:=rfl;simp only[go_sem,hP,hh,seval,Fv,cD,e4,d7,f1,f0];exact⟨_,rfl,F _ _ B⟩
  ·rw[ce]
   rw[AA] at c5;simp only[go_sem,hP,hh,seval,yQ,iU,bj,bg,aZ,bf,evc];refine anm hP hh d1 c8 (S:=lK l) (lo:=H.aL) (tot:=vo l) e2 (s0:=d) d6 e1 c5 (by omega) (by omega) e7 ?_ (lK l) [] _ _ d R _ rfl u a2 (.refl e0) (by omega) ?_ ?_ ?_ ?_ ?_ ?_;intro e6 h4 s6 g7 B h7 g4;have a8:=B.ge;simp only[go_sem,hP,hh,seval,g4,a8];exact⟨_,rfl,F _ _ B⟩
   all_goals simp_all [sN]
   all_goals rfl
 all_goals simp only[abc,alb,ah,bQ]
 all_goals rfl
end
def RF:dX:=[(31,jK),(229,qe),(141,zt)]
def ab5:dR RF:=.cons xd (.cons Kz (.cons apK .nil))
noncomputable def RT:sV:=[(230,Dv),(140,GJ)]
def acm:sW RT:=.cons aqU (.cons aq5 .nil)
def C2:Sp
 | [v]=>(lz v).bind fun l=>bif mU l then some (DH l) else none
 |_=>none
def anb:db ae 60 C2:=by
 intro args u c G h w xs B D;unfold C2 at c;split at c;simp only[ak] at c;obtain⟨l,y,c⟩:=c;obtain⟨d,c⟩:=bh c;have c:=sI c;subst c;obtain⟨v,rfl,y,z,I⟩:=rk y;obtain⟨F,C,j,m⟩:=qQ y z;have j:en [.agg [v]]=[.agg [C]]:=by simp only[en,j]
 have d:=pf.1 d;refine j9 ab5 acm (args:=[.agg [v]]) (by simp only[eO,F,cw]) (fun H=>?_) G h w xs B D;rw[j];exact adU (Q:=QW RF RT H) rfl rfl (fun _=>rfl) (fun _=>br _) rfl rfl rfl rfl rfl rfl rfl rfl rfl rfl rfl rfl rfl rfl rfl m z d.len d.gE d.valid (by decide);cases c
def FC(f:Obj->Bool)(g:Obj->aa)(k:ag): ∀ {l:List Obj},(l.map Obj.id).Nodup->cI k ((l.filter f).map fun o=>(o.id,g o))=(dP k l).bind fun q=>bif f q then some (g q) else none
 | [],_=>rfl
 |o::l,h=>by
  have j:=List.nodup_cons.1 h;have d:=FC f g k (l:=l) j.2;simp only[dP];by_cases e:k=o.id;have c:(k==o.id)=true:=by simpa using e
  rw[c,cT,au];cases hf:f o with
  |true=>
   rw[K9 hf,fy,cI,iP e];rfl
  |false=>
   rw[G5 (by rw[hf];exact K5),d,C4 (by rw[e];exact j.1)];rfl
  have c:(k==o.id)=false:=by simpa using e
  rw[c,cF,<-d];cases hf:f o with
  |true=>rw[K9 hf,fy,cI,iN e]
  |false=>rw[G5 (by rw[hf];exact K5)]
def Ih(o:Obj):Bool:=an o.uP 1
def AQ(l:List Obj)(o:Obj):Bool:=an o.uP 2&&o.gE.all (ei l)
def nU(l:List Obj):List (ag×aa):=(l.filter Ih).map fun o=>(o.id,aU (o.x,o.y))
def nm(l c:List Obj):List (ag×aa):=(c.filter (AQ l)).map fun o=>(o.id,o.refsV)
def Zo(h:(l.map Obj.id).Nodup)(k:ag): ∃z,oB (.agg [.int .i64 0,.int .i64 0]) (cI k (nU l))= .tup [.agg z,.bool (ei l k)]/\z.length=2/\dG z=true:=by
 unfold nU;rw[FC _ _ _ h];unfold ei pV;cases e:dP k l with
 |none=>exact⟨_,rfl,rfl,rfl⟩
 |some q=>
  simp only[au,Ih];cases hk:an q.uP 1 with
  |true=>exact⟨_,rfl,rfl,rfl⟩
  |false=>exact⟨_,rfl,rfl,rfl⟩
variable{c0:aa}
section
variable{Q:aH}(hP:Q.P=ae)(hh:Q.hint=ai)(hH: ∀f,Q.specH f=none)
include hP hh
theorem anp(ho:ay 6 Obj.val ov l)(hl:l.length<=1000000)(C:(l.map Obj.id).Nodup){c2:aa}{s0:St}(hb:s0.get [] bx=some (.cells [.ptr p 0]))(hp:s0.get [] p=some (.cells [c0,.map a,c2]))(Z:p≠a)(a4:bx≠a)(hx: ∀e lc s,ac e 4= .ptr bx 0->ac e 1= .Ge 1 1 0->lc.gen 1=1->lc.get 1 1=some [ov]->eL a s0 s->bR aa.str s a (nU l)->K (.exit 0) ⟨e,64,lc⟩ s):
 ∀(d c:List Obj) (e:ax) (lc:Ag.Loc) (s:St),l=c++d->eL a s0 s->bR aa.str s a (nU c)->
  ac e 4= .ptr bx 0->ac e 1= .Ge 1 1 0->lc.gen 1=1->lc.get 1 1=some [ov]->ac e 19=ov->ac e 20= .int .i64 (l.length:Nat)->ac e 21= .int .i64 (c.length:Nat)->W Q 142 (.loop It) ⟨e,64,lc⟩ s K:=by
 intro d
 induction d with
 |nil=>
  intro c e lc s z hb R J M U O u j w;have a2:c.length=l.length:=by rw[z];simp
  have Y:c=l:=by rw[z];simp
  refine bG ?_;simp only[go_sem,hP,hh,seval,It,j,w,a2,cD];exact hx _ _ _ (by simp only[sN,seval,J]) (by simp only[sN,seval,M]) U O hb (by rw[<-Y];exact R)
 |cons o d ih=>
  intro c e lc s z m R J M U O u j w;have F:c.length<l.length:=by rw[z];simp
  have a5:l[c.length]? =some o:=by rw[z];simp
  have I:=fun lc k=>ho.at gX.2.2.1 a5 lc k;have D:=dB (n:=c.length) (by omega);cases hk:an o.uP 1 with
  |false=>
   have e1:nU (c++[o])=nU c:=by unfold nU;rw[o9 (f:=Ih) hk]
   refine bG ?_;simp only[go_sem,hP,hh,seval,It,u,j,w,F,I,D,hk,Obj.val,Obj.cells];refine ih (c++[o]) _ _ s (by rw[z];simp) m (by rw[e1];exact R) ?_ ?_ ?_ ?_ ?_ ?_ ?_
   all_goals simp only[sL,seval,J,M,U,O,u,j,sA]
  |true=>
   have a0:cI o.id (nU c)=none:=by
    rw[z,ff] at C;unfold nU;rw[FC _ _ _ (wf.1 C).1,C4];rfl;intro hc;exact(wf.1 C).2.2 _ hc o.id (by simp) rfl
   have a3:s.get [] bx=some (.cells [.ptr p 0]):=(m.old bx a4).trans hb;have V:s.get [] p=some (.cells [c0,.map a,c2]):=(m.old p Z).trans hp;have a1:bR aa.str s.top a (nU c):=R;have B:=vU jA FJ a1 o.id (aU (o.x,o.y));have H:fe o.id (aU (o.x,o.y)) (nU c)=nU (c++[o]):=by
    rw[vj a0];unfold nU;rw[tm (f:=Ih) hk,ff];rfl
   rw[H] at B;simp only[aU] at B;refine bG ?_;simp only[go_sem,hP,hh,seval,It,J,u,j,w,F,I,D,hk,a3,V,m.mw,aW,aY,Obj.val,Obj.cells,B];refine ih (c++[o]) _ _ _ (by rw[z];simp) (m.putT _) ?_ ?_ ?_ ?_ ?_ ?_ ?_ ?_;show St.get _ [] a=_;rw[mY,aX,bS];rfl
   all_goals simp only[sL,seval,J,M,U,O,u,j,sA]
include hH
theorem am2(j:Q.spec 237=none)(c:Q.specW 237=none)(m:(l.map Obj.id).Nodup){c2:aa}(y:s.get [] bx=some (.cells [.ptr p 0]))(w:s.get [] p=some (.cells [c0,.map a,c2]))(B:bR aa.str s a (nU l))(id:ag):aq Q 237 [.str id,.ptr bx 0] s (.bool (!ei l id)) s:=by
 have d:=yW jA FJ DL B id;obtain⟨z,u,C,H⟩:=Zo m id;rw[u] at d;obtain⟨F,D,rfl⟩: ∃a b,z=[a,b]:=by
  match z,C with
  | [a,b],_=>exact⟨a,b,rfl⟩
 refine aq.ofZ hP hH ajm j c rfl ?_;refine co ?_;simp only[go_sem,hP,hh,seval,y,w,aW,aY,d,fh]
theorem ant(a4:Q.spec 261=none)(J:Q.specW 261=none)(F:Q.spec 167=none)(O:Q.specW 167=none)(D:Q.spec 237=none)(M:Q.specW 237=none)(ho:ay 6 Obj.val ov l)(hg: ∀o∈l,o.Al)(hl:l.length<=1000000)(hr: ∀o∈l,o.gE.length<=1000000)(z:(l.map Obj.id).Nodup){s0:St}(hb:s0.get [] bx=some (.cells [.ptr p 0]))(hp:s0.get [] p=some (.cells [c0,.map a,.map b]))(ha:bR aa.str s0 a (nU l))(a6:p≠b)(b1:bx≠b)(c3:a≠b)(hx: ∀e lc s,ac e 4= .ptr bx 0->eL b s0 s->bR aa.str s b (nm l l)->K (.exit 2) ⟨e,64,lc⟩ s):
 ∀(u c:List Obj) (e:ax) (lc:Ag.Loc) (s:St),l=c++u->eL b s0 s->bR aa.str s b (nm l c)->
  ac e 4= .ptr bx 0->ac e 38=ov->ac e 39= .int .i64 (l.length:Nat)->ac e 40= .int .i64 (c.length:Nat)->W Q 142 (.loop Iu) ⟨e,64,lc⟩ s K:=by
 intro u
 induction u with
 |nil=>
  intro c e lc s B hb I C w m j;have b0:c.length=l.length:=by rw[B];simp
  have a5:c=l:=by rw[B];simp
  refine bG ?_;simp only[go_sem,hP,hh,seval,Iu,m,j,b0,cD];exact hx _ _ _ (by simp only[sN,seval,C]) hb (by rw[a5] at I;exact I)
 |cons o u ih=>
  intro c e lc s B d I C w m j;have Z:c.length<l.length:=by rw[B];simp
  have a3:l[c.length]? =some o:=by rw[B];simp
  have Y:=eP a3;have go:=hg o Y;have rc:=go.gE.ge;have a1:=fun lc k=>ho.at gX.2.2.1 a3 lc k;have y:=dB (n:=c.length) (by omega);have a2:s.get [] bx=some (.cells [.ptr p 0]):=(d.old bx b1).trans hb;have V:s.get [] p=some (.cells [c0,.map a,.map b]):=(d.old p a6).trans hp;have b8:bR aa.str s a (nU l):=(d.old a c3).trans ha;have U:=M7 hP hh hH a4 J F O go.gE (hr o Y) D (s:=s) (cap:=[.ptr bx 0]) (p:=fun x=> !ei l x) fun x _=>am2 hP hh hH D M z a2 V b8 x;have skip:AQ l o=false->nm l (c++[o])=nm l c:=fun h=>by unfold nm;rw[o9 h]
  cases hk:an o.uP 2 with
  |false=>
   have e1:=skip (by unfold AQ;rw[hk];rfl);refine bG ?_;simp only[go_sem,hP,hh,seval,Iu,C,w,m,j,Z,a1,y,hk,Obj.val,Obj.cells];refine ih (c++[o]) _ _ s (by rw[B];simp) d (by rw[e1];exact I) ?_ ?_ ?_ ?_
   all_goals simp only[sN,seval,C,w,m,sA]
  |true=>
   refine W.loopE ?_;simp only[go_sem,hP,hh,seval,Iu,C,w,m,j,Z,a1,hk,Obj.val,Obj.cells,rc,F,rR];refine cG.of U (by decide) ?_;cases hn:o.gE.all (ei l) with
   |false=>
    have e1:=skip (by unfold AQ;rw[hn,gN]);have H:(o.gE.any fun x=> !ei l x)=true:=by
     have:=BK (ei l) o.gE;rw[hn] at this;simpa using this
    simp only[go_sem,hP,hh,seval,j,y,H];refine ih (c++[o]) _ _ s (by rw[B];simp) d (by rw[e1];exact I) ?_ ?_ ?_ ?_
    all_goals simp only[sN,seval,C,w,m,sA]
   |true=>
    have hw:AQ l o=true:=by unfold AQ;rw[hk,hn];rfl
    have H:(o.gE.any fun x=> !ei l x)=false:=by
     have:=BK (ei l) o.gE;rw[hn] at this;simpa using this
    have a7:cI o.id (nm l c)=none:=by
     rw[B,ff] at z;unfold nm;rw[FC _ _ _ (wf.1 z).1,C4];rfl;intro hc;exact(wf.1 z).2.2 _ hc o.id (by simp) rfl
    have a9:bR aa.str s.top b (nm l c):=I;have R:=vU jA FK a9 o.id o.refsV;have a0:fe o.id o.refsV (nm l c)=nm l (c++[o]):=by
     rw[vj a7];unfold nm;rw[tm hw,ff];rfl
    rw[a0] at R;have a8:=d.mw;simp only[go_sem,hP,hh,seval,j,y,H];refine iT a8 ?_;simp only[go_sem,hP,hh,NC,VN,seval,C,j,y,a2,V,aW,aY,rc,R];refine ih (c++[o]) _ _ _ (by rw[B];simp) (d.putT _) ?_ ?_ ?_ ?_ ?_;show St.get _ [] b=_;rw[mY,aX,bS];rfl
    all_goals simp only[sN,seval,C,w,m,sA]
end
structure sK (l:List Obj) (ov:aa) (p a b:Nat) (s:St):Prop where
 hp:s.get [] p=some (.cells [ov,.map a,.map b])
 ma:bR aa.str s a (nU l)
 mb:bR aa.str s b (nm l l)
def sK.mono(h:sK l ov p a b s)(c: ∀k,k<n->s'.get [] k=s.get [] k)(d:p<n)(m:a<n)(j:b<n):sK l ov p a b s':=
 ⟨(c p d).trans h.hp,(c a m).trans h.ma,(c b j).trans h.mb⟩
theorem QJ(d:(l.map Obj.id).Nodup)(j: ∀o∈l,o.Al)(m: ∀o∈l,an o.uP 2=true->2<=o.gE.length)(k:ag):(kB l k=none/\(cI k (nm l l)).getD .AL= .AL)\/ ∃r,kB l k=some r/\2<=r.length/\ ∃v,(cI k (nm l l)).getD .AL=v/\ay 1 aG v r/\bL v=true:=by
 unfold nm kB;rw[FC _ _ _ d];cases e:dP k l with
 |none=>exact .inl ⟨rfl,rfl⟩
 |some q=>
  have c:=(tS e).1;simp only[au,AQ];cases hk:(an q.uP 2&&q.gE.all (ei l)) with
  |false=>exact .inl ⟨rfl,rfl⟩
  |true=>
   refine .inr ⟨q.gE,rfl,m q c ?_,q.refsV,rfl,(j q c).gE,(j q c).pr⟩
   grind
def aaq:eB ae .eql 25 .AL .AL=some (.bool true):=by kernel_rfl
def aqN(n:Nat)(xs:List aa)(r:oW):eB ae .eql 25 (.list n xs r) .AL=some (.bool false):=by kernel_rfl
def ER{enc:α->aa}{l:List α}(h:ay n enc v l):v.cells=[v]:=by
 rcases h with⟨rfl,_⟩|⟨k,rfl⟩<;>rfl
def aqO(v:aa)(r:List ag)(c:ay 1 aG v r)(h:2<=r.length):eB ae .eql 25 v .AL=some (.bool false):=by
 rcases c with⟨_,rfl⟩|⟨k,rfl⟩
 simp at h;exact aqN _ _ _
section
variable{Q:aH}(hP:Q.P=ae)(hh:Q.hint=ai)(hH: ∀f,Q.specH f=none)
include hP hh hH
theorem anF(a2:Q.spec 31=some jK)(J:Q.spec 261=none)(u:Q.specW 261=none)(O:Q.spec 167=none)(B:Q.specW 167=none)(M:Q.spec 237=none)(w:Q.specW 237=none)(R:Q.spec 142=none)(C:Q.specW 142=none)(d:ay 6 Obj.val ov l)(hg: ∀o∈l,o.Al)(hl:l.length<=900000)(hr: ∀o∈l,o.gE.length<=900000)(hv:dD l=true)(hm:s.gt<=s.aL):
 ∃v s',aq Q 142 [.agg [ov]] s v s'/\(v= .tup [.ptr (s.aL+2) 0,.bool true]/\sK l ov (s.aL+2) s.aL (s.aL+1) s'/\(∀k,k<s.aL->s'.get [] k=s.get [] k)/\s'.aL=s.aL+4/\s'.gt<=s'.aL):=by
 have a5:=ajJ;have H:=d.lenS gX;have I:=d.ge;have Z:=d.scal;have a1:=ER d;have F:=yK hv;have q1:=A0 d hg (by omega);rw[hv] at q1;obtain⟨z,D⟩:=ct ((s.new (.map [] 0)).new (.map [] 0));have zn:z.aL=s.aL+2:=by rw[<-D];rfl
 have nn:(s.new (.map [] 0)).aL=s.aL+1:=rfl;obtain⟨y,j⟩:=ct (z.new (.cells [ov,.map s.aL,.map (s.aL+1)]));have yn:y.aL=s.aL+3:=by rw[<-j];show z.aL+1=_;omega
 obtain⟨x,U⟩:=ct ((y.new (.cells [.nilp])).put (s.aL+3) (some (.cells [.ptr (s.aL+2) 0])));have a0:(y.new (.cells [.nilp])).get [] (s.aL+3)=some (.cells [.nilp]):=by rw[<-yn];exact cW
 have xn:x.aL=s.aL+4:=by rw[<-U];show y.aL+1=_;omega
 have V: ∀k,k<s.aL+3->x.get [] k=y.get [] k:=fun k hk=>by grind [aX,cz]
 have xb:x.get [] (s.aL+3)=some (.cells [.ptr (s.aL+2) 0]):=by rw[<-U,aX,bS];rfl
 have xp:x.get [] (s.aL+2)=some (.cells [ov,.map s.aL,.map (s.aL+1)]):=by rw[V _ (by omega),<-j,<-zn];exact cW
 have xa:x.get [] s.aL=some (.map [] 0):=by rw[V _ (by omega),<-j,cz (by omega),<-D,cz (by omega)];exact cW
 have xw:x.get [] (s.aL+1)=some (.map [] 0):=by rw[V _ (by omega),<-j,cz (by omega),<-D,<-nn];exact cW
 have xs: ∀k,k<s.aL->x.get [] k=s.get [] k:=fun k hk=>by grind [cz]
 have xm:x.gt<=x.aL:=by
  rw[<-U];refine dh _ _ _ ?_;rw[<-j,<-D];exact cq (cq (cq (cq hm)))
 refine aq.ofWZ hP hH ah8 R C ?_;refine co ?_;have a3:(aa.nilp).cells=[.nilp]:=rfl;simp only[go_sem,hP,hh,seval,a3,H,I,Z,a1,a2,q1,m7,wJ,Ei,L9,nn,D,zn,j,yn,dn,a0,dp,U,bj,bg,aZ,bf,evc];refine anp hP hh d (by omega) F (p:=s.aL+2) (a:=s.aL) (bx:=s.aL+3) (c0:=ov) (c2:=.map (s.aL+1)) (s0:=x) xb xp (by omega) (by omega) ?_ l [] _ _ x rfl (.refl xm) xa ?_ ?_ ?_ ?_ ?_ ?_ ?_
 ·intro e lc Y e4 r1 g1 l1 m hM
  have b1:=(m.old (s.aL+3) (by omega)).trans xb;have p1:=(m.old (s.aL+2) (by omega)).trans xp;have w1:bR aa.str Y (s.aL+1) (nm l []):=(m.old (s.aL+1) (by omega)).trans xw;simp only[go_sem,hP,hh,seval,r1,l1,g1,H,I];refine ant hP hh hH J u O B M w d hg (by omega) (fun o d=>by have:=hr o d;omega) F (p:=s.aL+2) (a:=s.aL) (b:=s.aL+1) (bx:=s.aL+3) (c0:=ov) (s0:=Y) b1 p1 hM (by omega) (by omega) (by omega) ?_ l [] _ _ Y rfl (.refl m.mw) w1 ?_ ?_ ?_ ?_;intro e2 a4 s2 e4 c hW;have b2:=(c.old (s.aL+3) (by omega)).trans b1;simp only[go_sem,hP,hh,seval,e4,b2,aW,aY];exact⟨_,rfl,rfl,⟨(c.old (s.aL+2) (by omega)).trans p1,(c.old s.aL (by omega)).trans hM,hW⟩,fun k hk=>(c.old k (by omega)).trans ((m.old k (by omega)).trans (xs k hk)),by rw[c.aL,m.aL,xn],c.mw⟩
  all_goals simp_all [sN]
 all_goals simp only[abc,alb,ah,bQ]
 all_goals rfl
theorem aqR(hg: ∀o∈l,o.Al)(a1:(l.map Obj.id).Nodup)(hw: ∀o∈l,an o.uP 2=true->2<=o.gE.length)(N:sK l ov p a b s)(go:o.Al)(hr:o.gE.length<=900000)(ht:ue l o=true-> ∀e lc,K (.exit 0) ⟨e,43,lc⟩ s)(hf:ue l o=false-> ∀e lc,ac e 4= .bool false->K .ret ⟨e,43,lc⟩ s):
 ∀(d c:List ag) (e:ax) (lc:Ag.Loc),o.gE=c++d->((ix c.length).zip c).all (fun q=>bif an o.uP 5&&q.1==1 then ei l q.2 else(kB l q.2).isSome)=true->ac e 0= .ptr p 0->ac e 3= .Ge 3 1 0->lc.get 3 1=some o.cells->lc.gen 3=1->ac e 10=o.refsV->ac e 11= .int .i64 (o.gE.length:Nat)->ac e 12= .int .i64 (c.length:Nat)->W Q 143 (.loop wZ) ⟨e,43,lc⟩ s K:=by
 have step: ∀(c d:List ag) (r:ag),o.gE=c++r::d->((ix c.length).zip c).all (fun q=>bif an o.uP 5&&q.1==1 then ei l q.2 else(kB l q.2).isSome)=true->((bif an o.uP 5&&c.length==1 then ei l r else(kB l r).isSome)=true->((ix (c++[r]).length).zip (c++[r])).all (fun q=>bif an o.uP 5&&q.1==1 then ei l q.2 else(kB l q.2).isSome)=true)/\((bif an o.uP 5&&c.length==1 then ei l r else(kB l r).isSome)=false->ue l o=false):=by
  intro c d r M h2;have e1:(ix (c++[r]).length).zip (c++[r])=(ix c.length).zip c++[(c.length,r)]:=by
   rw[cJ,bH,bn,List.range_succ,List.zip_append (by simp)];rfl
  refine⟨fun h=>by grind,fun h=>?_⟩;unfold ue;have hm:(c.length,r)∈(ix o.gE.length).zip o.gE:=by
   refine eP (i:=c.length) ?_;rw[La];refine⟨?_,by rw[M];simp⟩;rw[List.getElem?_range];rw[M];simp
  cases hc:((ix o.gE.length).zip o.gE).all fun p=>bif an o.uP 5&&p.1==1 then ei l p.2 else(kB l p.2).isSome with
  |false=>rfl
  |true=>
   grind
 intro d
 induction d with
 |nil=>
  intro c e lc M h2 J I F O u m w;have a3:c.length=o.gE.length:=by rw[M];simp
  have b1:c=o.gE:=by rw[M];simp
  refine bG ?_;simp only[go_sem,hP,hh,seval,wZ,m,w,a3,cD]
  grind [ue]
 |cons r d ih=>
  intro c e lc M h2 J I F O u m w;have B:c.length<o.gE.length:=by rw[M];simp
  have a4:o.gE[c.length]? =some r:=by rw[M];simp
  have C:=fun lc k=>go.gE.at cH.2.2.1 a4 lc k;have V:=dB (n:=c.length) (by omega);obtain⟨st,sf⟩:=step c d r M h2;have y:=N.hp;have R:an ((c.length:Nat):Int) 1=(c.length==1):=by
   unfold an;by_cases h:c.length=1;rw[h];rfl
   grind
  have next: ∀(U:ax) (D:Ag.Loc),(bif an o.uP 5&&c.length==1 then ei l r else(kB l r).isSome)=true->ac U 0= .ptr p 0->ac U 3= .Ge 3 1 0->D.get 3 1=some o.cells->D.gen 3=1->ac U 10=o.refsV->ac U 11= .int .i64 (o.gE.length:Nat)->ac U 12= .int .i64 ((c.length+1:Nat):Int)->W Q 143 (.loop wZ) ⟨U,43,D⟩ s K:=fun U D hc e0 e3 a5 a6 a9 a8 a7=>
   ih (c++[r]) U D (by rw[M];simp) (st hc) e0 e3 a5 a6 a9 a8 (by rw[a7];simp)
  simp only[Obj.cells] at F;cases h5:(an o.uP 5&&c.length==1) with
  |true=>
   have H:=h5;simp only[bu] at H;rw[h5,cT] at next sf
   have j:=yW jA FJ DL N.ma r;obtain⟨z,hz,a2,b0⟩:=Zo a1 r;rw[hz] at j;obtain⟨z1,z2,rfl⟩: ∃a b,z=[a,b]:=by
    match z,a2 with
    | [a,b],_=>exact⟨a,b,rfl⟩
   cases Y:ei l r with
   |false=>
    rw[Y] at j;refine bG ?_;simp only[go_sem,hP,hh,seval,wZ,aG,J,I,F,O,u,m,w,B,C,R,H.1,H.2,y,aW,aY,j,fh]
    grind [aj]
   |true=>
    rw[Y] at j;refine bG ?_;simp only[go_sem,hP,hh,seval,wZ,aG,J,I,F,O,u,m,w,B,C,R,H.1,H.2,y,aW,aY,j,fh,V];refine next _ _ Y ?_ ?_ ?_ ?_ ?_ ?_ ?_
    all_goals simp only[sL,seval,J,I,F,O,u,m,Obj.cells]
  |false=>
   rw[h5,cF] at next sf
   have j:=tK jA FK v8 N.mb r;rcases QJ a1 hg hw r with⟨w1,w2⟩|⟨rr,w1,w2,v,w3,w4,w5⟩
   rw[w2] at j;have Y:(kB l r).isSome=false:=by rw[w1];rfl
   cases hk5:an o.uP 5 with
   |false=>
    refine bG ?_;simp only[go_sem,hP,hh,seval,wZ,aG,J,I,F,O,u,m,w,B,C,hk5,y,aW,aY,j,aaq]
    grind [aj]
   |true=>
    have Z:(c.length==1)=false:=by rw[hk5,eH] at h5;exact h5
    refine bG ?_;simp only[go_sem,hP,hh,seval,wZ,aG,J,I,F,O,u,m,w,B,C,R,hk5,Z,y,aW,aY,j,aaq]
    grind [aj]
   ·rw[w3] at j
    have vc:=w4.ge;have Y:(kB l r).isSome=true:=by rw[w1];rfl
    have a0:=aqO v rr w4 w2;cases hk5:an o.uP 5 with
    |false=>
     refine bG ?_;simp only[go_sem,hP,hh,seval,wZ,aG,J,I,F,O,u,m,w,B,C,hk5,y,aW,aY,j,vc,a0,V];refine next _ _ Y ?_ ?_ ?_ ?_ ?_ ?_ ?_
     all_goals simp only[sL,seval,J,I,F,O,u,m,Obj.cells]
    |true=>
     have Z:(c.length==1)=false:=by rw[hk5,eH] at h5;exact h5
     refine bG ?_;simp only[go_sem,hP,hh,seval,wZ,aG,J,I,F,O,u,m,w,B,C,R,hk5,Z,y,aW,aY,j,vc,a0,V];refine next _ _ Y ?_ ?_ ?_ ?_ ?_ ?_ ?_
     all_goals simp only[sL,seval,J,I,F,O,u,m,Obj.cells]
theorem ara(d:Q.spec 143=none)(c:Q.specW 143=none)(F: ∀o∈l,o.Al)(m:(l.map Obj.id).Nodup)(C: ∀o∈l,an o.uP 2=true->2<=o.gE.length)(N:sK l ov p a b s)(go:o.Al)(D:o.gE.length<=900000):aq Q 143 [.ptr p 0,o.val] s (.bool (ue l o)) s:=by
 have B:=go.gE.ge;have y:=go.gT.ge;have z:=go.gE.scal;have w:=go.gT.scal;have u:=go.gE.lenS cH;refine aq.ofZ hP hH ah9 d c rfl ?_;refine co ?_;simp only[go_sem,hP,hh,seval,Obj.val,Obj.cells,B,y,z,w,u];refine aqR hP hh hH F m C N go D ?_ ?_ o.gE [] _ _ rfl rfl ?_ ?_ ?_ ?_ ?_ ?_ ?_;intro j e lc;simp only[go_sem,hP,hh,seval,j];intro j e lc H;simp only[go_sem,hP,hh,seval,H,j]
 all_goals simp_all [aj,dj,cY,Obj.cells]
end
def asN{l:List Obj}(c:gH o=true)(d:an o.uP 2=true):2<=o.gE.length:=by
 have d:o.uP=2:=by simpa[an] using d
 unfold gH at c;cases hb:oo o with
 |true=>rw[hb] at c;cases c
 |false=>
  simp only[oo,v9,decide_eq_false_iff_not] at hb;have h:=hb.1.2;rw[d] at h;have j:tJ 2=2:=by decide
  omega
def agU(lc:Ag.Loc)(m o:Nat)(i:aa):ja ae lc 196 (.ptr m o) i=(dS i).bind fun i=>bif bm i 2 then some (.ptr m (o+i*1)) else none:=by kernel_rfl
def Nc(lc:Ag.Loc)(m o:Nat)(i:aa):ja ae lc 306 (.ptr m o) i=(dS i).bind fun i=>bif bm i 2 then some (.ptr m (o+i*1)) else none:=by kernel_rfl
section
variable{Q:aH}(hP:Q.P=ae)(hh:Q.hint=ai)(hH: ∀f,Q.specH f=none)
include hP hh hH
theorem amx(F:Q.spec 145=none)(w:Q.specW 145=none)(j:Q.spec 130=some pP)(hg: ∀o∈l,o.Al)(O:(l.map Obj.id).Nodup)(hw: ∀o∈l,an o.uP 2=true->2<=o.gE.length)(R: ∀o∈l,o.gE.length<=900000)(N:sK l ov p a b s)(D:s.gt<=s.aL)(go:o.Al)(hr:o.gE.length=3):aq Q 145 [.ptr p 0,o.val] s (.bool (GP l o)) s:=by
 have rc:=go.gE.ge;have Y:=go.gT.ge;have Z:=go.gE.scal;have V:=go.gT.scal;obtain⟨J,m,I,d⟩: ∃x y z,o.gE=[x,y,z]:=by
  match h:o.gE,hr with
  | [x,y,z],_=>exact⟨x,y,z,rfl⟩
 have i0: ∀lc,ja ae lc 25 o.refsV (.int .i64 0)=some (.ro [.str J]):=fun lc=>go.gE.at cH.2.2.1 (i:=0) (by rw[d];rfl) lc .i64;have i1: ∀lc,ja ae lc 25 o.refsV (.int .i64 1)=some (.ro [.str m]):=fun lc=>go.gE.at cH.2.2.1 (i:=1) (by rw[d];rfl) lc .i64;have i2: ∀lc,ja ae lc 25 o.refsV (.int .i64 2)=some (.ro [.str I]):=fun lc=>go.gE.at cH.2.2.1 (i:=2) (by rw[d];rfl) lc .i64;have C:=N.hp;have u: ∀k, ∃v r,(cI k (nm l l)).getD .AL=v/\(kB l k).getD []=r/\ay 1 aG v r/\r.length<=1000000:=fun k=>by
  rcases QJ O hg hw k with⟨c,U⟩|⟨rr,c,U,v,w3,w4,w5⟩
  exact⟨.AL,[],U,by rw[c];rfl,.inl ⟨rfl,rfl⟩,by simp⟩;refine⟨v,rr,w3,by rw[c];rfl,w4,?_⟩;unfold kB at c;cases e:dP k l with
  |none=>rw[e] at c;cases c
  |some q=>
   rw[e] at c;simp only[au] at c;obtain⟨_,c⟩:=bh c;injection c with c;subst c
   have:=R q (tS e).1;omega
 obtain⟨v0,q0,a0,b0,c0,d0⟩:=u J;obtain⟨v2,q2,a2,b2,c2,d2⟩:=u I;have M:=tK jA FK v8 (s:=s.top) N.mb J;have k2:=tK jA FK v8 (s:=s.top) N.mb I;rw[a0] at M;rw[a2] at k2;have B:=c0.ge;have H:=c2.ge;have s0:=Mu c0 d0 m;have s2:=Mu c2 d2 m;have ht:GP l o=(q0.contains m&&q2.contains m):=by
  unfold GP;rw[d];simp only[List.getD_cons_zero,List.getD_cons_succ,b0,b2]
 refine aq.ofZ hP hH aic F w rfl ?_;refine co ?_;cases e0:q0.contains m with
 |false=>
  rw[e0] at s0;simp only[go_sem,hP,hh,seval,Obj.val,Obj.cells,rc,Y,Z,V,D,C,aW,aY,xL,i0,i1,M,B,j,s0,ht,e0]
 |true=>
  rw[e0] at s0;simp only[go_sem,hP,hh,seval,Obj.val,Obj.cells,rc,Y,Z,V,D,C,aW,aY,xL,i0,i1,i2,M,k2,B,H,j,s0,s2,ht,e0]
theorem ZJ(d:Q.spec 238=none)(c:Q.specW 238=none){u w:Nat}{x y:Bool}{m j:ag}(C:s.get [] u=some (.cells [.bool x,.bool y]))(D:s.get [] w=some (.cells [.str m,.str j]))(k:ag):aq Q 238 [.str k,.ptr u 0,.ptr w 0] s (.bool ((x&&m==k)||(y&&j==k))) s:=by
 have B:dS (.int .i64 0)=some 0:=rfl;have z:dS (.int .i64 1)=some 1:=rfl;refine aq.ofZ hP hH ajo d c rfl ?_;refine co ?_;cases x<;>cases y<;>cases h1:m==k<;>cases h2:j==k<;>
  simp only[go_sem,hP,hh,seval,C,D,aW,aY,B,z,Nc,agU,h1,h2,Bool.or_self]
end
def mR(l:List Obj)(r:ag):ag×ag:=Av ((kB l r).getD [])
def nj(l:List Obj)(c:List ag):ag×ag×Bool×Bool:=match c.map (mR l) with
 | []=>([],[],true,true)
 |e::r=>r.foldl Bn (e.1,e.2,true,true)
def ard(l:List Obj){c:List ag}(r:ag)(h:c≠ []):nj l (c++[r])=Bn (nj l c) (mR l r):=by
 cases c with
 |nil=>exact absurd rfl h
 |cons x c=>
  unfold nj;simp only[List.cons_append,fy,ff,uB,List.foldl_append,uA,List.foldl_nil]
def aev(l:List Obj)(o:Obj):Et l o=((nj l o.gE).2.2.1||(nj l o.gE).2.2.2):=by
 have e:(o.gE.map fun r=>Av ((kB l r).getD []))=o.gE.map (mR l):=rfl;unfold Et nj;rw[e];cases o.gE.map (mR l) with
 |nil=>rfl
 |cons x r=>rfl
def asP{r:List ag}(h:2<=r.length):r[0]? =some (Av r).1/\r[r.length-1]? =some (Av r).2:=by
 cases r with
 |nil=>simp at h
 |cons x r=>
  refine⟨rfl,?_⟩;unfold Av;rw[<-List.getLast?_eq_getElem?];simp[List.getLast?_cons]
section
variable{Q:aH}(hP:Q.P=ae)(hh:Q.hint=ai)(hH: ∀f,Q.specH f=none)
include hP hh hH
theorem aew(y:Q.spec 238=none)(O:Q.specW 238=none)(hg: ∀o∈l,o.Al)(a7:(l.map Obj.id).Nodup)(hw: ∀o∈l,an o.uP 2=true->2<=o.gE.length)(a9: ∀o∈l,o.gE.length<=900000){s0:St}(N:sK l ov p a b s0)(pl:p<lo)(al:a<lo)(bl:b<lo)(go:o.Al)(hr:o.gE.length<=900000)(hs: ∀r∈o.gE,(kB l r).isSome=true)(hx: ∀e lc s,ac e 6= .ptr (lo+1) 0->s.get [] (lo+1)=some (.cells [.bool (nj l o.gE).2.2.1,.bool (nj l o.gE).2.2.2])->(∀k,k<lo->s.get [] k=s0.get [] k)->s.aL=lo+2->s.gt<=s.aL->K (.exit 0) ⟨e,60,lc⟩ s):
 ∀(m c:List ag) (e:ax) (lc:Ag.Loc) (s:St),o.gE=c++m->s.get [] lo=some (.cells [.str (nj l c).1,.str (nj l c).2.1])->s.get [] (lo+1)=some (.cells [.bool (nj l c).2.2.1,.bool (nj l c).2.2.2])->(∀k,k<lo->s.get [] k=s0.get [] k)->s.aL=lo+2->s.gt<=s.aL->ac e 0= .ptr p 0->ac e 5= .ptr lo 0->ac e 6= .ptr (lo+1) 0->ac e 15=o.refsV->ac e 16= .int .i64 (o.gE.length:Nat)->ac e 17= .int .i64 (c.length:Nat)->W Q 144 (.loop Iv) ⟨e,60,lc⟩ s K:=by
 intro m
 induction m with
 |nil=>
  intro c e lc s h1 I d C hn B r0 Z Y J F D;have b0:c.length=o.gE.length:=by rw[h1];simp
  have a6:c=o.gE:=by rw[h1];simp
  refine bG ?_;simp only[go_sem,hP,hh,seval,Iv,F,D,b0,cD];rw[a6] at d;exact hx _ _ _ (by simp only[sN,seval,Y]) d C hn B
 |cons r m ih=>
  intro c e lc s h1 I d C hn B r0 Z Y J F D;have a3:c.length<o.gE.length:=by rw[h1];simp
  have a5:o.gE[c.length]? =some r:=by rw[h1];simp
  have a4:=fun lc k=>go.gE.at cH.2.2.1 a5 lc k;have a0:=dB (n:=c.length) (by omega);have a1:=hs r (eP a5);obtain⟨rr,H,w2,v,w3,w4,w5⟩:=(QJ a7 hg hw r).resolve_left fun h=>by rw[h.1] at a1;cases a1
  have b8:rr.length<=900000:=by
   unfold kB at H;cases e:dP r l with
   |none=>rw[e] at H;cases H
   |some q=>
    rw[e] at H;simp only[au] at H;obtain⟨_,H⟩:=bh H;injection H with H;subst H
    exact a9 q (tS e).1
  have he:mR l r=Av rr:=by unfold mR;rw[H];rfl
  obtain⟨f0,f1⟩:=asP w2;rw[<-he] at f0 f1;have i0: ∀lc,ja ae lc 25 v (.int .i64 0)=some (.ro [.str (mR l r).1]):=fun lc=>w4.at cH.2.2.1 (i:=0) f0 lc .i64;have i1: ∀lc,ja ae lc 25 v (.int .i64 ((rr.length-1:Nat):Int))=some (.ro [.str (mR l r).2]):=fun lc=>w4.at cH.2.2.1 f1 lc .i64;have R:IntKind.i64.wrap (((rr.length:Nat):Int)-1)=((rr.length-1:Nat):Int):=by rw[iC (by omega) (by omega)];omega
  have U:=w4.lenS cH;have vc:=w4.ge;have a2:=(C p pl).trans N.hp;have a8:bR aa.str s b (nm l l):=(C b bl).trans N.mb;have V:=tK jA FK v8 a8 r;rw[w3] at V;cases hz:an ((c.length:Nat):Int) 0 with
  |true=>
   have M:c=[]:=by
    have:((c.length:Nat):Int)=0:=by simpa[an] using hz
    exact uv (by omega)
   obtain⟨u,z⟩:=ct (s.put lo (some (.cells [.str (mR l r).1,.str (mR l r).2])));refine bG ?_;simp only[go_sem,hP,hh,seval,Iv,aG,r0,J,F,D,a3,a4,a2,aW,aY,V,vc,B,i0,i1,U,R,hz,bj,bg,aZ,bf,evc];simp only[go_sem,hP,hh,seval,Z,D,a0,I,dn,dp,z,bj,bg,aZ,bf,evc];have e1:nj l (c++[r])=((mR l r).1,(mR l r).2,true,true):=by rw[M];rfl
   refine ih (c++[r]) _ _ u (by rw[h1];simp) ?_ ?_ (fun k hk=>?_) ?_ ?_ ?_ ?_ ?_ ?_ ?_ ?_;rw[e1,<-z,aX,bS];rfl;rw[e1,<-z,aX,bN.2 (by omega:lo+1≠lo)];rw[M] at d;exact d;rw[<-z,aX,bN.2 (by omega:k≠lo)];exact C k hk;rw[<-z];exact hn;rw[<-z];exact dh s lo _ B
   all_goals simp only[sN,seval,r0,Z,Y,J,F,sA]
  |false=>
   have M:c≠ []:=fun e=>by rw[e] at hz;cases hz
   have c1:=ZJ hP hh hH y O (s:=s) d I (mR l r).2;have c2:=ZJ hP hh hH y O (s:=s) d I (mR l r).1;obtain⟨u,z⟩:=ct (s.put lo (some (.cells [.str (mR l r).1,.str (mR l r).2])));have b1:u.get [] (lo+1)=some (.cells [.bool (nj l c).2.2.1,.bool (nj l c).2.2.2]):=by rw[<-z,aX,bN.2 (by omega:lo+1≠lo)];exact d
   obtain⟨w,j⟩: ∃w,u.put (lo+1) (some (.cells [.bool (Bn (nj l c) (mR l r)).2.2.1,.bool (Bn (nj l c) (mR l r)).2.2.2]))=w:=⟨_,rfl⟩;simp only[Bn] at j;refine bG ?_;simp only[go_sem,hP,hh,seval,Iv,aG,r0,J,F,D,a3,a4,a2,aW,aY,V,vc,B,i0,i1,U,R,hz,bj,bg,aZ,bf,evc];simp only[go_sem,hP,hh,seval,Z,Y,y,rR,bj,bg,aZ,bf,evc];refine cG.of c1 (by decide) ?_;simp only[go_sem,hP,hh,seval,Z,Y,y];refine cG.of c2 (by decide) ?_;simp only[go_sem,hP,hh,seval,Z,Y,D,a0,I,b1,dn,dp,z,j,bj,bg,aZ,bf,evc];have e1:=ard l r M;refine ih (c++[r]) _ _ w (by rw[h1];simp) ?_ ?_ (fun k hk=>?_) ?_ ?_ ?_ ?_ ?_ ?_ ?_ ?_;rw[e1,<-j,aX,bN.2 (by omega:lo≠lo+1),<-z,cF,aX,bS];rfl;rw[e1,<-j,aX,bS];rfl;rw[<-j,aX,bN.2 (by omega:k≠lo+1),<-z,cF,aX,bN.2 (by omega:k≠lo)];exact C k hk;rw[<-j,<-z];exact hn;rw[<-j,<-z];exact dh _ _ _ (dh s lo _ B)
   all_goals simp only[sN,seval,r0,Z,Y,J,F,sA]
theorem aeu(C:Q.spec 144=none)(j:Q.specW 144=none)(B:Q.spec 238=none)(d:Q.specW 238=none)(hg: ∀o∈l,o.Al)(F:(l.map Obj.id).Nodup)(hw: ∀o∈l,an o.uP 2=true->2<=o.gE.length)(I: ∀o∈l,o.gE.length<=900000)(N:sK l ov p a b s)(pl:p<s.aL)(al:a<s.aL)(bl:b<s.aL)(H:s.gt<=s.aL)(go:o.Al)(hr:o.gE.length<=900000)(hs: ∀r∈o.gE,(kB l r).isSome=true):
 ∃v s',aq Q 144 [.ptr p 0,o.val] s v s'/\(v= .bool (Et l o)/\(∀k,k<s.aL->s'.get [] k=s.get [] k)/\s.aL<=s'.aL/\s'.gt<=s'.aL):=by
 have rc:=go.gE.ge;have tc:=go.gT.ge;have rs:=go.gE.scal;have ts:=go.gT.scal;have J:=go.gE.lenS cH;have U:dS (.int .i64 0)=some 0:=rfl;have R:dS (.int .i64 1)=some 1:=rfl;obtain⟨z,m⟩:=ct (s.new (.cells [.str [],.str []]));have O:z.aL=s.aL+1:=by rw[<-m];rfl
 obtain⟨y,c⟩:=ct ((z.new (.cells [.bool false,.bool false])).put (s.aL+1) (some (.cells [.bool true,.bool true])));have M:(z.new (.cells [.bool false,.bool false])).get [] (s.aL+1)=some (.cells [.bool false,.bool false]):=by rw[<-O];exact cW
 have Z:y.aL=s.aL+2:=by rw[<-c];show z.aL+1=_;omega
 have y1:y.get [] (s.aL+1)=some (.cells [.bool true,.bool true]):=by rw[<-c,aX,bS];rfl
 have y0:y.get [] s.aL=some (.cells [.str [],.str []]):=by rw[<-c,aX,bN.2 (by omega:s.aL≠s.aL+1),cF,cz (by omega),<-m];exact cW
 have Y: ∀k,k<s.aL->y.get [] k=s.get [] k:=fun k hk=>by rw[<-c,aX,bN.2 (by omega:k≠s.aL+1),cF,cz (by omega),<-m,cz hk]
 have ym:y.gt<=y.aL:=by
  rw[<-c,<-m];exact dh _ _ _ (cq (cq H))
 refine aq.ofWZ hP hH aia C j ?_;refine co ?_;simp only[go_sem,hP,hh,seval,Obj.val,Obj.cells,rc,tc,rs,ts,J,m,O,dn,M,dp,c,bj,bg,aZ,bf,evc];refine aew hP hh hH B d hg F hw I (lo:=s.aL) (s0:=s) N pl al bl go hr hs ?_ o.gE [] _ _ y rfl y0 y1 Y Z ym ?_ ?_ ?_ ?_ ?_ ?_;intro e lc s1 V D w a0 u;rw[aev];cases e1:(nj l o.gE).2.2.1 with
 |true=>
  rw[e1] at D;simp only[go_sem,hP,hh,seval,V,D,aW,aY,U,R,Nc];exact⟨_,rfl,rfl,w,by omega,u⟩
 |false=>
  rw[e1] at D;simp only[go_sem,hP,hh,seval,V,D,aW,aY,U,R,Nc];exact⟨_,rfl,rfl,w,by omega,u⟩
 all_goals simp only[abc,alb,ah,bQ]
 all_goals rfl
end
def Yo: ∀(l:List Obj) (last:ag),nP last l=true-> ∀q∈l,gH q=true
 | [],_,_,q,h=>by cases h
 |o::r,last,h,q,c=>by
  simp only[nP] at h;cases hb:(!gH o||Ag.leBytes o.id last) with
  |true=>rw[hb] at h;cases h
  |false=>
   rw[hb] at h;rcases fc.1 c with rfl|c
   simp only[v9,Bool.not_eq_false'] at hb;exact hb.1;exact Yo r o.id h q c
def XI(h:dD l=true)(c:o∈l):gH o=true:=by
 simp only[dD,bu] at h;exact Yo l [] h.1 o c
def arP(c:gH o=true)(j:an o.uP 5=true):o.gE.length=3:=by
 have d:o.uP=5:=by simpa[an] using j
 unfold gH at c;cases hb:oo o with
 |true=>rw[hb] at c;cases c
 |false=>
  rw[hb] at c;cases ha:pK o.uP [] [] o.gE with
  |true=>rw[ha] at c;cases c
  |false=>
   have m:an o.uP 1=false:=by rw[d];rfl
   rw[ha,m,j] at c;simp only[cF,cT,bu] at c;exact eq_of_beq c.1
def od(l:List Obj)(o:Obj):Bool:=an o.uP 4&&(ue l o&& !Et l o)
def mn(l:List Obj)(o:Obj):Bool:=an o.uP 5&&(ue l o&& !GP l o)
def X6(l:List Obj):List aa:=(l.filter (od l)).map (fun o=>fC 5 [o.id])++(l.filter (mn l)).map (fun o=>fC 6 [o.id])
def GQ(l:List Obj):aa:=fI 3 (X6 l)
structure sR (lo:Nat) (s:St) (ov cv:aa) (xs ys:List aa):Prop where
 l:cR 3 lo s ov xs
 r:cR 3 lo s cv ys
 ne: ∀k,ov= .list 3 xs (.own k)->cv= .list 3 ys (.own k)->False
variable{ys:List aa}{cv:aa}
def sR.swap(h:sR lo s ov cv xs ys):sR lo s cv ov ys xs:=⟨h.r,h.l,fun k a b=>h.ne k b a⟩
def sR.left(h:sR lo s ov cv xs ys)(B:s.gt<=s.aL)(m:lo<=s.aL)(w:xs.length<=900000)(x:aa):
 ∃c s',fF ae [] 35 ov (.list 3 [x] .GE) false s=some (c,s')/\sR lo s' c cv (xs++[x]) ys/\c.cells=[c]/\s.aL<=s'.aL/\s'.gt<=s'.aL/\ ∀n,n<lo->s'.get [] n=s.get [] n:=by
 obtain⟨s',O,M,Y,V,J,z⟩:=Sh j6.1 rfl (by decide) (y:=.list 3 [x] .GE) (ys:=[x]) h.l (by simp only[afo,eE]) (by simp) (by rw[List.length_singleton];omega) B;refine⟨_,s',O,⟨.inr ⟨by simp,s.aL,rfl,M,m,by omega⟩,?_,fun k d j=>?_⟩,rfl,by omega,J,fun n U=>z n (by omega) fun k C=>by have:=(h.l.token C).1;omega⟩;rcases h.r with I|⟨d,k,j,H,F,D⟩
 exact .inl I;refine .inr ⟨d,k,j,(z k D fun R u e=>?_).trans H,F,by omega⟩;subst e;exact h.ne k u j;injection d with _ _ d;injection d with d
 have:=(h.r.token j).2.1;omega
def sR.keep(h:sR lo s ov cv xs ys)(y: ∀k,k<s.aL->s'.get [] k=s.get [] k)(z:s.aL<=s'.aL):sR lo s' ov cv xs ys:=by
 refine⟨?_,?_,h.ne⟩;rcases h.l with w|⟨u,k,m,j,d,c⟩
 exact .inl w;exact .inr ⟨u,k,m,(y k c).trans j,d,by omega⟩;rcases h.r with w|⟨u,k,m,j,d,c⟩
 exact .inl w;exact .inr ⟨u,k,m,(y k c).trans j,d,by omega⟩
def alp{a b c:Int}(h:an a b=true)(d:b≠c):an a c=false:=by
 have h:a=b:=by simpa[an] using h
 subst h;exact bN.2 d
section
variable{Q:aH}(hP:Q.P=ae)(hh:Q.hint=ai)(hH: ∀f,Q.specH f=none)
include hP hh hH
theorem anf(F:Q.spec 143=none)(c6:Q.specW 143=none)(Y:Q.spec 144=none)(c5:Q.specW 144=none)(d2:Q.spec 238=none)(c3:Q.specW 238=none)(V:Q.spec 145=none)(c4:Q.specW 145=none)(d4:Q.spec 130=some pP)(ho:ay 6 Obj.val ov l)(hg: ∀o∈l,o.Al)(hl:l.length<=900000)(O: ∀o∈l,o.gE.length<=900000)(hv:dD l=true){s0:St}(N:sK l ov p a b s0)(pl:p<lo)(al:a<lo)(bl:b<lo)(hx: ∀e lc s rv tv,sR lo s rv tv ((l.filter (od l)).map fun o=>fC 5 [o.id]) ((l.filter (mn l)).map fun o=>fC 6 [o.id])->lo<=s.aL->s.gt<=s.aL->ac e 5=rv->ac e 6=tv->K (.exit 0) ⟨e,73,lc⟩ s):
 ∀(z c:List Obj) (e:ax) (lc:Ag.Loc) (s:St) (rv tv:aa),l=c++z->sR lo s rv tv ((c.filter (od l)).map fun o=>fC 5 [o.id]) ((c.filter (mn l)).map fun o=>fC 6 [o.id])->(∀k,k<lo->s.get [] k=s0.get [] k)->lo<=s.aL->s.gt<=s.aL->ac e 3= .ptr p 0->ac e 5=rv->ac e 6=tv->ac e 19=ov->ac e 20= .int .i64 (l.length:Nat)->ac e 21= .int .i64 (c.length:Nat)->W Q 61 (.loop yO) ⟨e,73,lc⟩ s K:=by
 have a9:=yK hv;have hw: ∀o∈l,an o.uP 2=true->2<=o.gE.length:=fun o ho R=>asN (l:=l) (XI hv ho) R;intro z
 induction z with
 |nil=>
  intro c e lc s rv tv Z T D b1 w u J I m j d;have e3:c.length=l.length:=by rw[Z];simp
  have e0:c=l:=by rw[Z];simp
  refine bG ?_;simp only[go_sem,hP,hh,seval,yO,j,d,e3,cD];rw[e0] at T;exact hx _ _ _ rv tv T b1 w (by simp only[sN,seval,J]) (by simp only[sN,seval,I])
 |cons o z ih=>
  intro c e lc s rv tv Z T D b1 w u J I m j d;have b0:c.length<l.length:=by rw[Z];simp
  have d1:l[c.length]? =some o:=by rw[Z];simp
  have M:=eP d1;have go:=hg o M;have rc:=go.gE.ge;have tc:=go.gT.ge;have rs:=go.gE.scal;have ts:=go.gT.scal;have b8:=fun lc k=>ho.at gX.2.2.1 d1 lc k;have y:=dB (n:=c.length) (by omega);have Ns:sK l ov p a b s:=N.mono D pl al bl;have H:=ara hP hh hH F c6 hg a9 hw Ns go (O o M);have c8:=T.l.ge;have c7:=T.r.ge;have lr:((c.filter (od l)).map fun o=>fC 5 [o.id]).length<=900000:=by
   rw[ce];have:=kT (od l) c;omega
  have lt:((c.filter (mn l)).map fun o=>fC 6 [o.id]).length<=900000:=by
   rw[ce];have:=kT (mn l) c;omega
  have fin: ∀(U:ax) (a8:Ag.Loc) (s':St),od l o=false->mn l o=false->(∀k,k<s.aL->s'.get [] k=s.get [] k)->s.aL<=s'.aL->s'.gt<=s'.aL->ac U 3= .ptr p 0->ac U 5=rv->ac U 6=tv->ac U 19=ov->ac U 20= .int .i64 (l.length:Nat)->ac U 21= .int .i64 ((c.length+1:Nat):Int)->W Q 61 (.loop yO) ⟨U,73,a8⟩ s' K:=fun U a8 s' C B d0 e1 e2 g3 g5 g6 e6 e5 e4=>
   ih (c++[o]) U a8 s' rv tv (by rw[Z];simp) (by rw[o9 C,o9 B];exact T.keep d0 e1) (fun k R=>(d0 k (by omega)).trans (D k R)) (by omega) e2 g3 g5 g6 e6 e5 (by rw[e4];simp)
  simp only[Obj.val,Obj.cells] at H;cases h4:an o.uP 4 with
  |true=>
   have k5:=alp h4 (by decide:(4:Int)≠5);have B:mn l o=false:=by unfold mn;rw[k5];rfl
   refine bG ?_;simp only[go_sem,hP,hh,seval,yO,u,m,j,d,b0,b8,h4,Obj.val,Obj.cells,rc,tc,rs,ts,F];refine cG.of H (by decide) ?_;cases hs:ue l o with
   |false=>
    have C:od l o=false:=by unfold od;rw[hs,dW,gN]
    simp only[go_sem,hP,hh,seval,u,d,y,k5];refine fin _ _ s C B (fun _ _=>rfl) (br _) w ?_ ?_ ?_ ?_ ?_ ?_
    all_goals simp only[sN,seval,u,J,I,m,j]
   |true=>
    have d7: ∀r∈o.gE,(kB l r).isSome=true:=fun r hr=>by
     obtain⟨i,hi⟩:=we hr;have hm:(i,r)∈(ix o.gE.length).zip o.gE:=by
      refine eP (i:=i) ?_;rw[La];refine⟨?_,hi⟩;rw[List.getElem?_range];exact(nY.1 hi).1
     unfold ue at hs
     have:=f8.1 hs _ hm;simp only[k5,dW,cF] at this;exact this
    have a7:=aeu hP hh hH Y c5 d2 c3 hg a9 hw O Ns (by omega) (by omega) (by omega) w go (O o M) d7;simp only[Obj.val,Obj.cells] at a7;simp only[go_sem,hP,hh,seval,u,Y,rc,tc,rs,ts];refine cG.ex a7 (by decide) ?_;rintro v s1 ⟨rfl,o1,c9,m1⟩;cases hc:Et l o with
    |true=>
     have C:od l o=false:=by unfold od;rw[hc,fp,gN,gN]
     simp only[go_sem,hP,hh,seval,u,d,y,k5];refine fin _ _ s1 C B o1 c9 m1 ?_ ?_ ?_ ?_ ?_ ?_
     all_goals simp only[sN,seval,u,J,I,m,j]
    |false=>
     have C:od l o=true:=by unfold od;rw[h4,hs,hc];rfl
     obtain⟨d6,s2,a1,a2,a3,a4,a5,a6⟩:=(T.keep o1 c9).left m1 (by omega) lr (fC 5 [o.id]);have e8:=a2.l.ge;simp only[fC,fy,uB,aG] at a1;simp only[go_sem,hP,hh,seval,aG,u,J,c8,bj,bg,aZ,bf,evc];simp only[go_sem,hP,hh,seval,aG,J,d,y,c8,a1,a3,bj,bg,aZ,bf,evc];refine ih (c++[o]) _ _ s2 d6 tv (by rw[Z];simp) (by rw[tm C,o9 B,ff];exact a2) (fun k R=>(a6 k R).trans ((o1 k (by omega)).trans (D k R))) (by omega) a5 ?_ ?_ ?_ ?_ ?_ ?_
     all_goals simp only[sN,seval,u,I,m,j,sA]
  |false=>
   have C:od l o=false:=by unfold od;rw[h4];rfl
   cases h5':an o.uP 5 with
   |false=>
    have B:mn l o=false:=by unfold mn;rw[h5'];rfl
    refine bG ?_;simp only[go_sem,hP,hh,seval,yO,u,m,j,d,b0,b8,h4,Obj.val,Obj.cells,rc,tc,rs,ts];simp only[go_sem,hP,hh,seval,yO,u,d,y,h5'];refine fin _ _ s C B (fun _ _=>rfl) (br _) w ?_ ?_ ?_ ?_ ?_ ?_
    all_goals simp only[sN,seval,u,J,I,m,j]
   |true=>
    have a0:=amx hP hh hH V c4 d4 hg a9 hw O Ns w go (arP (XI hv M) h5');simp only[Obj.val,Obj.cells] at a0;refine bG ?_;simp only[go_sem,hP,hh,seval,yO,u,m,j,d,b0,b8,h4,Obj.val,Obj.cells,rc,tc,rs,ts];simp only[go_sem,hP,hh,seval,yO,u,h5',rc,tc,rs,ts,F];refine cG.of H (by decide) ?_;cases hs:ue l o with
    |false=>
     have B:mn l o=false:=by unfold mn;rw[hs,dW,gN]
     simp only[go_sem,hP,hh,seval,u,d,y];refine fin _ _ s C B (fun _ _=>rfl) (br _) w ?_ ?_ ?_ ?_ ?_ ?_
     all_goals simp only[sN,seval,u,J,I,m,j]
    |true=>
     simp only[go_sem,hP,hh,seval,u,V,rc,tc,rs,ts];refine cG.of a0 (by decide) ?_;cases ht:GP l o with
     |true=>
      have B:mn l o=false:=by unfold mn;rw[ht,fp,gN,gN]
      simp only[go_sem,hP,hh,seval,u,d,y];refine fin _ _ s C B (fun _ _=>rfl) (br _) w ?_ ?_ ?_ ?_ ?_ ?_
      all_goals simp only[sN,seval,u,J,I,m,j]
     |false=>
      have B:mn l o=true:=by unfold mn;rw[h5',hs,ht];rfl
      obtain⟨d5,s2,a1,a2,a3,a4,a5,a6⟩:=T.swap.left w b1 lt (fC 6 [o.id]);have e7:=a2.l.ge;simp only[fC,fy,uB,aG] at a1;simp only[go_sem,hP,hh,seval,aG,u,I,c7,bj,bg,aZ,bf,evc];simp only[go_sem,hP,hh,seval,aG,I,d,y,c7,a1,a3,bj,bg,aZ,bf,evc];refine ih (c++[o]) _ _ s2 rv d5 (by rw[Z];simp) (by rw[o9 C,tm B,ff];exact a2.swap) (fun k R=>(a6 k R).trans (D k R)) (by omega) a5 ?_ ?_ ?_ ?_ ?_ ?_
      all_goals simp only[sN,seval,u,J,m,j,sA]
theorem adV(c6:Q.spec 31=some jK)(I:Q.spec 261=none)(m:Q.specW 261=none)(O:Q.spec 167=none)(z:Q.specW 167=none)(M:Q.spec 237=none)(w:Q.specW 237=none)(j:Q.spec 142=none)(F:Q.specW 142=none)(V:Q.spec 143=none)(D:Q.specW 143=none)(U:Q.spec 144=none)(C:Q.specW 144=none)(J:Q.spec 238=none)(u:Q.specW 238=none)(R:Q.spec 145=none)(B:Q.specW 145=none)(Y:Q.spec 130=some pP)(c5:Q.spec 61=none)(Z:Q.specW 61=none)(c:ay 6 Obj.val ov l)(hg: ∀o∈l,o.Al)(hl:l.length<=900)(hr: ∀o∈l,o.gE.length<=999)(d:dD l=true)(hm:s.gt<=s.aL):
 ∃v s',aq Q 61 [.agg [ov]] s v s'/\fY s'.heap v (GQ l):=by
 have H:=c.ge;have b0:=c.scal;have c4:=c.lenS gX;refine aq.ofWZ hP hH ak5 c5 Z ?_;refine co ?_;simp only[go_sem,hP,hh,seval,H,b0,j,bj,bg,aZ,bf,evc];refine cG.ex (anF hP hh hH c6 I m O z M w j F c hg (by omega) (fun o c=>by have:=hr o c;omega) d hm) (by decide) ?_;rintro v s1 ⟨rfl,N,c7,n1,m1⟩;have b1:=N.hp;simp only[go_sem,hP,hh,seval,fh,b1,aW,aY,H,c4];refine anf hP hh hH V D U C J u R B Y c hg (by omega) (fun o c=>by have:=hr o c;omega) d (lo:=s1.aL) (s0:=s1) N (by omega) (by omega) (by omega) ?_ l [] _ _ s1 .AL .AL rfl ⟨.inl ⟨rfl,rfl⟩,.inl ⟨rfl,rfl⟩,fun k h=>(by cases h)⟩ (fun _ _=>rfl) (br _) m1 ?_ ?_ ?_ ?_ ?_ ?_;intro e lc s2 rv tv T c3 b8 h5 h6;have a8:=T.l.ge;have a0:=T.r.ge;have he:eE [] true 3 tv s2=some ((l.filter (mn l)).map fun o=>fC 6 [o.id]):=by
  rcases T.r with⟨e1,e2⟩|⟨_,k,e1,_⟩
  rw[e1,e2];rfl;rw[e1];simp only[afo,eE]
 have hb:=kT (od l) l;have c9:=kT (mn l) l;obtain⟨c8,s3,a1,a2,a3,a4,a5,a6,a7⟩:=Eb (t:=35) j6.1 rfl (by decide) (s:=s2) (y:=tv) T.l he (by rw[ce,ce];omega) c3 b8;have a9:=a2.ge;simp only[go_sem,hP,hh,seval,h5,h6,a8,a0,a1,a7,a9];refine⟨_,rfl,4,AE a2 fun v d=>?_⟩;rcases lj.1 d with d|d
 obtain⟨i,_,rfl⟩:=dy.1 d;exact EF _ _ _;obtain⟨i,_,rfl⟩:=dy.1 d;exact EF _ _ _
 all_goals simp only[abc,alb,ah,bQ]
 all_goals rfl
end
def RE:dX:=[(31,jK),(130,pP)]
def ab4:dR RE:=.cons xd (.cons TH .nil)
def C3:Sp
 | [v]=>(lz v).bind fun l=>bif mU l then some (GQ l) else none
 |_=>none
def anc:db ae 61 C3:=by
 intro args u c G h w xs B D;unfold C3 at c;split at c;simp only[ak] at c;obtain⟨l,y,c⟩:=c;obtain⟨d,c⟩:=bh c;have c:=sI c;subst c;obtain⟨v,rfl,y,z,I⟩:=rk y;obtain⟨F,C,j,m⟩:=qQ y z;have j:en [.agg [v]]=[.agg [C]]:=by simp only[en,j]
 have d:=pf.1 d;refine j9 ab4 (W:=[]) .nil (args:=[.agg [v]]) (by simp only[eO,F,cw]) (fun H=>?_) G h w xs B D;rw[j];exact adV (Q:=QW RE [] H) rfl rfl (fun _=>rfl) rfl rfl rfl rfl rfl rfl rfl rfl rfl rfl rfl rfl rfl rfl rfl rfl rfl rfl rfl rfl m z d.len d.gE d.valid (by decide);cases c
def aI.cells(x:aI):List aa:=[.bool x.strict,.str x.area,.int .i64 x.uP,.str x.ifK,.str x.ifV,.int .i64 x.op,.str x.key,x.valuesV]
def aI.val(x:aI):aa:=.agg x.cells
structure aI.Ok (x:aI):Prop where
 vals:ay 1 aG x.valuesV x.values
 pv:bL x.valuesV=true
 area:x.area.length<small
 key:x.key.length<small
 ifK:x.ifK.length<small
 len:x.values.length<=1000000
def yI:Option ag->aa
 |some v=>.tup [.str v,.bool true]
 |none=>.tup [.str [],.bool false]
def mV:Sp
 | [v,.str k]=>(eX 2 uS v).bind fun l=>bif decide (l.length<=1000000) then some (yI (dM k l)) else none
 |_=>none
variable{l:List fE}
def M3(h:ay 2 jd v l)(c:l.length<=1000000)(k:ag):mV [v,.str k]=some (yI (dM k l)):=by
 simp only[adz,mV,mX Hz h,c,dT]
variable{tv:aa}
section
variable{Q:aH}(hP:Q.P=ae)(hh:Q.hint=ai)(hH: ∀f,Q.specH f=none)
include hP hh
theorem agA(M:ay 2 jd tv l)(R:l.length<=1000000)(J: ∀e lc,dM k l=none->K (.exit 0) ⟨e,21,lc⟩ s)(O: ∀e lc v,dM k l=some v->ac e 4= .str v->ac e 5= .bool true->K .ret ⟨e,21,lc⟩ s):
 ∀(d c:List fE) (e:ax) (lc:Ag.Loc),l=c++d->dM k l=dM k d->ac e 1= .str k->ac e 8=tv->ac e 9= .int .i64 (l.length:Nat)->ac e 10= .int .i64 (c.length:Nat)->W Q 214 (.loop IL) ⟨e,21,lc⟩ s K:=by
 intro d
 induction d with
 |nil=>
  intro c e lc y C z B w j;have F:c.length=l.length:=by rw[y];simp
  refine bG ?_;simp only[go_sem,hP,hh,seval,IL,w,j,F,cD];exact J _ _ C
 |cons t d I=>
  intro c e lc y C z B w j;have m:c.length<l.length:=by rw[y];simp
  have H:l[c.length]? =some t:=by rw[y];simp
  have u:=fun lc k=>M.at ub.2.2.1 H lc k;have D:=dB (n:=c.length) (by omega);refine bG ?_;cases hd:t.1==k with
  |true=>
   simp only[go_sem,hP,hh,seval,IL,jd,z,B,w,j,m,u,hd];refine O _ _ t.2 (by rw[C];simp only[dM,hd,cT]) ?_ ?_
   all_goals simp only[sN,seval]
  |false=>
   simp only[go_sem,hP,hh,seval,IL,jd,z,B,w,j,m,u,hd,D];refine I (c++[t]) _ _ (by rw[y];simp) (by rw[C];simp only[dM,hd,cF]) ?_ ?_ ?_ ?_
   all_goals simp only[sN,seval,z,B,w,sA]
include hH
theorem agz(d:Q.spec 214=none)(c:Q.specW 214=none)(m:ay 2 jd tv l)(z:l.length<=1000000)(k:ag)(s:St):aq Q 214 [tv,.str k] s (yI (dM k l)) s:=by
 have w:=m.lenS ub;have y:=m.ge;have j: ∃v s',aq Q 214 [tv,.str k] s v s'/\(v=yI (dM k l)/\s'=s):=by
  refine aq.ofWZ hP hH aix d c ?_;refine co ?_;simp only[go_sem,hP,hh,seval,w,y];refine agA hP hh m z (k:=k) ?_ ?_ l [] _ _ rfl rfl ?_ ?_ ?_ ?_;intro e lc u;simp only[go_sem,hP,hh,seval,u];exact⟨_,rfl,rfl⟩;intro e lc v u C B;simp only[go_sem,hP,hh,seval,u,C,B];exact⟨_,rfl,rfl⟩
  all_goals simp only[sN,seval,bn]
  all_goals rfl
 obtain⟨v,s',h,rfl,rfl⟩:=j;exact h
theorem abf(d:Q.spec 403=none)(c:Q.specW 403=none)(v:ag)(s:St):aq Q 403 [.str v] s (.bool (tF v)) s:=by
 refine aq.ofZ hP hH akt d c rfl ?_;refine co ?_;have j:cr ((v.length:Nat):Int) 200=decide (v.length<=200):=by
  unfold cr;by_cases h:v.length<=200;rw[dQ h,dQ];omega;rw[dN h,dN];omega
 cases hz:v== [] with
 |true=>
  have m:tF v=false:=by unfold tF;rw[hz];rfl
  simp only[go_sem,hP,hh,seval,hz,m]
 |false=>
  have m:tF v=decide (v.length<=200):=by unfold tF;rw[hz];rfl
  simp only[go_sem,hP,hh,seval,hz,m,j,lC]
theorem ann(c:Q.spec 403=none)(j:Q.specW 403=none)(m:Q.spec 404=none)(d:Q.specW 404=none)(v:ag)(s:St):aq Q 404 [.str v] s (.bool (!tF v)) s:=by
 refine aq.ofZ hP hH akv m d rfl ?_;refine co ?_;simp only[go_sem,hP,hh,seval,c];refine cG.of (abf hP hh hH c j v s) (by decide) ?_;simp only[go_sem,hP,hh,seval]
end
def UW:db ae 214 mV:=by
 intro j u c G B w xs m y;unfold mV at c;split at c;simp only[ak] at c;obtain⟨l,F,h⟩:=c;obtain⟨d,h⟩:=bh h;simp only[dE] at d;have h:=sI h;subst h;have z:=kr (fun _ _ h=>Hy h) F;obtain⟨D,C⟩:=pU Qw z;refine j9 (T:=[]) (W:=[]) .nil .nil (by simp only[eO,D,d8,bL,cw]) (fun I=>?_) G B w xs m y;refine⟨_,_,agz rfl rfl (fun _=>rfl) rfl rfl C d _ _,?_⟩;rename_i H k _;cases dM k l with
 |none=>exact⟨2,rfl⟩
 |some v=>exact⟨2,rfl⟩
 cases c
def LW(a b:Bool):eB ae .neq 4 (.bool a) (.bool b)=some (.bool (!(a==b))):=by kernel_rfl
def QA(a b a' b':List UInt8):eB ae .neq 92 (.agg [.str a,.str b]) (.agg [.str a',.str b'])=some (.bool (!((a==a')&&(b==b')))):=by
 have h:eB ae .neq 92 (.agg [.str a,.str b]) (.agg [.str a',.str b'])=((some (a==a')).bind fun r=>bif r then(some (b==b')).bind fun r=>bif r then some true else some false else some false).bind fun r=>some (.bool (!r)):=by kernel_rfl
 rw[h];cases a==a'<;>cases b==b'<;>rfl
def rA(x:aI):Bool:= !(x.area== [])&& !gU x.area
def rI(x:aI):Bool:= !((x.ifK== [])&&(x.ifV== []))&& !(gU x.ifK&&tF x.ifV)
def rO(x:aI):Bool:= !(an x.op 2)&&(!(an x.op 1)&& !(an x.op 3))
def rL(x:aI):Bool:= !(an x.op 2==decide (0<x.values.length))
def ap6(x:aI):t8 x=(bif rA x then false else bif bc x.uP 0 then false else bif bc 5 x.uP then false else bif !gU x.key then false else bif rI x then false else bif rO x then false else bif rL x then false else bif decide (60<x.values.length) then false else x.values.all tF):=rfl
def Ng(n:Nat):bc 0 ((n:Nat):Int)=decide (0<n):=by
 unfold bc;by_cases h:0<n;rw[dQ h,dQ];omega;rw[dN h,dN];omega
def Vo(n:Nat):bc 60 ((n:Nat):Int)=decide (60<n):=by
 unfold bc;by_cases h:60<n;rw[dQ h,dQ];omega;rw[dN h,dN];omega
variable{lc:Ag.Loc}{N:Fr->St->Prop}{x:aI}{e:ax}
section
variable{Q:aH}(hP:Q.P=ae)(hh:Q.hint=ai)(hH: ∀f,Q.specH f=none)
include hP hh
theorem aph(c:Q.spec 163=some jq)(y:x.Ok)(d:ac e 1= .Ge 1 1 0)(l1:lc.get 1 1=some x.cells)(u:lc.gen 1=1)(m: ∀j,ac j 7= .bool (rA x)->ac j 1= .Ge 1 1 0->ac j 3=ac e 3->N ⟨j,72,lc⟩ s)(z:True):WV Q 297 ajx ⟨e,72,lc⟩ s N:=by
 have w:=y7 y.area;have B:x.cells=[.bool x.strict,.str x.area,.int .i64 x.uP,.str x.ifK,.str x.ifV,.int .i64 x.op,.str x.key,x.valuesV]:=rfl;rw[B] at l1;unfold rA at m;cases hz:x.area== [] with
 |true=>
  simp only[go_sem,hP,hh,seval,ajx,ajy,ajz,d,l1,u,hz];refine m _ ?_ ?_ ?_
  all_goals simp only[sN,seval,d,hz]
  all_goals rfl
 |false=>
  simp only[go_sem,hP,hh,seval,ajx,ajy,ajz,d,l1,u,hz,c,w];refine m _ ?_ ?_ ?_
  all_goals simp only[sN,seval,d,hz]
  all_goals rfl
theorem apj(m:ac e 1= .Ge 1 1 0)(d:ac e 3= .bool (an x.op 2))(l1:lc.get 1 1=some x.cells)(w:lc.gen 1=1)(j: ∀c,ac c 45= .bool (rO x)->ac c 1= .Ge 1 1 0->ac c 3= .bool (an x.op 2)->N ⟨c,72,lc⟩ s):WV Q 297 ajz ⟨e,72,lc⟩ s N:=by
 have u:x.cells=[.bool x.strict,.str x.area,.int .i64 x.uP,.str x.ifK,.str x.ifV,.int .i64 x.op,.str x.key,x.valuesV]:=rfl;rw[u] at l1;unfold rO at j;cases e2:an x.op 2<;>cases e1:an x.op 1<;>
 ·rw[e2] at d
  simp only[go_sem,hP,hh,seval,ajx,ajy,ajz,m,l1,w,d,e1];refine j _ ?_ ?_ ?_
  all_goals simp only[sN,seval,m,d,e1,e2,fp,hG,Bool.and_true,eH,gN,dW]
include hH
theorem api(d:Q.spec 163=some jq)(c:Q.spec 403=none)(m:Q.specW 403=none)(B:x.Ok)(j:ac e 1= .Ge 1 1 0)(l1:lc.get 1 1=some x.cells)(y:lc.gen 1=1)(u: ∀w,ac w 27= .bool (rI x)->ac w 1= .Ge 1 1 0->ac w 3=ac e 3->N ⟨w,72,lc⟩ s):WV Q 297 ajy ⟨e,72,lc⟩ s N:=by
 have z:=y7 B.ifK;have C:x.cells=[.bool x.strict,.str x.area,.int .i64 x.uP,.str x.ifK,.str x.ifV,.int .i64 x.op,.str x.key,x.valuesV]:=rfl;rw[C] at l1;unfold rI at u;cases hz:((x.ifK== [])&&(x.ifV== [])) with
 |true=>
  simp only[go_sem,hP,hh,seval,ajx,ajy,ajz,j,l1,y,QA,hz,bj,bg,aZ,bf,evc];refine u _ ?_ ?_ ?_
  all_goals simp only[sN,seval,j,hz]
  all_goals rfl
 |false=>
  cases hn:gU x.ifK with
  |false=>
   simp only[go_sem,hP,hh,seval,ajx,ajy,ajz,j,l1,y,QA,hz,d,z,hn,bj,bg,aZ,bf,evc];refine u _ ?_ ?_ ?_
   all_goals simp only[sN,seval,j,hz,hn]
   all_goals rfl
  |true=>
   simp only[go_sem,hP,hh,seval,ajx,ajy,ajz,j,l1,y,QA,hz,d,z,hn,c,bj,bg,aZ,bf,evc];refine cG.of (abf hP hh hH c m x.ifV s) (by decide) ?_;simp only[go_sem,hP,hh,seval,ajx,ajy,ajz];refine u _ ?_ ?_ ?_
   all_goals simp only[sN,seval,j,hz,hn,eH,hG]
theorem ass(j:Q.spec 163=some jq)(C:Q.spec 403=none)(y:Q.specW 403=none)(B:Q.spec 404=none)(M:Q.specW 404=none)(a0:Q.spec 261=none)(R:Q.specW 261=none)(D:Q.spec 167=none)(U:Q.specW 167=none)(Z:Q.spec 297=none)(O:Q.specW 297=none)(z:x.Ok)(s:St):aq Q 297 [x.val] s (.bool (t8 x)) s:=by
 have q1:=y7 z.key;have vc:=z.vals.ge;have vs:=z.vals.scal;have F:=z.vals.lenS cH;have Y:=M7 hP hh hH a0 R D U z.vals z.len B (s:=s) (cap:=[]) (p:=fun v=> !tF v) fun v _=>ann hP hh hH C y B M v s;have V:Ag.Loc.get (Ag.Loc.set [] 1 1 x.cells) 1 1=some x.cells:=rfl;have d:Ag.Loc.gen (Ag.Loc.set [] 1 1 x.cells) 1=1:=rfl;obtain⟨lc,H⟩:=ct (Ag.Loc.set [] 1 1 x.cells);rw[H] at V d;have hc:x.cells=[.bool x.strict,.str x.area,.int .i64 x.uP,.str x.ifK,.str x.ifV,.int .i64 x.op,.str x.key,x.valuesV]:=rfl;have c:=V;rw[hc] at H c;rw[ap6];refine aq.ofZ hP hH ajw Z O rfl ?_;refine co ?_;simp only[go_sem,hP,hh,seval,aI.val,aI.cells,vc,vs,H,c,d];refine aph hP hh j z ?_ V d ?_ trivial;simp only[sN,seval];intro e1 I J a3;simp only[sN,seval] at a3;cases b1:rA x with
 |true=>
  rw[b1] at I;simp only[go_sem,hP,hh,seval,I,J,c,d]
 |false=>
  rw[b1] at I;cases b2:bc x.uP 0 with
  |true=>simp only[go_sem,hP,hh,seval,I,J,c,d,b2]
  |false=>
   cases b3:bc 5 x.uP with
   |true=>simp only[go_sem,hP,hh,seval,I,J,c,d,b2,b3]
   |false=>
    cases b4:gU x.key with
    |false=>simp only[go_sem,hP,hh,seval,I,J,c,d,b2,b3,b4,j,q1]
    |true=>
     simp only[go_sem,hP,hh,seval,I,J,c,d,b2,b3,b4,j,q1];refine api hP hh hH j C y z ?_ V d ?_;simp only[sN,seval,J];intro e2 w c1 c3;simp only[sN,seval,a3] at c3;cases b5:rI x with
     |true=>
      rw[b5] at w;simp only[go_sem,hP,hh,seval,w,c1,c,d]
     |false=>
      rw[b5] at w;simp only[go_sem,hP,hh,seval,w,c1,c,d];refine apj hP hh c1 c3 V d ?_;intro e3 m d1 d3;cases b6:rO x with
      |true=>
       rw[b6] at m;simp only[go_sem,hP,hh,seval,m,d1,c,d]
      |false=>
       rw[b6] at m;cases b7:rL x with
       |true=>
        have u:=b7;unfold rL at u;simp only[go_sem,hP,hh,seval,m,d1,d3,c,d,F,vc,Ng,LW,u]
       |false=>
        have u:=b7;unfold rL at u;cases b8:decide (60<x.values.length) with
        |true=>simp only[go_sem,hP,hh,seval,m,d1,d3,c,d,F,Ng,Vo,LW,u,b8,vc]
        |false=>
         simp only[go_sem,hP,hh,seval,m,d1,d3,c,d,F,Ng,Vo,LW,u,b8,vc,D];refine cG.of Y (by decide) ?_;simp only[go_sem,hP,hh,seval,BK]
end
def x7:aa->Option aI
 | .agg [.bool st,.str a,.int .i64 k,.str ik,.str iv,.int .i64 op,.str key,vv]=>(eX 1 jl vv).bind fun vs=>bif bL vv&&(bm a.length small&&(bm key.length small&&(bm ik.length small&&bw vs.length 1000000))) then some ⟨st,a,k,ik,iv,op,key,vv,vs⟩ else none
 |_=>none
def Sn(h:x7 v=some x):v=x.val/\x.Ok:=by
 unfold x7 at h;split at h;simp only[ak] at h;obtain⟨vs,d,h⟩:=h;obtain⟨c,h⟩:=bh h;injection h with h;subst h
 simp only[bu] at c;exact⟨rfl,kr (fun _ _ h=>pM h) d,c.1,fW c.2.1,fW c.2.2.1,fW c.2.2.2.1,fW c.2.2.2.2⟩;cases h
def acT(c:x.Ok):x7 x.val=some x:=by
 have d:=mX oc c.vals;have j:bm x.area.length small=true:=cP c.area;have b2:bm x.key.length small=true:=cP c.key;have b3:bm x.ifK.length small=true:=cP c.ifK;have b4:bw x.values.length 1000000=true:=cP c.len;simp only[adz,x7,aI.val,aI.cells,d,c.pv,j,b2,b3,b4,cw]
def XE: ∀ {xs:List aa} {l:List aI},iV x7 xs=some l-> ∀x∈l,x.Ok
 | [],l,h=>by simp only[iV,aJ] at h;subst h;intro o d;cases d
 |x::xs,l,h=>by
  simp only[iV,ak,aJ] at h;obtain⟨a,m,r,j,rfl⟩:=h;intro y c;rcases fc.1 c with rfl|c
  exact(Sn m).2;exact XE j y c
def XG: ∀ {l:List aI},(∀x∈l,x.Ok)->iV x7 (l.map aI.val)=some l
 | [],_=>rfl
 |x::l,h=>by
  simp only[fy,iV,acT (h x iL),au,XG (l:=l) fun y c=>h y (iE _ c)]
def sX(v:aa):Option (List aI):=(eX 8 x7 v).bind fun l=>bif bw l.length 1000000 then some l else none
variable{l:List aI}
def Ht(h:sX v=some l):ay 8 aI.val v l/\(∀x∈l,x.Ok)/\l.length<=1000000:=by
 unfold sX at h;simp only[ak] at h;obtain⟨m,c,h⟩:=h;obtain⟨j,h⟩:=bh h;injection h with h;subst h
 refine⟨kr (fun v a h=>(Sn h).1) c,?_,fW j⟩;unfold eX at c;split at c;injection c with c;subst c;intro o d;cases d
 obtain⟨_,c⟩:=bh c;exact XE c;cases c
def BM(h:ay 8 aI.val v l)(c: ∀x∈l,x.Ok)(d:l.length<=1000000):sX v=some l:=by
 have j:eX 8 x7 v=some l:=by
  rcases h with⟨rfl,rfl⟩|⟨r,rfl⟩
  rfl;simp only[afo,eX,XG c]
 have b:bw l.length 1000000=true:=cP d;simp only[adz,sX,j,b]
def Zq(c: ∀x∈l,x.Ok):pures (l.map aI.val)=true:=by
 rw[Bd];intro v j;obtain⟨x,d,rfl⟩:=dy.1 j;simp only[aI.val,aI.cells,bL,pures,(c x d).pv,cw]
def Kq(h:ay 8 aI.val v l)(c: ∀x∈l,x.Ok):d8 v=true/\ay 8 aI.val (de v) l:=by
 rcases h with⟨rfl,rfl⟩|⟨r,rfl⟩
 exact⟨rfl,.inl ⟨rfl,rfl⟩⟩;exact⟨by simpa[d8] using Zq c,.inr (by
  simp only[de,lh (Zq c)];exact⟨_,rfl⟩)⟩
variable{sv:aa}
section
variable{Q:aH}(hP:Q.P=ae)(hh:Q.hint=ai)(hH: ∀f,Q.specH f=none)
include hP hh
theorem ahc(hs:ay 8 aI.val sv l)(F: ∀x∈l,x.Ok)(U:l.length<=1000000)(y:Q.spec 296=none)(hg: ∀x∈l,aq Q 296 [x.val] s (.bool (!t8 x)) s){r:Int}(Z: ∀e,r= -1->K (.exit 0) ⟨e,19,lc⟩ s)(hr: ∀e,ac e 4= .int .i64 r->K .ret ⟨e,19,lc⟩ s):
 ∀(d c:List aI) (e:ax),l=c++d->r=kJ (fun x=> !t8 x) d c.length->ac e 0=sv->ac e 1= .func (.func 296) [] []->ac e 7= .int .i64 (l.length:Nat)->ac e 8= .int .i64 (c.length:Nat)->W Q 402 (.loop Ob) ⟨e,19,lc⟩ s K:=by
 intro d
 induction d with
 |nil=>
  intro c e z C O M B w;have I:c.length=l.length:=by rw[z];simp
  refine bG ?_;simp only[go_sem,hP,hh,seval,Ob,B,w,I,cD];exact Z _ C
 |cons x d Y=>
  intro c e z C O M B w;have H:c.length<l.length:=by rw[z];simp
  have u:l[c.length]? =some x:=by rw[z];simp
  have m:=eP u;have R:=F x m;have V:=R.vals.ge;have vs:=R.vals.scal;have J:=fun lc k=>hs.at t9.2.2.1 u lc k;have D:=dB (n:=c.length) (by omega);have j:=hg x m;simp only[aI.val,aI.cells] at j;refine bG ?_;simp only[go_sem,hP,hh,seval,Ob,O,M,B,w,H,J,aI.val,aI.cells,V,vs,y];refine cG.of j (by decide) ?_;cases hd:t8 x with
  |false=>
   simp only[go_sem,hP,hh,seval];exact hr _ (by simp only[sN,seval,w,C,kJ,hd,hG])
  |true=>
   simp only[go_sem,hP,hh,seval,w,D];refine Y (c++[x]) _ (by rw[z];simp) (by rw[C];simp only[kJ,hd,fp,cF,sA]) ?_ ?_ ?_ ?_
   all_goals simp only[sN,seval,O,M,B,sA]
include hH
theorem ap8(a2:Q.spec 163=some jq)(Y:Q.spec 403=none)(B:Q.specW 403=none)(V:Q.spec 404=none)(z:Q.specW 404=none)(Z:Q.spec 261=none)(I:Q.specW 261=none)(a1:Q.spec 167=none)(M:Q.specW 167=none)(j:Q.spec 297=none)(D:Q.specW 297=none)(m:Q.spec 296=none)(F:Q.specW 296=none)(d:Q.spec 402=none)(C:Q.specW 402=none)(u:Q.spec 295=none)(H:Q.specW 295=none)(a0:Q.spec 216=none)(J:Q.specW 216=none)(hs:ay 8 aI.val sv l)(O: ∀x∈l,x.Ok)(R:l.length<=1000000)(s:St):aq Q 216 [sv] s (.bool (oH l)) s:=by
 have c:=hs.ge;have y:=hs.lenS t9;have a4: ∀x∈l,aq Q 296 [x.val] s (.bool (!t8 x)) s:=fun x hx=>by
  have ok:=O x hx;have vc:=ok.vals.ge;have vs:=ok.vals.scal;have w:=ass hP hh hH a2 Y B V z Z I a1 M j D ok s;simp only[aI.val,aI.cells] at w;refine aq.ofZ hP hH aju m F rfl ?_;refine co ?_;simp only[go_sem,hP,hh,seval,aI.val,aI.cells,vc,vs,j];refine cG.of w (by decide) ?_;simp only[go_sem,hP,hh,seval]
 have a3:aq Q 402 [sv,.func (.func 296) [] []] s (cd (kJ (fun x=> !t8 x) l 0)) s:=by
  refine aq.ofZ hP hH akr d C rfl ?_;refine co ?_;simp only[go_sem,hP,hh,seval,y,c];refine ahc hP hh hs O R m a4 (r:=kJ (fun x=> !t8 x) l 0) ?_ ?_ l [] _ rfl rfl ?_ ?_ ?_ ?_;intro e hq;simp only[go_sem,hP,hh,seval,hq];rfl;intro e h4;simp only[go_sem,hP,hh,seval,h4];rfl
  all_goals simp only[sN,seval,bn]
  all_goals rfl
 have a5:aq Q 295 [sv,.func (.func 296) [] []] s (.bool (l.any fun x=> !t8 x)) s:=by
  refine aq.ofZ hP hH ajs u H rfl ?_;refine co ?_;simp only[go_sem,hP,hh,seval,c,d];refine cG.of a3 (by decide) ?_;simp only[go_sem,hP,hh,seval,cd,kE,EG]
 have U:cr ((l.length:Nat):Int) 200=decide (l.length<=200):=by
  unfold cr;by_cases h:l.length<=200;rw[dQ h,dQ];omega;rw[dN h,dN];omega
 refine aq.ofZ hP hH aiz a0 J rfl ?_;refine co ?_;cases hz:decide (l.length<=200) with
 |false=>
  have hr:oH l=false:=by unfold oH;rw[hz];rfl
  simp only[go_sem,hP,hh,seval,c,y,U,hz,hr]
 |true=>
  have hr:oH l=l.all t8:=by unfold oH;rw[hz];rfl
  simp only[go_sem,hP,hh,seval,c,y,U,hz,u];refine cG.of a5 (by decide) ?_;simp only[go_sem,hP,hh,seval,BK,hr]
end
def Bh:Sp
 | [v]=>(sX v).bind fun l=>some (.bool (oH l))
 |_=>none
def ap9(h:ay 8 aI.val v l)(c: ∀x∈l,x.Ok)(d:l.length<=1000000):Bh [v]=some (.bool (oH l)):=by
 simp only[Bh,BM h c d,au]
def RQ:dX:=[(163,jq)]
def acg:dR RQ:=.cons O3 .nil
def aqa:db ae 216 Bh:=by
 intro m u c G C w xs y z;unfold Bh at c;split at c;simp only[ak] at c;obtain⟨l,H,h⟩:=c;have h:=sI h;subst h;obtain⟨B,j,d⟩:=Ht H;obtain⟨F,D⟩:=Kq B j;refine j9 acg (W:=[]) .nil (by simp only[eO,F,cw]) (fun I=>?_) G C w xs y z;exact⟨_,_,ap8 (Q:=QW RQ [] I) rfl rfl (fun _=>rfl) rfl rfl rfl rfl rfl rfl rfl rfl rfl rfl rfl rfl rfl rfl rfl rfl rfl rfl rfl D j d _,⟨1,rfl⟩⟩;cases c
def t7(l:List Obj)(f:Obj->List (Pt×Bool))(k:Int):Nat->List ag->List (Pt×Bool)
 |_,[]=>[]
 |i,r::rs=>match dP r l with
  |some q=>bif an q.uP (kR k i) then f q++t7 l f k (i+1) rs else [((0,0),false)]
  |none=>[((0,0),false)]
def tR(l:List Obj):Nat->Obj->List (Pt×Bool)
 |0,_=>[]
 |n+1,o=>bif an o.uP 1 then [((o.x,o.y),true)] else t7 l (tR l n) o.uP 0 o.gE
structure kV (lo:Nat) (Kp:Nat->Prop) (s s':St):Prop where
 get: ∀k,(Kp k\/lo<=k)->k<s.aL->s'.get [] k=s.get [] k
 nx:s.aL<=s'.aL
 mw:s'.gt<=s'.aL
variable{Kp:Nat->Prop}
def kV.refl(h:s.gt<=s.aL):kV lo Kp s s:=⟨fun _ _ _=>rfl,br _,h⟩
def kV.trans{c:St}(h:kV lo Kp s s')(k:kV lo Kp s' c):kV lo Kp s c:=
 ⟨fun j d m=>(k.get j d (by have:=h.nx;omega)).trans (h.get j d m),Nat.le_trans h.nx k.nx,k.mw⟩
def kV.all(j: ∀k,k<s.aL->s'.get [] k=s.get [] k)(c:s.aL<=s'.aL)(d:s'.gt<=s'.aL):kV lo Kp s s':=⟨fun k _ h=>j k h,c,d⟩
structure D2 (Q:aH) (n lo:Nat) (Kp:Nat->Prop) (seq:List (Pt×Bool)) (P:Nat->St->Prop) (D:St->Prop):Prop where
 step: ∀i x s,seq[i]? =some x->P i s->lo<=s.aL->s.gt<=s.aL-> ∃v s',ji Q n [aU x.1,.bool x.2] s v s'/\(kV lo Kp s s'/\((v= .bool true/\P (i+1) s')\/(v= .bool false/\D s')))
 grow: ∀i s s',P i s->(∀k,k<lo->s'.get [] k=s.get [] k)->P i s'
 growD: ∀s s',D s->(∀k,k<lo->s'.get [] k=s.get [] k)->D s'
 kpl: ∀k,Kp k->k<lo
structure z7 (l:List Obj) (p b bo bp:Nat) (q:Obj) (s:St):Prop where
 o:s.get [] bo=some (.cells q.cells)
 q:s.get [] bp=some (.cells [.ptr p 0])
 hp: ∃av bv,s.get [] p=some (.cells [av,.map b,bv])
 m:bR aa.str s b (kx l)
 lo:bo<s.aL
 lq:bp<s.aL
 lp:p<s.aL
 lm:b<s.aL
variable{q:Obj}
def z7.kept{l:List Obj}{d c:Nat}(h:z7 l p b d c q s)(k:kV lo Kp s s')(B:Kp d\/lo<=d)(z:Kp c\/lo<=c)(y:Kp p\/lo<=p)(w:Kp b\/lo<=b):z7 l p b d c q s':=by
 have j:=k.nx;obtain⟨C,bv,u⟩:=h.hp;exact⟨(k.get d B h.lo).trans h.o,(k.get c z h.lq).trans h.q,⟨C,bv,(k.get p y h.lp).trans u⟩,(k.get b w h.lm).trans h.m,hJ h.lo j,hJ h.lq j,hJ h.lp j,hJ h.lm j⟩
def Lk(Q:aH)(l:List Obj)(p b:Nat)(f:Obj->List (Pt×Bool))(q:Obj):Prop:=
 ∀(n lo d c:Nat) (Kp:Nat->Prop) (P:Nat->St->Prop) (D:St->Prop) (s:St),D2 Q n lo Kp (f q) P D->(Kp d\/lo<=d)->(Kp c\/lo<=c)->(Kp p\/lo<=p)->(Kp b\/lo<=b)->z7 l p b d c q s->lo<=s.aL->s.gt<=s.aL->P 0 s->
  ∃v s',aq Q 473 [.yld n,.ptr d 0,.ptr c 0] s v s'/\(v= .tup []/\kV lo Kp s s'/\(P (f q).length s'\/D s'))
section
variable{Q:aH}(hP:Q.P=ae)(hh:Q.hint=ai)(hH: ∀f,Q.specH f=none)
include hP hh hH
theorem alq(j:Q.spec 474=none)(c:Q.specW 474=none)(go:o.Al)(i:Nat)(s:St):aq Q 474 [o.val,.int .i64 (i:Nat)] s (cd (kR o.uP i)) s:=by
 have y:=go.gE.ge;have u:=go.gT.ge;have w:=go.gE.scal;have m:=go.gT.scal;have d:an ((i:Nat):Int) 1=(i==1):=by
  unfold an;by_cases h:i=1;rw[h];rfl;rw[bN.2 h,bN];omega
 refine aq.ofZ hP hH akV j c rfl ?_;refine co ?_;cases e4:an o.uP 4 with
 |true=>simp only[go_sem,hP,hh,seval,Obj.val,Obj.cells,y,u,w,m,e4,kR,cd,Bool.true_or]
 |false=>
  cases e5:an o.uP 5 with
  |false=>simp only[go_sem,hP,hh,seval,Obj.val,Obj.cells,y,u,w,m,e4,e5,kR,cd,kg,dW]
  |true=>
   cases e1:i==1 with
   |true=>simp only[go_sem,hP,hh,seval,Obj.val,Obj.cells,y,u,w,m,e4,e5,d,e1,kR,cd,kg,eH,fp]
   |false=>simp only[go_sem,hP,hh,seval,Obj.val,Obj.cells,y,u,w,m,e4,e5,d,e1,kR,cd,kg,eH,hG]
theorem Ya(d:Q.spec 405=none)(c:Q.specW 405=none)(j:q.Al)(p:Nat)(s:St):aq Q 405 [.ptr p 0,q.val] s (.func (.func 473) [] [.ptr (s.aL+1) 0,.ptr s.aL 0]) ((s.new (.cells [.ptr p 0])).new (.cells q.cells)):=by
 have y:=j.gE.ge;have u:=j.gT.ge;have w:=j.gE.scal;have m:=j.gT.scal;have z:(s.new (.cells [.ptr p 0])).aL=s.aL+1:=rfl;refine aq.ofZ hP hH akx d c rfl ?_;refine co ?_;simp only[go_sem,hP,hh,seval,Obj.val,Obj.cells,y,u,w,m,L9,z,bj,bg,aZ,bf,evc]
end
noncomputable abbrev JD(E:ax)(x:Option Ex):aR:=.loop 473 E 58 [50,51] Fo Fp x
section
variable{Q:aH}(hP:Q.P=ae)(hh:Q.hint=ai)(hH: ∀f,Q.specH f=none)
include hP hh
theorem ahk{bz m base:Nat}{seq seqI:List (Pt×Bool)}{P:Nat->St->Prop}{D:St->Prop}(C:D2 Q n lo Kp seq P D)(hs: ∀i x,seqI[i]? =some x->seq[base+i]? =some x){E:ax}(e3:ac E 3= .ptr bz 0)(zl:lo<=bz)(zm:bz<m):
 D2 Q m (m+1) (fun k=>Kp k\/(lo<=k/\k<m)) seqI (fun i s=>P (base+i) s/\s.get [] m=some (JD E none)/\s.get [] bz=some (.cells [.yld n])) (fun s=>D s/\s.get [] m=some (JD E (some .ret))):=by
 have j:=C.kpl;refine⟨fun i x s hx ⟨J,F,R⟩ a0 M=>?_,fun i s s' ⟨J,F,R⟩ u=>⟨C.grow _ _ _ J fun k j=>u k (by omega),(u m (by omega)).trans F,(u bz (by omega)).trans R⟩,fun s s' ⟨hd,F⟩ u=>⟨C.growD _ _ hd fun k j=>u k (by omega),(u m (by omega)).trans F⟩,fun k d=>?_⟩;refine ji.any (ca:=Oc) (cb:=Od) F rfl rfl akR akS ?_;refine co ?_;obtain⟨w,H⟩:=ct (s.put m none);have wn:w.aL=s.aL:=by rw[<-H];rfl
 obtain⟨z,B⟩:=ct ((w.new (.cells [.int .i64 0,.int .i64 0])).put w.aL (some (.cells [.int .i64 x.1.1,.int .i64 x.1.2])));have zn:z.aL=s.aL+1:=by rw[<-B];show w.aL+1=_;omega
 have I: ∀k,k<s.aL->k≠m->z.get [] k=s.get [] k:=fun k j c=>by rw[<-B,aX,bN.2 (by omega:k≠w.aL),cF,cz (by omega),<-H,aX,bN.2 c];rfl
 have Y:z.gt<=z.aL:=by
  rw[<-B];refine dh _ _ _ (cq ?_);rw[<-H];exact dh _ _ _ M
 have zk:z.get [] w.aL=some (.cells [.int .i64 x.1.1,.int .i64 x.1.2]):=by rw[<-B,aX,bS];rfl
 have U:z.get [] bz=some (.cells [.yld n]):=(I bz (by omega) (by omega)).trans R;have O:(w.new (.cells [.int .i64 0,.int .i64 0])).get [] w.aL=some (.cells [.int .i64 0,.int .i64 0]):=cW;have Z:P (base+i) z:=C.grow _ _ _ J fun k j=>I k (by omega) (by omega);obtain⟨v,y,V,K1,hv⟩:=C.step (base+i) x z (hs i x hx) Z (by omega) Y;simp only[aU] at V;have n1:=K1.nx;have fin: ∀o,kV (m+1) (fun k=>Kp k\/(lo<=k/\k<m)) s (y.put m o):=fun o=>by
  refine⟨fun k d hl=>?_,by show s.aL<=y.aL;omega,dh _ _ _ K1.mw⟩;have c:k≠m:=by
   rcases d with(h|h)|h
   have:=j k h;omega;omega;omega
  rw[aX,bN.2 c];refine(K1.get k ?_ (by omega)).trans (I k hl c);rcases d with(h|h)|h
  exact .inl h;exact .inr h.1;exact .inr (by omega)
 have b1:y.get [] bz=some (.cells [.yld n]):=(K1.get bz (.inr zl) (by omega)).trans U;have same: ∀o k,k<lo->(y.put m o).get [] k=y.get [] k:=fun o k j=>by rw[aX,bN.2 (by omega:k≠m)];rfl
 simp only[go_sem,hP,hh,seval,Oc,H,aU,dn,O,dp,B,bj,bg,aZ,bf,evc];refine co ?_;simp only[go_sem,hP,hh,seval,Od,e3,U,zk,aW,aY,bj,bg,aZ,bf,evc];refine zN.of V (by decide) ?_;rcases hv with⟨rfl,p1⟩|⟨rfl,d1⟩
 simp only[go_sem,hP,hh,seval,jI,jL];refine⟨fin _,.inl ⟨C.grow _ _ _ p1 (same _),?_,?_⟩⟩;rw[aX,bS];rfl;rw[aX,bN.2 (by omega:bz≠m)];exact b1;simp only[go_sem,hP,hh,seval,jI,jL];refine⟨fin _,.inr ⟨C.growD _ _ d1 (same _),?_⟩⟩;rw[aX,bS];rfl;rcases d with h|h
 have:=j k h;have:=C.kpl k h;omega;omega
end
