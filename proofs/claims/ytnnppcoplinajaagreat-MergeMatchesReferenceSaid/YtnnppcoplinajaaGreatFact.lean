/- The closed facts of the row. -/
import Derived.Test.YtnnppcoplinajaaGreatX1
import Derived.Test.YtnnppcoplinajaaGreatX2
import Derived.Test.YtnnppcoplinajaaGreatX3
import Derived.Test.YtnnppcoplinajaaGreatX4
import Derived.Test.YtnnppcoplinajaaGreatX5
set_option linter.defProp false
namespace Go.Proofs.YtnnppcoplinajaaGreat
def abi:Tryz.pinned.checked.prog.funcNamed Rows.mergeMatchesReferenceRow.func=some 12:=by kernel_rfl
def abj:Tryz.pinned.checked.prog.inPlace 12=Rows.mergeMatchesReferenceRow.inPlace:=by kernel_rfl
def abl:Tryz.pinned.checked.prog.unfollowed 12=true:=by kernel_rfl
def abk:Tryz.pinned.checked.prog.recurses 12=true:=by kernel_rfl
def abm:Tryz.pinned.checked.prog.varsNamed 12=[]:=by kernel_rfl
def abh:joinedFacts Tryz.pinned.checked.prog 12 Tryz.f12 Rows.mergeMatchesReferenceSpec Rows.mergeMatchesReferenceRow=true:=by
 unfold joinedFacts;rw[abj,abl,abk,abm,acl,acp,act,aco,acq,acn,acr,acs,acm];kernel_rfl
def abg:Tryz.f12.isInstance Tryz.pinned.checked.prog Rows.mergeMatchesReferenceRow.origin Rows.mergeMatchesReferenceRow.targs:=of_decide_eq_true (by kernel_rfl)
def abn:Tryz.f12.isWrapper Tryz.pinned.checked.prog Rows.mergeMatchesReferenceRow.wrapper Rows.mergeMatchesReferenceRow.mainSum:=by unfold Func.isWrapper;first|(rw[if_pos (by decide+kernel)];kernel_rfl)|(rw[if_neg (by decide+kernel)];exact⟨rfl,rfl⟩)
