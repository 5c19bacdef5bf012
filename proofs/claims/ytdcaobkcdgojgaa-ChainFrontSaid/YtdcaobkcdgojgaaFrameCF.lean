/- The frame of ChainFront. -/
import Derived.Test.YtdcaobkcdgojgaaRows
import Derived.Test.YtdcaobkcdgojgaaZE4
namespace Go.Proofs.Ytdcaobkcdgojgaa.chainFront
open Go.ChangeShapes Go.WideShapes Go.ChangeAt Go.RowKit Go.Eng
set_option linter.unusedVariables false
theorem own:ownKnob Try.prog.godebug=none:=by kernel_rfl
theorem laidOut:laidOutB Try.prog=true:=by kernel_rfl
theorem uB:Try.prog.underlying 4=some .bool:=by kernel_rfl
theorem pars:Try.f3.params.toList=[22]:=by kernel_rfl
theorem ks:pks2Ok Try.prog [22] [.cols [.int .u64,.int .i64,.str,.str]]:=⟨⟨29,by kernel_rfl,by show structB Try.prog 29 [.int .u64,.int .i64,.str,.str]=true; kernel_rfl⟩,trivial⟩
theorem reads:∀ t ∈ ([22]:List TypeId),Try.prog.readableRec t=true /\ t < Try.prog.types.size:=by
 have:([22]:List TypeId).all (fun t=>Try.prog.readableRec t && decide (t < Try.prog.types.size))=true:=by kernel_rfl
 intro t ht
 have:=List.all_eq_true.1 this t ht
 simpa using this
set_option maxRecDepth 100000 in
theorem lifted {A:Summ} (hA:CallOk Try.prog 3 A) (hrun:∀ xs,inBVs [.cols [.int .u64,.int .i64,.str,.str]] xs->∃ t,A.run xs=some t /\ A.enc t=.bool true) {c:Code} (hb:Try.f3.body=some c) (hname:(Try.f3.name == "runtime.NumGoroutine")=false)
  (os:Os) (started:os.Started) (H:Type) (enc:TypeId × Value->H) :
  ReturnsInHanded {} Try.checked os 3 .any (Rows.chainFrontSpec.pre6 enc Try.prog Try.f3 Rows.chainFrontRow.domain false) (Rows.chainFrontSpec.post enc Try.prog Try.f3 false true false false):=by
 refine returnsInHanded_of_change_sized (C:=Try.checked) own started (by kernel_rfl) Try.func3
  (ChangeSpec.witness6 (enc:=enc) (C:=Try.checked) false ⟨#[],#[.slice none 0 0],[]⟩ 8 (by kernel_rfl) (by kernel_rfl) (by kernel_rfl) (by kernel_rfl)) ?_
 intro W base args ds gs before hval0 hW hcnd hwt _
 have hval:∀ (j:Nat) t v,Try.f3.params.toList[j]?=some t->args.toList[j]?=some v->Value.okWide Try.prog W .any base t v:=fun j t v h1 h2=>hval0 j t v (by simpa using h1) (by simpa using h2)
 have hW':=hW
 obtain ⟨p,q,hA0,hV,rfl,hfz,hnd⟩:=hW
 have hT:DataW.TrodAll enc Try.prog W 0 (fun _=>true) true Try.f3.params.toList args.toList ds p:=hA0
 rw [pars] at hT hval
 obtain ⟨rfl,rfl⟩:=trodVars_none hV
 have hwt':∀ n ∈ DataW.weightsEach Try.prog Try.f3.params.toList ds,n <= reachBytes:=weights_front hwt
 rw [pars] at hwt'
 obtain ⟨xs,hin,hav,hpl⟩:=open_all2 ks hval hwt' hT
 clear hA0 hval0
 obtain ⟨t,ht,het⟩:=hrun xs hin
 have hcalls:=(law_calls hA ht het (vs:=args.toList) (W:=W) hav Try.func3 hname hb)
 rw [show args.toList.toArray=args from rfl] at hcalls
 refine hcalls.mono fun e W' ⟨he,hbel⟩=>?_
 subst he
 have hback:=trodAll_below2 laidOut hbel reads hpl hT
 obtain ⟨d0,rfl⟩:=len1 (trodAll_len hT)
 refine ⟨_,rfl,[d0],[],_,[],p,[],hW',?_,?_,rfl,hbel.frame _,fun h=>by cases h⟩
 ·exact trodAll_cons_mk (shut_bool uB _) trodAll_mk0
 ·exact hback
theorem over {A:Summ} (hA:CallOk Try.prog 3 A) (hrun:∀ xs,inBVs [.cols [.int .u64,.int .i64,.str,.str]] xs->∃ t,A.run xs=some t /\ A.enc t=.bool true) {c:Code} (hb:Try.f3.body=some c) (hname:(Try.f3.name == "runtime.NumGoroutine")=false):Rows.ChainFrontSaid :=
 OpenClaim.holds_of_wide 3 Try.f3 rfl rfl rfl rfl rfl rfl rfl ⟨rfl,rfl,rfl,rfl,rfl⟩ rfl rfl rfl rfl rfl (by kernel_rfl) Try.func3 (by kernel_rfl)
  (of_decide_eq_true (by kernel_rfl)) (by unfold Func.isWrapper; first | (rw [if_pos (by decide +kernel)]; kernel_rfl) | (rw [if_neg (by decide +kernel)]; exact ⟨rfl,rfl⟩))
  (fun os started H enc _=>lifted hA hrun hb hname os started H enc)
end Go.Proofs.Ytdcaobkcdgojgaa.chainFront
