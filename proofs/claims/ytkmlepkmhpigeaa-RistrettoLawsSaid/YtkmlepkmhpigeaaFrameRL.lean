/- The frame of RistrettoLaws. -/
import Derived.Test.YtkmlepkmhpigeaaRows
import Derived.Test.YtkmlepkmhpigeaaZE3
import Derived.WalkKit
import Derived.ProofKit
import Derived.OpenShut
namespace Go.Proofs.Ytkmlepkmhpigeaa.ristrettoLaws
open Go.ChangeShapes Go.WideShapes Go.ChangeAt Go.RowKit Go.Eng
set_option linter.unusedVariables false
theorem own:ownKnob Try.prog.godebug = none:=by kernel_rfl
theorem laidOut:laidOutB Try.prog = true:=by kernel_rfl
theorem uB:Try.prog.underlying 4 = some .bool:=by kernel_rfl
theorem pars:Try.f7.params.toList = [40,40,54]:=by kernel_rfl
theorem ks:pksOk Try.prog [40,40,54] [.arr 32 .u8,.arr 32 .u8,.int .u16]:=⟨⟨⟨5,by kernel_rfl,by kernel_rfl,by kernel_rfl⟩,by kernel_rfl⟩,⟨⟨5,by kernel_rfl,by kernel_rfl,by kernel_rfl⟩,by kernel_rfl⟩,(by show Try.prog.underlying 54 = some (.int .u16); kernel_rfl),trivial⟩
theorem reads:∀ t ∈ ([40,40,54]:List TypeId),Try.prog.readableRec t = true ∧ t < Try.prog.types.size:=by
  have:([40,40,54]:List TypeId).all (fun t => Try.prog.readableRec t && decide (t < Try.prog.types.size)) = true:=by kernel_rfl
  intro t ht
  have:=List.all_eq_true.1 this t ht
  simpa using this
set_option maxRecDepth 100000 in
theorem lifted {A:Summ} (hA:CallOk Try.prog 7 A) (hrun:∀ xs,inAVs [.arr 32 .u8,.arr 32 .u8,.int .u16] xs→∃ t,A.run xs = some t ∧ A.enc t = .bool true) {c:Code} (hb:Try.f7.body = some c) (hname:(Try.f7.name == "runtime.NumGoroutine") = false)
    (os:Os) (started:os.Started) (H:Type) (enc:TypeId × Value→H) :
    ReturnsInHanded {} Try.checked os 7 .any (Rows.ristrettoLawsSpec.pre6 enc Try.prog Try.f7 Rows.ristrettoLawsRow.domain false) (Rows.ristrettoLawsSpec.post enc Try.prog Try.f7 false true false false):=by
  refine returnsInHanded_of_change (C:=Try.checked) own started (by kernel_rfl) Try.func7
    (ChangeSpec.witness6 (enc:=enc) (C:=Try.checked) false ⟨#[],#[.agg (Array.replicate 32 (.int .u8 0)),.agg (Array.replicate 32 (.int .u8 0)),.int .u16 0],[]⟩ 8 (by kernel_rfl) (by kernel_rfl) (by kernel_rfl) (by kernel_rfl)) ?_
  intro W base args ds gs before hval0 hW hcnd _
  have hval:∀ (j:Nat) t v,Try.f7.params.toList[j]? = some t→args.toList[j]? = some v→Value.okWide Try.prog W .any base t v:=fun j t v h1 h2 => hval0 j t v (by simpa using h1) (by simpa using h2)
  have hW':=hW
  obtain ⟨p,q,hA0,hV,rfl,hfz,hnd⟩:=hW
  have hT:DataW.TrodAll enc Try.prog W 0 (fun _ => true) true Try.f7.params.toList args.toList ds p:=hA0
  rw [pars] at hT hval
  obtain ⟨rfl,rfl⟩:=trodVars_none hV
  obtain ⟨xs,hin,hav,rfl⟩:=open_all ks hval hT
  clear hA0 hval0
  simp only [List.append_nil] at hW'
  obtain ⟨t,ht,het⟩:=hrun xs hin
  have hcalls:=(law_calls hA ht het (vs:=args.toList) (W:=W) hav Try.func7 hname hb)
  rw [show args.toList.toArray = args from rfl] at hcalls
  refine hcalls.mono fun e W' ⟨he,hbel⟩ => ?_
  subst he
  have hback:=trodAll_below laidOut hbel reads rfl hT
  obtain ⟨d0,d1,d2,rfl⟩:=len3 (trodAll_len hT)
  refine ⟨_,rfl,[d0,d1,d2],[],[],[],[],[],hW',?_,?_,rfl,hbel.frame _,fun h => by cases h⟩
  · exact trodAll_cons_mk (shut_bool uB _) trodAll_mk0
  · exact hback
theorem over {A:Summ} (hA:CallOk Try.prog 7 A) (hrun:∀ xs,inAVs [.arr 32 .u8,.arr 32 .u8,.int .u16] xs→∃ t,A.run xs = some t ∧ A.enc t = .bool true) {c:Code} (hb:Try.f7.body = some c) (hname:(Try.f7.name == "runtime.NumGoroutine") = false):Rows.RistrettoLawsSaid :=
  OpenClaim.holds_of_wide 7 Try.f7 rfl rfl rfl rfl rfl rfl rfl ⟨rfl,rfl,rfl,rfl,rfl⟩ rfl rfl rfl rfl rfl (by kernel_rfl) Try.func7 (by kernel_rfl)
    (of_decide_eq_true (by kernel_rfl)) (by unfold Func.isWrapper; first | (rw [if_pos (by decide +kernel)]; kernel_rfl) | (rw [if_neg (by decide +kernel)]; exact ⟨rfl,rfl⟩))
    (fun os started H enc _ => lifted hA hrun hb hname os started H enc)
end Go.Proofs.Ytkmlepkmhpigeaa.ristrettoLaws
