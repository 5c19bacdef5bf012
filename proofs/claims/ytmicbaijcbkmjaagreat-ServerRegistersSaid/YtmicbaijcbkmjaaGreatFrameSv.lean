/- The frame of ServerRegisters. -/
import Derived.Test.YtmicbaijcbkmjaaGreatRows
import Derived.Test.YtmicbaijcbkmjaaGreatZE3
namespace Go.Proofs.YtmicbaijcbkmjaaGreat.serverRegisters
open Go.ChangeShapes Go.WideShapes Go.ChangeAt Go.RowKit Go.Eng
set_option linter.unusedVariables false
theorem own:ownKnob Tryz.prog.godebug=none:=by kernel_rfl
theorem aLR:laidOutB Tryz.prog=true:=by kernel_rfl
theorem uB:Tryz.prog.underlying 4=some .bool:=by kernel_rfl
theorem bAg:Tryz.f3.params.toList=[23,23,9]:=by kernel_rfl
theorem ks:aHz Tryz.prog [23,23,9] [.arr 32 .u8,.arr 32 .u8,.str]:=⟨⟨⟨5,by kernel_rfl,by kernel_rfl,by kernel_rfl⟩,by kernel_rfl⟩,⟨⟨5,by kernel_rfl,by kernel_rfl,by kernel_rfl⟩,by kernel_rfl⟩,(by show Tryz.prog.underlying 9=some (.string); kernel_rfl),trivial⟩
theorem aYG:∀ t ∈ ([23,23,9]:List TypeId),Tryz.prog.readableRec t=true /\ t < Tryz.prog.types.size:=by
 have:([23,23,9]:List TypeId).all (λ t=>Tryz.prog.readableRec t && decide (t < Tryz.prog.types.size))=true:=by kernel_rfl
 intro t ht;have:=List.all_eq_true.1 this t ht;simpa using this
set_option maxRecDepth 100000 in
theorem aVn {A:Summ} (hA:CallOk Tryz.prog 3 A) (hrun:∀ xs,SU [.arr 32 .u8,.arr 32 .u8,.str] xs->∃ t,A.run xs=some t /\ A.enc t=.bool true) {c:Code} (hb:Tryz.f3.body=some c) (hname:(Tryz.f3.name == "runtime.NumGoroutine")=false)
  (os:Os) (started:os.Started) (H:Type) (enc:TypeId × Value->H) :
  ReturnsInHanded {} Tryz.checked os 3 .any (Rows.serverRegistersSpec.pre6 enc Tryz.prog Tryz.f3 Rows.serverRegistersRow.domain false) (Rows.serverRegistersSpec.post enc Tryz.prog Tryz.f3 false true false false):=by
 refine returnsInHanded_of_change (C:=Tryz.checked) own started (by kernel_rfl) Tryz.func3
  (ChangeSpec.witness6 (enc:=enc) (C:=Tryz.checked) false ⟨#[],#[.agg (Array.replicate 32 (.int .u8 0)),.agg (Array.replicate 32 (.int .u8 0)),.string ⟨#[]⟩],[]⟩ 8 (by kernel_rfl) (by kernel_rfl) (by kernel_rfl) (by kernel_rfl)) ?_
 intro W base args ds gs before hval0 hW hcnd _;have hval:∀ (j:Nat) t v,Tryz.f3.params.toList[j]?=some t->args.toList[j]?=some v->Value.okWide Tryz.prog W .any base t v:=λ j t v h1 h2=>hval0 j t v (by simpa using h1) (by simpa using h2);have hW':=hW;obtain ⟨p,q,hA0,hV,rfl,hfz,hnd⟩:=hW;have hT:DataW.TrodAll enc Tryz.prog W 0 (λ _=>true) true Tryz.f3.params.toList args.toList ds p:=hA0;rw [bAg] at hT hval;obtain ⟨rfl,rfl⟩:=trodVars_none hV;obtain ⟨xs,hin,hav,rfl⟩:=aHC ks hval hT;clear hA0 hval0;simp only [List.append_nil] at hW';obtain ⟨t,ht,het⟩:=hrun xs hin;have hcalls:=(aAV hA ht het (vs:=args.toList) (W:=W) hav Tryz.func3 hname hb);rw [show args.toList.toArray=args from rfl] at hcalls;refine hcalls.mono λ e W' ⟨he,hbel⟩=>?_;subst he;have hback:=Kk aLR hbel aYG rfl hT;obtain ⟨d0,d1,d2,rfl⟩:=bAs (SW hT);refine ⟨_,rfl,[d0,d1,d2],[],[],[],[],[],hW',?_,?_,rfl,hbel.frame _,λ h=>by cases h⟩
 ·exact trodAll_cons_mk (shut_bool uB _) trodAll_mk0
 ·exact hback
theorem bAh {A:Summ} (hA:CallOk Tryz.prog 3 A) (hrun:∀ xs,SU [.arr 32 .u8,.arr 32 .u8,.str] xs->∃ t,A.run xs=some t /\ A.enc t=.bool true) {c:Code} (hb:Tryz.f3.body=some c) (hname:(Tryz.f3.name == "runtime.NumGoroutine")=false):Rows.ServerRegistersSaid :=
 OpenClaim.holds_of_wide 3 Tryz.f3 rfl rfl rfl rfl rfl rfl rfl ⟨rfl,rfl,rfl,rfl,rfl⟩ rfl rfl rfl rfl rfl (by kernel_rfl) Tryz.func3 (by kernel_rfl)
  (of_decide_eq_true (by kernel_rfl)) (by unfold Func.isWrapper; first | (rw [if_pos (by decide +kernel)]; kernel_rfl) | (rw [if_neg (by decide +kernel)]; exact ⟨rfl,rfl⟩))
  (λ os started H enc _=>aVn hA hrun hb hname os started H enc)
end Go.Proofs.YtmicbaijcbkmjaaGreat.serverRegisters
