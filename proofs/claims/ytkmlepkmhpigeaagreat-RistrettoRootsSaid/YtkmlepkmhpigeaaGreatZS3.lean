/- Texts of this claim, one behind the other: PRi3, CuT, PRi4. -/
import Derived.Test.YtkmlepkmhpigeaaGreatZR2
import Derived.Test.YtkmlepkmhpigeaaGreatZS1
import Derived.Test.YtkmlepkmhpigeaaGreatZS2
/- ristretto: the document's Bytes, Half and Roots. -/
namespace Go.Eng
open Go Go.Proofs
set_option linter.unusedVariables false
set_option linter.unusedSimpArgs false
set_option maxRecDepth 4000
theorem nbL {x:Nat} (h:x < P25):(nb x).length ≤ 1048576:=Nat.le_trans (nb_le (Nat.le_of_lt h)) (by rw [lenP]; decide)
theorem one_lt:1 < P25:=by decide
theorem zero_lt:0 < P25:=by decide
theorem u1R_lt (x y:Nat):u1R x y < P25:=by
  unfold u1R
  exact mP _
theorem invR_lt (x y:Nat):invR x y < P25:=by
  unfold invR
  exact ratN_ltN one_lt (mP _)
theorem ziR_lt (x y:Nat):ziR x y < P25:=by
  unfold ziR
  exact mP _
theorem by_endR {de y2:Nat} (hd:de < P25) (hy:y2 < P25):rRSub [eN 1,eN y2] = some ((1 + P25 - y2) % P25) ∧ rRMul [eN de,eN ((1 + P25 - y2) % P25)] = some (de * ((1 + P25 - y2) % P25) % P25) ∧
    rRAbs [eN (de * ((1 + P25 - y2) % P25) % P25)] = some (absN (de * ((1 + P25 - y2) % P25) % P25)) ∧ rRBy [eN (absN (de * ((1 + P25 - y2) % P25) % P25))] = some (lo 32 (absN (de * ((1 + P25 - y2) % P25) % P25))) :=
  ⟨run_RSub one_lt hy,run_RMul hd (mP _),run_RAbs (mP _),run_RBy (nbL (absN_lt (mP _)))⟩
noncomputable abbrev gI_DrB:Cg:=g_DrB (Nat × Nat) rRPlain (fun t => nb t.fst) (fun t => (nb t.fst).length) (fun t => nb t.snd) (fun t => (nb t.snd).length) (Nat) rRAdd (fun t => nb t) (fun t => (nb t).length) (Nat) rRSub (fun t => nb t) (fun t => (nb t).length) (Nat) rRMul (fun t => nb t) (fun t => (nb t).length) (Nat × Bool) rRRat (fun t => nb t.fst) (fun t => (nb t.fst).length) (fun t => t.2) (Bool) rROdd (fun t => t) (Nat) rRI (fun t => nb t) (fun t => (nb t).length) (Nat) rRMod (fun t => nb t) (fun t => (nb t).length) (Nat) rRAbs (fun t => nb t) (fun t => (nb t).length) (List Int) rRBy (fun t => t)
theorem gok_DrB:CfOk prog gI_DrB.c:=⟨gam_cons ok_RPlain <| gam_cons ok_RAdd <| gam_cons ok_RSub <| gam_cons ok_RMul <| gam_cons ok_RRat <| gam_cons ok_ROdd <| gam_cons ok_RI <| gam_cons ok_RMod <| gam_cons ok_RAbs <| gam_cons ok_RBy <| gam_nil,fun _ _ h => by cases h⟩
theorem ok_RBytes8:CallOk prog n_opalineref08_Bytes sRBytes8:=by
  refine afunc_okE (g:=gI_DrB) (fu:=fun _ => 0) mixed gok_DrB h_opalineref08_Bytes (by kernel_rfl) ?_
  intro args t ht
  obtain ⟨p,rfl,hp,rfl⟩:=runR1_ok (F:=fun r => lo 32 (bytesR (plR r).1 (plR r).2)) ht
  have e0:=run_RPlain hp
  have hx:(plR p).1 < P25:=mP _
  have hy:(plR p).2 < P25:=mP _
  refine (DrB_ev ..).trans ?_
  refine bstep e0 ?_
  show _ = some (eB32 (lo 32 (bytesR (plR p).1 (plR p).2)))
  generalize plR p = xy at *
  obtain ⟨x,y⟩:=xy
  dsimp only at *
  have k1:=u1R_lt x y
  have kI:=invR_lt x y
  have kz:=ziR_lt x y
  have g3:rRMul [eN ((1 + y) % P25),eN ((1 + P25 - y) % P25)] = some (u1R x y):=run_RMul (mP _) (mP _)
  have g6:=run_RMul k1 (mP (x * y % P25 * (x * y % P25)))
  have g7:=run_RRat one_lt (mP (u1R x y * (x * y % P25 * (x * y % P25) % P25)))
  have hI:invR x y = (ratN 1 (u1R x y * (x * y % P25 * (x * y % P25) % P25) % P25)).1:=rfl
  have g8:=run_RMul kI k1
  have g9:=run_RMul kI (mP (x * y))
  have g10:=run_RMul (mP (invR x y * u1R x y)) (mP (invR x y * (x * y % P25)))
  have g11:rRMul [eN (invR x y * u1R x y % P25 * (invR x y * (x * y % P25) % P25) % P25),eN (x * y % P25)] = some (ziR x y):=run_RMul (mP _) (mP _)
  have g12:=run_RMul (mP (x * y)) kz
  have g13:rROdd [eN (x * y % P25 * ziR x y % P25)] = some (rotR x y):=run_ROdd (nbL (mP _))
  have dx:xR x y = cond (rotR x y) (y * iN % P25) x:=rfl
  have dy:yR x y = cond (rotR x y) (x * iN % P25) y:=rfl
  have dd:denR x y = cond (rotR x y) (invR x y * u1R x y % P25 * cON % P25) (invR x y * (x * y % P25) % P25):=rfl
  have dy2:y2R x y = cond (Nat.beq (xR x y * ziR x y % P25 % 2) 1) ((0 + P25 - yR x y) % P25) (yR x y):=rfl
  have dB:bytesR x y = absN (denR x y * ((1 + P25 - y2R x y) % P25) % P25):=rfl
  have k2:=y2R_lt (x:=x) hy
  have ky:=yR_lt (x:=x) hy
  have kx:xR x y < P25:=cond_ltN (mP _) hx
  have kd:denR x y < P25:=cond_ltN (mP _) (mP _)
  obtain ⟨b1,b2,b3,b4⟩:=by_endR kd k2
  rw [← dB] at b3 b4
  have g15:=run_RMul kx kz
  have g16:=run_ROdd (nbL (mP (xR x y * ziR x y)))
  have g17:=run_RSub zero_lt ky
  refine bstep (run_RAdd one_lt hy) ?_
  refine bstep (run_RSub one_lt hy) ?_
  refine bstep g3 ?_
  refine bstep (run_RMul hx hy) ?_
  refine bstep (run_RMul (mP (x * y)) (mP (x * y))) ?_
  refine bstep g6 ?_
  refine bstep g7 ?_
  rw [← hI]
  generalize ratN 1 (u1R x y * (x * y % P25 * (x * y % P25) % P25) % P25) = R at *
  refine bstep g8 ?_
  refine bstep g9 ?_
  refine bstep g10 ?_
  refine bstep g11 ?_
  refine bstep g12 ?_
  refine bstep g13 ?_
  have m1:=run_RMul hy iN_lt
  have m2:=run_RMul hx iN_lt
  have m3:=run_RMul (mP (invR x y * u1R x y)) (show cON < P25 by decide)
  generalize bytesR x y = B at *
  generalize denR x y = de at *
  generalize y2R x y = y2 at *
  generalize yR x y = yy at *
  generalize xR x y = xx at *
  generalize rotR x y = rot at *
  cases rot
  · rw [cond_false] at dx dy dd
    rw [cond_false]
    subst dx dy dd
    refine bstep g15 ?_
    refine bstep g16 ?_
    generalize Nat.beq (xx * ziR xx yy % P25 % 2) 1 = od at *
    cases od
    · rw [cond_false] at dy2
      subst dy2
      rw [cond_false]
      refine bstep b1 ?_
      refine bstep b2 ?_
      refine bstep b3 ?_
      refine bstep b4 ?_
      rfl
    · rw [cond_true] at dy2
      subst dy2
      rw [cond_true]
      refine bstep g17 ?_
      refine bstep b1 ?_
      refine bstep b2 ?_
      refine bstep b3 ?_
      refine bstep b4 ?_
      rfl
  · rw [cond_true] at dx dy dd
    rw [cond_true]
    subst dx dy dd
    refine bstep run_RI ?_
    refine bstep m1 ?_
    refine bstep run_RI ?_
    refine bstep m2 ?_
    refine bstep (run_RModS (n:=cON) (by decide +kernel) (by decide +kernel)) ?_
    refine bstep m3 ?_
    refine bstep g15 ?_
    refine bstep g16 ?_
    generalize Nat.beq (y * iN % P25 * ziR x y % P25 % 2) 1 = od at *
    cases od
    · rw [cond_false] at dy2
      subst dy2
      rw [cond_false]
      refine bstep b1 ?_
      refine bstep b2 ?_
      refine bstep b3 ?_
      refine bstep b4 ?_
      rfl
    · rw [cond_true] at dy2
      subst dy2
      rw [cond_true]
      refine bstep g17 ?_
      refine bstep b1 ?_
      refine bstep b2 ?_
      refine bstep b3 ?_
      refine bstep b4 ?_
      rfl
theorem run_RBytes8 {p:RP} (h:p.ok):rRBytes8 [eRP p] = some (lo 32 (bytesR (plR p).1 (plR p).2)):=run_R1 (fun r => lo 32 (bytesR (plR r).1 (plR r).2)) h
end Go.Eng
/- ristretto.Map, the document's Roots: the contracts. -/
namespace Go.Eng
open Go Go.Proofs
set_option linter.unusedVariables false
set_option linter.unusedSimpArgs false
def sRoots:Summ where
  T:=Unit
  run:=fun
    | [.c (.s (.dat (.ints .i64 d) j 1))] => cond (okNP d j && Nat.beq (vB d) 37095705934669439343138083508754565189542113879843219016388785533085940283555) (some ()) none
    | _ => none
  enc:=fun _ => .bool true
def rRoots:List AV→Option Unit:=sRoots.run
end Go.Eng
/- ristretto: the document's Half and Roots. -/
namespace Go.Eng
open Go Go.Proofs
set_option linter.unusedVariables false
set_option linter.unusedSimpArgs false
set_option maxRecDepth 4000
noncomputable abbrev gI_DrR:Cg:=g_DrR (Nat) rRMod (fun t => nb t) (fun t => (nb t).length) (Nat) rRSub (fun t => nb t) (fun t => (nb t).length) (Nat) rRMul (fun t => nb t) (fun t => (nb t).length) (Int) rRefCmp (fun t => t) (Bool) rROdd (fun t => t)
theorem gok_DrR:CfOk prog gI_DrR.c:=⟨gam_cons ok_RMod <| gam_cons ok_RSub <| gam_cons ok_RMul <| gam_cons ok_RefCmp <| gam_cons ok_ROdd <| gam_nil,fun _ _ h => by cases h⟩
theorem ok_Roots:CallOk prog n_opalineref08_Roots sRoots:=by
  refine afunc_okE (g:=gI_DrR) (fu:=fun _ => 0) mixed gok_DrR h_opalineref08_Roots (by kernel_rfl) ?_
  intro args t ht
  unfold sRoots at ht
  simp only at ht
  split at ht
  · rename_i d j
    obtain ⟨h1,h2⟩:=ctrueS ht
    rw [Bool.and_eq_true] at h1
    obtain ⟨x,rfl,rfl,hx,ex⟩:=okNP_ok h1.1
    have hd:=Nat.eq_of_beq_eq_true h1.2
    rw [ex] at hd
    refine (DrR_ev (d:=x) ..).trans ?_
    have e3:=run_RSub (mP (0 + P25 - 1)) hx
    have ha:cAN < P25:=by decide
    have hb:cON < P25:=by decide
    have q1:Nat.beq (cAN * cAN % P25) (((0 + P25 - 1) % P25 + P25 - x) % P25) = true:=by rw [hd]; decide +kernel
    have q2:Nat.beq (cON * cON % P25 * (((0 + P25 - 1) % P25 + P25 - x) % P25) % P25) 1 = true:=by rw [hd]; decide +kernel
    have q3:Nat.beq (cAN % 2) 1 = true:=by decide +kernel
    have q4:Nat.beq (cON % 2) 1 = false:=by decide +kernel
    have c5:=run_RefCmp (nbL (mP (cAN * cAN))) (nbL (mP ((0 + P25 - 1) % P25 + P25 - x)))
    have c8:=run_RefCmp (nbL (mP (cON * cON % P25 * (((0 + P25 - 1) % P25 + P25 - x) % P25)))) (nbL one_lt)
    rw [Nat.eq_of_beq_eq_true q1,cmpN_self] at c5
    rw [Nat.eq_of_beq_eq_true q2,cmpN_self] at c8
    have n1:=run_ROdd (nbL ha)
    have n2:=run_ROdd (nbL hb)
    rw [q3] at n1
    rw [q4] at n2
    have e4:=run_RMul ha ha
    rw [Nat.eq_of_beq_eq_true q1] at e4
    have e7:=run_RMul (mP (cON * cON)) (mP ((0 + P25 - 1) % P25 + P25 - x))
    rw [Nat.eq_of_beq_eq_true q2] at e7
    refine bstep (run_RModS (n:=cAN) (by decide +kernel) (by decide +kernel)) ?_
    refine bstep (run_RModS (n:=cON) (by decide +kernel) (by decide +kernel)) ?_
    refine bstep (run_RSub zero_lt one_lt) ?_
    refine bstep e3 ?_
    refine bstep e4 ?_
    refine bstep c5 ?_
    refine cstep rfl ?_
    refine bstep (run_RMul hb hb) ?_
    refine bstep e7 ?_
    refine bstep c8 ?_
    refine cstep rfl ?_
    refine bstep n1 ?_
    refine cstep rfl ?_
    refine bstep n2 ?_
    rfl
  · cases ht
theorem run_Roots:rRoots [eN dN] = some ():=by
  show cond (okNP (nb dN) (nb dN).length && Nat.beq (vB (nb dN)) dN) (some ()) none = _
  rw [okNP_nb (by decide),vB_nb,Nat.beq_refl]; rfl
end Go.Eng
