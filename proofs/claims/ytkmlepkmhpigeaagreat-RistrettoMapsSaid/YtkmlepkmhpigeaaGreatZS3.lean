/- Texts of this claim, one behind the other: PRi3, CuT, PRi4. -/
import Derived.Test.YtkmlepkmhpigeaaGreatZR2
import Derived.Test.YtkmlepkmhpigeaaGreatZS1
import Derived.Test.YtkmlepkmhpigeaaGreatZS2
/- ristretto: the document's Bytes, Half and Roots. -/
namespace Go.Eng
open Go Go.Proofs
set_option linter.unusedVariables false
set_option linter.unusedSimpArgs false
set_option maxRecDepth 4000
theorem nbL {x:Nat} (h:x < P25):(nb x).length ≤ 1048576:=Nat.le_trans (nb_le (Nat.le_of_lt h)) (by rw [lenP]; decide)
theorem one_lt:1 < P25:=by decide
theorem zero_lt:0 < P25:=by decide
theorem u1R_lt (x y:Nat):u1R x y < P25:=by
  unfold u1R
  exact mP _
theorem invR_lt (x y:Nat):invR x y < P25:=by
  unfold invR
  exact ratN_ltN one_lt (mP _)
theorem ziR_lt (x y:Nat):ziR x y < P25:=by
  unfold ziR
  exact mP _
theorem by_endR {de y2:Nat} (hd:de < P25) (hy:y2 < P25):rRSub [eN 1,eN y2] = some ((1 + P25 - y2) % P25) ∧ rRMul [eN de,eN ((1 + P25 - y2) % P25)] = some (de * ((1 + P25 - y2) % P25) % P25) ∧
    rRAbs [eN (de * ((1 + P25 - y2) % P25) % P25)] = some (absN (de * ((1 + P25 - y2) % P25) % P25)) ∧ rRBy [eN (absN (de * ((1 + P25 - y2) % P25) % P25))] = some (lo 32 (absN (de * ((1 + P25 - y2) % P25) % P25))) :=
  ⟨run_RSub one_lt hy,run_RMul hd (mP _),run_RAbs (mP _),run_RBy (nbL (absN_lt (mP _)))⟩
noncomputable abbrev gI_DrB:Cg:=g_DrB (Nat × Nat) rRPlain (fun t => nb t.fst) (fun t => (nb t.fst).length) (fun t => nb t.snd) (fun t => (nb t.snd).length) (Nat) rRAdd (fun t => nb t) (fun t => (nb t).length) (Nat) rRSub (fun t => nb t) (fun t => (nb t).length) (Nat) rRMul (fun t => nb t) (fun t => (nb t).length) (Nat × Bool) rRRat (fun t => nb t.fst) (fun t => (nb t.fst).length) (fun t => t.2) (Bool) rROdd (fun t => t) (Nat) rRI (fun t => nb t) (fun t => (nb t).length) (Nat) rRMod (fun t => nb t) (fun t => (nb t).length) (Nat) rRAbs (fun t => nb t) (fun t => (nb t).length) (List Int) rRBy (fun t => t)
theorem gok_DrB:CfOk prog gI_DrB.c:=⟨gam_cons ok_RPlain <| gam_cons ok_RAdd <| gam_cons ok_RSub <| gam_cons ok_RMul <| gam_cons ok_RRat <| gam_cons ok_ROdd <| gam_cons ok_RI <| gam_cons ok_RMod <| gam_cons ok_RAbs <| gam_cons ok_RBy <| gam_nil,fun _ _ h => by cases h⟩
theorem ok_RBytes8:CallOk prog n_opalineref08_Bytes sRBytes8:=by
  refine afunc_okE (g:=gI_DrB) (fu:=fun _ => 0) mixed gok_DrB h_opalineref08_Bytes (by kernel_rfl) ?_
  intro args t ht
  obtain ⟨p,rfl,hp,rfl⟩:=runR1_ok (F:=fun r => lo 32 (bytesR (plR r).1 (plR r).2)) ht
  have e0:=run_RPlain hp
  have hx:(plR p).1 < P25:=mP _
  have hy:(plR p).2 < P25:=mP _
  refine (DrB_ev ..).trans ?_
  refine bstep e0 ?_
  show _ = some (eB32 (lo 32 (bytesR (plR p).1 (plR p).2)))
  generalize plR p = xy at *
  obtain ⟨x,y⟩:=xy
  dsimp only at *
  have k1:=u1R_lt x y
  have kI:=invR_lt x y
  have kz:=ziR_lt x y
  have g3:rRMul [eN ((1 + y) % P25),eN ((1 + P25 - y) % P25)] = some (u1R x y):=run_RMul (mP _) (mP _)
  have g6:=run_RMul k1 (mP (x * y % P25 * (x * y % P25)))
  have g7:=run_RRat one_lt (mP (u1R x y * (x * y % P25 * (x * y % P25) % P25)))
  have hI:invR x y = (ratN 1 (u1R x y * (x * y % P25 * (x * y % P25) % P25) % P25)).1:=rfl
  have g8:=run_RMul kI k1
  have g9:=run_RMul kI (mP (x * y))
  have g10:=run_RMul (mP (invR x y * u1R x y)) (mP (invR x y * (x * y % P25)))
  have g11:rRMul [eN (invR x y * u1R x y % P25 * (invR x y * (x * y % P25) % P25) % P25),eN (x * y % P25)] = some (ziR x y):=run_RMul (mP _) (mP _)
  have g12:=run_RMul (mP (x * y)) kz
  have g13:rROdd [eN (x * y % P25 * ziR x y % P25)] = some (rotR x y):=run_ROdd (nbL (mP _))
  have dx:xR x y = cond (rotR x y) (y * iN % P25) x:=rfl
  have dy:yR x y = cond (rotR x y) (x * iN % P25) y:=rfl
  have dd:denR x y = cond (rotR x y) (invR x y * u1R x y % P25 * cON % P25) (invR x y * (x * y % P25) % P25):=rfl
  have dy2:y2R x y = cond (Nat.beq (xR x y * ziR x y % P25 % 2) 1) ((0 + P25 - yR x y) % P25) (yR x y):=rfl
  have dB:bytesR x y = absN (denR x y * ((1 + P25 - y2R x y) % P25) % P25):=rfl
  have k2:=y2R_lt (x:=x) hy
  have ky:=yR_lt (x:=x) hy
  have kx:xR x y < P25:=cond_ltN (mP _) hx
  have kd:denR x y < P25:=cond_ltN (mP _) (mP _)
  obtain ⟨b1,b2,b3,b4⟩:=by_endR kd k2
  rw [← dB] at b3 b4
  have g15:=run_RMul kx kz
  have g16:=run_ROdd (nbL (mP (xR x y * ziR x y)))
  have g17:=run_RSub zero_lt ky
  refine bstep (run_RAdd one_lt hy) ?_
  refine bstep (run_RSub one_lt hy) ?_
  refine bstep g3 ?_
  refine bstep (run_RMul hx hy) ?_
  refine bstep (run_RMul (mP (x * y)) (mP (x * y))) ?_
  refine bstep g6 ?_
  refine bstep g7 ?_
  rw [← hI]
  generalize ratN 1 (u1R x y * (x * y % P25 * (x * y % P25) % P25) % P25) = R at *
  refine bstep g8 ?_
  refine bstep g9 ?_
  refine bstep g10 ?_
  refine bstep g11 ?_
  refine bstep g12 ?_
  refine bstep g13 ?_
  have m1:=run_RMul hy iN_lt
  have m2:=run_RMul hx iN_lt
  have m3:=run_RMul (mP (invR x y * u1R x y)) (show cON < P25 by decide)
  generalize bytesR x y = B at *
  generalize denR x y = de at *
  generalize y2R x y = y2 at *
  generalize yR x y = yy at *
  generalize xR x y = xx at *
  generalize rotR x y = rot at *
  cases rot
  · rw [cond_false] at dx dy dd
    rw [cond_false]
    subst dx dy dd
    refine bstep g15 ?_
    refine bstep g16 ?_
    generalize Nat.beq (xx * ziR xx yy % P25 % 2) 1 = od at *
    cases od
    · rw [cond_false] at dy2
      subst dy2
      rw [cond_false]
      refine bstep b1 ?_
      refine bstep b2 ?_
      refine bstep b3 ?_
      refine bstep b4 ?_
      rfl
    · rw [cond_true] at dy2
      subst dy2
      rw [cond_true]
      refine bstep g17 ?_
      refine bstep b1 ?_
      refine bstep b2 ?_
      refine bstep b3 ?_
      refine bstep b4 ?_
      rfl
  · rw [cond_true] at dx dy dd
    rw [cond_true]
    subst dx dy dd
    refine bstep run_RI ?_
    refine bstep m1 ?_
    refine bstep run_RI ?_
    refine bstep m2 ?_
    refine bstep (run_RModS (n:=cON) (by decide +kernel) (by decide +kernel)) ?_
    refine bstep m3 ?_
    refine bstep g15 ?_
    refine bstep g16 ?_
    generalize Nat.beq (y * iN % P25 * ziR x y % P25 % 2) 1 = od at *
    cases od
    · rw [cond_false] at dy2
      subst dy2
      rw [cond_false]
      refine bstep b1 ?_
      refine bstep b2 ?_
      refine bstep b3 ?_
      refine bstep b4 ?_
      rfl
    · rw [cond_true] at dy2
      subst dy2
      rw [cond_true]
      refine bstep g17 ?_
      refine bstep b1 ?_
      refine bstep b2 ?_
      refine bstep b3 ?_
      refine bstep b4 ?_
      rfl
theorem run_RBytes8 {p:RP} (h:p.ok):rRBytes8 [eRP p] = some (lo 32 (bytesR (plR p).1 (plR p).2)):=run_R1 (fun r => lo 32 (bytesR (plR r).1 (plR r).2)) h
end Go.Eng
/- ristretto.Map, the document's Roots: the contracts. -/
namespace Go.Eng
open Go Go.Proofs
set_option linter.unusedVariables false
set_option linter.unusedSimpArgs false
def mapF (s:Str):Pt × Int :=
  cond (Nat.beq s.length 64) (addP (halfF (looF ((s.take 32).map ofB))) (halfF (looF ((s.drop 32).map ofB))) d2F,0) (neutP,4)
def sMap:Summ where
  T:=Pt × Int
  run:=fun
    | [.c (.s (.pl (.str s)))] => some (mapF s)
    | _ => none
  enc:=ePE
def rMap:List AV→Option (Pt × Int):=sMap.run
def sMap1:Summ where
  T:=Pt
  run:=fun
    | [.c (.s (.pl (.str s)))] => cond (Nat.beq s.length 32) (some (halfF (looF (s.map ofB)))) none
    | _ => none
  enc:=eP
def rMap1:List AV→Option Pt:=sMap1.run
end Go.Eng
/- ristretto: the document's Half and Roots. -/
namespace Go.Eng
open Go Go.Proofs
set_option linter.unusedVariables false
set_option linter.unusedSimpArgs false
set_option maxRecDepth 4000
theorem runBN_ok {T:Type} {F:List Int→Nat→T} {args:List AV} {t:T} (h:runBN F args = some t):∃ a d,args = [eB32 a,eN d] ∧ ok32 a = true ∧ d < P25 ∧ t = F a d:=by
  unfold runBN at h
  split at h
  · obtain ⟨h1,h2⟩:=ctrueS h
    rw [Bool.and_eq_true] at h1
    obtain ⟨x,rfl,rfl,hx,ex⟩:=okNP_ok h1.2
    rw [ex] at h2
    exact ⟨_,_,rfl,h1.1,hx,h2.symm⟩
  · cases h
theorem run_BN {T:Type} (F:List Int→Nat→T) {a:List Int} {d:Nat} (h:ok32 a = true) (hd:d < P25):runBN F [eB32 a,eN d] = some (F a d):=by
  show cond (ok32 a && okNP (nb d) (nb d).length) (some (F a (vB (nb d)))) none = _
  rw [h,okNP_nb hd,vB_nb]; rfl
theorem top_law {K L c:Nat} (hL:L < K):(L + K * c) % (K * 128) = L + K * (c % 128):=by
  have e:L + K * c = L + K * (c % 128) + K * 128 * (c / 128):=by
    have h:=Nat.div_add_mod c 128
    have h2:K * c = K * (128 * (c / 128) + c % 128):=by rw [h]
    rw [h2,Nat.mul_add,Nat.mul_assoc]
    omega
  rw [e,Nat.add_mul_mod_self_left]
  apply Nat.mod_eq_of_lt
  have h1:c % 128 ≤ 127:=by omega
  have h2:K * (c % 128) ≤ K * 127:=Nat.mul_le_mul (Nat.le_refl _) h1
  omega
theorem top_off {a:List Int} (ha:ok32 a = true):ok32 (a.set 31 ((a.getD 31 0).tmod 128)) = true ∧ vB (a.set 31 ((a.getD 31 0).tmod 128)) = vB a % 57896044618658097711785492504343953926634992332820282019728792003956564819968:=by
  obtain ⟨hl,hb⟩:=ok32_ok ha
  have hg:=okB_getD hb 31
  generalize hc:a.getD 31 0 = c at *
  obtain ⟨n,rfl⟩:∃ n:Nat,c = (n:Int):=⟨c.toNat,by omega⟩
  have hn:n < 256:=by omega
  have e1:((n:Int)).tmod 128 = ((n % 128:Nat):Int):=by
    rw [Int.tmod_eq_emod_of_nonneg (by omega)]; omega
  rw [e1]
  refine ⟨?_,?_⟩
  · rw [ok32,List.length_set,hl,okB_set _ _ _ hb (by omega)]; rfl
  · have hs:=vB_set a 31 (n % 128) (by omega) hb
    rw [hc] at hs
    have ht:=vB_take a 31 hb
    have hts:=vB_take (a.set 31 ((n % 128:Nat):Int)) 31 (okB_set _ _ _ hb (by omega))
    have et:(a.set 31 ((n % 128:Nat):Int)).take 31 = a.take 31:=by rw [List.take_set_of_le (by omega)]
    rw [et,ht] at hts
    have hz:=vB_set a 31 0 (by omega) hb
    rw [hc] at hz
    have hlt:=vB_lt (a.set 31 ((0:Nat):Int)) (okB_set _ _ _ hb (by omega))
    have hzt:=vB_take (a.set 31 ((0:Nat):Int)) 31 (okB_set _ _ _ hb (by omega))
    have ez:a = a.take 31 ++ [(n:Int)]:=by
      have h1:a.drop 31 = [(n:Int)]:=by
        apply List.ext_getElem
        · simp [hl]
        · intro i h1 h2
          simp at h2
          subst h2
          rw [List.getElem_drop]
          have:a.getD 31 0 = a[31]:=by rw [List.getD_eq_getElem?_getD,List.getElem?_eq_getElem (by omega)]; rfl
          rw [this] at hc
          simpa using hc
      rw [← h1,List.take_append_drop]
    have l31:(a.take 31).length = 31:=by rw [List.length_take]; omega
    have h31:=vB_lt (a.take 31) (okB_take 31 hb)
    rw [l31] at h31
    have eA:vB a = vB (a.take 31) + 256 ^ 31 * n:=by
      have:=vB_snoc (a.take 31) n
      rw [l31] at this
      rw [← this,← ez]
    have eS:vB (a.set 31 ((n % 128:Nat):Int)) = vB (a.take 31) + 256 ^ 31 * (n % 128):=by
      simp only [Int.toNat_natCast] at hs
      omega
    have ek:(57896044618658097711785492504343953926634992332820282019728792003956564819968:Nat) = 256 ^ 31 * 128:=by decide
    rw [eS,eA,ek]
    exact (top_law h31).symm
noncomputable abbrev gI_DrH:Cg:=g_DrH (Nat) rROf (fun t => nb t) (fun t => (nb t).length) (Nat) rRI (fun t => nb t) (fun t => (nb t).length) (Nat) rRMul (fun t => nb t) (fun t => (nb t).length) (Nat) rRAdd (fun t => nb t) (fun t => (nb t).length) (Nat) rRSub (fun t => nb t) (fun t => (nb t).length) (Nat × Bool) rRRat (fun t => nb t.fst) (fun t => (nb t.fst).length) (fun t => t.2) (Nat) rRAbs (fun t => nb t) (fun t => (nb t).length) (Nat) rRMod (fun t => nb t) (fun t => (nb t).length)
theorem gok_DrH:CfOk prog gI_DrH.c:=⟨gam_cons ok_ROf <| gam_cons ok_RI <| gam_cons ok_RMul <| gam_cons ok_RAdd <| gam_cons ok_RSub <| gam_cons ok_RRat <| gam_cons ok_RAbs <| gam_cons ok_RMod <| gam_nil,fun _ _ h => by cases h⟩
theorem ok_RHalf:CallOk prog n_opalineref08_Half sRHalf:=by
  refine afunc_okE (g:=gI_DrH) (fu:=fun _ => 0) mixed gok_DrH h_opalineref08_Half (by kernel_rfl) ?_
  intro args t ht
  obtain ⟨a,d,rfl,ha,hd,rfl⟩:=runBN_ok (F:=fun a d => halfR (vB a % 57896044618658097711785492504343953926634992332820282019728792003956564819968 % P25) d) ht
  obtain ⟨ha',hv'⟩:=top_off ha
  have e0:=run_ROf ha'
  rw [hv'] at e0
  have tt:vB a % 57896044618658097711785492504343953926634992332820282019728792003956564819968 % P25 < P25:=mP _
  refine (DrH_ev ..).trans ?_
  show _ = some (eRP (halfR (vB a % 57896044618658097711785492504343953926634992332820282019728792003956564819968 % P25) d))
  refine bstep e0 ?_
  clear e0
  generalize vB a % 57896044618658097711785492504343953926634992332820282019728792003956564819968 % P25 = t at *
  have hr:rrH t < P25:=by unfold rrH; exact mP _
  have hu:uuH t d < P25:=by unfold uuH; exact mP _
  have hv:vvH t d < P25:=by unfold vvH; exact mP _
  have e3:rRMul [eN iN,eN (t * t % P25)] = some (rrH t):=run_RMul iN_lt (mP _)
  have e7:rRMul [eN ((rrH t + 1) % P25),eN ((1 + P25 - d * d % P25) % P25)] = some (uuH t d):=run_RMul (mP _) (mP _)
  have e12:rRMul [eN (((0 + P25 - 1) % P25 + P25 - rrH t * d % P25) % P25),eN ((rrH t + d) % P25)] = some (vvH t d):=run_RMul (mP _) (mP _)
  have e13:=run_RRat hu hv
  have hs0:=ratN_ltN hu hv
  have db:ssqH t d = (ratN (uuH t d) (vvH t d)).2:=rfl
  have ds:ssH t d = cond (ssqH t d) (ratN (uuH t d) (vvH t d)).1 ((0 + P25 - absN ((ratN (uuH t d) (vvH t d)).1 * t % P25)) % P25):=rfl
  have dc:ccH t d = cond (ssqH t d) ((0 + P25 - 1) % P25) (rrH t):=rfl
  have hs:ssH t d < P25:=cond_ltN hs0 (mP _)
  have hc:ccH t d < P25:=cond_ltN (mP _) hr
  have e14:=run_RSub zero_lt one_lt
  have f16:=run_RSub hr one_lt
  have f17:=run_RMul hc (mP (rrH t + P25 - 1))
  have f18:=run_RMul (mP (d + P25 - 1)) (mP (d + P25 - 1))
  have f19:=run_RMul (mP (ccH t d * ((rrH t + P25 - 1) % P25))) (mP ((d + P25 - 1) % P25 * ((d + P25 - 1) % P25)))
  have f20:rRSub [eN (ccH t d * ((rrH t + P25 - 1) % P25) % P25 * ((d + P25 - 1) % P25 * ((d + P25 - 1) % P25) % P25) % P25),eN (vvH t d)] = some (nnH t d):=run_RSub (mP _) hv
  have f21:=run_RMul hs hs
  have f22:=run_RAdd hs hs
  have f23:rRMul [eN ((ssH t d + ssH t d) % P25),eN (vvH t d)] = some (ww0H t d):=run_RMul (mP _) hv
  have hn:nnH t d < P25:=by unfold nnH; exact mP _
  have f24:rRMul [eN (nnH t d),eN cAN] = some (ww1H t d):=run_RMul hn (by decide)
  have f25:rRSub [eN 1,eN (ssH t d * ssH t d % P25)] = some (ww2H t d):=run_RSub one_lt (mP _)
  have f26:rRAdd [eN 1,eN (ssH t d * ssH t d % P25)] = some (ww3H t d):=run_RAdd one_lt (mP _)
  have k0:ww0H t d < P25:=by unfold ww0H; exact mP _
  have k1:ww1H t d < P25:=by unfold ww1H; exact mP _
  have k2:ww2H t d < P25:=by unfold ww2H; exact mP _
  have k3:ww3H t d < P25:=by unfold ww3H; exact mP _
  have f27:=run_RMul k0 k3
  have f28:=run_RMul k2 k1
  have f29:=run_RMul k1 k3
  have dH:halfR t d = ⟨ww0H t d * ww3H t d % P25,ww2H t d * ww1H t d % P25,ww1H t d * ww3H t d % P25⟩:=rfl
  rw [dH]
  clear dH
  refine bstep run_RI ?_
  refine bstep (run_RMul tt tt) ?_
  refine bstep e3 ?_
  refine bstep (run_RAdd hr one_lt) ?_
  refine bstep (run_RMul hd hd) ?_
  refine bstep (run_RSub one_lt (mP (d * d))) ?_
  refine bstep e7 ?_
  refine bstep e14 ?_
  refine bstep (run_RMul hr hd) ?_
  refine bstep (run_RSub (mP (0 + P25 - 1)) (mP (rrH t * d))) ?_
  refine bstep (run_RAdd hr hd) ?_
  refine bstep e12 ?_
  refine bstep e13 ?_
  refine bstep e14 ?_
  have g1:=run_RSub hd one_lt
  generalize nnH t d = n at *
  generalize ww0H t d = w0 at *
  generalize ww1H t d = w1 at *
  generalize ww2H t d = w2 at *
  generalize ww3H t d = w3 at *
  generalize ssH t d = s at *
  generalize ccH t d = c at *
  rw [← db]
  generalize ssqH t d = sq at *
  generalize ratN (uuH t d) (vvH t d) = R at *
  generalize vvH t d = v at *
  generalize rrH t = r at *
  cases sq
  · rw [cond_false] at ds dc
    rw [Bool.not_false,cond_true]
    have e16:=run_RMul hs0 tt
    have e17:=run_RAbs (mP (R.1 * t))
    have e18:=run_RSub zero_lt (absN_lt (mP (R.1 * t)))
    subst ds dc
    refine bstep e16 ?_
    refine bstep e17 ?_
    refine bstep e18 ?_
    refine bstep g1 ?_
    refine bstep f16 ?_
    refine bstep f17 ?_
    refine bstep f18 ?_
    refine bstep f19 ?_
    refine bstep f20 ?_
    refine bstep f21 ?_
    refine bstep f22 ?_
    refine bstep f23 ?_
    refine bstep (run_RModS (n:=cAN) (by decide +kernel) (by decide +kernel)) ?_
    refine bstep f24 ?_
    refine bstep f25 ?_
    refine bstep f26 ?_
    refine bstep f27 ?_
    refine bstep f28 ?_
    refine bstep f29 ?_
    rfl
  · rw [cond_true] at ds dc
    rw [Bool.not_true,cond_false]
    subst ds dc
    refine bstep g1 ?_
    refine bstep f16 ?_
    refine bstep f17 ?_
    refine bstep f18 ?_
    refine bstep f19 ?_
    refine bstep f20 ?_
    refine bstep f21 ?_
    refine bstep f22 ?_
    refine bstep f23 ?_
    refine bstep (run_RModS (n:=cAN) (by decide +kernel) (by decide +kernel)) ?_
    refine bstep f24 ?_
    refine bstep f25 ?_
    refine bstep f26 ?_
    refine bstep f27 ?_
    refine bstep f28 ?_
    refine bstep f29 ?_
    rfl
theorem run_RHalf {a:List Int} {d:Nat} (h:ok32 a = true) (hd:d < P25):rRHalf [eB32 a,eN d] = some (halfR (vB a % 57896044618658097711785492504343953926634992332820282019728792003956564819968 % P25) d):=run_BN (fun a d => halfR (vB a % 57896044618658097711785492504343953926634992332820282019728792003956564819968 % P25) d) h hd
end Go.Eng
