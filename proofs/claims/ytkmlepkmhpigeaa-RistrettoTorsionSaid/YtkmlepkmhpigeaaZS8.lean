/- Texts of this claim, one behind the other: PRi9. -/
import Derived.Test.YtkmlepkmhpigeaaZS7
/- RistrettoTorsion. -/
namespace Go.Eng
open Go Go.Proofs
set_option linter.unusedVariables false
set_option linter.unusedSimpArgs false
set_option maxRecDepth 4000
theorem at_1:atF iF (fe 0) = (plainP iF (fe 0),0):=by
  have:onF iF (fe 0) = true:=by decide +kernel
  unfold atF
  rw [this]; rfl
theorem at_2:atF (fe 0) (subF f0 (fe 1)) = (plainP (fe 0) (subF f0 (fe 1)),0):=by
  have:onF (fe 0) (subF f0 (fe 1)) = true:=by decide +kernel
  unfold atF
  rw [this]; rfl
theorem PT_t1:∃ t,PT (plainP iF (fe 0)) t ∧ e4 t :=
  ⟨_,PT_plain iF_ok (fe_ok 0) ((on_iff iF_ok).1 (by decide +kernel)),.inr ph_0⟩
theorem PT_t2:∃ t,PT (plainP (fe 0) (subF f0 (fe 1))) t ∧ e4 t :=
  ⟨_,PT_plain (fe_ok 0) (sub_ok f0_ok) ((on_iff (fe_ok 0)).1 (by decide +kernel)),.inl ph_0⟩
def sLRT:Summ where
  T:=Unit
  run:=fun
    | [.c (.s (.pl (.agg (.ints .u8 a) 32))),.c (.s (.pl (.agg (.ints .u8 b) 32)))] => cond (ok32 a && ok32 b) (some ()) none
    | _ => none
  enc:=fun _ => .bool true
noncomputable abbrev gI_R8T:Cg:=g_R8T (PUnit) rTrue (Pt) rEHalf (fun t => [↑t.x.a,↑t.x.b,↑t.x.c,↑t.x.d,↑t.x.e,↑t.y.a,↑t.y.b,↑t.y.c,↑t.y.d,↑t.y.e,↑t.z.a,↑t.z.b,↑t.z.c,↑t.z.d,↑t.z.e,↑t.t.a,↑t.t.b,↑t.t.c,↑t.t.d,↑t.t.e]) (Fe) rFOf (fun t => ↑t.a) (fun t => ↑t.b) (fun t => ↑t.c) (fun t => ↑t.d) (fun t => ↑t.e) (Unit) rFI (Pt × Int) rAt (fun t => [↑t.fst.x.a,↑t.fst.x.b,↑t.fst.x.c,↑t.fst.x.d,↑t.fst.x.e,↑t.fst.y.a,↑t.fst.y.b,↑t.fst.y.c,↑t.fst.y.d,↑t.fst.y.e,↑t.fst.z.a,↑t.fst.z.b,↑t.fst.z.c,↑t.fst.z.d,↑t.fst.z.e,↑t.fst.t.a,↑t.fst.t.b,↑t.fst.t.c,↑t.fst.t.d,↑t.fst.t.e]) (fun t => t.snd) (Fe) rFNeg (fun t => ↑t.a) (fun t => ↑t.b) (fun t => ↑t.c) (fun t => ↑t.d) (fun t => ↑t.e) (Pt) rPNeg (fun t => [↑t.x.a,↑t.x.b,↑t.x.c,↑t.x.d,↑t.x.e,↑t.y.a,↑t.y.b,↑t.y.c,↑t.y.d,↑t.y.e,↑t.z.a,↑t.z.b,↑t.z.c,↑t.z.d,↑t.z.e,↑t.t.a,↑t.t.b,↑t.t.c,↑t.t.d,↑t.t.e]) (Pt) rEPt (fun t => [↑t.x.a,↑t.x.b,↑t.x.c,↑t.x.d,↑t.x.e,↑t.y.a,↑t.y.b,↑t.y.c,↑t.y.d,↑t.y.e,↑t.z.a,↑t.z.b,↑t.z.c,↑t.z.d,↑t.z.e,↑t.t.a,↑t.t.b,↑t.t.c,↑t.t.d,↑t.t.e]) (Pt) rPAdd (fun t => [↑t.x.a,↑t.x.b,↑t.x.c,↑t.x.d,↑t.x.e,↑t.y.a,↑t.y.b,↑t.y.c,↑t.y.d,↑t.y.e,↑t.z.a,↑t.z.b,↑t.z.c,↑t.z.d,↑t.z.e,↑t.t.a,↑t.t.b,↑t.t.c,↑t.t.d,↑t.t.e]) (Pt) rEPt (fun t => [↑t.x.a,↑t.x.b,↑t.x.c,↑t.x.d,↑t.x.e,↑t.y.a,↑t.y.b,↑t.y.c,↑t.y.d,↑t.y.e,↑t.z.a,↑t.z.b,↑t.z.c,↑t.z.d,↑t.z.e,↑t.t.a,↑t.t.b,↑t.t.c,↑t.t.d,↑t.t.e]) (Bool) rESam (fun t => t) (List Int) rEBytes (fun t => t) (Pt × Int) rEParse (fun t => [↑t.fst.x.a,↑t.fst.x.b,↑t.fst.x.c,↑t.fst.x.d,↑t.fst.x.e,↑t.fst.y.a,↑t.fst.y.b,↑t.fst.y.c,↑t.fst.y.d,↑t.fst.y.e,↑t.fst.z.a,↑t.fst.z.b,↑t.fst.z.c,↑t.fst.z.d,↑t.fst.z.e,↑t.fst.t.a,↑t.fst.t.b,↑t.fst.t.c,↑t.fst.t.d,↑t.fst.t.e]) (fun t => t.snd) (Pt) rENeg (fun t => [↑t.x.a,↑t.x.b,↑t.x.c,↑t.x.d,↑t.x.e,↑t.y.a,↑t.y.b,↑t.y.c,↑t.y.d,↑t.y.e,↑t.z.a,↑t.z.b,↑t.z.c,↑t.z.d,↑t.z.e,↑t.t.a,↑t.t.b,↑t.t.c,↑t.t.d,↑t.t.e]) (Pt) rPAdd (fun t => [↑t.x.a,↑t.x.b,↑t.x.c,↑t.x.d,↑t.x.e,↑t.y.a,↑t.y.b,↑t.y.c,↑t.y.d,↑t.y.e,↑t.z.a,↑t.z.b,↑t.z.c,↑t.z.d,↑t.z.e,↑t.t.a,↑t.t.b,↑t.t.c,↑t.t.d,↑t.t.e]) (Bool) rENone (fun t => t)
theorem gok_R8T:CfOk prog gI_R8T.c:=⟨gam_cons ok_awake08 <| gam_cons ok_EHalf <| gam_cons ok_FOf <| gam_cons ok_FI <| gam_cons ok_At <| gam_cons ok_FNeg <| gam_cons ok_PNeg <| gam_cons ok_EPoint <| gam_cons ok_PAdd <| gam_cons ok_EPt <| gam_cons ok_ESam <| gam_cons ok_EBytes <| gam_cons ok_EParse <| gam_cons ok_ENeg <| gam_cons ok_EAdd <| gam_cons ok_ENone <| gam_nil,fun _ _ h => by cases h⟩
theorem tors_step {p T:Pt} {g t:CP.G} (hp:PT p g) (hg:Ev g) (hT:PT T t) (ht:e4 t) {j:Nat} (hj:j < 3) {l x1:List Int} (e:List.take 20 (List.drop (times ((j:Nat):Int).toNat 20) l) = rowP T) {fu:Nat} (G:Option St→Option AV) (H:Ex→Option St→Option AV) :
    lpR prog gI_R8T fu R8T_b1 G H (R8T_s1 l 3 3 (j:Int) (rowP p) x1) = G (some (R8T_s1 l 3 3 ((j + 1:Nat):Int) (rowP p) x1)):=by
  have A:=PT_add hp hT
  have s:sim g (CP.add g t):=sim_of ht rfl
  have r0:=run_EPt hp.ok
  have r1:=run_PAdd hp.ok hT.ok
  have r2:=run_EPt A.ok
  have r3:=sam_true A hp (sim_symm s)
  obtain ⟨L,b1,b2⟩:=two_bytes hp A hg s
  have w:IntKind.i64.wrap ((j:Int) + 1) = ((j + 1:Nat):Int):=wi64 (by omega) (by omega)
  generalize addP p T d2F = a at *
  refine (R8T_r1 ..).trans ?_
  rw [e,w]
  refine cstep (decide_eq_true (by omega)) ?_
  refine cstep (decide_eq_true (by omega)) ?_
  refine bstep r0 ?_
  refine bstep r1 ?_
  refine bstep r2 ?_
  refine bstep r3 ?_
  rw [Bool.not_true,cond_false]
  refine bstep b2 ?_
  refine bstep b1 ?_
  rw [decide_eq_true rfl,Bool.not_true,cond_false]
theorem ok_LRT:CallOk prog n_opalinelaw08_RistrettoTorsion sLRT:=by
  refine afunc_okE (g:=gI_R8T) (fu:=fun _ => 5) mixed gok_R8T h_opalinelaw08_RistrettoTorsion (by kernel_rfl) ?_
  intro args t ht
  unfold sLRT at ht
  simp only at ht
  split at ht
  · rename_i a b
    obtain ⟨h1,_⟩:=ctrueS ht
    rw [Bool.and_eq_true] at h1
    obtain ⟨ha,hb⟩:=h1
    refine (R8T_ev ..).trans ?_
    show _ = some (AV.bool true)
    have ea:=run_EHalf ha
    have eb:=run_EHalf hb
    have P:=PT_hb (a:=a)
    have Q:=PT_hb (a:=b)
    have hg:=ev_half (ph (looF a))
    have hh:=ev_half (ph (looF b))
    generalize halfF (looF a) = p at *
    generalize halfF (looF b) = q at *
    generalize gH (ph (looF a)) = g at *
    generalize gH (ph (looF b)) = h at *
    obtain ⟨t1,T1,k1⟩:=PT_t1
    obtain ⟨t2,T2,k2⟩:=PT_t2
    have T3:=PT_neg T1
    have k3:=e4_neg k1
    have a1:=run_At iF_ok (fe_ok 0)
    have a2:=run_At (fe_ok 0) (sub_ok (x:=f0) (y:=fe 1) f0_ok)
    rw [at_1,eF_iF] at a1
    rw [at_2] at a2
    have n1:=run_FNeg (fe_ok 1)
    have n3:=run_PNeg T1.ok
    obtain ⟨L,y,h',b1,p1,Y,s1,E1⟩:=read_back P hg
    have c1:=sam_true Y P (sim_symm s1)
    have c2:=run_ESam P.ok Q.ok
    have d1:=run_EBytes P.ok
    have d2:=run_EBytes Q.ok
    have de:=by_dec P Q hg hh
    have NP:=PT_neg P
    have m1:=run_ENeg P.ok
    have Z:=PT_add P NP
    have m2:=run_PAdd P.ok NP.ok
    have m3:=run_ENone Z.ok
    have m4:samE (addP p (negP p) d2F) neutP = true:=(none_eq Z).2 (by rw [CP.add_neg]; exact e4_zero)
    rw [m4] at m3
    rw [← de] at c2
    have d1':=d1
    generalize lo 32 (fv (bytesF p) % P25) = B1 at d1 d2 c2 de
    generalize lo 32 (fv (bytesF q) % P25) = B2 at *
    generalize addP p (negP p) d2F = z at *
    generalize negP p = np at *
    generalize plainP iF (fe 0) = U1 at *
    generalize plainP (fe 0) (subF f0 (fe 1)) = U2 at *
    generalize negP U1 = U3 at *
    generalize subF f0 (fe 1) = mo at *
    refine bstep (show rTrue [] = some () from rfl) ?_
    refine bstep ea ?_
    refine bstep eb ?_
    refine bstep (run_FOf (n:=0) (by decide)) ?_
    refine bstep (show rFI [] = some () from rfl) ?_
    refine bstep a1 ?_
    refine bstep (run_FOf (n:=1) (by decide)) ?_
    refine bstep n1 ?_
    refine bstep a2 ?_
    rw [decide_eq_true rfl,Bool.not_true,Bool.or_false,cond_false]
    refine bstep n3 ?_
    have q1:=tors_step (x1:=rowP q) (l:=rowP U1 ++ (rowP U2 ++ rowP U3)) (j:=0) (fu:=5) P hg T1 k1 (by decide) rfl
    have q2:=tors_step (x1:=rowP q) (l:=rowP U1 ++ (rowP U2 ++ rowP U3)) (j:=1) (fu:=5) P hg T2 k2 (by decide) rfl
    have q3:=tors_step (x1:=rowP q) (l:=rowP U1 ++ (rowP U2 ++ rowP U3)) (j:=2) (fu:=5) P hg T3 k3 (by decide) rfl
    show lpA prog gI_R8T 5 R8T_b1 _ 5 (some (R8T_s1 (rowP U1 ++ (rowP U2 ++ rowP U3)) 3 3 ((0:Nat):Int) (rowP p) (rowP q))) = _
    rw [show (5:Nat) = 4 + 1 from rfl,lpA_succ,q1,show (4:Nat) = 3 + 1 from rfl,lpA_succ,q2,show (3:Nat) = 2 + 1 from rfl,lpA_succ,q3,show (2:Nat) = 1 + 1 from rfl,lpA_succ]
    refine (R8T_r1 ..).trans ?_
    rw [decide_eq_false (by decide),cond_false,kOut_some]
    refine (R8T_c1e0 ..).trans ?_
    refine bstep b1 ?_
    refine bstep p1 ?_
    refine cstep (decide_eq_true rfl) ?_
    refine bstep c1 ?_
    refine cstep rfl ?_
    refine bstep c2 ?_
    refine bstep d1 ?_
    refine bstep d2 ?_
    refine cstep (beq_self_eq_true _) ?_
    refine bstep m1 ?_
    refine bstep m2 ?_
    refine bstep m3 ?_
    rfl
  · cases ht
end Go.Eng
