/- Texts of this claim, one behind the other: PCd4. -/
import Derived.Test.YtkmlepkmhpigeaaGreatZD2
/- CurveAdds. -/
namespace Go.Eng
open Go Go.Proofs
set_option linter.unusedVariables false
set_option linter.unusedSimpArgs false
set_option maxRecDepth 4000
noncomputable abbrev gI_DLA:Cg:=g_DLA (PUnit) rTrue (Nat) rRD (fun t => nb t) (fun t => (nb t).length) (PUnit) rRBase (Pt) rBase (fun t => [↑t.x.a,↑t.x.b,↑t.x.c,↑t.x.d,↑t.x.e,↑t.y.a,↑t.y.b,↑t.y.c,↑t.y.d,↑t.y.e,↑t.z.a,↑t.z.b,↑t.z.c,↑t.z.d,↑t.z.e,↑t.t.a,↑t.t.b,↑t.t.c,↑t.t.d,↑t.t.e]) (Nat) rScOf (fun t => lim 8 t) (Pt) rTimes (fun t => [↑t.x.a,↑t.x.b,↑t.x.c,↑t.x.d,↑t.x.e,↑t.y.a,↑t.y.b,↑t.y.c,↑t.y.d,↑t.y.e,↑t.z.a,↑t.z.b,↑t.z.c,↑t.z.d,↑t.z.e,↑t.t.a,↑t.t.b,↑t.t.c,↑t.t.d,↑t.t.e]) (Nat) rRefSmall (fun t => nb t) (fun t => (nb t).length) (RP) rRTimes (fun t => nb t.x) (fun t => (nb t.x).length) (fun t => nb t.y) (fun t => (nb t.y).length) (fun t => nb t.z) (fun t => (nb t.z).length) (Nat × Nat) rRPlain (fun t => nb t.fst) (fun t => (nb t.fst).length) (fun t => nb t.snd) (fun t => (nb t.snd).length) (Fe) rPX (fun t => [↑t.a,↑t.b,↑t.c,↑t.d,↑t.e]) (Fe) rPY (fun t => [↑t.a,↑t.b,↑t.c,↑t.d,↑t.e]) (Pt × Int) rAt (fun t => [↑t.fst.x.a,↑t.fst.x.b,↑t.fst.x.c,↑t.fst.x.d,↑t.fst.x.e,↑t.fst.y.a,↑t.fst.y.b,↑t.fst.y.c,↑t.fst.y.d,↑t.fst.y.e,↑t.fst.z.a,↑t.fst.z.b,↑t.fst.z.c,↑t.fst.z.d,↑t.fst.z.e,↑t.fst.t.a,↑t.fst.t.b,↑t.fst.t.c,↑t.fst.t.d,↑t.fst.t.e]) (fun t => t.snd) (Pt) rPAdd (fun t => [↑t.x.a,↑t.x.b,↑t.x.c,↑t.x.d,↑t.x.e,↑t.y.a,↑t.y.b,↑t.y.c,↑t.y.d,↑t.y.e,↑t.z.a,↑t.z.b,↑t.z.c,↑t.z.d,↑t.z.e,↑t.t.a,↑t.t.b,↑t.t.c,↑t.t.d,↑t.t.e]) (RP) rRAddP (fun t => nb t.x) (fun t => (nb t.x).length) (fun t => nb t.y) (fun t => (nb t.y).length) (fun t => nb t.z) (fun t => (nb t.z).length) (Bool) rIsP (fun t => t) (Pt) rDbl (fun t => [↑t.x.a,↑t.x.b,↑t.x.c,↑t.x.d,↑t.x.e,↑t.y.a,↑t.y.b,↑t.y.c,↑t.y.d,↑t.y.e,↑t.z.a,↑t.z.b,↑t.z.c,↑t.z.d,↑t.z.e,↑t.t.a,↑t.t.b,↑t.t.c,↑t.t.d,↑t.t.e]) (Pt) rPNeg (fun t => [↑t.x.a,↑t.x.b,↑t.x.c,↑t.x.d,↑t.x.e,↑t.y.a,↑t.y.b,↑t.y.c,↑t.y.d,↑t.y.e,↑t.z.a,↑t.z.b,↑t.z.c,↑t.z.d,↑t.z.e,↑t.t.a,↑t.t.b,↑t.t.c,↑t.t.d,↑t.t.e]) (Nat) rRSub (fun t => nb t) (fun t => (nb t).length) (Bool) rIs (fun t => t) (Bool) rPSam (fun t => t) (Pt) rSum3 (fun t => [↑t.x.a,↑t.x.b,↑t.x.c,↑t.x.d,↑t.x.e,↑t.y.a,↑t.y.b,↑t.y.c,↑t.y.d,↑t.y.e,↑t.z.a,↑t.z.b,↑t.z.c,↑t.z.d,↑t.z.e,↑t.t.a,↑t.t.b,↑t.t.c,↑t.t.d,↑t.t.e]) (RP) rRNeut (fun t => nb t.x) (fun t => (nb t.x).length) (fun t => nb t.y) (fun t => (nb t.y).length) (fun t => nb t.z) (fun t => (nb t.z).length) (Pt) rParts (fun t => [↑t.x.a,↑t.x.b,↑t.x.c,↑t.x.d,↑t.x.e]) (fun t => [↑t.y.a,↑t.y.b,↑t.y.c,↑t.y.d,↑t.y.e]) (fun t => [↑t.z.a,↑t.z.b,↑t.z.c,↑t.z.d,↑t.z.e]) (fun t => [↑t.t.a,↑t.t.b,↑t.t.c,↑t.t.d,↑t.t.e]) (Pt) rCOf (fun t => [↑t.x.a,↑t.x.b,↑t.x.c,↑t.x.d,↑t.x.e,↑t.y.a,↑t.y.b,↑t.y.c,↑t.y.d,↑t.y.e,↑t.z.a,↑t.z.b,↑t.z.c,↑t.z.d,↑t.z.e,↑t.t.a,↑t.t.b,↑t.t.c,↑t.t.d,↑t.t.e])
theorem gok_DLA:CfOk prog gI_DLA.c:=⟨gam_cons ok_awake07 <| gam_cons ok_RD <| gam_cons ok_RBase <| gam_cons ok_Base <| gam_cons ok_ScOf <| gam_cons ok_Times <| gam_cons ok_RefSmall <| gam_cons ok_RTimes <| gam_cons ok_RPlain <| gam_cons ok_PX <| gam_cons ok_PY <| gam_cons ok_At <| gam_cons ok_PAdd <| gam_cons ok_RAddP <| gam_cons ok_IsP <| gam_cons ok_Dbl <| gam_cons ok_PNeg <| gam_cons ok_RSub <| gam_cons ok_Is <| gam_cons ok_PSam <| gam_cons ok_Sum3 <| gam_cons ok_RNeut <| gam_cons ok_Parts <| gam_cons ok_COf <| gam_nil,fun _ _ h => by cases h⟩
def sLCA:Summ where
  T:=Unit
  run:=fun
    | [.c (.s (.pl (.int .u16 a))),.c (.s (.pl (.int .u16 b)))] => cond (decide (0 ≤ a ∧ a < 65536) && decide (0 ≤ b ∧ b < 65536)) (some ()) none
    | _ => none
  enc:=fun _ => .bool true
theorem PT_x {p:Pt} {g:CP.G} (hp:PT p g):ph (mulF p.x (invF p.z)) = g.1.1:=by
  have h:=inv_Q _ hp.z
  rw [ph_mul,ph_inv,hp.x]
  generalize ph p.z = z at *
  generalize invQ z = i at *
  grind (splits:=0) -lia -linarith
theorem PT_y {p:Pt} {g:CP.G} (hp:PT p g):ph (mulF p.y (invF p.z)) = g.1.2:=by
  have h:=inv_Q _ hp.z
  rw [ph_mul,ph_inv,hp.y]
  generalize ph p.z = z at *
  generalize invQ z = i at *
  grind (splits:=0) -lia -linarith
theorem on_iff {x y:Fe} (hx:fOk x):onF x y = true ↔ CP.On2 (ph x,ph y):=by
  unfold onF
  rw [ph_sam,ph_sub (mul_ok hx hx),ph_mul,ph_mul,ph_add,ph_mul,ph_mul,ph_mul,ph_mul,ph_1,ph_d]
  show _ ↔ ph y * ph y - ph x * ph x = 1 + CP.d * ph x * ph x * ph y * ph y
  constructor <;> intro h
  · grind (splits:=0) -lia -linarith
  · grind (splits:=0) -lia -linarith
theorem invN_fn (z:Nat):fn (invN z) = invQ (fn z):=by
  rw [invN_pow expI]
  unfold invQ
  rw [fn_mod]
  exact fn_eq.2 (pow_mod_congr (Nat.mod_mod _ _).symm _)
theorem RPT_plain {r:RP} {g:CP.G} (hr:RPT r g):fn (plR r).1 = g.1.1 ∧ fn (plR r).2 = g.1.2:=by
  have h:=inv_Q _ hr.z
  have e1:fn (plR r).1 = fn r.x * invQ (fn r.z):=by
    show fn (r.x * invN r.z % P25) = _
    rw [fn_mod,fn_mul,invN_fn]
  have e2:fn (plR r).2 = fn r.y * invQ (fn r.z):=by
    show fn (r.y * invN r.z % P25) = _
    rw [fn_mod,fn_mul,invN_fn]
  rw [e1,e2,hr.x,hr.y]
  generalize fn r.z = z at *
  generalize invQ z = i at *
  constructor <;> grind (splits:=0) -lia -linarith
theorem is_fn {x:Fe} {n:Nat} (hx:fOk x) (hn:n < P25) (h:ph x = fn n):rIs [eF x,eN n] = some true:=by
  rw [run_Is hx hn]
  have:=fn_eq.1 h
  rw [Nat.mod_eq_of_lt hn] at this
  rw [this,Nat.beq_refl]
theorem eRP_mk (a b c:Nat):eRP ⟨a,b,c⟩ = .c (.mix [.dat (.ints .i64 (nb a)) (nb a).length 1,.dat (.ints .i64 (nb b)) (nb b).length 1,.dat (.ints .i64 (nb c)) (nb c).length 1]):=rfl
theorem ok_LCA:CallOk prog n_opalinelaw07_CurveAdds sLCA:=by
  refine afunc_okE (g:=gI_DLA) (fu:=fun _ => 0) mixed gok_DLA h_opalinelaw07_CurveAdds (by kernel_rfl) ?_
  intro args t ht
  unfold sLCA at ht
  simp only at ht
  split at ht
  · rename_i a b
    obtain ⟨hc,_⟩:=ctrueS ht
    rw [Bool.and_eq_true] at hc
    have ha:=of_decide_eq_true hc.1
    have hb:=of_decide_eq_true hc.2
    refine (DLA_ev ..).trans ?_
    show _ = some (AV.bool true)
    obtain ⟨m,rfl⟩:=Int.eq_ofNat_of_zero_le ha.1
    obtain ⟨n,rfl⟩:=Int.eq_ofNat_of_zero_le hb.1
    have hm:m < 65536:=by omega
    have hn:n < 65536:=by omega
    have ew1:IntKind.u64.wrap ((m:Nat):Int) = ((m:Nat):Int):=wu64 (by omega) (by omega)
    have ew2:IntKind.u64.wrap ((n:Nat):Int) = ((n:Nat):Int):=wu64 (by omega) (by omega)
    have hmL:m < LN:=Nat.lt_trans hm (by decide)
    have hnL:n < LN:=Nat.lt_trans hn (by decide)
    have hmM:m < M512':=Nat.lt_trans hm (by decide)
    have hnM:n < M512':=Nat.lt_trans hn (by decide)
    have o1:=run_ScOf (n:=m) (by omega)
    have o2:=run_ScOf (n:=n) (by omega)
    have s1:=run_RefSmall (k:=m) (by omega)
    have s2:=run_RefSmall (k:=n) (by omega)
    have tx:=run_TimesN base_ok m
    have ty:=run_TimesN base_ok n
    have p:=PT_nB hmL
    have q:=PT_nB hnL
    have hdd:decide (((m:Nat):Int) = ((n:Nat):Int)) = decide (m = n):=decide_eq_decide.2 (by omega)
    rw [ew1,ew2,hdd]
    have hdN:dN < P25:=by decide
    have rt:=run_RTimes (p:=baseR) (n:=m) (d:=dN) RPT_base.ok hmM hdN
    have rs:=run_RTimes (p:=baseR) (n:=n) (d:=dN) RPT_base.ok hnM hdN
    have u:=RPT_times RPT_base m
    have v:=RPT_times RPT_base n
    have o:=run_Base
    have hsame:samP (timesP baseP (bitsDn (val (lim 8 m)) 253)) (timesP baseP (bitsDn (val (lim 8 n)) 253)) = decide (m = n):=by
      by_cases e:m = n
      · rw [decide_eq_true e,(PT_same p q).2 (by rw [e])]
      · rw [decide_eq_false e,Bool.eq_false_iff]
        intro h
        exact e ((nsm_inj hmL hnL).1 ((PT_same p q).1 h))
    have sP:=run_PSam p.ok q.ok
    rw [hsame] at sP
    rw [eRP_base] at rt rs
    have hNe:rRNeut [] = some neutR:=rfl
    generalize timesP baseP (bitsDn (val (lim 8 m)) 253) = P at *
    generalize timesP baseP (bitsDn (val (lim 8 n)) 253) = Q at *
    generalize timesR baseR m dN = U at *
    generalize timesR baseR n dN = V at *
    generalize CP.nsm m gB = g at *
    generalize CP.nsm n gB = h at *
    generalize decide (m = n) = be at *
    generalize baseP = Bp at *
    have N:=PT_neut
    have pu:RPT (addR U V dN) (CP.add g h):=RPT_add u v
    have uu:RPT (addR U U dN) (CP.add g g):=RPT_add u u
    have uuv:RPT (addR U (addR U V dN) dN) (CP.add g (CP.add g h)):=RPT_add u pu
    have PQ:=PT_add p q
    have PD:=PT_dbl p
    have PN:=PT_neg p
    have UN:=RPT_neg u
    have rpl:=run_RPlain u.ok
    have pl:=RPT_plain u
    have lx:(plR U).1 < P25:=mP _
    have ly:(plR U).2 < P25:=mP _
    generalize plR U = xy at *
    have px:=run_PX p.ok
    have py:=run_PY p.ok
    have ex:=PT_x p
    have ey:=PT_y p
    have okx:fOk (mulF P.x (invF P.z)):=mul_ok p.ok.1 (inv_okP p.ok.2.2.1)
    have oky:fOk (mulF P.y (invF P.z)):=mul_ok p.ok.2.1 (inv_okP p.ok.2.2.1)
    generalize mulF P.x (invF P.z) = X at *
    generalize mulF P.y (invF P.z) = Y at *
    have on:CP.On2 (ph X,ph Y):=by rw [ex,ey]; exact g.2
    have hat:=run_At okx oky
    have eat:atF X Y = (plainP X Y,0):=by
      unfold atF
      rw [(on_iff okx).2 on]; rfl
    rw [eat] at hat
    have pat:PT (plainP X Y) g:=by
      have h1:=PT_plain okx oky on
      have e1:(⟨(ph X,ph Y),on⟩:CP.G) = g:=Subtype.ext (Prod.ext ex ey)
      rwa [e1] at h1
    have ad:=run_PAdd p.ok q.ok
    have add:=run_RAddP (d:=dN) u.ok v.ok hdN
    have auu:=run_RAddP (d:=dN) u.ok u.ok hdN
    have auuv:=run_RAddP (d:=dN) u.ok pu.ok hdN
    have db:=run_Dbl p.ok
    have ng:=run_PNeg p.ok
    have sb:=run_RSub (x:=0) (y:=U.x) (by decide) u.ok.x
    generalize (0 + P25 - U.x) % P25 = w at *
    have hN:=isP_true PN UN
    rw [eRP_mk] at hN
    have sm:=run_Sum3 p.ok q.ok p.ok
    have S3:PT (sum3 P Q P) (CP.add g (CP.add g h)):=by
      have h1:=PT_add (PT_add (PT_add N p) q) p
      rw [CP.zero_add,CP.add_assoc,CP.add_comm h g] at h1
      exact h1
    have par:=run_Parts p.ok
    have cof:=run_COf p.ok.1 p.ok.2.1 p.ok.2.2.1 p.ok.2.2.2
    have sAt:=samT pat p rfl
    refine bstep (show rTrue [] = some () from rfl) ?_
    refine bstep run_RD ?_
    refine bstep run_RBase ?_
    refine bstep o ?_
    refine bstep o1 ?_
    refine bstep tx ?_
    refine bstep o ?_
    refine bstep o2 ?_
    refine bstep ty ?_
    refine bstep s1 ?_
    refine bstep rt ?_
    refine bstep s2 ?_
    refine bstep rs ?_
    refine bstep rpl ?_
    refine bstep px ?_
    refine bstep py ?_
    refine bstep hat ?_
    refine bstep ad ?_
    refine bstep add ?_
    refine bstep (isP_true PQ pu) ?_
    refine cstep rfl ?_
    refine bstep db ?_
    refine bstep auu ?_
    refine bstep (isP_true PD uu) ?_
    refine cstep rfl ?_
    refine bstep ng ?_
    refine bstep sb ?_
    refine bstep hN ?_
    refine cstep rfl ?_
    refine bstep px ?_
    refine bstep (is_fn okx lx (ex.trans pl.1.symm)) ?_
    refine cstep rfl ?_
    refine bstep py ?_
    refine bstep (is_fn oky ly (ey.trans pl.2.symm)) ?_
    refine cstep rfl ?_
    refine cstep (decide_eq_true rfl) ?_
    refine bstep sAt ?_
    refine cstep rfl ?_
    refine bstep sP ?_
    refine cstep (by cases be <;> rfl) ?_
    refine bstep sm ?_
    refine bstep add ?_
    refine bstep auuv ?_
    refine bstep (isP_true S3 uuv) ?_
    refine cstep rfl ?_
    refine bstep (show rSum3 [.s (.dat (.ints .u64 []) 0 20)] = some neutP from rfl) ?_
    refine bstep hNe ?_
    refine bstep (isP_true N RPT_neut) ?_
    refine cstep rfl ?_
    refine bstep par ?_
    refine bstep cof ?_
    refine bstep (isP_true p u) ?_
    rfl
  · cases ht
end Go.Eng
