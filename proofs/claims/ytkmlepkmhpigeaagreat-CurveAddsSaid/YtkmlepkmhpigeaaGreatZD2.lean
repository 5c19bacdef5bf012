/- Texts of this claim, one behind the other: Fp8, Cv5, CuE, GCu6, PCd3. -/
import Derived.KernelRfl
import Derived.Test.YtkmlepkmhpigeaaGreatEngNums
import Derived.Test.YtkmlepkmhpigeaaGreatZD1
import Derived.Test.YtkmlepkmhpigeaaGreatZF3
import Derived.Test.YtkmlepkmhpigeaaGreatZG2
import Derived.Test.YtkmlepkmhpigeaaGreatZG3
/- The curve's order is a prime. -/
namespace Go.Eng
set_option linter.unusedVariables false
theorem q8_0:Pr 2551:=small (by decide +kernel)
theorem q8_1:Pr 1224481:=pock [2551] 2 21 (by simp [q8_0]) (by decide) (by decide +kernel)
theorem q8_2:Pr 3797:=small (by decide +kernel)
theorem q8_3:Pr 531581:=pock [3797] 2 20 (by simp [q8_2]) (by decide) (by decide +kernel)
theorem q8_4:Pr 1257559732178653:=pock [1224481,531581] 2 51 (by simp [q8_1,q8_3]) (by decide) (by decide +kernel)
theorem q8_5:Pr 4434155615661930479:=pock [1257559732178653] 2 62 (by simp [q8_4]) (by decide) (by decide +kernel)
theorem q8_6:Pr 172054593956031949258510691:=pock [4434155615661930479] 2 88 (by simp [q8_5]) (by decide) (by decide +kernel)
theorem q8_7:Pr 19757330305831588566944191468367130476339:=pock [172054593956031949258510691] 2 134 (by simp [q8_6]) (by decide) (by decide +kernel)
theorem q8_8:Pr 276602624281642239937218680557139826668747:=pock [19757330305831588566944191468367130476339] 2 138 (by simp [q8_7]) (by decide) (by decide +kernel)
theorem q8_9:Pr 7237005577332262213973186563042994240857116359379907606001950938285454250989:=pock [276602624281642239937218680557139826668747] 2 253 (by simp [q8_8]) (by decide) (by decide +kernel)
theorem prL:Pr 7237005577332262213973186563042994240857116359379907606001950938285454250989:=q8_9
end Go.Eng
/- The document's points stand for the group's; the multiples of the base are told apart. -/
namespace Go.Eng
open Go Go.Proofs
set_option linter.unusedVariables false
theorem inv_L {k:Nat} (h0:0 < k) (h:k < LN):k * k ^ (LN - 2) % LN = 1:=by
  have hd:¬ LN ∣ k:=fun hd => by have:=Nat.le_of_dvd h0 hd; omega
  exact fermat_succ (p:=LN) prL hd (by decide)
theorem nsm_free {g:CP.G} (hL:CP.nsm LN g = CP.zero) {k u:Nat} (hu:k * u % LN = 1) (hz:CP.nsm k g = CP.zero):g = CP.zero:=by
  have h1:CP.nsm (k * u % LN) g = g:=by rw [hu,CP.nsm_one]
  rw [CP.nsm_mod hL,Nat.mul_comm,CP.nsm_mul,hz,CP.nsm_zero] at h1
  exact h1.symm
theorem nsm_ne {k:Nat} (h0:0 < k) (h:k < LN):CP.nsm k gB ≠ CP.zero:=fun hz => by
  have hu:=inv_L h0 h
  generalize k ^ (LN - 2) = u at hu
  exact gB_ne (nsm_free gB_ord hu hz)
theorem nsm_lt {a b:Nat} (h:a < b) (hb:b < LN):CP.nsm a gB ≠ CP.nsm b gB:=fun e => by
  have h1:CP.nsm b gB = CP.add (CP.nsm (b - a) gB) (CP.nsm a gB):=by rw [← CP.nsm_add,Nat.sub_add_cancel (Nat.le_of_lt h)]
  rw [← e] at h1
  have h2:CP.add (CP.nsm (b - a) gB) (CP.nsm a gB) = CP.add CP.zero (CP.nsm a gB):=by rw [← h1,CP.zero_add]
  exact nsm_ne (by omega) (by omega) (CP.add_can h2)
theorem nsm_inj {a b:Nat} (ha:a < LN) (hb:b < LN):CP.nsm a gB = CP.nsm b gB ↔ a = b:=by
  constructor
  · intro e
    rcases Nat.lt_trichotomy a b with h | h | h
    · exact absurd e (nsm_lt h hb)
    · exact h
    · exact absurd e.symm (nsm_lt h ha)
  · rintro rfl; rfl
structure RPT (r:RP) (g:CP.G):Prop where
  ok:r.ok
  z:fn r.z ≠ 0
  x:fn r.x = g.1.1 * fn r.z
  y:fn r.y = g.1.2 * fn r.z
theorem fn_subR {a b:Nat} (h:b < P25):fn (a + P25 - b) = fn a - fn b:=by
  have e:fn (a + P25 - b + b) = fn a:=by
    rw [Nat.sub_add_cancel (by omega)]
    exact fn_eq.2 (Nat.add_mod_right _ _)
  rw [fn_add] at e
  grind (splits:=0) -lia -linarith
section
variable {q:Nat} [NeZero q]
theorem rg1 {x1 y1 x2 y2 z1 z2 d p:Fin q} (hp:p = 1 + d * x1 * y1 * x2 * y2):z1 * z2 * (z1 * z2) + d * (x1 * z1 * (x2 * z2) * (y1 * z1 * (y2 * z2))) = z1 * z2 * (z1 * z2) * p:=by
  subst hp
  grind (splits:=0) -lia -linarith
theorem rg2 {x1 y1 x2 y2 z1 z2 d m:Fin q} (hm:m = 1 - d * x1 * y1 * x2 * y2):z1 * z2 * (z1 * z2) - d * (x1 * z1 * (x2 * z2) * (y1 * z1 * (y2 * z2))) = z1 * z2 * (z1 * z2) * m:=by
  subst hm
  grind (splits:=0) -lia -linarith
theorem rg3 {x1 y1 x2 y2 z1 z2 X p f:Fin q} (hX:X * p = x1 * y2 + x2 * y1):z1 * z2 * f * (x1 * z1 * (y2 * z2) + y1 * z1 * (x2 * z2)) = X * (f * (z1 * z2 * (z1 * z2) * p)):=by
  grind (splits:=0) -lia -linarith
theorem rg4 {x1 y1 x2 y2 z1 z2 Y m f:Fin q} (hY:Y * m = y1 * y2 + x1 * x2):z1 * z2 * f * (y1 * z1 * (y2 * z2) + x1 * z1 * (x2 * z2)) = Y * (z1 * z2 * (z1 * z2) * m * f):=by
  grind (splits:=0) -lia -linarith
end
theorem RPT_add {p r:RP} {g h:CP.G} (hp:RPT p g) (hr:RPT r h):RPT (addR p r dQN) (CP.add g h):=by
  have hX:=CP.ad_x g.2 h.2
  have hY:=CP.ad_y g.2 h.2
  have p0:=CP.dp_ne g.2 h.2
  have m0:=CP.dm_ne g.2 h.2
  have eB:fn (p.z * r.z % P25 * (p.z * r.z % P25) % P25) = fn p.z * fn r.z * (fn p.z * fn r.z):=by rw [fn_mod,fn_mul,fn_mod,fn_mul]
  have eE:fn (dQN * (p.x * r.x % P25 * (p.y * r.y % P25) % P25) % P25) = CP.d * (g.1.1 * fn p.z * (h.1.1 * fn r.z) * (g.1.2 * fn p.z * (h.1.2 * fn r.z))):=by
    rw [fn_mod,fn_mul,fn_mod,fn_mul,fn_mod,fn_mul,fn_mod,fn_mul,hp.x,hp.y,hr.x,hr.y]; rfl
  have lE:dQN * (p.x * r.x % P25 * (p.y * r.y % P25) % P25) % P25 < P25:=mP _
  have eF:fn ((p.z * r.z % P25 * (p.z * r.z % P25) % P25 + P25 - dQN * (p.x * r.x % P25 * (p.y * r.y % P25) % P25) % P25) % P25) = fn p.z * fn r.z * (fn p.z * fn r.z) * CP.dm g.1 h.1:=by
    rw [fn_mod,fn_subR lE,eB,eE]
    exact rg2 rfl
  have eG:fn ((p.z * r.z % P25 * (p.z * r.z % P25) % P25 + dQN * (p.x * r.x % P25 * (p.y * r.y % P25) % P25) % P25) % P25) = fn p.z * fn r.z * (fn p.z * fn r.z) * CP.dp g.1 h.1:=by
    rw [fn_mod,fn_add,eB,eE]
    exact rg1 rfl
  have hz:fn p.z * fn r.z ≠ 0:=CP.mul_ne hp.z hr.z
  have hz2:=CP.mul_ne hz hz
  have key:∀ F G:Nat,fn F = fn p.z * fn r.z * (fn p.z * fn r.z) * CP.dm g.1 h.1→fn G = fn p.z * fn r.z * (fn p.z * fn r.z) * CP.dp g.1 h.1 →
      (fn (F * G % P25) ≠ 0 ∧ fn (p.z * r.z % P25 * F % P25 * ((p.x * r.y % P25 + p.y * r.x % P25) % P25) % P25) = (CP.add g h).1.1 * fn (F * G % P25)) ∧
        fn (p.z * r.z % P25 * G % P25 * ((p.y * r.y % P25 + p.x * r.x % P25) % P25) % P25) = (CP.add g h).1.2 * fn (F * G % P25):=by
    intro F G hF hG
    refine ⟨⟨?_,?_⟩,?_⟩
    · rw [fn_mod,fn_mul,hF,hG]
      exact CP.mul_ne (CP.mul_ne hz2 m0) (CP.mul_ne hz2 p0)
    · rw [fn_mod,fn_mul,fn_mod,fn_mul,fn_mod,fn_mul,fn_mod,fn_add,fn_mod,fn_mul,fn_mod,fn_mul,fn_mod,fn_mul,hp.x,hp.y,hr.x,hr.y,hG]
      exact rg3 hX
    · rw [fn_mod,fn_mul,fn_mod,fn_mul,fn_mod,fn_mul,fn_mod,fn_add,fn_mod,fn_mul,fn_mod,fn_mul,fn_mod,fn_mul,hp.x,hp.y,hr.x,hr.y,hF]
      exact rg4 hY
  have k:=key _ _ eF eG
  exact ⟨addR_ok _ _ _,k.1.1,k.1.2,k.2⟩
theorem RPT_neut:RPT neutR CP.zero:=by
  refine ⟨neutR_ok,?_,?_,?_⟩
  · show fn 1 ≠ 0
    rw [fn_one]; exact CP.h1
  · show fn 0 = 0 * fn 1
    rw [fn_zero,Fin.zero_mul]
  · show fn 1 = 1 * fn 1
    rw [Fin.one_mul]
theorem RPT_base:RPT baseR gB:=by
  refine ⟨⟨by decide,by decide,by decide⟩,?_,?_,?_⟩
  · show fn 1 ≠ 0
    rw [fn_one]; exact CP.h1
  · show fn bxN = fn bxN * fn 1
    rw [fn_one,Fin.mul_one]
  · show fn byN = fn byN * fn 1
    rw [fn_one,Fin.mul_one]
theorem RPT_steps {p:RP} {g:CP.G} (hp:RPT p g) (A:Nat):∀ (n m:Nat) (c:RP),RPT c (CP.nsm m g)→RPT ((bitsDn A n).foldl (stepR p dQN) c) (CP.nsm (m * 2 ^ n + A % 2 ^ n) g):=by
  intro n
  induction n with
  | zero => intro m c hc; rw [Nat.pow_zero,Nat.mod_one,Nat.mul_one,Nat.add_zero]; exact hc
  | succ n ih =>
    intro m c hc
    show RPT ((bitsDn A n).foldl (stepR p dQN) (stepR p dQN c (bitL A n))) _
    have hd:RPT (addR c c dQN) (CP.nsm (m + m) g):=by rw [CP.nsm_add]; exact RPT_add hc hc
    have key:∀ (b:Nat),b = A / 2 ^ n % 2→RPT (stepR p dQN c (Nat.beq b 1)) (CP.nsm (m + m + b) g):=by
      intro b hb
      have hb2:b < 2:=by rw [hb]; exact Nat.mod_lt _ (by omega)
      match b,hb2 with
      | 0,_ => exact hd
      | 1,_ => exact RPT_add hd hp
    have h1:=ih (m + m + A / 2 ^ n % 2) _ (key _ rfl)
    have e:(m + m + A / 2 ^ n % 2) * 2 ^ n + A % 2 ^ n = m * 2 ^ (n + 1) + A % 2 ^ (n + 1):=by
      have h2:A % 2 ^ (n + 1) = A % 2 ^ n + 2 ^ n * (A / 2 ^ n % 2):=by rw [Nat.pow_succ,Nat.mod_mul]
      rw [h2,Nat.pow_succ]
      generalize 2 ^ n = K
      generalize A / K % 2 = b
      generalize A % K = r
      rw [Nat.add_mul,Nat.add_mul,← Nat.mul_assoc,Nat.mul_two,Nat.mul_comm b]
      omega
    rw [← e]
    exact h1
theorem RPT_times {p:RP} {g:CP.G} (hp:RPT p g) (A:Nat):RPT (timesR p A dQN) (CP.nsm A g):=by
  have:=RPT_steps hp A (bl A) 0 neutR RPT_neut
  rw [Nat.zero_mul,Nat.zero_add,Nat.mod_eq_of_lt (bl_spec A).1] at this
  exact this
theorem RPT_neg {p:RP} {g:CP.G} (hp:RPT p g):RPT ⟨(0 + P25 - p.x) % P25,p.y,p.z⟩ (CP.neg g):=by
  refine ⟨⟨mP _,hp.ok.y,hp.ok.z⟩,hp.z,?_,hp.y⟩
  show fn ((0 + P25 - p.x) % P25) = -g.1.1 * fn p.z
  rw [fn_mod,fn_subR hp.ok.x,hp.x,fn_zero]
  grind (splits:=0) -lia -linarith
theorem ph_mod (x:Fe):fn (fv x % P25) = ph x:=fn_mod _
theorem nb_pos {c:Nat} (h:c ≠ 0):0 < (nb c).length:=by
  rcases Nat.eq_zero_or_pos (nb c).length with h0 | h0
  · exfalso
    have h1:=vB_nb c
    rw [List.length_eq_zero_iff.1 h0] at h1
    exact h h1.symm
  · exact h0
theorem is_true {p:Pt} {r:RP} {g:CP.G} (hp:PT p g) (hr:RPT r g):isR p r = true:=by
  unfold isR
  have h1:0 < (nb (fv p.z % P25)).length:=nb_pos fun h => hp.z (by rw [← ph_mod,h,fn_zero])
  have hx:=hp.x
  have hy:=hp.y
  have ht:=hp.t
  have h2:Nat.beq (fv p.x % P25 * r.z % P25) (r.x * (fv p.z % P25) % P25) = true:=by
    have:fn (fv p.x % P25 * r.z) = fn (r.x * (fv p.z % P25)):=by
      rw [fn_mul,fn_mul,ph_mod,ph_mod,hp.x,hr.x]
      clear hx hy ht
      grind (splits:=0) -lia -linarith
    rw [fn_eq.1 this]; exact Nat.beq_refl _
  have h3:Nat.beq (fv p.y % P25 * r.z % P25) (r.y * (fv p.z % P25) % P25) = true:=by
    have:fn (fv p.y % P25 * r.z) = fn (r.y * (fv p.z % P25)):=by
      rw [fn_mul,fn_mul,ph_mod,ph_mod,hp.y,hr.y]
      clear hx hy ht
      grind (splits:=0) -lia -linarith
    rw [fn_eq.1 this]; exact Nat.beq_refl _
  have h4:samF (mulF p.x p.y) (mulF p.z p.t) = true:=by
    rw [ph_sam,ph_mul,ph_mul,hx,hy,ht]
    clear hx hy ht
    grind (splits:=0) -lia -linarith
  rw [decide_eq_true h1,h2,h3,h4]; rfl
end Go.Eng
/- curve.Sum of three points, of none: the contract. -/
namespace Go.Eng
open Go Go.Proofs
set_option linter.unusedVariables false
set_option linter.unusedSimpArgs false
def ptL:List Int→Option Pt
  | [a,b,c,d,e,f,g,h,i,j,k,l,m,n,o,p,q,r,s,t] => cond (inF a b c d e && (inF f g h i j && (inF k l m n o && inF p q r s t))) (some ⟨toF a b c d e,toF f g h i j,toF k l m n o,toF p q r s t⟩) none
  | _ => none
def sum3 (p q r:Pt):Pt:=addP (addP (addP neutP p d2F) q d2F) r d2F
def sSum:Summ where
  T:=Pt
  run:=fun
    | [.c (.s (.dat (.ints .u64 l) 3 20))] => match ptL (l.take 20),ptL ((l.drop 20).take 20),ptL (l.drop 40) with
      | some p,some q,some r => some (sum3 p q r)
      | _,_,_ => none
    | [.c (.s (.pl (.raw (.slice none 0 0))))] => some neutP
    | [.c (.s (.dat (.ints .u64 []) 0 20))] => some neutP
    | _ => none
  enc:=eP
def rSum3:List AV→Option Pt:=sSum.run
end Go.Eng
/- GENERATED by gen.py: what the evaluator comes to at these functions. -/
namespace Go.Eng
open Go Go.Proofs
set_option linter.unusedVariables false
set_option linter.unusedSimpArgs false
noncomputable def g_DS3 (T0:Type) (R0:List AV→Option T0) (f0a:T0→List Int) (T1:Type) (R1:List AV→Option T1) (f1a:T1→List Int) (T2:Type) (R2:List AV→Option T2) (f2a:T2→List Int):Cg:=⟨⟨gam [(n_curve_Neutral,⟨R0,fun t => AV.agg (TRow.ints IntKind.u64 (f0a t)) 20⟩),(n_curve_Point_Add,⟨R1,fun t => AV.agg (TRow.ints IntKind.u64 (f1a t)) 20⟩),(n_curve_Point_Add,⟨R2,fun t => AV.agg (TRow.ints IntKind.u64 (f2a t)) 20⟩)],[],noE⟩,[(4,[2,3,7,8,9],[2,3]),(1000004,[4],[])]⟩
section
variable (T0:Type) (R0:List AV→Option T0) (f0a:T0→List Int) (T1:Type) (R1:List AV→Option T1) (f1a:T1→List Int) (T2:Type) (R2:List AV→Option T2) (f2a:T2→List Int)
theorem DS3_ev (fu:Nat) (p q r:Pt):afunc prog f_curve_Sum (g_DS3 T0 R0 f0a T1 R1 f1a T2 R2 f2a) fu [AV.s (SV.dat (TRow.ints IntKind.u64 (rowP p ++ (rowP q ++ rowP r))) (3:Nat) (20:Nat))] = (R0 []).bind fun (t:T0) => (R1 [AV.agg (TRow.ints IntKind.u64 (f0a t)) (20:Nat),AV.agg (TRow.ints IntKind.u64 (List.take (20:Nat) (List.drop (0:Nat) (rowP p ++ (rowP q ++ rowP r))))) (20:Nat)]).bind fun (t:T1) => (R1 [AV.agg (TRow.ints IntKind.u64 (f1a t)) (20:Nat),AV.agg (TRow.ints IntKind.u64 (List.take (20:Nat) (List.drop (20:Nat) (rowP p ++ (rowP q ++ rowP r))))) (20:Nat)]).bind fun (t:T1) => (R1 [AV.agg (TRow.ints IntKind.u64 (f1a t)) (20:Nat),AV.agg (TRow.ints IntKind.u64 (List.take (20:Nat) (List.drop (40:Nat) (rowP p ++ (rowP q ++ rowP r))))) (20:Nat)]).bind fun (t:T1) => some (AV.agg (TRow.ints IntKind.u64 (f1a t)) (20:Nat)):=by kernel_rfl
end
noncomputable def g_DS0 (T0:Type) (R0:List AV→Option T0) (f0a:T0→List Int) (T1:Type) (R1:List AV→Option T1) (f1a:T1→List Int) (T2:Type) (R2:List AV→Option T2) (f2a:T2→List Int):Cg:=⟨⟨gam [(n_curve_Neutral,⟨R0,fun t => AV.agg (TRow.ints IntKind.u64 (f0a t)) 20⟩),(n_curve_Point_Add,⟨R1,fun t => AV.agg (TRow.ints IntKind.u64 (f1a t)) 20⟩),(n_curve_Point_Add,⟨R2,fun t => AV.agg (TRow.ints IntKind.u64 (f2a t)) 20⟩)],[],noE⟩,[(4,[2,3,7,8,9],[2,3]),(1000004,[4],[])]⟩
section
variable (T0:Type) (R0:List AV→Option T0) (f0a:T0→List Int) (T1:Type) (R1:List AV→Option T1) (f1a:T1→List Int) (T2:Type) (R2:List AV→Option T2) (f2a:T2→List Int)
theorem DS0_ev (fu:Nat):afunc prog f_curve_Sum (g_DS0 T0 R0 f0a T1 R1 f1a T2 R2 f2a) fu [AV.s (SV.pl (Pl.raw (Value.slice none (0:Nat) (0:Nat))))] = (R0 []).bind fun (t:T0) => some (AV.agg (TRow.ints IntKind.u64 (f0a t)) (20:Nat)):=by kernel_rfl
end
noncomputable def g_DS1 (T0:Type) (R0:List AV→Option T0) (f0a:T0→List Int) (T1:Type) (R1:List AV→Option T1) (f1a:T1→List Int) (T2:Type) (R2:List AV→Option T2) (f2a:T2→List Int):Cg:=⟨⟨gam [(n_curve_Neutral,⟨R0,fun t => AV.agg (TRow.ints IntKind.u64 (f0a t)) 20⟩),(n_curve_Point_Add,⟨R1,fun t => AV.agg (TRow.ints IntKind.u64 (f1a t)) 20⟩),(n_curve_Point_Add,⟨R2,fun t => AV.agg (TRow.ints IntKind.u64 (f2a t)) 20⟩)],[],noE⟩,[(4,[2,3,7,8,9],[2,3]),(1000004,[4],[])]⟩
section
variable (T0:Type) (R0:List AV→Option T0) (f0a:T0→List Int) (T1:Type) (R1:List AV→Option T1) (f1a:T1→List Int) (T2:Type) (R2:List AV→Option T2) (f2a:T2→List Int)
theorem DS1_ev (fu:Nat):afunc prog f_curve_Sum (g_DS1 T0 R0 f0a T1 R1 f1a T2 R2 f2a) fu [AV.s (SV.dat (TRow.ints IntKind.u64 []) (0:Nat) (20:Nat))] = (R0 []).bind fun (t:T0) => some (AV.agg (TRow.ints IntKind.u64 (f0a t)) (20:Nat)):=by kernel_rfl
end
section
variable (T0:Type) (R0:List AV→Option T0) (T1:Type) (R1:List AV→Option T1) (f1a:T1→List Int) (f1b:T1→Nat) (T2:Type) (R2:List AV→Option T2) (f2a:T2→List Int) (f2b:T2→List Int) (f2c:T2→Nat) (T3:Type) (R3:List AV→Option T3) (T4:Type) (R4:List AV→Option T4) (f4a:T4→Bool) (T5:Type) (R5:List AV→Option T5) (f5a:T5→List Int) (T6:Type) (R6:List AV→Option T6) (T7:Type) (R7:List AV→Option T7) (f7a:T7→Bool) (T8:Type) (R8:List AV→Option T8) (f8a:T8→List Int) (T9:Type) (R9:List AV→Option T9) (f9a:T9→List Int) (f9b:T9→Nat) (f9c:T9→List Int) (f9d:T9→Nat) (f9e:T9→List Int) (f9f:T9→Nat)
end
noncomputable def g_DLA (T0:Type) (R0:List AV→Option T0) (T1:Type) (R1:List AV→Option T1) (f1a:T1→List Int) (f1b:T1→Nat) (T2:Type) (R2:List AV→Option T2) (T3:Type) (R3:List AV→Option T3) (f3a:T3→List Int) (T4:Type) (R4:List AV→Option T4) (f4a:T4→List Int) (T5:Type) (R5:List AV→Option T5) (f5a:T5→List Int) (T6:Type) (R6:List AV→Option T6) (f6a:T6→List Int) (f6b:T6→Nat) (T7:Type) (R7:List AV→Option T7) (f7a:T7→List Int) (f7b:T7→Nat) (f7c:T7→List Int) (f7d:T7→Nat) (f7e:T7→List Int) (f7f:T7→Nat) (T8:Type) (R8:List AV→Option T8) (f8a:T8→List Int) (f8b:T8→Nat) (f8c:T8→List Int) (f8d:T8→Nat) (T9:Type) (R9:List AV→Option T9) (f9a:T9→List Int) (T10:Type) (R10:List AV→Option T10) (f10a:T10→List Int) (T11:Type) (R11:List AV→Option T11) (f11a:T11→List Int) (f11b:T11→Int) (T12:Type) (R12:List AV→Option T12) (f12a:T12→List Int) (T13:Type) (R13:List AV→Option T13) (f13a:T13→List Int) (f13b:T13→Nat) (f13c:T13→List Int) (f13d:T13→Nat) (f13e:T13→List Int) (f13f:T13→Nat) (T14:Type) (R14:List AV→Option T14) (f14a:T14→Bool) (T15:Type) (R15:List AV→Option T15) (f15a:T15→List Int) (T16:Type) (R16:List AV→Option T16) (f16a:T16→List Int) (T17:Type) (R17:List AV→Option T17) (f17a:T17→List Int) (f17b:T17→Nat) (T18:Type) (R18:List AV→Option T18) (f18a:T18→Bool) (T19:Type) (R19:List AV→Option T19) (f19a:T19→Bool) (T20:Type) (R20:List AV→Option T20) (f20a:T20→List Int) (T21:Type) (R21:List AV→Option T21) (f21a:T21→List Int) (f21b:T21→Nat) (f21c:T21→List Int) (f21d:T21→Nat) (f21e:T21→List Int) (f21f:T21→Nat) (T22:Type) (R22:List AV→Option T22) (f22a:T22→List Int) (f22b:T22→List Int) (f22c:T22→List Int) (f22d:T22→List Int) (T23:Type) (R23:List AV→Option T23) (f23a:T23→List Int):Cg:=⟨⟨gam [(n_opalinelaw07_awake,⟨R0,fun t => AV.bool (true)⟩),(n_opalineref07_D,⟨R1,fun t => AV.s (SV.dat (TRow.ints IntKind.i64 (f1a t)) (f1b t) 1)⟩),(n_opalineref07_Base,⟨R2,fun t => AV.c (CV.mix [SV.dat (TRow.ints IntKind.i64 (nb 15112221349535400772501151409588531511454012693041857206046113283949847762202)) (32) 1,SV.dat (TRow.ints IntKind.i64 (nb 46316835694926478169428394003475163141307993866256225615783033603165251855960)) (32) 1,SV.dat (TRow.ints IntKind.i64 (nb 1)) (1) 1])⟩),(n_curve_Base,⟨R3,fun t => AV.agg (TRow.ints IntKind.u64 (f3a t)) 20⟩),(n_scalar_Of,⟨R4,fun t => AV.agg (TRow.ints IntKind.u64 (f4a t)) 8⟩),(n_curve_Point_Times,⟨R5,fun t => AV.agg (TRow.ints IntKind.u64 (f5a t)) 20⟩),(n_opalineref01_Small,⟨R6,fun t => AV.s (SV.dat (TRow.ints IntKind.i64 (f6a t)) (f6b t) 1)⟩),(n_opalineref07_Times,⟨R7,fun t => AV.c (CV.mix [SV.dat (TRow.ints IntKind.i64 (f7a t)) (f7b t) 1,SV.dat (TRow.ints IntKind.i64 (f7c t)) (f7d t) 1,SV.dat (TRow.ints IntKind.i64 (f7e t)) (f7f t) 1])⟩),(n_opalineref07_Plain,⟨R8,fun t => AV.tup [CV.s (SV.dat (TRow.ints IntKind.i64 (f8a t)) (f8b t) 1),CV.s (SV.dat (TRow.ints IntKind.i64 (f8c t)) (f8d t) 1)]⟩),(n_curve_Point_X,⟨R9,fun t => AV.agg (TRow.ints IntKind.u64 (f9a t)) 5⟩),(n_curve_Point_Y,⟨R10,fun t => AV.agg (TRow.ints IntKind.u64 (f10a t)) 5⟩),(n_curve_At,⟨R11,fun t => AV.tup [CV.s (SV.pl (Pl.agg (TRow.ints IntKind.u64 (f11a t)) 20)),CV.s (SV.pl (Pl.int IntKind.i64 (f11b t)))]⟩),(n_curve_Point_Add,⟨R12,fun t => AV.agg (TRow.ints IntKind.u64 (f12a t)) 20⟩),(n_opalineref07_Add,⟨R13,fun t => AV.c (CV.mix [SV.dat (TRow.ints IntKind.i64 (f13a t)) (f13b t) 1,SV.dat (TRow.ints IntKind.i64 (f13c t)) (f13d t) 1,SV.dat (TRow.ints IntKind.i64 (f13e t)) (f13f t) 1])⟩),(n_opalinelaw07_Is,⟨R14,fun t => AV.bool (f14a t)⟩),(n_curve_Point_Double,⟨R15,fun t => AV.agg (TRow.ints IntKind.u64 (f15a t)) 20⟩),(n_curve_Point_Neg,⟨R16,fun t => AV.agg (TRow.ints IntKind.u64 (f16a t)) 20⟩),(n_opalineref05_Sub,⟨R17,fun t => AV.s (SV.dat (TRow.ints IntKind.i64 (f17a t)) (f17b t) 1)⟩),(n_opalinelaw05_Is,⟨R18,fun t => AV.bool (f18a t)⟩),(n_curve_Point_Same,⟨R19,fun t => AV.bool (f19a t)⟩),(n_curve_Sum,⟨R20,fun t => AV.agg (TRow.ints IntKind.u64 (f20a t)) 20⟩),(n_opalineref07_Neutral,⟨R21,fun t => AV.c (CV.mix [SV.dat (TRow.ints IntKind.i64 (f21a t)) (f21b t) 1,SV.dat (TRow.ints IntKind.i64 (f21c t)) (f21d t) 1,SV.dat (TRow.ints IntKind.i64 (f21e t)) (f21f t) 1])⟩),(n_curve_Point_Parts,⟨R22,fun t => AV.tup [CV.s (SV.pl (Pl.agg (TRow.ints IntKind.u64 (f22a t)) 5)),CV.s (SV.pl (Pl.agg (TRow.ints IntKind.u64 (f22b t)) 5)),CV.s (SV.pl (Pl.agg (TRow.ints IntKind.u64 (f22c t)) 5)),CV.s (SV.pl (Pl.agg (TRow.ints IntKind.u64 (f22d t)) 5))]⟩),(n_curve_Of,⟨R23,fun t => AV.agg (TRow.ints IntKind.u64 (f23a t)) 20⟩)],[],noE⟩,[]⟩
section
variable (T0:Type) (R0:List AV→Option T0) (T1:Type) (R1:List AV→Option T1) (f1a:T1→List Int) (f1b:T1→Nat) (T2:Type) (R2:List AV→Option T2) (T3:Type) (R3:List AV→Option T3) (f3a:T3→List Int) (T4:Type) (R4:List AV→Option T4) (f4a:T4→List Int) (T5:Type) (R5:List AV→Option T5) (f5a:T5→List Int) (T6:Type) (R6:List AV→Option T6) (f6a:T6→List Int) (f6b:T6→Nat) (T7:Type) (R7:List AV→Option T7) (f7a:T7→List Int) (f7b:T7→Nat) (f7c:T7→List Int) (f7d:T7→Nat) (f7e:T7→List Int) (f7f:T7→Nat) (T8:Type) (R8:List AV→Option T8) (f8a:T8→List Int) (f8b:T8→Nat) (f8c:T8→List Int) (f8d:T8→Nat) (T9:Type) (R9:List AV→Option T9) (f9a:T9→List Int) (T10:Type) (R10:List AV→Option T10) (f10a:T10→List Int) (T11:Type) (R11:List AV→Option T11) (f11a:T11→List Int) (f11b:T11→Int) (T12:Type) (R12:List AV→Option T12) (f12a:T12→List Int) (T13:Type) (R13:List AV→Option T13) (f13a:T13→List Int) (f13b:T13→Nat) (f13c:T13→List Int) (f13d:T13→Nat) (f13e:T13→List Int) (f13f:T13→Nat) (T14:Type) (R14:List AV→Option T14) (f14a:T14→Bool) (T15:Type) (R15:List AV→Option T15) (f15a:T15→List Int) (T16:Type) (R16:List AV→Option T16) (f16a:T16→List Int) (T17:Type) (R17:List AV→Option T17) (f17a:T17→List Int) (f17b:T17→Nat) (T18:Type) (R18:List AV→Option T18) (f18a:T18→Bool) (T19:Type) (R19:List AV→Option T19) (f19a:T19→Bool) (T20:Type) (R20:List AV→Option T20) (f20a:T20→List Int) (T21:Type) (R21:List AV→Option T21) (f21a:T21→List Int) (f21b:T21→Nat) (f21c:T21→List Int) (f21d:T21→Nat) (f21e:T21→List Int) (f21f:T21→Nat) (T22:Type) (R22:List AV→Option T22) (f22a:T22→List Int) (f22b:T22→List Int) (f22c:T22→List Int) (f22d:T22→List Int) (T23:Type) (R23:List AV→Option T23) (f23a:T23→List Int)
theorem DLA_ev (fu:Nat) (a b:Int):afunc prog f_opalinelaw07_CurveAdds (g_DLA T0 R0 T1 R1 f1a f1b T2 R2 T3 R3 f3a T4 R4 f4a T5 R5 f5a T6 R6 f6a f6b T7 R7 f7a f7b f7c f7d f7e f7f T8 R8 f8a f8b f8c f8d T9 R9 f9a T10 R10 f10a T11 R11 f11a f11b T12 R12 f12a T13 R13 f13a f13b f13c f13d f13e f13f T14 R14 f14a T15 R15 f15a T16 R16 f16a T17 R17 f17a f17b T18 R18 f18a T19 R19 f19a T20 R20 f20a T21 R21 f21a f21b f21c f21d f21e f21f T22 R22 f22a f22b f22c f22d T23 R23 f23a) fu [AV.int IntKind.u16 a,AV.int IntKind.u16 b] = (R0 []).bind fun (t:T0) => (R1 []).bind fun (t:T1) => (R2 [AV.s (SV.dat (TRow.ints IntKind.i64 (f1a t)) (f1b t) (1:Nat))]).bind fun (t_1:T2) => (R3 []).bind fun (t_2:T3) => (R4 [AV.int IntKind.u64 (IntKind.u64.wrap a)]).bind fun (t_3:T4) => (R5 [AV.agg (TRow.ints IntKind.u64 (f3a t_2)) (20:Nat),AV.agg (TRow.ints IntKind.u64 (f4a t_3)) (8:Nat)]).bind fun (t_4:T5) => (R3 []).bind fun (t_5:T3) => (R4 [AV.int IntKind.u64 (IntKind.u64.wrap b)]).bind fun (t_6:T4) => (R5 [AV.agg (TRow.ints IntKind.u64 (f3a t_5)) (20:Nat),AV.agg (TRow.ints IntKind.u64 (f4a t_6)) (8:Nat)]).bind fun (t_7:T5) => (R6 [AV.int IntKind.u64 (IntKind.u64.wrap a)]).bind fun (t_8:T6) => (R7 [AV.c (CV.mix [SV.dat (TRow.ints IntKind.i64 (nb (15112221349535400772501151409588531511454012693041857206046113283949847762202:Nat))) (32:Nat) (1:Nat),SV.dat (TRow.ints IntKind.i64 (nb (46316835694926478169428394003475163141307993866256225615783033603165251855960:Nat))) (32:Nat) (1:Nat),SV.dat (TRow.ints IntKind.i64 (nb (1:Nat))) (1:Nat) (1:Nat)]),AV.s (SV.dat (TRow.ints IntKind.i64 (f6a t_8)) (f6b t_8) (1:Nat)),AV.s (SV.dat (TRow.ints IntKind.i64 (f1a t)) (f1b t) (1:Nat))]).bind fun (t_9:T7) => (R6 [AV.int IntKind.u64 (IntKind.u64.wrap b)]).bind fun (t_10:T6) => (R7 [AV.c (CV.mix [SV.dat (TRow.ints IntKind.i64 (nb (15112221349535400772501151409588531511454012693041857206046113283949847762202:Nat))) (32:Nat) (1:Nat),SV.dat (TRow.ints IntKind.i64 (nb (46316835694926478169428394003475163141307993866256225615783033603165251855960:Nat))) (32:Nat) (1:Nat),SV.dat (TRow.ints IntKind.i64 (nb (1:Nat))) (1:Nat) (1:Nat)]),AV.s (SV.dat (TRow.ints IntKind.i64 (f6a t_10)) (f6b t_10) (1:Nat)),AV.s (SV.dat (TRow.ints IntKind.i64 (f1a t)) (f1b t) (1:Nat))]).bind fun (t_11:T7) => (R8 [AV.c (CV.mix [SV.dat (TRow.ints IntKind.i64 (f7a t_9)) (f7b t_9) (1:Nat),SV.dat (TRow.ints IntKind.i64 (f7c t_9)) (f7d t_9) (1:Nat),SV.dat (TRow.ints IntKind.i64 (f7e t_9)) (f7f t_9) (1:Nat)])]).bind fun (t_12:T8) => (R9 [AV.agg (TRow.ints IntKind.u64 (f5a t_4)) (20:Nat)]).bind fun (t_13:T9) => (R10 [AV.agg (TRow.ints IntKind.u64 (f5a t_4)) (20:Nat)]).bind fun (t_14:T10) => (R11 [AV.agg (TRow.ints IntKind.u64 (f9a t_13)) (5:Nat),AV.agg (TRow.ints IntKind.u64 (f10a t_14)) (5:Nat)]).bind fun (t_15:T11) => (R12 [AV.agg (TRow.ints IntKind.u64 (f5a t_4)) (20:Nat),AV.agg (TRow.ints IntKind.u64 (f5a t_7)) (20:Nat)]).bind fun (t_16:T12) => (R13 [AV.c (CV.mix [SV.dat (TRow.ints IntKind.i64 (f7a t_9)) (f7b t_9) (1:Nat),SV.dat (TRow.ints IntKind.i64 (f7c t_9)) (f7d t_9) (1:Nat),SV.dat (TRow.ints IntKind.i64 (f7e t_9)) (f7f t_9) (1:Nat)]),AV.c (CV.mix [SV.dat (TRow.ints IntKind.i64 (f7a t_11)) (f7b t_11) (1:Nat),SV.dat (TRow.ints IntKind.i64 (f7c t_11)) (f7d t_11) (1:Nat),SV.dat (TRow.ints IntKind.i64 (f7e t_11)) (f7f t_11) (1:Nat)]),AV.s (SV.dat (TRow.ints IntKind.i64 (f1a t)) (f1b t) (1:Nat))]).bind fun (t_17:T13) => (R14 [AV.agg (TRow.ints IntKind.u64 (f12a t_16)) (20:Nat),AV.c (CV.mix [SV.dat (TRow.ints IntKind.i64 (f13a t_17)) (f13b t_17) (1:Nat),SV.dat (TRow.ints IntKind.i64 (f13c t_17)) (f13d t_17) (1:Nat),SV.dat (TRow.ints IntKind.i64 (f13e t_17)) (f13f t_17) (1:Nat)])]).bind fun (t_18:T14) => bif f14a t_18 then (R15 [AV.agg (TRow.ints IntKind.u64 (f5a t_4)) (20:Nat)]).bind fun (t_19:T15) => (R13 [AV.c (CV.mix [SV.dat (TRow.ints IntKind.i64 (f7a t_9)) (f7b t_9) (1:Nat),SV.dat (TRow.ints IntKind.i64 (f7c t_9)) (f7d t_9) (1:Nat),SV.dat (TRow.ints IntKind.i64 (f7e t_9)) (f7f t_9) (1:Nat)]),AV.c (CV.mix [SV.dat (TRow.ints IntKind.i64 (f7a t_9)) (f7b t_9) (1:Nat),SV.dat (TRow.ints IntKind.i64 (f7c t_9)) (f7d t_9) (1:Nat),SV.dat (TRow.ints IntKind.i64 (f7e t_9)) (f7f t_9) (1:Nat)]),AV.s (SV.dat (TRow.ints IntKind.i64 (f1a t)) (f1b t) (1:Nat))]).bind fun (t_20:T13) => (R14 [AV.agg (TRow.ints IntKind.u64 (f15a t_19)) (20:Nat),AV.c (CV.mix [SV.dat (TRow.ints IntKind.i64 (f13a t_20)) (f13b t_20) (1:Nat),SV.dat (TRow.ints IntKind.i64 (f13c t_20)) (f13d t_20) (1:Nat),SV.dat (TRow.ints IntKind.i64 (f13e t_20)) (f13f t_20) (1:Nat)])]).bind fun (t_21:T14) => bif f14a t_21 then (R16 [AV.agg (TRow.ints IntKind.u64 (f5a t_4)) (20:Nat)]).bind fun (t_22:T16) => (R17 [AV.s (SV.dat (TRow.ints IntKind.i64 []) (0:Nat) (1:Nat)),AV.s (SV.dat (TRow.ints IntKind.i64 (f7a t_9)) (f7b t_9) (1:Nat))]).bind fun (t_23:T17) => (R14 [AV.agg (TRow.ints IntKind.u64 (f16a t_22)) (20:Nat),AV.c (CV.mix [SV.dat (TRow.ints IntKind.i64 (f17a t_23)) (f17b t_23) (1:Nat),SV.dat (TRow.ints IntKind.i64 (f7c t_9)) (f7d t_9) (1:Nat),SV.dat (TRow.ints IntKind.i64 (f7e t_9)) (f7f t_9) (1:Nat)])]).bind fun (t_24:T14) => bif f14a t_24 then (R9 [AV.agg (TRow.ints IntKind.u64 (f5a t_4)) (20:Nat)]).bind fun (t_25:T9) => (R18 [AV.agg (TRow.ints IntKind.u64 (f9a t_25)) (5:Nat),AV.s (SV.dat (TRow.ints IntKind.i64 (f8a t_12)) (f8b t_12) (1:Nat))]).bind fun (t_26:T18) => bif f18a t_26 then (R10 [AV.agg (TRow.ints IntKind.u64 (f5a t_4)) (20:Nat)]).bind fun (t_27:T10) => (R18 [AV.agg (TRow.ints IntKind.u64 (f10a t_27)) (5:Nat),AV.s (SV.dat (TRow.ints IntKind.i64 (f8c t_12)) (f8d t_12) (1:Nat))]).bind fun (t_28:T18) => bif f18a t_28 then bif decide (f11b t_15 = (0:Int)) then (R19 [AV.agg (TRow.ints IntKind.u64 (f11a t_15)) (20:Nat),AV.agg (TRow.ints IntKind.u64 (f5a t_4)) (20:Nat)]).bind fun (t_29:T19) => bif f19a t_29 then (R19 [AV.agg (TRow.ints IntKind.u64 (f5a t_4)) (20:Nat),AV.agg (TRow.ints IntKind.u64 (f5a t_7)) (20:Nat)]).bind fun (t_30:T19) => bif f19a t_30 == decide (a = b) then (R20 [AV.s (SV.dat (TRow.ints IntKind.u64 (f5a t_4 ++ (f5a t_7 ++ f5a t_4))) (3:Nat) (20:Nat))]).bind fun (t_31:T20) => (R13 [AV.c (CV.mix [SV.dat (TRow.ints IntKind.i64 (f7a t_9)) (f7b t_9) (1:Nat),SV.dat (TRow.ints IntKind.i64 (f7c t_9)) (f7d t_9) (1:Nat),SV.dat (TRow.ints IntKind.i64 (f7e t_9)) (f7f t_9) (1:Nat)]),AV.c (CV.mix [SV.dat (TRow.ints IntKind.i64 (f7a t_11)) (f7b t_11) (1:Nat),SV.dat (TRow.ints IntKind.i64 (f7c t_11)) (f7d t_11) (1:Nat),SV.dat (TRow.ints IntKind.i64 (f7e t_11)) (f7f t_11) (1:Nat)]),AV.s (SV.dat (TRow.ints IntKind.i64 (f1a t)) (f1b t) (1:Nat))]).bind fun (t_32:T13) => (R13 [AV.c (CV.mix [SV.dat (TRow.ints IntKind.i64 (f7a t_9)) (f7b t_9) (1:Nat),SV.dat (TRow.ints IntKind.i64 (f7c t_9)) (f7d t_9) (1:Nat),SV.dat (TRow.ints IntKind.i64 (f7e t_9)) (f7f t_9) (1:Nat)]),AV.c (CV.mix [SV.dat (TRow.ints IntKind.i64 (f13a t_32)) (f13b t_32) (1:Nat),SV.dat (TRow.ints IntKind.i64 (f13c t_32)) (f13d t_32) (1:Nat),SV.dat (TRow.ints IntKind.i64 (f13e t_32)) (f13f t_32) (1:Nat)]),AV.s (SV.dat (TRow.ints IntKind.i64 (f1a t)) (f1b t) (1:Nat))]).bind fun (t:T13) => (R14 [AV.agg (TRow.ints IntKind.u64 (f20a t_31)) (20:Nat),AV.c (CV.mix [SV.dat (TRow.ints IntKind.i64 (f13a t)) (f13b t) (1:Nat),SV.dat (TRow.ints IntKind.i64 (f13c t)) (f13d t) (1:Nat),SV.dat (TRow.ints IntKind.i64 (f13e t)) (f13f t) (1:Nat)])]).bind fun (t:T14) => bif f14a t then (R20 [AV.s (SV.dat (TRow.ints IntKind.u64 []) (0:Nat) (20:Nat))]).bind fun (t:T20) => (R21 []).bind fun (t_33:T21) => (R14 [AV.agg (TRow.ints IntKind.u64 (f20a t)) (20:Nat),AV.c (CV.mix [SV.dat (TRow.ints IntKind.i64 (f21a t_33)) (f21b t_33) (1:Nat),SV.dat (TRow.ints IntKind.i64 (f21c t_33)) (f21d t_33) (1:Nat),SV.dat (TRow.ints IntKind.i64 (f21e t_33)) (f21f t_33) (1:Nat)])]).bind fun (t:T14) => bif f14a t then (R22 [AV.agg (TRow.ints IntKind.u64 (f5a t_4)) (20:Nat)]).bind fun (t:T22) => (R23 [AV.agg (TRow.ints IntKind.u64 (f22a t)) (5:Nat),AV.agg (TRow.ints IntKind.u64 (f22b t)) (5:Nat),AV.agg (TRow.ints IntKind.u64 (f22c t)) (5:Nat),AV.agg (TRow.ints IntKind.u64 (f22d t)) (5:Nat)]).bind fun (t:T23) => (R14 [AV.agg (TRow.ints IntKind.u64 (f23a t)) (20:Nat),AV.c (CV.mix [SV.dat (TRow.ints IntKind.i64 (f7a t_9)) (f7b t_9) (1:Nat),SV.dat (TRow.ints IntKind.i64 (f7c t_9)) (f7d t_9) (1:Nat),SV.dat (TRow.ints IntKind.i64 (f7e t_9)) (f7f t_9) (1:Nat)])]).bind fun (t:T14) => some (AV.bool (f14a t)) else some (AV.bool false) else some (AV.bool false) else some (AV.bool false) else some (AV.bool false) else some (AV.bool false) else some (AV.bool false) else some (AV.bool false) else some (AV.bool false) else some (AV.bool false) else some (AV.bool false):=by kernel_rfl
end
end Go.Eng
/- curve.Sum; CurveTimes. -/
namespace Go.Eng
open Go Go.Proofs
set_option linter.unusedVariables false
set_option linter.unusedSimpArgs false
set_option maxRecDepth 4000
theorem bstep {α β:Type} {o:Option α} {a:α} {k:α→Option β} {r:Option β} (h:o = some a) (hk:k a = r):o.bind k = r:=by
  subst h; exact hk
theorem cstep {β:Type} {b:Bool} {x y r:Option β} (h:b = true) (hk:x = r):cond b x y = r:=by
  subst h; exact hk
theorem ptL_ok {l:List Int} {p:Pt} (h:ptL l = some p):l = rowP p ∧ pOk p:=by
  unfold ptL at h
  split at h
  · obtain ⟨h1,h2⟩:=ctrueS h
    simp only [Bool.and_eq_true] at h1
    obtain ⟨x,rfl,rfl,rfl,rfl,rfl,hx,ex⟩:=inF_ok h1.1
    obtain ⟨y,rfl,rfl,rfl,rfl,rfl,hy,ey⟩:=inF_ok h1.2.1
    obtain ⟨z,rfl,rfl,rfl,rfl,rfl,hz,ez⟩:=inF_ok h1.2.2.1
    obtain ⟨w,rfl,rfl,rfl,rfl,rfl,hw,ew⟩:=inF_ok h1.2.2.2
    rw [ex,ey,ez,ew] at h2
    subst h2
    exact ⟨rfl,hx,hy,hz,hw⟩
  · cases h
theorem ptL_row {p:Pt} (h:pOk p):ptL (rowP p) = some p:=by
  obtain ⟨x,y,z,w⟩:=p
  obtain ⟨h1,h2,h3,h4⟩:=h
  simp only [ptL,rowP]
  rw [inF_of h1,inF_of h2,inF_of h3,inF_of h4]; rfl
noncomputable abbrev gI_DS3:Cg:=g_DS3 (Pt) rNeut (fun t => [↑t.x.a,↑t.x.b,↑t.x.c,↑t.x.d,↑t.x.e,↑t.y.a,↑t.y.b,↑t.y.c,↑t.y.d,↑t.y.e,↑t.z.a,↑t.z.b,↑t.z.c,↑t.z.d,↑t.z.e,↑t.t.a,↑t.t.b,↑t.t.c,↑t.t.d,↑t.t.e]) (Pt) rPAdd (fun t => [↑t.x.a,↑t.x.b,↑t.x.c,↑t.x.d,↑t.x.e,↑t.y.a,↑t.y.b,↑t.y.c,↑t.y.d,↑t.y.e,↑t.z.a,↑t.z.b,↑t.z.c,↑t.z.d,↑t.z.e,↑t.t.a,↑t.t.b,↑t.t.c,↑t.t.d,↑t.t.e]) (Pt) rPAdd (fun t => [↑t.x.a,↑t.x.b,↑t.x.c,↑t.x.d,↑t.x.e,↑t.y.a,↑t.y.b,↑t.y.c,↑t.y.d,↑t.y.e,↑t.z.a,↑t.z.b,↑t.z.c,↑t.z.d,↑t.z.e,↑t.t.a,↑t.t.b,↑t.t.c,↑t.t.d,↑t.t.e])
theorem gok_DS3:CfOk prog gI_DS3.c:=⟨gam_cons ok_Neut <| gam_cons ok_PAdd <| gam_cons ok_PAdd <| gam_nil,fun _ _ h => by cases h⟩
noncomputable abbrev gI_DS0:Cg:=g_DS0 (Pt) rNeut (fun t => [↑t.x.a,↑t.x.b,↑t.x.c,↑t.x.d,↑t.x.e,↑t.y.a,↑t.y.b,↑t.y.c,↑t.y.d,↑t.y.e,↑t.z.a,↑t.z.b,↑t.z.c,↑t.z.d,↑t.z.e,↑t.t.a,↑t.t.b,↑t.t.c,↑t.t.d,↑t.t.e]) (Pt) rPAdd (fun t => [↑t.x.a,↑t.x.b,↑t.x.c,↑t.x.d,↑t.x.e,↑t.y.a,↑t.y.b,↑t.y.c,↑t.y.d,↑t.y.e,↑t.z.a,↑t.z.b,↑t.z.c,↑t.z.d,↑t.z.e,↑t.t.a,↑t.t.b,↑t.t.c,↑t.t.d,↑t.t.e]) (Pt) rPAdd (fun t => [↑t.x.a,↑t.x.b,↑t.x.c,↑t.x.d,↑t.x.e,↑t.y.a,↑t.y.b,↑t.y.c,↑t.y.d,↑t.y.e,↑t.z.a,↑t.z.b,↑t.z.c,↑t.z.d,↑t.z.e,↑t.t.a,↑t.t.b,↑t.t.c,↑t.t.d,↑t.t.e])
noncomputable abbrev gI_DS1:Cg:=g_DS1 (Pt) rNeut (fun t => [↑t.x.a,↑t.x.b,↑t.x.c,↑t.x.d,↑t.x.e,↑t.y.a,↑t.y.b,↑t.y.c,↑t.y.d,↑t.y.e,↑t.z.a,↑t.z.b,↑t.z.c,↑t.z.d,↑t.z.e,↑t.t.a,↑t.t.b,↑t.t.c,↑t.t.d,↑t.t.e]) (Pt) rPAdd (fun t => [↑t.x.a,↑t.x.b,↑t.x.c,↑t.x.d,↑t.x.e,↑t.y.a,↑t.y.b,↑t.y.c,↑t.y.d,↑t.y.e,↑t.z.a,↑t.z.b,↑t.z.c,↑t.z.d,↑t.z.e,↑t.t.a,↑t.t.b,↑t.t.c,↑t.t.d,↑t.t.e]) (Pt) rPAdd (fun t => [↑t.x.a,↑t.x.b,↑t.x.c,↑t.x.d,↑t.x.e,↑t.y.a,↑t.y.b,↑t.y.c,↑t.y.d,↑t.y.e,↑t.z.a,↑t.z.b,↑t.z.c,↑t.z.d,↑t.z.e,↑t.t.a,↑t.t.b,↑t.t.c,↑t.t.d,↑t.t.e])
theorem ok_Sum3:CallOk prog n_curve_Sum sSum:=by
  refine afunc_okE (g:=gI_DS3) (fu:=fun _ => 0) mixed gok_DS3 h_curve_Sum (by kernel_rfl) ?_
  intro args t ht
  unfold sSum at ht
  simp only at ht
  split at ht
  · rename_i l
    split at ht
    · rename_i p q r e1 e2 e3
      cases ht
      obtain ⟨l1,hp⟩:=ptL_ok e1
      obtain ⟨l2,hq⟩:=ptL_ok e2
      obtain ⟨l3,hr⟩:=ptL_ok e3
      have el:l = rowP p ++ (rowP q ++ rowP r):=by
        have h1:=(List.take_append_drop 20 l).symm
        have h2:=(List.take_append_drop 20 (l.drop 20)).symm
        rw [List.drop_drop] at h2
        rw [h1,h2,l1,l2,l3]
      subst el
      refine (DS3_ev ..).trans ?_
      have a1:=run_PAdd neut_ok hp
      have k1:=addP_ok neut_ok hp d2_ok
      have a2:=run_PAdd k1 hq
      have k2:=addP_ok k1 hq d2_ok
      have a3:=run_PAdd k2 hr
      refine bstep run_Neut ?_
      refine bstep a1 ?_
      refine bstep a2 ?_
      refine bstep a3 ?_
      rfl
    · cases ht
  · cases ht
    have:gI_DS3 = gI_DS0:=rfl
    rw [this]
    exact DS0_ev ..
  · cases ht
    have:gI_DS3 = gI_DS1:=rfl
    rw [this]
    exact DS1_ev ..
  · cases ht
theorem run_Sum3 {p q r:Pt} (hp:pOk p) (hq:pOk q) (hr:pOk r):rSum3 [.s (.dat (.ints .u64 (rowP p ++ (rowP q ++ rowP r))) 3 20)] = some (sum3 p q r):=by
  show (match ptL ((rowP p ++ (rowP q ++ rowP r)).take 20),ptL (((rowP p ++ (rowP q ++ rowP r)).drop 20).take 20),ptL ((rowP p ++ (rowP q ++ rowP r)).drop 40) with
      | some p,some q,some r => some (sum3 p q r)
      | _,_,_ => none) = _
  rw [show (rowP p ++ (rowP q ++ rowP r)).take 20 = rowP p from rfl,show ((rowP p ++ (rowP q ++ rowP r)).drop 20).take 20 = rowP q from rfl,show (rowP p ++ (rowP q ++ rowP r)).drop 40 = rowP r from rfl,ptL_row hp,ptL_row hq,ptL_row hr]
theorem eRP_base:eRP baseR = AV.c (CV.mix [SV.dat (TRow.ints IntKind.i64 (nb 15112221349535400772501151409588531511454012693041857206046113283949847762202)) 32 1,SV.dat (TRow.ints IntKind.i64 (nb 46316835694926478169428394003475163141307993866256225615783033603165251855960)) 32 1,SV.dat (TRow.ints IntKind.i64 (nb 1)) 1 1]):=by kernel_rfl
theorem isP_true {p:Pt} {r:RP} {g:CP.G} (hp:PT p g) (hr:RPT r g):rIsP [eP p,eRP r] = some true:=by
  rw [run_IsP hp.ok hr.ok,is_true hp hr]
end Go.Eng
