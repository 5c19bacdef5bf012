/- Texts of this claim, one behind the other: PRi6. -/
import Derived.Test.YtkmlepkmhpigeaaGreatZS4
/- RistrettoMaps. -/
namespace Go.Eng
open Go Go.Proofs
set_option linter.unusedVariables false
set_option linter.unusedSimpArgs false
set_option maxRecDepth 4000
theorem rp_set (R:List Int) (N i:Nat) (hN:R.length = N) (hi:i < N):(R.take i ++ List.replicate (N - i) 0).set i (R.getD i 0) = R.take (i + 1) ++ List.replicate (N - (i + 1)) 0:=by
  have e:R.take (i + 1) = R.take i ++ [R.getD i 0]:=by
    rw [List.take_add_one,List.getElem?_eq_getElem (by omega),List.getD_eq_getElem?_getD,List.getElem?_eq_getElem (by omega)]; rfl
  have hl:(R.take i).length = i:=by rw [List.length_take]; omega
  rw [e,List.set_append_right _ _ (by rw [hl]; omega),hl,Nat.sub_self,show N - i = N - (i + 1) + 1 by omega,List.replicate_succ,List.set_cons_zero,List.append_assoc]; rfl
def stM (a b:List Int) (i:Nat):List Int:=(a.take i ++ List.replicate (32 - i) 0) ++ (b.take i ++ List.replicate (32 - i) 0)
theorem stM_half (a:List Int) (i:Nat) (ha:a.length = 32) (hi:i ≤ 32):(a.take i ++ List.replicate (32 - i) 0).length = 32:=by
  rw [List.length_append,List.length_take,List.length_replicate]; omega
theorem stM_step {a b:List Int} {i:Nat} (ha:a.length = 32) (hb:b.length = 32) (hi:i < 32):((stM a b i).set i (a.getD i 0)).set (32 + i) (b.getD i 0) = stM a b (i + 1):=by
  unfold stM
  have l1:=stM_half a i ha (by omega)
  have l2:=stM_half a (i + 1) ha (by omega)
  rw [List.set_append_left _ _ (by omega),rp_set a 32 i ha hi,List.set_append_right _ _ (by omega),l2,show 32 + i - 32 = i by omega,rp_set b 32 i hb hi]
theorem stM_end {a b:List Int} (ha:a.length = 32) (hb:b.length = 32):stM a b 32 = a ++ b:=by
  unfold stM
  rw [Nat.sub_self,List.replicate_zero,List.append_nil,List.append_nil,List.take_of_length_le (by omega),List.take_of_length_le (by omega)]
theorem ofB_b8:∀ {l:List Int},okB l = true→(l.map b8).map ofB = l:=by
  intro l
  induction l with
  | nil => intro _; rfl
  | cons x r ih =>
    intro h
    simp only [okB,Bool.and_eq_true,decide_eq_true_eq] at h
    rw [List.map_cons,List.map_cons,ih h.2]
    congr 1
    simp only [ofB,b8,UInt8.toNat_ofNat']
    omega
theorem map_ab {a b:List Int} (ha:ok32 a = true) (hb:ok32 b = true):mapF ((a ++ b).map b8) = (addP (halfF (looF a)) (halfF (looF b)) d2F,0):=by
  obtain ⟨la,oa⟩:=ok32_ok ha
  obtain ⟨lb,ob⟩:=ok32_ok hb
  have hl:((a ++ b).map b8).length = 64:=by rw [List.length_map,List.length_append]; omega
  have h1:((a ++ b).map b8).take 32 = a.map b8:=by rw [List.map_append,List.take_left' (by rw [List.length_map]; omega)]
  have h2:((a ++ b).map b8).drop 32 = b.map b8:=by rw [List.map_append,List.drop_left' (by rw [List.length_map]; omega)]
  unfold mapF
  rw [hl,h1,h2,ofB_b8 oa,ofB_b8 ob]; rfl
theorem map_cut {a b:List Int} (ha:ok32 a = true) (hb:ok32 b = true):mapF (((((a ++ b).drop 1).take 63)).map b8) = (neutP,4):=by
  obtain ⟨la,oa⟩:=ok32_ok ha
  obtain ⟨lb,ob⟩:=ok32_ok hb
  have hl:((((a ++ b).drop 1).take 63).map b8).length = 63:=by rw [List.length_map,List.length_take,List.length_drop,List.length_append]; omega
  unfold mapF
  rw [hl]; rfl
theorem loo_Q (a:List Int):ph (looF a) = fn (vB a % 57896044618658097711785492504343953926634992332820282019728792003956564819968 % P25):=ph_fe (mP _)
theorem PT_halfB (a:List Int):PT (halfF (looF a)) (gH (fn (vB a % 57896044618658097711785492504343953926634992332820282019728792003956564819968 % P25))):=by
  rw [← loo_Q]; exact PT_half (looF_ok a)
def sLRM:Summ where
  T:=Unit
  run:=fun
    | [.c (.s (.pl (.agg (.ints .u8 a) 32))),.c (.s (.pl (.agg (.ints .u8 b) 32)))] => cond (ok32 a && ok32 b) (some ()) none
    | _ => none
  enc:=fun _ => .bool true
noncomputable abbrev gI_R8M:Cg:=g_R8M (PUnit) rTrue (Nat) rRD (fun t => nb t) (fun t => (nb t).length) (Pt × Int) rMap (fun t => [↑t.fst.x.a,↑t.fst.x.b,↑t.fst.x.c,↑t.fst.x.d,↑t.fst.x.e,↑t.fst.y.a,↑t.fst.y.b,↑t.fst.y.c,↑t.fst.y.d,↑t.fst.y.e,↑t.fst.z.a,↑t.fst.z.b,↑t.fst.z.c,↑t.fst.z.d,↑t.fst.z.e,↑t.fst.t.a,↑t.fst.t.b,↑t.fst.t.c,↑t.fst.t.d,↑t.fst.t.e]) (fun t => t.snd) (RP) rRHalf (fun t => nb t.x) (fun t => (nb t.x).length) (fun t => nb t.y) (fun t => (nb t.y).length) (fun t => nb t.z) (fun t => (nb t.z).length) (Pt) rEHalf (fun t => [↑t.x.a,↑t.x.b,↑t.x.c,↑t.x.d,↑t.x.e,↑t.y.a,↑t.y.b,↑t.y.c,↑t.y.d,↑t.y.e,↑t.z.a,↑t.z.b,↑t.z.c,↑t.z.d,↑t.z.e,↑t.t.a,↑t.t.b,↑t.t.c,↑t.t.d,↑t.t.e]) (List Int) rEBytes (fun t => t) (List Int) rRBytes8 (fun t => t) (RP) rRAddP (fun t => nb t.x) (fun t => (nb t.x).length) (fun t => nb t.y) (fun t => (nb t.y).length) (fun t => nb t.z) (fun t => (nb t.z).length)
theorem gok_R8M:CfOk prog gI_R8M.c:=⟨gam_cons ok_awake08 <| gam_cons ok_RD <| gam_cons ok_Map <| gam_cons ok_RHalf <| gam_cons ok_EHalf <| gam_cons ok_EBytes <| gam_cons ok_RBytes8 <| gam_cons ok_RAddP <| gam_nil,fun _ _ h => by cases h⟩
theorem lrm_loop {a b:List Int} (ha:a.length = 32) (hb:b.length = 32) (x5:List Int) (n5 m fu:Nat) (K:Ex→St→Option AV):∀ (d n i:Nat),i + d = 32→d < n →
    lpA prog gI_R8M fu R8M_b1 K n (some (R8M_s1 x5 n5 64 (i:Int) a b m (stM a b i))) = kOut K (.exit 0) (some (R8M_o1e0 x5 n5 64 a b m (a ++ b))):=by
  intro d
  induction d with
  | zero =>
    intro n i hi hn
    obtain ⟨n,rfl⟩:=Nat.exists_eq_succ_of_ne_zero (by omega:n ≠ 0)
    have e:i = 32:=by omega
    rw [lpA_succ,R8M_r1,decide_eq_false (by omega),cond_false,e,stM_end ha hb]
  | succ d ih =>
    intro n i hi hn
    obtain ⟨n,rfl⟩:=Nat.exists_eq_succ_of_ne_zero (by omega:n ≠ 0)
    have h:=ih n (i + 1) (by omega) (by omega)
    have w1:IntKind.i64.wrap ((i:Int) + 1) = ((i + 1:Nat):Int):=wi64 (by omega) (by omega)
    have w2:IntKind.i64.wrap ((32:Int) + (i:Int)) = ((32 + i:Nat):Int):=wi64 (by omega) (by omega)
    rw [lpA_succ,R8M_r1,decide_eq_true (by omega),cond_true,decide_eq_true (by omega),cond_true,cond_true,decide_eq_true (by omega),cond_true,w1,w2,decide_eq_true (by omega),cond_true,Int.toNat_natCast,Int.toNat_natCast,Nat.zero_add,stM_step ha hb (by omega)]
    exact h
theorem ok_LRM:CallOk prog n_opalinelaw08_RistrettoMaps sLRM:=by
  refine afunc_okE (g:=gI_R8M) (fu:=fun _ => 40) mixed gok_R8M h_opalinelaw08_RistrettoMaps (by kernel_rfl) ?_
  intro args t ht
  unfold sLRM at ht
  simp only at ht
  split at ht
  · rename_i a b
    obtain ⟨h1,_⟩:=ctrueS ht
    rw [Bool.and_eq_true] at h1
    obtain ⟨ha,hb⟩:=h1
    have la:=(ok32_ok ha).1
    have lb:=(ok32_ok hb).1
    refine (R8M_ev ..).trans ?_
    refine bstep (show rTrue [] = some () from rfl) ?_
    refine bstep run_RD ?_
    show _ = some (AV.bool true)
    refine (lrm_loop la lb (nb dN) (nb dN).length 64 40 _ 32 40 0 rfl (by decide)).trans ?_
    rw [kOut_some]
    refine (R8M_c1e0 ..).trans ?_
    have dP:dN < P25:=by decide
    have pa:=PT_halfB a
    have pb:=PT_halfB b
    have ra:=RPT_half (t:=vB a % 57896044618658097711785492504343953926634992332820282019728792003956564819968 % P25)
    have rb:=RPT_half (t:=vB b % 57896044618658097711785492504343953926634992332820282019728792003956564819968 % P25)
    have ea:=run_EHalf ha
    have fa:=run_RHalf ha dP
    have fb:=run_RHalf hb dP
    have hm:=run_Map ((a ++ b).map b8)
    rw [map_ab ha hb] at hm
    have hc:=run_Map ((((a ++ b).drop 1).take 63).map b8)
    rw [map_cut ha hb] at hc
    generalize halfF (looF a) = A at *
    generalize halfF (looF b) = B at *
    generalize halfR (vB a % 57896044618658097711785492504343953926634992332820282019728792003956564819968 % P25) dN = U at *
    generalize halfR (vB b % 57896044618658097711785492504343953926634992332820282019728792003956564819968 % P25) dN = V at *
    generalize gH (fn (vB a % 57896044618658097711785492504343953926634992332820282019728792003956564819968 % P25)) = g at *
    generalize gH (fn (vB b % 57896044618658097711785492504343953926634992332820282019728792003956564819968 % P25)) = h at *
    have ps:=PT_add pa pb
    have rs:RPT (addR U V dN) (CP.add g h):=RPT_add ra rb
    have y1:=run_EBytes pa.ok
    have y2:=run_RBytes8 ra.ok
    have y3:=run_EBytes ps.ok
    have y4:=run_RBytes8 rs.ok
    have ad:=run_RAddP ra.ok rb.ok dP
    rw [same_bytes pa ra] at y1
    rw [same_bytes ps rs] at y3
    generalize lo 32 (bytesR (plR U).1 (plR U).2) = L1 at *
    generalize lo 32 (bytesR (plR (addR U V dN)).1 (plR (addR U V dN)).2) = L2 at *
    generalize addR U V dN = W at *
    generalize addP A B d2F = S at *
    have o:=neut_ok
    generalize neutP = Np at *
    refine bstep hm ?_
    refine bstep fa ?_
    refine bstep fb ?_
    refine cstep (by decide) ?_
    refine bstep hc ?_
    refine cstep (decide_eq_true rfl) ?_
    refine cstep (decide_eq_true rfl) ?_
    refine bstep ea ?_
    refine bstep y1 ?_
    refine bstep y2 ?_
    refine cstep (decide_eq_true rfl) ?_
    refine bstep y3 ?_
    refine bstep ad ?_
    refine bstep y4 ?_
    show some (AV.bool (decide _)) = _
    rw [decide_eq_true rfl]
  · cases ht
end Go.Eng
