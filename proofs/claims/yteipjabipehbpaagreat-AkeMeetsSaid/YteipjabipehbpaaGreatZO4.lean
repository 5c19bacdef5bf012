import Derived.Test.YteipjabipehbpaaGreatZO3
namespace Go.Eng
noncomputable section
open Go Go.Proofs
set_option linter.all false
set_option maxRecDepth 8000
theorem ofB_b8x:∀ {l:List Int},okB l=true->(l.map b8).map ofB=l:=by
 intro l
 induction l with
 | nil=>intro _; rfl
 | cons x r ih=>
  intro h
  simp only [okB,Bool.and_eq_true,decide_eq_true_eq] at h
  rw [List.map_cons,List.map_cons,ih h.2]
  congr 1
  simp only [ofB,b8,UInt8.toNat_ofNat']
  omega
theorem b8_inj {a b:List Int} (ha:ok32 a=true) (hb:ok32 b=true) (h:a.map b8=b.map b8):a=b:=by
 rw [<-ofB_b8x (ok32_ok ha).2,h,ofB_b8x (ok32_ok hb).2]
theorem lim_inj {a b:Nat} (ha:a < LN) (hb:b < LN):lim 8 a=lim 8 b ↔ a=b:=by
 constructor
 ·intro h
  rw [<-valM (Nat.lt_trans ha LN_lt),h,valM (Nat.lt_trans hb LN_lt)]
 ·intro h; rw [h]
theorem sim_lt {Q:CP.G} (hQ:Ev Q) (h4:¬ e4 Q) {a b:Nat} (h:a < b) (hb:b < LN):¬ sim (CP.nsm a Q) (CP.nsm b Q):=fun s=>by
 have e:CP.nsm b Q=CP.add (CP.nsm (b - a) Q) (CP.nsm a Q):=by rw [<-CP.nsm_add,Nat.sub_add_cancel (Nat.le_of_lt h)]
 have s:e4 (CP.add (CP.nsm b Q) (CP.neg (CP.nsm a Q))):=s
 rw [e,CP.add_assoc,CP.add_neg,CP.add_zero] at s
 exact h4 (e4_free hQ (by omega) (by omega) s)
theorem sim_inj {Q:CP.G} (hQ:Ev Q) (h4:¬ e4 Q) {a b:Nat} (ha:a < LN) (hb:b < LN):sim (CP.nsm a Q) (CP.nsm b Q) ↔ a=b:=by
 constructor
 ·intro s
  rcases Nat.lt_trichotomy a b with h | h | h
  ·exact absurd s (sim_lt hQ h4 h hb)
  ·exact h
  ·exact absurd (sim_symm s) (sim_lt hQ h4 h ha)
 ·intro h; rw [h]; exact sim_refl _
theorem by_inj {p q:Pt} {Q g h:CP.G} (hp:PT p g) (hq:PT q h) (hg:Ev g) (hh:Ev h) (hQ:Ev Q) (h4:¬ e4 Q) {a b:Nat} (ha:a < LN) (hb:b < LN) (s1:sim (CP.nsm a Q) g) (s2:sim (CP.nsm b Q) h):byP p=byP q ↔ a=b:=by
 have e:byP p=byP q ↔ sim g h:=by_eq hp hq hg hh
 rw [e,<-sim_inj hQ h4 ha hb]
 exact ⟨fun s=>sim_trans s1 (sim_trans s (sim_symm s2)),fun s=>sim_trans (sim_symm s1) (sim_trans s s2)⟩
def str3 (a b c:List Int):Str:=[]++a.map b8++b.map b8++c.map b8
theorem str3_c {a b c c':List Int} (h:ok32 c=true) (h':ok32 c'=true):str3 a b c=str3 a b c' ↔ c=c':=by
 constructor
 ·intro e; exact b8_inj h h' (List.append_cancel_left e)
 ·intro e; rw [e]
theorem str3_b {a b b' c:List Int} (h:ok32 b=true) (h':ok32 b'=true):str3 a b c=str3 a b' c ↔ b=b':=by
 constructor
 ·intro e; exact b8_inj h h' (List.append_cancel_left (List.append_cancel_right e))
 ·intro e; rw [e]
theorem str3_len {a b c:List Int} (ha:ok32 a=true) (hb:ok32 b=true) (hc:ok32 c=true):(str3 a b c).length=96:=by
 unfold str3
 rw [List.length_append,List.length_append,List.length_append,List.length_map,List.length_map,List.length_map,(ok32_ok ha).1,(ok32_ok hb).1,(ok32_ok hc).1]; rfl
def sLAM:Summ where
 T:=Unit
 run:=fun
  | [.c (.s (.pl (.agg (.ints .u8 a) 32))),.c (.s (.pl (.agg (.ints .u8 b) 32))),.c (.s (.pl (.agg (.ints .u8 c) 32))),.c (.s (.pl (.agg (.ints .u8 d) 32))),.c (.s (.pl (.agg (.ints .u8 x) 32)))]=>cond (ok32 a && (ok32 b && (ok32 c && (ok32 d && ok32 x)))) (some ()) none
  | _=>none
 enc:=fun _=>.bool true
theorem meetsK {ce co se so x:Nat} (c1:ce < LN) (c2:co < LN) (c3:se < LN) (c4:so < LN) (c5:x < LN) (n1:0 < ce) (n2:0 < co) (n3:0 < se) (n4:0 < so) (n5:0 < x) {B:Nat->Pt} (hB:∀ k,k < LN->PT (B k) (CP.nsm k gB)) :
  ∃ p r s:Str,threeA [] [evalA ce (byP (B se)),evalA ce (byP (B so)),evalA co (byP (B se))]=(p,0) /\ threeA [] [evalA se (byP (B ce)),evalA so (byP (B ce)),evalA se (byP (B co))]=(p,0) /\
   threeA [] [evalA ce (byP (B se)),evalA ce (byP (B so)),evalA x (byP (B se))]=(r,0) /\ threeA [] [evalA se (byP (B ce)),evalA x (byP (B ce)),evalA se (byP (B co))]=(s,0) /\
   p.length=96 /\ (r=p ↔ x=co) /\ (s=p ↔ x=so):=by
 have ev:∀ k,Ev (CP.nsm k gB):=fun k=>Ev_nsm gB_ev k
 have f4:∀ k,0 < k->k < LN->¬ e4 (CP.nsm k gB):=fun k h0 h z=>base_e4 (e4_free gB_ev h0 h z)
 obtain ⟨R1,h1,v1,P1,s1,E1,_⟩:=eval_good (hB se c3) (ev se) (f4 se n3 c3) n1 c1
 obtain ⟨R2,h2,v2,P2,s2,E2,_⟩:=eval_good (hB so c4) (ev so) (f4 so n4 c4) n1 c1
 obtain ⟨R3,h3,v3,P3,s3,E3,_⟩:=eval_good (hB se c3) (ev se) (f4 se n3 c3) n2 c2
 obtain ⟨T1,k1,w1,Q1,t1,F1,_⟩:=eval_good (hB ce c1) (ev ce) (f4 ce n1 c1) n3 c3
 obtain ⟨T2,k2,w2,Q2,t2,F2,_⟩:=eval_good (hB ce c1) (ev ce) (f4 ce n1 c1) n4 c4
 obtain ⟨T3,k3,w3,Q3,t3,F3,_⟩:=eval_good (hB co c2) (ev co) (f4 co n2 c2) n3 c3
 obtain ⟨R4,h4,v4,P4,s4,E4,_⟩:=eval_good (hB se c3) (ev se) (f4 se n3 c3) n5 c5
 obtain ⟨T5,k5,w5,Q5,t5,F5,_⟩:=eval_good (hB ce c1) (ev ce) (f4 ce n1 c1) n5 c5
 rw [CP.nsm_comm] at t1 t2 t3
 have m1:byP T1=byP R1:=by_sim Q1 P1 F1 (sim_trans (sim_symm t1) s1)
 have m2:byP T2=byP R2:=by_sim Q2 P2 F2 (sim_trans (sim_symm t2) s2)
 have m3:byP T3=byP R3:=by_sim Q3 P3 F3 (sim_trans (sim_symm t3) s3)
 rw [CP.nsm_comm] at t2
 refine ⟨str3 (byP R1) (byP R2) (byP R3),str3 (byP R1) (byP R2) (byP R4),str3 (byP R1) (byP T5) (byP R3),?_,?_,?_,?_,str3_len (byP_ok _) (byP_ok _) (byP_ok _),?_,?_⟩
 ·rw [v1,v2,v3]; rfl
 ·rw [w1,w2,w3,m1,m2,m3]; rfl
 ·rw [v1,v2,v4]; rfl
 ·rw [w1,w5,w3,m1,m3]; rfl
 ·rw [str3_c (byP_ok _) (byP_ok _)]
  exact by_inj P4 P3 E4 E3 (ev se) (f4 se n3 c3) c5 c2 s4 s3
 ·rw [str3_b (byP_ok _) (byP_ok _),<-m2]
  exact by_inj Q5 Q2 F5 F2 (ev ce) (f4 ce n1 c1) c5 c4 t5 t2
abbrev gI_AkM:Cg:=g_AkM (PUnit) rTrue (Nat) rSome10 (fun t=>(lim 8 t).getD 0 0) (fun t=>(lim 8 t).getD 1 0) (fun t=>(lim 8 t).getD 2 0) (fun t=>(lim 8 t).getD 3 0) (fun t=>(lim 8 t).getD 4 0) (fun t=>(lim 8 t).getD 5 0) (fun t=>(lim 8 t).getD 6 0) (fun t=>(lim 8 t).getD 7 0) (Bool) rScZero (fun t=>t) (Pt) rBase (fun t=>[↑t.x.a,↑t.x.b,↑t.x.c,↑t.x.d,↑t.x.e,↑t.y.a,↑t.y.b,↑t.y.c,↑t.y.d,↑t.y.e,↑t.z.a,↑t.z.b,↑t.z.c,↑t.z.d,↑t.z.e,↑t.t.a,↑t.t.b,↑t.t.c,↑t.t.d,↑t.t.e]) (Pt) rTimes (fun t=>[↑t.x.a,↑t.x.b,↑t.x.c,↑t.x.d,↑t.x.e,↑t.y.a,↑t.y.b,↑t.y.c,↑t.y.d,↑t.y.e,↑t.z.a,↑t.z.b,↑t.z.c,↑t.z.d,↑t.z.e,↑t.t.a,↑t.t.b,↑t.t.c,↑t.t.d,↑t.t.e]) (Nat) rEBytesN (fun t=>(lo 32 t).getD 0 0) (fun t=>(lo 32 t).getD 1 0) (fun t=>(lo 32 t).getD 2 0) (fun t=>(lo 32 t).getD 3 0) (fun t=>(lo 32 t).getD 4 0) (fun t=>(lo 32 t).getD 5 0) (fun t=>(lo 32 t).getD 6 0) (fun t=>(lo 32 t).getD 7 0) (fun t=>(lo 32 t).getD 8 0) (fun t=>(lo 32 t).getD 9 0) (fun t=>(lo 32 t).getD 10 0) (fun t=>(lo 32 t).getD 11 0) (fun t=>(lo 32 t).getD 12 0) (fun t=>(lo 32 t).getD 13 0) (fun t=>(lo 32 t).getD 14 0) (fun t=>(lo 32 t).getD 15 0) (fun t=>(lo 32 t).getD 16 0) (fun t=>(lo 32 t).getD 17 0) (fun t=>(lo 32 t).getD 18 0) (fun t=>(lo 32 t).getD 19 0) (fun t=>(lo 32 t).getD 20 0) (fun t=>(lo 32 t).getD 21 0) (fun t=>(lo 32 t).getD 22 0) (fun t=>(lo 32 t).getD 23 0) (fun t=>(lo 32 t).getD 24 0) (fun t=>(lo 32 t).getD 25 0) (fun t=>(lo 32 t).getD 26 0) (fun t=>(lo 32 t).getD 27 0) (fun t=>(lo 32 t).getD 28 0) (fun t=>(lo 32 t).getD 29 0) (fun t=>(lo 32 t).getD 30 0) (fun t=>(lo 32 t).getD 31 0) (Str × Int) rClient (fun t=>t.fst) (fun t=>t.snd) (Str × Int) rServer (fun t=>t.fst) (fun t=>t.snd) (Str × Int) rThree (fun t=>t.fst) (fun t=>t.snd)
theorem gok_AkM:CfOk prog gI_AkM.c:=⟨gam_cons ok_awake13 <| gam_cons ok_Some10 <| gam_cons ok_ScZero <| gam_cons ok_EBase <| gam_cons ok_ETimes <| gam_cons ok_EBytesN <| gam_cons ok_Client <| gam_cons ok_Server <| gam_cons ok_Three <| gam_nil,fun _ _ h=>by cases h⟩
theorem ok_LAM:CallOk prog n_opalinelaw13_AkeMeets sLAM:=by
 refine afunc_okE (g:=gI_AkM) (fu:=fun _=>0) mixed gok_AkM h_opalinelaw13_AkeMeets (by kernel_rfl) ?_
 intro args t ht
 unfold sLAM at ht
 simp only at ht
 split at ht
 ·rename_i a b c d x
  obtain ⟨hc,_⟩:=ctrueS ht
  simp only [Bool.and_eq_true] at hc
  obtain ⟨ha,hb,hc,hd,hx⟩:=hc
  refine (AkM_ev ..).trans ?_
  show _=some (AV.bool true)
  have sa:=run_Some10 ha
  have sb:=run_Some10 hb
  have sc:=run_Some10 hc
  have sd:=run_Some10 hd
  have sx:=run_Some10 hx
  have c1:vB a%LN < LN:=Nat.mod_lt _ LNp0
  have c2:vB b%LN < LN:=Nat.mod_lt _ LNp0
  have c3:vB c%LN < LN:=Nat.mod_lt _ LNp0
  have c4:vB d%LN < LN:=Nat.mod_lt _ LNp0
  have c5:vB x%LN < LN:=Nat.mod_lt _ LNp0
  generalize vB a%LN=ce at *
  generalize vB b%LN=co at *
  generalize vB c%LN=se at *
  generalize vB d%LN=so at *
  generalize vB x%LN=xx at *
  have z1:=run_ScZero c1
  have z2:=run_ScZero c2
  have z3:=run_ScZero c3
  have z4:=run_ScZero c4
  have z5:=run_ScZero c5
  have nz:∀ n:Nat,Nat.beq n 0=false->0 < n:=fun n h=>by
   rcases Nat.eq_zero_or_pos n with h0 | h0
   ·rw [h0] at h; cases h
   ·exact h0
  have pos:∀ n:Nat,∀ X:Option AV,(Nat.beq n 0=false->X=some (AV.bool true))->cond (Nat.beq n 0) (some (AV.bool true)) X=some (AV.bool true):=fun n X h=>by
   cases hb:Nat.beq n 0
   ·exact h hb
   ·rfl
  have o:=run_Base
  refine bstep (show rTrue []=some () from rfl) ?_
  refine bstep sa ?_
  refine bstep sb ?_
  refine bstep sc ?_
  refine bstep sd ?_
  refine bstep sx ?_
  refine bstep z1 ?_
  refine pos ce _ fun n1=>?_
  refine bstep z2 ?_
  refine pos co _ fun n2=>?_
  refine bstep z3 ?_
  refine pos se _ fun n3=>?_
  refine bstep z4 ?_
  refine pos so _ fun n4=>?_
  refine bstep z5 ?_
  refine pos xx _ fun n5=>?_
  have hB:∀ k,k < LN->PT (timesP baseP (bitsDn (val (lim 8 k)) 253)) (CP.nsm k gB):=fun k hk=>PT_nB hk
  obtain ⟨p,r,s,e1,e2,e3,e4,hl,i1,i2⟩:=meetsK c1 c2 c3 c4 c5 (nz _ n1) (nz _ n2) (nz _ n3) (nz _ n4) (nz _ n5) (B:=fun k=>timesP baseP (bitsDn (val (lim 8 k)) 253)) hB
  have m1:=run_TimesN base_ok ce
  have m2:=run_TimesN base_ok co
  have m3:=run_TimesN base_ok se
  have m4:=run_TimesN base_ok so
  have b1:=run_EBytesN (hB ce c1).ok
  have b2:=run_EBytesN (hB co c2).ok
  have b3:=run_EBytesN (hB se c3).ok
  have b4:=run_EBytesN (hB so c4).ok
  have v:∀ n,n < LN->val (lim 8 n)=n:=fun n hn=>valM (Nat.lt_trans hn LN_lt)
  have k1:=run_Client (ok8_lim ce) (ok8_lim co) (byP_ok (timesP baseP (bitsDn (val (lim 8 se)) 253))) (byP_ok (timesP baseP (bitsDn (val (lim 8 so)) 253)))
  have k2:=run_Server (ok8_lim se) (ok8_lim so) (byP_ok (timesP baseP (bitsDn (val (lim 8 ce)) 253))) (byP_ok (timesP baseP (bitsDn (val (lim 8 co)) 253)))
  have k3:=run_Client (ok8_lim ce) (ok8_lim xx) (byP_ok (timesP baseP (bitsDn (val (lim 8 se)) 253))) (byP_ok (timesP baseP (bitsDn (val (lim 8 so)) 253)))
  have k4:=run_Server (ok8_lim se) (ok8_lim xx) (byP_ok (timesP baseP (bitsDn (val (lim 8 ce)) 253))) (byP_ok (timesP baseP (bitsDn (val (lim 8 co)) 253)))
  have u:∀ e s f t' o w,threeK e s f t' o w=threeA [] [evalA (val e) s,evalA (val f) t',evalA (val o) w]:=fun _ _ _ _ _ _=>rfl
  rw [u,v ce c1,v co c2,e1] at k1
  rw [u,v se c3,v so c4,e2] at k2
  rw [u,v ce c1,v xx c5,e3] at k3
  rw [u,v se c3,v xx c5,e4] at k4
  have y:∀ q:Pt,byP q=lo 32 (fv (bytesF q)%P25):=fun _=>rfl
  rw [y,y] at k1 k2 k3 k4
  clear e1 e2 e3 e4 y u v hB z1 z2 z3 z4 z5 sa sb sc sd sx
  generalize fv (bytesF (timesP baseP (bitsDn (val (lim 8 ce)) 253)))%P25=N1 at *
  generalize fv (bytesF (timesP baseP (bitsDn (val (lim 8 co)) 253)))%P25=N2 at *
  generalize fv (bytesF (timesP baseP (bitsDn (val (lim 8 se)) 253)))%P25=N3 at *
  generalize fv (bytesF (timesP baseP (bitsDn (val (lim 8 so)) 253)))%P25=N4 at *
  generalize timesP baseP (bitsDn (val (lim 8 ce)) 253)=B1 at *
  generalize timesP baseP (bitsDn (val (lim 8 co)) 253)=B2 at *
  generalize timesP baseP (bitsDn (val (lim 8 se)) 253)=B3 at *
  generalize timesP baseP (bitsDn (val (lim 8 so)) 253)=B4 at *
  generalize baseP=Bp at *
  refine bstep o ?_
  refine bstep m3 ?_
  refine bstep b3 ?_
  refine bstep m4 ?_
  refine bstep b4 ?_
  refine bstep m1 ?_
  refine bstep b1 ?_
  refine bstep m2 ?_
  refine bstep b2 ?_
  refine bstep k1 ?_
  refine bstep k2 ?_
  refine bstep k3 ?_
  refine bstep k4 ?_
  refine bstep (show rThree [.c (.mdat [])]=some ([],0) from rfl) ?_
  have d1:decide (r=p)=decide (lim 8 xx=lim 8 co):=decide_eq_decide.2 (i1.trans (lim_inj c5 c2).symm)
  have d2:decide (s=p)=decide (lim 8 xx=lim 8 so):=decide_eq_decide.2 (i2.trans (lim_inj c5 c4).symm)
  refine cstep ?_ ?_
  ·show (decide ((0:Int)=0) && decide ((0:Int)=0) && decide ((0:Int)=0) && decide ((0:Int)=0) && decide ((0:Int)=0) && decide (p=p))=true
   rw [decide_eq_true (rfl:p=p)]; rfl
  refine cstep ?_ ?_
  ·show decide (((p.length:Nat):Int)=96)=true
   exact decide_eq_true (by omega)
  refine cstep ?_ ?_
  ·show (decide (r=p) == decide (lim 8 xx=lim 8 co))=true
   rw [d1]; exact beq_self_eq_true _
  ·show some (AV.bool (decide (s=p) == decide (lim 8 xx=lim 8 so)))=_
   rw [d2,beq_self_eq_true]
 ·cases ht
end
end Go.Eng
