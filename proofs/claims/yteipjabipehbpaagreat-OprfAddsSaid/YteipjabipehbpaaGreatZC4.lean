import Derived.RangeFuncLeaves
import Derived.RangeFuncWrites
import Derived.Test.YteipjabipehbpaaGreatZC3
import Derived.Test.YteipjabipehbpaaGreatZE6
namespace Go.Eng
open Go.IntKind (u64 i64 u8)
noncomputable section
open Go Go.Proofs
set_option linter.all false
def rowF (x:Fe):List Int:=[(x.a:Int),x.b,x.c,x.d,x.e]
def rowP (p:Pt):List Int:=[(p.x.a:Int),p.x.b,p.x.c,p.x.d,p.x.e,p.y.a,p.y.b,p.y.c,p.y.d,p.y.e,p.z.a,p.z.b,p.z.c,p.z.d,p.z.e,p.t.a,p.t.b,p.t.c,p.t.d,p.t.e]
def bitL (A i:Nat):Bool:=Nat.beq (A / 2 ^ i%2) 1
def bitsDn (A:Nat):Nat->List Bool
 | 0=>[]
 | i+1=>bitL A i :: bitsDn A i
def stepP (p:Pt) (c:Pt) (b:Bool):Pt:=cond b (addP (dblP c) p d2F) (dblP c)
def timesP (p:Pt) (l:List Bool):Pt:=l.foldl (stepP p) neutP
def runPS {T:Type} (F:Pt->List Int->T):List AV->Option T
 | [.c (.s (.pl (.agg (.ints .u64 [a,b,c,d,e,f,g,h,i,j,k,l,m,n,o,p,q,r,s,t]) 20))),.c (.s (.pl (.agg (.ints .u64 u) 8)))]=>
  cond (inF a b c d e && (inF f g h i j && (inF k l m n o && inF p q r s t)) && ok8 u) (some (F ⟨toF a b c d e,toF f g h i j,toF k l m n o,toF p q r s t⟩ u)) none
 | _=>none
def sTimes:Summ:={ T:=Pt,run:=runPS fun p a=>timesP p (bitsDn (val a) 253),enc:=eP }
def rTimes:List AV->Option Pt:=sTimes.run
open Go Go.Proofs Go.RowKit
set_option maxRecDepth 10000
section
variable {P:Program} {a:Act} {w w':World} {ρ:Plc} {o:Oper} {ops:Array Oper} {rest:List Oper} {Q:Exit->Act->World->Prop} {F:Fence} {n:Nat} {ro:Option Nat}
theorem step_val {v:Value} (hg:o.guard=none) (hnd:∀ c,o.op ≠ .defer c) (hr:(execOp a.eval o).run P w=.ok (.value v) w') (h:wpListIn (Fw ro) n P ops Q rest (a.put o.dst v) w') :
  wpListIn (Fw ro) n P ops Q (o :: rest) a w:=by
 refine wpListIn_plain hg fun K hK=>wpIn_of hnd ?_
 rw [hr,Oper.uponIn_value]
 exact hK _ _ h
theorem bin_run {op:BinOp} {T:TypeId} {xo yo:Operand} {yt:TypeId} {x y av:AV} (ho:o.op=.binOp op T xo yo yt) (hx:AVR w ρ x (a.eval xo)) (hy:AVR w ρ y (a.eval yo)) (h:aBin P T op x y some=some av) :
  ∃ v,AVR w ρ av v /\ (execOp a.eval o).run P w=.ok (.value v) w:=by
 obtain ⟨av',z,q1,q2,q3,q4⟩:=aBin_sound hx hy h
 cases q1
 exact ⟨z,q3,by simp only [execOp,ho]; exact run_v (q4 xo yo)⟩
theorem Rel.tiny {l:List (Nat × AV)} {sz:Nat} (hsz:a.tmps.size=sz) (hB:a.defers=[]) (h:∀ t,AVR w (P0 fun _=>False) (match look l t with | some v=>v | none=>.junk) (slot ⟨w.heap.size,fun _=>False,[],fun _=>False,[]⟩ a t)) (hr:∀ p ∈ l,p.2.refs=[]) :
  Rel ⟨w.heap.size,fun _=>False,[],fun _=>False,[]⟩ w (P0 fun _=>False) ⟨l,[],0,sz⟩ a w:=by
 have key:∀ (t:Nat),(match look l t with | some v=>v | none=>AV.junk).refs=[]:=by
  intro t
  clear h
  induction l with
  | nil=>rfl
  | cons p r ih=>
   obtain ⟨i,v⟩:=p
   rw [look_cons]
   cases Nat.beq i t
   ·exact ih (fun p hp=>hr p (by simp [hp]))
   ·exact hr (i,v) (by simp)
 exact ⟨h,fun id x hx=>by simp [P0] at hx,fun id x hx=>by simp [P0] at hx,fun i j x y hx=>by simp [P0] at hx,fun id x hx=>by simp [P0] at hx,hsz,hB,BelowM.refl _ _,Nat.le_refl _,
  fun t id hid=>by
   have h2:id ∈ (match look l t with | some v=>v | none=>AV.junk).refs:=hid
   rw [key t] at h2; simp at h2,
  fun i b hb=>by simp [look_nil] at hb,fun i b hb=>by simp [look_nil] at hb,fun b hb=>hb.elim,fun b hb=>hb⟩
end
def opMove:Op->Option Operand
 | .move x=>some x
 | .assign x=>some x
 | _=>none
def opBin:Op->Option (BinOp × TypeId × Operand × Operand)
 | .binOp op T x y _=>some (op,T,x,y)
 | _=>none
def opUn:Op->Option (UnOp × Operand)
 | .unOp op _ x=>some (op,x)
 | _=>none
def opCall:Op->Option (Operand × List Operand)
 | .call ⟨.value f,args,_⟩=>some (f,args.toList)
 | _=>none
section
variable {P:Program} {a a':Act} {w w':World} {ρ:Plc} {o:Oper} {ops:Array Oper} {rest:List Oper} {Q:Exit->Act->World->Prop} {n:Nat} {ro:Option Nat}
theorem intV (w:World) (ρ:Plc) (k:IntKind) (i:Int):AVR w ρ (.int k i) (.int k i):=⟨rfl,fun _ _ e=>by cases e⟩
theorem ofBoolV {b:Bool}:∀ v,AVR w ρ (.bool b) v->v=.bool b:=fun v h=>h.1
theorem st_move {x:Operand} (hn:wpListIn (Fw ro) n P ops Q rest a' w) (hg:o.guard=none) (ho:opMove o.op=some x) (hp:a.put o.dst (a.eval x)=a'):wpListIn (Fw ro) n P ops Q (o :: rest) a w:=by
 subst hp
 unfold opMove at ho
 split at ho <;> rename_i hop
 ·cases ho; exact step_val hg (by rw [hop]; simp) (by simp [execOp,hop]) hn
 ·cases ho; exact step_val hg (by rw [hop]; simp) (by simp [execOp,hop]) hn
 ·cases ho
theorem st_bin {op:BinOp} {T:TypeId} {xo yo:Operand} {vx vy:Value} {x y av:AV} {z:Value} (hn:wpListIn (Fw ro) n P ops Q rest a' w) (hx:AVR w ρ x vx) (hy:AVR w ρ y vy) (hv:∀ v,AVR w ρ av v->v=z)
  (h:aBin P T op x y some=some av) (hg:o.guard=none) (ho:opBin o.op=some (op,T,xo,yo)) (hxe:a.eval xo=vx) (hye:a.eval yo=vy) (hp:a.put o.dst z=a'):wpListIn (Fw ro) n P ops Q (o :: rest) a w:=by
 subst hp hxe hye
 unfold opBin at ho
 split at ho
 ·rename_i hop
  cases ho
  obtain ⟨v,h1,h2⟩:=bin_run hop hx hy h
  have:=hv v h1
  subst this
  exact step_val hg (by rw [hop]; simp) h2 hn
 ·cases ho
theorem st_un {op:UnOp} {xo:Operand} {vx:Value} {x av:AV} {z:Value} (hn:wpListIn (Fw ro) n P ops Q rest a' w) (hx:AVR w ρ x vx) (hv:∀ v,AVR w ρ av v->v=z)
  (h:aUn op x some=some av) (hg:o.guard=none) (ho:opUn o.op=some (op,xo)) (hxe:a.eval xo=vx) (hp:a.put o.dst z=a'):wpListIn (Fw ro) n P ops Q (o :: rest) a w:=by
 subst hp hxe
 unfold opUn at ho
 split at ho
 ·rename_i hop
  cases ho
  obtain ⟨av',v,q1,q2,q3,q4⟩:=aUn_sound (P:=P) hx h
  cases q1
  have:=hv v q3
  subst this
  exact step_val hg (by rw [hop]; simp) (by simp only [execOp,hop]; exact run_v q4) hn
 ·cases ho
theorem st_call {g:Nat} {A:Summ} {args:List Operand} {xs:List AV} {t:A.T} {vs:List Value} (hA:CallOk P g A) (ht:A.run xs=some t) (hx:AVRs w (P0 fun _=>False) xs vs)
  (hn:∀ v w',AVR w' (P0 fun _=>False) (A.enc t) v->Below w.heap.size w w'->wpListIn (Fw ro) n P ops Q rest (a.put o.dst v) w')
  (hg:o.guard=none) (ho:opCall o.op=some (.func g,args)) (hvs:args.map a.eval=vs):wpListIn (Fw ro) n P ops Q (o :: rest) a w:=by
 subst hvs
 unfold opCall at ho
 split at ho
 ·rename_i f ar ats hop
  cases ho
  refine wpListIn_plain hg fun K hK=>wpIn_of (by intro c hc; rw [hop] at hc; cases hc) ?_
  have hop2:(execOp a.eval o).run P w=(callFunc g (ar.toList.map a.eval).toArray).run P w:=by
   have e:ar.map a.eval=(ar.toList.map a.eval).toArray:=by rw [<-Array.toList_map,Array.toArray_toList]
   have ef:a.eval (.func g)=.func (.func g) #[] #[]:=rfl
   simp only [execOp,hop,resolve,ef,Deferred.ofValue,e,Sem.run_bind,Sem.run_pure,Result.andThen_ok,invoke]
   simp
  rw [hop2]
  rcases hA xs t ht w (fun _=>False) _ (fun _ h=>h.elim) hx with ⟨v,w',hr,h1,_,h2⟩ | ⟨hr,hc⟩
  ·rw [hr,Oper.uponIn_value]
   exact hK _ _ (hn v w' h1 h2)
  ·rw [hr,Oper.uponIn_enter]
   refine ⟨fw_depth,(Calls.fw hc).mono fun e w' he=>?_⟩
   obtain ⟨v,rfl,h1,_,h2⟩:=he
   exact hK _ _ (hn v w' h1 h2)
 ·cases ho
theorem st_yield {l m:Nat} {f:Operand} {args:List Operand} {R:Ending->World->Prop} {vs:Array Value} (hY:YieldAt (Fw ro) m P l vs w R)
  (hn:∀ e w',R e w'->∃ v,e=.returned v /\ wpListIn (Fw ro) n P ops Q rest (a.put o.dst v) w')
  (hg:o.guard=none) (ho:opCall o.op=some (f,args)) (hvs:(args.map a.eval).toArray=vs) (hf:a.eval f=.func (.yield l) #[] #[]):wpListIn (Fw ro) n P ops Q (o :: rest) a w:=by
 subst hvs
 unfold opCall at ho
 split at ho
 ·rename_i f' ar ats hop
  cases ho
  refine wpListIn_plain hg fun K hK=>wpIn_of (by intro c hc; rw [hop] at hc; cases hc) ?_
  obtain ⟨fn,tmps,assign,body,hy,hR⟩:=hY
  have hop2:(execOp a.eval o).run P w=(Instr.yield l (ar.toList.map a.eval).toArray).run P w:=by
   have e:ar.map a.eval=(ar.toList.map a.eval).toArray:=by rw [<-Array.toList_map,Array.toArray_toList]
   simp only [execOp,hop,resolve,hf,Deferred.ofValue,e,Sem.run_bind,Sem.run_pure,Result.andThen_ok,invoke]
   simp
  rw [hop2,hy,Oper.uponIn_round]
  refine ⟨fw_depth,?_⟩
  have hR2:RoundIn (Fw ro) (n - 1) P l fn tmps assign body w R:=⟨hR.1,fun c cs _=>hR.2 c cs (fun d hd=>by simp [Fw] at hd)⟩
  refine hR2.mono fun e w' he=>?_
  obtain ⟨v,rfl,h⟩:=hn e w' he
  exact hK _ _ h
 ·cases ho
end
set_option maxRecDepth 10000
def bitsUp (A m:Nat):Nat->List Bool
 | 0=>[]
 | k+1=>bitsUp A m k++[bitL A (m - 1 - k)]
theorem bitsUp_dn (A m:Nat):∀ k,k <= m->bitsUp A m k++bitsDn A (m - k)=bitsDn A m:=by
 intro k
 induction k with
 | zero=>intro _; rfl
 | succ k ih=>
  intro hk
  rw [<-ih (by omega),bitsUp,List.append_assoc]
  congr 1
  rw [show m - k=(m - (k+1))+1 by omega,bitsDn,show m - (k+1)=m - 1 - k by omega]
  rfl
theorem bitsUp_len (A m:Nat):∀ k,(bitsUp A m k).length=k:=by
 intro k
 induction k with
 | zero=>rfl
 | succ k ih=>rw [bitsUp,List.length_append,ih]; rfl
def encB1 (b:Bool):Array Value:=#[.int .u64 (cond b 1 0)]
theorem bitL_val (A i:Nat):(((A / 2 ^ i%2:Nat):Int))=cond (bitL A i) 1 0:=by
 rw [bitL]
 have h:A / 2 ^ i%2 < 2:=Nat.mod_lt _ (by omega)
 generalize A / 2 ^ i%2=b at *
 match b,h with
 | 0,_=>rfl
 | 1,_=>rfl
def bTm (y p v2:Value) (i:Int) (v4 v5 v6 v7 v8 v9 v10 v11 v12 v13 v14:Value):Act:={ tmps:=#[y,p,v2,.int .i64 i,v4,v5,v6,v7,v8,v9,v10,v11,v12,v13,v14],defers:=[] }
def HasA (rA:Nat) (a:List Int) (W:World):Prop:=RowAt W rA 0 (TRow.ints .u64 a).cells /\ rA < W.heap.size
def kpB (rA:Nat) (a:List Int) (W W':World):Prop:=HasA rA a W->HasA rA a W'
theorem HasA.keep {rA:Nat} {a:List Int} {W W':World} (h:HasA rA a W) (hk:W'.heap[rA]?=W.heap[rA]?) (hs:W.heap.size <= W'.heap.size):HasA rA a W' :=
 ⟨fun i v hv=>by rw [cell?_keep hk]; exact h.1 i v hv,Nat.lt_of_lt_of_le h.2 hs⟩
def bitsX:Code:=match codeF fF141 with
 | .seq _ (.block _ (.loop x))=>x
 | c=>c
def bitsR:Code:=match codeF fF141 with
 | .seq x _=>x
 | c=>c
def bT0 (l rA:Nat):Act:={ tmps:=#[.func (.yield l) #[] #[],.pointer (some ⟨rA,0,none⟩),undef,undef,undef,undef,undef,undef,undef,undef,undef,undef,undef,undef,undef],defers:=[] }
theorem bits_res0:fF141.results.toList=[]:=by kernel_rfl
theorem bits_res {w:World} (ts:Array Value):(results fF141 ts).run prog w=.ok (.tuple #[]) w :=
 results_run (a:=⟨ts,[]⟩) (vs:=[]) (by rw [bits_res0]; rfl)
section
variable {n:Nat} {Q:Exit->Act->World->Prop} {K:Act->World->Prop} {W:World} {y p v2 v4 v5 v6 v7 v8 v9 v10 v11 v12 v13 v14:Value}
theorem bits_end {i:Int} (hi:i < 0) (h:Q (.exit 0) (bTm y p v2 i (.int .i64 i) (.bool false) v6 v7 v8 v9 v10 v11 v12 v13 v14) W):bitsX.wpIn (Fw none) n prog (Exit.then K Q) (bTm y p v2 i v4 v5 v6 v7 v8 v9 v10 v11 v12 v13 v14) W:=by
 refine wpIn_seq (wpIn_seq (wpIn_region_list ?_))
 refine st_move (x:=.tmp 3) (a':=bTm y p v2 i (.int .i64 i) v5 v6 v7 v8 v9 v10 v11 v12 v13 v14) ?_ (by kernel_rfl) (by kernel_rfl) (by kernel_rfl)
 refine st_bin (ρ:=P0 fun _=>False) (op:=.geq) (T:=3) (xo:=.tmp 4) (yo:=.const (.int .i64 0)) (x:=.int .i64 i) (y:=.int .i64 0) (av:=.bool (decide (0 <= i))) (z:=.bool false) (a':=bTm y p v2 i (.int .i64 i) (.bool false) v6 v7 v8 v9 v10 v11 v12 v13 v14) ?_ (intV _ _ _ _) (intV _ _ _ _) (fun v h=>by rw [decide_eq_false (by omega)] at h; exact h.1) (by kernel_rfl) (by kernel_rfl) (by kernel_rfl) (by kernel_rfl) (by kernel_rfl) (by kernel_rfl)
 exact wpIn_cond_false rfl (wpIn_exit h)
theorem bits_region {a:List Int} (ha:ok8 a=true) {rA l m:Nat} {J Jx:List Bool->World->Prop} {n₀:Nat} (hJ:AbidesFrom n₀ J) {pre:List Bool} {i:Nat} (hi:i < 300) {ops:Array Oper} {Q:Exit->Act->World->Prop}
  {o1 o2 o3 o4 o5 o6 o7:Oper} {rest:List Oper}
  (h1:o1.guard=none /\ opMove o1.op=some (.tmp 0) /\ o1.dst=some 8)
  (h2:o2.guard=none /\ o2.op=.fieldAddr 29 (.tmp 1) 0 /\ o2.dst=some 9)
  (h3:o3.guard=none /\ o3.op=.load 27 (.tmp 9) /\ o3.dst=some 10)
  (h4:o4.guard=none /\ opMove o4.op=some (.tmp 3) /\ o4.dst=some 11)
  (h5:o5.guard=none /\ opCall o5.op=some (.func nF95,[.tmp 10,.tmp 11]) /\ o5.dst=some 12)
  (h6:o6.guard=none /\ opCall o6.op=some (.tmp 8,[.tmp 12]) /\ o6.dst=some 13)
  (h7:o7.guard=none /\ opUn o7.op=some (.not,.tmp 13) /\ o7.dst=some 14)
  (hY:∀ W1,J pre W1->YieldAt (Fw none) m prog l (encB1 (bitL (val a) i)) W1 fun e W'=>
   (e=.returned (.bool true) /\ J (pre++[bitL (val a) i]) W' /\ kpB rA a W1 W') ∨ (e=.returned (.bool false) /\ Jx (pre++[bitL (val a) i]) W'))
  (hW:HasA rA a W) (hJW:J pre W)
  (hK:∀ v9 v10 W',J (pre++[bitL (val a) i]) W'->HasA rA a W'->wpListIn (Fw none) n prog ops Q rest (bTm (.func (.yield l) #[] #[]) (.pointer (some ⟨rA,0,none⟩)) v2 (i:Int) v4 v5 v6 v7 (.func (.yield l) #[] #[]) v9 v10 (.int .i64 (i:Int)) (.int .u64 (cond (bitL (val a) i) 1 0)) (.bool true) (.bool false)) W')
  (hQ:∀ v9 v10 W',Jx (pre++[bitL (val a) i]) W'->wpListIn (Fw none) n prog ops Q rest (bTm (.func (.yield l) #[] #[]) (.pointer (some ⟨rA,0,none⟩)) v2 (i:Int) v4 v5 v6 v7 (.func (.yield l) #[] #[]) v9 v10 (.int .i64 (i:Int)) (.int .u64 (cond (bitL (val a) i) 1 0)) (.bool false) (.bool true)) W') :
  wpListIn (Fw none) n prog ops Q (o1 :: o2 :: o3 :: o4 :: o5 :: o6 :: o7 :: rest) (bTm (.func (.yield l) #[] #[]) (.pointer (some ⟨rA,0,none⟩)) v2 (i:Int) v4 v5 v6 v7 v8 v9 v10 v11 v12 v13 v14) W:=by
 refine st_move (a':=bTm (.func (.yield l) #[] #[]) (.pointer (some ⟨rA,0,none⟩)) v2 (i:Int) v4 v5 v6 v7 (.func (.yield l) #[] #[]) v9 v10 v11 v12 v13 v14) ?_ h1.1 h1.2.1 (by rw [h1.2.2]; rfl)
 have hrow:=hW.1
 have hsz:rA < W.heap.size:=hW.2
 obtain ⟨a0,a1,a2,a3,a4,a5,a6,a7,rfl⟩:=list8 ha
 have hp:AVR W (P0 fun _=>False) (.s (.rptr (.ints .u64 [a0,a1,a2,a3,a4,a5,a6,a7]) 0 8)) (.pointer (some ⟨rA,0,none⟩)) :=
  ⟨Nat.le_refl _,rA,0,rfl,⟨fun _ _ h=>by simp [P0] at h,fun h=>h⟩,hrow,hsz⟩
 obtain ⟨av1,z1,q1,_,q3,q4⟩:=aField_sound (P:=prog) (S:=29) (f:=0) (K:=some) (r:=.s (.rptr (.ints .u64 [a0,a1,a2,a3,a4,a5,a6,a7]) 0 8)) hp (by kernel_rfl)
 cases q1
 refine step_val (v:=z1) h2.1 (by rw [h2.2.1]; intro c h; cases h) (by simp only [execOp,h2.2.1]; exact run_v q4) ?_
 clear q4
 rw [h2.2.2]
 have hs:=Rel.tiny (l:=[]) (sz:=15) (w:=W) (a:=bTm (.func (.yield l) #[] #[]) (.pointer (some ⟨rA,0,none⟩)) v2 (i:Int) v4 v5 v6 v7 v8 v9 v10 v11 v12 v13 v14) rfl rfl (fun t=>trivial) (by simp)
 obtain ⟨av2,z2,q1,_,q5,q6⟩:=aLoad_sound (P:=prog) (T:=27) (K:=some) (r:=.agg (.ints .u64 [a0,a1,a2,a3,a4,a5,a6,a7]) 8) hs q3 (fun id hid=>by simp [AV.refs,CV.refs,SV.refs] at hid) (by kernel_rfl)
 cases q1
 refine step_val (v:=z2) h3.1 (by rw [h3.2.1]; intro c h; cases h) (by simp only [execOp,h3.2.1]; exact run_v q6) ?_
 clear q6
 rw [h3.2.2]
 refine st_move (a':=bTm (.func (.yield l) #[] #[]) (.pointer (some ⟨rA,0,none⟩)) v2 (i:Int) v4 v5 v6 v7 (.func (.yield l) #[] #[]) z1 z2 (.int .i64 (i:Int)) v12 v13 v14) ?_ h4.1 h4.2.1 (by rw [h4.2.2]; kernel_rfl)
 have bt:=run_Bit ha (i:Int)
 have hbn:bitN (val [a0,a1,a2,a3,a4,a5,a6,a7]) (i:Int)=val [a0,a1,a2,a3,a4,a5,a6,a7] / 2 ^ i%2:=by
  rw [bitN,decide_eq_false (by omega),cond_false,Int.toNat_natCast]
 rw [hbn] at bt
 have bt':sBit.run [W8 [a0,a1,a2,a3,a4,a5,a6,a7],.int .i64 (i:Int)]=some (val [a0,a1,a2,a3,a4,a5,a6,a7] / 2 ^ i%2):=bt
 have hx:AVRs W (P0 fun _=>False) [W8 [a0,a1,a2,a3,a4,a5,a6,a7],.int .i64 (i:Int)] [z2,.int .i64 (i:Int)]:=⟨q5,intV _ _ _ _,trivial⟩
 have hbv:=bitL_val (val [a0,a1,a2,a3,a4,a5,a6,a7]) i
 refine st_call (A:=sBit) (vs:=[z2,.int .i64 (i:Int)]) ok_Bit bt' hx ?_ h5.1 h5.2.1 rfl
 intro vb W2 hvb hbel
 have hvb:vb=.int .u64 ((val [a0,a1,a2,a3,a4,a5,a6,a7] / 2 ^ i%2:Nat):Int):=hvb.1
 rw [hbv] at hvb
 subst hvb
 rw [h5.2.2]
 have hJ2:J pre W2:=hJ pre W W2 none hJW ⟨hbel.os,hbel.tape,hbel.output,hbel.size,fun k hk _=>hbel.block k hk⟩ (fun r h=>by cases h)
 have hW2:HasA rA [a0,a1,a2,a3,a4,a5,a6,a7] W2:=hW.keep (hbel.block rA hsz) hbel.size
 refine st_yield (vs:=encB1 (bitL (val [a0,a1,a2,a3,a4,a5,a6,a7]) i)) (hY W2 hJ2) ?_ h6.1 h6.2.1 rfl rfl
 rintro e W3 (⟨rfl,h1',h2'⟩ | ⟨rfl,h1'⟩)
 ·refine ⟨_,rfl,?_⟩
  have hW3:HasA rA [a0,a1,a2,a3,a4,a5,a6,a7] W3:=h2' hW2
  refine st_un (ρ:=P0 fun _=>False) (x:=.bool true) (av:=.bool false) (z:=.bool false) ?_ (AVR.bool true) ofBoolV (by kernel_rfl) h7.1 h7.2.1 (by rw [h6.2.2]; rfl) rfl
  rw [h6.2.2,h7.2.2]
  exact hK z1 z2 W3 h1' hW3
 ·refine ⟨_,rfl,?_⟩
  refine st_un (ρ:=P0 fun _=>False) (x:=.bool false) (av:=.bool true) (z:=.bool true) ?_ (AVR.bool false) ofBoolV (by kernel_rfl) h7.1 h7.2.1 (by rw [h6.2.2]; rfl) rfl
  rw [h6.2.2,h7.2.2]
  exact hQ z1 z2 W3 h1'
theorem bits_body {a:List Int} (ha:ok8 a=true) {rA l m:Nat} {J Jx:List Bool->World->Prop} {n₀:Nat} (hJ:AbidesFrom n₀ J) {pre:List Bool} {i:Nat} (hi:i < 300)
  (hY:∀ W1,J pre W1->YieldAt (Fw none) m prog l (encB1 (bitL (val a) i)) W1 fun e W'=>
   (e=.returned (.bool true) /\ J (pre++[bitL (val a) i]) W' /\ kpB rA a W1 W') ∨ (e=.returned (.bool false) /\ Jx (pre++[bitL (val a) i]) W'))
  (hW:HasA rA a W) (hJW:J pre W)
  (hK:∀ v4 v5 v6 v7 v8 v9 v10 v11 v12 v13 v14 W',J (pre++[bitL (val a) i]) W'->HasA rA a W'->K (bTm (.func (.yield l) #[] #[]) (.pointer (some ⟨rA,0,none⟩)) v2 ((i:Int) - 1) v4 v5 v6 v7 v8 v9 v10 v11 v12 v13 v14) W')
  (hQ:∀ v4 v5 v6 v7 v8 v9 v10 v11 v12 v13 v14 W',Jx (pre++[bitL (val a) i]) W'->Q .ret (bTm (.func (.yield l) #[] #[]) (.pointer (some ⟨rA,0,none⟩)) v2 (i:Int) v4 v5 v6 v7 v8 v9 v10 v11 v12 v13 v14) W') :
  bitsX.wpIn (Fw none) n prog (Exit.then K Q) (bTm (.func (.yield l) #[] #[]) (.pointer (some ⟨rA,0,none⟩)) v2 (i:Int) v4 v5 v6 v7 v8 v9 v10 v11 v12 v13 v14) W:=by
 refine wpIn_seq (wpIn_seq (wpIn_region_list ?_))
 refine st_move (x:=.tmp 3) (a':=bTm (.func (.yield l) #[] #[]) (.pointer (some ⟨rA,0,none⟩)) v2 (i:Int) (.int .i64 (i:Int)) v5 v6 v7 v8 v9 v10 v11 v12 v13 v14) ?_ (by kernel_rfl) (by kernel_rfl) (by kernel_rfl)
 refine st_bin (ρ:=P0 fun _=>False) (op:=.geq) (T:=3) (xo:=.tmp 4) (yo:=.const (.int .i64 0)) (x:=.int .i64 (i:Int)) (y:=.int .i64 0) (av:=.bool (decide ((0:Int) <= (i:Int)))) (z:=.bool true) (a':=bTm (.func (.yield l) #[] #[]) (.pointer (some ⟨rA,0,none⟩)) v2 (i:Int) (.int .i64 (i:Int)) (.bool true) v6 v7 v8 v9 v10 v11 v12 v13 v14) ?_ (intV _ _ _ _) (intV _ _ _ _) (fun v h=>by rw [decide_eq_true (by omega)] at h; exact h.1) (by generalize (i:Int)=i'; kernel_rfl) (by kernel_rfl) (by kernel_rfl) (by kernel_rfl) (by kernel_rfl) (by kernel_rfl)
 refine wpIn_cond_true rfl (wpIn_skip ?_)
 refine wpIn_seq (wpIn_block (wpIn_seq (wpIn_region_list ?_)))
 refine bits_region (J:=J) (Jx:=Jx) ha hJ hi ⟨(by kernel_rfl),(by kernel_rfl),(by kernel_rfl)⟩ ⟨(by kernel_rfl),(by kernel_rfl),(by kernel_rfl)⟩ ⟨(by kernel_rfl),(by kernel_rfl),(by kernel_rfl)⟩ ⟨(by kernel_rfl),(by kernel_rfl),(by kernel_rfl)⟩ ⟨(by kernel_rfl),(by kernel_rfl),(by kernel_rfl)⟩ ⟨(by kernel_rfl),(by kernel_rfl),(by kernel_rfl)⟩ ⟨(by kernel_rfl),(by kernel_rfl),(by kernel_rfl)⟩ hY hW hJW ?_ ?_
 ·intro v9 v10 W3 h1 h2
  refine wpIn_cond_false rfl (wpIn_skip ?_)
  refine wpIn_region_list ?_
  refine st_move (x:=.tmp 3) (a':=bTm (.func (.yield l) #[] #[]) (.pointer (some ⟨rA,0,none⟩)) v2 (i:Int) (.int .i64 (i:Int)) (.bool true) (.int .i64 (i:Int)) v7 (.func (.yield l) #[] #[]) v9 v10 (.int .i64 (i:Int)) (.int .u64 (cond (bitL (val a) i) 1 0)) (.bool true) (.bool false)) ?_ (by kernel_rfl) (by kernel_rfl) (by kernel_rfl)
  refine st_bin (ρ:=P0 fun _=>False) (op:=.sub) (T:=3) (xo:=.tmp 6) (yo:=.const (.int .i64 1)) (x:=.int .i64 (i:Int)) (y:=.int .i64 1) (av:=.int .i64 (i64.wrap ((i:Int) - 1))) (z:=.int .i64 ((i:Int) - 1)) (a':=bTm (.func (.yield l) #[] #[]) (.pointer (some ⟨rA,0,none⟩)) v2 (i:Int) (.int .i64 (i:Int)) (.bool true) (.int .i64 (i:Int)) (.int .i64 ((i:Int) - 1)) (.func (.yield l) #[] #[]) v9 v10 (.int .i64 (i:Int)) (.int .u64 (cond (bitL (val a) i) 1 0)) (.bool true) (.bool false)) ?_ (intV _ _ _ _) (intV _ _ _ _) (fun v h=>by rw [wi64 (by omega) (by omega)] at h; exact h.1) (by generalize (i:Int)=i'; kernel_rfl) (by kernel_rfl) (by kernel_rfl) (by kernel_rfl) (by kernel_rfl) (by kernel_rfl)
  refine st_move (x:=.tmp 7) (a':=bTm (.func (.yield l) #[] #[]) (.pointer (some ⟨rA,0,none⟩)) v2 ((i:Int) - 1) (.int .i64 (i:Int)) (.bool true) (.int .i64 (i:Int)) (.int .i64 ((i:Int) - 1)) (.func (.yield l) #[] #[]) v9 v10 (.int .i64 (i:Int)) (.int .u64 (cond (bitL (val a) i) 1 0)) (.bool true) (.bool false)) ?_ (by kernel_rfl) (by kernel_rfl) (by kernel_rfl)
  exact hK _ _ _ _ _ _ _ _ _ _ _ W3 h1 h2
 ·intro v9 v10 W3 h1
  refine wpIn_cond_true rfl (wpIn_ret ?_)
  exact hQ _ _ _ _ _ _ _ _ _ _ _ W3 h1
theorem bits_rounds {a:List Int} (ha:ok8 a=true) {rA l m:Nat} {J Jx:List Bool->World->Prop} {n₀:Nat} (hJ:AbidesFrom n₀ J)
  (hY:∀ pre x W1,J pre W1->pre.length < 254->YieldAt (Fw none) m prog l (encB1 x) W1 fun e W'=>
   (e=.returned (.bool true) /\ J (pre++[x]) W' /\ kpB rA a W1 W') ∨ (e=.returned (.bool false) /\ Jx (pre++[x]) W'))
  (hQ0:∀ (i:Int) v4 v5 v6 v7 v8 v9 v10 v11 v12 v13 v14 W',J (bitsDn (val a) 253) W'->Q (.exit 0) (bTm (.func (.yield l) #[] #[]) (.pointer (some ⟨rA,0,none⟩)) v2 i v4 v5 v6 v7 v8 v9 v10 v11 v12 v13 v14) W')
  (hQ1:∀ (i:Int) pre v4 v5 v6 v7 v8 v9 v10 v11 v12 v13 v14 W',Jx pre W'->Q .ret (bTm (.func (.yield l) #[] #[]) (.pointer (some ⟨rA,0,none⟩)) v2 i v4 v5 v6 v7 v8 v9 v10 v11 v12 v13 v14) W'):∀ k,k <= 253->∀ v4 v5 v6 v7 v8 v9 v10 v11 v12 v13 v14 W,
  HasA rA a W->J (bitsUp (val a) 253 (253 - k)) W->Code.roundsIn (Fw none) n prog bitsX Q (k+1) (bTm (.func (.yield l) #[] #[]) (.pointer (some ⟨rA,0,none⟩)) v2 ((k:Int) - 1) v4 v5 v6 v7 v8 v9 v10 v11 v12 v13 v14) W:=by
 intro k
 induction k with
 | zero=>
  intro _ v4 v5 v6 v7 v8 v9 v10 v11 v12 v13 v14 W hW hJW
  rw [roundsIn_succ]
  refine bits_end (by omega) (hQ0 _ _ _ _ _ _ _ _ _ _ _ _ W ?_)
  have:=bitsUp_dn (val a) 253 253 (by omega)
  rw [Nat.sub_self,bitsDn,List.append_nil] at this
  rw [<-this]; exact hJW
 | succ k ih=>
  intro hk v4 v5 v6 v7 v8 v9 v10 v11 v12 v13 v14 W hW hJW
  rw [roundsIn_succ,show (((k+1:Nat):Int) - 1)=(k:Int) by omega]
  have hb:bitsUp (val a) 253 (253 - (k+1))++[bitL (val a) k]=bitsUp (val a) 253 (253 - k):=by
   rw [show 253 - k=(253 - (k+1))+1 by omega,bitsUp,show 253 - 1 - (253 - (k+1))=k by omega]
  have hlen:(bitsUp (val a) 253 (253 - (k+1))).length < 254:=by rw [bitsUp_len]; omega
  refine bits_body (J:=J) (Jx:=Jx) (pre:=bitsUp (val a) 253 (253 - (k+1))) ha hJ (by omega) (fun W1 h=>hY _ _ W1 h hlen) hW hJW ?_ ?_
  ·intro v4 v5 v6 v7 v8 v9 v10 v11 v12 v13 v14 W' h1 h2
   rw [hb] at h1
   exact ih (by omega) _ _ _ _ _ _ _ _ _ _ _ W' h2 h1
  ·intro v4 v5 v6 v7 v8 v9 v10 v11 v12 v13 v14 W' h1
   exact hQ1 _ _ _ _ _ _ _ _ _ _ _ _ _ W' h1
theorem bits_code:(codeF fF141)=.seq bitsR (.block 0 (.loop bitsX)):=by kernel_rfl
theorem bits_act (l rA:Nat):({ tmps:=(#[.func (.yield l) #[] #[]]++#[.pointer (some ⟨rA,0,none⟩)])++Array.replicate (fF141.ntmps - (#[.func (.yield l) #[] #[]]++#[.pointer (some ⟨rA,0,none⟩)]:Array Value).size) undef,defers:=[] }:Act)=bT0 l rA:=by kernel_rfl
theorem bits_seq {a:List Int} (ha:ok8 a=true) {rA:Nat} {w:World} (hw:HasA rA a w) {n:Nat} :
  SeqStopsK (Fw none) n prog nF141 #[.pointer (some ⟨rA,0,none⟩)] encB1 (kpB rA a) (fun xs=>xs=bitsDn (val a) 253) (fun _=>True) 254 w:=by
 intro l J Jx W hbel hJ hJx hY hJ0
 have hW:HasA rA a W:=hw.keep (hbel.block rA hw.2) hbel.size
 refine callsIn_of_wp (n:=n) hF141 (c:=codeF fF141) (by kernel_rfl) trivial ?_
 rw [bits_act,bits_code]
 refine wpIn_seq (wpIn_region_list ?_)
 refine st_move (x:=.const (.int .i64 252)) (a':=bTm (.func (.yield l) #[] #[]) (.pointer (some ⟨rA,0,none⟩)) undef ((253:Nat) - 1:Int) undef undef undef undef undef undef undef undef undef undef undef) ?_ (by kernel_rfl) (by kernel_rfl) (by kernel_rfl)
 refine wpIn_block (wpIn_loop_rounds 254 ?_)
 refine bits_rounds (m:=n - 1) ha hJ hY ?_ ?_ 253 (Nat.le_refl _) _ _ _ _ _ _ _ _ _ _ _ W hW hJ0
 ·intro i v4 v5 v6 v7 v8 v9 v10 v11 v12 v13 v14 W' h
  exact ⟨rfl,_,bits_res _,⟨_,rfl⟩,.inl ⟨_,rfl,h⟩⟩
 ·intro i pre v4 v5 v6 v7 v8 v9 v10 v11 v12 v13 v14 W' h
  exact ⟨rfl,_,bits_res _,⟨_,rfl⟩,.inr ⟨_,trivial,h⟩⟩
end
def tm0:Code:=match codeF fF73 with | .seq x _=>x | c=>c
def tm1:Code:=match codeF fF73 with | .seq _ (.seq x _)=>x | c=>c
def tm2:Code:=match codeF fF73 with | .seq _ (.seq _ (.seq x _))=>x | c=>c
def tm3:Code:=match codeF fF73 with | .seq _ (.seq _ (.seq _ (.seq (.seq x _) _)))=>x | c=>c
def tmB:Code:=match codeF fF73 with | .seq _ (.seq _ (.seq _ (.seq (.seq _ (.block _ (.rangeFunc _ _ _ x))) _)))=>x | c=>c
def tmA:Code:=match codeF fF73 with | .seq _ (.seq _ (.seq _ (.seq (.seq _ (.block _ (.rangeFunc _ _ x _))) _)))=>x | c=>c
def tm8:Code:=match codeF fF73 with | .seq _ (.seq _ (.seq _ (.seq _ (.seq x _))))=>x | c=>c
def onlyN {β:Type} (F:St->Option β):Ex->St->Option β:=fun e s=>match e with
 | .normal=>F s
 | _=>none
def efB:Efs:=efs [(nF112,inl prog fF112 ⟨⟨gam [],[],noE⟩,[]⟩ 1)]
def g_T0 (T0:Type) (R0:List AV->Option T0) (f0:T0->List Int) (T1:Type) (R1:List AV->Option T1) (f1:T1->List Int) (T2:Type) (R2:List AV->Option T2) (f2:T2->List Int):Cg:=⟨⟨gam [(nF36,⟨R0,fun t=>.agg (.ints .u64 (f0 t)) 5⟩),(nF41,⟨R1,fun t=>.agg (.ints .u64 (f1 t)) 5⟩),(nF98,⟨R2,fun t=>.agg (.ints .u64 (f2 t)) 20⟩)],[],efB⟩,[]⟩
def g_T1 (T0:Type) (R0:List AV->Option T0) (f0:T0->List Int) (T1:Type) (R1:List AV->Option T1) (f1:T1->List Int):Cg:=⟨⟨gam [(nF113,⟨R0,fun t=>.agg (.ints .u64 (f0 t)) 20⟩),(nF101,⟨R1,fun t=>.agg (.ints .u64 (f1 t)) 20⟩)],[],noE⟩,[]⟩
def tmHp (p a w c:List Int):List (Nat × Blk):=[(0,{ ty:=29,n:=8,row:=Row.t (TRow.ints u64 a) }),(1,{ ty:=35,n:=20,row:=Row.t (TRow.ints u64 c) }),(2,{ ty:=33,n:=5,row:=Row.t (TRow.ints u64 w) }),
 (3,{ ty:=35,n:=20,row:=Row.t (TRow.ints u64 [0,0,0,0,0,0,0,0,0,0,0,0,0,0,0,0,0,0,0,0]) }),(4,{ ty:=35,n:=20,row:=Row.t (TRow.ints u64 p) })]
def tmTm:List (Nat × AV):=[(13,AV.s (SV.clop 141 [(0,0,8)])),(6,AV.s (SV.ptr 1 0 20)),(5,AV.s (SV.ptr 2 0 5)),(4,AV.s (SV.ptr 3 0 20)),(2,AV.s (SV.ptr 4 0 20))]
def tmTr:List (Nat × AV):=[(2,AV.s (SV.ptr 4 0 20)),(4,AV.s (SV.ptr 3 0 20)),(5,AV.s (SV.ptr 2 0 5)),(6,AV.s (SV.ptr 1 0 20)),(13,AV.s (SV.clop 141 [(0,0,8)]))]
def tmT (p a w c:List Int):St:=⟨tmTm,tmHp p a w c,5,24⟩
def tmS (b:Int) (p a w c:List Int):St:=⟨(14,.int .u64 b) :: (7,.int .u64 b) :: (tmTm++shiftT 24 tmTr),tmHp p a w c,5,24⟩
def tmE (p a w c:List Int):St:=⟨shiftT 24 tmTm,tmHp p a w c,5,24⟩
section
variable (T0:Type) (R0:List AV->Option T0) (f0:T0->List Int) (T1:Type) (R1:List AV->Option T1) (f1:T1->List Int) (T2:Type) (R2:List AV->Option T2) (f2:T2->List Int)
theorem tm_ev0 (p a:List Int):acode prog (g_T0 T0 R0 f0 T1 R1 f1 T2 R2 f2) 1 tm0 ⟨args0 [AV.agg (.ints .u64 p) 20,AV.agg (.ints .u64 a) 8] 0,[],0,24⟩ (onlyN fun s=>acode prog (g_T0 T0 R0 f0 T1 R1 f1 T2 R2 f2) 1 tm1 s (onlyN fun s=>acode prog (g_T0 T0 R0 f0 T1 R1 f1 T2 R2 f2) 1 tm2 s (onlyN fun s=>acode prog (g_T0 T0 R0 f0 T1 R1 f1 T2 R2 f2) 1 tm3 s (onlyN fun s=>normS [13,6,5,4,2] s)))) =
  (R0 []).bind fun t=>(R0 []).bind fun t1=>(R1 [AV.agg (.ints .u64 (f0 t)) 5,AV.agg (.ints .u64 (f0 t1)) 5]).bind fun w=>(R2 []).bind fun c=>some (tmT p a (f1 w) (f2 c)):=by kernel_rfl
theorem tm_evB (b:Int) (p a w c:List Int):acode prog (g_T1 T0 R0 f0 T1 R1 f1) 1 tmB (tmS b p a w c) (onlyN fun s=>normS [] s) =
  (R0 [AV.agg (.ints .u64 c) 20]).bind fun t=>cond (decide (b=1)) ((R1 [AV.agg (.ints .u64 (f0 t)) 20,AV.agg (.ints .u64 p) 20,AV.agg (.ints .u64 w) 5]).bind fun u=>some (tmE p a w (f1 u))) (some (tmE p a w (f0 t))):=by kernel_rfl
end
theorem tm_out (p a w c:List Int) (fn:Func) (hf:fn.ntmps=24):inlOut fn 24 (tmE p a w c)=tmT p a w c:=by
 unfold inlOut
 rw [hf]
 rfl
theorem tm_ev8 (p a w c:List Int):acode prog ⟨⟨gam [],[],noE⟩,[]⟩ 1 tm8 (tmT p a w c) (onlyN fun s=>resAll prog s fF73.results.toList)=some [.s (.pl (.agg (.ints .u64 c) 20))]:=by kernel_rfl
set_option maxRecDepth 10000
theorem stepP_ok {p c:Pt} (hp:pOk p) (hc:pOk c) (b:Bool):pOk (stepP p c b):=by
 cases b
 ·exact dblP_ok hc
 ·exact addP_ok (dblP_ok hc) hp d2_ok
theorem timesF_ok {p:Pt} (hp:pOk p):∀ (l:List Bool) {c:Pt},pOk c->pOk (l.foldl (stepP p) c)
 | [],_,hc=>hc
 | b :: r,_,hc=>timesF_ok hp r (stepP_ok hp hc b)
theorem timesP_ok {p:Pt} (hp:pOk p) (l:List Bool):pOk (timesP p l):=timesF_ok hp l neut_ok
theorem timesP_app (p:Pt) (l:List Bool) (x:Bool):timesP p (l++[x])=stepP p (timesP p l) x:=by
 simp [timesP,List.foldl_append]
section
variable {P:Program} {B:Bs} {w0 w:World} {ρ:Plc} {s:St} {a:Act} {β:Type} {r:β} {g:Cg} {fu:Nat} {n:Nat} {ro:Option Nat} {Q:Exit->Act->World->Prop}
theorem wpIn_onlyN {x:Code} {F:St->Option β} (hm:P.follows .mixedOrders=true) (hΓ:CfOk P g.c) (hs:Rel B w0 ρ s a w) (h:acode P g fu x s (onlyN F)=some r)
  (hn:∀ s' a' w' ρ',F s'=some r->Rel B w0 ρ' s' a' w'->Q .normal a' w'):x.wpIn (Fw ro) n P Q a w:=by
 refine acode_soundIn hm hΓ x hs h fun e s' a' w' ρ' h' hs'=>?_
 cases e with
 | normal=>exact hn s' a' w' ρ' h' hs'
 | exit id=>simp [onlyN] at h'
 | ret=>simp [onlyN] at h'
theorem wpIn_seqN {x y:Code} {F:St->Option β} (hm:P.follows .mixedOrders=true) (hΓ:CfOk P g.c) (hs:Rel B w0 ρ s a w) (h:acode P g fu x s (onlyN F)=some r)
  (hn:∀ s' a' w' ρ',F s'=some r->Rel B w0 ρ' s' a' w'->y.wpIn (Fw ro) n P Q a' w'):(Code.seq x y).wpIn (Fw ro) n P Q a w :=
 wpIn_seq (wpIn_onlyN hm hΓ hs h hn)
theorem Rel.keepsFrom {w':World} (h:Rel B w0 ρ s a w) {Bx:List Value} {Bd:List Deferred} {BX:Nat->Prop} (hb:BelowM ⟨w.heap.size,BX,Bx,fun k=>∃ id x,ρ id=some x /\ x.r=k,Bd⟩ w w') :
  ∀ (k:Nat) (o:Obj),w.heap[k]?=some o->o.isCells=false->w'.heap[k]?=some o:=by
 intro k o hk ho
 refine (hb.block k (Array.getElem?_eq_some_iff.1 hk).1 ?_).trans hk
 rintro ⟨id,x,hx,rfl⟩
 obtain ⟨b,_,⟨cs,fz,q1,_⟩,_⟩:=h.blk id x hx
 rw [hk] at q1; cases q1; cases ho
end
theorem look_tmTr (t:Nat):look tmTr t=look tmTm t:=by
 simp only [tmTr,tmTm,look_cons,look_nil]
 by_cases h1:(2:Nat)=t
 ·subst h1; rfl
 by_cases h2:(4:Nat)=t
 ·subst h2; rfl
 by_cases h3:(5:Nat)=t
 ·subst h3; rfl
 by_cases h4:(6:Nat)=t
 ·subst h4; rfl
 by_cases h5:(13:Nat)=t
 ·subst h5; rfl
 rw [beqF h1,beqF h2,beqF h3,beqF h4,beqF h5]; rfl
theorem tmS_low {b:Int} {p al w c:List Int} {t:Nat} (ht:t < 24) (h7:t ≠ 7) (h14:t ≠ 14):(tmS b p al w c).get t=(tmT p al w c).get t:=by
 show (match look ((14,AV.int .u64 b) :: (7,AV.int .u64 b) :: (tmTm++shiftT 24 tmTr)) t with | some v=>v | none=>.junk)=(match look tmTm t with | some v=>v | none=>.junk)
 rw [look_cons,look_cons,beqF (Ne.symm h14),beqF (Ne.symm h7),look_app,look_shiftT,if_neg (by omega)]
 cases look tmTm t <;> rfl
theorem tmS_high {b:Int} {p al w c:List Int} (t:Nat):(tmS b p al w c).get (t+24)=(tmT p al w c).get t:=by
 show (match look ((14,AV.int .u64 b) :: (7,AV.int .u64 b) :: (tmTm++shiftT 24 tmTr)) (t+24) with | some v=>v | none=>.junk)=(match look tmTm t with | some v=>v | none=>.junk)
 have hn:look tmTm (t+24)=none:=by
  simp only [tmTm,look_cons,look_nil]
  rw [beqF (by omega),beqF (by omega),beqF (by omega),beqF (by omega),beqF (by omega)]; rfl
 rw [look_cons,look_cons,beqF (by omega),beqF (by omega),look_app,hn,look_shiftT,if_pos (by omega)]
 simp only [Nat.add_sub_cancel,look_tmTr]
 rfl
def bitV (x:Bool):Value:=.int .u64 (cond x 1 0)
def actR (a:Act) (x:Bool):Act:={ tmps:=(a.tmps.setIfInBounds 14 (bitV x)).setIfInBounds 7 (bitV x),defers:=[] }
section
variable {B:Bs} {w0 W:World} {ρ:Plc} {a:Act} {n l:Nat}
theorem getD_setT {ts:Array Value} {i t:Nat} {v:Value} (hi:i < ts.size):(ts.setIfInBounds i v).getD t undef=if t=i then v else ts.getD t undef:=by
 simp only [Array.getD]
 by_cases h:t=i
 ·subst h
  simp [hi]
 ·rw [if_neg h]
  by_cases h2:t < ts.size
  ·simp [h2,Array.getElem_setIfInBounds,Ne.symm h]
  ·simp [h2]
theorem tm_round {p al w c:List Int} (hs:Rel B w0 ρ (tmT p al w c) a W) (x:Bool):Rel (B.in a) w0 ρ (tmS (cond x 1 0) p al w c) (actR a x) W:=by
 have hsz:a.tmps.size=24:=hs.size
 refine Rel.round hs (by simp [actR]; exact hs.size) rfl rfl rfl rfl (fun t ht=>?_) (fun t=>tmS_high t)
 have ht:t < 24:=ht
 have hgd:(actR a x).tmps.getD t undef=if t=7 then bitV x else if t=14 then bitV x else a.tmps.getD t undef:=by
  show ((a.tmps.setIfInBounds 14 (bitV x)).setIfInBounds 7 (bitV x)).getD t undef=_
  rw [getD_setT (by simp; omega),getD_setT (by omega)]
 rw [hgd]
 by_cases h7:t=7
 ·subst h7
  rw [if_pos rfl]
  exact ⟨intV _ _ _ _,fun id hid=>by have hid:id ∈ ([]:List Nat):=hid; cases hid⟩
 by_cases h14:t=14
 ·subst h14
  rw [if_neg (by omega),if_pos rfl]
  exact ⟨intV _ _ _ _,fun id hid=>by have hid:id ∈ ([]:List Nat):=hid; cases hid⟩
 rw [if_neg h7,if_neg h14,tmS_low ht h7 h14]
 have h1:=hs.tm t
 rw [slot_lt (by rw [hsz]; exact ht)] at h1
 exact ⟨h1,fun id hid=>hs.rt t id hid⟩
theorem gokT1:∀ f A,gam [(nF113,⟨rDbl,fun t=>.agg (.ints .u64 (rowP t)) 20⟩),(nF101,⟨radd,fun t=>.agg (.ints .u64 (rowP t)) 20⟩)] f=some A->CallOk prog f A :=
 gam_cons ok_Dbl (gam_cons ok_add gam_nil)
theorem tm_body {p c:Pt} {al:List Int} {R:Exit->Act->World->Prop} (hs:Rel B w0 ρ (tmT (rowP p) al (rowF d2F) (rowP c)) a W) (hp:pOk p) (hc:pOk c) (x:Bool)
  (hR:∀ a' W' ρ',Rel B w0 ρ' (tmT (rowP p) al (rowF d2F) (rowP (stepP p c x))) a W'->W.heap.size <= W'.heap.size->(∀ (k:Nat) (o:Obj),W.heap[k]?=some o->o.isCells=false->W'.heap[k]?=some o)->R .normal a' W') :
  tmB.wpIn (Fw (some l)) n prog R (actR a x) W:=by
 have h1:=tm_round hs x
 have hev:acode prog (g_T1 Pt rDbl rowP Pt radd rowP) 1 tmB (tmS (cond x 1 0) (rowP p) al (rowF d2F) (rowP c)) (onlyN fun s=>normS [] s)=some (tmE (rowP p) al (rowF d2F) (rowP (stepP p c x))):=by
  rw [tm_evB]
  have q1:rDbl [AV.agg (.ints .u64 (rowP c)) 20]=some (dblP c):=run_Dbl hc
  have q2:radd [AV.agg (.ints .u64 (rowP (dblP c))) 20,AV.agg (.ints .u64 (rowP p)) 20,AV.agg (.ints .u64 (rowF d2F)) 5]=some (addP (dblP c) p d2F):=run_add (dblP_ok hc) hp d2_ok
  rw [q1,Option.bind_some]
  cases x
  ·rfl
  ·show (cond true _ _)=_
   rw [cond_true,q2,Option.bind_some]; rfl
 refine wpIn_onlyN mixed ⟨gokT1,fun k F hF=>by cases hF⟩ h1.now hev fun s' a' W' ρ' hn hs'=>?_
 obtain ⟨ρ2,h2⟩:=normS_ok hs' hn
 have h3:=h1.then h2
 have h4:=hs.back (fn:=fF73) h3 (by kernel_rfl)
 rw [show (tmT (rowP p) al (rowF d2F) (rowP c)).sz=24 from rfl,tm_out _ _ _ _ _ (by kernel_rfl)] at h4
 exact hR a' W' ρ2 h4 h2.below.size (hs.keepsFrom h2.below)
theorem gokT0:∀ f A,gam [(nF36,⟨rCD,fun t=>.agg (.ints .u64 (rowF dF)) 5⟩),(nF41,⟨rFAdd,fun t=>.agg (.ints .u64 (rowF t)) 5⟩),(nF98,⟨rNeut,fun t=>.agg (.ints .u64 (rowP t)) 20⟩)] f=some A->CallOk prog f A :=
 gam_cons ok_CD (gam_cons ok_FAdd (gam_cons ok_Neut gam_nil))
theorem efB_ok:∀ f F,efB f=some F->EffOk prog f F :=
 efs_cons (inl_ok mixed ⟨gam_nil,fun k F hF=>by cases hF⟩ hF112 (by kernel_rfl)) efs_nil
theorem tm_cap {p al w c:List Int} (hal:al.length=8) (hs:Rel B w0 ρ (tmT p al w c) a W):∃ rA,a.tmps.getD 13 undef=.func (.func 141) #[] #[.pointer (some ⟨rA,0,none⟩)] /\ HasA rA al W:=by
 have h1:=hs.tm 13
 have hsz:a.tmps.size=24:=hs.size
 rw [slot_lt (by rw [hsz]; omega)] at h1
 have h1:AVR W ρ (AV.s (SV.clop 141 [(0,0,8)])) (a.tmps.getD 13 undef):=h1
 obtain ⟨vs,e,hv⟩:=h1
 match vs,hv with
 | [v],⟨⟨x,hx,hn,hv⟩,_⟩=>
  refine ⟨x.r,by rw [e,hv],?_⟩
  obtain ⟨b,hb,hb2⟩:=hs.blk 0 x hx
  have hbe:b={ ty:=29,n:=8,row:=Row.t (TRow.ints u64 al) }:=by
   have:look (tmHp p al w c) 0=some b:=hb
   simp only [tmHp,look_cons] at this
   cases this; rfl
  subst hbe
  refine ⟨?_,(hs.base 0 x hx).2⟩
  obtain ⟨⟨cs,fz,q1,q2,q3,q4⟩,q5⟩:=hb2
  intro i v hi
  have q4:cs.toList.take _=(TRow.ints u64 al).cells:=q4
  have hi2:=hi
  rw [<-q4,List.getElem?_take] at hi2
  simp only [World.cell?,q1,Nat.zero_add]
  split at hi2
  ·simpa using hi2
  ·cases hi2
end
set_option maxRecDepth 10000
def tmRF:Code:=.rangeFunc (.tmp 13) #[14] tmA tmB
theorem tm_code:codeF fF73=.seq tm0 (.seq tm1 (.seq tm2 (.seq (.seq tm3 (.block 0 tmRF)) (.seq tm8 .ret)))):=by kernel_rfl
section
variable {B:Bs} {w0 W:World} {ρ:Plc} {a:Act} {n l:Nat}
def tmO:Oper:=match tmA with | .region _ ops _=>ops.getD 0 default | _=>default
theorem tmA_eq:∃ id o,tmA=.region id #[o] false /\ o.guard=none /\ opMove o.op=some (.tmp 14) /\ o.dst=some 7:=by
 refine ⟨4,tmO,by kernel_rfl,by kernel_rfl,by kernel_rfl,by kernel_rfl⟩
theorem tm_assign {K:Act->World->Prop} (hsz:a.tmps.size=24) (x:Bool) (hK:K (actR a x) W) :
  tmA.wpIn ((Fw none).inRound l) n prog (Exit.then K (fun _ _ _=>False)) { tmps:=((#[14]:Array Tmp).zip (encB1 x)).foldl (fun t (p,v)=>t.setIfInBounds p v) a.tmps,defers:=[] } W:=by
 obtain ⟨id,o,e,h1,h2,h3⟩:=tmA_eq
 rw [e]
 have e2:((#[14]:Array Tmp).zip (encB1 x)).foldl (fun t (p,v)=>t.setIfInBounds p v) a.tmps=a.tmps.setIfInBounds 14 (bitV x):=by kernel_rfl
 rw [e2]
 show (Code.region id #[o] false).wpIn (Fw (some l)) n prog _ _ W
 refine wpIn_region_list ?_
 refine st_move (a':=actR a x) hK h1 h2 ?_
 rw [h3]
 have e3:(({ tmps:=a.tmps.setIfInBounds 14 (bitV x),defers:=[] }:Act)).eval (.tmp 14)=bitV x:=by
  show (a.tmps.setIfInBounds 14 (bitV x)).getD 14 undef=bitV x
  rw [getD_setT (by omega),if_pos rfl]
 rw [e3]; rfl
theorem tm_loop {p:Pt} {al:List Int} {Q:Exit->Act->World->Prop} (hn:1 <= n) (hp:pOk p) (ha:ok8 al=true) (hs:Rel B w0 ρ (tmT (rowP p) al (rowF d2F) (rowP neutP)) a W)
  (hQ:∀ D W' ρ',W.heap.size <= D->W'.heap[D]?=some (.deferred (some []))->Rel B w0 ρ' (tmT (rowP p) al (rowF d2F) (rowP (timesP p (bitsDn (val al) 253)))) a W'->Q .normal { a with defers:={ target:=.collected D,args:=#[] } :: a.defers } W') :
  tmRF.wpIn (Fw none) n prog Q a W:=by
 have hsz:a.tmps.size=24:=hs.size
 have hal:al.length=8:=by
  obtain ⟨a0,a1,a2,a3,a4,a5,a6,a7,rfl⟩:=list8 ha
  rfl
 obtain ⟨rA,hv,hA⟩:=tm_cap hal hs
 refine wpIn_rangeFunc_ownG (gf:=141) (lb:=#[.pointer (some ⟨rA,0,none⟩)]) rfl hn hv trivial (fun args w=>run_enter (c:=codeF fF141) hF141 (by kernel_rfl) (by kernel_rfl) args w)
  (bits_seq ha hA) (fun h1 h2 h=>h2 (h1 h)) (fun W1 l o o' hl ho h1 h2 h=>?_) (Below.refl _ _) (fun x=>rfl)
  (fun xs W1=>∃ ρ1,Rel B w0 ρ1 (tmT (rowP p) al (rowF d2F) (rowP (timesP p xs))) a W1) (fun _ _ _=>False) ?_ (fun c s W1 W2 row h=>h.elim) ⟨ρ,hs⟩ (actR a) ?_ ?_ ?_ (fun D c pre W1 _ _ h=>h.elim)
 ·refine h.keep ?_ ?_
  ·have hne:rA ≠ l:=by
    rintro rfl
    have:=h.1 0
    have h0:(TRow.ints u64 al).cells[0]?=some (.int .u64 (al[0]'(by omega))):=by simp [TRow.cells]
    have:=this _ h0
    simp only [World.cell?,ho] at this
    cases o <;> simp_all [Obj.isCells]
   simp [World.putObj,Array.getElem?_setIfInBounds,Ne.symm hne]
  ·simp [World.putObj]
 ·rintro xs W1 W2 row ⟨ρ1,h1⟩ hg hr
  exact ⟨ρ1,h1.grown hs.B_le hg hr⟩
 ·intro l x W1 K hK
  exact tm_assign hsz x hK
 ·rintro l pre x W1 ⟨ρ1,h1⟩ _
  refine tm_body h1 hp (timesP_ok hp pre) x fun a' W' ρ' h2 h3 h4=>?_
  refine ⟨⟨h3,fun k o _ hk ho=>h4 k o hk ho⟩,fun _=>?_,ρ',by rw [timesP_app]; exact h2⟩
  obtain ⟨rB,hv2,hB⟩:=tm_cap hal h2
  rw [hv] at hv2
  cases hv2
  exact hB
 ·rintro D xs W1 hD rfl ⟨ρ1,h1⟩ hW1
  exact hQ D W1 ρ1 hD hW1 h1
end
set_option maxRecDepth 10000
section
variable {B:Bs} {w0 W w:World} {ρ:Plc} {s:St} {a:Act} {n l:Nat}
def Bs.dd (B:Bs) (ds:List Deferred):Bs:=⟨B.n,B.X,B.ext,B.M,ds⟩
theorem Rel.dd (h:Rel B w0 ρ s a W) (d:Deferred):Rel (B.dd (d :: B.ds)) w0 ρ s { a with defers:=d :: a.defers } W :=
 ⟨h.tm,h.blk,h.lt,h.inj,h.base,h.size,by rw [h.df]; rfl,⟨h.below.os,h.below.tape,h.below.output,h.below.size,h.below.block,h.below.shape⟩,h.b0,h.rt,h.rb,h.gh,h.ob,h.ox⟩
theorem tm_tail {X:Nat->Prop} {p:Pt} {al c:List Int} {fn:Func} {D:Nat} (hfn:fn=fF73) (hX:∀ b,X b->b < w.heap.size) (hs:Rel ⟨w.heap.size,X,[],fun _=>False,[]⟩ w ρ (tmT (rowP p) al (rowF d2F) c) a W) (hD:W.heap[D]?=some (.deferred (some []))) (hD2:w.heap.size <= D) :
  (Code.seq tm8 .ret).wpIn (Fw none) n prog (bodyPostM (Fw none) n prog fn fun e w'=>∃ v,e=.returned v /\ AVR w' (P0 X) (.agg (.ints .u64 c) 20) v /\ (AV.agg (.ints .u64 c) 20).refs=[] /\ Below w.heap.size w w')
   {a with defers:={ target:=.collected D,args:=#[] } :: a.defers } W:=by
 subst hfn
 have h1:=hs.dd { target:=.collected D,args:=#[] }
 refine wpIn_seqN mixed ⟨gam_nil,fun k F hF=>by cases hF⟩ h1.now (tm_ev8 (rowP p) al (rowF d2F) c) fun s' a' W' ρ' hn hs'=>?_
 refine wpIn_ret ?_
 have hD':W'.heap[D]?=some (.deferred (some [])):=h1.keepsFrom hs'.below D _ hD rfl
 have h3:=h1.then hs'
 have h4:Rel _ w ρ' s' a' (W'.putObj D (.deferred none)):=h3.grown (row:=some D) (n₁:=w.heap.size) (Nat.le_refl _) (grownBy_putObj' W' D _) (fun r e=>by cases e; exact ⟨hD2,_,hD',rfl⟩)
 have hL:Lend ρ' (P0 X):=⟨fun id x hx=>⟨fun _ _ h=>by simp [P0] at h,fun hb=>by
   have h2:=hX _ hb
   rcases (h4.base id x hx).1 with h1 | h1
   ·have h1:w.heap.size <= x.r:=h1
    omega
   ·exact h1⟩,fun b hb=>⟨fun _ _ h=>by simp [P0] at h,fun hx=>hb.2 (h4.ox b hx)⟩⟩
 obtain ⟨vs',q1,q2,q3⟩:=resAll_ok h4 hL hn
 have hdf:a'.defers=[{ target:=.collected D,args:=#[] }]:=h3.df
 show LeavesInM (Fw none) n prog fF73 a'.tmps _ a'.defers .returning W'
 rw [hdf]
 refine ⟨by simp,.inl ⟨D,_,rfl,run_takeDeferred hD',?_⟩⟩
 exact ⟨_,results_run q1,_,rfl,oneOr_ok q2,oneOr_refs q3,h4.below.below fun _ h=>h⟩
end
theorem runPS_ok {T:Type} {F:Pt->List Int->T} {args:List AV} {t:T} (h:runPS F args=some t):∃ p a,args=[eP p,W8 a] /\ pOk p /\ ok8 a=true /\ t=F p a:=by
 unfold runPS at h
 split at h
 ·obtain ⟨h1,h2⟩:=ctrueS h
  simp only [Bool.and_eq_true] at h1
  obtain ⟨x,rfl,rfl,rfl,rfl,rfl,hx,ex⟩:=inF_ok h1.1.1
  obtain ⟨y,rfl,rfl,rfl,rfl,rfl,hy,ey⟩:=inF_ok h1.1.2.1
  obtain ⟨z,rfl,rfl,rfl,rfl,rfl,hz,ez⟩:=inF_ok h1.1.2.2.1
  obtain ⟨w,rfl,rfl,rfl,rfl,rfl,hw,ew⟩:=inF_ok h1.1.2.2.2
  rw [ex,ey,ez,ew] at h2
  exact ⟨⟨x,y,z,w⟩,_,rfl,⟨hx,hy,hz,hw⟩,h1.2,h2.symm⟩
 ·cases h
theorem run_PS {T:Type} (F:Pt->List Int->T) {p:Pt} {a:List Int} (h:pOk p) (k:ok8 a=true):runPS F [eP p,W8 a]=some (F p a):=by
 obtain ⟨x,y,z,w⟩:=p
 obtain ⟨h1,h2,h3,h4⟩:=h
 simp only [runPS,eP,W8]
 rw [inF_of h1,inF_of h2,inF_of h3,inF_of h4,k]; rfl
theorem ok_Times:CallOk prog nF73 sTimes:=by
 intro args t ht w X vs hX hargs
 obtain ⟨p,al,rfl,hp,ha,rfl⟩:=runPS_ok (F:=fun p a=>timesP p (bitsDn (val a) 253)) ht
 refine .inr ⟨run_enter (c:=codeF fF73) hF73 (by kernel_rfl) (by kernel_rfl) _ _,?_⟩
 refine callsIn_wide (n:=3) |>.1 (callsIn_of_wp_marks (F:=Fw none) hF73 (c:=codeF fF73) (by kernel_rfl) trivial ?_)
 rw [tm_code]
 have hnt:fF73.ntmps=24:=by kernel_rfl
 have hs:=Rel.start (fn:=fF73) hX hargs rfl (by rw [hnt]; show 2 <= 24; omega)
 rw [hnt] at hs ⊢
 have hev:=tm_ev0 Unit rCD (fun _=>rowF dF) Fe rFAdd rowF Pt rNeut rowP (rowP p) al
 have q1:rFAdd [AV.agg (.ints .u64 (rowF dF)) 5,AV.agg (.ints .u64 (rowF dF)) 5]=some d2F:=run_FAdd dF_ok dF_ok
 rw [show rCD []=some () from rfl,Option.bind_some,Option.bind_some,q1,Option.bind_some,run_Neut,Option.bind_some] at hev
 refine wpIn_seqN mixed ⟨gokT0,efB_ok⟩ hs hev fun s1 a1 W1 ρ1 h1 r1=>?_
 refine wpIn_seqN mixed ⟨gokT0,efB_ok⟩ r1 h1 fun s2 a2 W2 ρ2 h2 r2=>?_
 refine wpIn_seqN mixed ⟨gokT0,efB_ok⟩ r2 h2 fun s3 a3 W3 ρ3 h3 r3=>?_
 refine wpIn_seq (wpIn_seqN mixed ⟨gokT0,efB_ok⟩ r3 h3 fun s4 a4 W4 ρ4 h4 r4=>?_)
 obtain ⟨ρ5,r5⟩:=normS_ok r4 h4
 refine wpIn_block (tm_loop (by omega) hp ha r5 fun D W' ρ' hD hD2 r6=>?_)
 exact tm_tail rfl hX r6 hD2 (Nat.le_trans r5.below.size hD)
theorem run_Times {p:Pt} {a:List Int} (h:pOk p) (k:ok8 a=true):rTimes [eP p,W8 a]=some (timesP p (bitsDn (val a) 253)):=by
 simp only [rTimes,sTimes]; exact run_PS _ h k
end
end Go.Eng
