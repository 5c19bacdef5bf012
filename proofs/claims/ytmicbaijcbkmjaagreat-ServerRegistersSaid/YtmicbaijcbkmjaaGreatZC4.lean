import Derived.RangeFuncLeaves
import Derived.RangeFuncWrites
import Derived.Test.YtmicbaijcbkmjaaGreatZC3
import Derived.Test.YtmicbaijcbkmjaaGreatZE6
namespace Go.Eng
open Go.IntKind (u64 i64 u8)
noncomputable section
open Go Go.Proofs
set_option linter.all false
def zT (x:Fe):List Int:=[(x.a:Int),x.b,x.c,x.d,x.e]
def oJ (p:Pt):List Int:=[(p.x.a:Int),p.x.b,p.x.c,p.x.d,p.x.e,p.y.a,p.y.b,p.y.c,p.y.d,p.y.e,p.z.a,p.z.b,p.z.c,p.z.d,p.z.e,p.t.a,p.t.b,p.t.c,p.t.d,p.t.e]
def rR (A i:Nat):Bool:=Nat.beq (A / 2 ^ i%2) 1
def fQ (A:Nat):Nat->List Bool
 | 0=>[]
 | i+1=>rR A i :: fQ A i
def yZ (p:Pt) (c:Pt) (b:Bool):Pt:=cond b (CU (Gm c) p E4) (Gm c)
def kK (p:Pt) (l:List Bool):Pt:=l.foldl (yZ p) gZ
def Pz {T:Type} (F:Pt->List Int->T):FA T
 | [.c (.s (.pl (.agg (.ints .u64 [a,b,c,d,e,f,g,h,i,j,k,l,m,n,o,p,q,r,s,t]) 20))),.c (.s (.pl (.agg (.ints .u64 u) 8)))]=>
  cond (wZ a b c d e && (wZ f g h i j && (wZ k l m n o && wZ p q r s t)) && jO u) (some (F ⟨xS a b c d e,xS f g h i j,xS k l m n o,xS p q r s t⟩ u)) none
 | _=>none
def ID:Summ:={ T:=Pt,run:=Pz λ p a=>kK p (fQ (val a) 253),enc:=eP }
def MX:FA Pt:=ID.run
open Go Go.Proofs Go.RowKit
set_option maxRecDepth 10000
section
variable {P:Program} {a:Act} {w w':World} {ρ:Plc} {o:Oper} {ops:Array Oper} {rest:List Oper} {Q:Exit->Act->World->Prop} {F:Fence} {n:Nat} {ro:Option Nat}
theorem vU {v:Value} (hg:o.guard=none) (hnd:∀ c,o.op ≠ .defer c) (hr:(execOp a.eval o).run P w=.ok (.value v) w') (h:wpListIn (Fw ro) n P ops Q rest (a.put o.dst v) w') :
  wpListIn (Fw ro) n P ops Q (o :: rest) a w:=by
 refine wpListIn_plain hg λ K hK=>nC hnd ?_;rw [hr,Oper.uponIn_value];exact hK _ _ h
theorem aIO {op:BinOp} {T:TypeId} {xo yo:Operand} {yt:TypeId} {x y av:AV} (ho:o.op=.binOp op T xo yo yt) (hx:AVR w ρ x (a.eval xo)) (hy:AVR w ρ y (a.eval yo)) (h:JI P T op x y some=some av) :
  ∃ v,AVR w ρ av v /\ (execOp a.eval o).run P w=.ok (.value v) w:=by
 obtain ⟨av',z,q1,q2,q3,q4⟩:=Ci hx hy h;cases q1;exact ⟨z,q3,by simp only [execOp,ho]; exact i5 (q4 xo yo)⟩
theorem Rel.tiny {l:List (Nat × AV)} {sz:Nat} (hsz:a.tmps.size=sz) (hB:a.defers=[]) (h:∀ t,AVR w (P0 λ _=>False) (match bU l t with | some v=>v | none=>.junk) (AM ⟨w.heap.size,λ _=>False,[],λ _=>False,[]⟩ a t)) (hr:∀ p ∈ l,p.2.refs=[]) :
  Rel ⟨w.heap.size,λ _=>False,[],λ _=>False,[]⟩ w (P0 λ _=>False) ⟨l,[],0,sz⟩ a w:=by
 have key:∀ (t:Nat),(match bU l t with | some v=>v | none=>AV.junk).refs=[]:=by
  intro t;clear h
  induction l with
  | nil=>rfl
  | cons p r ih=>
   obtain ⟨i,v⟩:=p;rw [bH];cases Nat.beq i t
   ·exact ih (λ p hp=>hr p (by simp [hp]))
   ·exact hr (i,v) (by simp)
 exact ⟨h,λ id x hx=>by simp [P0] at hx,λ id x hx=>by simp [P0] at hx,λ i j x y hx=>by simp [P0] at hx,λ id x hx=>by simp [P0] at hx,hsz,hB,BelowM.refl _ _,bV _,
  λ t id hid=>by
   have h2:id ∈ (match bU l t with | some v=>v | none=>AV.junk).refs:=hid;rw [key t] at h2; simp at h2,
  λ i b hb=>by simp [bZ] at hb,λ i b hb=>by simp [bZ] at hb,λ b hb=>hb.elim,λ b hb=>hb⟩
end
def IE:Op->Option Operand
 | .move x=>some x
 | .assign x=>some x
 | _=>none
def aOd:Op->Option (BinOp × TypeId × Operand × Operand)
 | .binOp op T x y _=>some (op,T,x,y)
 | _=>none
def aRz:Op->Option (UnOp × Operand)
 | .unOp op _ x=>some (op,x)
 | _=>none
def Ew:Op->Option (Operand × List Operand)
 | .call ⟨.value f,args,_⟩=>some (f,args.toList)
 | _=>none
section
variable {P:Program} {a a':Act} {w w':World} {ρ:Plc} {o:Oper} {ops:Array Oper} {rest:List Oper} {Q:Exit->Act->World->Prop} {n:Nat} {ro:Option Nat}
theorem MY (w:World) (ρ:Plc) (k:IntKind) (i:Int):AVR w ρ (.int k i) (.int k i):=⟨rfl,λ _ _ e=>by cases e⟩
theorem Vc {b:Bool}:∀ v,AVR w ρ (.bool b) v->v=.bool b:=λ v h=>h.1
theorem tX {x:Operand} (hn:wpListIn (Fw ro) n P ops Q rest a' w) (hg:o.guard=none) (ho:IE o.op=some x) (hp:a.put o.dst (a.eval x)=a'):wpListIn (Fw ro) n P ops Q (o :: rest) a w:=by
 subst hp;unfold IE at ho;split at ho <;> rename_i hop
 ·cases ho; exact vU hg (by rw [hop]; simp) (by simp [execOp,hop]) hn
 ·cases ho; exact vU hg (by rw [hop]; simp) (by simp [execOp,hop]) hn
 ·cases ho
theorem S6 {op:BinOp} {T:TypeId} {xo yo:Operand} {vx vy:Value} {x y av:AV} {z:Value} (hn:wpListIn (Fw ro) n P ops Q rest a' w) (hx:AVR w ρ x vx) (hy:AVR w ρ y vy) (hv:∀ v,AVR w ρ av v->v=z)
  (h:JI P T op x y some=some av) (hg:o.guard=none) (ho:aOd o.op=some (op,T,xo,yo)) (hxe:a.eval xo=vx) (hye:a.eval yo=vy) (hp:a.put o.dst z=a'):wpListIn (Fw ro) n P ops Q (o :: rest) a w:=by
 subst hp hxe hye;unfold aOd at ho;split at ho
 ·rename_i hop;cases ho;obtain ⟨v,h1,h2⟩:=aIO hop hx hy h;have:=hv v h1;subst this;exact vU hg (by rw [hop]; simp) h2 hn
 ·cases ho
theorem aOe {op:UnOp} {xo:Operand} {vx:Value} {x av:AV} {z:Value} (hn:wpListIn (Fw ro) n P ops Q rest a' w) (hx:AVR w ρ x vx) (hv:∀ v,AVR w ρ av v->v=z)
  (h:aUn op x some=some av) (hg:o.guard=none) (ho:aRz o.op=some (op,xo)) (hxe:a.eval xo=vx) (hp:a.put o.dst z=a'):wpListIn (Fw ro) n P ops Q (o :: rest) a w:=by
 subst hp hxe;unfold aRz at ho;split at ho
 ·rename_i hop;cases ho;obtain ⟨av',v,q1,q2,q3,q4⟩:=FI (P:=P) hx h;cases q1;have:=hv v q3;subst this;exact vU hg (by rw [hop]; simp) (by simp only [execOp,hop]; exact i5 q4) hn
 ·cases ho
theorem aIP {g:Nat} {A:Summ} {args:List Operand} {xs:List AV} {t:A.T} {vs:List Value} (hA:CallOk P g A) (ht:A.run xs=some t) (hx:AVRs w (P0 λ _=>False) xs vs)
  (hn:∀ v w',AVR w' (P0 λ _=>False) (A.enc t) v->Below w.heap.size w w'->wpListIn (Fw ro) n P ops Q rest (a.put o.dst v) w')
  (hg:o.guard=none) (ho:Ew o.op=some (.func g,args)) (hvs:args.map a.eval=vs):wpListIn (Fw ro) n P ops Q (o :: rest) a w:=by
 subst hvs;unfold Ew at ho;split at ho
 ·rename_i f ar ats hop;cases ho;refine wpListIn_plain hg λ K hK=>nC (by intro c hc; rw [hop] at hc; cases hc) ?_;have hop2:(execOp a.eval o).run P w=(callFunc g (ar.toList.map a.eval).toArray).run P w:=by
   have e:ar.map a.eval=(ar.toList.map a.eval).toArray:=by rw [<-Array.toList_map,Array.toArray_toList]
   have ef:a.eval (.func g)=.func (.func g) #[] #[]:=rfl;simp only [execOp,hop,resolve,ef,Deferred.ofValue,e,Sem.run_bind,Sem.run_pure,Result.andThen_ok,invoke];simp
  rw [hop2];rcases hA xs t ht w (λ _=>False) _ (λ _ h=>h.elim) hx with ⟨v,w',hr,h1,_,h2⟩ | ⟨hr,hc⟩
  ·rw [hr,Oper.uponIn_value];exact hK _ _ (hn v w' h1 h2)
  ·rw [hr,Oper.uponIn_enter];refine ⟨sT,(Calls.fw hc).mono λ e w' he=>?_⟩;obtain ⟨v,rfl,h1,_,h2⟩:=he;exact hK _ _ (hn v w' h1 h2)
 ·cases ho
theorem aBU {l m:Nat} {f:Operand} {args:List Operand} {R:Ending->World->Prop} {vs:Array Value} (hY:YieldAt (Fw ro) m P l vs w R)
  (hn:∀ e w',R e w'->∃ v,e=.returned v /\ wpListIn (Fw ro) n P ops Q rest (a.put o.dst v) w')
  (hg:o.guard=none) (ho:Ew o.op=some (f,args)) (hvs:(args.map a.eval).toArray=vs) (hf:a.eval f=.func (.yield l) #[] #[]):wpListIn (Fw ro) n P ops Q (o :: rest) a w:=by
 subst hvs;unfold Ew at ho;split at ho
 ·rename_i f' ar ats hop;cases ho;refine wpListIn_plain hg λ K hK=>nC (by intro c hc; rw [hop] at hc; cases hc) ?_;obtain ⟨fn,tmps,assign,body,hy,hR⟩:=hY;have hop2:(execOp a.eval o).run P w=(Instr.yield l (ar.toList.map a.eval).toArray).run P w:=by
   have e:ar.map a.eval=(ar.toList.map a.eval).toArray:=by rw [<-Array.toList_map,Array.toArray_toList]
   simp only [execOp,hop,resolve,hf,Deferred.ofValue,e,Sem.run_bind,Sem.run_pure,Result.andThen_ok,invoke];simp
  rw [hop2,hy,Oper.uponIn_round];refine ⟨sT,?_⟩;have hR2:RoundIn (Fw ro) (n - 1) P l fn tmps assign body w R:=⟨hR.1,λ c cs _=>hR.2 c cs (λ d hd=>by simp [Fw] at hd)⟩;refine hR2.mono λ e w' he=>?_;obtain ⟨v,rfl,h⟩:=hn e w' he;exact hK _ _ h
 ·cases ho
end
set_option maxRecDepth 10000
def sU (A m:Nat):Nat->List Bool
 | 0=>[]
 | k+1=>sU A m k++[rR A (m - 1 - k)]
theorem Y5 (A m:Nat):∀ k,k <= m->sU A m k++fQ A (m - k)=fQ A m:=by
 intro k
 induction k with
 | zero=>intro _; rfl
 | succ k ih=>
  intro hk;rw [<-ih (by omega),sU,lN];congr 1;rw [show m - k=(m - (k+1))+1 by omega,fQ,show m - (k+1)=m - 1 - k by omega];rfl
theorem S7 (A m:Nat):∀ k,(sU A m k).length=k:=by
 intro k
 induction k with
 | zero=>rfl
 | succ k ih=>rw [sU,i9,ih]; rfl
def IF (b:Bool):Array Value:=#[.int .u64 (cond b 1 0)]
theorem aBV (A i:Nat):(((A / 2 ^ i%2:Nat):Int))=cond (rR A i) 1 0:=by
 rw [rR];have h:A / 2 ^ i%2 < 2:=bK _ (by omega);generalize A / 2 ^ i%2=b at *
 match b,h with
 | 0,_=>rfl
 | 1,_=>rfl
def KH (y p v2:Value) (i:Int) (v4 v5 v6 v7 v8 v9 fP gF gU tR lQ:Value):Act:={ tmps:=#[y,p,v2,.int .i64 i,v4,v5,v6,v7,v8,v9,fP,gF,gU,tR,lQ],defers:=[] }
def HasA (rA:Nat) (a:List Int) (W:World):Prop:=RowAt W rA 0 (TRow.ints .u64 a).cells /\ rA < W.heap.size
def kpB (rA:Nat) (a:List Int) (W W':World):Prop:=HasA rA a W->HasA rA a W'
theorem HasA.keep {rA:Nat} {a:List Int} {W W':World} (h:HasA rA a W) (hk:W'.heap[rA]?=W.heap[rA]?) (hs:W.heap.size <= W'.heap.size):HasA rA a W' :=
 ⟨λ i v hv=>by rw [cell?_keep hk]; exact h.1 i v hv,cU h.2 hs⟩
def Vd:Code:=match bD Tryz.f158 with
 | .seq _ (.block _ (.loop x))=>x
 | c=>c
def aXv:Code:=match bD Tryz.f158 with
 | .seq x _=>x
 | c=>c
def bT0 (l rA:Nat):Act:={ tmps:=#[.func (.yield l) #[] #[],.pointer (some ⟨rA,0,none⟩),undef,undef,undef,undef,undef,undef,undef,undef,undef,undef,undef,undef,undef],defers:=[] }
theorem Y6:Tryz.f158.results.toList=[]:=by kernel_rfl
theorem P1 {w:World} (ts:Array Value):(results Tryz.f158 ts).run prog w=.ok (.tuple #[]) w :=
 kT (a:=⟨ts,[]⟩) (vs:=[]) (by rw [Y6]; rfl)
section
variable {n:Nat} {Q:Exit->Act->World->Prop} {K:Act->World->Prop} {W:World} {y p v2 v4 v5 v6 v7 v8 v9 fP gF gU tR lQ:Value}
theorem aBW {i:Int} (hi:i < 0) (h:Q (.exit 0) (KH y p v2 i (.int .i64 i) (.bool false) v6 v7 v8 v9 fP gF gU tR lQ) W):Vd.wpIn (Fw none) n prog (Exit.then K Q) (KH y p v2 i v4 v5 v6 v7 v8 v9 fP gF gU tR lQ) W:=by
 refine wpIn_seq (wpIn_seq (wpIn_region_list ?_));refine tX (x:=.tmp 3) (a':=KH y p v2 i (.int .i64 i) v5 v6 v7 v8 v9 fP gF gU tR lQ) ?_ (by kernel_rfl) (by kernel_rfl) (by kernel_rfl);refine S6 (ρ:=P0 λ _=>False) (op:=.geq) (T:=3) (xo:=.tmp 4) (yo:=.const (.int .i64 0)) (x:=.int .i64 i) (y:=.int .i64 0) (av:=.bool (decide (0 <= i))) (z:=.bool false) (a':=KH y p v2 i (.int .i64 i) (.bool false) v6 v7 v8 v9 fP gF gU tR lQ) ?_ (MY _ _ _ _) (MY _ _ _ _) (λ v h=>by rw [aH (by omega)] at h; exact h.1) (by kernel_rfl) (by kernel_rfl) (by kernel_rfl) (by kernel_rfl) (by kernel_rfl) (by kernel_rfl);exact wpIn_cond_false rfl (wpIn_exit h)
theorem P2 {a:List Int} (ha:jO a=true) {rA l m:Nat} {J Jx:List Bool->World->Prop} {n₀:Nat} (hJ:AbidesFrom n₀ J) {pre:List Bool} {i:Nat} (hi:i < 300) {ops:Array Oper} {Q:Exit->Act->World->Prop}
  {o1 o2 o3 o4 o5 o6 o7:Oper} {rest:List Oper}
  (h1:o1.guard=none /\ IE o1.op=some (.tmp 0) /\ o1.dst=some 8)
  (h2:o2.guard=none /\ o2.op=.fieldAddr 34 (.tmp 1) 0 /\ o2.dst=some 9)
  (h3:o3.guard=none /\ o3.op=.load 32 (.tmp 9) /\ o3.dst=some 10)
  (h4:o4.guard=none /\ IE o4.op=some (.tmp 3) /\ o4.dst=some 11)
  (h5:o5.guard=none /\ Ew o5.op=some (.func 90,[.tmp 10,.tmp 11]) /\ o5.dst=some 12)
  (h6:o6.guard=none /\ Ew o6.op=some (.tmp 8,[.tmp 12]) /\ o6.dst=some 13)
  (h7:o7.guard=none /\ aRz o7.op=some (.not,.tmp 13) /\ o7.dst=some 14)
  (hY:∀ W1,J pre W1->YieldAt (Fw none) m prog l (IF (rR (val a) i)) W1 λ e W'=>
   (e=.returned (.bool true) /\ J (pre++[rR (val a) i]) W' /\ kpB rA a W1 W') ∨ (e=.returned (.bool false) /\ Jx (pre++[rR (val a) i]) W'))
  (hW:HasA rA a W) (hJW:J pre W)
  (hK:∀ v9 fP W',J (pre++[rR (val a) i]) W'->HasA rA a W'->wpListIn (Fw none) n prog ops Q rest (KH (.func (.yield l) #[] #[]) (.pointer (some ⟨rA,0,none⟩)) v2 (i:Int) v4 v5 v6 v7 (.func (.yield l) #[] #[]) v9 fP (.int .i64 (i:Int)) (.int .u64 (cond (rR (val a) i) 1 0)) (.bool true) (.bool false)) W')
  (hQ:∀ v9 fP W',Jx (pre++[rR (val a) i]) W'->wpListIn (Fw none) n prog ops Q rest (KH (.func (.yield l) #[] #[]) (.pointer (some ⟨rA,0,none⟩)) v2 (i:Int) v4 v5 v6 v7 (.func (.yield l) #[] #[]) v9 fP (.int .i64 (i:Int)) (.int .u64 (cond (rR (val a) i) 1 0)) (.bool false) (.bool true)) W') :
  wpListIn (Fw none) n prog ops Q (o1 :: o2 :: o3 :: o4 :: o5 :: o6 :: o7 :: rest) (KH (.func (.yield l) #[] #[]) (.pointer (some ⟨rA,0,none⟩)) v2 (i:Int) v4 v5 v6 v7 v8 v9 fP gF gU tR lQ) W:=by
 refine tX (a':=KH (.func (.yield l) #[] #[]) (.pointer (some ⟨rA,0,none⟩)) v2 (i:Int) v4 v5 v6 v7 (.func (.yield l) #[] #[]) v9 fP gF gU tR lQ) ?_ h1.1 h1.2.1 (by rw [h1.2.2]; rfl);have hrow:=hW.1;have hsz:rA < W.heap.size:=hW.2;obtain ⟨a0,a1,a2,a3,a4,a5,a6,a7,rfl⟩:=wF ha;have hp:AVR W (P0 λ _=>False) (.s (.rptr (.ints .u64 [a0,a1,a2,a3,a4,a5,a6,a7]) 0 8)) (.pointer (some ⟨rA,0,none⟩)) :=
  ⟨bV _,rA,0,rfl,⟨λ _ _ h=>by simp [P0] at h,λ h=>h⟩,hrow,hsz⟩
 obtain ⟨av1,z1,q1,_,q3,q4⟩:=D3 (P:=prog) (S:=34) (f:=0) (K:=some) (r:=.s (.rptr (.ints .u64 [a0,a1,a2,a3,a4,a5,a6,a7]) 0 8)) hp (by kernel_rfl);cases q1;refine vU (v:=z1) h2.1 (by rw [h2.2.1]; intro c h; cases h) (by simp only [execOp,h2.2.1]; exact i5 q4) ?_;clear q4;rw [h2.2.2];have hs:=Rel.tiny (l:=[]) (sz:=15) (w:=W) (a:=KH (.func (.yield l) #[] #[]) (.pointer (some ⟨rA,0,none⟩)) v2 (i:Int) v4 v5 v6 v7 v8 v9 fP gF gU tR lQ) rfl rfl (λ t=>trivial) (by simp);obtain ⟨av2,z2,q1,_,q5,q6⟩:=qD (P:=prog) (T:=32) (K:=some) (r:=.agg (.ints .u64 [a0,a1,a2,a3,a4,a5,a6,a7]) 8) hs q3 (λ id hid=>by simp [AV.refs,CV.refs,SV.refs] at hid) (by kernel_rfl);cases q1;refine vU (v:=z2) h3.1 (by rw [h3.2.1]; intro c h; cases h) (by simp only [execOp,h3.2.1]; exact i5 q6) ?_;clear q6;rw [h3.2.2];refine tX (a':=KH (.func (.yield l) #[] #[]) (.pointer (some ⟨rA,0,none⟩)) v2 (i:Int) v4 v5 v6 v7 (.func (.yield l) #[] #[]) z1 z2 (.int .i64 (i:Int)) gU tR lQ) ?_ h4.1 h4.2.1 (by rw [h4.2.2]; kernel_rfl);have bt:=Vm ha (i:Int);have hbn:mH (val [a0,a1,a2,a3,a4,a5,a6,a7]) (i:Int)=val [a0,a1,a2,a3,a4,a5,a6,a7] / 2 ^ i%2:=by
  rw [mH,aH (by omega),aD,bE]
 rw [hbn] at bt;have bt':I4.run [W8 [a0,a1,a2,a3,a4,a5,a6,a7],.int .i64 (i:Int)]=some (val [a0,a1,a2,a3,a4,a5,a6,a7] / 2 ^ i%2):=bt;have hx:AVRs W (P0 λ _=>False) [W8 [a0,a1,a2,a3,a4,a5,a6,a7],.int .i64 (i:Int)] [z2,.int .i64 (i:Int)]:=⟨q5,MY _ _ _ _,trivial⟩;have hbv:=aBV (val [a0,a1,a2,a3,a4,a5,a6,a7]) i;refine aIP (A:=I4) (vs:=[z2,.int .i64 (i:Int)]) Ng bt' hx ?_ h5.1 h5.2.1 rfl;intro vb W2 hvb hbel;have hvb:vb=.int .u64 ((val [a0,a1,a2,a3,a4,a5,a6,a7] / 2 ^ i%2:Nat):Int):=hvb.1;rw [hbv] at hvb;subst hvb;rw [h5.2.2];have hJ2:J pre W2:=hJ pre W W2 none hJW ⟨hbel.os,hbel.tape,hbel.output,hbel.size,λ k hk _=>hbel.block k hk⟩ (λ r h=>by cases h);have hW2:HasA rA [a0,a1,a2,a3,a4,a5,a6,a7] W2:=hW.keep (hbel.block rA hsz) hbel.size;refine aBU (vs:=IF (rR (val [a0,a1,a2,a3,a4,a5,a6,a7]) i)) (hY W2 hJ2) ?_ h6.1 h6.2.1 rfl rfl;rintro e W3 (⟨rfl,h1',h2'⟩ | ⟨rfl,h1'⟩)
 ·refine ⟨_,rfl,?_⟩;have hW3:HasA rA [a0,a1,a2,a3,a4,a5,a6,a7] W3:=h2' hW2;refine aOe (ρ:=P0 λ _=>False) (x:=.bool true) (av:=.bool false) (z:=.bool false) ?_ (AVR.bool true) Vc (by kernel_rfl) h7.1 h7.2.1 (by rw [h6.2.2]; rfl) rfl;rw [h6.2.2,h7.2.2];exact hK z1 z2 W3 h1' hW3
 ·refine ⟨_,rfl,?_⟩;refine aOe (ρ:=P0 λ _=>False) (x:=.bool false) (av:=.bool true) (z:=.bool true) ?_ (AVR.bool false) Vc (by kernel_rfl) h7.1 h7.2.1 (by rw [h6.2.2]; rfl) rfl;rw [h6.2.2,h7.2.2];exact hQ z1 z2 W3 h1'
theorem Y7 {a:List Int} (ha:jO a=true) {rA l m:Nat} {J Jx:List Bool->World->Prop} {n₀:Nat} (hJ:AbidesFrom n₀ J) {pre:List Bool} {i:Nat} (hi:i < 300)
  (hY:∀ W1,J pre W1->YieldAt (Fw none) m prog l (IF (rR (val a) i)) W1 λ e W'=>
   (e=.returned (.bool true) /\ J (pre++[rR (val a) i]) W' /\ kpB rA a W1 W') ∨ (e=.returned (.bool false) /\ Jx (pre++[rR (val a) i]) W'))
  (hW:HasA rA a W) (hJW:J pre W)
  (hK:∀ v4 v5 v6 v7 v8 v9 fP gF gU tR lQ W',J (pre++[rR (val a) i]) W'->HasA rA a W'->K (KH (.func (.yield l) #[] #[]) (.pointer (some ⟨rA,0,none⟩)) v2 ((i:Int) - 1) v4 v5 v6 v7 v8 v9 fP gF gU tR lQ) W')
  (hQ:∀ v4 v5 v6 v7 v8 v9 fP gF gU tR lQ W',Jx (pre++[rR (val a) i]) W'->Q .ret (KH (.func (.yield l) #[] #[]) (.pointer (some ⟨rA,0,none⟩)) v2 (i:Int) v4 v5 v6 v7 v8 v9 fP gF gU tR lQ) W') :
  Vd.wpIn (Fw none) n prog (Exit.then K Q) (KH (.func (.yield l) #[] #[]) (.pointer (some ⟨rA,0,none⟩)) v2 (i:Int) v4 v5 v6 v7 v8 v9 fP gF gU tR lQ) W:=by
 refine wpIn_seq (wpIn_seq (wpIn_region_list ?_));refine tX (x:=.tmp 3) (a':=KH (.func (.yield l) #[] #[]) (.pointer (some ⟨rA,0,none⟩)) v2 (i:Int) (.int .i64 (i:Int)) v5 v6 v7 v8 v9 fP gF gU tR lQ) ?_ (by kernel_rfl) (by kernel_rfl) (by kernel_rfl);refine S6 (ρ:=P0 λ _=>False) (op:=.geq) (T:=3) (xo:=.tmp 4) (yo:=.const (.int .i64 0)) (x:=.int .i64 (i:Int)) (y:=.int .i64 0) (av:=.bool (decide ((0:Int) <= (i:Int)))) (z:=.bool true) (a':=KH (.func (.yield l) #[] #[]) (.pointer (some ⟨rA,0,none⟩)) v2 (i:Int) (.int .i64 (i:Int)) (.bool true) v6 v7 v8 v9 fP gF gU tR lQ) ?_ (MY _ _ _ _) (MY _ _ _ _) (λ v h=>by rw [aE (by omega)] at h; exact h.1) (by generalize (i:Int)=i'; kernel_rfl) (by kernel_rfl) (by kernel_rfl) (by kernel_rfl) (by kernel_rfl) (by kernel_rfl);refine wpIn_cond_true rfl (wpIn_skip ?_);refine wpIn_seq (wpIn_block (wpIn_seq (wpIn_region_list ?_)));refine P2 (J:=J) (Jx:=Jx) ha hJ hi ⟨(by kernel_rfl),(by kernel_rfl),(by kernel_rfl)⟩ ⟨(by kernel_rfl),(by kernel_rfl),(by kernel_rfl)⟩ ⟨(by kernel_rfl),(by kernel_rfl),(by kernel_rfl)⟩ ⟨(by kernel_rfl),(by kernel_rfl),(by kernel_rfl)⟩ ⟨(by kernel_rfl),(by kernel_rfl),(by kernel_rfl)⟩ ⟨(by kernel_rfl),(by kernel_rfl),(by kernel_rfl)⟩ ⟨(by kernel_rfl),(by kernel_rfl),(by kernel_rfl)⟩ hY hW hJW ?_ ?_
 ·intro v9 fP W3 h1 h2;refine wpIn_cond_false rfl (wpIn_skip ?_);refine wpIn_region_list ?_;refine tX (x:=.tmp 3) (a':=KH (.func (.yield l) #[] #[]) (.pointer (some ⟨rA,0,none⟩)) v2 (i:Int) (.int .i64 (i:Int)) (.bool true) (.int .i64 (i:Int)) v7 (.func (.yield l) #[] #[]) v9 fP (.int .i64 (i:Int)) (.int .u64 (cond (rR (val a) i) 1 0)) (.bool true) (.bool false)) ?_ (by kernel_rfl) (by kernel_rfl) (by kernel_rfl);refine S6 (ρ:=P0 λ _=>False) (op:=.sub) (T:=3) (xo:=.tmp 6) (yo:=.const (.int .i64 1)) (x:=.int .i64 (i:Int)) (y:=.int .i64 1) (av:=.int .i64 (i64.wrap ((i:Int) - 1))) (z:=.int .i64 ((i:Int) - 1)) (a':=KH (.func (.yield l) #[] #[]) (.pointer (some ⟨rA,0,none⟩)) v2 (i:Int) (.int .i64 (i:Int)) (.bool true) (.int .i64 (i:Int)) (.int .i64 ((i:Int) - 1)) (.func (.yield l) #[] #[]) v9 fP (.int .i64 (i:Int)) (.int .u64 (cond (rR (val a) i) 1 0)) (.bool true) (.bool false)) ?_ (MY _ _ _ _) (MY _ _ _ _) (λ v h=>by rw [bY (by omega) (by omega)] at h; exact h.1) (by generalize (i:Int)=i'; kernel_rfl) (by kernel_rfl) (by kernel_rfl) (by kernel_rfl) (by kernel_rfl) (by kernel_rfl);refine tX (x:=.tmp 7) (a':=KH (.func (.yield l) #[] #[]) (.pointer (some ⟨rA,0,none⟩)) v2 ((i:Int) - 1) (.int .i64 (i:Int)) (.bool true) (.int .i64 (i:Int)) (.int .i64 ((i:Int) - 1)) (.func (.yield l) #[] #[]) v9 fP (.int .i64 (i:Int)) (.int .u64 (cond (rR (val a) i) 1 0)) (.bool true) (.bool false)) ?_ (by kernel_rfl) (by kernel_rfl) (by kernel_rfl);exact hK _ _ _ _ _ _ _ _ _ _ _ W3 h1 h2
 ·intro v9 fP W3 h1;refine wpIn_cond_true rfl (wpIn_ret ?_);exact hQ _ _ _ _ _ _ _ _ _ _ _ W3 h1
theorem P3 {a:List Int} (ha:jO a=true) {rA l m:Nat} {J Jx:List Bool->World->Prop} {n₀:Nat} (hJ:AbidesFrom n₀ J)
  (hY:∀ pre x W1,J pre W1->pre.length < 254->YieldAt (Fw none) m prog l (IF x) W1 λ e W'=>
   (e=.returned (.bool true) /\ J (pre++[x]) W' /\ kpB rA a W1 W') ∨ (e=.returned (.bool false) /\ Jx (pre++[x]) W'))
  (hQ0:∀ (i:Int) v4 v5 v6 v7 v8 v9 fP gF gU tR lQ W',J (fQ (val a) 253) W'->Q (.exit 0) (KH (.func (.yield l) #[] #[]) (.pointer (some ⟨rA,0,none⟩)) v2 i v4 v5 v6 v7 v8 v9 fP gF gU tR lQ) W')
  (hQ1:∀ (i:Int) pre v4 v5 v6 v7 v8 v9 fP gF gU tR lQ W',Jx pre W'->Q .ret (KH (.func (.yield l) #[] #[]) (.pointer (some ⟨rA,0,none⟩)) v2 i v4 v5 v6 v7 v8 v9 fP gF gU tR lQ) W'):∀ k,k <= 253->∀ v4 v5 v6 v7 v8 v9 fP gF gU tR lQ W,
  HasA rA a W->J (sU (val a) 253 (253 - k)) W->Code.roundsIn (Fw none) n prog Vd Q (k+1) (KH (.func (.yield l) #[] #[]) (.pointer (some ⟨rA,0,none⟩)) v2 ((k:Int) - 1) v4 v5 v6 v7 v8 v9 fP gF gU tR lQ) W:=by
 intro k
 induction k with
 | zero=>
  intro _ v4 v5 v6 v7 v8 v9 fP gF gU tR lQ W hW hJW;rw [roundsIn_succ];refine aBW (by omega) (hQ0 _ _ _ _ _ _ _ _ _ _ _ _ W ?_);have:=Y5 (val a) 253 253 (by omega);rw [i0,fQ,i8] at this;rw [<-this]; exact hJW
 | succ k ih=>
  intro hk v4 v5 v6 v7 v8 v9 fP gF gU tR lQ W hW hJW;rw [roundsIn_succ,show (((k+1:Nat):Int) - 1)=(k:Int) by omega];have hb:sU (val a) 253 (253 - (k+1))++[rR (val a) k]=sU (val a) 253 (253 - k):=by
   rw [show 253 - k=(253 - (k+1))+1 by omega,sU,show 253 - 1 - (253 - (k+1))=k by omega]
  have hlen:(sU (val a) 253 (253 - (k+1))).length < 254:=by rw [S7]; omega
  refine Y7 (J:=J) (Jx:=Jx) (pre:=sU (val a) 253 (253 - (k+1))) ha hJ (by omega) (λ W1 h=>hY _ _ W1 h hlen) hW hJW ?_ ?_
  ·intro v4 v5 v6 v7 v8 v9 fP gF gU tR lQ W' h1 h2;rw [hb] at h1;exact ih (by omega) _ _ _ _ _ _ _ _ _ _ _ W' h2 h1
  ·intro v4 v5 v6 v7 v8 v9 fP gF gU tR lQ W' h1;exact hQ1 _ _ _ _ _ _ _ _ _ _ _ _ _ W' h1
theorem Y8:(bD Tryz.f158)=.seq aXv (.block 0 (.loop Vd)):=by kernel_rfl
theorem aBX (l rA:Nat):({ tmps:=(#[.func (.yield l) #[] #[]]++#[.pointer (some ⟨rA,0,none⟩)])++Array.replicate (Tryz.f158.ntmps - (#[.func (.yield l) #[] #[]]++#[.pointer (some ⟨rA,0,none⟩)]:Array Value).size) undef,defers:=[] }:Act)=bT0 l rA:=by kernel_rfl
theorem aBY {a:List Int} (ha:jO a=true) {rA:Nat} {w:World} (hw:HasA rA a w) {n:Nat} :
  SeqStopsK (Fw none) n prog 158 #[.pointer (some ⟨rA,0,none⟩)] IF (kpB rA a) (λ xs=>xs=fQ (val a) 253) (λ _=>True) 254 w:=by
 intro l J Jx W hbel hJ hJx hY hJ0;have hW:HasA rA a W:=hw.keep (hbel.block rA hw.2) hbel.size;refine callsIn_of_wp (n:=n) Tryz.func158 (c:=bD Tryz.f158) (by kernel_rfl) trivial ?_;rw [aBX,Y8];refine wpIn_seq (wpIn_region_list ?_);refine tX (x:=.const (.int .i64 252)) (a':=KH (.func (.yield l) #[] #[]) (.pointer (some ⟨rA,0,none⟩)) undef ((253:Nat) - 1:Int) undef undef undef undef undef undef undef undef undef undef undef) ?_ (by kernel_rfl) (by kernel_rfl) (by kernel_rfl);refine wpIn_block (wpIn_loop_rounds 254 ?_);refine P3 (m:=n - 1) ha hJ hY ?_ ?_ 253 (bV _) _ _ _ _ _ _ _ _ _ _ _ W hW hJ0
 ·intro i v4 v5 v6 v7 v8 v9 fP gF gU tR lQ W' h;exact ⟨rfl,_,P1 _,⟨_,rfl⟩,.inl ⟨_,rfl,h⟩⟩
 ·intro i pre v4 v5 v6 v7 v8 v9 fP gF gU tR lQ W' h;exact ⟨rfl,_,P1 _,⟨_,rfl⟩,.inr ⟨_,trivial,h⟩⟩
end
def tm0:Code:=match bD Tryz.f73 with | .seq x _=>x | c=>c
def tm1:Code:=match bD Tryz.f73 with | .seq _ (.seq x _)=>x | c=>c
def tm2:Code:=match bD Tryz.f73 with | .seq _ (.seq _ (.seq x _))=>x | c=>c
def tm3:Code:=match bD Tryz.f73 with | .seq _ (.seq _ (.seq _ (.seq (.seq x _) _)))=>x | c=>c
def tmB:Code:=match bD Tryz.f73 with | .seq _ (.seq _ (.seq _ (.seq (.seq _ (.block _ (.rangeFunc _ _ _ x))) _)))=>x | c=>c
def tmA:Code:=match bD Tryz.f73 with | .seq _ (.seq _ (.seq _ (.seq (.seq _ (.block _ (.rangeFunc _ _ x _))) _)))=>x | c=>c
def tm8:Code:=match bD Tryz.f73 with | .seq _ (.seq _ (.seq _ (.seq _ (.seq x _))))=>x | c=>c
def zU {β:Type} (F:St->Option β):Ex->St->Option β:=λ e s=>match e with
 | .normal=>F s
 | _=>none
def efB:Efs:=efs [(122,inl prog Tryz.f122 ⟨⟨dE [],[],dR⟩,[]⟩ 1)]
def aIQ (T0:Type) (R0:FA T0) (f0:T0->List Int) (T1:Type) (R1:FA T1) (f1:T1->List Int) (T2:Type) (R2:FA T2) (f2:T2->List Int):Cg:=⟨⟨dE [(118,⟨R0,λ t=>.agg (.ints .u64 (f0 t)) 5⟩),(75,⟨R1,λ t=>.agg (.ints .u64 (f1 t)) 5⟩),(109,⟨R2,λ t=>.agg (.ints .u64 (f2 t)) 20⟩)],[],efB⟩,[]⟩
def aXw (T0:Type) (R0:FA T0) (f0:T0->List Int) (T1:Type) (R1:FA T1) (f1:T1->List Int):Cg:=⟨⟨dE [(123,⟨R0,λ t=>.agg (.ints .u64 (f0 t)) 20⟩),(124,⟨R1,λ t=>.agg (.ints .u64 (f1 t)) 20⟩)],[],dR⟩,[]⟩
def aBZ (p a w c:List Int):List (Nat × Blk):=[(0,{ ty:=34,n:=8,row:=Row.t (TRow.ints u64 a) }),(1,{ ty:=75,n:=20,row:=Row.t (TRow.ints u64 c) }),(2,{ ty:=73,n:=5,row:=Row.t (TRow.ints u64 w) }),
 (3,{ ty:=75,n:=20,row:=Row.t (TRow.ints u64 [0,0,0,0,0,0,0,0,0,0,0,0,0,0,0,0,0,0,0,0]) }),(4,{ ty:=75,n:=20,row:=Row.t (TRow.ints u64 p) })]
def Gk:List (Nat × AV):=[(13,AV.s (SV.clop 158 [(0,0,8)])),(6,AV.s (SV.ptr 1 0 20)),(5,AV.s (SV.ptr 2 0 5)),(4,AV.s (SV.ptr 3 0 20)),(2,AV.s (SV.ptr 4 0 20))]
def aB0:List (Nat × AV):=[(2,AV.s (SV.ptr 4 0 20)),(4,AV.s (SV.ptr 3 0 20)),(5,AV.s (SV.ptr 2 0 5)),(6,AV.s (SV.ptr 1 0 20)),(13,AV.s (SV.clop 158 [(0,0,8)]))]
def Ve (p a w c:List Int):St:=⟨Gk,aBZ p a w c,5,24⟩
def tmS (b:Int) (p a w c:List Int):St:=⟨(14,.int .u64 b) :: (7,.int .u64 b) :: (Gk++vD 24 aB0),aBZ p a w c,5,24⟩
def tmE (p a w c:List Int):St:=⟨vD 24 Gk,aBZ p a w c,5,24⟩
section
variable (T0:Type) (R0:FA T0) (f0:T0->List Int) (T1:Type) (R1:FA T1) (f1:T1->List Int) (T2:Type) (R2:FA T2) (f2:T2->List Int)
theorem aRA (p a:List Int):fJ prog (aIQ T0 R0 f0 T1 R1 f1 T2 R2 f2) 1 tm0 ⟨wV [AV.agg (.ints .u64 p) 20,AV.agg (.ints .u64 a) 8] 0,[],0,24⟩ (zU λ s=>fJ prog (aIQ T0 R0 f0 T1 R1 f1 T2 R2 f2) 1 tm1 s (zU λ s=>fJ prog (aIQ T0 R0 f0 T1 R1 f1 T2 R2 f2) 1 tm2 s (zU λ s=>fJ prog (aIQ T0 R0 f0 T1 R1 f1 T2 R2 f2) 1 tm3 s (zU λ s=>Jw [13,6,5,4,2] s)))) =
  (R0 []).bind λ t=>(R0 []).bind λ t1=>(R1 [AV.agg (.ints .u64 (f0 t)) 5,AV.agg (.ints .u64 (f0 t1)) 5]).bind λ w=>(R2 []).bind λ c=>some (Ve p a (f1 w) (f2 c)):=by kernel_rfl
theorem aRB (b:Int) (p a w c:List Int):fJ prog (aXw T0 R0 f0 T1 R1 f1) 1 tmB (tmS b p a w c) (zU λ s=>Jw [] s) =
  (R0 [AV.agg (.ints .u64 c) 20]).bind λ t=>cond (decide (b=1)) ((R1 [AV.agg (.ints .u64 (f0 t)) 20,AV.agg (.ints .u64 p) 20,AV.agg (.ints .u64 w) 5]).bind λ u=>some (tmE p a w (f1 u))) (some (tmE p a w (f0 t))):=by kernel_rfl
end
theorem aRC (p a w c:List Int) (fn:Func) (hf:fn.ntmps=24):FX fn 24 (tmE p a w c)=Ve p a w c:=by
 unfold FX;rw [hf];rfl
theorem aRD (p a w c:List Int):fJ prog ⟨⟨dE [],[],dR⟩,[]⟩ 1 tm8 (Ve p a w c) (zU λ s=>q8 prog s Tryz.f73.results.toList)=some [.s (.pl (.agg (.ints .u64 c) 20))]:=by kernel_rfl
set_option maxRecDepth 10000
theorem aB1 {p c:Pt} (hp:qF p) (hc:qF c) (b:Bool):qF (yZ p c b):=by
 cases b
 ·exact Hf hc
 ·exact Oy (Hf hc) hp Lr
theorem Kr {p:Pt} (hp:qF p):∀ (l:List Bool) {c:Pt},qF c->qF (l.foldl (yZ p) c)
 | [],_,hc=>hc
 | b :: r,_,hc=>Kr hp r (aB1 hp hc b)
theorem Ey {p:Pt} (hp:qF p) (l:List Bool):qF (kK p l):=Kr hp l EO
theorem S8 (p:Pt) (l:List Bool) (x:Bool):kK p (l++[x])=yZ p (kK p l) x:=by
 simp [kK,List.foldl_append]
section
variable {P:Program} {B:Bs} {w0 w:World} {ρ:Plc} {s:St} {a:Act} {β:Type} {r:β} {g:Cg} {fu:Nat} {n:Nat} {ro:Option Nat} {Q:Exit->Act->World->Prop}
theorem IG {x:Code} {F:St->Option β} (hm:P.follows .mixedOrders=true) (hΓ:CfOk P g.c) (hs:Rel B w0 ρ s a w) (h:fJ P g fu x s (zU F)=some r)
  (hn:∀ s' a' w' ρ',F s'=some r->Rel B w0 ρ' s' a' w'->Q .normal a' w'):x.wpIn (Fw ro) n P Q a w:=by
 refine CN hm hΓ x hs h λ e s' a' w' ρ' h' hs'=>?_;cases e with
 | normal=>exact hn s' a' w' ρ' h' hs'
 | exit id=>simp [zU] at h'
 | ret=>simp [zU] at h'
theorem vV {x y:Code} {F:St->Option β} (hm:P.follows .mixedOrders=true) (hΓ:CfOk P g.c) (hs:Rel B w0 ρ s a w) (h:fJ P g fu x s (zU F)=some r)
  (hn:∀ s' a' w' ρ',F s'=some r->Rel B w0 ρ' s' a' w'->y.wpIn (Fw ro) n P Q a' w'):(Code.seq x y).wpIn (Fw ro) n P Q a w :=
 wpIn_seq (IG hm hΓ hs h hn)
theorem Rel.keepsFrom {w':World} (h:Rel B w0 ρ s a w) {Bx:List Value} {Bd:List Deferred} {BX:Nat->Prop} (hb:BelowM ⟨w.heap.size,BX,Bx,λ k=>∃ id x,ρ id=some x /\ x.r=k,Bd⟩ w w') :
  ∀ (k:Nat) (o:Obj),w.heap[k]?=some o->o.isCells=false->w'.heap[k]?=some o:=by
 intro k o hk ho;refine (hb.block k (uP.1 hk).1 ?_).trans hk;rintro ⟨id,x,hx,rfl⟩;obtain ⟨b,_,⟨cs,fz,q1,_⟩,_⟩:=h.blk id x hx;rw [hk] at q1; cases q1; cases ho
end
theorem Y9 (t:Nat):bU aB0 t=bU Gk t:=by
 simp only [aB0,Gk,bH,bZ];by_cases h1:(2:Nat)=t
 ·subst h1; rfl
 by_cases h2:(4:Nat)=t
 ·subst h2; rfl
 by_cases h3:(5:Nat)=t
 ·subst h3; rfl
 by_cases h4:(6:Nat)=t
 ·subst h4; rfl
 by_cases h5:(13:Nat)=t
 ·subst h5; rfl
 rw [iP h1,iP h2,iP h3,iP h4,iP h5]; rfl
theorem aIR {b:Int} {p al w c:List Int} {t:Nat} (ht:t < 24) (h7:t ≠ 7) (h14:t ≠ 14):(tmS b p al w c).get t=(Ve p al w c).get t:=by
 show (match bU ((14,AV.int .u64 b) :: (7,AV.int .u64 b) :: (Gk++vD 24 aB0)) t with | some v=>v | none=>.junk)=(match bU Gk t with | some v=>v | none=>.junk);rw [bH,bH,iP (fX h14),iP (fX h7),Jg,Ab,aW (by omega)];cases bU Gk t <;> rfl
theorem aB2 {b:Int} {p al w c:List Int} (t:Nat):(tmS b p al w c).get (t+24)=(Ve p al w c).get t:=by
 show (match bU ((14,AV.int .u64 b) :: (7,AV.int .u64 b) :: (Gk++vD 24 aB0)) (t+24) with | some v=>v | none=>.junk)=(match bU Gk t with | some v=>v | none=>.junk);have hn:bU Gk (t+24)=none:=by
  simp only [Gk,bH,bZ];rw [iP (by omega),iP (by omega),iP (by omega),iP (by omega),iP (by omega)]; rfl
 rw [bH,bH,iP (by omega),iP (by omega),Jg,hn,Ab,aT (by omega)];simp only [PQ,Y9];rfl
def IH (x:Bool):Value:=.int .u64 (cond x 1 0)
def S9 (a:Act) (x:Bool):Act:={ tmps:=(a.tmps.setIfInBounds 14 (IH x)).setIfInBounds 7 (IH x),defers:=[] }
section
variable {B:Bs} {w0 W:World} {ρ:Plc} {a:Act} {n l:Nat}
theorem Ez {ts:Array Value} {i t:Nat} {v:Value} (hi:i < ts.size):(ts.setIfInBounds i v).getD t undef=if t=i then v else ts.getD t undef:=by
 simp only [Array.getD];by_cases h:t=i
 ·subst h;simp [hi]
 ·rw [aW h];by_cases h2:t < ts.size
  ·simp [h2,aHX,fX h]
  ·simp [h2]
theorem aB3 {p al w c:List Int} (hs:Rel B w0 ρ (Ve p al w c) a W) (x:Bool):Rel (B.in a) w0 ρ (tmS (cond x 1 0) p al w c) (S9 a x) W:=by
 have hsz:a.tmps.size=24:=hs.size;refine Rel.round hs (by simp [S9]; exact hs.size) rfl rfl rfl rfl (λ t ht=>?_) (λ t=>aB2 t);have ht:t < 24:=ht;have hgd:(S9 a x).tmps.getD t undef=if t=7 then IH x else if t=14 then IH x else a.tmps.getD t undef:=by
  show ((a.tmps.setIfInBounds 14 (IH x)).setIfInBounds 7 (IH x)).getD t undef=_;rw [Ez (by simp; omega),Ez (by omega)]
 rw [hgd];by_cases h7:t=7
 ·subst h7;rw [aT rfl];exact ⟨MY _ _ _ _,λ id hid=>by have hid:id ∈ ([]:List Nat):=hid; cases hid⟩
 by_cases h14:t=14
 ·subst h14;rw [aW (by omega),aT rfl];exact ⟨MY _ _ _ _,λ id hid=>by have hid:id ∈ ([]:List Nat):=hid; cases hid⟩
 rw [aW h7,aW h14,aIR ht h7 h14];have h1:=hs.tm t;rw [k7 (by rw [hsz]; exact ht)] at h1;exact ⟨h1,λ id hid=>hs.rt t id hid⟩
theorem aXy:∀ f A,dE [(123,⟨aCN,λ t=>.agg (.ints .u64 (oJ t)) 20⟩),(124,⟨ZS,λ t=>.agg (.ints .u64 (oJ t)) 20⟩)] f=some A->CallOk prog f A :=
 aA aWt (aA U7 aK)
theorem aIS {p c:Pt} {al:List Int} {R:Exit->Act->World->Prop} (hs:Rel B w0 ρ (Ve (oJ p) al (zT E4) (oJ c)) a W) (hp:qF p) (hc:qF c) (x:Bool)
  (hR:∀ a' W' ρ',Rel B w0 ρ' (Ve (oJ p) al (zT E4) (oJ (yZ p c x))) a W'->W.heap.size <= W'.heap.size->(∀ (k:Nat) (o:Obj),W.heap[k]?=some o->o.isCells=false->W'.heap[k]?=some o)->R .normal a' W') :
  tmB.wpIn (Fw (some l)) n prog R (S9 a x) W:=by
 have h1:=aB3 hs x;have hev:fJ prog (aXw Pt aCN oJ Pt ZS oJ) 1 tmB (tmS (cond x 1 0) (oJ p) al (zT E4) (oJ c)) (zU λ s=>Jw [] s)=some (tmE (oJ p) al (zT E4) (oJ (yZ p c x))):=by
  rw [aRB];have q1:aCN [AV.agg (.ints .u64 (oJ c)) 20]=some (Gm c):=aNf hc;have q2:ZS [AV.agg (.ints .u64 (oJ (Gm c))) 20,AV.agg (.ints .u64 (oJ p)) 20,AV.agg (.ints .u64 (zT E4)) 5]=some (CU (Gm c) p E4):=YP (Hf hc) hp Lr;rw [q1,aC];cases x
  ·rfl
  ·show (cond true _ _)=_;rw [aB,q2,aC]; rfl
 refine IG gH ⟨aXy,λ k F hF=>by cases hF⟩ h1.now hev λ s' a' W' ρ' hn hs'=>?_;obtain ⟨ρ2,h2⟩:=EU hs' hn;have h3:=h1.then h2;have h4:=hs.back (fn:=Tryz.f73) h3 (by kernel_rfl);rw [show (Ve (oJ p) al (zT E4) (oJ c)).sz=24 from rfl,aRC _ _ _ _ _ (by kernel_rfl)] at h4;exact hR a' W' ρ2 h4 h2.below.size (hs.keepsFrom h2.below)
theorem Vf:∀ f A,dE [(118,⟨rCD,λ t=>.agg (.ints .u64 (zT dF)) 5⟩),(75,⟨uG,λ t=>.agg (.ints .u64 (zT t)) 5⟩),(109,⟨IX,λ t=>.agg (.ints .u64 (oJ t)) 20⟩)] f=some A->CallOk prog f A :=
 aA SC (aA uI (aA Oz aK))
theorem MZ:∀ f F,efB f=some F->yX prog f F :=
 wX (aVK gH ⟨aK,λ k F hF=>by cases hF⟩ Tryz.func122 (by kernel_rfl)) BP
theorem aB4 {p al w c:List Int} (hal:al.length=8) (hs:Rel B w0 ρ (Ve p al w c) a W):∃ rA,a.tmps.getD 13 undef=.func (.func 158) #[] #[.pointer (some ⟨rA,0,none⟩)] /\ HasA rA al W:=by
 have h1:=hs.tm 13;have hsz:a.tmps.size=24:=hs.size;rw [k7 (by rw [hsz]; omega)] at h1;have h1:AVR W ρ (AV.s (SV.clop 158 [(0,0,8)])) (a.tmps.getD 13 undef):=h1;obtain ⟨vs,e,hv⟩:=h1
 match vs,hv with
 | [v],⟨⟨x,hx,hn,hv⟩,_⟩=>
  refine ⟨x.r,by rw [e,hv],?_⟩;obtain ⟨b,hb,hb2⟩:=hs.blk 0 x hx;have hbe:b={ ty:=34,n:=8,row:=Row.t (TRow.ints u64 al) }:=by
   have:bU (aBZ p al w c) 0=some b:=hb;simp only [aBZ,bH] at this;cases this; rfl
  subst hbe;refine ⟨?_,(hs.base 0 x hx).2⟩;obtain ⟨⟨cs,fz,q1,q2,q3,q4⟩,q5⟩:=hb2;intro i v hi;have q4:cs.toList.take _=(TRow.ints u64 al).cells:=q4;have hi2:=hi;rw [<-q4,kW] at hi2;simp only [World.cell?,q1,bS];split at hi2
  ·simpa using hi2
  ·cases hi2
end
set_option maxRecDepth 10000
def aXz:Code:=.rangeFunc (.tmp 13) #[14] tmA tmB
theorem aIT:bD Tryz.f73=.seq tm0 (.seq tm1 (.seq tm2 (.seq (.seq tm3 (.block 0 aXz)) (.seq tm8 .ret)))):=by kernel_rfl
section
variable {B:Bs} {w0 W:World} {ρ:Plc} {a:Act} {n l:Nat}
def tmO:Oper:=match tmA with | .region _ ops _=>ops.getD 0 default | _=>default
theorem aRE:∃ id o,tmA=.region id #[o] false /\ o.guard=none /\ IE o.op=some (.tmp 14) /\ o.dst=some 7:=by
 refine ⟨4,tmO,by kernel_rfl,by kernel_rfl,by kernel_rfl,by kernel_rfl⟩
theorem ZA {K:Act->World->Prop} (hsz:a.tmps.size=24) (x:Bool) (hK:K (S9 a x) W) :
  tmA.wpIn ((Fw none).inRound l) n prog (Exit.then K (λ _ _ _=>False)) { tmps:=((#[14]:Array Tmp).zip (IF x)).foldl (λ t (p,v)=>t.setIfInBounds p v) a.tmps,defers:=[] } W:=by
 obtain ⟨id,o,e,h1,h2,h3⟩:=aRE;rw [e];have e2:((#[14]:Array Tmp).zip (IF x)).foldl (λ t (p,v)=>t.setIfInBounds p v) a.tmps=a.tmps.setIfInBounds 14 (IH x):=by kernel_rfl
 rw [e2];show (Code.region id #[o] false).wpIn (Fw (some l)) n prog _ _ W;refine wpIn_region_list ?_;refine tX (a':=S9 a x) hK h1 h2 ?_;rw [h3];have e3:(({ tmps:=a.tmps.setIfInBounds 14 (IH x),defers:=[] }:Act)).eval (.tmp 14)=IH x:=by
  show (a.tmps.setIfInBounds 14 (IH x)).getD 14 undef=IH x;rw [Ez (by omega),aT rfl]
 rw [e3]; rfl
theorem aIU {p:Pt} {al:List Int} {Q:Exit->Act->World->Prop} (hn:1 <= n) (hp:qF p) (ha:jO al=true) (hs:Rel B w0 ρ (Ve (oJ p) al (zT E4) (oJ gZ)) a W)
  (hQ:∀ D W' ρ',W.heap.size <= D->W'.heap[D]?=some (.deferred (some []))->Rel B w0 ρ' (Ve (oJ p) al (zT E4) (oJ (kK p (fQ (val al) 253)))) a W'->Q .normal { a with defers:={ target:=.collected D,args:=#[] } :: a.defers } W') :
  aXz.wpIn (Fw none) n prog Q a W:=by
 have hsz:a.tmps.size=24:=hs.size;have hal:al.length=8:=by
  obtain ⟨a0,a1,a2,a3,a4,a5,a6,a7,rfl⟩:=wF ha;rfl
 obtain ⟨rA,hv,hA⟩:=aB4 hal hs;refine wpIn_rangeFunc_ownG (gf:=158) (lb:=#[.pointer (some ⟨rA,0,none⟩)]) rfl hn hv trivial (λ args w=>nA (c:=bD Tryz.f158) Tryz.func158 (by kernel_rfl) (by kernel_rfl) args w)
  (aBY ha hA) (λ h1 h2 h=>h2 (h1 h)) (λ W1 l o o' hl ho h1 h2 h=>?_) (Below.refl _ _) (λ x=>rfl)
  (λ xs W1=>∃ ρ1,Rel B w0 ρ1 (Ve (oJ p) al (zT E4) (oJ (kK p xs))) a W1) (λ _ _ _=>False) ?_ (λ c s W1 W2 row h=>h.elim) ⟨ρ,hs⟩ (S9 a) ?_ ?_ ?_ (λ D c pre W1 _ _ h=>h.elim)
 ·refine h.keep ?_ ?_
  ·have hne:rA ≠ l:=by
    rintro rfl;have:=h.1 0;have h0:(TRow.ints u64 al).cells[0]?=some (.int .u64 (al[0]'(by omega))):=by simp [TRow.cells]
    have:=this _ h0;simp only [World.cell?,ho] at this;cases o <;> simp_all [Obj.isCells]
   simp [World.putObj,Array.getElem?_setIfInBounds,fX hne]
  ·simp [World.putObj]
 ·rintro xs W1 W2 row ⟨ρ1,h1⟩ hg hr;exact ⟨ρ1,h1.grown hs.B_le hg hr⟩
 ·intro l x W1 K hK;exact ZA hsz x hK
 ·rintro l pre x W1 ⟨ρ1,h1⟩ _;refine aIS h1 hp (Ey hp pre) x λ a' W' ρ' h2 h3 h4=>?_;refine ⟨⟨h3,λ k o _ hk ho=>h4 k o hk ho⟩,λ _=>?_,ρ',by rw [S8]; exact h2⟩;obtain ⟨rB,hv2,hB⟩:=aB4 hal h2;rw [hv] at hv2;cases hv2;exact hB
 ·rintro D xs W1 hD rfl ⟨ρ1,h1⟩ hW1;exact hQ D W1 ρ1 hD hW1 h1
end
set_option maxRecDepth 10000
section
variable {B:Bs} {w0 W w:World} {ρ:Plc} {s:St} {a:Act} {n l:Nat}
def Bs.dd (B:Bs) (ds:List Deferred):Bs:=⟨B.n,B.X,B.ext,B.M,ds⟩
theorem Rel.dd (h:Rel B w0 ρ s a W) (d:Deferred):Rel (B.dd (d :: B.ds)) w0 ρ s { a with defers:=d :: a.defers } W :=
 ⟨h.tm,h.blk,h.lt,h.inj,h.base,h.size,by rw [h.df]; rfl,⟨h.below.os,h.below.tape,h.below.output,h.below.size,h.below.block,h.below.shape⟩,h.b0,h.rt,h.rb,h.gh,h.ob,h.ox⟩
theorem aIV {X:Nat->Prop} {p:Pt} {al c:List Int} {fn:Func} {D:Nat} (hfn:fn=Tryz.f73) (hX:∀ b,X b->b < w.heap.size) (hs:Rel ⟨w.heap.size,X,[],λ _=>False,[]⟩ w ρ (Ve (oJ p) al (zT E4) c) a W) (hD:W.heap[D]?=some (.deferred (some []))) (hD2:w.heap.size <= D) :
  (Code.seq tm8 .ret).wpIn (Fw none) n prog (bodyPostM (Fw none) n prog fn λ e w'=>∃ v,e=.returned v /\ AVR w' (P0 X) (.agg (.ints .u64 c) 20) v /\ (AV.agg (.ints .u64 c) 20).refs=[] /\ Below w.heap.size w w')
   {a with defers:={ target:=.collected D,args:=#[] } :: a.defers } W:=by
 subst hfn;have h1:=hs.dd { target:=.collected D,args:=#[] };refine vV gH ⟨aK,λ k F hF=>by cases hF⟩ h1.now (aRD (oJ p) al (zT E4) c) λ s' a' W' ρ' hn hs'=>?_;refine wpIn_ret ?_;have hD':W'.heap[D]?=some (.deferred (some [])):=h1.keepsFrom hs'.below D _ hD rfl;have h3:=h1.then hs';have h4:Rel _ w ρ' s' a' (W'.putObj D (.deferred none)):=h3.grown (row:=some D) (n₁:=w.heap.size) (bV _) (grownBy_putObj' W' D _) (λ r e=>by cases e; exact ⟨hD2,_,hD',rfl⟩);have hL:Lend ρ' (P0 X):=⟨λ id x hx=>⟨λ _ _ h=>by simp [P0] at h,λ hb=>by
   have h2:=hX _ hb;rcases (h4.base id x hx).1 with h1 | h1
   ·have h1:w.heap.size <= x.r:=h1;omega
   ·exact h1⟩,λ b hb=>⟨λ _ _ h=>by simp [P0] at h,λ hx=>hb.2 (h4.ox b hx)⟩⟩
 obtain ⟨vs',q1,q2,q3⟩:=BO h4 hL hn;have hdf:a'.defers=[{ target:=.collected D,args:=#[] }]:=h3.df;show LeavesInM (Fw none) n prog Tryz.f73 a'.tmps _ a'.defers .returning W';rw [hdf];refine ⟨by simp,.inl ⟨D,_,rfl,run_takeDeferred hD',?_⟩⟩;exact ⟨_,kT q1,_,rfl,wW q2,yL q3,h4.below.below λ _ h=>h⟩
end
theorem P4 {T:Type} {F:Pt->List Int->T} {args:List AV} {t:T} (h:Pz F args=some t):∃ p a,args=[eP p,W8 a] /\ qF p /\ jO a=true /\ t=F p a:=by
 unfold Pz at h;split at h
 ·obtain ⟨h1,h2⟩:=cC h;simp only [aX] at h1;obtain ⟨x,rfl,rfl,rfl,rfl,rfl,hx,ex⟩:=eI h1.1.1;obtain ⟨y,rfl,rfl,rfl,rfl,rfl,hy,ey⟩:=eI h1.1.2.1;obtain ⟨z,rfl,rfl,rfl,rfl,rfl,hz,ez⟩:=eI h1.1.2.2.1;obtain ⟨w,rfl,rfl,rfl,rfl,rfl,hw,ew⟩:=eI h1.1.2.2.2;rw [ex,ey,ez,ew] at h2;exact ⟨⟨x,y,z,w⟩,_,rfl,⟨hx,hy,hz,hw⟩,h1.2,h2.symm⟩
 ·cases h
theorem aRF {T:Type} (F:Pt->List Int->T) {p:Pt} {a:List Int} (h:qF p) (k:jO a=true):Pz F [eP p,W8 a]=some (F p a):=by
 obtain ⟨x,y,z,w⟩:=p;obtain ⟨h1,h2,h3,h4⟩:=h;simp only [Pz,eP,W8];rw [eJ h1,eJ h2,eJ h3,eJ h4,k]; rfl
theorem aB5:CallOk prog 73 ID:=by
 intro args t ht w X vs hX hargs;obtain ⟨p,al,rfl,hp,ha,rfl⟩:=P4 (F:=λ p a=>kK p (fQ (val a) 253)) ht;refine .inr ⟨nA (c:=bD Tryz.f73) Tryz.func73 (by kernel_rfl) (by kernel_rfl) _ _,?_⟩;refine callsIn_wide (n:=3) |>.1 (callsIn_of_wp_marks (F:=Fw none) Tryz.func73 (c:=bD Tryz.f73) (by kernel_rfl) trivial ?_);rw [aIT];have hnt:Tryz.f73.ntmps=24:=by kernel_rfl
 have hs:=Rel.start (fn:=Tryz.f73) hX hargs rfl (by rw [hnt]; show 2 <= 24; omega);rw [hnt] at hs ⊢;have hev:=aRA Unit rCD (λ _=>zT dF) Fe uG zT Pt IX oJ (oJ p) al;have q1:uG [AV.agg (.ints .u64 (zT dF)) 5,AV.agg (.ints .u64 (zT dF)) 5]=some E4:=fN uO uO;rw [show rCD []=some () from rfl,aC,aC,q1,aC,Aj,aC] at hev;refine vV gH ⟨Vf,MZ⟩ hs hev λ s1 a1 W1 ρ1 h1 r1=>?_;refine vV gH ⟨Vf,MZ⟩ r1 h1 λ s2 a2 W2 ρ2 h2 r2=>?_;refine vV gH ⟨Vf,MZ⟩ r2 h2 λ s3 a3 W3 ρ3 h3 r3=>?_;refine wpIn_seq (vV gH ⟨Vf,MZ⟩ r3 h3 λ s4 a4 W4 ρ4 h4 r4=>?_);obtain ⟨ρ5,r5⟩:=EU r4 h4;refine wpIn_block (aIU (by omega) hp ha r5 λ D W' ρ' hD hD2 r6=>?_);exact aIV rfl hX r6 hD2 (cK r5.below.size hD)
theorem Ks {p:Pt} {a:List Int} (h:qF p) (k:jO a=true):MX [eP p,W8 a]=some (kK p (fQ (val a) 253)):=by
 simp only [MX,ID]; exact aRF _ h k
end
end Go.Eng
