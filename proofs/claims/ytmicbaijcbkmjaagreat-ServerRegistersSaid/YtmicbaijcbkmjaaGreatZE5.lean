import Derived.LoopNIn
import Derived.Orders
import Derived.OrdersIn
import Derived.RangeFuncCalls
import Derived.RangeFuncNested
import Derived.TacticsIn
import Derived.Test.YtmicbaijcbkmjaaGreatZE2
namespace Go.Eng
noncomputable section
open Go Go.RowKit
set_option linter.all false
def Fw (ro:Option Nat):Fence:={ fn:=λ _=>True,depth:=none,alive:=false,round:=ro }
theorem Calls.fw {ro:Option Nat} {n:Nat} {P:Program} {f:FuncId} {args:Array Value} {w:World} {R:Ending->World->Prop} (h:Go.Calls P f args w R):CallsIn (Fw ro) n P f args w R:=by
 cases ro with
 | none=>exact callsIn_wide.2 h
 | some l=>exact CallsIn.inRound l (callsIn_wide.2 h)
theorem nC {ro:Option Nat} {n:Nat} {P:Program} {o:Oper} {a:Act} {w:World} {next:Act->World->Prop} {Q:Exit->Act->World->Prop} (hnd:∀ c,o.op ≠ .defer c)
  (h:o.uponIn (Fw ro) n P a next Q ((execOp a.eval o).run P w)):o.wpIn (Fw ro) n P a w next Q :=
 ⟨λ _ _=>trivial,by
  show o.uponIn (Fw ro) n P a next Q ((o.semAt ro a.eval).run P w)
  rw [Oper.semAt_eq _ _ _ hnd]; exact h⟩
theorem sT {ro:Option Nat} {n:Nat}:(Fw ro).depth.isSome=true->1 <= n:=λ h=>by simp [Fw] at h
structure Summ where
 {T:Type}
 run:List AV->Option T
 enc:T->AV
def P0 (X:Nat->Prop):Plc:=⟨λ _=>none,X⟩
def FAt (P:Program) (f:FuncId) (args:Array Value) (w:World) (R:Value->World->Prop):Prop :=
 (∃ v w',(callFunc f args).run P w=.ok (.value v) w' /\ R v w') ∨ ((callFunc f args).run P w=.ok (.enter f args) w /\ Calls P f args w λ e w'=>∃ v,e=.returned v /\ R v w')
def CallOk (P:Program) (f:FuncId) (A:Summ):Prop:=∀ (args:List AV) (t:A.T),A.run args=some t ->
 ∀ (w:World) (X:Nat->Prop) (vs:List Value),(∀ b,X b->b < w.heap.size)->AVRs w (P0 X) args vs ->
  FAt P f vs.toArray w λ v w'=>AVR w' (P0 X) (A.enc t) v /\ (A.enc t).refs=[] /\ Below w.heap.size w w'
def SV.bare:SV->Bool
 | .pl _ | .clo _ _ _ | .junk=>true
 | _=>false
def SV.still:SV->Bool
 | .clor _ _=>true
 | x=>x.bare
theorem SV.still_refs {x:SV} (h:x.still=true):x.refs=[]:=by
 cases x <;> first | rfl | simp [SV.still,SV.bare] at h
def CV.bare:CV->Bool
 | .s x=>x.bare
 | .mix l=>l.all SV.bare
 | _=>false
def AV.bare:AV->Bool
 | .c x=>x.bare
 | .tup l=>l.all CV.bare
section
variable {w w':World} {ρ ρ':Plc}
theorem SVR.bare {x:SV} {v:Value} (h:SVR w ρ x v) (hb:x.bare=true):SVR w' ρ' x v:=by
 cases x <;> first | exact h | simp [SV.bare] at hb
theorem CVR.bare {x:CV} {v:Value} (h:CVR w ρ x v) (hb:x.bare=true):CVR w' ρ' x v:=by
 cases x with
 | s x=>exact SVR.bare h hb
 | mix l=>
  obtain ⟨cs,e,h1,h2⟩:=h;exact ⟨cs,e,h1,λ i x v hx hv=>(h2 i x v hx hv).bare (rG.1 hb x (jI hx))⟩
 | mdat l=>simp [CV.bare] at hb
 | mptr l o=>simp [CV.bare] at hb
theorem AVR.bare {x:AV} {v:Value} (h:AVR w ρ x v) (hb:x.bare=true):AVR w' ρ' x v:=by
 cases x with
 | c x=>exact CVR.bare h hb
 | tup l=>
  obtain ⟨vs,e,h1,h2⟩:=h;exact ⟨vs,e,h1,λ i x v hx hv=>(h2 i x v hx hv).bare (rG.1 hb x (jI hx))⟩
theorem SVR.chg {x:SV} {v:Value} (h:SVR w ρ x v) (hr:x.refs=[]) (hf:∀ b,Foreign ρ b->Foreign ρ' b):SVR w ρ' x v:=by
 cases x with
 | junk=>trivial
 | pl p=>exact h
 | clo f a b=>exact h
 | clop f cs=>
  obtain ⟨vs,e,h⟩:=h;have:cs=[]:=by
   have hr:cs.map Prod.fst=[]:=hr;exact List.map_eq_nil_iff.1 hr
  subst this;exact ⟨vs,e,h.same (by simp)⟩
 | clor f cs=>obtain ⟨vs,e,h⟩:=h; exact ⟨vs,e,h.map λ b o cs h1 h2 h3=>⟨hf b h1,h2,h3⟩⟩
 | ptr id o e=>simp [SV.refs] at hr
 | own id l e=>simp [SV.refs] at hr
 | sub id lo l e=>simp [SV.refs] at hr
 | dat r len esz=>
  obtain ⟨h1,h2⟩:=h;refine ⟨h1,?_⟩;rcases h2 with h2 | ⟨b,off,cap,e,hc,hf',hra,hb⟩
  ·exact .inl h2
  ·exact .inr ⟨b,off,cap,e,hc,hf b hf',hra,hb⟩
 | rptr r off ext=>
  obtain ⟨h1,b,o,e,hf',hra,hb⟩:=h;exact ⟨h1,b,o,e,hf b hf',hra,hb⟩
theorem zK {l:List SV} (h:l.flatMap SV.refs=[]) {i:Nat} {x:SV} (hx:l[i]?=some x):x.refs=[]:=by
 rw [Fv] at h;exact h x (jI hx)
theorem CVR.chg {x:CV} {v:Value} (h:CVR w ρ x v) (hr:x.refs=[]) (hf:∀ b,Foreign ρ b->Foreign ρ' b):CVR w ρ' x v:=by
 cases x with
 | s x=>exact SVR.chg h hr hf
 | mix l=>
  obtain ⟨cs,e,h1,h2⟩:=h;exact ⟨cs,e,h1,λ i x v hx hv=>(h2 i x v hx hv).chg (zK hr hx) hf⟩
 | mdat l=>
  rcases h with h | ⟨b,off,cap,e,hc,hf',hra,hb⟩
  ·exact .inl h
  ·refine .inr ⟨b,off,cap,e,hc,hf b hf',λ i x hx=>?_,hb⟩;obtain ⟨v,h1,h2⟩:=hra i x hx;exact ⟨v,h1,h2.chg (zK hr hx) hf⟩
 | mptr l o=>
  obtain ⟨h1,b,off,e,hf',hra,hb⟩:=h;refine ⟨h1,b,off,e,hf b hf',λ i x hx=>?_,hb⟩;obtain ⟨v,h1,h2⟩:=hra i x hx;exact ⟨v,h1,h2.chg (zK hr hx) hf⟩
theorem AVR.chg {x:AV} {v:Value} (h:AVR w ρ x v) (hr:x.refs=[]) (hf:∀ b,Foreign ρ b->Foreign ρ' b):AVR w ρ' x v:=by
 cases x with
 | c x=>exact CVR.chg h hr hf
 | tup l=>
  obtain ⟨vs,e,h1,h2⟩:=h;refine ⟨vs,e,h1,λ i x v hx hv=>(h2 i x v hx hv).chg ?_ hf⟩;have:l.flatMap CV.refs=[]:=hr;rw [Fv] at this;exact this x (jI hx)
end
section
variable {P:Program} {B:Bs} {w0 w w':World} {ρ:Plc} {s:St} {a:Act} {β:Type} {r:β}
def Ax (s:St) (x:AV):Option (AV × Bool) :=
 match x with
 | .c (.s (.own id len esz))=>match bU s.hp id with
  | some b=>match b.row with
   | .t r=>some (.s (.dat r len esz),true)
   | .mix l=>cond (l.all SV.still && Nat.beq esz 1 && Nat.beq l.length len) (some (.c (.mdat l),true)) none
  | none=>none
 | .c (.s (.sub id lo len esz))=>match bU s.hp id with
  | some b=>match b.row with
   | .t r=>some (.s (.dat (r.sub (lo*esz) (len*esz)) len esz),true)
   | .mix l=>none
  | none=>none
 | .c (.s (.ptr id off ext))=>match bU s.hp id with
  | some b=>match b.row with
   | .t r=>some (.s (.rptr r off ext),true)
   | .mix l=>none
  | none=>none
 | x=>match x.refs with
  | []=>some (x,false)
  | _ :: _=>none
def kY (s:St):List AV->Option (List AV × Bool)
 | []=>some ([],false)
 | x :: r=>match Ax s x,kY s r with
  | some (y,b),some (ys,c)=>some (y :: ys,b || c)
  | _,_=>none
theorem oS (b:Nat):Foreign (P0 λ _=>False) b:=⟨λ id x h=>by simp [P0] at h,λ h=>h⟩
theorem Ss {x y:AV} {bo:Bool} {v:Value} (hs:Rel B w0 ρ s a w) (hx:AVR w ρ x v) (h:Ax s x=some (y,bo)) :
  AVR w (P0 λ _=>False) y v /\ (bo=false->y=x /\ x.refs=[]):=by
 unfold Ax at h;split at h
 ·rename_i id len esz;split at h
  ·rename_i b hb;split at h
   ·rename_i tr htr;simp at h; obtain ⟨rfl,rfl⟩:=h;refine ⟨?_,by simp⟩;rcases hx with ⟨q,hq,rfl,hn,hc,hcm,hcz⟩ | ⟨hnone,rfl,rfl⟩
    ·obtain ⟨b',hb',hR⟩:=hs.blk id q hq;rw [hb] at hb'; cases hb';obtain ⟨h1,h2⟩:=hR.cell htr;refine ⟨by omega,.inr ⟨q.r,0,q.cap,rfl,hc,oS _,λ i v hv=>by rw [bS]; exact h2 i v hv,(hs.base id q hq).2⟩⟩
    ·have:=hs.gh id b hb hnone;rw [htr] at this;have this:tr.length=0:=this;exact ⟨by simpa using this,.inl ⟨rfl,rfl⟩⟩
   ·rename_i l hl;obtain ⟨h1,h2⟩:=aY h;simp only [aX] at h1;obtain ⟨⟨c1,c2⟩,c3⟩:=h1;have c2:esz=1:=aS c2;have c3:l.length=len:=aS c3;simp at h2; obtain ⟨rfl,rfl⟩:=h2;refine ⟨?_,by simp⟩;rcases hx with ⟨q,hq,rfl,hn,hc,hcm,hcz⟩ | ⟨hnone,rfl,rfl⟩
    ·obtain ⟨b',hb',hR⟩:=hs.blk id q hq;rw [hb] at hb'; cases hb';obtain ⟨h1,h2⟩:=hR.mcell hl;refine .inr ⟨q.r,0,q.cap,by rw [c3],by omega,oS _,λ i x hx=>?_,(hs.base id q hq).2⟩;obtain ⟨v,g1,g2⟩:=h2 i x hx;exact ⟨v,by rw [bS]; exact g1,g2.chg (SV.still_refs (rG.1 c1 x (jI hx))) λ b _=>oS b⟩
    ·exact .inl ⟨c3,rfl⟩
  ·simp at h
 ·rename_i id lo len esz;split at h
  ·rename_i b hb;split at h
   ·rename_i tr htr;simp at h; obtain ⟨rfl,rfl⟩:=h;refine ⟨?_,by simp⟩;rcases hx with ⟨q,hq,hn,o,c,rfl,ho,hlc⟩ | ⟨hnone,rfl,rfl⟩
    ·obtain ⟨b',hb',hR⟩:=hs.blk id q hq;rw [hb] at hb'; cases hb';obtain ⟨h1,h2⟩:=hR.cell htr;have hlen:(tr.sub (lo*esz) (len*esz)).length=len*esz:=by
      rw [<-TRow.length_cells,TRow.sub_cells,dV,kX,tr.length_cells];rw [gL] at hn; omega
     refine ⟨hlen,.inr ⟨q.r,o,c,rfl,hlc,oS _,λ i v hv=>?_,(hs.base id q hq).2⟩⟩;have hi:=(iT.1 hv).1;rw [TRow.length_cells,hlen] at hi;have hlo:o=lo*esz:=by
      rcases ho with ho | ho
      ·rw [ho] at hi; omega
      ·exact ho
     rw [TRow.sub_cells,List.getElem?_take_of_lt hi,mO] at hv;rw [hlo]; exact h2 _ v hv
    ·refine ⟨?_,.inl ⟨rfl,rfl⟩⟩;rw [<-TRow.length_cells,TRow.sub_cells]; simp
   ·simp at h
  ·simp at h
 ·rename_i id off ext;split at h
  ·rename_i b hb;split at h
   ·rename_i tr htr;simp at h; obtain ⟨rfl,rfl⟩:=h;refine ⟨?_,by simp⟩;obtain ⟨q,hq,ho,rfl⟩:=hx;obtain ⟨b',hb',hR⟩:=hs.blk id q hq;rw [hb] at hb'; cases hb';obtain ⟨h1,h2⟩:=hR.cell htr;exact ⟨by omega,q.r,0,by rw [bS],oS _,λ i v hv=>by rw [bS]; exact h2 i v hv,(hs.base id q hq).2⟩
   ·simp at h
  ·simp at h
 ·split at h
  ·rename_i hr;simp at h; obtain ⟨rfl,rfl⟩:=h;exact ⟨hx.chg hr λ b _=>oS b,λ _=>⟨rfl,hr⟩⟩
  ·simp at h
theorem xD (hs:Rel B w0 ρ s a w):∀ {xs ys:List AV} {bo:Bool} {vs:List Value},AVRs w ρ xs vs->kY s xs=some (ys,bo) ->
  AVRs w (P0 λ _=>False) ys vs /\ (bo=false->ys=xs /\ ∀ x ∈ xs,x.refs=[]):=by
 intro xs
 induction xs with
 | nil=>intro ys bo vs hx h; simp [kY] at h; obtain ⟨rfl,rfl⟩:=h; cases vs <;> simp_all [AVRs]
 | cons x r ih=>
  intro ys bo vs hx h
  match vs,hx with
  | v :: vs,⟨h1,h2⟩=>
   simp only [kY] at h;split at h
   ·rename_i y b ys' c hy hys;simp at h; obtain ⟨rfl,rfl⟩:=h;obtain ⟨q1,q2⟩:=Ss hs h1 hy;obtain ⟨q3,q4⟩:=ih h2 hys;refine ⟨⟨q1,q3⟩,λ hb=>?_⟩;simp only [Cv] at hb;obtain ⟨e1,e2⟩:=q2 hb.1;obtain ⟨e3,e4⟩:=q4 hb.2;exact ⟨by rw [e1,e3],λ z hz=>by
     rcases mR.1 hz with rfl | hz
     ·exact e2
     ·exact e4 z hz⟩
   ·simp at h
theorem AVRs.chg {ρ':Plc}:∀ {xs:List AV} {vs:List Value},AVRs w ρ xs vs->(∀ x ∈ xs,x.refs=[])->(∀ b,Foreign ρ b->Foreign ρ' b)->AVRs w ρ' xs vs:=by
 intro xs
 induction xs with
 | nil=>intro vs h _ _; cases vs <;> simp_all [AVRs]
 | cons x r ih=>
  intro vs h hr hf
  match vs,h with
  | v :: vs,⟨h1,h2⟩=>exact ⟨h1.chg (hr x (by simp)) hf,ih h2 (λ y hy=>hr y (by simp [hy])) hf⟩
def rO (P:Program):List AV->List TypeId->List AV
 | x :: r,t :: ts=>jV P t x :: rO P r ts
 | l,_=>l
theorem Ht:∀ {xs:List AV} {ts:List TypeId} {vs:List Value},AVRs w ρ xs vs->AVRs w ρ (rO P xs ts) vs:=by
 intro xs
 induction xs with
 | nil=>intro ts vs h; cases ts <;> exact h
 | cons x r ih=>
  intro ts vs h
  match ts with
  | []=>exact h
  | t :: ts=>
   match vs,h with
   | v :: vs,⟨h1,h2⟩=>exact ⟨jT h1,ih h2⟩
def oN (l:List Pl):List AV:=l.map λ p=>.s (.pl p)
theorem vO (l:List Pl) (h:∀ p ∈ l,∀ r n,p=.agg r n->r.length=n):AVRs w ρ (oN l) (l.map Pl.val):=by
 induction l with
 | nil=>trivial
 | cons p r ih=>exact ⟨⟨rfl,h p (by simp)⟩,ih λ q hq=>h q (by simp [hq])⟩
def Pl.noAgg:Pl->Bool
 | .agg _ _=>false
 | _=>true
theorem sN {l:List Pl} (h:l.all Pl.noAgg=true):∀ p ∈ l,∀ r n,p=.agg r n->r.length=n:=by
 intro p hp r n e;have:=rG.1 h p hp;subst e; simp [Pl.noAgg] at this
theorem AVRs.append {xs ys:List AV} {vs us:List Value} (h1:AVRs w ρ xs vs) (h2:AVRs w ρ ys us):AVRs w ρ (xs++ys) (vs++us):=by
 induction xs generalizing vs with
 | nil=>cases vs <;> simp_all [AVRs]
 | cons x r ih=>match vs,h1 with
  | v :: vs,⟨q1,q2⟩=>exact ⟨q1,ih q2⟩
theorem MF:∀ {l:List AV} {ts:List TypeId},∀ i ∈ (rO P l ts).flatMap AV.refs,i ∈ l.flatMap AV.refs:=by
 intro l
 induction l with
 | nil=>intro ts i hi; cases ts <;> exact hi
 | cons x r ih=>
  intro ts i hi;cases ts with
  | nil=>exact hi
  | cons t ts=>
   simp only [rO,Ar,tO] at hi ⊢;exact hi.imp (λ h=>by rw [iE] at h; exact h) (λ h=>ih i h)
theorem Hu (l:List Pl):(oN l).flatMap AV.refs=[]:=by
 rw [Fv];intro x hx;obtain ⟨p,_,rfl⟩:=jZ.1 hx;rfl
abbrev KI:=List AV->St->Option (Bool × AV × St)
abbrev Efs:=FuncId->Option KI
def dR:Efs:=λ _=>none
def yX (P:Program) (f:FuncId) (F:KI):Prop:=∀ (B:Bs) (w0 w:World) (ρ:Plc) (s:St) (a:Act) (args:List AV) (vs:List Value) (av:AV) (s':St),
 Rel B w0 ρ s a w->AVRs w ρ args vs->(∀ x ∈ args,∀ id ∈ x.refs,Liv s id)->F args s=some (true,av,s') ->
  FAt P f vs.toArray w λ v w'=>∃ ρ',AVR w' ρ' av v /\ (∀ id ∈ av.refs,Liv s' id) /\ Rel B w0 ρ' s' a w'
def VV (c:Nat × Nat × Nat):AV:=.s (.ptr c.1 c.2.1 c.2.2)
theorem aIm:∀ {cs:List (Nat × Nat × Nat)} {vs:List Value},PtrRs ρ cs vs->AVRs w ρ (cs.map VV) vs:=by
 intro cs
 induction cs with
 | nil=>intro vs h; cases vs with
  | nil=>trivial
  | cons v vs=>exact h.elim
 | cons c cs ih=>
  intro vs h
  match vs,h with
  | v :: vs,⟨h1,h2⟩=>exact ⟨h1,ih h2⟩
def Er (c:TRow × Nat × Nat):AV:=.s (.rptr c.1 c.2.1 c.2.2)
theorem aBi:∀ {cs:List (TRow × Nat × Nat)} {vs:List Value},RptrRs w ρ cs vs->AVRs w ρ (cs.map Er) vs:=by
 intro cs
 induction cs with
 | nil=>intro vs h; cases vs with
  | nil=>trivial
  | cons v vs=>exact h.elim
 | cons c cs ih=>
  intro vs h
  match vs,h with
  | v :: vs,⟨h1,h2⟩=>exact ⟨h1,ih h2⟩
def CO (Γ:FuncId->Option Summ) (g:FuncId) (cs:List (TRow × Nat × Nat)) (args:List AV) (s:St) (K:AV->St->Option β):Option β :=
 match Γ g,kY s (args++cs.map Er) with
 | some A,some (ys,false)=>(A.run ys).bind λ t=>K (A.enc t) s
 | some A,some (ys,true)=>(A.run ys).bind λ t=>cond (A.enc t).bare (K (A.enc t) s) none
 | _,_=>none
def zL (P:Program) (Γ:FuncId->Option Summ) (g:FuncId) (first cap:List Pl) (args:List AV) (ts:List TypeId) (s:St) (K:AV->St->Option β):Option β :=
 match Γ g,kY s (oN first++(rO P args ts++oN cap)) with
 | some A,some (ys,false)=>cond (first.all Pl.noAgg && cap.all Pl.noAgg) ((A.run ys).bind λ t=>K (A.enc t) s) none
 | some A,some (ys,true)=>cond (first.all Pl.noAgg && cap.all Pl.noAgg) ((A.run ys).bind λ t=>cond (A.enc t).bare (K (A.enc t) s) none) none
 | _,_=>none
def B3 (P:Program) (Γ:FuncId->Option Summ) (E:Efs) (f:AV) (args:List AV) (ts:List TypeId) (s:St) (K:AV->St->Option β):Option β :=
 match f with
 | .c (.s (.clo g first cap)) => match E g with
  | some F => match F (oN first ++ (args ++ oN cap)) s with
    | some (b, av, s') => cond (first.all Pl.noAgg && cap.all Pl.noAgg) (cond b (K av s') none) none
    | none => zL P Γ g first cap args ts s K
  | none => zL P Γ g first cap args ts s K
 | .c (.s (.clop g cs)) => match E g with
  | some F => match F (args ++ cs.map VV) s with
    | some (b, av, s') => cond b (K av s') none
    | none => none
  | none => none
 | .c (.s (.clor g cs))=>CO Γ g cs args s K
 | _=>none
theorem MG {Γ:FuncId->Option Summ} (hΓ:∀ g A,Γ g=some A->CallOk P g A) {f:Operand} {args:List Operand} {K:AV->St->Option β} {o:Oper} {ats:Array TypeId} {ro:Option Nat} {n:Nat} {g:FuncId} {cs:List (TRow × Nat × Nat)}
  (ho:o.op=.call { callee:=.value f,args:=args.toArray,argTypes:=ats }) (hs:Rel B w0 ρ s a w) (hf:s.ev f=.c (.s (.clor g cs))) (h:CO Γ g cs (args.map s.ev) s K=some r) {next:Act->World->Prop} {Q:Exit->Act->World->Prop}
  (hn:∀ av v w' s' ρ',K av s'=some r->(∀ id ∈ av.refs,Liv s' id)->AVR w' ρ' av v->Rel B w0 ρ' s' a w'->next (a.put o.dst v) w'):o.wpIn (Fw ro) n P a w next Q:=by
 obtain ⟨vs,hfv,hp⟩:∃ vs:List Value,a.eval f=.func (.func g) #[] vs.toArray /\ RptrRs w ρ cs vs:=by
  have:=hs.ev f;rw [hf] at this;exact this
 have hargs:=hs.evs args;have hop:(execOp a.eval o).run P w=(callFunc g (args.map a.eval++vs).toArray).run P w:=by
  have e:args.toArray.map a.eval=(args.map a.eval).toArray:=by simp
  simp only [execOp,ho,resolve,hfv,Deferred.ofValue,e,Sem.run_bind,Sem.run_pure,Result.andThen_ok,invoke];simp
 have j8:∀ {R:Value->World->Prop},FAt P g (args.map a.eval++vs).toArray w R->(∀ v w',R v w'->next (a.put o.dst v) w')->o.wpIn (Fw ro) n P a w next Q:=by
  intro R hF hR;refine nC (by rw [ho]; simp) ?_;rw [hop];rcases hF with ⟨v,w',hr,hv⟩ | ⟨hr,hc⟩
  ·rw [hr,Oper.uponIn_value]; exact hR v w' hv
  ·rw [hr,Oper.uponIn_enter];refine ⟨sT,(Calls.fw hc).mono λ e w' he=>?_⟩;obtain ⟨v,rfl,hv⟩:=he;exact hR v w' hv
 have back:∀ w',Below w.heap.size w w'->Rel B w0 ρ s a w':=λ w' hb=>hs.ext hb.size (λ k hk=>hb.block k hk) (hs.below.trans (hb.mono hs.B_le));have hall:AVRs w ρ (args.map s.ev++cs.map Er) (args.map a.eval++vs):=hargs.append (aBi hp);unfold CO at h;split at h
 ·rename_i A ys hA hys;obtain ⟨q1,q2⟩:=xD hs hall hys;obtain ⟨rfl,hrefs⟩:=q2 rfl;obtain ⟨t,k0,k1⟩:=eQ.1 h;have k3:=hΓ g A hA _ _ k0;have hX:∀ b,((∃ id x,ρ id=some x /\ x.r=b) ∨ ρ.out b)->b < w.heap.size:=by
   rintro b (⟨id,x,hx,rfl⟩ | hb)
   ·exact (hs.base id x hx).2
   ·exact hs.ob b hb
  have hfor:∀ b,Foreign ρ b ↔ Foreign (P0 λ b=>(∃ id x,ρ id=some x /\ x.r=b) ∨ ρ.out b) b:=by
   intro b;constructor
   ·rintro ⟨g1,g2⟩;refine ⟨λ id x hx=>by simp [P0] at hx,?_⟩;rintro (⟨id,x,hx,hb⟩ | hb)
    ·exact g1 id x hx hb
    ·exact g2 hb
   ·rintro ⟨g1,g2⟩;exact ⟨λ id x hx hb=>g2 (.inl ⟨id,x,hx,hb⟩),λ hb=>g2 (.inr hb)⟩
  refine j8 (k3 w (λ b=>(∃ id x,ρ id=some x /\ x.r=b) ∨ ρ.out b) _ hX (hall.chg hrefs λ b=>(hfor b).1)) λ v w' hv=>?_;exact hn (A.enc t) v w' s ρ k1 (by rw [hv.2.1]; simp) (hv.1.chg hv.2.1 λ b=>(hfor b).2) (back w' hv.2.2)
 ·rename_i A ys hA hys;obtain ⟨q1,q2⟩:=xD hs hall hys;obtain ⟨t,k0,k1⟩:=eQ.1 h;have k3:=hΓ g A hA _ _ k0;obtain ⟨k4,k5⟩:=aY k1;refine j8 (k3 w (λ _=>False) _ (λ _ hb=>hb.elim) q1) λ v w' hv=>?_;exact hn (A.enc t) v w' s ρ k5 (by rw [hv.2.1]; simp) (hv.1.bare k4) (back w' hv.2.2)
 ·simp at h
theorem Pb {Γ:FuncId->Option Summ} {E:Efs} (hΓ:∀ g A,Γ g=some A->CallOk P g A) (hE:∀ g F,E g=some F->yX P g F) {f:Operand} {args:List Operand} {ts:List TypeId} {K:AV->St->Option β} {o:Oper} {ats:Array TypeId} {ro:Option Nat} {n:Nat}
  (ho:o.op=.call { callee:=.value f,args:=args.toArray,argTypes:=ats }) (hs:Rel B w0 ρ s a w) (h:B3 P Γ E (s.ev f) (args.map s.ev) ts s K=some r) {next:Act->World->Prop} {Q:Exit->Act->World->Prop}
  (hn:∀ av v w' s' ρ',K av s'=some r->(∀ id ∈ av.refs,Liv s' id)->AVR w' ρ' av v->Rel B w0 ρ' s' a w'->next (a.put o.dst v) w'):o.wpIn (Fw ro) n P a w next Q:=by
 unfold B3 at h;split at h
 case h_4=>simp at h
 case h_3 g cs hf=>exact MG hΓ ho hs hf h hn
 case h_2 g cs hf=>
  obtain ⟨vs,hfv,hp⟩:∃ vs:List Value,a.eval f=.func (.func g) #[] vs.toArray /\ PtrRs ρ cs vs:=by
   have:=hs.ev f;rw [hf] at this;exact this
  have hargs:=hs.evs args;have hop:(execOp a.eval o).run P w=(callFunc g (args.map a.eval++vs).toArray).run P w:=by
   have e:args.toArray.map a.eval=(args.map a.eval).toArray:=by simp
   simp only [execOp,ho,resolve,hfv,Deferred.ofValue,e,Sem.run_bind,Sem.run_pure,Result.andThen_ok,invoke];simp
  split at h
  ·rename_i F hF;split at h
   ·rename_i b av s' hFs;obtain ⟨rfl,h2⟩:=aY h;have hrefs:∀ x ∈ args.map s.ev++cs.map VV,∀ id ∈ x.refs,Liv s id:=by
     intro x hx id hid;rcases tO.1 hx with hx | hx
     ·obtain ⟨y,_,rfl⟩:=jZ.1 hx;exact hs.evr y id hid
     ·obtain ⟨c,hc,rfl⟩:=jZ.1 hx;have:=hs.evr f;rw [hf] at this;refine this id ?_;simp [VV,AV.refs,CV.refs,SV.refs] at hid ⊢;subst hid;exact ⟨_,_,hc⟩
    have k:=hE g F hF B w0 w ρ s a _ _ av s' hs (hargs.append (aIm hp)) hrefs hFs;refine nC (by rw [ho]; simp) ?_;rw [hop];rcases k with ⟨v,w',hr,ρ',g1,g2,g3⟩ | ⟨hr,hc⟩
    ·rw [hr,Oper.uponIn_value];exact hn av v w' s' ρ' h2 g2 g1 g3
    ·rw [hr,Oper.uponIn_enter];refine ⟨sT,(Calls.fw hc).mono λ e w' he=>?_⟩;obtain ⟨v,rfl,ρ',g1,g2,g3⟩:=he;exact hn av v w' s' ρ' h2 g2 g1 g3
   ·simp at h
  ·simp at h
 case h_1 g first cap hf=>
 have hfv:a.eval f=.func (.func g) (first.map Pl.val).toArray (cap.map Pl.val).toArray:=by
  have:=hs.ev f;rw [hf] at this;exact this
 have hargs:=hs.evs args;have hop:(execOp a.eval o).run P w=(callFunc g ((first.map Pl.val).toArray++(args.map a.eval).toArray++(cap.map Pl.val).toArray)).run P w:=by
  have e:args.toArray.map a.eval=(args.map a.eval).toArray:=by simp
  simp only [execOp,ho,resolve,hfv,Deferred.ofValue,e,Sem.run_bind,Sem.run_pure,Result.andThen_ok,invoke]
 have harr:(first.map Pl.val).toArray++(args.map a.eval).toArray++(cap.map Pl.val).toArray=(first.map Pl.val++(args.map a.eval++cap.map Pl.val)).toArray:=by simp
 rw [harr] at hop;have j8:∀ {R:Value->World->Prop},FAt P g (first.map Pl.val++(args.map a.eval++cap.map Pl.val)).toArray w R->(∀ v w',R v w'->next (a.put o.dst v) w')->o.wpIn (Fw ro) n P a w next Q:=by
  intro R hF hR;refine nC (by rw [ho]; simp) ?_;rw [hop];rcases hF with ⟨v,w',hr,hv⟩ | ⟨hr,hc⟩
  ·rw [hr,Oper.uponIn_value]; exact hR v w' hv
  ·rw [hr,Oper.uponIn_enter];refine ⟨sT,(Calls.fw hc).mono λ e w' he=>?_⟩;obtain ⟨v,rfl,hv⟩:=he;exact hR v w' hv
 have back:∀ w',Below w.heap.size w w'->Rel B w0 ρ s a w':=λ w' hb=>hs.ext hb.size (λ k hk=>hb.block k hk) (hs.below.trans (hb.mono hs.B_le));have back2:zL P Γ g first cap (args.map s.ev) ts s K=some r->o.wpIn (Fw ro) n P a w next Q:=by
  intro h;unfold zL at h;split at h
  ·rename_i A ys hA hys;obtain ⟨h1,h2⟩:=aY h;simp only [aX] at h1;have hall:AVRs w ρ (oN first++(rO P (args.map s.ev) ts++oN cap)) (first.map Pl.val++(args.map a.eval++cap.map Pl.val)) :=
    (vO first (sN h1.1)).append ((Ht hargs).append (vO cap (sN h1.2)))
   obtain ⟨q1,q2⟩:=xD hs hall hys;obtain ⟨rfl,hrefs⟩:=q2 rfl;obtain ⟨t,k0,k1⟩:=eQ.1 h2;have k3:=hΓ g A hA _ _ k0;have hX:∀ b,((∃ id x,ρ id=some x /\ x.r=b) ∨ ρ.out b)->b < w.heap.size:=by
    rintro b (⟨id,x,hx,rfl⟩ | hb)
    ·exact (hs.base id x hx).2
    ·exact hs.ob b hb
   have hfor:∀ b,Foreign ρ b ↔ Foreign (P0 λ b=>(∃ id x,ρ id=some x /\ x.r=b) ∨ ρ.out b) b:=by
    intro b;constructor
    ·rintro ⟨g1,g2⟩;refine ⟨λ id x hx=>by simp [P0] at hx,?_⟩;rintro (⟨id,x,hx,hb⟩ | hb)
     ·exact g1 id x hx hb
     ·exact g2 hb
    ·rintro ⟨g1,g2⟩;exact ⟨λ id x hx hb=>g2 (.inl ⟨id,x,hx,hb⟩),λ hb=>g2 (.inr hb)⟩
   refine j8 (k3 w (λ b=>(∃ id x,ρ id=some x /\ x.r=b) ∨ ρ.out b) _ hX (hall.chg hrefs λ b=>(hfor b).1)) λ v w' hv=>?_;exact hn (A.enc t) v w' s ρ k1 (by rw [hv.2.1]; simp) (hv.1.chg hv.2.1 λ b=>(hfor b).2) (back w' hv.2.2)
  ·rename_i A ys hA hys;obtain ⟨h1,h2⟩:=aY h;simp only [aX] at h1;have hall:AVRs w ρ (oN first++(rO P (args.map s.ev) ts++oN cap)) (first.map Pl.val++(args.map a.eval++cap.map Pl.val)) :=
    (vO first (sN h1.1)).append ((Ht hargs).append (vO cap (sN h1.2)))
   obtain ⟨q1,q2⟩:=xD hs hall hys;obtain ⟨t,k0,k1⟩:=eQ.1 h2;have k3:=hΓ g A hA _ _ k0;obtain ⟨k4,k5⟩:=aY k1;refine j8 (k3 w (λ _=>False) _ (λ _ hb=>hb.elim) q1) λ v w' hv=>?_;exact hn (A.enc t) v w' s ρ k5 (by rw [hv.2.1]; simp) (hv.1.bare k4) (back w' hv.2.2)
  ·simp at h
 split at h
 case h_2=>exact back2 h
 ·rename_i F hF;split at h
  case h_2=>exact back2 h
  rename_i bb av s' k0;obtain ⟨h1,h2⟩:=aY h;obtain ⟨h3,k1⟩:=aY h2;subst h3;simp only [aX] at h1;have hall:AVRs w ρ (oN first++(args.map s.ev++oN cap)) (first.map Pl.val++(args.map a.eval++cap.map Pl.val)) :=
   (vO first (sN h1.1)).append (hargs.append (vO cap (sN h1.2)))
  refine j8 (hE g F hF B w0 w ρ s a _ _ av s' hs hall ?_ k0) λ v w' ⟨ρ',q1,q2,q3⟩=>hn av v w' s' ρ' k1 q2 q1 q3;intro x hx id hid;have hmem:id ∈ (oN first++(args.map s.ev++oN cap)).flatMap AV.refs:=fG.2 ⟨x,hx,hid⟩;simp only [KB,Hu,rI,i8] at hmem;obtain ⟨y,hy,hid2⟩:=fG.1 hmem;obtain ⟨o',_,rfl⟩:=jZ.1 hy;exact hs.evr o' id hid2
end
end
noncomputable section
open Go Go.RowKit
set_option linter.all false
structure Cf where
 Γ:FuncId->Option Summ
 own:List Nat
 E:Efs
structure CfOk (P:Program) (c:Cf):Prop where
 g:∀ g A,c.Γ g=some A->CallOk P g A
 e:∀ g F,c.E g=some F->yX P g F
def Cf.quiet (c:Cf):Cf:={ c with E:=dR }
theorem CfOk.quiet {P:Program} {c:Cf} (h:CfOk P c):CfOk P c.quiet:=⟨h.g,λ g F hF=>by cases hF⟩
section
variable {P:Program} {B:Bs} {w0 w w':World} {ρ:Plc} {s:St} {a:Act} {β:Type} {r:β} {ro:Option Nat} {n:Nat}
def qK (c:Cf) (o:Oper):Bool :=
 match o.dst with
 | some d=>FR d c.own
 | none=>false
def j8 (o:Oper) (G:fE) (K:St->fE->Option β) (av:AV) (s':St):Option β :=
 match o.dst with
 | some d=>cond (Nat.blt d s'.sz) (K (s'.put d av) (tK d G)) none
 | none=>K s' G
def Fz (P:Program) (c:Cf) (G:fE) (o:Oper) (s:St) (K:St->fE->Option β):Option β :=
 match o.op with
 | .call { callee:=.value f,args,argTypes } =>B3 P c.Γ c.E (s.ev f) (args.toList.map s.ev) argTypes.toList s (j8 o G K)
 | _=>PW P (qK c o) G o s (j8 o G K)
def C9 (s:St) (o:Oper):Option Nat :=
 match o.dst with
 | some d=>cond (Nat.blt d s.nx) (match bU s.hp (s.nx - 1 - d) with
  | none=>some (s.nx - 1 - d)
  | some _=>none) none
 | none=>none
def oT (P:Program) (c:Cf) (G:fE) (o:Oper) (s:St) (K:St->fE->Option β):Option β :=
 match o.op with
 | .call { callee:=.value f,args,argTypes } =>B3 P c.Γ c.E (s.ev f) (args.toList.map s.ev) argTypes.toList s (j8 o G K)
 | .alloc T=>(C9 s o).bind λ k=>nR P k s.nx T s (j8 o G K)
 | .box T x=>(C9 s o).bind λ k=>qV k s.nx T s (s.ev x) (j8 o G K)
 | .makeSlice T l c=>(C9 s o).bind λ k=>rX P k s.nx T (s.ev l) (s.ev c) s (j8 o G K)
 | _=>PW P (qK c o) G o s (j8 o G K)
def Yq:Option AV->Option Pl
 | some (.c (.s (.pl p)))=>some p
 | _=>none
def evG (G:fE) (tg:Nat) (want:Bool) (s:St):Operand->AV
 | .tmp t=>match fV G t tg want with
  | some p=>.s (.pl p)
  | none=>s.ev (.tmp t)
 | x=>s.ev x
def aQH:BinOp->Bool
 | .quo | .rem | .shl | .shr=>false
 | _=>true
def Pc (P:Program) (G:fE) (tg:Nat) (want:Bool) (o:Oper) (s:St):Option Pl :=
 match o.op with
 | .move x=>match evG G tg want s x with
  | .c (.s (.pl (.raw _)))=>none
  | .c (.s (.pl p))=>some p
  | _=>none
 | .binOp op T x y _=>match evG G tg want s x,evG G tg want s y with
  | .c (.s (.pl (.int k m))),.c (.s (.pl (.int k' n)))=>match aQH op with
   | true=>Yq (JI P T op (.int k m) (.int k' n) some)
   | false=>none
  | .c (.s (.pl (.str m))),.c (.s (.pl (.str n)))=>match op with
   | .eql=>some (.bool (decide (m=n)))
   | .neq=>some (.bool (!decide (m=n)))
   | _=>none
  | .c (.s (.pl (.bool m))),.c (.s (.pl (.bool n)))=>Yq (JI P T op (.bool m) (.bool n) some)
  | _,_=>none
 | .unOp op _ x=>match evG G tg want s x with
  | .c (.s (.pl p))=>Yq (aUn op (.s (.pl p)) some)
  | _=>none
 | .convert src dst x=>match evG G tg want s x with
  | .c (.s (.pl (.int k m)))=>Yq (AO P src dst (.int k m) some)
  | _=>none
 | _=>none
def Gv:AV->Bool
 | .c (.s (.pl (.raw (.tuple _))))=>true
 | _=>false
def lK (o:Oper) (G:fE) (s:St) (K:St->fE->Option β):Option β :=
 match o.dst with
 | some d=>cond (Nat.blt d s.sz) (K (s.put d (.s (.pl (.raw undef)))) (tK d G)) none
 | none=>K s G
def pY (P:Program) (c:Cf) (G:fE) (tg:Nat) (want:Bool) (o:Oper) (s:St) (K:St->fE->Option β):Option β :=
 match s.get tg with
 | .c (.s (.pl (.bool b)))=>
  match want with
  | true=>cond b (oT P c G o (s.put tg (.bool true)) K) (lK o G (s.put tg (.bool false)) K)
  | false=>cond b (lK o G (s.put tg (.bool true)) K) (oT P c G o (s.put tg (.bool false)) K)
 | x=>match Gv x with
  | true=>lK o G s K
  | false=>none
def kD (P:Program) (c:Cf) (ops:Array Oper) (G:fE) (o:Oper) (s:St) (K:St->fE->Option β):Option β :=
 match o.guard with
 | none=>oT P c G o s K
 | some (j,want)=>match (ops[j]?).bind (·.dst) with
  | some tg=>cond (Nat.blt tg s.sz) (pY P c G tg want o s K) none
  | none=>none
def zM (G:fE) (tg:Nat) (want:Bool) (s:St):St :=
 match G with
 | []=>s
 | (d,u,w,p) :: r=>cond (Nat.beq u tg && (w == want) && Nat.blt d s.sz) ((zM r tg want s).put d (.s (.pl p))) (zM r tg want s)
def uY (d:Nat):fE->fE
 | []=>[]
 | (e,tg,want,p) :: r=>cond (Nat.beq e d) (uY d r) ((e,tg,want,p) :: uY d r)
theorem Su {d:Nat} {G:fE} {x:Nat × Nat × Bool × Pl} (h:x ∈ uY d G):x ∈ G:=by
 induction G with
 | nil=>simp [uY] at h
 | cons q r ih=>
  obtain ⟨e,u,w',p⟩:=q;simp only [uY] at h;cases hb:Nat.beq e d
  ·rw [hb] at h;rcases mR.1 h with h | h
   ·rw [h]; simp
   ·exact yQ _ (ih h)
  ·rw [hb] at h; exact yQ _ (ih h)
theorem GR.dropD {G:fE} {a:Act} (h:GR G a) (d:Nat):GR (uY d G) a:=λ e tg want p hm=>h e tg want p (Su hm)
def sO (P:Program) (c:Cf) (G:fE) (tg:Nat) (want:Bool) (o:Oper) (s:St) (K:St->fE->Option β):Option β :=
 match s.get tg with
 | .c (.s (.pl (.bool b)))=>
  match Pc P G tg want o s,o.dst with
  | some p,some d=>cond (Nat.blt d s.sz && !(Nat.beq d tg) && p.plain) (K (s.put d .junk) ((d,tg,want,p) :: tK d G)) none
  | _,_=>match want with
   | true=>cond b (Fz P c (uY tg G) o (zM G tg true (s.put tg (.bool true))) K) (lK o (uY tg G) (s.put tg (.bool false)) K)
   | false=>cond b (lK o (uY tg G) (s.put tg (.bool true)) K) (Fz P c (uY tg G) o (zM G tg false (s.put tg (.bool false))) K)
 | x=>match Gv x with
  | true=>lK o G s K
  | false=>none
def aIn:fE->Nat->Option (Nat × Bool × Pl)
 | [],_=>none
 | (d,u,w,p) :: r,t=>cond (Nat.beq d t) (some (u,w,p)) (aIn r t)
def aBk (P:Program) (c:Cf) (ops:Array Oper) (G:fE) (o:Oper) (s:St) (K:St->fE->Option β):Option β :=
 match o.guard with
 | none=>Fz P c G o s K
 | some (j,want)=>match (ops[j]?).bind (·.dst) with
  | some tg=>cond (Nat.blt tg s.sz) (match aIn G tg with
   | some (u,w',.bool q)=>match s.get u with
    | .c (.s (.pl (.bool b)))=>cond (Nat.blt u s.sz) (cond (b == w')
      (sO P c G tg want o ((zM G u w' (s.put u (.bool w'))).put tg (.bool q)) K)
      (sO P c G tg want o ((s.put u (.bool (!w'))).put tg (.s (.pl (.raw undef)))) K)) none
    | _=>sO P c G tg want o s K
   | _=>sO P c G tg want o s K) none
  | none=>none
def Yr (P:Program) (c:Cf) (ops:Array Oper):List Oper->fE->St->(St->Option β)->Option β
 | [],G,s,K=>K s
 | o :: rest,G,s,K=>aBk P c ops G o s λ s' G'=>Yr P c ops rest G' s' K
theorem MH {o:Oper} {G:fE} {K:St->fE->Option β} {av:AV} {s':St} {v:Value} {ρ':Plc} (h:j8 o G K av s'=some r) (hs:Rel B w0 ρ' s' a w') (hv:AVR w' ρ' av v) (hr:∀ id ∈ av.refs,Liv s' id) (hG:GR G a) :
  ∃ s2 G2,K s2 G2=some r /\ Rel B w0 ρ' s2 (a.put o.dst v) w' /\ GR G2 (a.put o.dst v):=by
 unfold j8 at h;split at h
 ·rename_i d hd;obtain ⟨h1,h2⟩:=aY h;have h1:d < s'.sz:=cF h1;exact ⟨_,_,h2,by rw [hd]; exact hs.put hv hr h1,by rw [hd]; exact hG.put d v⟩
 ·rename_i hd;exact ⟨_,_,h,by rw [hd]; exact hs,by rw [hd]; exact hG⟩
theorem aQI {own:Bool} {G:fE} {o:Oper} {K:AV->St->Option β} (h:PW P own G o s K=some r):∀ c,o.op ≠ .defer c:=by
 intro c e;unfold PW at h;rw [e] at h;simp at h
theorem aBl {G:fE} {tg:Nat} {want:Bool} {o:Oper} {p:Pl} (h:Pc P G tg want o s=some p):∀ c,o.op ≠ .defer c:=by
 intro c e;unfold Pc at h;rw [e] at h;simp at h
theorem tU {c:Cf} (hΓ:CfOk P c) {G:fE} {o:Oper} {K:St->fE->Option β} (hs:Rel B w0 ρ s a w) (hG:GR G a) (h:Fz P c G o s K=some r) {next:Act->World->Prop} {Q:Exit->Act->World->Prop}
  (hn:∀ s2 G2 a2 w2 ρ2,K s2 G2=some r->Rel B w0 ρ2 s2 a2 w2->GR G2 a2->next a2 w2):o.wpIn (Fw ro) n P a w next Q:=by
 unfold Fz at h;split at h
 ·rename_i f args ats ho;have e:args=args.toList.toArray:=by simp
  refine Pb hΓ.g hΓ.e (f:=f) (args:=args.toList) (ats:=ats) (ts:=ats.toList) (K:=j8 o G K) (by rw [<-e]; exact ho) hs h ?_;intro av v w' s' ρ' h1 h2 h3 h4;obtain ⟨s2,G2,q1,q2,q3⟩:=MH h1 h4 h3 h2 hG;exact hn s2 G2 _ _ ρ' q1 q2 q3
 ·obtain ⟨av,s',h1,n,v,w',ρ',h2,h3,h4,h5,h6⟩:=aAz hs hG h;refine nC (aQI h) ?_;rw [h2];rcases h3 with rfl | ⟨rfl,rfl⟩
  ·rw [Oper.uponIn_value];obtain ⟨s2,G2,q1,q2,q3⟩:=MH h1 h6 h4 h5 hG;exact hn s2 G2 _ _ ρ' q1 q2 q3
  ·rw [Oper.uponIn_skip];obtain ⟨s2,G2,q1,q2,q3⟩:=MH h1 h6 h4 h5 hG;exact hn s2 G2 _ _ ρ' q1 q2 q3
theorem DA {o:Oper} {k:Nat} (h:C9 s o=some k):k < s.nx /\ bU s.hp k=none:=by
 unfold C9 at h;split at h
 ·rename_i d _;obtain ⟨h1,h2⟩:=aY h;split at h2
  ·rename_i hl;have h1:d < s.nx:=cF h1;simp only [lF] at h2;subst h2;exact ⟨iI (Nat.sub_le _ _) (Nat.sub_lt (iI (pW _) h1) Nat.one_pos),hl⟩
  ·simp at h2
 ·simp at h
theorem Hv {o:Oper} {k:Nat} (h:C9 s o=some k):∀ j,Liv s j->j ≠ k:=by
 intro j hj e;subst e;obtain ⟨b,hb⟩:=hj.2;rw [(DA h).2] at hb; cases hb
theorem xF {c:Cf} (hΓ:CfOk P c) {G:fE} {o:Oper} {K:St->fE->Option β} (hs:Rel B w0 ρ s a w) (hG:GR G a) (h:oT P c G o s K=some r) {next:Act->World->Prop} {Q:Exit->Act->World->Prop}
  (hn:∀ s2 G2 a2 w2 ρ2,K s2 G2=some r->Rel B w0 ρ2 s2 a2 w2->GR G2 a2->next a2 w2):o.wpIn (Fw ro) n P a w next Q:=by
 have fall:Fz P c G o s K=some r->o.wpIn (Fw ro) n P a w next Q:=λ h=>tU hΓ hs hG h hn
 have key:(∀ c,o.op ≠ .defer c)->∀ {av s' v w' ρ'},j8 o G K av s'=some r->(∀ id ∈ av.refs,Liv s' id)->AVR w' ρ' av v->Rel B w0 ρ' s' a w'->(execOp a.eval o).run P w=.ok (.value v) w'->o.wpIn (Fw ro) n P a w next Q:=by
  intro hnd av s' v w' ρ' h1 h5 h4 h6 h2;refine nC hnd ?_;rw [h2,Oper.uponIn_value];obtain ⟨s2,G2,q1,q2,q3⟩:=MH h1 h6 h4 h5 hG;exact hn s2 G2 _ _ ρ' q1 q2 q3
 unfold oT at h;split at h
 ·rename_i f args ats ho;exact fall (by unfold Fz; rw [ho]; exact h)
 ·rename_i T ho;obtain ⟨k,hk,h⟩:=eQ.1 h;obtain ⟨av,s',w',ρ',v,q1,q2,q3,q4,q5⟩:=JQ hs (DA hk).1 (bV _) (Hv hk) h;exact key (by rw [ho]; simp) q1 q2 q3 q4 (by simp only [execOp,ho]; exact i5 q5)
 ·rename_i T x ho;obtain ⟨k,hk,h⟩:=eQ.1 h;obtain ⟨av,s',w',ρ',v,q1,q2,q3,q4,q5⟩:=OC (P:=P) hs (DA hk).1 (bV _) (Hv hk) (hs.ev x) (hs.evr x) h;exact key (by rw [ho]; simp) q1 q2 q3 q4 (by simp only [execOp,ho]; exact i5 q5)
 ·rename_i T l c ho;obtain ⟨k,hk,h⟩:=eQ.1 h;obtain ⟨av,s',w',ρ',v,q1,q2,q3,q4,q5⟩:=KS (P:=P) hs (DA hk).1 (bV _) (Hv hk) (hs.ev l) (hs.ev c) h;exact key (by rw [ho]; simp) q1 q2 q3 q4 (by simp only [execOp,ho]; exact i5 q5)
 ·rename_i hc _ _ _;refine fall ?_;unfold Fz;split
  ·rename_i f args ats ho;exact absurd ho (hc f args ats)
  ·exact h
theorem aQJ {G:fE} (hs:Rel B w0 ρ s a w) (hG:GR G a) {tg:Nat} {want:Bool} (hg:a.tmps.getD tg undef=.bool want) (x:Operand):AVR w ρ (evG G tg want s x) (a.eval x):=by
 unfold evG;split
 ·rename_i t;split
  ·rename_i p hp;have:=hG _ _ _ _ (Rg hp);refine ⟨this.2.1 hg,λ rr n e=>?_⟩;subst e; simp [Pl.plain] at this
  ·exact hs.ev (.tmp t)
 ·exact hs.ev x
theorem Ay {x:Option AV} {p:Pl} (h:Yq x=some p):x=some (.s (.pl p)):=by
 unfold Yq at h;split at h
 ·simp at h; subst h; rfl
 ·simp at h
theorem aBm {G:fE} (hs:Rel B w0 ρ s a w) (hG:GR G a) {tg:Nat} {want:Bool} (hg:a.tmps.getD tg undef=.bool want) {o:Oper} {p:Pl} (h:Pc P G tg want o s=some p) :
  (execOp a.eval o).run P w=.ok (.value p.val) w:=by
 have ev:=λ x=>aQJ hs hG hg (x:=x);unfold Pc at h;split at h
 ·rename_i x ho;split at h
  ·simp at h
  ·rename_i q _ hq;simp at h; subst h;have:=ev x;rw [hq] at this;simp [execOp,ho,this.1]
  ·simp at h
 ·rename_i op T x y yt ho;have key:∀ {av:AV} {K:AV->Option AV},JI P T op (evG G tg want s x) (evG G tg want s y) some=some (.s (.pl p))->(execOp a.eval o).run P w=.ok (.value p.val) w:=by
   intro _ _ h;obtain ⟨av,z,q1,q2,q3,q4⟩:=Ci (P:=P) (ev x) (ev y) h;cases q1;simp only [execOp,ho];rw [i5 (q4 x y),q3.1]
  split at h
  ·rename_i k m k' n hx hy;split at h
   ·exact key (av:=.junk) (K:=some) (by rw [hx,hy]; exact Ay h)
   ·simp at h
  ·rename_i m n hx hy;split at h
   ·refine key (av:=.junk) (K:=some) ?_;rw [hx,hy];simp at h; subst h; rfl
   ·refine key (av:=.junk) (K:=some) ?_;rw [hx,hy];simp at h; subst h; rfl
   ·simp at h
  ·rename_i m n hx hy;exact key (av:=.junk) (K:=some) (by rw [hx,hy]; exact Ay h)
  ·simp at h
 ·rename_i op T x ho;split at h
  ·rename_i q hq;have h':aUn op (evG G tg want s x) some=some (.s (.pl p)):=by rw [hq]; exact Ay h
   obtain ⟨av,z,q1,q2,q3,q4⟩:=FI (P:=P) (ev x) h';cases q1;simp only [execOp,ho];rw [i5 q4,q3.1]
  ·simp at h
 ·rename_i src dst x ho;split at h
  ·rename_i k m hq;have h':AO P src dst (evG G tg want s x) some=some (.s (.pl p)):=by rw [hq]; exact Ay h
   obtain ⟨av,z,q1,q2,q3,q4⟩:=GM (P:=P) (ev x) h';cases q1;simp only [execOp,ho];rw [i5 q4,q3.1]
  ·simp at h
 ·simp at h
theorem DB {ops:Array Oper} {j tg:Nat} {b:Bool} (hj:(ops[j]?).bind (·.dst)=some tg) (hb:a.tmps.getD tg undef=.bool b):yielded ops a.tmps j=some b:=by
 unfold yielded;rw [hj];simp only [aC];have:a.tmps[tg]?=some (.bool b):=by
  simp only [Array.getD] at hb;split at hb
  ·rename_i h; simp [h]; exact hb
  ·simp [undef] at hb
 rw [this]
theorem B4 {ops:Array Oper} {j tg:Nat} {vs:Array Value} (hj:(ops[j]?).bind (·.dst)=some tg) (hb:a.tmps.getD tg undef=.tuple vs):yielded ops a.tmps j=none:=by
 unfold yielded;rw [hj];simp only [aC];cases h:a.tmps[tg]? with
 | none=>rfl
 | some v=>
  have:v=.tuple vs:=by
   obtain ⟨h1,h2⟩:=uP.1 h;simp only [Array.getD,h1,dif_pos] at hb;rw [<-h2]; exact hb
  subst this; rfl
theorem Rel.putSame {d:Nat} {x:AV} (h:Rel B w0 ρ s a w) (hx:AVR w ρ x (AM B a d)) (hr:∀ id ∈ x.refs,Liv s id):Rel B w0 ρ (s.put d x) a w:=by
 have hget:∀ t,(s.put d x).get t=if t=d then x else s.get t:=by
  intro t;by_cases e:t=d
  ·subst e; simp [St.get,St.put_eq,iD]
  ·simp [St.get,St.put_eq,iD,e]
 refine ⟨λ t=>?_,h.blk,h.lt,h.inj,h.base,h.size,h.df,h.below,h.b0,λ t id=>?_,h.rb,h.gh,h.ob,h.ox⟩
 ·rw [hget]; split
  ·rename_i e; subst e; exact hx
  ·exact h.tm t
 ·rw [hget]; split
  ·exact hr id
  ·exact h.rt t id
theorem sP {o:Oper} {G:fE} {K:St->fE->Option β} (h:lK o G s K=some r) (hs:Rel B w0 ρ s a w) (hG:GR G a) :
  ∃ s2 G2,K s2 G2=some r /\ Rel B w0 ρ s2 (a.put o.dst undef) w /\ GR G2 (a.put o.dst undef):=by
 unfold lK at h;split at h
 ·rename_i d hd;obtain ⟨h1,h2⟩:=aY h;have h1:d < s.sz:=cF h1;exact ⟨_,_,h2,by rw [hd]; exact hs.put ⟨rfl,λ _ _ e=>by cases e⟩ (by simp [AV.refs,CV.refs,SV.refs]) h1,by rw [hd]; exact hG.put d undef⟩
 ·rename_i hd;exact ⟨_,_,h,by rw [hd]; exact hs,by rw [hd]; exact hG⟩
theorem GR.cons {G:fE} {d tg:Nat} {want:Bool} {p:Pl} {v:Value} (hG:GR G a) (hp:p.plain=true) (hne:d ≠ tg) (hd:d < a.tmps.size) (hv:a.tmps.getD tg undef=.bool want->v=p.val) (hu:a.tmps.getD tg undef=.bool (!want)->v=undef):GR ((d,tg,want,p) :: tK d G) (a.put (some d) v):=by
 intro e tg' want' p' hm;rcases mR.1 hm with e1 | hm
 ·cases e1;refine ⟨hp,λ hg=>?_,λ hg=>?_⟩
  ·rw [mX (fX hne)] at hg;simp [Act.put,Array.getD,hd,hv hg]
  ·rw [mX (fX hne)] at hg;simp [Act.put,Array.getD,hd,hu hg]
 ·exact hG.put d v e tg' want' p' hm
theorem Hw {c:Cf} (hΓ:CfOk P c) {ops:Array Oper} {G:fE} {o:Oper} {K:St->fE->Option β} (hs:Rel B w0 ρ s a w) (hG:GR G a) (h:kD P c ops G o s K=some r) {next:Act->World->Prop} {Q:Exit->Act->World->Prop}
  (hn:∀ s2 G2 a2 w2 ρ2,K s2 G2=some r->Rel B w0 ρ2 s2 a2 w2->GR G2 a2->next a2 w2) :
  if Region.wanted o (yielded ops a.tmps) then o.wpIn (Fw ro) n P a w next Q else next (a.put o.dst undef) w:=by
 unfold kD at h;split at h
 ·rename_i hg;have:Region.wanted o (yielded ops a.tmps)=true:=by simp [Region.wanted,hg]
  rw [aT this];exact (xF hΓ hs hG h hn)
 ·rename_i j want hg;split at h
  ·rename_i tg htg;obtain ⟨hsz,h⟩:=aY h;have hsz':tg < s.sz:=cF hsz;have hwant:∀ b,a.tmps.getD tg undef=.bool b->Region.wanted o (yielded ops a.tmps)=(b == want):=by
    intro b hb;simp only [Region.wanted,hg,DB htg hb];cases b <;> cases want <;> rfl
   unfold pY at h;split at h
   ·rename_i b hb;have hreal:a.tmps.getD tg undef=.bool b:=by
     have:=hs.tmL (t:=tg) hsz';rw [hb] at this; exact this.1
    have hlit:∀ q:Bool,b=q->Rel B w0 ρ (s.put tg (.bool q)) a w:=λ q e=>hs.putSame (by rw [k7 (by rw [hs.size]; exact hsz'),hreal,e]; exact AVR.bool _) (by simp [AV.refs,CV.refs,SV.refs]);rw [hwant b hreal];split at h
    ·cases b
     ·obtain ⟨s2,G2,q1,q2,q3⟩:=sP h (hlit false rfl) hG;simp only [An,mB,show (false == true)=false from rfl];exact hn _ _ _ _ ρ q1 q2 q3
     ·simp only [Ba,jM];exact (xF hΓ (hlit true rfl) hG h hn)
    ·cases b
     ·simp only [Ba,jM];exact (xF hΓ (hlit false rfl) hG h hn)
     ·obtain ⟨s2,G2,q1,q2,q3⟩:=sP h (hlit true rfl) hG;simp only [An,mB,show (true == false)=false from rfl];exact hn _ _ _ _ ρ q1 q2 q3
   ·split at h
    ·rename_i hu;have hreal:∃ vs,a.tmps.getD tg undef=.tuple vs:=by
      unfold Gv at hu;split at hu
      ·rename_i vs he;have:=hs.tmL (t:=tg) hsz';rw [he] at this; exact ⟨vs,this.1⟩
      ·simp at hu
     obtain ⟨vs,hvs⟩:=hreal;have:Region.wanted o (yielded ops a.tmps)=false:=by
      simp [Region.wanted,hg,B4 htg hvs]
     rw [this];simp only [An,mB];obtain ⟨s2,G2,q1,q2,q3⟩:=sP h hs hG;exact hn _ _ _ _ ρ q1 q2 q3
    ·simp at h
  ·simp at h
theorem aBn {G:fE} {tg:Nat} {want:Bool}:(zM G tg want s).sz=s.sz:=by
 induction G with
 | nil=>rfl
 | cons q r ih=>
  obtain ⟨d,u,w',p⟩:=q;simp only [zM];cases (Nat.beq u tg && (w' == want) && Nat.blt d s.sz)
  ·exact ih
  ·exact ih
theorem Hx {G:fE} {tg:Nat} {want:Bool} (hg:a.tmps.getD tg undef=.bool want) (hs:Rel B w0 ρ s a w) (hG:GR G a):Rel B w0 ρ (zM G tg want s) a w:=by
 induction G with
 | nil=>exact hs
 | cons q r ih=>
  obtain ⟨d,u,w',p⟩:=q;have ih:=ih λ e tg' want' p' hm=>hG e tg' want' p' (yQ _ hm);simp only [zM];cases hc:(Nat.beq u tg && (w' == want) && Nat.blt d s.sz)
  ·exact ih
  ·simp only [aX] at hc;obtain ⟨⟨h1,h2⟩,h3⟩:=hc;have h1:u=tg:=aS h1;have h2:w'=want:=by simpa using h2
   have h3:d < s.sz:=cF h3;subst h1; subst h2;obtain ⟨k1,k2,_⟩:=hG d u w' p (by simp);refine ih.putSame ?_ (by simp [AV.refs,CV.refs,SV.refs]);rw [k7 (by rw [hs.size]; exact h3),k2 hg];exact ⟨rfl,λ rr n e=>by subst e; simp [Pl.plain] at k1⟩
theorem lX {c:Cf} (hΓ:CfOk P c) {ops:Array Oper} {G:fE} {o:Oper} {j tg:Nat} {want:Bool} (hg:o.guard=some (j,want)) (htg:(ops[j]?).bind (·.dst)=some tg) (hsz':tg < s.sz) {K:St->fE->Option β} (hs:Rel B w0 ρ s a w) (hG:GR G a) (h:sO P c G tg want o s K=some r) {next:Act->World->Prop} {Q:Exit->Act->World->Prop}
  (hn:∀ s2 G2 a2 w2 ρ2,K s2 G2=some r->Rel B w0 ρ2 s2 a2 w2->GR G2 a2->next a2 w2) :
  if Region.wanted o (yielded ops a.tmps) then o.wpIn (Fw ro) n P a w next Q else next (a.put o.dst undef) w:=by
 have hwant:∀ b,a.tmps.getD tg undef=.bool b->Region.wanted o (yielded ops a.tmps)=(b == want):=by
  intro b hb;simp only [Region.wanted,hg,DB htg hb];cases b <;> cases want <;> rfl
 unfold sO at h;split at h
 ·rename_i b hb;have hreal:a.tmps.getD tg undef=.bool b:=by
   have:=hs.tmL (t:=tg) hsz';rw [hb] at this; exact this.1
  have hlit:∀ q:Bool,b=q->Rel B w0 ρ (s.put tg (.bool q)) a w:=λ q e=>hs.putSame (by rw [k7 (by rw [hs.size]; exact hsz'),hreal,e]; exact AVR.bool _) (by simp [AV.refs,CV.refs,SV.refs]);rw [hwant b hreal];split at h
  ·rename_i p d hp hd;obtain ⟨h1,h2⟩:=aY h;simp only [aX] at h1;obtain ⟨⟨c1,c2⟩,c3⟩:=h1;have c1:d < s.sz:=cF c1;have c2:d ≠ tg:=by
    intro e; subst e; simp at c2
   have hda:d < a.tmps.size:=by rw [hs.size]; exact c1
   by_cases hbw:b=want
   ·subst hbw;have hrun:=aBm hs hG hreal hp;simp only [Ba,jM];refine nC (aBl hp) ?_;rw [hrun,Oper.uponIn_value];refine hn _ _ _ _ ρ h2 ?_ ?_
    ·rw [hd]; exact hs.put trivial (by simp [AV.refs,CV.refs,SV.refs]) c1
    ·rw [hd]; exact hG.cons c3 c2 hda (λ _=>rfl) (λ hg=>by rw [hreal] at hg; cases b <;> cases hg)
   ·have:(b == want)=false:=by simpa using hbw
    rw [this];simp only [An,mB];refine hn _ _ _ _ ρ h2 ?_ ?_
    ·rw [hd]; exact hs.put trivial (by simp [AV.refs,CV.refs,SV.refs]) c1
    ·rw [hd]; exact hG.cons c3 c2 hda (λ hg=>by rw [hreal] at hg; cases hg; exact absurd rfl hbw) (λ _=>rfl)
  ·split at h
   ·cases b
    ·obtain ⟨s2,G2,q1,q2,q3⟩:=sP h (hlit false rfl) (hG.dropD tg);simp only [An,mB,show (false == true)=false from rfl];exact hn _ _ _ _ ρ q1 q2 q3
    ·simp only [Ba,jM];exact (tU hΓ (Hx hreal (hlit true rfl) hG) (hG.dropD tg) h hn)
   ·cases b
    ·simp only [Ba,jM];exact (tU hΓ (Hx hreal (hlit false rfl) hG) (hG.dropD tg) h hn)
    ·obtain ⟨s2,G2,q1,q2,q3⟩:=sP h (hlit true rfl) (hG.dropD tg);simp only [An,mB,show (true == false)=false from rfl];exact hn _ _ _ _ ρ q1 q2 q3
 ·split at h
  ·rename_i hu;have hreal:∃ vs,a.tmps.getD tg undef=.tuple vs:=by
    unfold Gv at hu;split at hu
    ·rename_i vs he;have:=hs.tmL (t:=tg) hsz';rw [he] at this; exact ⟨vs,this.1⟩
    ·simp at hu
   obtain ⟨vs,hvs⟩:=hreal;have:Region.wanted o (yielded ops a.tmps)=false:=by
    simp [Region.wanted,hg,B4 htg hvs]
   rw [this];simp only [An,mB];obtain ⟨s2,G2,q1,q2,q3⟩:=sP h hs hG;exact hn _ _ _ _ ρ q1 q2 q3
  ·simp at h
theorem aBo {G:fE} {t u:Nat} {w:Bool} {p:Pl} (h:aIn G t=some (u,w,p)):(t,u,w,p) ∈ G:=by
 induction G with
 | nil=>cases h
 | cons q r ih=>
  obtain ⟨d,u',w',p'⟩:=q;simp only [aIn] at h;cases hb:Nat.beq d t
  ·rw [hb] at h; exact yQ _ (ih h)
  ·rw [hb] at h;have:d=t:=aS hb;subst this; cases h; simp
theorem F0 {c:Cf} (hΓ:CfOk P c) {ops:Array Oper} {G:fE} {o:Oper} {K:St->fE->Option β} (hs:Rel B w0 ρ s a w) (hG:GR G a) (h:aBk P c ops G o s K=some r) {next:Act->World->Prop} {Q:Exit->Act->World->Prop}
  (hn:∀ s2 G2 a2 w2 ρ2,K s2 G2=some r->Rel B w0 ρ2 s2 a2 w2->GR G2 a2->next a2 w2) :
  if Region.wanted o (yielded ops a.tmps) then o.wpIn (Fw ro) n P a w next Q else next (a.put o.dst undef) w:=by
 unfold aBk at h;split at h
 ·rename_i hg;have:Region.wanted o (yielded ops a.tmps)=true:=by simp [Region.wanted,hg]
  rw [aT this];exact (tU hΓ hs hG h hn)
 ·rename_i j want hg;split at h
  ·rename_i tg htg;obtain ⟨hsz,h⟩:=aY h;have hsz':tg < s.sz:=cF hsz;split at h
   ·rename_i u w' q hgy;have hmem:=aBo hgy;split at h
    ·rename_i b hb;obtain ⟨hu,h⟩:=aY h;have hu':u < s.sz:=cF hu;have hreal:a.tmps.getD u undef=.bool b:=by
      have:=hs.tmL (t:=u) hu';rw [hb] at this; exact this.1
     obtain ⟨k1,k2,k3⟩:=hG tg u w' (.bool q) hmem;have hlit:Rel B w0 ρ (s.put u (.bool b)) a w:=hs.putSame (by rw [k7 (by rw [hs.size]; exact hu'),hreal]; exact AVR.bool _) (by simp [AV.refs,CV.refs,SV.refs]);by_cases hbw:b=w'
     ·subst hbw;simp only [Ba,aB] at h;have hz:(zM G u b (s.put u (.bool b))).sz=s.sz:=aBn;refine lX hΓ hg htg (by show tg < (zM G u b (s.put u (.bool b))).sz; rw [hz]; exact hsz') ((Hx hreal hlit hG).putSame ?_ (by simp [AV.refs,CV.refs,SV.refs])) hG h hn;rw [k7 (by rw [hs.size]; exact hsz'),k2 hreal];exact AVR.bool _
     ·have e:(b == w')=false:=by simpa using hbw
      have e2:b=!w':=by cases b <;> cases w' <;> simp_all
      rw [e] at h;simp only [aD] at h;rw [e2] at hlit hreal;refine lX hΓ hg htg (by exact hsz') (hlit.putSame ?_ (by simp [AV.refs,CV.refs,SV.refs])) hG h hn;rw [k7 (by rw [hs.size]; exact hsz'),k3 hreal];exact ⟨rfl,λ _ _ e=>by cases e⟩
    ·exact lX hΓ hg htg hsz' hs hG h hn
   ·exact lX hΓ hg htg hsz' hs hG h hn
  ·simp at h
theorem Sv {c:Cf} (hΓ:CfOk P c) {ops:Array Oper} {Q:Exit->Act->World->Prop} {K:St->Option β}:∀ (l:List Oper) {G:fE} {s:St} {a:Act} {w:World} {ρ:Plc},Rel B w0 ρ s a w->GR G a->Yr P c ops l G s K=some r ->
  (∀ s' a' w' ρ',K s'=some r->Rel B w0 ρ' s' a' w'->Q .normal a' w')->wpListIn (Fw ro) n P ops Q l a w:=by
 intro l
 induction l with
 | nil=>intro G s a w ρ hs hG h hQ; exact hQ s a w ρ h hs
 | cons o rest ih=>
  intro G s a w ρ hs hG h hQ;have h1:=F0 (ro:=ro) (n:=n) (Q:=Q) hΓ hs hG h λ s2 G2 a2 w2 ρ2 h1 h2 h3=>ih h2 h3 h1 hQ;unfold wpListIn;by_cases hw:Region.wanted o (yielded ops a.tmps)=true
  ·rw [aT hw] at h1 ⊢; exact h1
  ·rw [aW hw] at h1 ⊢; exact ⟨λ _ _=>trivial,h1⟩
end
end
noncomputable section
open Go Go.RowKit
set_option linter.all false
theorem bT {α γ:Type} (b:Bool) (x:Option α) (f:α->Option γ):(cond b x none).bind f=cond b (x.bind f) none:=by cases b <;> rfl
theorem mC {α γ:Type} (b:Bool) (x:Option α) (f:α->Option γ):(cond b none x).bind f=cond b none (x.bind f):=by cases b <;> rfl
theorem CQ {α γ:Type} (b:Bool) (x y:Option α) (f:α->Option γ):(cond b x y).bind f=cond b (x.bind f) (y.bind f):=by cases b <;> rfl
theorem jP {α:Type} (b:Bool) {x y:Option α} (h:x=y):cond b x none=cond b y none:=by rw [h]
theorem Hy {α:Type} (b:Bool) {x y:Option α} (h:x=y):cond b none x=cond b none y:=by rw [h]
theorem aBp {α:Type} (b:Bool) {x y u v:Option α} (h:x=u) (h2:y=v):cond b x y=cond b u v:=by rw [h,h2]
section
variable {P:Program} {s:St} {β:Type}
theorem Hz (T:TypeId) (x:AV) (K:AV->Option β):nP P T s x K=(nP P T s x some).bind K:=by
 unfold nP
 repeat' (first | rfl | (rw [bT]; refine jP _ ?_) | (rw [mC]; refine Hy _ ?_) | split)
theorem F1 (T:TypeId) (x:AV) (lo hi mx:Option AV) (K:AV->Option β):xZ P T x lo hi mx K=(xZ P T x lo hi mx some).bind K:=by
 unfold xZ
 repeat' (first | rfl | (rw [bT]; refine jP _ ?_) | (rw [mC]; refine Hy _ ?_) | split)
theorem Ys (T:TypeId) (op:BinOp) (x y:AV) (K:AV->Option β):JI P T op x y K=(JI P T op x y some).bind K:=by
 unfold JI N9 OA
 repeat' (first | rfl | (rw [bT]; refine jP _ ?_) | (rw [mC]; refine Hy _ ?_) | split)
theorem Pd (T:TypeId) (op:BinOp) (x y:AV) (K:AV->Option β):FS P T op x y K=(FS P T op x y some).bind K:=by
 unfold FS
 repeat' (first | rfl | (rw [bT]; refine jP _ ?_) | (rw [mC]; refine Hy _ ?_) | split)
theorem Pe (T:TypeId) (op:BinOp) (xs ys:List SV) (K:AV->Option β):FU P T op xs ys K=(FU P T op xs ys some).bind K:=by
 unfold FU
 repeat' (first | rfl | (rw [bT]; refine jP _ ?_) | (rw [mC]; refine Hy _ ?_) | split)
theorem MI (T:TypeId) (op:BinOp) (xs ys:List SV) (K:AV->Option β):BG P T op xs ys K=(BG P T op xs ys some).bind K:=by
 unfold BG
 repeat' (first | rfl | (rw [bT]; refine jP _ ?_) | (rw [mC]; refine Hy _ ?_) | split)
theorem H0 (T:TypeId) (op:BinOp) (x y:AV) (K:AV->Option β):GT P T op x y K=(GT P T op x y some).bind K:=by
 unfold GT;split
 ·exact Pe _ _ _ _ _
 ·exact Pd _ _ _ _ _
 ·exact MI _ _ _ _ _
 ·exact Ys _ _ _ _ _
theorem tV (T:TypeId) (x y:AV) (K:St->Option β):nQ P T s x y K=(nQ P T s x y some).bind K:=by
 unfold nQ
 repeat' (first | rfl | (rw [bT]; refine jP _ ?_) | (rw [mC]; refine Hy _ ?_) | split)
theorem Pf (op:UnOp) (x:AV) (K:AV->Option β):aUn op x K=(aUn op x some).bind K:=by
 unfold aUn
 repeat' (first | rfl | split)
theorem CR (a b:TypeId) (x:AV) (K:AV->Option β):AO P a b x K=(AO P a b x some).bind K:=by
 unfold AO
 repeat' (first | rfl | split)
theorem F2 (T:TypeId) (x:AV) (f:Nat) (K:AV->Option β):xX P T x f K=(xX P T x f some).bind K:=by
 unfold xX
 repeat' (first | rfl | (rw [bT]; refine jP _ ?_) | split)
theorem H3 (T:TypeId) (x:AV) (f:Nat) (K:AV->Option β):JS P T f x K=(JS P T f x some).bind K:=by
 unfold JS
 repeat' (first | rfl | (rw [bT]; refine jP _ ?_) | split)
theorem DC (T:TypeId) (x:AV) (f:Nat) (K:AV->Option β):rW P T x f K=(rW P T x f some).bind K:=by
 unfold rW
 repeat' (first | rfl | exact H3 _ _ _ _ | split)
theorem MJ (T:TypeId) (x i:AV) (K:AV->Option β):uK P T x i K=(uK P T x i some).bind K:=by
 unfold uK
 repeat' (first | rfl | exact H3 _ _ _ _ | (rw [bT]; refine jP _ ?_) | split)
theorem B5 (T:TypeId) (x i:AV) (K:AV->Option β):nS P T x i K=(nS P T x i some).bind K:=by
 unfold nS
 repeat' (first | rfl | exact MJ _ _ _ _ | (rw [bT]; refine jP _ ?_) | split)
theorem yY (T:TypeId) (x i:AV) (K:AV->Option β):jH P T x i K=(jH P T x i some).bind K:=by
 unfold jH
 repeat' (first | rfl | (rw [bT]; refine jP _ ?_) | split)
theorem zN (x:AV) (K:AV->Option β):k8 x K=(k8 x some).bind K:=by
 unfold k8
 repeat' (first | rfl | split)
theorem F3 (T:TypeId) (x:AV) (K:AV->Option β):xY P T x K=(xY P T x some).bind K:=by
 unfold xY;split
 ·rw [bT]; rfl
 ·rfl
theorem DD (fn:Fn) (x y:List AV) (K:AV->Option β):rY fn x y K=(rY fn x y some).bind K:=by
 unfold rY
 repeat' (first | rfl | split)
theorem B6 (x:AV) (i:Nat) (K:AV->Option β):nO x i K=(nO x i some).bind K:=by
 unfold nO
 repeat' (first | rfl | split)
theorem Kn (T:TypeId) (x:AV) (K:AV->Option β):OG P T x K=(OG P T x some).bind K:=by
 unfold OG
 repeat' (first | rfl | split)
theorem F4 (T:TypeId) (ps:List (Nat × AV)) (K:AV->Option β):x9 P T ps K=(x9 P T ps some).bind K:=by
 unfold x9
 repeat' (first | rfl | (rw [bT]; refine jP _ ?_) | split)
theorem DE (l:List AV) (K:AV->Option β):rZ l K=(rZ l some).bind K:=by
 unfold rZ
 repeat' (first | rfl | split)
theorem DF (l:List AV) (K:AV->Option β):sA l K=(sA l some).bind K:=by
 unfold sA
 repeat' (first | rfl | split)
theorem H4 (G:fE) (c x y:Operand) (K:AV->Option β):zA G s c x y K=(zA G s c x y some).bind K:=by
 unfold zA
 repeat' (first | rfl | (rw [CQ]; refine aBp _ ?_ ?_) | split)
def mD (av:AV) (s:St):Option (AV × St):=some (av,s)
theorem mT (k nx':Nat) (T:TypeId) (x:AV) (K:AV->St->Option β):qV k nx' T s x K=(qV k nx' T s x mD).bind λ p=>K p.1 p.2:=by
 unfold qV
 repeat' (first | rfl | split)
theorem pD (k nx':Nat) (T:TypeId) (K:AV->St->Option β):nR P k nx' T s K=(nR P k nx' T s mD).bind λ p=>K p.1 p.2:=by
 unfold nR
 repeat' (first | rfl | exact mT _ _ _ _ _ | split)
theorem Ko (T:TypeId) (x:AV) (K:AV->St->Option β):UZ T s x K=(UZ T s x mD).bind λ p=>K p.1 p.2:=by
 unfold UZ;exact mT _ _ _ _ _
theorem Pg (T:TypeId) (K:AV->St->Option β):FK P T s K=(FK P T s mD).bind λ p=>K p.1 p.2:=by
 unfold FK
 repeat' (first | rfl | exact Ko _ _ _ | split)
theorem rP (k nx':Nat) (T:TypeId) (x y:AV) (K:AV->St->Option β):rX P k nx' T x y s K=(rX P k nx' T x y s mD).bind λ p=>K p.1 p.2:=by
 unfold rX
 repeat' (first | rfl | (rw [bT]; refine jP _ ?_) | split)
theorem Sw (T:TypeId) (x y:AV) (K:AV->St->Option β):LY P T x y s K=(LY P T x y s mD).bind λ p=>K p.1 p.2:=by
 unfold LY
 repeat' (first | rfl | (rw [bT]; refine jP _ ?_) | split)
theorem Es (own:Bool) (T:TypeId) (len:Nat) (ps:List (Nat × AV)) (K:AV->St->Option β):iG P own T len ps s K=(iG P own T len ps s mD).bind λ p=>K p.1 p.2:=by
 unfold iG
 repeat' (first | rfl | (rw [bT]; refine jP _ ?_) | split)
theorem Ph (own:Bool) (a b:TypeId) (x:AV) (K:AV->St->Option β):yD P own a b x s K=(yD P own a b x s mD).bind λ p=>K p.1 p.2:=by
 unfold yD
 repeat' (first | rfl | (rw [bT]; refine jP _ ?_) | split)
 ·rw [CR,CR (K:=λ v=>mD v s)];cases AO P a b x some <;> rfl
theorem MK (T:TypeId) (K:AV->St->Option β):BF P T s K=(BF P T s mD).bind λ p=>K p.1 p.2:=by
 unfold BF
 repeat' (first | rfl | split)
theorem H5 (own:Bool) (T:TypeId) (x:AV) (K:AV->St->Option β):EH P own T x s K=(EH P own T x s mD).bind λ p=>K p.1 p.2:=by
 unfold EH;split
 ·exact MK _ _
 ·rfl
theorem ML (T:TypeId) (x y:AV) (K:AV->St->Option β):BD P T x y s K=(BD P T x y s mD).bind λ p=>K p.1 p.2:=by
 unfold BD
 repeat' (first | rfl | (rw [bT]; refine jP _ ?_) | split)
theorem F5 (Γ:FuncId->Option Summ) (g:FuncId) (first cap:List Pl) (args:List AV) (ts:List TypeId) (K:AV->St->Option β):zL P Γ g first cap args ts s K=(zL P Γ g first cap args ts s mD).bind λ p=>K p.1 p.2:=by
 unfold zL;split
 ·rw [bT]; refine jP _ ?_;rw [j6]; rfl
 ·rw [bT]; refine jP _ ?_;rw [j6];congr 1; funext t;rw [bT]; rfl
 ·rfl
theorem Pi (Γ:FuncId->Option Summ) (g:FuncId) (cs:List (TRow × Nat × Nat)) (args:List AV) (K:AV->St->Option β):CO Γ g cs args s K=(CO Γ g cs args s mD).bind λ p=>K p.1 p.2:=by
 unfold CO;split
 ·rw [j6]; rfl
 ·rw [j6];congr 1; funext t;rw [bT]; rfl
 ·rfl
theorem xG (Γ:FuncId->Option Summ) (E:Efs) (f:AV) (args:List AV) (ts:List TypeId) (K:AV->St->Option β):B3 P Γ E f args ts s K=(B3 P Γ E f args ts s mD).bind λ p=>K p.1 p.2:=by
 unfold B3;split
 ·split
  ·split
   ·rw [bT]; refine jP _ ?_;rw [bT]; rfl
   ·exact F5 _ _ _ _ _ _ _
  ·exact F5 _ _ _ _ _ _ _
 ·split
  ·split
   ·rw [bT]; rfl
   ·rfl
  ·rfl
 ·exact Pi _ _ _ _ _
 ·rfl
theorem eY {γ:Type} {f:∀ {δ:Type},(AV->Option δ)->Option δ} (hf:∀ {δ:Type} (K:AV->Option δ),f K=(f some).bind K) (K:AV->St->Option β):f (λ v=>K v s)=(f (λ v=>mD v s)).bind λ p=>K p.1 p.2:=by
 rw [hf (λ v=>K v s),hf (λ v=>mD v s),j6];rfl
theorem KJ (own:Bool) (b:Builtin) (ts:List TypeId) (xs:List AV) (K:AV->St->Option β):nU P own b ts xs s K=(nU P own b ts xs s mD).bind λ p=>K p.1 p.2:=by
 unfold nU;split
 ·exact eY (γ:=Unit) (f:=λ K=>OG P _ _ K) (λ K=>Kn _ _ K) K
 ·rw [bT]; refine jP _ ?_; exact ML _ _ _ _
 ·exact eY (γ:=Unit) (f:=λ K=>rZ _ K) (λ K=>DE _ K) K
 ·exact eY (γ:=Unit) (f:=λ K=>sA _ K) (λ K=>DF _ K) K
 ·unfold Xr;split
  ·split
   ·split
    ·rw [bT]; rfl
    ·rfl
   ·rfl
  ·rfl
 ·rfl
theorem vP (own:Bool) (G:fE) (o:Oper) (K:AV->St->Option β):PW P own G o s K=(PW P own G o s mD).bind λ p=>K p.1 p.2:=by
 unfold PW;split
 ·exact H5 _ _ _ _
 ·exact H5 _ _ _ _
 ·exact eY (γ:=Unit) (f:=λ K=>zA G s _ _ _ K) (λ K=>H4 _ _ _ _ K) K
 ·exact Pg _ _
 ·exact Ko _ _ _
 ·exact eY (γ:=Unit) (f:=λ K=>x9 P _ _ K) (λ K=>F4 _ _ K) K
 ·exact Es _ _ _ _ _
 ·exact eY (γ:=Unit) (f:=λ K=>nP P _ s _ K) (λ K=>Hz _ _ K) K
 ·rw [tV (K:=λ s'=>K .junk s'),tV (K:=λ s'=>mD .junk s'),j6]; rfl
 ·exact eY (γ:=Unit) (f:=λ K=>k8 _ K) (λ K=>zN _ K) K
 ·exact eY (γ:=Unit) (f:=λ K=>GT P _ _ _ _ K) (λ K=>H0 _ _ _ _ K) K
 ·exact eY (γ:=Unit) (f:=λ K=>aUn _ _ K) (λ K=>Pf _ _ K) K
 ·exact Ph _ _ _ _ _
 ·exact eY (γ:=Unit) (f:=λ K=>rY _ _ _ K) (λ K=>DD _ _ _ K) K
 ·exact Sw _ _ _ _
 ·exact eY (γ:=Unit) (f:=λ K=>xZ P _ _ _ _ _ K) (λ K=>F1 _ _ _ _ _ K) K
 ·exact eY (γ:=Unit) (f:=λ K=>xX P _ _ _ K) (λ K=>F2 _ _ _ K) K
 ·exact eY (γ:=Unit) (f:=λ K=>rW P _ _ _ K) (λ K=>DC _ _ _ K) K
 ·exact eY (γ:=Unit) (f:=λ K=>jH P _ _ _ K) (λ K=>yY _ _ _ K) K
 ·exact eY (γ:=Unit) (f:=λ K=>nS P _ _ _ K) (λ K=>B5 _ _ _ K) K
 ·exact eY (γ:=Unit) (f:=λ K=>nO _ _ K) (λ K=>B6 _ _ K) K
 ·exact KJ _ _ _ _ _
 ·exact eY (γ:=Unit) (f:=λ K=>xY P _ _ K) (λ K=>F3 _ _ K) K
 ·rfl
def lG (s:St) (G:fE):Option (St × fE):=some (s,G)
theorem zO (o:Oper) (G:fE) (K:St->fE->Option β) (av:AV) (s':St):j8 o G K av s'=(j8 o G lG av s').bind λ p=>K p.1 p.2:=by
 unfold j8
 repeat' (first | rfl | (rw [bT]; refine jP _ ?_) | split)
theorem zP (c:Cf) (G:fE) (o:Oper) (K:St->fE->Option β):oT P c G o s K=(oT P c G o s lG).bind λ p=>K p.1 p.2:=by
 unfold oT;split
 ·rw [xG (K:=j8 o G K),xG (K:=j8 o G lG),j6];congr 1; funext p; exact zO _ _ _ _ _
 ·rw [j6];congr 1; funext k;rw [pD (K:=j8 o G K),pD (K:=j8 o G lG),j6];congr 1; funext p; exact zO _ _ _ _ _
 ·rw [j6];congr 1; funext k;rw [mT (K:=j8 o G K),mT (K:=j8 o G lG),j6];congr 1; funext p; exact zO _ _ _ _ _
 ·rw [j6];congr 1; funext k;rw [rP (K:=j8 o G K),rP (K:=j8 o G lG),j6];congr 1; funext p; exact zO _ _ _ _ _
 ·rw [vP (K:=j8 o G K),vP (K:=j8 o G lG),j6];congr 1; funext p; exact zO _ _ _ _ _
theorem zR (o:Oper) (G:fE) (K:St->fE->Option β):lK o G s K=(lK o G s lG).bind λ p=>K p.1 p.2:=by
 unfold lK
 repeat' (first | rfl | (rw [bT]; refine jP _ ?_) | split)
theorem KK (c:Cf) (G:fE) (tg:Nat) (want:Bool) (o:Oper) (K:St->fE->Option β):pY P c G tg want o s K=(pY P c G tg want o s lG).bind λ p=>K p.1 p.2:=by
 unfold pY;split
 ·split
  ·rw [CQ]; exact aBp _ (zP _ _ _ _) (zR _ _ _)
  ·rw [CQ]; exact aBp _ (zR _ _ _) (zP _ _ _ _)
 ·split
  ·exact zR _ _ _
  ·rfl
theorem Yt (c:Cf) (ops:Array Oper) (G:fE) (o:Oper) (K:St->fE->Option β):kD P c ops G o s K=(kD P c ops G o s lG).bind λ p=>K p.1 p.2:=by
 unfold kD;split
 ·exact zP _ _ _ _
 ·split
  ·rw [bT]; exact jP _ (KK _ _ _ _ _ _)
  ·rfl
end
end
noncomputable section
open Go Go.RowKit
set_option linter.all false
inductive Kd where
 | pure | mem | wr | bad
 deriving DecidableEq
def cX (own:Bool):Op->Kd
 | .move _ | .assign _=>cond own .bad .pure
 | .pick .. | .binOp .. | .unOp .. | .extract .. | .field .. | .index .. | .fieldAddr .. | .indexAddr .. | .nilCheck _ | .makeFunc .. | .build .. | .slice .. | .sliceToArrayPointer ..=>.pure
 | .load ..=>.mem
 | .convert .. | .buildSlice ..=>cond own .bad .mem
 | .store .. | .alloc _ | .box .. | .makeSlice ..=>.wr
 | .call { callee:=.value _,.. } =>.mem
 | .call { callee:=.builtin .len,.. } | .call { callee:=.builtin .min,.. } | .call { callee:=.builtin .max,.. } =>.pure
 | _=>.bad
section
variable {P:Program} {s s2 s':St} {β:Type} {G G2:fE} {av:AV}
structure Ag (lk:List Tmp) (G:fE) (s:St) (G2:fE) (s2:St):Prop where
 get:∀ t ∈ lk,s.get t=s2.get t
 gf:∀ t ∈ lk,∀ tg ∈ lk,∀ w,fV G t tg w=fV G2 t tg w
 sz:s.sz=s2.sz
 nx:s.nx=s2.nx
theorem H6 {ops:Array Oper} {o:Oper} {t:Tmp} (h:.tmp t ∈ o.op.operands.toList):t ∈ o.looksAt ops:=by
 unfold Oper.looksAt;rw [tO];exact .inl (List.mem_filterMap.2 ⟨.tmp t,h,rfl⟩)
theorem Ag.evt {lk:List Tmp} (h:Ag lk G s G2 s2) {t:Tmp} (ht:t ∈ lk):s.ev (.tmp t)=s2.ev (.tmp t):=by
 show cond (Nat.blt t s.sz) (s.get t) .junk=cond (Nat.blt t s2.sz) (s2.get t) .junk;rw [h.sz,h.get t ht]
theorem Ag.ev {ops:Array Oper} {o:Oper} (h:Ag (o.looksAt ops) G s G2 s2) {x:Operand} (hx:x ∈ o.op.operands.toList):s.ev x=s2.ev x:=by
 cases x with
 | tmp t=>exact h.evt (H6 hx)
 | _=>rfl
theorem dJ {f g:∀ {δ:Type},(AV->Option δ)->Option δ} (hf:∀ {δ:Type} (K:AV->Option δ),f K=(f some).bind K) (hfg:∀ {δ:Type} (K:AV->Option δ),f K=g K) (h:f (λ v=>mD v s)=some (av,s')) :
  s'=s /\ g (λ v=>mD v s2)=some (av,s2):=by
 rw [hf] at h;obtain ⟨v,h1,h2⟩:=eQ.1 h;simp [mD] at h2;obtain ⟨rfl,rfl⟩:=h2;refine ⟨rfl,?_⟩;rw [<-hfg,hf,h1]; rfl
theorem H7 {lk:List Tmp} (h:Ag lk G s G2 s2) {tc:Nat} (hc:tc ∈ lk) {want:Bool} {x:Operand} (hx:∀ t,x=.tmp t->t ∈ lk):Od G s tc want x=Od G2 s2 tc want x:=by
 cases x with
 | tmp t=>simp only [Od,h.gf t (hx t rfl) tc hc,h.evt (hx t rfl)]
 | _=>rfl
theorem Pj {lk:List Tmp} (h:Ag lk G s G2 s2) {c x y:Operand} (hc:∀ t,c=.tmp t->t ∈ lk) (hx:∀ t,x=.tmp t->t ∈ lk) (hy:∀ t,y=.tmp t->t ∈ lk) (K:AV->Option β):zA G s c x y K=zA G2 s2 c x y K:=by
 have e1:s.ev x=s2.ev x:=by
  cases x with
  | tmp t=>exact h.evt (hx t rfl)
  | _=>rfl
 have e2:s.ev y=s2.ev y:=by
  cases y with
  | tmp t=>exact h.evt (hy t rfl)
  | _=>rfl
 cases c with
 | tmp tc=>
  have hm:=hc tc rfl;simp only [zA,h.evt hm,H7 h hm hx,H7 h hm hy,e1,e2]
 | _=>rfl
theorem aBq {ops:Array Oper} {o:Oper} {own:Bool} (hk:cX own o.op=.pure) (h:Ag (o.looksAt ops) G s G2 s2) (hr:PW P own G o s mD=some (av,s')) :
  s'=s /\ PW P own G2 o s2 mD=some (av,s2):=by
 have ev:∀ x ∈ o.op.operands.toList,s.ev x=s2.ev x:=λ x hx=>h.ev hx;have tm:∀ t,.tmp t ∈ o.op.operands.toList->t ∈ o.looksAt ops:=λ t ht=>H6 ht;unfold PW at hr ⊢;cases hop:o.op with
 | move x=>
  rw [hop] at hk hr ev;cases own
  ·simp only [Op.operands] at ev;have e:=ev x (by simp);simp only [EH,pC,mD] at hr ⊢;simp at hr; obtain ⟨rfl,rfl⟩:=hr;exact ⟨rfl,by rw [e]⟩
  ·simp [cX] at hk
 | assign x=>
  rw [hop] at hk hr ev;cases own
  ·simp only [Op.operands] at ev;have e:=ev x (by simp);simp only [EH,pC,mD] at hr ⊢;simp at hr; obtain ⟨rfl,rfl⟩:=hr;exact ⟨rfl,by rw [e]⟩
  ·simp [cX] at hk
 | pick c x y=>
  rw [hop] at hr tm;simp only [Op.operands] at tm;exact dJ (f:=λ K=>zA G s c x y K) (g:=λ K=>zA G2 s2 c x y K) (λ K=>H4 _ _ _ _ K)
   (λ K=>Pj h (λ t e=>tm t (by simp [e])) (λ t e=>tm t (by simp [e])) (λ t e=>tm t (by simp [e])) K) hr
 | binOp op T x y yt=>
  rw [hop] at hr ev;simp only [Op.operands] at ev;exact dJ (f:=λ K=>GT P T op (s.ev x) (s.ev y) K) (g:=λ K=>GT P T op (s2.ev x) (s2.ev y) K) (λ K=>H0 _ _ _ _ K) (λ K=>by rw [ev x (by simp),ev y (by simp)]) hr
 | unOp op T x=>
  rw [hop] at hr ev;simp only [Op.operands] at ev;exact dJ (f:=λ K=>aUn op (s.ev x) K) (g:=λ K=>aUn op (s2.ev x) K) (λ K=>Pf _ _ K) (λ K=>by rw [ev x (by simp)]) hr
 | extract x i=>
  rw [hop] at hr ev;simp only [Op.operands] at ev;exact dJ (f:=λ K=>nO (s.ev x) i K) (g:=λ K=>nO (s2.ev x) i K) (λ K=>B6 _ _ K) (λ K=>by rw [ev x (by simp)]) hr
 | field T x f=>
  rw [hop] at hr ev;simp only [Op.operands] at ev;exact dJ (f:=λ K=>rW P T (s.ev x) f K) (g:=λ K=>rW P T (s2.ev x) f K) (λ K=>DC _ _ _ K) (λ K=>by rw [ev x (by simp)]) hr
 | index T x i=>
  rw [hop] at hr ev;simp only [Op.operands] at ev;exact dJ (f:=λ K=>nS P T (s.ev x) (s.ev i) K) (g:=λ K=>nS P T (s2.ev x) (s2.ev i) K) (λ K=>B5 _ _ _ K) (λ K=>by rw [ev x (by simp),ev i (by simp)]) hr
 | fieldAddr T x f=>
  rw [hop] at hr ev;simp only [Op.operands] at ev;exact dJ (f:=λ K=>xX P T (s.ev x) f K) (g:=λ K=>xX P T (s2.ev x) f K) (λ K=>F2 _ _ _ K) (λ K=>by rw [ev x (by simp)]) hr
 | indexAddr T x i=>
  rw [hop] at hr ev;simp only [Op.operands] at ev;exact dJ (f:=λ K=>jH P T (s.ev x) (s.ev i) K) (g:=λ K=>jH P T (s2.ev x) (s2.ev i) K) (λ K=>yY _ _ _ K) (λ K=>by rw [ev x (by simp),ev i (by simp)]) hr
 | nilCheck x=>
  rw [hop] at hr ev;simp only [Op.operands] at ev;exact dJ (f:=λ K=>k8 (s.ev x) K) (g:=λ K=>k8 (s2.ev x) K) (λ K=>zN _ K) (λ K=>by rw [ev x (by simp)]) hr
 | sliceToArrayPointer T x=>
  rw [hop] at hr ev;simp only [Op.operands] at ev;exact dJ (f:=λ K=>xY P T (s.ev x) K) (g:=λ K=>xY P T (s2.ev x) K) (λ K=>F3 _ _ K) (λ K=>by rw [ev x (by simp)]) hr
 | makeFunc fn first cap=>
  rw [hop] at hr ev;simp only [Op.operands] at ev;have e1:first.toList.map s.ev=first.toList.map s2.ev:=Au λ x hx=>ev x (by simp at hx ⊢; exact .inl hx)
  have e2:cap.toList.map s.ev=cap.toList.map s2.ev:=Au λ x hx=>ev x (by simp at hx ⊢; exact .inr hx);exact dJ (f:=λ K=>rY fn (first.toList.map s.ev) (cap.toList.map s.ev) K) (g:=λ K=>rY fn (first.toList.map s2.ev) (cap.toList.map s2.ev) K) (λ K=>DD _ _ _ K) (λ K=>by rw [e1,e2]) hr
 | build T ps=>
  rw [hop] at hr ev;simp only [Op.operands] at ev;have e1:evps s ps=evps s2 ps:=Au λ x hx=>by rw [ev x.2 (by simp at hx ⊢; exact ⟨x.1,hx⟩)]
  exact dJ (f:=λ K=>x9 P T (evps s ps) K) (g:=λ K=>x9 P T (evps s2 ps) K) (λ K=>F4 _ _ K) (λ K=>by rw [e1]) hr
 | slice T x lo hi mx=>
  rw [hop] at hr ev;simp only [Op.operands] at ev;have e0:=ev x (by simp);have e1:nT s lo=nT s2 lo:=by cases lo with
   | none=>rfl
   | some y=>simp only [nT]; rw [ev y (by simp)]
  have e2:nT s hi=nT s2 hi:=by cases hi with
   | none=>rfl
   | some y=>simp only [nT]; rw [ev y (by simp)]
  have e3:nT s mx=nT s2 mx:=by cases mx with
   | none=>rfl
   | some y=>simp only [nT]; rw [ev y (by simp)]
  exact dJ (f:=λ K=>xZ P T (s.ev x) (nT s lo) (nT s hi) (nT s mx) K) (g:=λ K=>xZ P T (s2.ev x) (nT s2 lo) (nT s2 hi) (nT s2 mx) K) (λ K=>F1 _ _ _ _ _ K) (λ K=>by rw [e0,e1,e2,e3]) hr
 | call c=>
  rw [hop] at hk hr ev;obtain ⟨callee,args,ats⟩:=c;cases callee with
  | value f=>simp [cX] at hk
  | invoke r m=>simp [cX] at hk
  | builtin b=>
   simp only [Op.operands,Call.operands] at ev;have e1:args.toList.map s.ev=args.toList.map s2.ev:=Au λ x hx=>ev x (by simpa using hx);simp only [e1] at hr ⊢;cases b <;> simp only [cX,reduceCtorEq] at hk
   ·unfold nU at hr ⊢;split at hr
    ·rename_i t tr x hts hb hxs;exact dJ (f:=λ K=>OG P t x K) (g:=λ K=>OG P t x K) (λ K=>Kn _ _ K) (λ K=>rfl) hr
    all_goals first | (rename_i hb; cases hb; done) | (rename_i hb _; cases hb; done) | (rename_i hb _ _; cases hb; done) | skip
    ·simp at hr
   ·unfold nU at hr ⊢;exact dJ (f:=λ K=>sA (args.toList.map s2.ev) K) (g:=λ K=>sA (args.toList.map s2.ev) K) (λ K=>DF _ K) (λ K=>rfl) hr
   ·unfold nU at hr ⊢;exact dJ (f:=λ K=>rZ (args.toList.map s2.ev) K) (g:=λ K=>rZ (args.toList.map s2.ev) K) (λ K=>DE _ K) (λ K=>rfl) hr
 | _=>rw [hop] at hk; simp [cX] at hk; try (cases own <;> simp at hk)
end
end
noncomputable section
open Go Go.RowKit
set_option linter.all false
def pE (s:St):Nat->Nat ⊕ Option Blk
 | 0=>.inl s.nx
 | i+1=>.inr (bU s.hp i)
def Gw (s:St) (o:Oper):List Nat :=
 match o.dst with
 | some d=>[s.nx - 1 - d+1]
 | none=>[]
def iO (s:St) (o:Oper):List Nat :=
 match o.op with
 | .load _ x=>(s.ev x).refs.map (·+1)
 | .store _ x _=>(s.ev x).refs.map (·+1)
 | .alloc _ | .box .. | .makeSlice ..=>Gw s o
 | .convert _ _ x=>(s.ev x).refs.map (·+1)
 | .call { callee:=.value f,args,.. } =>((args.toList.map s.ev).flatMap AV.refs).map (·+1)
 | _=>[]
structure Ft (F:List Nat) (wr:Prop) (s s' s2 s2':St):Prop where
 tm:s'.tm=s.tm
 tm2:s2'.tm=s2.tm
 sz:s'.sz=s.sz
 sz2:s2'.sz=s2.sz
 nx:s'.nx=s.nx
 nx2:s2'.nx=s2.nx
 same:∀ c ∈ F,pE s' c=pE s2' c
 rest:∀ c,c ∉ F->pE s' c=pE s c
 rest2:∀ c,c ∉ F->pE s2' c=pE s2 c
 still:¬ wr->s'=s /\ s2'=s2
section
variable {P:Program} {s s2 s':St} {β:Type} {G G2:fE} {av:AV}
theorem Ft.id {F:List Nat} {wr:Prop} (h:∀ c ∈ F,pE s c=pE s2 c):Ft F wr s s s2 s2:=⟨rfl,rfl,rfl,rfl,rfl,rfl,h,λ _ _=>rfl,λ _ _=>rfl,λ _=>⟨rfl,rfl⟩⟩
theorem DG {l:List Nat} (h:∀ c ∈ l.map (·+1),pE s c=pE s2 c) {i:Nat} (hi:i ∈ l):bU s.hp i=bU s2.hp i:=by
 have:=h (i+1) (jZ.2 ⟨i,hi,rfl⟩);simpa [pE] using this
theorem Sx {T:TypeId} {x:AV} (h:∀ i ∈ x.refs,bU s.hp i=bU s2.hp i) (K:AV->Option β):nP P T s x K=nP P T s2 x K:=by
 unfold nP;split
 ·rename_i id off ext;rw [h id (by simp [AV.refs,CV.refs,SV.refs])]
 ·rfl
 ·rfl
 ·rfl
theorem MM {T:TypeId} {x:AV} (h:∀ i ∈ x.refs,bU s.hp i=bU s2.hp i):BE P T s x=BE P T s2 x:=by
 rw [<-iE (P:=P) (T:=T)] at h;unfold BE;generalize jV P T x=y at h;split <;> first | rfl | (rw [h _ (by simp [AV.refs,CV.refs,SV.refs])])
theorem MN {x:AV} (h:∀ i ∈ x.refs,bU s.hp i=bU s2.hp i):Ax s x=Ax s2 x:=by
 unfold Ax;split <;> first | rfl | (rw [h _ (by simp [AV.refs,CV.refs,SV.refs])])
theorem DH {l:List AV} (h:∀ i ∈ l.flatMap AV.refs,bU s.hp i=bU s2.hp i):kY s l=kY s2 l:=by
 induction l with
 | nil=>rfl
 | cons x r ih=>
  simp only [kY];rw [MN λ i hi=>h i (by simp [hi]),ih λ i hi=>h i (fG.2 (by obtain ⟨y,h1,h2⟩:=fG.1 hi; exact ⟨y,by simp [h1],h2⟩))]
theorem Sy {Γ:FuncId->Option Summ} {E:Efs} (hE:E=dR) {f:AV} {args:List AV} {ts:List TypeId} (h:∀ i ∈ args.flatMap AV.refs,bU s.hp i=bU s2.hp i) :
  B3 P Γ E f args ts s mD=some (av,s')->s'=s /\ B3 P Γ E f args ts s2 mD=some (av,s2):=by
 subst hE;intro hr;unfold B3 at hr ⊢;split at hr
 ·rename_i g first cap
  simp only [dR] at hr ⊢;unfold zL at hr ⊢;have e:kY s (oN first++(rO P args ts++oN cap))=kY s2 (oN first++(rO P args ts++oN cap)):=by
   refine DH λ i hi=>h i ?_;simp only [KB,Hu,rI,i8] at hi;exact MF i hi
  simp only [e] at hr;split at hr
  ·rename_i A ys hA hys;obtain ⟨h1,h2⟩:=aY hr;rw [h1];obtain ⟨t,k0,k1⟩:=eQ.1 h2;simp [mD] at k1;obtain ⟨rfl,rfl⟩:=k1;simp [k0,mD]
  ·rename_i A ys hA hys;obtain ⟨h1,h2⟩:=aY hr;rw [h1];obtain ⟨t,k0,k1⟩:=eQ.1 h2;obtain ⟨k2,k3⟩:=aY k1;simp [mD] at k3;obtain ⟨rfl,rfl⟩:=k3;simp [k0,k2,mD]
  ·simp at hr
 ·simp [dR] at hr
 ·rename_i g cs;unfold CO at hr ⊢;have e:kY s (args++cs.map Er)=kY s2 (args++cs.map Er):=by
   refine DH λ i hi=>h i ?_;have hz:(cs.map Er).flatMap AV.refs=[]:=by
    rw [Fv];intro x hx;obtain ⟨c,_,rfl⟩:=jZ.1 hx;rfl
   simpa only [KB,hz,i8] using hi
  simp only [e] at hr;split at hr
  ·rename_i A ys hA hys;obtain ⟨t,k0,k1⟩:=eQ.1 hr;simp [mD] at k1;obtain ⟨rfl,rfl⟩:=k1;simp [k0,mD,hA,hys]
  ·rename_i A ys hA hys;obtain ⟨t,k0,k1⟩:=eQ.1 hr;obtain ⟨k2,k3⟩:=aY k1;simp [mD] at k3;obtain ⟨rfl,rfl⟩:=k3;simp [k0,k2,mD,hA,hys]
  ·simp at hr
 ·simp at hr
theorem Pk {T:TypeId} {x v:AV} (hr:nQ P T s x v some=some s') :
  ∃ id b,x.refs=[id] /\ s'={ s with hp:=upd id b s.hp } /\ ∀ s2:St,bU s.hp id=bU s2.hp id->nQ P T s2 x v some=some { s2 with hp:=upd id b s2.hp }:=by
 unfold nQ at hr;simp only [St.setBlk_eq] at hr;split at hr
 ·rename_i id off ext;refine ⟨id,?_⟩;split at hr
  ·rename_i b hb hk hm;split at hr
   ·rename_i sv hsv;obtain ⟨h1,h2⟩:=aY hr;split at h2
    ·rename_i rr hrr;split at h2
     ·rename_i r' hr';simp at h2;refine ⟨_,rfl,h2.symm,λ s2 e=>?_⟩;unfold nQ; simp only [St.setBlk_eq];simp only [<-e,hb,hk,hm,hsv,hrr,hr',h1,aB]
     ·simp at h2
    ·rename_i l hl;simp at h2;refine ⟨_,rfl,h2.symm,λ s2 e=>?_⟩;unfold nQ; simp only [St.setBlk_eq];simp only [<-e,hb,hk,hm,hsv,hl,h1,aB]
   ·simp at hr
  ·rename_i b hb hk hm;split at hr
   ·rename_i u n;obtain ⟨h1,h2⟩:=aY hr;split at h2
    ·rename_i rr hrr;split at h2
     ·rename_i r' hr';simp at h2;refine ⟨_,rfl,h2.symm,λ s2 e=>?_⟩;unfold nQ; simp only [St.setBlk_eq];simp only [<-e,hb,hk,hm,hrr,hr',h1,aB]
     ·simp at h2
    ·rename_i l hl;simp at h2;refine ⟨_,rfl,h2.symm,λ s2 e=>?_⟩;unfold nQ; simp only [St.setBlk_eq];simp only [<-e,hb,hk,hm,hl,h1,aB]
   ·rename_i u;obtain ⟨h1,h2⟩:=aY hr;split at h2
    ·simp at h2
    ·rename_i l hl;simp at h2;refine ⟨_,rfl,h2.symm,λ s2 e=>?_⟩;unfold nQ; simp only [St.setBlk_eq];simp only [<-e,hb,hk,hm,hl,h1,aB]
   ·simp at hr
  ·simp at hr
 ·simp at hr
theorem Ft.store {id:Nat} {b:Blk} (h:bU s.hp id=bU s2.hp id):Ft [id+1] True s { s with hp:=upd id b s.hp } s2 { s2 with hp:=upd id b s2.hp }:=by
 refine ⟨rfl,rfl,rfl,rfl,rfl,rfl,?_,?_,?_,λ h=>(h trivial).elim⟩
 ·intro c hc;simp at hc; subst hc;simp [pE,cS]
 ·intro c hc;cases c with
  | zero=>rfl
  | succ i=>
   simp at hc;simp [pE,cS,hc]
 ·intro c hc;cases c with
  | zero=>rfl
  | succ i=>
   simp at hc;simp [pE,cS,hc]
theorem Ft.new {k:Nat} {b:Blk}:Ft [k+1] True s { s with hp:=(k,b) :: s.hp } s2 { s2 with hp:=(k,b) :: s2.hp }:=by
 refine ⟨rfl,rfl,rfl,rfl,rfl,rfl,?_,?_,?_,λ h=>(h trivial).elim⟩
 ·intro c hc;simp at hc; subst hc;simp [pE,bZ,bH]
 ·intro c hc;cases c with
  | zero=>rfl
  | succ i=>
   simp at hc;have:Nat.beq k i=false:=iP λ e=>hc e.symm;simp [pE,bZ,bH,this]
 ·intro c hc;cases c with
  | zero=>rfl
  | succ i=>
   simp at hc;have:Nat.beq k i=false:=iP λ e=>hc e.symm;simp [pE,bZ,bH,this]
theorem Ft.mono {F:List Nat} {s' s2':St} (h:Ft F True s s' s2 s2') (wr:Prop) (hw:wr):Ft F wr s s' s2 s2':=⟨h.tm,h.tm2,h.sz,h.sz2,h.nx,h.nx2,h.same,h.rest,h.rest2,λ e=>(e hw).elim⟩
theorem F6 {k:Nat} {T:TypeId} {x:AV} (hr:qV k s.nx T s x mD=some (av,s')):∃ s2',qV k s2.nx T s2 x mD=some (av,s2') /\ Ft [k+1] True s s' s2 s2':=by
 unfold qV at hr ⊢;split at hr
 ·simp [mD] at hr;obtain ⟨rfl,rfl⟩:=hr;refine ⟨_,?_,Ft.new⟩;simp [mD]
 ·simp at hr
theorem KL {k:Nat} {T:TypeId} (hr:nR P k s.nx T s mD=some (av,s')):∃ s2',nR P k s2.nx T s2 mD=some (av,s2') /\ Ft [k+1] True s s' s2 s2':=by
 unfold nR at hr ⊢;split at hr
 ·split at hr
  ·exact F6 hr
  ·simp at hr
 ·simp at hr
theorem MO {k:Nat} {T:TypeId} {l c:AV} (hr:rX P k s.nx T l c s mD=some (av,s')):∃ s2',rX P k s2.nx T l c s2 mD=some (av,s2') /\ Ft [k+1] True s s' s2 s2':=by
 unfold rX at hr ⊢;split at hr
 ·split at hr
  ·split at hr
   ·split at hr
    ·obtain ⟨h1,h2⟩:=aY hr;obtain ⟨h3,h4⟩:=aY h2;split at h4
     ·rename_i tr htr;simp [mD] at h4;obtain ⟨rfl,rfl⟩:=h4;rw [h1,aB,h3,aB];exact ⟨_,rfl,Ft.new⟩
     ·simp at h4
    ·simp at hr
   ·simp at hr
  ·simp at hr
 ·simp at hr
theorem CS {o:Oper} {k:Nat} (hn:s.nx=s2.nx) (hF:∀ c ∈ Gw s o,pE s c=pE s2 c) (h:C9 s o=some k):C9 s2 o=some k /\ Gw s o=[k+1]:=by
 unfold C9 Gw at *;split at h
 ·rename_i d hd;simp only [hd] at hF ⊢;have e:=hF (s.nx - 1 - d+1) (by simp);simp only [pE,Sum.inr.injEq] at e;obtain ⟨h1,h2⟩:=aY h;rw [<-hn,h1,<-e];split at h2
  ·rename_i hl;simp only [lF] at h2;subst h2;simp
  ·simp at h2
 ·simp at h
theorem Pm {src dst:TypeId} {x:AV} (h:∀ i ∈ x.refs,bU s.hp i=bU s2.hp i) (hr:yD P false src dst x s mD=some (av,s')):s'=s /\ yD P false src dst x s2 mD=some (av,s2):=by
 unfold yD at hr ⊢;split at hr
 ·split at hr
  ·rw [MM h] at hr;split at hr
   ·simp [mD] at hr;obtain ⟨rfl,rfl⟩:=hr;exact ⟨rfl,rfl⟩
   ·simp at hr
  ·simp at hr
 ·split at hr
  ·obtain ⟨h1,hr⟩:=aY hr;rw [h1];simp [mD] at hr;obtain ⟨rfl,rfl⟩:=hr;exact ⟨rfl,rfl⟩
  ·simp at hr
 ·exact dJ (f:=λ K=>AO P src dst x K) (g:=λ K=>AO P src dst x K) (λ K=>CR _ _ _ K) (λ K=>rfl) hr
theorem Et {T:TypeId} {len:Nat} {ps:List (Nat × AV)} (hr:iG P false T len ps s mD=some (av,s')):s'=s /\ iG P false T len ps s2 mD=some (av,s2):=by
 unfold iG at hr ⊢;split at hr
 ·split at hr
  ·split at hr
   ·obtain ⟨h1,hr⟩:=aY hr;rw [h1];split at hr
    ·split at hr
     ·obtain ⟨h2,hr⟩:=aY hr;simp only [h2,aB];split at hr
      ·simp_all
      ·simp [mD] at hr;obtain ⟨rfl,rfl⟩:=hr;exact ⟨rfl,by simp [*,mD]⟩
      ·obtain ⟨h3,hr⟩:=aY hr;simp [mD] at hr;obtain ⟨rfl,rfl⟩:=hr;exact ⟨rfl,by simp [*,mD]⟩
     ·simp at hr
    ·simp at hr
   ·simp at hr
  ·simp at hr
 ·simp at hr
theorem Pn {ops:Array Oper} {o:Oper} {own:Bool} (hk:cX own o.op ≠ .bad) (hnc:∀ f a t,o.op ≠ .call { callee:=.value f,args:=a,argTypes:=t }) (hna:∀ T,o.op ≠ .alloc T) (hnb:∀ T x,o.op ≠ .box T x) (hnm:∀ T x y,o.op ≠ .makeSlice T x y) (h:Ag (o.looksAt ops) G s G2 s2) (hF:∀ c ∈ iO s o,pE s c=pE s2 c) (hr:PW P own G o s mD=some (av,s')) :
  ∃ s2',PW P own G2 o s2 mD=some (av,s2') /\ Ft (iO s o) (cX own o.op=.wr) s s' s2 s2':=by
 have still:s'=s /\ PW P own G2 o s2 mD=some (av,s2)->∃ s2',PW P own G2 o s2 mD=some (av,s2') /\ Ft (iO s o) (cX own o.op=.wr) s s' s2 s2':=by
  rintro ⟨rfl,e⟩;exact ⟨s2,e,Ft.id hF⟩
 have ev:∀ x ∈ o.op.operands.toList,s.ev x=s2.ev x:=λ x hx=>h.ev hx;cases hp:cX own o.op with
 | bad=>exact absurd hp hk
 | pure=>exact hp ▸ still (aBq hp h hr)
 | mem=>
  rw [<-hp];apply still;unfold PW at hr ⊢;cases hop:o.op with
  | load T x=>
   rw [hop] at hr ev;simp only [iO,hop] at hF;simp only [Op.operands] at ev;have e:=ev x (by simp);exact dJ (f:=λ K=>nP P T s (s.ev x) K) (g:=λ K=>nP P T s2 (s2.ev x) K) (λ K=>Hz _ _ K) (λ K=>by rw [<-e]; exact Sx (λ i hi=>DG hF hi) K) hr
  | convert src dst x=>
   rw [hop] at hr ev hp;simp only [iO,hop] at hF;simp only [Op.operands] at ev;have e:=ev x (by simp);cases own
   ·simp only [<-e];exact Pm (λ i hi=>DG hF hi) hr
   ·simp [cX] at hp
  | buildSlice T len ps=>
   rw [hop] at hr ev hp;simp only [Op.operands] at ev;have e1:evps s ps=evps s2 ps:=Au λ x hx=>by rw [ev x.2 (by simp at hx ⊢; exact ⟨x.1,hx⟩)]
   cases own
   ·simp only [<-e1];exact Et hr
   ·simp [cX] at hp
  | call c=>
   obtain ⟨callee,args,ats⟩:=c;cases callee with
   | value f=>exact absurd hop (hnc _ _ _)
   | invoke r m=>rw [hop] at hp; simp [cX] at hp
   | builtin b=>rw [hop] at hp; cases b <;> simp [cX] at hp
  | move x=>rw [hop] at hp; cases own <;> simp [cX] at hp
  | assign x=>rw [hop] at hp; cases own <;> simp [cX] at hp
  | _=>rw [hop] at hp; simp [cX] at hp
 | wr=>
  unfold PW at hr ⊢;cases hop:o.op with
  | store T x v=>
   rw [hop] at hr ev;simp only [iO,hop] at hF;simp only [Op.operands] at ev;have e:=ev x (by simp);have e2:=ev v (by simp);simp only [<-e,<-e2];simp only [] at hr;rw [tV (K:=λ s'=>mD AV.junk s')] at hr;obtain ⟨s1,h1,h2⟩:=eQ.1 hr;simp [mD] at h2;obtain ⟨rfl,rfl⟩:=h2;obtain ⟨id,b,q1,q2,q3⟩:=Pk h1;have hl:bU s.hp id=bU s2.hp id:=DG hF (by rw [q1]; simp);refine ⟨{ s2 with hp:=upd id b s2.hp },?_,?_⟩
   ·rw [tV (K:=λ s'=>mD AV.junk s'),q3 s2 hl]; rfl
   ·simp only [iO,hop,q1,q2];exact (Ft.store hl).mono _ trivial
  | alloc T=>exact absurd hop (hna T)
  | box T x=>exact absurd hop (hnb T x)
  | makeSlice T x y=>exact absurd hop (hnm T x y)
  | call c=>
   obtain ⟨callee,args,ats⟩:=c;cases callee with
   | value f=>rw [hop] at hp; simp [cX] at hp
   | invoke r m=>rw [hop] at hp; simp [cX] at hp
   | builtin b=>rw [hop] at hp; cases b <;> simp [cX] at hp
  | move x=>rw [hop] at hp; cases own <;> simp [cX] at hp
  | assign x=>rw [hop] at hp; cases own <;> simp [cX] at hp
  | convert src dst x=>rw [hop] at hp; cases own <;> simp [cX] at hp
  | buildSlice T len ps=>rw [hop] at hp; cases own <;> simp [cX] at hp
  | _=>rw [hop] at hp; simp [cX] at hp
end
end
noncomputable section
open Go Go.RowKit
set_option linter.all false
structure Eff (o:Oper) (F:List Nat) (wr:Prop) (gt:Option Nat) (s:St) (G:fE) (s':St) (G':fE):Prop where
 sz:s'.sz=s.sz
 nx:s'.nx=s.nx
 get:∀ t,o.dst ≠ some t->s'.get t=s.get t
 rest:∀ c,c ∉ F->pE s' c=pE s c
 still:¬ wr->∀ c,pE s' c=pE s c
 g1:∀ t tg w,o.dst ≠ some t->o.dst ≠ some tg->fV G' t tg w=fV G t tg w
 g2:∀ t tg w,o.dst=some tg->fV G' t tg w=none
 g3:∀ d tg w p,o.dst=some d->fV G' d tg w=some p->gt=some tg
structure Same (o:Oper) (F:List Nat) (s':St) (G':fE) (s2':St) (G2':fE):Prop where
 get:∀ d,o.dst=some d->s'.get d=s2'.get d
 gf:∀ d tg w,o.dst=some d->fV G' d tg w=fV G2' d tg w
 vt:∀ c ∈ F,pE s' c=pE s2' c
structure Cong (o:Oper) (F:List Nat) (wr:Prop) (gt:Option Nat) (s:St) (G:fE) (s':St) (G':fE) (s2:St) (G2:fE) (s2':St) (G2':fE):Prop where
 e1:Eff o F wr gt s G s' G'
 e2:Eff o F wr gt s2 G2 s2' G2'
 sm:Same o F s' G' s2' G2'
section
variable {P:Program} {s s2 s':St} {β:Type} {G G2 G':fE} {av:AV} {ops:Array Oper} {o:Oper}
theorem dS (d:Nat) (G:fE) (t tg:Nat) (w:Bool):fV (tK d G) t tg w=if t=d ∨ tg=d then none else fV G t tg w:=by
 induction G with
 | nil=>simp [tK,fV]
 | cons q r ih=>
  obtain ⟨e,u,w',p⟩:=q;simp only [tK];cases hb:(Nat.beq e d || Nat.beq u d)
  ·simp only [Cv] at hb;have h1:e ≠ d:=λ h=>by subst h; simp at hb
   have h2:u ≠ d:=λ h=>by subst h; simp at hb
   simp only [aD,fV];cases hc:(Nat.beq e t && Nat.beq u tg && (w' == w))
   ·simp only [aD,ih]
   ·simp only [aX] at hc;have e1:e=t:=aS hc.1.1;have e2:u=tg:=aS hc.1.2;subst e1; subst e2;simp [h1,h2]
  ·simp only [aB,ih,fV];split
   ·rfl
   ·rename_i hn;have:(Nat.beq e t && Nat.beq u tg && (w' == w))=false:=by
     cases hc:(Nat.beq e t && Nat.beq u tg && (w' == w))
     ·rfl
     ·simp only [aX] at hc;have e1:e=t:=aS hc.1.1;have e2:u=tg:=aS hc.1.2;subst e1; subst e2;simp only [J7] at hb;rcases hb with hb | hb
      ·exact absurd (.inl (aS hb)) hn
      ·exact absurd (.inr (aS hb)) hn
    rw [this]; rfl
theorem lY (s:St) (d:Nat) (v:AV) (t:Nat):(s.put d v).get t=if t=d then v else s.get t:=by
 by_cases e:t=d
 ·subst e; simp [St.get,St.put_eq,iD]
 ·simp [St.get,St.put_eq,iD,e]
theorem iB (s:St) (d:Nat) (v:AV) (c:Nat):pE (s.put d v) c=pE s c:=by cases c <;> rfl
theorem MP {s s':St} (h:s'.tm=s.tm) (t:Nat):s'.get t=s.get t:=by simp [St.get,h]
theorem Po {tg:Nat} {x:AV} (h:s.get tg=x):(s.put tg x).ev=s.ev:=by
 funext y;cases y with
 | tmp t=>
  show cond (Nat.blt t s.sz) ((s.put tg x).get t) .junk=cond (Nat.blt t s.sz) (s.get t) .junk;have:(s.put tg x).get t=s.get t:=by
   rw [lY]; split
   ·rename_i e; subst e; exact h.symm
   ·rfl
  rw [this]
 | _=>rfl
theorem B7 {tg:Nat} {x:AV} (h:s.get tg=x) (o:Oper):iO (s.put tg x) o=iO s o:=by
 unfold iO; rw [Po h]; rfl
theorem Eff.base {F:List Nat} {wr:Prop} {gt:Option Nat} {s0:St} (h:Eff o F wr gt s G s' G') (hg:∀ t,s.get t=s0.get t) (hv:∀ c,pE s c=pE s0 c) (hz:s.sz=s0.sz) (hn:s.nx=s0.nx):Eff o F wr gt s0 G s' G' :=
 ⟨h.sz.trans hz,h.nx.trans hn,λ t ht=>(h.get t ht).trans (hg t),λ c hc=>(h.rest c hc).trans (hv c),λ hw c=>(h.still hw c).trans (hv c),h.g1,h.g2,h.g3⟩
theorem Eff.put_self {F:List Nat} {wr:Prop} {gt:Option Nat} {tg:Nat} {x:AV} (h:Eff o F wr gt (s.put tg x) G s' G') (hx:s.get tg=x):Eff o F wr gt s G s' G' :=
 h.base (λ t=>by rw [lY]; split <;> simp_all) (λ c=>iB s tg x c) rfl rfl
theorem vQ {F:List Nat} {wr:Prop} {gt:Option Nat} {s1 s1':St} {u:fE} (hF:Ft F wr s s1 s2 s1') (hsz:s.sz=s2.sz) (h:j8 o G lG av s1=some (s',G')) :
  ∃ s2' G2',j8 o G2 lG av s1'=some (s2',G2') /\ Cong o F wr gt s G s' G' s2 G2 s2' G2':=by
 unfold j8 at h ⊢;split at h
 ·rename_i d hd;obtain ⟨h1,h2⟩:=aY h;simp [lG] at h2;obtain ⟨rfl,rfl⟩:=h2;have hz:s1'.sz=s1.sz:=by rw [hF.sz2,hF.sz,hsz]
  refine ⟨s1'.put d av,tK d G2,by rw [hz,h1]; rfl,⟨hF.sz,hF.nx,?_,?_,?_,?_,?_,?_⟩,⟨hF.sz2,hF.nx2,?_,?_,?_,?_,?_,?_⟩,⟨?_,?_,?_⟩⟩
  ·intro t ht;rw [lY,aW (λ e=>ht (by rw [hd,e]))]; exact MP hF.tm t
  ·intro c hc; rw [iB]; exact hF.rest c hc
  ·intro hw c; rw [iB,(hF.still hw).1]
  ·intro t tg w ht hg;rw [dS,aW];rintro (e | e)
   ·exact ht (by rw [hd,e])
   ·exact hg (by rw [hd,e])
  ·intro t tg w hg;rw [hd] at hg; cases hg;rw [dS]; simp
  ·intro e tg w p he hg;rw [hd] at he; cases he;rw [dS] at hg; simp at hg
  ·intro t ht;rw [lY,aW (λ e=>ht (by rw [hd,e]))]; exact MP hF.tm2 t
  ·intro c hc; rw [iB]; exact hF.rest2 c hc
  ·intro hw c; rw [iB,(hF.still hw).2]
  ·intro t tg w ht hg;rw [dS,aW];rintro (e | e)
   ·exact ht (by rw [hd,e])
   ·exact hg (by rw [hd,e])
  ·intro t tg w hg;rw [hd] at hg; cases hg;rw [dS]; simp
  ·intro e tg w p he hg;rw [hd] at he; cases he;rw [dS] at hg; simp at hg
  ·intro e he;rw [hd] at he; cases he;rw [lY,lY,aT rfl,aT rfl]
  ·intro e tg w he;rw [hd] at he; cases he;rw [dS,dS]; simp
  ·intro c hc; rw [iB,iB]; exact hF.same c hc
 ·rename_i hd;simp [lG] at h;obtain ⟨rfl,rfl⟩:=h;refine ⟨s1',G2,rfl,⟨hF.sz,hF.nx,λ t _=>MP hF.tm t,hF.rest,λ hw c=>by rw [(hF.still hw).1],λ _ _ _ _ _=>rfl,?_,?_⟩,⟨hF.sz2,hF.nx2,λ t _=>MP hF.tm2 t,hF.rest2,λ hw c=>by rw [(hF.still hw).2],λ _ _ _ _ _=>rfl,?_,?_⟩,⟨?_,?_,hF.same⟩⟩
  all_goals intros; rename_i q; rw [hd] at *; first | contradiction | simp_all
def Eu (c:Cf) (o:Oper):Prop:=cX (qK c o) o.op=.wr
theorem F7 {c:Cf} (hE:c.E=dR) {gt:Option Nat} (hk:cX (qK c o) o.op ≠ .bad) (h:Ag (o.looksAt ops) G s G2 s2) (hF:∀ c ∈ iO s o,pE s c=pE s2 c) (hr:oT P c G o s lG=some (s',G')) :
  ∃ s2' G2',oT P c G2 o s2 lG=some (s2',G2') /\ Cong o (iO s o) (Eu c o) gt s G s' G' s2 G2 s2' G2':=by
 unfold oT at hr ⊢;cases hop:o.op with
 | call cl=>
  obtain ⟨callee,args,ats⟩:=cl;cases callee with
  | value f=>
   rw [hop] at hr;have hF':=hF;simp only [iO,hop] at hF';simp only [] at hr ⊢;rw [xG (K:=j8 o G lG)] at hr;obtain ⟨⟨av,s1⟩,h1,h2⟩:=eQ.1 hr;have ev:∀ x ∈ o.op.operands.toList,s.ev x=s2.ev x:=λ x hx=>h.ev hx;rw [hop] at ev;simp only [Op.operands,Call.operands] at ev;have ef:s.ev f=s2.ev f:=ev f (by simp);have ea:args.toList.map s.ev=args.toList.map s2.ev:=Au λ x hx=>ev x (by simp at hx ⊢; exact .inr hx);obtain ⟨rfl,q⟩:=Sy hE (λ i hi=>DG hF' hi) h1;obtain ⟨s2',G2',q1,q2⟩:=vQ (gt:=gt) (wr:=Eu c o) (u:=G) (G2:=G2) (Ft.id hF) h.sz h2;refine ⟨s2',G2',?_,q2⟩;rw [xG (K:=j8 o G2 lG),<-ef,<-ea,q];exact q1
  | builtin b=>
   rw [hop] at hr;simp only [] at hr ⊢;rw [vP (K:=j8 o G lG)] at hr;obtain ⟨⟨av,s1⟩,h1,h2⟩:=eQ.1 hr;obtain ⟨s1',q1,q2⟩:=Pn hk (λ f a t=>by rw [hop]; simp) (λ T=>by rw [hop]; simp) (λ T x=>by rw [hop]; simp) (λ T x y=>by rw [hop]; simp) h hF h1;obtain ⟨s2',G2',q3,q4⟩:=vQ (gt:=gt) (u:=G) (G2:=G2) q2 h.sz h2;rw [hop] at q4;refine ⟨s2',G2',?_,?_⟩
   ·rw [vP (K:=j8 o G2 lG),q1]; exact q3
   ·simp only [Eu,hop]; exact q4
  | invoke r m=>rw [hop] at hk; simp [cX] at hk
 | alloc T=>
  rw [hop] at hr;simp only [] at hr ⊢;obtain ⟨k,hk1,hr⟩:=eQ.1 hr;have hF':=hF;simp only [iO,hop] at hF';obtain ⟨n1,n2⟩:=CS h.nx hF' hk1;rw [pD (K:=j8 o G lG)] at hr;obtain ⟨⟨av,s1⟩,h1,h2⟩:=eQ.1 hr;obtain ⟨s1',q1,q2⟩:=KL (s2:=s2) h1;have q2':Ft (iO s o) (Eu c o) s s1 s2 s1':=by
   simp only [iO,hop,n2]; exact q2.mono _ (by simp [Eu,hop,cX])
  obtain ⟨s2',G2',q3,q4⟩:=vQ (gt:=gt) (u:=G) (G2:=G2) q2' h.sz h2;refine ⟨s2',G2',?_,q4⟩;rw [n1,aC,pD (K:=j8 o G2 lG),q1]; exact q3
 | box T x=>
  rw [hop] at hr;simp only [] at hr ⊢;obtain ⟨k,hk1,hr⟩:=eQ.1 hr;have hF':=hF;simp only [iO,hop] at hF';obtain ⟨n1,n2⟩:=CS h.nx hF' hk1;have ev:s.ev x=s2.ev x:=h.ev (by rw [hop]; simp [Op.operands]);rw [mT (K:=j8 o G lG)] at hr;obtain ⟨⟨av,s1⟩,h1,h2⟩:=eQ.1 hr;obtain ⟨s1',q1,q2⟩:=F6 (s2:=s2) h1;have q2':Ft (iO s o) (Eu c o) s s1 s2 s1':=by
   simp only [iO,hop,n2]; exact q2.mono _ (by simp [Eu,hop,cX])
  obtain ⟨s2',G2',q3,q4⟩:=vQ (gt:=gt) (u:=G) (G2:=G2) q2' h.sz h2;refine ⟨s2',G2',?_,q4⟩;rw [n1,aC,<-ev,mT (K:=j8 o G2 lG),q1]; exact q3
 | makeSlice T x y=>
  rw [hop] at hr;simp only [] at hr ⊢;obtain ⟨k,hk1,hr⟩:=eQ.1 hr;have hF':=hF;simp only [iO,hop] at hF';obtain ⟨n1,n2⟩:=CS h.nx hF' hk1;have ev:s.ev x=s2.ev x:=h.ev (by rw [hop]; simp [Op.operands]);have ev':s.ev y=s2.ev y:=h.ev (by rw [hop]; simp [Op.operands]);rw [rP (K:=j8 o G lG)] at hr;obtain ⟨⟨av,s1⟩,h1,h2⟩:=eQ.1 hr;obtain ⟨s1',q1,q2⟩:=MO (s2:=s2) h1;have q2':Ft (iO s o) (Eu c o) s s1 s2 s1':=by
   simp only [iO,hop,n2]; exact q2.mono _ (by simp [Eu,hop,cX])
  obtain ⟨s2',G2',q3,q4⟩:=vQ (gt:=gt) (u:=G) (G2:=G2) q2' h.sz h2;refine ⟨s2',G2',?_,q4⟩;rw [n1,aC,<-ev,<-ev',rP (K:=j8 o G2 lG),q1]; exact q3
 | _=>
  rw [hop] at hr;simp only [] at hr ⊢;rw [vP (K:=j8 o G lG)] at hr;obtain ⟨⟨av,s1⟩,h1,h2⟩:=eQ.1 hr;obtain ⟨s1',q1,q2⟩:=Pn hk (λ f a t=>by rw [hop]; simp) (λ T=>by rw [hop]; simp) (λ T x=>by rw [hop]; simp) (λ T x y=>by rw [hop]; simp) h hF h1;obtain ⟨s2',G2',q3,q4⟩:=vQ (gt:=gt) (u:=G) (G2:=G2) q2 h.sz h2;rw [hop] at q4;refine ⟨s2',G2',?_,?_⟩
  ·rw [vP (K:=j8 o G2 lG),q1]; exact q3
  ·simp only [Eu,hop]; exact q4
end
end
end Go.Eng
