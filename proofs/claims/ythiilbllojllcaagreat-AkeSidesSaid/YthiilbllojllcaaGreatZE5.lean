import Derived.LoopNIn
import Derived.Orders
import Derived.OrdersIn
import Derived.RangeFuncCalls
import Derived.RangeFuncNested
import Derived.TacticsIn
import Derived.Test.YthiilbllojllcaaGreatZE2
namespace Go.Eng
noncomputable section
open Go Go.RowKit
set_option linter.all false
def Fw (ro:Option Nat):Fence:={ fn:=λ _=>True,depth:=none,alive:=false,round:=ro }
theorem Calls.fw {ro:Option Nat} {n:Nat} {P:Program} {f:FuncId} {args:Array Value} {w:World} {R:Ending->World->Prop} (h:Go.Calls P f args w R):CallsIn (Fw ro) n P f args w R:=by
 cases ro with
 | none=>exact callsIn_wide.2 h
 | some l=>exact CallsIn.inRound l (callsIn_wide.2 h)
theorem uS {ro:Option Nat} {n:Nat} {P:Program} {o:Oper} {a:Act} {w:World} {next:Act->World->Prop} {Q:Exit->Act->World->Prop} (hnd:∀ c,o.op ≠ .defer c)
  (h:o.uponIn (Fw ro) n P a next Q ((execOp a.eval o).run P w)):o.wpIn (Fw ro) n P a w next Q :=
 ⟨λ _ _=>trivial,by
  show o.uponIn (Fw ro) n P a next Q ((o.semAt ro a.eval).run P w)
  rw [Oper.semAt_eq _ _ _ hnd]; exact h⟩
theorem CC {ro:Option Nat} {n:Nat}:(Fw ro).depth.isSome=true->1 <= n:=λ h=>by simp [Fw] at h
structure Summ where
 {T:Type}
 run:List AV->Option T
 enc:T->AV
def P0 (X:Nat->Prop):Plc:=⟨λ _=>none,X⟩
def FAt (P:Program) (f:FuncId) (args:Array Value) (w:World) (R:Value->World->Prop):Prop :=
 (∃ v w',(callFunc f args).run P w=.ok (.value v) w' /\ R v w') ∨ ((callFunc f args).run P w=.ok (.enter f args) w /\ Calls P f args w λ e w'=>∃ v,e=.returned v /\ R v w')
def CallOk (P:Program) (f:FuncId) (A:Summ):Prop:=∀ (args:List AV) (t:A.T),A.run args=some t ->
 ∀ (w:World) (X:Nat->Prop) (vs:List Value),(∀ b,X b->b < w.heap.size)->AVRs w (P0 X) args vs ->
  FAt P f vs.toArray w λ v w'=>AVR w' (P0 X) (A.enc t) v /\ (A.enc t).refs=[] /\ Below w.heap.size w w'
def SV.bare:SV->Bool
 | .pl _ | .clo _ _ _ | .junk=>true
 | _=>false
def SV.still:SV->Bool
 | .clor _ _ | .dat _ _ _ | .rptr _ _ _=>true
 | x=>x.bare
theorem SV.still_refs {x:SV} (h:x.still=true):x.refs=[]:=by
 cases x <;> first | rfl | simp [SV.still,SV.bare] at h
def CV.bare:CV->Bool
 | .s x=>x.bare
 | .mix l=>l.all SV.bare
 | _=>false
def AV.bare:AV->Bool
 | .c x=>x.bare
 | .tup l=>l.all CV.bare
section
variable {w w':World} {ρ ρ':Plc}
theorem SVR.bare {x:SV} {v:Value} (h:SVR w ρ x v) (hb:x.bare=true):SVR w' ρ' x v:=by
 cases x <;> first | exact h | simp [SV.bare] at hb
theorem CVR.bare {x:CV} {v:Value} (h:CVR w ρ x v) (hb:x.bare=true):CVR w' ρ' x v:=by
 cases x with
 | s x=>exact SVR.bare h hb
 | mix l=>
  obtain ⟨cs,e,h1,h2⟩:=h;exact ⟨cs,e,h1,λ i x v hx hv=>(h2 i x v hx hv).bare (uC.1 hb x (kQ hx))⟩
 | mdat l=>simp [CV.bare] at hb
 | mptr l o=>simp [CV.bare] at hb
 | rdat l n m=>simp [CV.bare] at hb
 | cdat l n=>simp [CV.bare] at hb
 | cptr l n=>simp [CV.bare] at hb
theorem AVR.bare {x:AV} {v:Value} (h:AVR w ρ x v) (hb:x.bare=true):AVR w' ρ' x v:=by
 cases x with
 | c x=>exact CVR.bare h hb
 | tup l=>
  obtain ⟨vs,e,h1,h2⟩:=h;exact ⟨vs,e,h1,λ i x v hx hv=>(h2 i x v hx hv).bare (uC.1 hb x (kQ hx))⟩
theorem SVR.chg {x:SV} {v:Value} (h:SVR w ρ x v) (hr:x.refs=[]) (hf:∀ b,Foreign ρ b->Foreign ρ' b):SVR w ρ' x v:=by
 cases x with
 | junk=>trivial
 | pl p=>exact h
 | clo f a b=>exact h
 | clop f cs=>
  obtain ⟨vs,e,h⟩:=h;have:cs=[]:=by
   have hr:cs.map Prod.fst=[]:=hr;exact List.map_eq_nil_iff.1 hr
  subst this;exact ⟨vs,e,h.same (by simp)⟩
 | clor f cs=>obtain ⟨vs,e,h⟩:=h; exact ⟨vs,e,h.map λ b o cs h1 h2 h3=>⟨hf b h1,h2,h3⟩⟩
 | ptr id o e=>simp [SV.refs] at hr
 | own id l e=>simp [SV.refs] at hr
 | sub id lo l e=>simp [SV.refs] at hr
 | dat r len esz=>
  obtain ⟨h1,h2⟩:=h;refine ⟨h1,?_⟩;rcases h2 with h2 | ⟨b,off,cap,e,hc,hf',hra,hb⟩
  ·exact .inl h2
  ·exact .inr ⟨b,off,cap,e,hc,hf b hf',hra,hb⟩
 | rptr r off ext=>
  obtain ⟨h1,b,o,e,hf',hra,hb⟩:=h;exact ⟨h1,b,o,e,hf b hf',hra,hb⟩
theorem xQ {l:List SV} (h:l.flatMap SV.refs=[]) {i:Nat} {x:SV} (hx:l[i]?=some x):x.refs=[]:=by
 rw [Ew] at h;exact h x (kQ hx)
theorem CVR.chg {x:CV} {v:Value} (h:CVR w ρ x v) (hr:x.refs=[]) (hf:∀ b,Foreign ρ b->Foreign ρ' b):CVR w ρ' x v:=by
 cases x with
 | s x=>exact SVR.chg h hr hf
 | mix l=>
  obtain ⟨cs,e,h1,h2⟩:=h;exact ⟨cs,e,h1,λ i x v hx hv=>(h2 i x v hx hv).chg (xQ hr hx) hf⟩
 | mdat l=>
  rcases h with h | ⟨b,off,cap,e,hc,hf',hra,hb⟩
  ·exact .inl h
  ·refine .inr ⟨b,off,cap,e,hc,hf b hf',λ i x hx=>?_,hb⟩;obtain ⟨v,h1,h2⟩:=hra i x hx;exact ⟨v,h1,h2.chg (xQ hr hx) hf⟩
 | mptr l o=>
  obtain ⟨h1,b,off,e,hf',hra,hb⟩:=h;refine ⟨h1,b,off,e,hf b hf',λ i x hx=>?_,hb⟩;obtain ⟨v,h1,h2⟩:=hra i x hx;exact ⟨v,h1,h2.chg (xQ hr hx) hf⟩
 | rdat l n m=>
  obtain ⟨h0,h⟩:=h;rcases h with h | ⟨b,off,cap,e,hc,hf',hra,hb⟩
  ·exact ⟨h0,.inl h⟩
  ·refine ⟨h0,.inr ⟨b,off,cap,e,hc,hf b hf',λ i x hx=>?_,hb⟩⟩;obtain ⟨v,h1,h2⟩:=hra i x hx;exact ⟨v,h1,h2.chg (xQ hr hx) hf⟩
 | cdat l n=>
  rcases h with h | ⟨b,off,cap,e,hc,hf',hra,hb⟩
  ·exact .inl h
  ·exact .inr ⟨b,off,cap,e,hc,hf b hf',hra,hb⟩
 | cptr l n=>
  obtain ⟨b,off,e,hf',hra,hb⟩:=h;exact ⟨b,off,e,hf b hf',hra,hb⟩
theorem AVR.chg {x:AV} {v:Value} (h:AVR w ρ x v) (hr:x.refs=[]) (hf:∀ b,Foreign ρ b->Foreign ρ' b):AVR w ρ' x v:=by
 cases x with
 | c x=>exact CVR.chg h hr hf
 | tup l=>
  obtain ⟨vs,e,h1,h2⟩:=h;refine ⟨vs,e,h1,λ i x v hx hv=>(h2 i x v hx hv).chg ?_ hf⟩;have:l.flatMap CV.refs=[]:=hr;rw [Ew] at this;exact this x (kQ hx)
end
section
variable {P:Program} {B:Bs} {w0 w w':World} {ρ:Plc} {s:St} {a:Act} {β:Type} {r:β}
def C6 (s:St) (x:AV):Option (AV × Bool) :=
 match x with
 | .c (.s (.own id len esz))=>match cG s.hp id with
  | some b=>match b.row with
   | .t r=>some (.s (.dat r len esz),true)
   | .mix l=>cond (l.all SV.still && Nat.beq esz 1 && Nat.beq l.length len) (some (.c (.mdat l),true)) (cond (l.all SV.still && Nat.beq l.length (Bw len esz)) (some (.c (.rdat l len esz),true)) none)
  | none=>none
 | .c (.s (.sub id lo len esz))=>match cG s.hp id with
  | some b=>match b.row with
   | .t r=>some (.s (.dat (r.sub (lo*esz) (len*esz)) len esz),true)
   | .mix l=>none
  | none=>none
 | .c (.s (.ptr id off ext))=>match cG s.hp id with
  | some b=>match b.row with
   | .t r=>some (.s (.rptr r off ext),true)
   | .mix l=>none
  | none=>none
 | x=>match x.refs with
  | []=>some (x,false)
  | _ :: _=>none
def mW (s:St):List AV->Option (List AV × Bool)
 | []=>some ([],false)
 | x :: r=>match C6 s x,mW s r with
  | some (y,b),some (ys,c)=>some (y :: ys,b || c)
  | _,_=>none
theorem mK (b:Nat):Foreign (P0 λ _=>False) b:=⟨λ id x h=>by simp [P0] at h,λ h=>h⟩
theorem Y4 {x y:AV} {bo:Bool} {v:Value} (hs:Rel B w0 ρ s a w) (hx:AVR w ρ x v) (h:C6 s x=some (y,bo)) :
  AVR w (P0 λ _=>False) y v /\ (bo=false->y=x /\ x.refs=[]):=by
 unfold C6 at h;split at h
 ·rename_i id len esz;split at h
  ·rename_i b hb;split at h
   ·rename_i tr htr;simp at h; obtain ⟨rfl,rfl⟩:=h;refine ⟨?_,by simp⟩;rcases hx with ⟨q,hq,rfl,hn,hc,hcm,hcz⟩ | ⟨hnone,rfl,rfl⟩
    ·obtain ⟨b',hb',hR⟩:=hs.blk id q hq;rw [hb] at hb'; cases hb';obtain ⟨h1,h2⟩:=hR.cell htr;refine ⟨by omega,.inr ⟨q.r,0,q.cap,rfl,hc,mK _,λ i v hv=>by rw [bT]; exact h2 i v hv,(hs.base id q hq).2⟩⟩
    ·have:=hs.gh id b hb hnone;rw [htr] at this;have this:tr.length=0:=this;exact ⟨by simpa using this,.inl ⟨rfl,rfl⟩⟩
   ·rename_i l hl;cases hcc:(l.all SV.still && Nat.beq esz 1 && Nat.beq l.length len) with
    | false=>
     rw [hcc,aE] at h;obtain ⟨h1,h2⟩:=bA h;rw [F5,aW] at h1;obtain ⟨c1,c3⟩:=h1;have c3:l.length=len*esz:=aT c3;simp at h2; obtain ⟨rfl,rfl⟩:=h2;refine ⟨⟨c3,?_⟩,by simp⟩;rcases hx with ⟨q,hq,rfl,hn,hc,hcm,hcz⟩ | ⟨hnone,hl0,rfl⟩
     ·obtain ⟨b',hb',hR⟩:=hs.blk id q hq;rw [hb] at hb'; cases hb';obtain ⟨h1,h2⟩:=hR.mcell hl;refine .inr ⟨q.r,0,q.cap,rfl,hc,mK _,λ i x hx=>?_,(hs.base id q hq).2⟩;obtain ⟨v,g1,g2⟩:=h2 i x hx;exact ⟨v,by rw [bT]; exact g1,g2.chg (SV.still_refs (uC.1 c1 x (kQ hx))) λ b _=>mK b⟩
     ·exact .inl ⟨hl0,rfl⟩
    | true=>
    rw [hcc,aB] at h;have h1:=hcc;have h2:=h;simp only [aW] at h1;obtain ⟨⟨c1,c2⟩,c3⟩:=h1;have c2:esz=1:=aT c2;have c3:l.length=len:=aT c3;simp at h2; obtain ⟨rfl,rfl⟩:=h2;refine ⟨?_,by simp⟩;rcases hx with ⟨q,hq,rfl,hn,hc,hcm,hcz⟩ | ⟨hnone,rfl,rfl⟩
    ·obtain ⟨b',hb',hR⟩:=hs.blk id q hq;rw [hb] at hb'; cases hb';obtain ⟨h1,h2⟩:=hR.mcell hl;refine .inr ⟨q.r,0,q.cap,by rw [c3],by omega,mK _,λ i x hx=>?_,(hs.base id q hq).2⟩;obtain ⟨v,g1,g2⟩:=h2 i x hx;exact ⟨v,by rw [bT]; exact g1,g2.chg (SV.still_refs (uC.1 c1 x (kQ hx))) λ b _=>mK b⟩
    ·exact .inl ⟨c3,rfl⟩
  ·simp at h
 ·rename_i id lo len esz;split at h
  ·rename_i b hb;split at h
   ·rename_i tr htr;simp at h; obtain ⟨rfl,rfl⟩:=h;refine ⟨?_,by simp⟩;rcases hx with ⟨q,hq,hn,o,c,rfl,ho,hlc⟩ | ⟨hnone,rfl,rfl⟩
    ·obtain ⟨b',hb',hR⟩:=hs.blk id q hq;rw [hb] at hb'; cases hb';obtain ⟨h1,h2⟩:=hR.cell htr;have hlen:(tr.sub (lo*esz) (len*esz)).length=len*esz:=by
      rw [<-TRow.length_cells,TRow.sub_cells,dH,lD,tr.length_cells];rw [fX] at hn; omega
     refine ⟨hlen,.inr ⟨q.r,o,c,rfl,hlc,mK _,λ i v hv=>?_,(hs.base id q hq).2⟩⟩;have hi:=(kC.1 hv).1;rw [TRow.length_cells,hlen] at hi;have hlo:o=lo*esz:=by
      rcases ho with ho | ho
      ·rw [ho] at hi; omega
      ·exact ho
     rw [TRow.sub_cells,List.getElem?_take_of_lt hi,nN] at hv;rw [hlo]; exact h2 _ v hv
    ·refine ⟨?_,.inl ⟨rfl,rfl⟩⟩;rw [<-TRow.length_cells,TRow.sub_cells]; simp
   ·simp at h
  ·simp at h
 ·rename_i id off ext;split at h
  ·rename_i b hb;split at h
   ·rename_i tr htr;simp at h; obtain ⟨rfl,rfl⟩:=h;refine ⟨?_,by simp⟩;obtain ⟨q,hq,ho,rfl⟩:=hx;obtain ⟨b',hb',hR⟩:=hs.blk id q hq;rw [hb] at hb'; cases hb';obtain ⟨h1,h2⟩:=hR.cell htr;exact ⟨by omega,q.r,0,by rw [bT],mK _,λ i v hv=>by rw [bT]; exact h2 i v hv,(hs.base id q hq).2⟩
   ·simp at h
  ·simp at h
 ·split at h
  ·rename_i hr;simp at h; obtain ⟨rfl,rfl⟩:=h;exact ⟨hx.chg hr λ b _=>mK b,λ _=>⟨rfl,hr⟩⟩
  ·simp at h
theorem AW (hs:Rel B w0 ρ s a w):∀ {xs ys:List AV} {bo:Bool} {vs:List Value},AVRs w ρ xs vs->mW s xs=some (ys,bo) ->
  AVRs w (P0 λ _=>False) ys vs /\ (bo=false->ys=xs /\ ∀ x ∈ xs,x.refs=[]):=by
 intro xs
 induction xs with
 | nil=>intro ys bo vs hx h; simp [mW] at h; obtain ⟨rfl,rfl⟩:=h; cases vs <;> simp_all [AVRs]
 | cons x r ih=>
  intro ys bo vs hx h
  match vs,hx with
  | v :: vs,⟨h1,h2⟩=>
   simp only [mW] at h;split at h
   ·rename_i y b ys' c hy hys;simp at h; obtain ⟨rfl,rfl⟩:=h;obtain ⟨q1,q2⟩:=Y4 hs h1 hy;obtain ⟨q3,q4⟩:=ih h2 hys;refine ⟨⟨q1,q3⟩,λ hb=>?_⟩;simp only [Es] at hb;obtain ⟨e1,e2⟩:=q2 hb.1;obtain ⟨e3,e4⟩:=q4 hb.2;exact ⟨by rw [e1,e3],λ z hz=>by
     rcases rQ.1 hz with rfl | hz
     ·exact e2
     ·exact e4 z hz⟩
   ·simp at h
theorem AVRs.chg {ρ':Plc}:∀ {xs:List AV} {vs:List Value},AVRs w ρ xs vs->(∀ x ∈ xs,x.refs=[])->(∀ b,Foreign ρ b->Foreign ρ' b)->AVRs w ρ' xs vs:=by
 intro xs
 induction xs with
 | nil=>intro vs h _ _; cases vs <;> simp_all [AVRs]
 | cons x r ih=>
  intro vs h hr hf
  match vs,h with
  | v :: vs,⟨h1,h2⟩=>exact ⟨h1.chg (hr x (by simp)) hf,ih h2 (λ y hy=>hr y (by simp [hy])) hf⟩
def uT (P:Program):List AV->List TypeId->List AV
 | x :: r,t :: ts=>lS P t x :: uT P r ts
 | l,_=>l
theorem MF:∀ {xs:List AV} {ts:List TypeId} {vs:List Value},AVRs w ρ xs vs->AVRs w ρ (uT P xs ts) vs:=by
 intro xs
 induction xs with
 | nil=>intro ts vs h; cases ts <;> exact h
 | cons x r ih=>
  intro ts vs h
  match ts with
  | []=>exact h
  | t :: ts=>
   match vs,h with
   | v :: vs,⟨h1,h2⟩=>exact ⟨lP h1,ih h2⟩
def qX (l:List Pl):List AV:=l.map λ p=>.s (.pl p)
theorem zO (l:List Pl) (h:∀ p ∈ l,∀ r n,p=.agg r n->r.length=n):AVRs w ρ (qX l) (l.map Pl.val):=by
 induction l with
 | nil=>trivial
 | cons p r ih=>exact ⟨⟨rfl,h p (by simp)⟩,ih λ q hq=>h q (by simp [hq])⟩
def Pl.noAgg:Pl->Bool
 | .agg _ _=>false
 | _=>true
theorem vM {l:List Pl} (h:l.all Pl.noAgg=true):∀ p ∈ l,∀ r n,p=.agg r n->r.length=n:=by
 intro p hp r n e;have:=uC.1 h p hp;subst e; simp [Pl.noAgg] at this
theorem AVRs.append {xs ys:List AV} {vs us:List Value} (h1:AVRs w ρ xs vs) (h2:AVRs w ρ ys us):AVRs w ρ (xs++ys) (vs++us):=by
 induction xs generalizing vs with
 | nil=>cases vs <;> simp_all [AVRs]
 | cons x r ih=>match vs,h1 with
  | v :: vs,⟨q1,q2⟩=>exact ⟨q1,ih q2⟩
theorem Rl:∀ {l:List AV} {ts:List TypeId},∀ i ∈ (uT P l ts).flatMap AV.refs,i ∈ l.flatMap AV.refs:=by
 intro l
 induction l with
 | nil=>intro ts i hi; cases ts <;> exact hi
 | cons x r ih=>
  intro ts i hi;cases ts with
  | nil=>exact hi
  | cons t ts=>
   simp only [uT,Cd,wT] at hi ⊢;exact hi.imp (λ h=>by rw [jO] at h; exact h) (λ h=>ih i h)
theorem MG (l:List Pl):(qX l).flatMap AV.refs=[]:=by
 rw [Ew];intro x hx;obtain ⟨p,_,rfl⟩:=lU.1 hx;rfl
abbrev Nd:=List AV->St->Option (Bool × AV × St)
abbrev Efs:=FuncId->Option Nd
def cX:Efs:=λ _=>none
def CD (P:Program) (f:FuncId) (F:Nd):Prop:=∀ (B:Bs) (w0 w:World) (ρ:Plc) (s:St) (a:Act) (args:List AV) (vs:List Value) (av:AV) (s':St),
 Rel B w0 ρ s a w->AVRs w ρ args vs->(∀ x ∈ args,∀ id ∈ x.refs,Liv s id)->F args s=some (true,av,s') ->
  FAt P f vs.toArray w λ v w'=>∃ ρ',AVR w' ρ' av v /\ (∀ id ∈ av.refs,Liv s' id) /\ Rel B w0 ρ' s' a w'
def aCq (c:Nat × Nat × Nat):AV:=.s (.ptr c.1 c.2.1 c.2.2)
theorem aS1:∀ {cs:List (Nat × Nat × Nat)} {vs:List Value},PtrRs ρ cs vs->AVRs w ρ (cs.map aCq) vs:=by
 intro cs
 induction cs with
 | nil=>intro vs h; cases vs with
  | nil=>trivial
  | cons v vs=>exact h.elim
 | cons c cs ih=>
  intro vs h
  match vs,h with
  | v :: vs,⟨h1,h2⟩=>exact ⟨h1,ih h2⟩
def Hs (c:TRow × Nat × Nat):AV:=.s (.rptr c.1 c.2.1 c.2.2)
theorem aLA:∀ {cs:List (TRow × Nat × Nat)} {vs:List Value},RptrRs w ρ cs vs->AVRs w ρ (cs.map Hs) vs:=by
 intro cs
 induction cs with
 | nil=>intro vs h; cases vs with
  | nil=>trivial
  | cons v vs=>exact h.elim
 | cons c cs ih=>
  intro vs h
  match vs,h with
  | v :: vs,⟨h1,h2⟩=>exact ⟨h1,ih h2⟩
def Eb (Γ:FuncId->Option Summ) (g:FuncId) (cs:List (TRow × Nat × Nat)) (args:List AV) (s:St) (K:AV->St->Option β):Option β :=
 match Γ g,mW s (args++cs.map Hs) with
 | some A,some (ys,false)=>(A.run ys).bind λ t=>K (A.enc t) s
 | some A,some (ys,true)=>(A.run ys).bind λ t=>cond (A.enc t).bare (K (A.enc t) s) none
 | _,_=>none
def CE (P:Program) (Γ:FuncId->Option Summ) (g:FuncId) (first cap:List Pl) (args:List AV) (ts:List TypeId) (s:St) (K:AV->St->Option β):Option β :=
 match Γ g,mW s (qX first++(uT P args ts++qX cap)) with
 | some A,some (ys,false)=>cond (first.all Pl.noAgg && cap.all Pl.noAgg) ((A.run ys).bind λ t=>K (A.enc t) s) none
 | some A,some (ys,true)=>cond (first.all Pl.noAgg && cap.all Pl.noAgg) ((A.run ys).bind λ t=>cond (A.enc t).bare (K (A.enc t) s) none) none
 | _,_=>none
def D2 (P:Program) (Γ:FuncId->Option Summ) (E:Efs) (f:AV) (args:List AV) (ts:List TypeId) (s:St) (K:AV->St->Option β):Option β :=
 match f with
 | .c (.s (.clo g first cap)) => match E g with
  | some F => match F (qX first ++ (args ++ qX cap)) s with
    | some (b, av, s') => cond (first.all Pl.noAgg && cap.all Pl.noAgg) (cond b (K av s') none) none
    | none => CE P Γ g first cap args ts s K
  | none => CE P Γ g first cap args ts s K
 | .c (.s (.clop g cs)) => match E g with
  | some F => match F (args ++ cs.map aCq) s with
    | some (b, av, s') => cond b (K av s') none
    | none => none
  | none => none
 | .c (.s (.clor g cs))=>Eb Γ g cs args s K
 | _=>none
theorem Rm {Γ:FuncId->Option Summ} (hΓ:∀ g A,Γ g=some A->CallOk P g A) {f:Operand} {args:List Operand} {K:AV->St->Option β} {o:Oper} {ats:Array TypeId} {ro:Option Nat} {n:Nat} {g:FuncId} {cs:List (TRow × Nat × Nat)}
  (ho:o.op=.call { callee:=.value f,args:=args.toArray,argTypes:=ats }) (hs:Rel B w0 ρ s a w) (hf:s.ev f=.c (.s (.clor g cs))) (h:Eb Γ g cs (args.map s.ev) s K=some r) {next:Act->World->Prop} {Q:Exit->Act->World->Prop}
  (hn:∀ av v w' s' ρ',K av s'=some r->(∀ id ∈ av.refs,Liv s' id)->AVR w' ρ' av v->Rel B w0 ρ' s' a w'->next (a.put o.dst v) w'):o.wpIn (Fw ro) n P a w next Q:=by
 obtain ⟨vs,hfv,hp⟩:∃ vs:List Value,a.eval f=.func (.func g) #[] vs.toArray /\ RptrRs w ρ cs vs:=by
  have:=hs.ev f;rw [hf] at this;exact this
 have hargs:=hs.evs args;have hop:(execOp a.eval o).run P w=(callFunc g (args.map a.eval++vs).toArray).run P w:=by
  have e:args.toArray.map a.eval=(args.map a.eval).toArray:=by simp
  simp only [execOp,ho,resolve,hfv,Deferred.ofValue,e,Sem.run_bind,Sem.run_pure,Result.andThen_ok,invoke];simp
 have lQ:∀ {R:Value->World->Prop},FAt P g (args.map a.eval++vs).toArray w R->(∀ v w',R v w'->next (a.put o.dst v) w')->o.wpIn (Fw ro) n P a w next Q:=by
  intro R hF hR;refine uS (by rw [ho]; simp) ?_;rw [hop];rcases hF with ⟨v,w',hr,hv⟩ | ⟨hr,hc⟩
  ·rw [hr,Oper.uponIn_value]; exact hR v w' hv
  ·rw [hr,Oper.uponIn_enter];refine ⟨CC,(Calls.fw hc).mono λ e w' he=>?_⟩;obtain ⟨v,rfl,hv⟩:=he;exact hR v w' hv
 have back:∀ w',Below w.heap.size w w'->Rel B w0 ρ s a w':=λ w' hb=>hs.ext hb.size (λ k hk=>hb.block k hk) (hs.below.trans (hb.mono hs.B_le));have hall:AVRs w ρ (args.map s.ev++cs.map Hs) (args.map a.eval++vs):=hargs.append (aLA hp);unfold Eb at h;split at h
 ·rename_i A ys hA hys;obtain ⟨q1,q2⟩:=AW hs hall hys;obtain ⟨rfl,hrefs⟩:=q2 rfl;obtain ⟨t,k0,k1⟩:=fK.1 h;have k3:=hΓ g A hA _ _ k0;have hX:∀ b,((∃ id x,ρ id=some x /\ x.r=b) ∨ ρ.out b)->b < w.heap.size:=by
   rintro b (⟨id,x,hx,rfl⟩ | hb)
   ·exact (hs.base id x hx).2
   ·exact hs.ob b hb
  have hfor:∀ b,Foreign ρ b ↔ Foreign (P0 λ b=>(∃ id x,ρ id=some x /\ x.r=b) ∨ ρ.out b) b:=by
   intro b;constructor
   ·rintro ⟨g1,g2⟩;refine ⟨λ id x hx=>by simp [P0] at hx,?_⟩;rintro (⟨id,x,hx,hb⟩ | hb)
    ·exact g1 id x hx hb
    ·exact g2 hb
   ·rintro ⟨g1,g2⟩;exact ⟨λ id x hx hb=>g2 (.inl ⟨id,x,hx,hb⟩),λ hb=>g2 (.inr hb)⟩
  refine lQ (k3 w (λ b=>(∃ id x,ρ id=some x /\ x.r=b) ∨ ρ.out b) _ hX (hall.chg hrefs λ b=>(hfor b).1)) λ v w' hv=>?_;exact hn (A.enc t) v w' s ρ k1 (by rw [hv.2.1]; simp) (hv.1.chg hv.2.1 λ b=>(hfor b).2) (back w' hv.2.2)
 ·rename_i A ys hA hys;obtain ⟨q1,q2⟩:=AW hs hall hys;obtain ⟨t,k0,k1⟩:=fK.1 h;have k3:=hΓ g A hA _ _ k0;obtain ⟨k4,k5⟩:=bA k1;refine lQ (k3 w (λ _=>False) _ (λ _ hb=>hb.elim) q1) λ v w' hv=>?_;exact hn (A.enc t) v w' s ρ k5 (by rw [hv.2.1]; simp) (hv.1.bare k4) (back w' hv.2.2)
 ·simp at h
theorem VZ {Γ:FuncId->Option Summ} {E:Efs} (hΓ:∀ g A,Γ g=some A->CallOk P g A) (hE:∀ g F,E g=some F->CD P g F) {f:Operand} {args:List Operand} {ts:List TypeId} {K:AV->St->Option β} {o:Oper} {ats:Array TypeId} {ro:Option Nat} {n:Nat}
  (ho:o.op=.call { callee:=.value f,args:=args.toArray,argTypes:=ats }) (hs:Rel B w0 ρ s a w) (h:D2 P Γ E (s.ev f) (args.map s.ev) ts s K=some r) {next:Act->World->Prop} {Q:Exit->Act->World->Prop}
  (hn:∀ av v w' s' ρ',K av s'=some r->(∀ id ∈ av.refs,Liv s' id)->AVR w' ρ' av v->Rel B w0 ρ' s' a w'->next (a.put o.dst v) w'):o.wpIn (Fw ro) n P a w next Q:=by
 unfold D2 at h;split at h
 case h_4=>simp at h
 case h_3 g cs hf=>exact Rm hΓ ho hs hf h hn
 case h_2 g cs hf=>
  obtain ⟨vs,hfv,hp⟩:∃ vs:List Value,a.eval f=.func (.func g) #[] vs.toArray /\ PtrRs ρ cs vs:=by
   have:=hs.ev f;rw [hf] at this;exact this
  have hargs:=hs.evs args;have hop:(execOp a.eval o).run P w=(callFunc g (args.map a.eval++vs).toArray).run P w:=by
   have e:args.toArray.map a.eval=(args.map a.eval).toArray:=by simp
   simp only [execOp,ho,resolve,hfv,Deferred.ofValue,e,Sem.run_bind,Sem.run_pure,Result.andThen_ok,invoke];simp
  split at h
  ·rename_i F hF;split at h
   ·rename_i b av s' hFs;obtain ⟨rfl,h2⟩:=bA h;have hrefs:∀ x ∈ args.map s.ev++cs.map aCq,∀ id ∈ x.refs,Liv s id:=by
     intro x hx id hid;rcases wT.1 hx with hx | hx
     ·obtain ⟨y,_,rfl⟩:=lU.1 hx;exact hs.evr y id hid
     ·obtain ⟨c,hc,rfl⟩:=lU.1 hx;have:=hs.evr f;rw [hf] at this;refine this id ?_;simp [aCq,AV.refs,CV.refs,SV.refs] at hid ⊢;subst hid;exact ⟨_,_,hc⟩
    have k:=hE g F hF B w0 w ρ s a _ _ av s' hs (hargs.append (aS1 hp)) hrefs hFs;refine uS (by rw [ho]; simp) ?_;rw [hop];rcases k with ⟨v,w',hr,ρ',g1,g2,g3⟩ | ⟨hr,hc⟩
    ·rw [hr,Oper.uponIn_value];exact hn av v w' s' ρ' h2 g2 g1 g3
    ·rw [hr,Oper.uponIn_enter];refine ⟨CC,(Calls.fw hc).mono λ e w' he=>?_⟩;obtain ⟨v,rfl,ρ',g1,g2,g3⟩:=he;exact hn av v w' s' ρ' h2 g2 g1 g3
   ·simp at h
  ·simp at h
 case h_1 g first cap hf=>
 have hfv:a.eval f=.func (.func g) (first.map Pl.val).toArray (cap.map Pl.val).toArray:=by
  have:=hs.ev f;rw [hf] at this;exact this
 have hargs:=hs.evs args;have hop:(execOp a.eval o).run P w=(callFunc g ((first.map Pl.val).toArray++(args.map a.eval).toArray++(cap.map Pl.val).toArray)).run P w:=by
  have e:args.toArray.map a.eval=(args.map a.eval).toArray:=by simp
  simp only [execOp,ho,resolve,hfv,Deferred.ofValue,e,Sem.run_bind,Sem.run_pure,Result.andThen_ok,invoke]
 have harr:(first.map Pl.val).toArray++(args.map a.eval).toArray++(cap.map Pl.val).toArray=(first.map Pl.val++(args.map a.eval++cap.map Pl.val)).toArray:=by simp
 rw [harr] at hop;have lQ:∀ {R:Value->World->Prop},FAt P g (first.map Pl.val++(args.map a.eval++cap.map Pl.val)).toArray w R->(∀ v w',R v w'->next (a.put o.dst v) w')->o.wpIn (Fw ro) n P a w next Q:=by
  intro R hF hR;refine uS (by rw [ho]; simp) ?_;rw [hop];rcases hF with ⟨v,w',hr,hv⟩ | ⟨hr,hc⟩
  ·rw [hr,Oper.uponIn_value]; exact hR v w' hv
  ·rw [hr,Oper.uponIn_enter];refine ⟨CC,(Calls.fw hc).mono λ e w' he=>?_⟩;obtain ⟨v,rfl,hv⟩:=he;exact hR v w' hv
 have back:∀ w',Below w.heap.size w w'->Rel B w0 ρ s a w':=λ w' hb=>hs.ext hb.size (λ k hk=>hb.block k hk) (hs.below.trans (hb.mono hs.B_le));have back2:CE P Γ g first cap (args.map s.ev) ts s K=some r->o.wpIn (Fw ro) n P a w next Q:=by
  intro h;unfold CE at h;split at h
  ·rename_i A ys hA hys;obtain ⟨h1,h2⟩:=bA h;simp only [aW] at h1;have hall:AVRs w ρ (qX first++(uT P (args.map s.ev) ts++qX cap)) (first.map Pl.val++(args.map a.eval++cap.map Pl.val)) :=
    (zO first (vM h1.1)).append ((MF hargs).append (zO cap (vM h1.2)))
   obtain ⟨q1,q2⟩:=AW hs hall hys;obtain ⟨rfl,hrefs⟩:=q2 rfl;obtain ⟨t,k0,k1⟩:=fK.1 h2;have k3:=hΓ g A hA _ _ k0;have hX:∀ b,((∃ id x,ρ id=some x /\ x.r=b) ∨ ρ.out b)->b < w.heap.size:=by
    rintro b (⟨id,x,hx,rfl⟩ | hb)
    ·exact (hs.base id x hx).2
    ·exact hs.ob b hb
   have hfor:∀ b,Foreign ρ b ↔ Foreign (P0 λ b=>(∃ id x,ρ id=some x /\ x.r=b) ∨ ρ.out b) b:=by
    intro b;constructor
    ·rintro ⟨g1,g2⟩;refine ⟨λ id x hx=>by simp [P0] at hx,?_⟩;rintro (⟨id,x,hx,hb⟩ | hb)
     ·exact g1 id x hx hb
     ·exact g2 hb
    ·rintro ⟨g1,g2⟩;exact ⟨λ id x hx hb=>g2 (.inl ⟨id,x,hx,hb⟩),λ hb=>g2 (.inr hb)⟩
   refine lQ (k3 w (λ b=>(∃ id x,ρ id=some x /\ x.r=b) ∨ ρ.out b) _ hX (hall.chg hrefs λ b=>(hfor b).1)) λ v w' hv=>?_;exact hn (A.enc t) v w' s ρ k1 (by rw [hv.2.1]; simp) (hv.1.chg hv.2.1 λ b=>(hfor b).2) (back w' hv.2.2)
  ·rename_i A ys hA hys;obtain ⟨h1,h2⟩:=bA h;simp only [aW] at h1;have hall:AVRs w ρ (qX first++(uT P (args.map s.ev) ts++qX cap)) (first.map Pl.val++(args.map a.eval++cap.map Pl.val)) :=
    (zO first (vM h1.1)).append ((MF hargs).append (zO cap (vM h1.2)))
   obtain ⟨q1,q2⟩:=AW hs hall hys;obtain ⟨t,k0,k1⟩:=fK.1 h2;have k3:=hΓ g A hA _ _ k0;obtain ⟨k4,k5⟩:=bA k1;refine lQ (k3 w (λ _=>False) _ (λ _ hb=>hb.elim) q1) λ v w' hv=>?_;exact hn (A.enc t) v w' s ρ k5 (by rw [hv.2.1]; simp) (hv.1.bare k4) (back w' hv.2.2)
  ·simp at h
 split at h
 case h_2=>exact back2 h
 ·rename_i F hF;split at h
  case h_2=>exact back2 h
  rename_i bb av s' k0;obtain ⟨h1,h2⟩:=bA h;obtain ⟨h3,k1⟩:=bA h2;subst h3;simp only [aW] at h1;have hall:AVRs w ρ (qX first++(args.map s.ev++qX cap)) (first.map Pl.val++(args.map a.eval++cap.map Pl.val)) :=
   (zO first (vM h1.1)).append (hargs.append (zO cap (vM h1.2)))
  refine lQ (hE g F hF B w0 w ρ s a _ _ av s' hs hall ?_ k0) λ v w' ⟨ρ',q1,q2,q3⟩=>hn av v w' s' ρ' k1 q2 q1 q3;intro x hx id hid;have hmem:id ∈ (qX first++(args.map s.ev++qX cap)).flatMap AV.refs:=fR.2 ⟨x,hx,hid⟩;simp only [ND,MG,lF,jC] at hmem;obtain ⟨y,hy,hid2⟩:=fR.1 hmem;obtain ⟨o',_,rfl⟩:=lU.1 hy;exact hs.evr o' id hid2
end
end
noncomputable section
open Go Go.RowKit
set_option linter.all false
structure Cf where
 Γ:FuncId->Option Summ
 own:List Nat
 E:Efs
structure CfOk (P:Program) (c:Cf):Prop where
 g:∀ g A,c.Γ g=some A->CallOk P g A
 e:∀ g F,c.E g=some F->CD P g F
def Cf.quiet (c:Cf):Cf:={ c with E:=cX }
theorem CfOk.quiet {P:Program} {c:Cf} (h:CfOk P c):CfOk P c.quiet:=⟨h.g,λ g F hF=>by cases hF⟩
section
variable {P:Program} {B:Bs} {w0 w w':World} {ρ:Plc} {s:St} {a:Act} {β:Type} {r:β} {ro:Option Nat} {n:Nat}
def wL (c:Cf) (o:Oper):Bool :=
 match o.dst with
 | some d=>Hv d c.own
 | none=>false
def lQ (o:Oper) (G:iB) (K:St->iB->Option β) (av:AV) (s':St):Option β :=
 match o.dst with
 | some d=>cond (Nat.blt d s'.sz) (K (s'.put d av) (wM d G)) none
 | none=>K s' G
def Ij (P:Program) (c:Cf) (G:iB) (o:Oper) (s:St) (K:St->iB->Option β):Option β :=
 match o.op with
 | .call { callee:=.value f,args,argTypes } =>D2 P c.Γ c.E (s.ev f) (args.toList.map s.ev) argTypes.toList s (lQ o G K)
 | _=>TJ P (wL c o) G o s (lQ o G K)
def GN (s:St) (o:Oper):Option Nat :=
 match o.dst with
 | some d=>cond (Nat.blt d s.nx) (match cG s.hp (s.nx - 1 - d) with
  | none=>some (s.nx - 1 - d)
  | some _=>none) none
 | none=>none
def rL (P:Program) (c:Cf) (G:iB) (o:Oper) (s:St) (K:St->iB->Option β):Option β :=
 match o.op with
 | .call { callee:=.value f,args,argTypes } =>D2 P c.Γ c.E (s.ev f) (args.toList.map s.ev) argTypes.toList s (lQ o G K)
 | .alloc T=>(GN s o).bind λ k=>pU P k s.nx T s (lQ o G K)
 | .box T x=>(GN s o).bind λ k=>tO k s.nx T s (s.ev x) (lQ o G K)
 | .makeSlice T l c=>(GN s o).bind λ k=>uR P k s.nx T (s.ev l) (s.ev c) s (lQ o G K)
 | _=>TJ P (wL c o) G o s (lQ o G K)
def aFv:Option AV->Option Pl
 | some (.c (.s (.pl p)))=>some p
 | _=>none
def evG (G:iB) (tg:Nat) (want:Bool) (s:St):Operand->AV
 | .tmp t=>match gW G t tg want with
  | some p=>.s (.pl p)
  | none=>s.ev (.tmp t)
 | x=>s.ev x
def bEo:BinOp->Bool
 | .quo | .rem | .shl | .shr=>false
 | _=>true
def Va (P:Program) (G:iB) (tg:Nat) (want:Bool) (o:Oper) (s:St):Option Pl :=
 match o.op with
 | .move x=>match evG G tg want s x with
  | .c (.s (.pl (.raw _)))=>none
  | .c (.s (.pl p))=>some p
  | _=>none
 | .binOp op T x y _=>match evG G tg want s x,evG G tg want s y with
  | .c (.s (.pl (.int k m))),.c (.s (.pl (.int k' n)))=>match bEo op with
   | true=>aFv (LT P T op (.int k m) (.int k' n) some)
   | false=>none
  | .c (.s (.pl (.str m))),.c (.s (.pl (.str n)))=>match op with
   | .eql=>some (.bool (decide (m=n)))
   | .neq=>some (.bool (!decide (m=n)))
   | _=>none
  | .c (.s (.pl (.bool m))),.c (.s (.pl (.bool n)))=>aFv (LT P T op (.bool m) (.bool n) some)
  | _,_=>none
 | .unOp op _ x=>match evG G tg want s x with
  | .c (.s (.pl p))=>aFv (aUn op (.s (.pl p)) some)
  | _=>none
 | .convert src dst x=>match evG G tg want s x with
  | .c (.s (.pl (.int k m)))=>aFv (Bq P src dst (.int k m) some)
  | _=>none
 | _=>none
def Js:AV->Bool
 | .c (.s (.pl (.raw (.tuple _))))=>true
 | _=>false
def nL (o:Oper) (G:iB) (s:St) (K:St->iB->Option β):Option β :=
 match o.dst with
 | some d=>cond (Nat.blt d s.sz) (K (s.put d (.s (.pl (.raw undef)))) (wM d G)) none
 | none=>K s G
def sZ (P:Program) (c:Cf) (G:iB) (tg:Nat) (want:Bool) (o:Oper) (s:St) (K:St->iB->Option β):Option β :=
 match s.get tg with
 | .c (.s (.pl (.bool b)))=>
  match want with
  | true=>cond b (rL P c G o (s.put tg (.bool true)) K) (nL o G (s.put tg (.bool false)) K)
  | false=>cond b (nL o G (s.put tg (.bool true)) K) (rL P c G o (s.put tg (.bool false)) K)
 | x=>match Js x with
  | true=>nL o G s K
  | false=>none
def MH (P:Program) (c:Cf) (ops:Array Oper) (G:iB) (o:Oper) (s:St) (K:St->iB->Option β):Option β :=
 match o.guard with
 | none=>rL P c G o s K
 | some (j,want)=>match (ops[j]?).bind (·.dst) with
  | some tg=>cond (Nat.blt tg s.sz) (sZ P c G tg want o s K) none
  | none=>none
def CF (G:iB) (tg:Nat) (want:Bool) (s:St):St :=
 match G with
 | []=>s
 | (d,u,w,p) :: r=>cond (Nat.beq u tg && (w == want) && Nat.blt d s.sz) ((CF r tg want s).put d (.s (.pl p))) (CF r tg want s)
def yO (d:Nat):iB->iB
 | []=>[]
 | (e,tg,want,p) :: r=>cond (Nat.beq e d) (yO d r) ((e,tg,want,p) :: yO d r)
theorem Y5 {d:Nat} {G:iB} {x:Nat × Nat × Bool × Pl} (h:x ∈ yO d G):x ∈ G:=by
 induction G with
 | nil=>simp [yO] at h
 | cons q r ih=>
  obtain ⟨e,u,w',p⟩:=q;simp only [yO] at h;cases hb:Nat.beq e d
  ·rw [hb] at h;rcases rQ.1 h with h | h
   ·rw [h]; simp
   ·exact Cj _ (ih h)
  ·rw [hb] at h; exact Cj _ (ih h)
theorem GR.dropD {G:iB} {a:Act} (h:GR G a) (d:Nat):GR (yO d G) a:=λ e tg want p hm=>h e tg want p (Y5 hm)
def vN (P:Program) (c:Cf) (G:iB) (tg:Nat) (want:Bool) (o:Oper) (s:St) (K:St->iB->Option β):Option β :=
 match s.get tg with
 | .c (.s (.pl (.bool b)))=>
  match Va P G tg want o s,o.dst with
  | some p,some d=>cond (Nat.blt d s.sz && !(Nat.beq d tg) && p.plain) (K (s.put d .junk) ((d,tg,want,p) :: wM d G)) none
  | _,_=>match want with
   | true=>cond b (Ij P c (yO tg G) o (CF G tg true (s.put tg (.bool true))) K) (nL o (yO tg G) (s.put tg (.bool false)) K)
   | false=>cond b (nL o (yO tg G) (s.put tg (.bool true)) K) (Ij P c (yO tg G) o (CF G tg false (s.put tg (.bool false))) K)
 | x=>match Js x with
  | true=>nL o G s K
  | false=>none
def aS2:iB->Nat->Option (Nat × Bool × Pl)
 | [],_=>none
 | (d,u,w,p) :: r,t=>cond (Nat.beq d t) (some (u,w,p)) (aS2 r t)
def aLC (P:Program) (c:Cf) (ops:Array Oper) (G:iB) (o:Oper) (s:St) (K:St->iB->Option β):Option β :=
 match o.guard with
 | none=>Ij P c G o s K
 | some (j,want)=>match (ops[j]?).bind (·.dst) with
  | some tg=>cond (Nat.blt tg s.sz) (match aS2 G tg with
   | some (u,w',.bool q)=>match s.get u with
    | .c (.s (.pl (.bool b)))=>cond (Nat.blt u s.sz) (cond (b == w')
      (vN P c G tg want o ((CF G u w' (s.put u (.bool w'))).put tg (.bool q)) K)
      (vN P c G tg want o ((s.put u (.bool (!w'))).put tg (.s (.pl (.raw undef)))) K)) none
    | _=>vN P c G tg want o s K
   | _=>vN P c G tg want o s K) none
  | none=>none
def bEp (P:Program) (c:Cf) (ops:Array Oper):List Oper->iB->St->(St->Option β)->Option β
 | [],G,s,K=>K s
 | o :: rest,G,s,K=>aLC P c ops G o s λ s' G'=>bEp P c ops rest G' s' K
theorem Rn {o:Oper} {G:iB} {K:St->iB->Option β} {av:AV} {s':St} {v:Value} {ρ':Plc} (h:lQ o G K av s'=some r) (hs:Rel B w0 ρ' s' a w') (hv:AVR w' ρ' av v) (hr:∀ id ∈ av.refs,Liv s' id) (hG:GR G a) :
  ∃ s2 G2,K s2 G2=some r /\ Rel B w0 ρ' s2 (a.put o.dst v) w' /\ GR G2 (a.put o.dst v):=by
 unfold lQ at h;split at h
 ·rename_i d hd;obtain ⟨h1,h2⟩:=bA h;have h1:d < s'.sz:=dA h1;exact ⟨_,_,h2,by rw [hd]; exact hs.put hv hr h1,by rw [hd]; exact hG.put d v⟩
 ·rename_i hd;exact ⟨_,_,h,by rw [hd]; exact hs,by rw [hd]; exact hG⟩
theorem bEq {own:Bool} {G:iB} {o:Oper} {K:AV->St->Option β} (h:TJ P own G o s K=some r):∀ c,o.op ≠ .defer c:=by
 intro c e;unfold TJ at h;rw [e] at h;simp at h
theorem aLD {G:iB} {tg:Nat} {want:Bool} {o:Oper} {p:Pl} (h:Va P G tg want o s=some p):∀ c,o.op ≠ .defer c:=by
 intro c e;unfold Va at h;rw [e] at h;simp at h
theorem xS {c:Cf} (hΓ:CfOk P c) {G:iB} {o:Oper} {K:St->iB->Option β} (hs:Rel B w0 ρ s a w) (hG:GR G a) (h:Ij P c G o s K=some r) {next:Act->World->Prop} {Q:Exit->Act->World->Prop}
  (hn:∀ s2 G2 a2 w2 ρ2,K s2 G2=some r->Rel B w0 ρ2 s2 a2 w2->GR G2 a2->next a2 w2):o.wpIn (Fw ro) n P a w next Q:=by
 unfold Ij at h;split at h
 ·rename_i f args ats ho;have e:args=args.toList.toArray:=by simp
  refine VZ hΓ.g hΓ.e (f:=f) (args:=args.toList) (ats:=ats) (ts:=ats.toList) (K:=lQ o G K) (by rw [<-e]; exact ho) hs h ?_;intro av v w' s' ρ' h1 h2 h3 h4;obtain ⟨s2,G2,q1,q2,q3⟩:=Rn h1 h4 h3 h2 hG;exact hn s2 G2 _ _ ρ' q1 q2 q3
 ·obtain ⟨av,s',h1,n,v,w',ρ',h2,h3,h4,h5,h6⟩:=aFB hs hG h;refine uS (bEq h) ?_;rw [h2];rcases h3 with rfl | ⟨rfl,rfl⟩
  ·rw [Oper.uponIn_value];obtain ⟨s2,G2,q1,q2,q3⟩:=Rn h1 h6 h4 h5 hG;exact hn s2 G2 _ _ ρ' q1 q2 q3
  ·rw [Oper.uponIn_skip];obtain ⟨s2,G2,q1,q2,q3⟩:=Rn h1 h6 h4 h5 hG;exact hn s2 G2 _ _ ρ' q1 q2 q3
theorem GO {o:Oper} {k:Nat} (h:GN s o=some k):k < s.nx /\ cG s.hp k=none:=by
 unfold GN at h;split at h
 ·rename_i d _;obtain ⟨h1,h2⟩:=bA h;split at h2
  ·rename_i hl;have h1:d < s.nx:=dA h1;simp only [qM] at h2;subst h2;exact ⟨jS (Nat.sub_le _ _) (Nat.sub_lt (jS (oI _) h1) Nat.one_pos),hl⟩
  ·simp at h2
 ·simp at h
theorem MI {o:Oper} {k:Nat} (h:GN s o=some k):∀ j,Liv s j->j ≠ k:=by
 intro j hj e;subst e;obtain ⟨b,hb⟩:=hj.2;rw [(GO h).2] at hb; cases hb
theorem AX {c:Cf} (hΓ:CfOk P c) {G:iB} {o:Oper} {K:St->iB->Option β} (hs:Rel B w0 ρ s a w) (hG:GR G a) (h:rL P c G o s K=some r) {next:Act->World->Prop} {Q:Exit->Act->World->Prop}
  (hn:∀ s2 G2 a2 w2 ρ2,K s2 G2=some r->Rel B w0 ρ2 s2 a2 w2->GR G2 a2->next a2 w2):o.wpIn (Fw ro) n P a w next Q:=by
 have fall:Ij P c G o s K=some r->o.wpIn (Fw ro) n P a w next Q:=λ h=>xS hΓ hs hG h hn
 have key:(∀ c,o.op ≠ .defer c)->∀ {av s' v w' ρ'},lQ o G K av s'=some r->(∀ id ∈ av.refs,Liv s' id)->AVR w' ρ' av v->Rel B w0 ρ' s' a w'->(execOp a.eval o).run P w=.ok (.value v) w'->o.wpIn (Fw ro) n P a w next Q:=by
  intro hnd av s' v w' ρ' h1 h5 h4 h6 h2;refine uS hnd ?_;rw [h2,Oper.uponIn_value];obtain ⟨s2,G2,q1,q2,q3⟩:=Rn h1 h6 h4 h5 hG;exact hn s2 G2 _ _ ρ' q1 q2 q3
 unfold rL at h;split at h
 ·rename_i f args ats ho;exact fall (by unfold Ij; rw [ho]; exact h)
 ·rename_i T ho;obtain ⟨k,hk,h⟩:=fK.1 h;obtain ⟨av,s',w',ρ',v,q1,q2,q3,q4,q5⟩:=LZ hs (GO hk).1 (bX _) (MI hk) h;exact key (by rw [ho]; simp) q1 q2 q3 q4 (by simp only [execOp,ho]; exact kP q5)
 ·rename_i T x ho;obtain ⟨k,hk,h⟩:=fK.1 h;obtain ⟨av,s',w',ρ',v,q1,q2,q3,q4,q5⟩:=Qg (P:=P) hs (GO hk).1 (bX _) (MI hk) (hs.ev x) (hs.evr x) h;exact key (by rw [ho]; simp) q1 q2 q3 q4 (by simp only [execOp,ho]; exact kP q5)
 ·rename_i T l c ho;obtain ⟨k,hk,h⟩:=fK.1 h;obtain ⟨av,s',w',ρ',v,q1,q2,q3,q4,q5⟩:=Na (P:=P) hs (GO hk).1 (bX _) (MI hk) (hs.ev l) (hs.ev c) h;exact key (by rw [ho]; simp) q1 q2 q3 q4 (by simp only [execOp,ho]; exact kP q5)
 ·rename_i hc _ _ _;refine fall ?_;unfold Ij;split
  ·rename_i f args ats ho;exact absurd ho (hc f args ats)
  ·exact h
theorem bEr {G:iB} (hs:Rel B w0 ρ s a w) (hG:GR G a) {tg:Nat} {want:Bool} (hg:a.tmps.getD tg undef=.bool want) (x:Operand):AVR w ρ (evG G tg want s x) (a.eval x):=by
 unfold evG;split
 ·rename_i t;split
  ·rename_i p hp;have:=hG _ _ _ _ (Vp hp);refine ⟨this.2.1 hg,λ rr n e=>?_⟩;subst e; simp [Pl.plain] at this
  ·exact hs.ev (.tmp t)
 ·exact hs.ev x
theorem C7 {x:Option AV} {p:Pl} (h:aFv x=some p):x=some (.s (.pl p)):=by
 unfold aFv at h;split at h
 ·simp at h; subst h; rfl
 ·simp at h
theorem aLE {G:iB} (hs:Rel B w0 ρ s a w) (hG:GR G a) {tg:Nat} {want:Bool} (hg:a.tmps.getD tg undef=.bool want) {o:Oper} {p:Pl} (h:Va P G tg want o s=some p) :
  (execOp a.eval o).run P w=.ok (.value p.val) w:=by
 have ev:=λ x=>bEr hs hG hg (x:=x);unfold Va at h;split at h
 ·rename_i x ho;split at h
  ·simp at h
  ·rename_i q _ hq;simp at h; subst h;have:=ev x;rw [hq] at this;simp [execOp,ho,this.1]
  ·simp at h
 ·rename_i op T x y yt ho;have key:∀ {av:AV} {K:AV->Option AV},LT P T op (evG G tg want s x) (evG G tg want s y) some=some (.s (.pl p))->(execOp a.eval o).run P w=.ok (.value p.val) w:=by
   intro _ _ h;obtain ⟨av,z,q1,q2,q3,q4⟩:=EV (P:=P) (ev x) (ev y) h;cases q1;simp only [execOp,ho];rw [kP (q4 x y),q3.1]
  split at h
  ·rename_i k m k' n hx hy;split at h
   ·exact key (av:=.junk) (K:=some) (by rw [hx,hy]; exact C7 h)
   ·simp at h
  ·rename_i m n hx hy;split at h
   ·refine key (av:=.junk) (K:=some) ?_;rw [hx,hy];simp at h; subst h; rfl
   ·refine key (av:=.junk) (K:=some) ?_;rw [hx,hy];simp at h; subst h; rfl
   ·simp at h
  ·rename_i m n hx hy;exact key (av:=.junk) (K:=some) (by rw [hx,hy]; exact C7 h)
  ·simp at h
 ·rename_i op T x ho;split at h
  ·rename_i q hq;have h':aUn op (evG G tg want s x) some=some (.s (.pl p)):=by rw [hq]; exact C7 h
   obtain ⟨av,z,q1,q2,q3,q4⟩:=Hj (P:=P) (ev x) h';cases q1;simp only [execOp,ho];rw [kP q4,q3.1]
  ·simp at h
 ·rename_i src dst x ho;split at h
  ·rename_i k m hq;have h':Bq P src dst (evG G tg want s x) some=some (.s (.pl p)):=by rw [hq]; exact C7 h
   obtain ⟨av,z,q1,q2,q3,q4⟩:=Ic (P:=P) (ev x) h';cases q1;simp only [execOp,ho];rw [kP q4,q3.1]
  ·simp at h
 ·simp at h
theorem GP {ops:Array Oper} {j tg:Nat} {b:Bool} (hj:(ops[j]?).bind (·.dst)=some tg) (hb:a.tmps.getD tg undef=.bool b):yielded ops a.tmps j=some b:=by
 unfold yielded;rw [hj];simp only [aC];have:a.tmps[tg]?=some (.bool b):=by
  simp only [Array.getD] at hb;split at hb
  ·rename_i h; simp [h]; exact hb
  ·simp [undef] at hb
 rw [this]
theorem D3 {ops:Array Oper} {j tg:Nat} {vs:Array Value} (hj:(ops[j]?).bind (·.dst)=some tg) (hb:a.tmps.getD tg undef=.tuple vs):yielded ops a.tmps j=none:=by
 unfold yielded;rw [hj];simp only [aC];cases h:a.tmps[tg]? with
 | none=>rfl
 | some v=>
  have:v=.tuple vs:=by
   obtain ⟨h1,h2⟩:=EC.1 h;simp only [Array.getD,h1,dif_pos] at hb;rw [<-h2]; exact hb
  subst this; rfl
theorem Rel.putSame {d:Nat} {x:AV} (h:Rel B w0 ρ s a w) (hx:AVR w ρ x (EU B a d)) (hr:∀ id ∈ x.refs,Liv s id):Rel B w0 ρ (s.put d x) a w:=by
 have hget:∀ t,(s.put d x).get t=if t=d then x else s.get t:=by
  intro t;by_cases e:t=d
  ·subst e; simp [St.get,St.put_eq,kO]
  ·simp [St.get,St.put_eq,kO,e]
 refine ⟨λ t=>?_,h.blk,h.lt,h.inj,h.base,h.size,h.df,h.below,h.b0,λ t id=>?_,h.rb,h.gh,h.ob,h.ox⟩
 ·rw [hget]; split
  ·rename_i e; subst e; exact hx
  ·exact h.tm t
 ·rw [hget]; split
  ·exact hr id
  ·exact h.rt t id
theorem vO {o:Oper} {G:iB} {K:St->iB->Option β} (h:nL o G s K=some r) (hs:Rel B w0 ρ s a w) (hG:GR G a) :
  ∃ s2 G2,K s2 G2=some r /\ Rel B w0 ρ s2 (a.put o.dst undef) w /\ GR G2 (a.put o.dst undef):=by
 unfold nL at h;split at h
 ·rename_i d hd;obtain ⟨h1,h2⟩:=bA h;have h1:d < s.sz:=dA h1;exact ⟨_,_,h2,by rw [hd]; exact hs.put ⟨rfl,λ _ _ e=>by cases e⟩ (by simp [AV.refs,CV.refs,SV.refs]) h1,by rw [hd]; exact hG.put d undef⟩
 ·rename_i hd;exact ⟨_,_,h,by rw [hd]; exact hs,by rw [hd]; exact hG⟩
theorem GR.cons {G:iB} {d tg:Nat} {want:Bool} {p:Pl} {v:Value} (hG:GR G a) (hp:p.plain=true) (hne:d ≠ tg) (hd:d < a.tmps.size) (hv:a.tmps.getD tg undef=.bool want->v=p.val) (hu:a.tmps.getD tg undef=.bool (!want)->v=undef):GR ((d,tg,want,p) :: wM d G) (a.put (some d) v):=by
 intro e tg' want' p' hm;rcases rQ.1 hm with e1 | hm
 ·cases e1;refine ⟨hp,λ hg=>?_,λ hg=>?_⟩
  ·rw [pE (gZ hne)] at hg;simp [Act.put,Array.getD,hd,hv hg]
  ·rw [pE (gZ hne)] at hg;simp [Act.put,Array.getD,hd,hu hg]
 ·exact hG.put d v e tg' want' p' hm
theorem Y6 {c:Cf} (hΓ:CfOk P c) {ops:Array Oper} {G:iB} {o:Oper} {K:St->iB->Option β} (hs:Rel B w0 ρ s a w) (hG:GR G a) (h:MH P c ops G o s K=some r) {next:Act->World->Prop} {Q:Exit->Act->World->Prop}
  (hn:∀ s2 G2 a2 w2 ρ2,K s2 G2=some r->Rel B w0 ρ2 s2 a2 w2->GR G2 a2->next a2 w2) :
  if Region.wanted o (yielded ops a.tmps) then o.wpIn (Fw ro) n P a w next Q else next (a.put o.dst undef) w:=by
 unfold MH at h;split at h
 ·rename_i hg;have:Region.wanted o (yielded ops a.tmps)=true:=by simp [Region.wanted,hg]
  rw [aX this];exact (AX hΓ hs hG h hn)
 ·rename_i j want hg;split at h
  ·rename_i tg htg;obtain ⟨hsz,h⟩:=bA h;have hsz':tg < s.sz:=dA hsz;have hwant:∀ b,a.tmps.getD tg undef=.bool b->Region.wanted o (yielded ops a.tmps)=(b == want):=by
    intro b hb;simp only [Region.wanted,hg,GP htg hb];cases b <;> cases want <;> rfl
   unfold sZ at h;split at h
   ·rename_i b hb;have hreal:a.tmps.getD tg undef=.bool b:=by
     have:=hs.tmL (t:=tg) hsz';rw [hb] at this; exact this.1
    have hlit:∀ q:Bool,b=q->Rel B w0 ρ (s.put tg (.bool q)) a w:=λ q e=>hs.putSame (by rw [mU (by rw [hs.size]; exact hsz'),hreal,e]; exact AVR.bool _) (by simp [AV.refs,CV.refs,SV.refs]);rw [hwant b hreal];split at h
    ·cases b
     ·obtain ⟨s2,G2,q1,q2,q3⟩:=vO h (hlit false rfl) hG;simp only [CZ,oK,show (false == true)=false from rfl];exact hn _ _ _ _ ρ q1 q2 q3
     ·simp only [DT,lK];exact (AX hΓ (hlit true rfl) hG h hn)
    ·cases b
     ·simp only [DT,lK];exact (AX hΓ (hlit false rfl) hG h hn)
     ·obtain ⟨s2,G2,q1,q2,q3⟩:=vO h (hlit true rfl) hG;simp only [CZ,oK,show (true == false)=false from rfl];exact hn _ _ _ _ ρ q1 q2 q3
   ·split at h
    ·rename_i hu;have hreal:∃ vs,a.tmps.getD tg undef=.tuple vs:=by
      unfold Js at hu;split at hu
      ·rename_i vs he;have:=hs.tmL (t:=tg) hsz';rw [he] at this; exact ⟨vs,this.1⟩
      ·simp at hu
     obtain ⟨vs,hvs⟩:=hreal;have:Region.wanted o (yielded ops a.tmps)=false:=by
      simp [Region.wanted,hg,D3 htg hvs]
     rw [this];simp only [CZ,oK];obtain ⟨s2,G2,q1,q2,q3⟩:=vO h hs hG;exact hn _ _ _ _ ρ q1 q2 q3
    ·simp at h
  ·simp at h
theorem aLF {G:iB} {tg:Nat} {want:Bool}:(CF G tg want s).sz=s.sz:=by
 induction G with
 | nil=>rfl
 | cons q r ih=>
  obtain ⟨d,u,w',p⟩:=q;simp only [CF];cases (Nat.beq u tg && (w' == want) && Nat.blt d s.sz)
  ·exact ih
  ·exact ih
theorem MJ {G:iB} {tg:Nat} {want:Bool} (hg:a.tmps.getD tg undef=.bool want) (hs:Rel B w0 ρ s a w) (hG:GR G a):Rel B w0 ρ (CF G tg want s) a w:=by
 induction G with
 | nil=>exact hs
 | cons q r ih=>
  obtain ⟨d,u,w',p⟩:=q;have ih:=ih λ e tg' want' p' hm=>hG e tg' want' p' (Cj _ hm);simp only [CF];cases hc:(Nat.beq u tg && (w' == want) && Nat.blt d s.sz)
  ·exact ih
  ·simp only [aW] at hc;obtain ⟨⟨h1,h2⟩,h3⟩:=hc;have h1:u=tg:=aT h1;have h2:w'=want:=by simpa using h2
   have h3:d < s.sz:=dA h3;subst h1; subst h2;obtain ⟨k1,k2,_⟩:=hG d u w' p (by simp);refine ih.putSame ?_ (by simp [AV.refs,CV.refs,SV.refs]);rw [mU (by rw [hs.size]; exact h3),k2 hg];exact ⟨rfl,λ rr n e=>by subst e; simp [Pl.plain] at k1⟩
theorem oE {c:Cf} (hΓ:CfOk P c) {ops:Array Oper} {G:iB} {o:Oper} {j tg:Nat} {want:Bool} (hg:o.guard=some (j,want)) (htg:(ops[j]?).bind (·.dst)=some tg) (hsz':tg < s.sz) {K:St->iB->Option β} (hs:Rel B w0 ρ s a w) (hG:GR G a) (h:vN P c G tg want o s K=some r) {next:Act->World->Prop} {Q:Exit->Act->World->Prop}
  (hn:∀ s2 G2 a2 w2 ρ2,K s2 G2=some r->Rel B w0 ρ2 s2 a2 w2->GR G2 a2->next a2 w2) :
  if Region.wanted o (yielded ops a.tmps) then o.wpIn (Fw ro) n P a w next Q else next (a.put o.dst undef) w:=by
 have hwant:∀ b,a.tmps.getD tg undef=.bool b->Region.wanted o (yielded ops a.tmps)=(b == want):=by
  intro b hb;simp only [Region.wanted,hg,GP htg hb];cases b <;> cases want <;> rfl
 unfold vN at h;split at h
 ·rename_i b hb;have hreal:a.tmps.getD tg undef=.bool b:=by
   have:=hs.tmL (t:=tg) hsz';rw [hb] at this; exact this.1
  have hlit:∀ q:Bool,b=q->Rel B w0 ρ (s.put tg (.bool q)) a w:=λ q e=>hs.putSame (by rw [mU (by rw [hs.size]; exact hsz'),hreal,e]; exact AVR.bool _) (by simp [AV.refs,CV.refs,SV.refs]);rw [hwant b hreal];split at h
  ·rename_i p d hp hd;obtain ⟨h1,h2⟩:=bA h;simp only [aW] at h1;obtain ⟨⟨c1,c2⟩,c3⟩:=h1;have c1:d < s.sz:=dA c1;have c2:d ≠ tg:=by
    intro e; subst e; simp at c2
   have hda:d < a.tmps.size:=by rw [hs.size]; exact c1
   by_cases hbw:b=want
   ·subst hbw;have hrun:=aLE hs hG hreal hp;simp only [DT,lK];refine uS (aLD hp) ?_;rw [hrun,Oper.uponIn_value];refine hn _ _ _ _ ρ h2 ?_ ?_
    ·rw [hd]; exact hs.put trivial (by simp [AV.refs,CV.refs,SV.refs]) c1
    ·rw [hd]; exact hG.cons c3 c2 hda (λ _=>rfl) (λ hg=>by rw [hreal] at hg; cases b <;> cases hg)
   ·have:(b == want)=false:=by simpa using hbw
    rw [this];simp only [CZ,oK];refine hn _ _ _ _ ρ h2 ?_ ?_
    ·rw [hd]; exact hs.put trivial (by simp [AV.refs,CV.refs,SV.refs]) c1
    ·rw [hd]; exact hG.cons c3 c2 hda (λ hg=>by rw [hreal] at hg; cases hg; exact absurd rfl hbw) (λ _=>rfl)
  ·split at h
   ·cases b
    ·obtain ⟨s2,G2,q1,q2,q3⟩:=vO h (hlit false rfl) (hG.dropD tg);simp only [CZ,oK,show (false == true)=false from rfl];exact hn _ _ _ _ ρ q1 q2 q3
    ·simp only [DT,lK];exact (xS hΓ (MJ hreal (hlit true rfl) hG) (hG.dropD tg) h hn)
   ·cases b
    ·simp only [DT,lK];exact (xS hΓ (MJ hreal (hlit false rfl) hG) (hG.dropD tg) h hn)
    ·obtain ⟨s2,G2,q1,q2,q3⟩:=vO h (hlit true rfl) (hG.dropD tg);simp only [CZ,oK,show (true == false)=false from rfl];exact hn _ _ _ _ ρ q1 q2 q3
 ·split at h
  ·rename_i hu;have hreal:∃ vs,a.tmps.getD tg undef=.tuple vs:=by
    unfold Js at hu;split at hu
    ·rename_i vs he;have:=hs.tmL (t:=tg) hsz';rw [he] at this; exact ⟨vs,this.1⟩
    ·simp at hu
   obtain ⟨vs,hvs⟩:=hreal;have:Region.wanted o (yielded ops a.tmps)=false:=by
    simp [Region.wanted,hg,D3 htg hvs]
   rw [this];simp only [CZ,oK];obtain ⟨s2,G2,q1,q2,q3⟩:=vO h hs hG;exact hn _ _ _ _ ρ q1 q2 q3
  ·simp at h
theorem aLG {G:iB} {t u:Nat} {w:Bool} {p:Pl} (h:aS2 G t=some (u,w,p)):(t,u,w,p) ∈ G:=by
 induction G with
 | nil=>cases h
 | cons q r ih=>
  obtain ⟨d,u',w',p'⟩:=q;simp only [aS2] at h;cases hb:Nat.beq d t
  ·rw [hb] at h; exact Cj _ (ih h)
  ·rw [hb] at h;have:d=t:=aT hb;subst this; cases h; simp
theorem Vb {c:Cf} (hΓ:CfOk P c) {ops:Array Oper} {G:iB} {o:Oper} {K:St->iB->Option β} (hs:Rel B w0 ρ s a w) (hG:GR G a) (h:aLC P c ops G o s K=some r) {next:Act->World->Prop} {Q:Exit->Act->World->Prop}
  (hn:∀ s2 G2 a2 w2 ρ2,K s2 G2=some r->Rel B w0 ρ2 s2 a2 w2->GR G2 a2->next a2 w2) :
  if Region.wanted o (yielded ops a.tmps) then o.wpIn (Fw ro) n P a w next Q else next (a.put o.dst undef) w:=by
 unfold aLC at h;split at h
 ·rename_i hg;have:Region.wanted o (yielded ops a.tmps)=true:=by simp [Region.wanted,hg]
  rw [aX this];exact (xS hΓ hs hG h hn)
 ·rename_i j want hg;split at h
  ·rename_i tg htg;obtain ⟨hsz,h⟩:=bA h;have hsz':tg < s.sz:=dA hsz;split at h
   ·rename_i u w' q hgy;have hmem:=aLG hgy;split at h
    ·rename_i b hb;obtain ⟨hu,h⟩:=bA h;have hu':u < s.sz:=dA hu;have hreal:a.tmps.getD u undef=.bool b:=by
      have:=hs.tmL (t:=u) hu';rw [hb] at this; exact this.1
     obtain ⟨k1,k2,k3⟩:=hG tg u w' (.bool q) hmem;have hlit:Rel B w0 ρ (s.put u (.bool b)) a w:=hs.putSame (by rw [mU (by rw [hs.size]; exact hu'),hreal]; exact AVR.bool _) (by simp [AV.refs,CV.refs,SV.refs]);by_cases hbw:b=w'
     ·subst hbw;simp only [DT,aB] at h;have hz:(CF G u b (s.put u (.bool b))).sz=s.sz:=aLF;refine oE hΓ hg htg (by show tg < (CF G u b (s.put u (.bool b))).sz; rw [hz]; exact hsz') ((MJ hreal hlit hG).putSame ?_ (by simp [AV.refs,CV.refs,SV.refs])) hG h hn;rw [mU (by rw [hs.size]; exact hsz'),k2 hreal];exact AVR.bool _
     ·have e:(b == w')=false:=by simpa using hbw
      have e2:b=!w':=by cases b <;> cases w' <;> simp_all
      rw [e] at h;simp only [aE] at h;rw [e2] at hlit hreal;refine oE hΓ hg htg (by exact hsz') (hlit.putSame ?_ (by simp [AV.refs,CV.refs,SV.refs])) hG h hn;rw [mU (by rw [hs.size]; exact hsz'),k3 hreal];exact ⟨rfl,λ _ _ e=>by cases e⟩
    ·exact oE hΓ hg htg hsz' hs hG h hn
   ·exact oE hΓ hg htg hsz' hs hG h hn
  ·simp at h
theorem Y7 {c:Cf} (hΓ:CfOk P c) {ops:Array Oper} {Q:Exit->Act->World->Prop} {K:St->Option β}:∀ (l:List Oper) {G:iB} {s:St} {a:Act} {w:World} {ρ:Plc},Rel B w0 ρ s a w->GR G a->bEp P c ops l G s K=some r ->
  (∀ s' a' w' ρ',K s'=some r->Rel B w0 ρ' s' a' w'->Q .normal a' w')->wpListIn (Fw ro) n P ops Q l a w:=by
 intro l
 induction l with
 | nil=>intro G s a w ρ hs hG h hQ; exact hQ s a w ρ h hs
 | cons o rest ih=>
  intro G s a w ρ hs hG h hQ;have h1:=Vb (ro:=ro) (n:=n) (Q:=Q) hΓ hs hG h λ s2 G2 a2 w2 ρ2 h1 h2 h3=>ih h2 h3 h1 hQ;unfold wpListIn;by_cases hw:Region.wanted o (yielded ops a.tmps)=true
  ·rw [aX hw] at h1 ⊢; exact h1
  ·rw [aV hw] at h1 ⊢; exact ⟨λ _ _=>trivial,h1⟩
end
end
noncomputable section
open Go Go.RowKit
set_option linter.all false
theorem cC {α γ:Type} (b:Bool) (x:Option α) (f:α->Option γ):(cond b x none).bind f=cond b (x.bind f) none:=by cases b <;> rfl
theorem rM {α γ:Type} (b:Bool) (x:Option α) (f:α->Option γ):(cond b none x).bind f=cond b none (x.bind f):=by cases b <;> rfl
theorem AY {α γ:Type} (b:Bool) (x y:Option α) (f:α->Option γ):(cond b x y).bind f=cond b (x.bind f) (y.bind f):=by cases b <;> rfl
theorem lX {α:Type} (b:Bool) {x y:Option α} (h:x=y):cond b x none=cond b y none:=by rw [h]
theorem Ox {α:Type} (b:Bool) {x y:Option α} (h:x=y):cond b none x=cond b none y:=by rw [h]
theorem aCr {α:Type} (b:Bool) {x y u v:Option α} (h:x=u) (h2:y=v):cond b x y=cond b u v:=by rw [h,h2]
section
variable {P:Program} {s:St} {β:Type}
theorem MK (T:TypeId) (x:AV) (K:AV->Option β):wF P T s x K=(wF P T s x some).bind K:=by
 unfold wF
 repeat' (first | rfl | (rw [cC]; refine lX _ ?_) | (rw [rM]; refine Ox _ ?_) | split)
theorem Ik (T:TypeId) (x:AV) (lo hi mx:Option AV) (K:AV->Option β):AP P T x lo hi mx K=(AP P T x lo hi mx some).bind K:=by
 unfold AP
 repeat' (first | rfl | (rw [cC]; refine lX _ ?_) | (rw [rM]; refine Ox _ ?_) | split)
theorem aFw (T:TypeId) (op:BinOp) (x y:AV) (K:AV->Option β):LT P T op x y K=(LT P T op x y some).bind K:=by
 unfold LT Qd Qe
 repeat' (first | rfl | (rw [cC]; refine lX _ ?_) | (rw [rM]; refine Ox _ ?_) | split)
theorem Vc (T:TypeId) (op:BinOp) (x y:AV) (K:AV->Option β):Hw P T op x y K=(Hw P T op x y some).bind K:=by
 unfold Hw
 repeat' (first | rfl | (rw [cC]; refine lX _ ?_) | (rw [rM]; refine Ox _ ?_) | split)
theorem Il (T:TypeId) (op:BinOp) (xs ys:List SV) (K:AV->Option β):Ef P T op xs ys K=(Ef P T op xs ys some).bind K:=by
 unfold Ef
 repeat' (first | rfl | (rw [cC]; refine lX _ ?_) | (rw [rM]; refine Ox _ ?_) | split)
theorem ML (T:TypeId) (op:BinOp) (x y:AV) (K:AV->Option β):Iv P T op x y K=(Iv P T op x y some).bind K:=by
 unfold Iv;split
 ·exact Il _ _ _ _ _
 ·exact Vc _ _ _ _ _
 ·exact Il _ _ _ _ _
 ·exact aFw _ _ _ _ _
theorem xT (T:TypeId) (x y:AV) (K:St->Option β):pT P T s x y K=(pT P T s x y some).bind K:=by
 unfold pT
 repeat' (first | rfl | (rw [cC]; refine lX _ ?_) | (rw [rM]; refine Ox _ ?_) | split)
theorem Vd (op:UnOp) (x:AV) (K:AV->Option β):aUn op x K=(aUn op x some).bind K:=by
 unfold aUn
 repeat' (first | rfl | split)
theorem Ec (a b:TypeId) (x:AV) (K:AV->Option β):Bq P a b x K=(Bq P a b x some).bind K:=by
 unfold Bq
 repeat' (first | rfl | split)
theorem Im (T:TypeId) (x:AV) (f:Nat) (K:AV->Option β):AN P T x f K=(AN P T x f some).bind K:=by
 unfold AN
 repeat' (first | rfl | (rw [cC]; refine lX _ ?_) | split)
theorem MM (T:TypeId) (x:AV) (f:Nat) (K:AV->Option β):La P T f x K=(La P T f x some).bind K:=by
 unfold La
 repeat' (first | rfl | (rw [cC]; refine lX _ ?_) | split)
theorem GQ (T:TypeId) (x:AV) (f:Nat) (K:AV->Option β):uQ P T x f K=(uQ P T x f some).bind K:=by
 unfold uQ
 repeat' (first | rfl | exact MM _ _ _ _ | split)
theorem Ro (T:TypeId) (x i:AV) (K:AV->Option β):xM P T x i K=(xM P T x i some).bind K:=by
 unfold xM
 repeat' (first | rfl | exact MM _ _ _ _ | (rw [cC]; refine lX _ ?_) | split)
theorem D4 (T:TypeId) (x i:AV) (K:AV->Option β):pV P T x i K=(pV P T x i some).bind K:=by
 unfold pV
 repeat' (first | rfl | exact Ro _ _ _ _ | (rw [cC]; refine lX _ ?_) | split)
theorem A8 (T:TypeId) (x i:AV) (K:AV->Option β):kZ P T x i K=(kZ P T x i some).bind K:=by
 unfold kZ
 repeat' (first | rfl | (rw [cC]; refine lX _ ?_) | split)
theorem CG (x:AV) (K:AV->Option β):mV x K=(mV x some).bind K:=by
 unfold mV
 repeat' (first | rfl | split)
theorem In (T:TypeId) (x:AV) (K:AV->Option β):AO P T x K=(AO P T x some).bind K:=by
 unfold AO;split
 ·rw [cC]; rfl
 ·rfl
theorem GS (fn:Fn) (x y:List AV) (K:AV->Option β):uV fn x y K=(uV fn x y some).bind K:=by
 unfold uV
 repeat' (first | rfl | split)
theorem D5 (x:AV) (i:Nat) (K:AV->Option β):pS x i K=(pS x i some).bind K:=by
 unfold pS
 repeat' (first | rfl | split)
theorem Oy (T:TypeId) (x:AV) (K:AV->Option β):Qj P T x K=(Qj P T x some).bind K:=by
 unfold Qj
 repeat' (first | rfl | split)
theorem Ip (T:TypeId) (ps:List (Nat × AV)) (K:AV->Option β):AR P T ps K=(AR P T ps some).bind K:=by
 unfold AR
 repeat' (first | rfl | (rw [cC]; refine lX _ ?_) | split)
theorem GT (l:List AV) (K:AV->Option β):uW l K=(uW l some).bind K:=by
 unfold uW
 repeat' (first | rfl | split)
theorem GU (l:List AV) (K:AV->Option β):uX l K=(uX l some).bind K:=by
 unfold uX
 repeat' (first | rfl | split)
theorem MN (G:iB) (c x y:Operand) (K:AV->Option β):A9 G s c x y K=(A9 G s c x y some).bind K:=by
 unfold A9
 repeat' (first | rfl | (rw [AY]; refine aCr _ ?_ ?_) | split)
def nY (av:AV) (s:St):Option (AV × St):=some (av,s)
theorem pD (k nx':Nat) (T:TypeId) (x:AV) (K:AV->St->Option β):tO k nx' T s x K=(tO k nx' T s x nY).bind λ p=>K p.1 p.2:=by
 unfold tO
 repeat' (first | rfl | split)
theorem sD (k nx':Nat) (T:TypeId) (K:AV->St->Option β):pU P k nx' T s K=(pU P k nx' T s nY).bind λ p=>K p.1 p.2:=by
 unfold pU
 repeat' (first | rfl | exact pD _ _ _ _ _ | split)
theorem Oz (T:TypeId) (x:AV) (K:AV->St->Option β):YO T s x K=(YO T s x nY).bind λ p=>K p.1 p.2:=by
 unfold YO;exact pD _ _ _ _ _
theorem Ve (T:TypeId) (K:AV->St->Option β):Hl P T s K=(Hl P T s nY).bind λ p=>K p.1 p.2:=by
 unfold Hl
 repeat' (first | rfl | exact Oz _ _ _ | split)
theorem uU (k nx':Nat) (T:TypeId) (x y:AV) (K:AV->St->Option β):uR P k nx' T x y s K=(uR P k nx' T x y s nY).bind λ p=>K p.1 p.2:=by
 unfold uR
 repeat' (first | rfl | (rw [cC]; refine lX _ ?_) | split)
theorem Y8 (T:TypeId) (x y:AV) (K:AV->St->Option β):OU P T x y s K=(OU P T x y s nY).bind λ p=>K p.1 p.2:=by
 unfold OU
 repeat' (first | rfl | (rw [cC]; refine lX _ ?_) | split)
theorem Ht (own:Bool) (T:TypeId) (len:Nat) (ps:List (Nat × AV)) (K:AV->St->Option β):jP P own T len ps s K=(jP P own T len ps s nY).bind λ p=>K p.1 p.2:=by
 unfold jP
 repeat' (first | rfl | (rw [cC]; refine lX _ ?_) | (rw [AY]; refine aCr _ ?_ ?_) | split)
theorem Vf (own:Bool) (a b:TypeId) (x:AV) (K:AV->St->Option β):Ab P own a b x s K=(Ab P own a b x s nY).bind λ p=>K p.1 p.2:=by
 unfold Ab
 repeat' (first | rfl | (rw [cC]; refine lX _ ?_) | split)
 ·rw [Ec,Ec (K:=λ v=>nY v s)];cases Bq P a b x some <;> rfl
theorem Rp (T:TypeId) (K:AV->St->Option β):DA P T s K=(DA P T s nY).bind λ p=>K p.1 p.2:=by
 unfold DA
 repeat' (first | rfl | split)
theorem MO (own:Bool) (T:TypeId) (x:AV) (K:AV->St->Option β):GY P own T x s K=(GY P own T x s nY).bind λ p=>K p.1 p.2:=by
 unfold GY;split
 ·exact Rp _ _
 ·rfl
theorem Rq (T:TypeId) (x y:AV) (K:AV->St->Option β):C8 P T x y s K=(C8 P T x y s nY).bind λ p=>K p.1 p.2:=by
 unfold C8
 repeat' (first | rfl | (rw [cC]; refine lX _ ?_) | split)
theorem Iq (Γ:FuncId->Option Summ) (g:FuncId) (first cap:List Pl) (args:List AV) (ts:List TypeId) (K:AV->St->Option β):CE P Γ g first cap args ts s K=(CE P Γ g first cap args ts s nY).bind λ p=>K p.1 p.2:=by
 unfold CE;split
 ·rw [cC]; refine lX _ ?_;rw [lZ]; rfl
 ·rw [cC]; refine lX _ ?_;rw [lZ];congr 1; funext t;rw [cC]; rfl
 ·rfl
theorem Vg (Γ:FuncId->Option Summ) (g:FuncId) (cs:List (TRow × Nat × Nat)) (args:List AV) (K:AV->St->Option β):Eb Γ g cs args s K=(Eb Γ g cs args s nY).bind λ p=>K p.1 p.2:=by
 unfold Eb;split
 ·rw [lZ]; rfl
 ·rw [lZ];congr 1; funext t;rw [cC]; rfl
 ·rfl
theorem AZ (Γ:FuncId->Option Summ) (E:Efs) (f:AV) (args:List AV) (ts:List TypeId) (K:AV->St->Option β):D2 P Γ E f args ts s K=(D2 P Γ E f args ts s nY).bind λ p=>K p.1 p.2:=by
 unfold D2;split
 ·split
  ·split
   ·rw [cC]; refine lX _ ?_;rw [cC]; rfl
   ·exact Iq _ _ _ _ _ _ _
  ·exact Iq _ _ _ _ _ _ _
 ·split
  ·split
   ·rw [cC]; rfl
   ·rfl
  ·rfl
 ·exact Vg _ _ _ _ _
 ·rfl
theorem fT {γ:Type} {f:∀ {δ:Type},(AV->Option δ)->Option δ} (hf:∀ {δ:Type} (K:AV->Option δ),f K=(f some).bind K) (K:AV->St->Option β):f (λ v=>K v s)=(f (λ v=>nY v s)).bind λ p=>K p.1 p.2:=by
 rw [hf (λ v=>K v s),hf (λ v=>nY v s),lZ];rfl
theorem Nf (own:Bool) (b:Builtin) (ts:List TypeId) (xs:List AV) (K:AV->St->Option β):qB P own b ts xs s K=(qB P own b ts xs s nY).bind λ p=>K p.1 p.2:=by
 unfold qB;split
 ·exact fT (γ:=Unit) (f:=λ K=>Qj P _ _ K) (λ K=>Oy _ _ K) K
 ·rw [cC]; refine lX _ ?_; exact Rq _ _ _ _
 ·exact fT (γ:=Unit) (f:=λ K=>uW _ K) (λ K=>GT _ K) K
 ·exact fT (γ:=Unit) (f:=λ K=>uX _ K) (λ K=>GU _ K) K
 ·rfl
theorem zP (own:Bool) (G:iB) (o:Oper) (K:AV->St->Option β):TJ P own G o s K=(TJ P own G o s nY).bind λ p=>K p.1 p.2:=by
 unfold TJ;split
 ·exact MO _ _ _ _
 ·exact MO _ _ _ _
 ·exact fT (γ:=Unit) (f:=λ K=>A9 G s _ _ _ K) (λ K=>MN _ _ _ _ K) K
 ·exact Ve _ _
 ·exact Oz _ _ _
 ·exact fT (γ:=Unit) (f:=λ K=>AR P _ _ K) (λ K=>Ip _ _ K) K
 ·exact Ht _ _ _ _ _
 ·exact fT (γ:=Unit) (f:=λ K=>wF P _ s _ K) (λ K=>MK _ _ K) K
 ·rw [xT (K:=λ s'=>K .junk s'),xT (K:=λ s'=>nY .junk s'),lZ]; rfl
 ·exact fT (γ:=Unit) (f:=λ K=>mV _ K) (λ K=>CG _ K) K
 ·exact fT (γ:=Unit) (f:=λ K=>Iv P _ _ _ _ K) (λ K=>ML _ _ _ _ K) K
 ·exact fT (γ:=Unit) (f:=λ K=>aUn _ _ K) (λ K=>Vd _ _ K) K
 ·exact Vf _ _ _ _ _
 ·exact fT (γ:=Unit) (f:=λ K=>uV _ _ _ K) (λ K=>GS _ _ _ K) K
 ·exact Y8 _ _ _ _
 ·exact fT (γ:=Unit) (f:=λ K=>AP P _ _ _ _ _ K) (λ K=>Ik _ _ _ _ _ K) K
 ·exact fT (γ:=Unit) (f:=λ K=>AN P _ _ _ K) (λ K=>Im _ _ _ K) K
 ·exact fT (γ:=Unit) (f:=λ K=>uQ P _ _ _ K) (λ K=>GQ _ _ _ K) K
 ·exact fT (γ:=Unit) (f:=λ K=>kZ P _ _ _ K) (λ K=>A8 _ _ _ K) K
 ·exact fT (γ:=Unit) (f:=λ K=>pV P _ _ _ K) (λ K=>D4 _ _ _ K) K
 ·exact fT (γ:=Unit) (f:=λ K=>pS _ _ K) (λ K=>D5 _ _ K) K
 ·exact Nf _ _ _ _ _
 ·exact fT (γ:=Unit) (f:=λ K=>AO P _ _ K) (λ K=>In _ _ K) K
 ·rfl
def yP (s:St) (G:iB):Option (St × iB):=some (s,G)
theorem CH (o:Oper) (G:iB) (K:St->iB->Option β) (av:AV) (s':St):lQ o G K av s'=(lQ o G yP av s').bind λ p=>K p.1 p.2:=by
 unfold lQ
 repeat' (first | rfl | (rw [cC]; refine lX _ ?_) | split)
theorem CI (c:Cf) (G:iB) (o:Oper) (K:St->iB->Option β):rL P c G o s K=(rL P c G o s yP).bind λ p=>K p.1 p.2:=by
 unfold rL;split
 ·rw [AZ (K:=lQ o G K),AZ (K:=lQ o G yP),lZ];congr 1; funext p; exact CH _ _ _ _ _
 ·rw [lZ];congr 1; funext k;rw [sD (K:=lQ o G K),sD (K:=lQ o G yP),lZ];congr 1; funext p; exact CH _ _ _ _ _
 ·rw [lZ];congr 1; funext k;rw [pD (K:=lQ o G K),pD (K:=lQ o G yP),lZ];congr 1; funext p; exact CH _ _ _ _ _
 ·rw [lZ];congr 1; funext k;rw [uU (K:=lQ o G K),uU (K:=lQ o G yP),lZ];congr 1; funext p; exact CH _ _ _ _ _
 ·rw [zP (K:=lQ o G K),zP (K:=lQ o G yP),lZ];congr 1; funext p; exact CH _ _ _ _ _
theorem CJ (o:Oper) (G:iB) (K:St->iB->Option β):nL o G s K=(nL o G s yP).bind λ p=>K p.1 p.2:=by
 unfold nL
 repeat' (first | rfl | (rw [cC]; refine lX _ ?_) | split)
theorem Nh (c:Cf) (G:iB) (tg:Nat) (want:Bool) (o:Oper) (K:St->iB->Option β):sZ P c G tg want o s K=(sZ P c G tg want o s yP).bind λ p=>K p.1 p.2:=by
 unfold sZ;split
 ·split
  ·rw [AY]; exact aCr _ (CI _ _ _ _) (CJ _ _ _)
  ·rw [AY]; exact aCr _ (CJ _ _ _) (CI _ _ _ _)
 ·split
  ·exact CJ _ _ _
  ·rfl
theorem aFx (c:Cf) (ops:Array Oper) (G:iB) (o:Oper) (K:St->iB->Option β):MH P c ops G o s K=(MH P c ops G o s yP).bind λ p=>K p.1 p.2:=by
 unfold MH;split
 ·exact CI _ _ _ _
 ·split
  ·rw [cC]; exact lX _ (Nh _ _ _ _ _ _)
  ·rfl
end
end
noncomputable section
open Go Go.RowKit
set_option linter.all false
inductive Kd where
 | pure | mem | wr | bad
 deriving DecidableEq
def dS (own:Bool):Op->Kd
 | .move _ | .assign _=>cond own .bad .pure
 | .pick .. | .binOp .. | .unOp .. | .extract .. | .field .. | .index .. | .fieldAddr .. | .indexAddr .. | .nilCheck _ | .makeFunc .. | .build .. | .slice .. | .sliceToArrayPointer ..=>.pure
 | .load ..=>.mem
 | .convert .. | .buildSlice ..=>cond own .bad .mem
 | .store .. | .alloc _ | .box .. | .makeSlice ..=>.wr
 | .call { callee:=.value _,.. } =>.mem
 | .call { callee:=.builtin .len,.. } | .call { callee:=.builtin .min,.. } | .call { callee:=.builtin .max,.. } =>.pure
 | _=>.bad
section
variable {P:Program} {s s2 s':St} {β:Type} {G G2:iB} {av:AV}
structure Ag (lk:List Tmp) (G:iB) (s:St) (G2:iB) (s2:St):Prop where
 get:∀ t ∈ lk,s.get t=s2.get t
 gf:∀ t ∈ lk,∀ tg ∈ lk,∀ w,gW G t tg w=gW G2 t tg w
 sz:s.sz=s2.sz
 nx:s.nx=s2.nx
theorem MP {ops:Array Oper} {o:Oper} {t:Tmp} (h:.tmp t ∈ o.op.operands.toList):t ∈ o.looksAt ops:=by
 unfold Oper.looksAt;rw [wT];exact .inl (List.mem_filterMap.2 ⟨.tmp t,h,rfl⟩)
theorem Ag.evt {lk:List Tmp} (h:Ag lk G s G2 s2) {t:Tmp} (ht:t ∈ lk):s.ev (.tmp t)=s2.ev (.tmp t):=by
 show cond (Nat.blt t s.sz) (s.get t) .junk=cond (Nat.blt t s2.sz) (s2.get t) .junk;rw [h.sz,h.get t ht]
theorem Ag.ev {ops:Array Oper} {o:Oper} (h:Ag (o.looksAt ops) G s G2 s2) {x:Operand} (hx:x ∈ o.op.operands.toList):s.ev x=s2.ev x:=by
 cases x with
 | tmp t=>exact h.evt (MP hx)
 | _=>rfl
theorem eS {f g:∀ {δ:Type},(AV->Option δ)->Option δ} (hf:∀ {δ:Type} (K:AV->Option δ),f K=(f some).bind K) (hfg:∀ {δ:Type} (K:AV->Option δ),f K=g K) (h:f (λ v=>nY v s)=some (av,s')) :
  s'=s /\ g (λ v=>nY v s2)=some (av,s2):=by
 rw [hf] at h;obtain ⟨v,h1,h2⟩:=fK.1 h;simp [nY] at h2;obtain ⟨rfl,rfl⟩:=h2;refine ⟨rfl,?_⟩;rw [<-hfg,hf,h1]; rfl
theorem MQ {lk:List Tmp} (h:Ag lk G s G2 s2) {tc:Nat} (hc:tc ∈ lk) {want:Bool} {x:Operand} (hx:∀ t,x=.tmp t->t ∈ lk):Rx G s tc want x=Rx G2 s2 tc want x:=by
 cases x with
 | tmp t=>simp only [Rx,h.gf t (hx t rfl) tc hc,h.evt (hx t rfl)]
 | _=>rfl
theorem Vh {lk:List Tmp} (h:Ag lk G s G2 s2) {c x y:Operand} (hc:∀ t,c=.tmp t->t ∈ lk) (hx:∀ t,x=.tmp t->t ∈ lk) (hy:∀ t,y=.tmp t->t ∈ lk) (K:AV->Option β):A9 G s c x y K=A9 G2 s2 c x y K:=by
 have e1:s.ev x=s2.ev x:=by
  cases x with
  | tmp t=>exact h.evt (hx t rfl)
  | _=>rfl
 have e2:s.ev y=s2.ev y:=by
  cases y with
  | tmp t=>exact h.evt (hy t rfl)
  | _=>rfl
 cases c with
 | tmp tc=>
  have hm:=hc tc rfl;simp only [A9,h.evt hm,MQ h hm hx,MQ h hm hy,e1,e2]
 | _=>rfl
theorem aLH {ops:Array Oper} {o:Oper} {own:Bool} (hk:dS own o.op=.pure) (h:Ag (o.looksAt ops) G s G2 s2) (hr:TJ P own G o s nY=some (av,s')) :
  s'=s /\ TJ P own G2 o s2 nY=some (av,s2):=by
 have ev:∀ x ∈ o.op.operands.toList,s.ev x=s2.ev x:=λ x hx=>h.ev hx;have tm:∀ t,.tmp t ∈ o.op.operands.toList->t ∈ o.looksAt ops:=λ t ht=>MP ht;unfold TJ at hr ⊢;cases hop:o.op with
 | move x=>
  rw [hop] at hk hr ev;cases own
  ·simp only [Op.operands] at ev;have e:=ev x (by simp);simp only [GY,tY,nY] at hr ⊢;simp at hr; obtain ⟨rfl,rfl⟩:=hr;exact ⟨rfl,by rw [e]⟩
  ·simp [dS] at hk
 | assign x=>
  rw [hop] at hk hr ev;cases own
  ·simp only [Op.operands] at ev;have e:=ev x (by simp);simp only [GY,tY,nY] at hr ⊢;simp at hr; obtain ⟨rfl,rfl⟩:=hr;exact ⟨rfl,by rw [e]⟩
  ·simp [dS] at hk
 | pick c x y=>
  rw [hop] at hr tm;simp only [Op.operands] at tm;exact eS (f:=λ K=>A9 G s c x y K) (g:=λ K=>A9 G2 s2 c x y K) (λ K=>MN _ _ _ _ K)
   (λ K=>Vh h (λ t e=>tm t (by simp [e])) (λ t e=>tm t (by simp [e])) (λ t e=>tm t (by simp [e])) K) hr
 | binOp op T x y yt=>
  rw [hop] at hr ev;simp only [Op.operands] at ev;exact eS (f:=λ K=>Iv P T op (s.ev x) (s.ev y) K) (g:=λ K=>Iv P T op (s2.ev x) (s2.ev y) K) (λ K=>ML _ _ _ _ K) (λ K=>by rw [ev x (by simp),ev y (by simp)]) hr
 | unOp op T x=>
  rw [hop] at hr ev;simp only [Op.operands] at ev;exact eS (f:=λ K=>aUn op (s.ev x) K) (g:=λ K=>aUn op (s2.ev x) K) (λ K=>Vd _ _ K) (λ K=>by rw [ev x (by simp)]) hr
 | extract x i=>
  rw [hop] at hr ev;simp only [Op.operands] at ev;exact eS (f:=λ K=>pS (s.ev x) i K) (g:=λ K=>pS (s2.ev x) i K) (λ K=>D5 _ _ K) (λ K=>by rw [ev x (by simp)]) hr
 | field T x f=>
  rw [hop] at hr ev;simp only [Op.operands] at ev;exact eS (f:=λ K=>uQ P T (s.ev x) f K) (g:=λ K=>uQ P T (s2.ev x) f K) (λ K=>GQ _ _ _ K) (λ K=>by rw [ev x (by simp)]) hr
 | index T x i=>
  rw [hop] at hr ev;simp only [Op.operands] at ev;exact eS (f:=λ K=>pV P T (s.ev x) (s.ev i) K) (g:=λ K=>pV P T (s2.ev x) (s2.ev i) K) (λ K=>D4 _ _ _ K) (λ K=>by rw [ev x (by simp),ev i (by simp)]) hr
 | fieldAddr T x f=>
  rw [hop] at hr ev;simp only [Op.operands] at ev;exact eS (f:=λ K=>AN P T (s.ev x) f K) (g:=λ K=>AN P T (s2.ev x) f K) (λ K=>Im _ _ _ K) (λ K=>by rw [ev x (by simp)]) hr
 | indexAddr T x i=>
  rw [hop] at hr ev;simp only [Op.operands] at ev;exact eS (f:=λ K=>kZ P T (s.ev x) (s.ev i) K) (g:=λ K=>kZ P T (s2.ev x) (s2.ev i) K) (λ K=>A8 _ _ _ K) (λ K=>by rw [ev x (by simp),ev i (by simp)]) hr
 | nilCheck x=>
  rw [hop] at hr ev;simp only [Op.operands] at ev;exact eS (f:=λ K=>mV (s.ev x) K) (g:=λ K=>mV (s2.ev x) K) (λ K=>CG _ K) (λ K=>by rw [ev x (by simp)]) hr
 | sliceToArrayPointer T x=>
  rw [hop] at hr ev;simp only [Op.operands] at ev;exact eS (f:=λ K=>AO P T (s.ev x) K) (g:=λ K=>AO P T (s2.ev x) K) (λ K=>In _ _ K) (λ K=>by rw [ev x (by simp)]) hr
 | makeFunc fn first cap=>
  rw [hop] at hr ev;simp only [Op.operands] at ev;have e1:first.toList.map s.ev=first.toList.map s2.ev:=Ci λ x hx=>ev x (by simp at hx ⊢; exact .inl hx)
  have e2:cap.toList.map s.ev=cap.toList.map s2.ev:=Ci λ x hx=>ev x (by simp at hx ⊢; exact .inr hx);exact eS (f:=λ K=>uV fn (first.toList.map s.ev) (cap.toList.map s.ev) K) (g:=λ K=>uV fn (first.toList.map s2.ev) (cap.toList.map s2.ev) K) (λ K=>GS _ _ _ K) (λ K=>by rw [e1,e2]) hr
 | build T ps=>
  rw [hop] at hr ev;simp only [Op.operands] at ev;have e1:evps s ps=evps s2 ps:=Ci λ x hx=>by rw [ev x.2 (by simp at hx ⊢; exact ⟨x.1,hx⟩)]
  exact eS (f:=λ K=>AR P T (evps s ps) K) (g:=λ K=>AR P T (evps s2 ps) K) (λ K=>Ip _ _ K) (λ K=>by rw [e1]) hr
 | slice T x lo hi mx=>
  rw [hop] at hr ev;simp only [Op.operands] at ev;have e0:=ev x (by simp);have e1:qA s lo=qA s2 lo:=by cases lo with
   | none=>rfl
   | some y=>simp only [qA]; rw [ev y (by simp)]
  have e2:qA s hi=qA s2 hi:=by cases hi with
   | none=>rfl
   | some y=>simp only [qA]; rw [ev y (by simp)]
  have e3:qA s mx=qA s2 mx:=by cases mx with
   | none=>rfl
   | some y=>simp only [qA]; rw [ev y (by simp)]
  exact eS (f:=λ K=>AP P T (s.ev x) (qA s lo) (qA s hi) (qA s mx) K) (g:=λ K=>AP P T (s2.ev x) (qA s2 lo) (qA s2 hi) (qA s2 mx) K) (λ K=>Ik _ _ _ _ _ K) (λ K=>by rw [e0,e1,e2,e3]) hr
 | call c=>
  rw [hop] at hk hr ev;obtain ⟨callee,args,ats⟩:=c;cases callee with
  | value f=>simp [dS] at hk
  | invoke r m=>simp [dS] at hk
  | builtin b=>
   simp only [Op.operands,Call.operands] at ev;have e1:args.toList.map s.ev=args.toList.map s2.ev:=Ci λ x hx=>ev x (by simpa using hx);simp only [e1] at hr ⊢;cases b <;> simp only [dS,reduceCtorEq] at hk
   ·unfold qB at hr ⊢;split at hr
    ·rename_i t tr x hts hb hxs;exact eS (f:=λ K=>Qj P t x K) (g:=λ K=>Qj P t x K) (λ K=>Oy _ _ K) (λ K=>rfl) hr
    all_goals first | (rename_i hb; cases hb; done) | (rename_i hb _; cases hb; done) | (rename_i hb _ _; cases hb; done) | skip
    ·simp at hr
   ·unfold qB at hr ⊢;exact eS (f:=λ K=>uX (args.toList.map s2.ev) K) (g:=λ K=>uX (args.toList.map s2.ev) K) (λ K=>GU _ K) (λ K=>rfl) hr
   ·unfold qB at hr ⊢;exact eS (f:=λ K=>uW (args.toList.map s2.ev) K) (g:=λ K=>uW (args.toList.map s2.ev) K) (λ K=>GT _ K) (λ K=>rfl) hr
 | _=>rw [hop] at hk; simp [dS] at hk; try (cases own <;> simp at hk)
end
end
noncomputable section
open Go Go.RowKit
set_option linter.all false
def tR (s:St):Nat->Nat ⊕ Option Blk
 | 0=>.inl s.nx
 | i+1=>.inr (cG s.hp i)
def Jt (s:St) (o:Oper):List Nat :=
 match o.dst with
 | some d=>[s.nx - 1 - d+1]
 | none=>[]
def jX (s:St) (o:Oper):List Nat :=
 match o.op with
 | .load _ x=>(s.ev x).refs.map (·+1)
 | .store _ x _=>(s.ev x).refs.map (·+1)
 | .alloc _ | .box .. | .makeSlice ..=>Jt s o
 | .convert _ _ x=>(s.ev x).refs.map (·+1)
 | .call { callee:=.value f,args,.. } =>((args.toList.map s.ev).flatMap AV.refs).map (·+1)
 | _=>[]
structure Ft (F:List Nat) (wr:Prop) (s s' s2 s2':St):Prop where
 tm:s'.tm=s.tm
 tm2:s2'.tm=s2.tm
 sz:s'.sz=s.sz
 sz2:s2'.sz=s2.sz
 nx:s'.nx=s.nx
 nx2:s2'.nx=s2.nx
 same:∀ c ∈ F,tR s' c=tR s2' c
 rest:∀ c,c ∉ F->tR s' c=tR s c
 rest2:∀ c,c ∉ F->tR s2' c=tR s2 c
 still:¬ wr->s'=s /\ s2'=s2
section
variable {P:Program} {s s2 s':St} {β:Type} {G G2:iB} {av:AV}
theorem Ft.id {F:List Nat} {wr:Prop} (h:∀ c ∈ F,tR s c=tR s2 c):Ft F wr s s s2 s2:=⟨rfl,rfl,rfl,rfl,rfl,rfl,h,λ _ _=>rfl,λ _ _=>rfl,λ _=>⟨rfl,rfl⟩⟩
theorem GV {l:List Nat} (h:∀ c ∈ l.map (·+1),tR s c=tR s2 c) {i:Nat} (hi:i ∈ l):cG s.hp i=cG s2.hp i:=by
 have:=h (i+1) (lU.2 ⟨i,hi,rfl⟩);simpa [tR] using this
theorem Y9 {T:TypeId} {x:AV} (h:∀ i ∈ x.refs,cG s.hp i=cG s2.hp i) (K:AV->Option β):wF P T s x K=wF P T s2 x K:=by
 unfold wF;split
 ·rename_i id off ext;rw [h id (by simp [AV.refs,CV.refs,SV.refs])]
 ·rfl
 ·rfl
 ·rfl
 ·rfl
theorem Rr {T:TypeId} {x:AV} (h:∀ i ∈ x.refs,cG s.hp i=cG s2.hp i):C9 P T s x=C9 P T s2 x:=by
 rw [<-jO (P:=P) (T:=T)] at h;unfold C9;generalize lS P T x=y at h;split <;> first | rfl | (rw [h _ (by simp [AV.refs,CV.refs,SV.refs])])
theorem Rs {x:AV} (h:∀ i ∈ x.refs,cG s.hp i=cG s2.hp i):C6 s x=C6 s2 x:=by
 unfold C6;split <;> first | rfl | (rw [h _ (by simp [AV.refs,CV.refs,SV.refs])])
theorem GW {l:List AV} (h:∀ i ∈ l.flatMap AV.refs,cG s.hp i=cG s2.hp i):mW s l=mW s2 l:=by
 induction l with
 | nil=>rfl
 | cons x r ih=>
  simp only [mW];rw [Rs λ i hi=>h i (by simp [hi]),ih λ i hi=>h i (fR.2 (by obtain ⟨y,h1,h2⟩:=fR.1 hi; exact ⟨y,by simp [h1],h2⟩))]
theorem ZA {Γ:FuncId->Option Summ} {E:Efs} (hE:E=cX) {f:AV} {args:List AV} {ts:List TypeId} (h:∀ i ∈ args.flatMap AV.refs,cG s.hp i=cG s2.hp i) :
  D2 P Γ E f args ts s nY=some (av,s')->s'=s /\ D2 P Γ E f args ts s2 nY=some (av,s2):=by
 subst hE;intro hr;unfold D2 at hr ⊢;split at hr
 ·rename_i g first cap
  simp only [cX] at hr ⊢;unfold CE at hr ⊢;have e:mW s (qX first++(uT P args ts++qX cap))=mW s2 (qX first++(uT P args ts++qX cap)):=by
   refine GW λ i hi=>h i ?_;simp only [ND,MG,lF,jC] at hi;exact Rl i hi
  simp only [e] at hr;split at hr
  ·rename_i A ys hA hys;obtain ⟨h1,h2⟩:=bA hr;rw [h1];obtain ⟨t,k0,k1⟩:=fK.1 h2;simp [nY] at k1;obtain ⟨rfl,rfl⟩:=k1;simp [k0,nY]
  ·rename_i A ys hA hys;obtain ⟨h1,h2⟩:=bA hr;rw [h1];obtain ⟨t,k0,k1⟩:=fK.1 h2;obtain ⟨k2,k3⟩:=bA k1;simp [nY] at k3;obtain ⟨rfl,rfl⟩:=k3;simp [k0,k2,nY]
  ·simp at hr
 ·simp [cX] at hr
 ·rename_i g cs;unfold Eb at hr ⊢;have e:mW s (args++cs.map Hs)=mW s2 (args++cs.map Hs):=by
   refine GW λ i hi=>h i ?_;have hz:(cs.map Hs).flatMap AV.refs=[]:=by
    rw [Ew];intro x hx;obtain ⟨c,_,rfl⟩:=lU.1 hx;rfl
   simpa only [ND,hz,jC] using hi
  simp only [e] at hr;split at hr
  ·rename_i A ys hA hys;obtain ⟨t,k0,k1⟩:=fK.1 hr;simp [nY] at k1;obtain ⟨rfl,rfl⟩:=k1;simp [k0,nY,hA,hys]
  ·rename_i A ys hA hys;obtain ⟨t,k0,k1⟩:=fK.1 hr;obtain ⟨k2,k3⟩:=bA k1;simp [nY] at k3;obtain ⟨rfl,rfl⟩:=k3;simp [k0,k2,nY,hA,hys]
  ·simp at hr
 ·simp at hr
theorem Vi {T:TypeId} {x v:AV} (hr:pT P T s x v some=some s') :
  ∃ id b,x.refs=[id] /\ s'={ s with hp:=upd id b s.hp } /\ ∀ s2:St,cG s.hp id=cG s2.hp id->pT P T s2 x v some=some { s2 with hp:=upd id b s2.hp }:=by
 unfold pT at hr;simp only [St.setBlk_eq] at hr;split at hr
 ·rename_i id off ext;refine ⟨id,?_⟩;split at hr
  ·rename_i b hb hk hm;split at hr
   ·rename_i sv hsv;obtain ⟨h1,h2⟩:=bA hr;split at h2
    ·rename_i rr hrr;split at h2
     ·rename_i r' hr';simp at h2;refine ⟨_,rfl,h2.symm,λ s2 e=>?_⟩;unfold pT; simp only [St.setBlk_eq];simp only [<-e,hb,hk,hm,hsv,hrr,hr',h1,aB]
     ·simp at h2
    ·rename_i l hl;simp at h2;refine ⟨_,rfl,h2.symm,λ s2 e=>?_⟩;unfold pT; simp only [St.setBlk_eq];simp only [<-e,hb,hk,hm,hsv,hl,h1,aB]
   ·simp at hr
  ·rename_i b hb hk hm;split at hr
   ·rename_i u n;obtain ⟨h1,h2⟩:=bA hr;split at h2
    ·rename_i rr hrr;split at h2
     ·rename_i r' hr';simp at h2;refine ⟨_,rfl,h2.symm,λ s2 e=>?_⟩;unfold pT; simp only [St.setBlk_eq];simp only [<-e,hb,hk,hm,hrr,hr',h1,aB]
     ·simp at h2
    ·rename_i l hl;simp at h2;refine ⟨_,rfl,h2.symm,λ s2 e=>?_⟩;unfold pT; simp only [St.setBlk_eq];simp only [<-e,hb,hk,hm,hl,h1,aB]
   ·rename_i u;obtain ⟨h1,h2⟩:=bA hr;split at h2
    ·simp at h2
    ·rename_i l hl;simp at h2;refine ⟨_,rfl,h2.symm,λ s2 e=>?_⟩;unfold pT; simp only [St.setBlk_eq];simp only [<-e,hb,hk,hm,hl,h1,aB]
   ·simp at hr
  ·simp at hr
 ·simp at hr
theorem Ft.store {id:Nat} {b:Blk} (h:cG s.hp id=cG s2.hp id):Ft [id+1] True s { s with hp:=upd id b s.hp } s2 { s2 with hp:=upd id b s2.hp }:=by
 refine ⟨rfl,rfl,rfl,rfl,rfl,rfl,?_,?_,?_,λ h=>(h trivial).elim⟩
 ·intro c hc;simp at hc; subst hc;simp [tR,dQ]
 ·intro c hc;cases c with
  | zero=>rfl
  | succ i=>
   simp at hc;simp [tR,dQ,hc]
 ·intro c hc;cases c with
  | zero=>rfl
  | succ i=>
   simp at hc;simp [tR,dQ,hc]
theorem Ft.new {k:Nat} {b:Blk}:Ft [k+1] True s { s with hp:=(k,b) :: s.hp } s2 { s2 with hp:=(k,b) :: s2.hp }:=by
 refine ⟨rfl,rfl,rfl,rfl,rfl,rfl,?_,?_,?_,λ h=>(h trivial).elim⟩
 ·intro c hc;simp at hc; subst hc;simp [tR,cF,bL]
 ·intro c hc;cases c with
  | zero=>rfl
  | succ i=>
   simp at hc;have:Nat.beq k i=false:=kR λ e=>hc e.symm;simp [tR,cF,bL,this]
 ·intro c hc;cases c with
  | zero=>rfl
  | succ i=>
   simp at hc;have:Nat.beq k i=false:=kR λ e=>hc e.symm;simp [tR,cF,bL,this]
theorem Ft.mono {F:List Nat} {s' s2':St} (h:Ft F True s s' s2 s2') (wr:Prop) (hw:wr):Ft F wr s s' s2 s2':=⟨h.tm,h.tm2,h.sz,h.sz2,h.nx,h.nx2,h.same,h.rest,h.rest2,λ e=>(e hw).elim⟩
theorem Ir {k:Nat} {T:TypeId} {x:AV} (hr:tO k s.nx T s x nY=some (av,s')):∃ s2',tO k s2.nx T s2 x nY=some (av,s2') /\ Ft [k+1] True s s' s2 s2':=by
 unfold tO at hr ⊢;split at hr
 ·simp [nY] at hr;obtain ⟨rfl,rfl⟩:=hr;refine ⟨_,?_,Ft.new⟩;simp [nY]
 ·simp at hr
theorem Ni {k:Nat} {T:TypeId} (hr:pU P k s.nx T s nY=some (av,s')):∃ s2',pU P k s2.nx T s2 nY=some (av,s2') /\ Ft [k+1] True s s' s2 s2':=by
 unfold pU at hr ⊢;split at hr
 ·split at hr
  ·exact Ir hr
  ·simp at hr
 ·simp at hr
theorem Rt {k:Nat} {T:TypeId} {l c:AV} (hr:uR P k s.nx T l c s nY=some (av,s')):∃ s2',uR P k s2.nx T l c s2 nY=some (av,s2') /\ Ft [k+1] True s s' s2 s2':=by
 unfold uR at hr ⊢;split at hr
 ·split at hr
  ·split at hr
   ·split at hr
    ·obtain ⟨h1,h2⟩:=bA hr;obtain ⟨h3,h4⟩:=bA h2;split at h4
     ·rename_i tr htr;simp [nY] at h4;obtain ⟨rfl,rfl⟩:=h4;rw [h1,aB,h3,aB];exact ⟨_,rfl,Ft.new⟩
     ·simp at h4
    ·simp at hr
   ·simp at hr
  ·simp at hr
 ·simp at hr
theorem Ed {o:Oper} {k:Nat} (hn:s.nx=s2.nx) (hF:∀ c ∈ Jt s o,tR s c=tR s2 c) (h:GN s o=some k):GN s2 o=some k /\ Jt s o=[k+1]:=by
 unfold GN Jt at *;split at h
 ·rename_i d hd;simp only [hd] at hF ⊢;have e:=hF (s.nx - 1 - d+1) (by simp);simp only [tR,Sum.inr.injEq] at e;obtain ⟨h1,h2⟩:=bA h;rw [<-hn,h1,<-e];split at h2
  ·rename_i hl;simp only [qM] at h2;subst h2;simp
  ·simp at h2
 ·simp at h
theorem Vj {src dst:TypeId} {x:AV} (h:∀ i ∈ x.refs,cG s.hp i=cG s2.hp i) (hr:Ab P false src dst x s nY=some (av,s')):s'=s /\ Ab P false src dst x s2 nY=some (av,s2):=by
 unfold Ab at hr ⊢;split at hr
 ·split at hr
  ·rw [Rr h] at hr;split at hr
   ·simp [nY] at hr;obtain ⟨rfl,rfl⟩:=hr;exact ⟨rfl,rfl⟩
   ·simp at hr
  ·simp at hr
 ·split at hr
  ·obtain ⟨h1,hr⟩:=bA hr;rw [h1];simp [nY] at hr;obtain ⟨rfl,rfl⟩:=hr;exact ⟨rfl,rfl⟩
  ·simp at hr
 ·exact eS (f:=λ K=>Bq P src dst x K) (g:=λ K=>Bq P src dst x K) (λ K=>Ec _ _ _ K) (λ K=>rfl) hr
theorem aS3 {b:Bool} {x y av:AV} {s':St} (h:cond b (nY x s) (nY y s)=some (av,s')):s'=s /\ cond b (nY x s2) (nY y s2)=some (av,s2):=by
 cases b <;> cases h <;> exact ⟨rfl,rfl⟩
theorem Hu {T:TypeId} {len:Nat} {ps:List (Nat × AV)} (hr:jP P false T len ps s nY=some (av,s')):s'=s /\ jP P false T len ps s2 nY=some (av,s2):=by
 unfold jP at hr ⊢;split at hr
 ·split at hr
  ·split at hr
   ·obtain ⟨h1,hr⟩:=bA hr;rw [h1];split at hr
    ·split at hr
     ·obtain ⟨h2,hr⟩:=bA hr;simp only [h2,aB];split at hr
      ·simp_all
      ·simp [nY] at hr;obtain ⟨rfl,rfl⟩:=hr;exact ⟨rfl,by simp [*,nY]⟩
      ·exact aS3 hr
     ·simp at hr
    ·simp at hr
   ·simp at hr
  ·simp at hr
 ·simp at hr
theorem Vk {ops:Array Oper} {o:Oper} {own:Bool} (hk:dS own o.op ≠ .bad) (hnc:∀ f a t,o.op ≠ .call { callee:=.value f,args:=a,argTypes:=t }) (hna:∀ T,o.op ≠ .alloc T) (hnb:∀ T x,o.op ≠ .box T x) (hnm:∀ T x y,o.op ≠ .makeSlice T x y) (h:Ag (o.looksAt ops) G s G2 s2) (hF:∀ c ∈ jX s o,tR s c=tR s2 c) (hr:TJ P own G o s nY=some (av,s')) :
  ∃ s2',TJ P own G2 o s2 nY=some (av,s2') /\ Ft (jX s o) (dS own o.op=.wr) s s' s2 s2':=by
 have still:s'=s /\ TJ P own G2 o s2 nY=some (av,s2)->∃ s2',TJ P own G2 o s2 nY=some (av,s2') /\ Ft (jX s o) (dS own o.op=.wr) s s' s2 s2':=by
  rintro ⟨rfl,e⟩;exact ⟨s2,e,Ft.id hF⟩
 have ev:∀ x ∈ o.op.operands.toList,s.ev x=s2.ev x:=λ x hx=>h.ev hx;cases hp:dS own o.op with
 | bad=>exact absurd hp hk
 | pure=>exact hp ▸ still (aLH hp h hr)
 | mem=>
  rw [<-hp];apply still;unfold TJ at hr ⊢;cases hop:o.op with
  | load T x=>
   rw [hop] at hr ev;simp only [jX,hop] at hF;simp only [Op.operands] at ev;have e:=ev x (by simp);exact eS (f:=λ K=>wF P T s (s.ev x) K) (g:=λ K=>wF P T s2 (s2.ev x) K) (λ K=>MK _ _ K) (λ K=>by rw [<-e]; exact Y9 (λ i hi=>GV hF hi) K) hr
  | convert src dst x=>
   rw [hop] at hr ev hp;simp only [jX,hop] at hF;simp only [Op.operands] at ev;have e:=ev x (by simp);cases own
   ·simp only [<-e];exact Vj (λ i hi=>GV hF hi) hr
   ·simp [dS] at hp
  | buildSlice T len ps=>
   rw [hop] at hr ev hp;simp only [Op.operands] at ev;have e1:evps s ps=evps s2 ps:=Ci λ x hx=>by rw [ev x.2 (by simp at hx ⊢; exact ⟨x.1,hx⟩)]
   cases own
   ·simp only [<-e1];exact Hu hr
   ·simp [dS] at hp
  | call c=>
   obtain ⟨callee,args,ats⟩:=c;cases callee with
   | value f=>exact absurd hop (hnc _ _ _)
   | invoke r m=>rw [hop] at hp; simp [dS] at hp
   | builtin b=>rw [hop] at hp; cases b <;> simp [dS] at hp
  | move x=>rw [hop] at hp; cases own <;> simp [dS] at hp
  | assign x=>rw [hop] at hp; cases own <;> simp [dS] at hp
  | _=>rw [hop] at hp; simp [dS] at hp
 | wr=>
  unfold TJ at hr ⊢;cases hop:o.op with
  | store T x v=>
   rw [hop] at hr ev;simp only [jX,hop] at hF;simp only [Op.operands] at ev;have e:=ev x (by simp);have e2:=ev v (by simp);simp only [<-e,<-e2];simp only [] at hr;rw [xT (K:=λ s'=>nY AV.junk s')] at hr;obtain ⟨s1,h1,h2⟩:=fK.1 hr;simp [nY] at h2;obtain ⟨rfl,rfl⟩:=h2;obtain ⟨id,b,q1,q2,q3⟩:=Vi h1;have hl:cG s.hp id=cG s2.hp id:=GV hF (by rw [q1]; simp);refine ⟨{ s2 with hp:=upd id b s2.hp },?_,?_⟩
   ·rw [xT (K:=λ s'=>nY AV.junk s'),q3 s2 hl]; rfl
   ·simp only [jX,hop,q1,q2];exact (Ft.store hl).mono _ trivial
  | alloc T=>exact absurd hop (hna T)
  | box T x=>exact absurd hop (hnb T x)
  | makeSlice T x y=>exact absurd hop (hnm T x y)
  | call c=>
   obtain ⟨callee,args,ats⟩:=c;cases callee with
   | value f=>rw [hop] at hp; simp [dS] at hp
   | invoke r m=>rw [hop] at hp; simp [dS] at hp
   | builtin b=>rw [hop] at hp; cases b <;> simp [dS] at hp
  | move x=>rw [hop] at hp; cases own <;> simp [dS] at hp
  | assign x=>rw [hop] at hp; cases own <;> simp [dS] at hp
  | convert src dst x=>rw [hop] at hp; cases own <;> simp [dS] at hp
  | buildSlice T len ps=>rw [hop] at hp; cases own <;> simp [dS] at hp
  | _=>rw [hop] at hp; simp [dS] at hp
end
end
noncomputable section
open Go Go.RowKit
set_option linter.all false
structure Eff (o:Oper) (F:List Nat) (wr:Prop) (gt:Option Nat) (s:St) (G:iB) (s':St) (G':iB):Prop where
 sz:s'.sz=s.sz
 nx:s'.nx=s.nx
 get:∀ t,o.dst ≠ some t->s'.get t=s.get t
 rest:∀ c,c ∉ F->tR s' c=tR s c
 still:¬ wr->∀ c,tR s' c=tR s c
 g1:∀ t tg w,o.dst ≠ some t->o.dst ≠ some tg->gW G' t tg w=gW G t tg w
 g2:∀ t tg w,o.dst=some tg->gW G' t tg w=none
 g3:∀ d tg w p,o.dst=some d->gW G' d tg w=some p->gt=some tg
structure Same (o:Oper) (F:List Nat) (s':St) (G':iB) (s2':St) (G2':iB):Prop where
 get:∀ d,o.dst=some d->s'.get d=s2'.get d
 gf:∀ d tg w,o.dst=some d->gW G' d tg w=gW G2' d tg w
 vt:∀ c ∈ F,tR s' c=tR s2' c
structure Cong (o:Oper) (F:List Nat) (wr:Prop) (gt:Option Nat) (s:St) (G:iB) (s':St) (G':iB) (s2:St) (G2:iB) (s2':St) (G2':iB):Prop where
 e1:Eff o F wr gt s G s' G'
 e2:Eff o F wr gt s2 G2 s2' G2'
 sm:Same o F s' G' s2' G2'
section
variable {P:Program} {s s2 s':St} {β:Type} {G G2 G':iB} {av:AV} {ops:Array Oper} {o:Oper}
theorem fC (d:Nat) (G:iB) (t tg:Nat) (w:Bool):gW (wM d G) t tg w=if t=d ∨ tg=d then none else gW G t tg w:=by
 induction G with
 | nil=>simp [wM,gW]
 | cons q r ih=>
  obtain ⟨e,u,w',p⟩:=q;simp only [wM];cases hb:(Nat.beq e d || Nat.beq u d)
  ·simp only [Es] at hb;have h1:e ≠ d:=λ h=>by subst h; simp at hb
   have h2:u ≠ d:=λ h=>by subst h; simp at hb
   simp only [aE,gW];cases hc:(Nat.beq e t && Nat.beq u tg && (w' == w))
   ·simp only [aE,ih]
   ·simp only [aW] at hc;have e1:e=t:=aT hc.1.1;have e2:u=tg:=aT hc.1.2;subst e1; subst e2;simp [h1,h2]
  ·simp only [aB,ih,gW];split
   ·rfl
   ·rename_i hn;have:(Nat.beq e t && Nat.beq u tg && (w' == w))=false:=by
     cases hc:(Nat.beq e t && Nat.beq u tg && (w' == w))
     ·rfl
     ·simp only [aW] at hc;have e1:e=t:=aT hc.1.1;have e2:u=tg:=aT hc.1.2;subst e1; subst e2;simp only [M8] at hb;rcases hb with hb | hb
      ·exact absurd (.inl (aT hb)) hn
      ·exact absurd (.inr (aT hb)) hn
    rw [this]; rfl
theorem oF (s:St) (d:Nat) (v:AV) (t:Nat):(s.put d v).get t=if t=d then v else s.get t:=by
 by_cases e:t=d
 ·subst e; simp [St.get,St.put_eq,kO]
 ·simp [St.get,St.put_eq,kO,e]
theorem jQ (s:St) (d:Nat) (v:AV) (c:Nat):tR (s.put d v) c=tR s c:=by cases c <;> rfl
theorem Ru {s s':St} (h:s'.tm=s.tm) (t:Nat):s'.get t=s.get t:=by simp [St.get,h]
theorem Vl {tg:Nat} {x:AV} (h:s.get tg=x):(s.put tg x).ev=s.ev:=by
 funext y;cases y with
 | tmp t=>
  show cond (Nat.blt t s.sz) ((s.put tg x).get t) .junk=cond (Nat.blt t s.sz) (s.get t) .junk;have:(s.put tg x).get t=s.get t:=by
   rw [oF]; split
   ·rename_i e; subst e; exact h.symm
   ·rfl
  rw [this]
 | _=>rfl
theorem D6 {tg:Nat} {x:AV} (h:s.get tg=x) (o:Oper):jX (s.put tg x) o=jX s o:=by
 unfold jX; rw [Vl h]; rfl
theorem Eff.base {F:List Nat} {wr:Prop} {gt:Option Nat} {s0:St} (h:Eff o F wr gt s G s' G') (hg:∀ t,s.get t=s0.get t) (hv:∀ c,tR s c=tR s0 c) (hz:s.sz=s0.sz) (hn:s.nx=s0.nx):Eff o F wr gt s0 G s' G' :=
 ⟨h.sz.trans hz,h.nx.trans hn,λ t ht=>(h.get t ht).trans (hg t),λ c hc=>(h.rest c hc).trans (hv c),λ hw c=>(h.still hw c).trans (hv c),h.g1,h.g2,h.g3⟩
theorem Eff.put_self {F:List Nat} {wr:Prop} {gt:Option Nat} {tg:Nat} {x:AV} (h:Eff o F wr gt (s.put tg x) G s' G') (hx:s.get tg=x):Eff o F wr gt s G s' G' :=
 h.base (λ t=>by rw [oF]; split <;> simp_all) (λ c=>jQ s tg x c) rfl rfl
theorem zR {F:List Nat} {wr:Prop} {gt:Option Nat} {s1 s1':St} {u:iB} (hF:Ft F wr s s1 s2 s1') (hsz:s.sz=s2.sz) (h:lQ o G yP av s1=some (s',G')) :
  ∃ s2' G2',lQ o G2 yP av s1'=some (s2',G2') /\ Cong o F wr gt s G s' G' s2 G2 s2' G2':=by
 unfold lQ at h ⊢;split at h
 ·rename_i d hd;obtain ⟨h1,h2⟩:=bA h;simp [yP] at h2;obtain ⟨rfl,rfl⟩:=h2;have hz:s1'.sz=s1.sz:=by rw [hF.sz2,hF.sz,hsz]
  refine ⟨s1'.put d av,wM d G2,by rw [hz,h1]; rfl,⟨hF.sz,hF.nx,?_,?_,?_,?_,?_,?_⟩,⟨hF.sz2,hF.nx2,?_,?_,?_,?_,?_,?_⟩,⟨?_,?_,?_⟩⟩
  ·intro t ht;rw [oF,aV (λ e=>ht (by rw [hd,e]))]; exact Ru hF.tm t
  ·intro c hc; rw [jQ]; exact hF.rest c hc
  ·intro hw c; rw [jQ,(hF.still hw).1]
  ·intro t tg w ht hg;rw [fC,aV];rintro (e | e)
   ·exact ht (by rw [hd,e])
   ·exact hg (by rw [hd,e])
  ·intro t tg w hg;rw [hd] at hg; cases hg;rw [fC]; simp
  ·intro e tg w p he hg;rw [hd] at he; cases he;rw [fC] at hg; simp at hg
  ·intro t ht;rw [oF,aV (λ e=>ht (by rw [hd,e]))]; exact Ru hF.tm2 t
  ·intro c hc; rw [jQ]; exact hF.rest2 c hc
  ·intro hw c; rw [jQ,(hF.still hw).2]
  ·intro t tg w ht hg;rw [fC,aV];rintro (e | e)
   ·exact ht (by rw [hd,e])
   ·exact hg (by rw [hd,e])
  ·intro t tg w hg;rw [hd] at hg; cases hg;rw [fC]; simp
  ·intro e tg w p he hg;rw [hd] at he; cases he;rw [fC] at hg; simp at hg
  ·intro e he;rw [hd] at he; cases he;rw [oF,oF,aX rfl,aX rfl]
  ·intro e tg w he;rw [hd] at he; cases he;rw [fC,fC]; simp
  ·intro c hc; rw [jQ,jQ]; exact hF.same c hc
 ·rename_i hd;simp [yP] at h;obtain ⟨rfl,rfl⟩:=h;refine ⟨s1',G2,rfl,⟨hF.sz,hF.nx,λ t _=>Ru hF.tm t,hF.rest,λ hw c=>by rw [(hF.still hw).1],λ _ _ _ _ _=>rfl,?_,?_⟩,⟨hF.sz2,hF.nx2,λ t _=>Ru hF.tm2 t,hF.rest2,λ hw c=>by rw [(hF.still hw).2],λ _ _ _ _ _=>rfl,?_,?_⟩,⟨?_,?_,hF.same⟩⟩
  all_goals intros; rename_i q; rw [hd] at *; first | contradiction | simp_all
def Is (c:Cf) (o:Oper):Prop:=dS (wL c o) o.op=.wr
theorem It {c:Cf} (hE:c.E=cX) {gt:Option Nat} (hk:dS (wL c o) o.op ≠ .bad) (h:Ag (o.looksAt ops) G s G2 s2) (hF:∀ c ∈ jX s o,tR s c=tR s2 c) (hr:rL P c G o s yP=some (s',G')) :
  ∃ s2' G2',rL P c G2 o s2 yP=some (s2',G2') /\ Cong o (jX s o) (Is c o) gt s G s' G' s2 G2 s2' G2':=by
 unfold rL at hr ⊢;cases hop:o.op with
 | call cl=>
  obtain ⟨callee,args,ats⟩:=cl;cases callee with
  | value f=>
   rw [hop] at hr;have hF':=hF;simp only [jX,hop] at hF';simp only [] at hr ⊢;rw [AZ (K:=lQ o G yP)] at hr;obtain ⟨⟨av,s1⟩,h1,h2⟩:=fK.1 hr;have ev:∀ x ∈ o.op.operands.toList,s.ev x=s2.ev x:=λ x hx=>h.ev hx;rw [hop] at ev;simp only [Op.operands,Call.operands] at ev;have ef:s.ev f=s2.ev f:=ev f (by simp);have ea:args.toList.map s.ev=args.toList.map s2.ev:=Ci λ x hx=>ev x (by simp at hx ⊢; exact .inr hx);obtain ⟨rfl,q⟩:=ZA hE (λ i hi=>GV hF' hi) h1;obtain ⟨s2',G2',q1,q2⟩:=zR (gt:=gt) (wr:=Is c o) (u:=G) (G2:=G2) (Ft.id hF) h.sz h2;refine ⟨s2',G2',?_,q2⟩;rw [AZ (K:=lQ o G2 yP),<-ef,<-ea,q];exact q1
  | builtin b=>
   rw [hop] at hr;simp only [] at hr ⊢;rw [zP (K:=lQ o G yP)] at hr;obtain ⟨⟨av,s1⟩,h1,h2⟩:=fK.1 hr;obtain ⟨s1',q1,q2⟩:=Vk hk (λ f a t=>by rw [hop]; simp) (λ T=>by rw [hop]; simp) (λ T x=>by rw [hop]; simp) (λ T x y=>by rw [hop]; simp) h hF h1;obtain ⟨s2',G2',q3,q4⟩:=zR (gt:=gt) (u:=G) (G2:=G2) q2 h.sz h2;rw [hop] at q4;refine ⟨s2',G2',?_,?_⟩
   ·rw [zP (K:=lQ o G2 yP),q1]; exact q3
   ·simp only [Is,hop]; exact q4
  | invoke r m=>rw [hop] at hk; simp [dS] at hk
 | alloc T=>
  rw [hop] at hr;simp only [] at hr ⊢;obtain ⟨k,hk1,hr⟩:=fK.1 hr;have hF':=hF;simp only [jX,hop] at hF';obtain ⟨n1,n2⟩:=Ed h.nx hF' hk1;rw [sD (K:=lQ o G yP)] at hr;obtain ⟨⟨av,s1⟩,h1,h2⟩:=fK.1 hr;obtain ⟨s1',q1,q2⟩:=Ni (s2:=s2) h1;have q2':Ft (jX s o) (Is c o) s s1 s2 s1':=by
   simp only [jX,hop,n2]; exact q2.mono _ (by simp [Is,hop,dS])
  obtain ⟨s2',G2',q3,q4⟩:=zR (gt:=gt) (u:=G) (G2:=G2) q2' h.sz h2;refine ⟨s2',G2',?_,q4⟩;rw [n1,aC,sD (K:=lQ o G2 yP),q1]; exact q3
 | box T x=>
  rw [hop] at hr;simp only [] at hr ⊢;obtain ⟨k,hk1,hr⟩:=fK.1 hr;have hF':=hF;simp only [jX,hop] at hF';obtain ⟨n1,n2⟩:=Ed h.nx hF' hk1;have ev:s.ev x=s2.ev x:=h.ev (by rw [hop]; simp [Op.operands]);rw [pD (K:=lQ o G yP)] at hr;obtain ⟨⟨av,s1⟩,h1,h2⟩:=fK.1 hr;obtain ⟨s1',q1,q2⟩:=Ir (s2:=s2) h1;have q2':Ft (jX s o) (Is c o) s s1 s2 s1':=by
   simp only [jX,hop,n2]; exact q2.mono _ (by simp [Is,hop,dS])
  obtain ⟨s2',G2',q3,q4⟩:=zR (gt:=gt) (u:=G) (G2:=G2) q2' h.sz h2;refine ⟨s2',G2',?_,q4⟩;rw [n1,aC,<-ev,pD (K:=lQ o G2 yP),q1]; exact q3
 | makeSlice T x y=>
  rw [hop] at hr;simp only [] at hr ⊢;obtain ⟨k,hk1,hr⟩:=fK.1 hr;have hF':=hF;simp only [jX,hop] at hF';obtain ⟨n1,n2⟩:=Ed h.nx hF' hk1;have ev:s.ev x=s2.ev x:=h.ev (by rw [hop]; simp [Op.operands]);have ev':s.ev y=s2.ev y:=h.ev (by rw [hop]; simp [Op.operands]);rw [uU (K:=lQ o G yP)] at hr;obtain ⟨⟨av,s1⟩,h1,h2⟩:=fK.1 hr;obtain ⟨s1',q1,q2⟩:=Rt (s2:=s2) h1;have q2':Ft (jX s o) (Is c o) s s1 s2 s1':=by
   simp only [jX,hop,n2]; exact q2.mono _ (by simp [Is,hop,dS])
  obtain ⟨s2',G2',q3,q4⟩:=zR (gt:=gt) (u:=G) (G2:=G2) q2' h.sz h2;refine ⟨s2',G2',?_,q4⟩;rw [n1,aC,<-ev,<-ev',uU (K:=lQ o G2 yP),q1]; exact q3
 | _=>
  rw [hop] at hr;simp only [] at hr ⊢;rw [zP (K:=lQ o G yP)] at hr;obtain ⟨⟨av,s1⟩,h1,h2⟩:=fK.1 hr;obtain ⟨s1',q1,q2⟩:=Vk hk (λ f a t=>by rw [hop]; simp) (λ T=>by rw [hop]; simp) (λ T x=>by rw [hop]; simp) (λ T x y=>by rw [hop]; simp) h hF h1;obtain ⟨s2',G2',q3,q4⟩:=zR (gt:=gt) (u:=G) (G2:=G2) q2 h.sz h2;rw [hop] at q4;refine ⟨s2',G2',?_,?_⟩
  ·rw [zP (K:=lQ o G2 yP),q1]; exact q3
  ·simp only [Is,hop]; exact q4
end
end
end Go.Eng
