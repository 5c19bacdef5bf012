import Derived.LoopNIn
import Derived.Orders
import Derived.OrdersIn
import Derived.RangeFuncCalls
import Derived.RangeFuncNested
import Derived.TacticsIn
import Derived.Test.YteipjabipehbpaaGreatZE2
namespace Go.Eng
noncomputable section
open Go Go.RowKit
set_option linter.all false
def Fw (ro:Option Nat):Fence:={ fn:=fun _=>True,depth:=none,alive:=false,round:=ro }
theorem Calls.fw {ro:Option Nat} {n:Nat} {P:Program} {f:FuncId} {args:Array Value} {w:World} {R:Ending->World->Prop} (h:Go.Calls P f args w R):CallsIn (Fw ro) n P f args w R:=by
 cases ro with
 | none=>exact callsIn_wide.2 h
 | some l=>exact CallsIn.inRound l (callsIn_wide.2 h)
theorem wpIn_of {ro:Option Nat} {n:Nat} {P:Program} {o:Oper} {a:Act} {w:World} {next:Act->World->Prop} {Q:Exit->Act->World->Prop} (hnd:∀ c,o.op ≠ .defer c)
  (h:o.uponIn (Fw ro) n P a next Q ((execOp a.eval o).run P w)):o.wpIn (Fw ro) n P a w next Q :=
 ⟨fun _ _=>trivial,by
  show o.uponIn (Fw ro) n P a next Q ((o.semAt ro a.eval).run P w)
  rw [Oper.semAt_eq _ _ _ hnd]; exact h⟩
theorem fw_depth {ro:Option Nat} {n:Nat}:(Fw ro).depth.isSome=true->1 <= n:=fun h=>by simp [Fw] at h
structure Summ where
 {T:Type}
 run:List AV->Option T
 enc:T->AV
def P0 (X:Nat->Prop):Plc:=⟨fun _=>none,X⟩
def FAt (P:Program) (f:FuncId) (args:Array Value) (w:World) (R:Value->World->Prop):Prop :=
 (∃ v w',(callFunc f args).run P w=.ok (.value v) w' /\ R v w') ∨ ((callFunc f args).run P w=.ok (.enter f args) w /\ Calls P f args w fun e w'=>∃ v,e=.returned v /\ R v w')
def CallOk (P:Program) (f:FuncId) (A:Summ):Prop:=∀ (args:List AV) (t:A.T),A.run args=some t ->
 ∀ (w:World) (X:Nat->Prop) (vs:List Value),(∀ b,X b->b < w.heap.size)->AVRs w (P0 X) args vs ->
  FAt P f vs.toArray w fun v w'=>AVR w' (P0 X) (A.enc t) v /\ (A.enc t).refs=[] /\ Below w.heap.size w w'
def SV.bare:SV->Bool
 | .pl _ | .clo _ _ _ | .junk=>true
 | _=>false
def SV.still:SV->Bool
 | .clor _ _=>true
 | x=>x.bare
theorem SV.still_refs {x:SV} (h:x.still=true):x.refs=[]:=by
 cases x <;> first | rfl | simp [SV.still,SV.bare] at h
def CV.bare:CV->Bool
 | .s x=>x.bare
 | .mix l=>l.all SV.bare
 | _=>false
def AV.bare:AV->Bool
 | .c x=>x.bare
 | .tup l=>l.all CV.bare
section
variable {w w':World} {ρ ρ':Plc}
theorem SVR.bare {x:SV} {v:Value} (h:SVR w ρ x v) (hb:x.bare=true):SVR w' ρ' x v:=by
 cases x <;> first | exact h | simp [SV.bare] at hb
theorem CVR.bare {x:CV} {v:Value} (h:CVR w ρ x v) (hb:x.bare=true):CVR w' ρ' x v:=by
 cases x with
 | s x=>exact SVR.bare h hb
 | mix l=>
  obtain ⟨cs,e,h1,h2⟩:=h
  exact ⟨cs,e,h1,fun i x v hx hv=>(h2 i x v hx hv).bare (List.all_eq_true.1 hb x (List.mem_of_getElem? hx))⟩
 | mdat l=>simp [CV.bare] at hb
 | mptr l o=>simp [CV.bare] at hb
theorem AVR.bare {x:AV} {v:Value} (h:AVR w ρ x v) (hb:x.bare=true):AVR w' ρ' x v:=by
 cases x with
 | c x=>exact CVR.bare h hb
 | tup l=>
  obtain ⟨vs,e,h1,h2⟩:=h
  exact ⟨vs,e,h1,fun i x v hx hv=>(h2 i x v hx hv).bare (List.all_eq_true.1 hb x (List.mem_of_getElem? hx))⟩
theorem SVR.chg {x:SV} {v:Value} (h:SVR w ρ x v) (hr:x.refs=[]) (hf:∀ b,Foreign ρ b->Foreign ρ' b):SVR w ρ' x v:=by
 cases x with
 | junk=>trivial
 | pl p=>exact h
 | clo f a b=>exact h
 | clop f cs=>
  obtain ⟨vs,e,h⟩:=h
  have:cs=[]:=by
   have hr:cs.map Prod.fst=[]:=hr
   exact List.map_eq_nil_iff.1 hr
  subst this
  exact ⟨vs,e,h.same (by simp)⟩
 | clor f cs=>obtain ⟨vs,e,h⟩:=h; exact ⟨vs,e,h.map fun b o cs h1 h2 h3=>⟨hf b h1,h2,h3⟩⟩
 | ptr id o e=>simp [SV.refs] at hr
 | own id l e=>simp [SV.refs] at hr
 | sub id lo l e=>simp [SV.refs] at hr
 | dat r len esz=>
  obtain ⟨h1,h2⟩:=h
  refine ⟨h1,?_⟩
  rcases h2 with h2 | ⟨b,off,cap,e,hc,hf',hra,hb⟩
  ·exact .inl h2
  ·exact .inr ⟨b,off,cap,e,hc,hf b hf',hra,hb⟩
 | rptr r off ext=>
  obtain ⟨h1,b,o,e,hf',hra,hb⟩:=h
  exact ⟨h1,b,o,e,hf b hf',hra,hb⟩
theorem refs_nil_of {l:List SV} (h:l.flatMap SV.refs=[]) {i:Nat} {x:SV} (hx:l[i]?=some x):x.refs=[]:=by
 rw [List.flatMap_eq_nil_iff] at h
 exact h x (List.mem_of_getElem? hx)
theorem CVR.chg {x:CV} {v:Value} (h:CVR w ρ x v) (hr:x.refs=[]) (hf:∀ b,Foreign ρ b->Foreign ρ' b):CVR w ρ' x v:=by
 cases x with
 | s x=>exact SVR.chg h hr hf
 | mix l=>
  obtain ⟨cs,e,h1,h2⟩:=h
  exact ⟨cs,e,h1,fun i x v hx hv=>(h2 i x v hx hv).chg (refs_nil_of hr hx) hf⟩
 | mdat l=>
  rcases h with h | ⟨b,off,cap,e,hc,hf',hra,hb⟩
  ·exact .inl h
  ·refine .inr ⟨b,off,cap,e,hc,hf b hf',fun i x hx=>?_,hb⟩
   obtain ⟨v,h1,h2⟩:=hra i x hx
   exact ⟨v,h1,h2.chg (refs_nil_of hr hx) hf⟩
 | mptr l o=>
  obtain ⟨h1,b,off,e,hf',hra,hb⟩:=h
  refine ⟨h1,b,off,e,hf b hf',fun i x hx=>?_,hb⟩
  obtain ⟨v,h1,h2⟩:=hra i x hx
  exact ⟨v,h1,h2.chg (refs_nil_of hr hx) hf⟩
theorem AVR.chg {x:AV} {v:Value} (h:AVR w ρ x v) (hr:x.refs=[]) (hf:∀ b,Foreign ρ b->Foreign ρ' b):AVR w ρ' x v:=by
 cases x with
 | c x=>exact CVR.chg h hr hf
 | tup l=>
  obtain ⟨vs,e,h1,h2⟩:=h
  refine ⟨vs,e,h1,fun i x v hx hv=>(h2 i x v hx hv).chg ?_ hf⟩
  have:l.flatMap CV.refs=[]:=hr
  rw [List.flatMap_eq_nil_iff] at this
  exact this x (List.mem_of_getElem? hx)
end
section
variable {P:Program} {B:Bs} {w0 w w':World} {ρ:Plc} {s:St} {a:Act} {β:Type} {r:β}
def viewArg (s:St) (x:AV):Option (AV × Bool) :=
 match x with
 | .c (.s (.own id len esz))=>match look s.hp id with
  | some b=>match b.row with
   | .t r=>some (.s (.dat r len esz),true)
   | .mix l=>cond (l.all SV.still && Nat.beq esz 1 && Nat.beq l.length len) (some (.c (.mdat l),true)) none
  | none=>none
 | .c (.s (.sub id lo len esz))=>match look s.hp id with
  | some b=>match b.row with
   | .t r=>some (.s (.dat (r.sub (lo*esz) (len*esz)) len esz),true)
   | .mix l=>none
  | none=>none
 | .c (.s (.ptr id off ext))=>match look s.hp id with
  | some b=>match b.row with
   | .t r=>some (.s (.rptr r off ext),true)
   | .mix l=>none
  | none=>none
 | x=>match x.refs with
  | []=>some (x,false)
  | _ :: _=>none
def viewAll (s:St):List AV->Option (List AV × Bool)
 | []=>some ([],false)
 | x :: r=>match viewArg s x,viewAll s r with
  | some (y,b),some (ys,c)=>some (y :: ys,b || c)
  | _,_=>none
theorem P0_foreign (b:Nat):Foreign (P0 fun _=>False) b:=⟨fun id x h=>by simp [P0] at h,fun h=>h⟩
theorem viewArg_ok {x y:AV} {bo:Bool} {v:Value} (hs:Rel B w0 ρ s a w) (hx:AVR w ρ x v) (h:viewArg s x=some (y,bo)) :
  AVR w (P0 fun _=>False) y v /\ (bo=false->y=x /\ x.refs=[]):=by
 unfold viewArg at h
 split at h
 ·rename_i id len esz
  split at h
  ·rename_i b hb
   split at h
   ·rename_i tr htr
    simp at h; obtain ⟨rfl,rfl⟩:=h
    refine ⟨?_,by simp⟩
    rcases hx with ⟨q,hq,rfl,hn,hc,hcm,hcz⟩ | ⟨hnone,rfl,rfl⟩
    ·obtain ⟨b',hb',hR⟩:=hs.blk id q hq
     rw [hb] at hb'; cases hb'
     obtain ⟨h1,h2⟩:=hR.cell htr
     refine ⟨by omega,.inr ⟨q.r,0,q.cap,rfl,hc,P0_foreign _,fun i v hv=>by rw [Nat.zero_add]; exact h2 i v hv,(hs.base id q hq).2⟩⟩
    ·have:=hs.gh id b hb hnone
     rw [htr] at this
     have this:tr.length=0:=this
     exact ⟨by simpa using this,.inl ⟨rfl,rfl⟩⟩
   ·rename_i l hl
    obtain ⟨h1,h2⟩:=ctrue h
    simp only [Bool.and_eq_true] at h1
    obtain ⟨⟨c1,c2⟩,c3⟩:=h1
    have c2:esz=1:=Nat.eq_of_beq_eq_true c2
    have c3:l.length=len:=Nat.eq_of_beq_eq_true c3
    simp at h2; obtain ⟨rfl,rfl⟩:=h2
    refine ⟨?_,by simp⟩
    rcases hx with ⟨q,hq,rfl,hn,hc,hcm,hcz⟩ | ⟨hnone,rfl,rfl⟩
    ·obtain ⟨b',hb',hR⟩:=hs.blk id q hq
     rw [hb] at hb'; cases hb'
     obtain ⟨h1,h2⟩:=hR.mcell hl
     refine .inr ⟨q.r,0,q.cap,by rw [c3],by omega,P0_foreign _,fun i x hx=>?_,(hs.base id q hq).2⟩
     obtain ⟨v,g1,g2⟩:=h2 i x hx
     exact ⟨v,by rw [Nat.zero_add]; exact g1,g2.chg (SV.still_refs (List.all_eq_true.1 c1 x (List.mem_of_getElem? hx))) fun b _=>P0_foreign b⟩
    ·exact .inl ⟨c3,rfl⟩
  ·simp at h
 ·rename_i id lo len esz
  split at h
  ·rename_i b hb
   split at h
   ·rename_i tr htr
    simp at h; obtain ⟨rfl,rfl⟩:=h
    refine ⟨?_,by simp⟩
    rcases hx with ⟨q,hq,hn,o,c,rfl,ho,hlc⟩ | ⟨hnone,rfl,rfl⟩
    ·obtain ⟨b',hb',hR⟩:=hs.blk id q hq
     rw [hb] at hb'; cases hb'
     obtain ⟨h1,h2⟩:=hR.cell htr
     have hlen:(tr.sub (lo*esz) (len*esz)).length=len*esz:=by
      rw [<-TRow.length_cells,TRow.sub_cells,List.length_take,List.length_drop,tr.length_cells]
      rw [Nat.add_mul] at hn; omega
     refine ⟨hlen,.inr ⟨q.r,o,c,rfl,hlc,P0_foreign _,fun i v hv=>?_,(hs.base id q hq).2⟩⟩
     have hi:=(List.getElem?_eq_some_iff.1 hv).1
     rw [TRow.length_cells,hlen] at hi
     have hlo:o=lo*esz:=by
      rcases ho with ho | ho
      ·rw [ho] at hi; omega
      ·exact ho
     rw [TRow.sub_cells,List.getElem?_take_of_lt hi,List.getElem?_drop] at hv
     rw [hlo]; exact h2 _ v hv
    ·refine ⟨?_,.inl ⟨rfl,rfl⟩⟩
     rw [<-TRow.length_cells,TRow.sub_cells]; simp
   ·simp at h
  ·simp at h
 ·rename_i id off ext
  split at h
  ·rename_i b hb
   split at h
   ·rename_i tr htr
    simp at h; obtain ⟨rfl,rfl⟩:=h
    refine ⟨?_,by simp⟩
    obtain ⟨q,hq,ho,rfl⟩:=hx
    obtain ⟨b',hb',hR⟩:=hs.blk id q hq
    rw [hb] at hb'; cases hb'
    obtain ⟨h1,h2⟩:=hR.cell htr
    exact ⟨by omega,q.r,0,by rw [Nat.zero_add],P0_foreign _,fun i v hv=>by rw [Nat.zero_add]; exact h2 i v hv,(hs.base id q hq).2⟩
   ·simp at h
  ·simp at h
 ·split at h
  ·rename_i hr
   simp at h; obtain ⟨rfl,rfl⟩:=h
   exact ⟨hx.chg hr fun b _=>P0_foreign b,fun _=>⟨rfl,hr⟩⟩
  ·simp at h
theorem viewAll_ok (hs:Rel B w0 ρ s a w):∀ {xs ys:List AV} {bo:Bool} {vs:List Value},AVRs w ρ xs vs->viewAll s xs=some (ys,bo) ->
  AVRs w (P0 fun _=>False) ys vs /\ (bo=false->ys=xs /\ ∀ x ∈ xs,x.refs=[]):=by
 intro xs
 induction xs with
 | nil=>intro ys bo vs hx h; simp [viewAll] at h; obtain ⟨rfl,rfl⟩:=h; cases vs <;> simp_all [AVRs]
 | cons x r ih=>
  intro ys bo vs hx h
  match vs,hx with
  | v :: vs,⟨h1,h2⟩=>
   simp only [viewAll] at h
   split at h
   ·rename_i y b ys' c hy hys
    simp at h; obtain ⟨rfl,rfl⟩:=h
    obtain ⟨q1,q2⟩:=viewArg_ok hs h1 hy
    obtain ⟨q3,q4⟩:=ih h2 hys
    refine ⟨⟨q1,q3⟩,fun hb=>?_⟩
    simp only [Bool.or_eq_false_iff] at hb
    obtain ⟨e1,e2⟩:=q2 hb.1
    obtain ⟨e3,e4⟩:=q4 hb.2
    exact ⟨by rw [e1,e3],fun z hz=>by
     rcases List.mem_cons.1 hz with rfl | hz
     ·exact e2
     ·exact e4 z hz⟩
   ·simp at h
theorem AVRs.chg {ρ':Plc}:∀ {xs:List AV} {vs:List Value},AVRs w ρ xs vs->(∀ x ∈ xs,x.refs=[])->(∀ b,Foreign ρ b->Foreign ρ' b)->AVRs w ρ' xs vs:=by
 intro xs
 induction xs with
 | nil=>intro vs h _ _; cases vs <;> simp_all [AVRs]
 | cons x r ih=>
  intro vs h hr hf
  match vs,h with
  | v :: vs,⟨h1,h2⟩=>exact ⟨h1.chg (hr x (by simp)) hf,ih h2 (fun y hy=>hr y (by simp [hy])) hf⟩
def fixArgs (P:Program):List AV->List TypeId->List AV
 | x :: r,t :: ts=>fixNil P t x :: fixArgs P r ts
 | l,_=>l
theorem fixArgs_ok:∀ {xs:List AV} {ts:List TypeId} {vs:List Value},AVRs w ρ xs vs->AVRs w ρ (fixArgs P xs ts) vs:=by
 intro xs
 induction xs with
 | nil=>intro ts vs h; cases ts <;> exact h
 | cons x r ih=>
  intro ts vs h
  match ts with
  | []=>exact h
  | t :: ts=>
   match vs,h with
   | v :: vs,⟨h1,h2⟩=>exact ⟨fixNil_ok h1,ih h2⟩
def ofPls (l:List Pl):List AV:=l.map fun p=>.s (.pl p)
theorem ofPls_ok (l:List Pl) (h:∀ p ∈ l,∀ r n,p=.agg r n->r.length=n):AVRs w ρ (ofPls l) (l.map Pl.val):=by
 induction l with
 | nil=>trivial
 | cons p r ih=>exact ⟨⟨rfl,h p (by simp)⟩,ih fun q hq=>h q (by simp [hq])⟩
def Pl.noAgg:Pl->Bool
 | .agg _ _=>false
 | _=>true
theorem noAgg_all {l:List Pl} (h:l.all Pl.noAgg=true):∀ p ∈ l,∀ r n,p=.agg r n->r.length=n:=by
 intro p hp r n e
 have:=List.all_eq_true.1 h p hp
 subst e; simp [Pl.noAgg] at this
theorem AVRs.append {xs ys:List AV} {vs us:List Value} (h1:AVRs w ρ xs vs) (h2:AVRs w ρ ys us):AVRs w ρ (xs++ys) (vs++us):=by
 induction xs generalizing vs with
 | nil=>cases vs <;> simp_all [AVRs]
 | cons x r ih=>match vs,h1 with
  | v :: vs,⟨q1,q2⟩=>exact ⟨q1,ih q2⟩
theorem fixArgs_refs:∀ {l:List AV} {ts:List TypeId},∀ i ∈ (fixArgs P l ts).flatMap AV.refs,i ∈ l.flatMap AV.refs:=by
 intro l
 induction l with
 | nil=>intro ts i hi; cases ts <;> exact hi
 | cons x r ih=>
  intro ts i hi
  cases ts with
  | nil=>exact hi
  | cons t ts=>
   simp only [fixArgs,List.flatMap_cons,List.mem_append] at hi ⊢
   exact hi.imp (fun h=>by rw [fixNil_refs] at h; exact h) (fun h=>ih i h)
theorem ofPls_refs (l:List Pl):(ofPls l).flatMap AV.refs=[]:=by
 rw [List.flatMap_eq_nil_iff]
 intro x hx
 obtain ⟨p,_,rfl⟩:=List.mem_map.1 hx
 rfl
abbrev Eff1:=List AV->St->Option (Bool × AV × St)
abbrev Efs:=FuncId->Option Eff1
def noE:Efs:=fun _=>none
def EffOk (P:Program) (f:FuncId) (F:Eff1):Prop:=∀ (B:Bs) (w0 w:World) (ρ:Plc) (s:St) (a:Act) (args:List AV) (vs:List Value) (av:AV) (s':St),
 Rel B w0 ρ s a w->AVRs w ρ args vs->(∀ x ∈ args,∀ id ∈ x.refs,Liv s id)->F args s=some (true,av,s') ->
  FAt P f vs.toArray w fun v w'=>∃ ρ',AVR w' ρ' av v /\ (∀ id ∈ av.refs,Liv s' id) /\ Rel B w0 ρ' s' a w'
def capAV (c:Nat × Nat × Nat):AV:=.s (.ptr c.1 c.2.1 c.2.2)
theorem caps_ok:∀ {cs:List (Nat × Nat × Nat)} {vs:List Value},PtrRs ρ cs vs->AVRs w ρ (cs.map capAV) vs:=by
 intro cs
 induction cs with
 | nil=>intro vs h; cases vs with
  | nil=>trivial
  | cons v vs=>exact h.elim
 | cons c cs ih=>
  intro vs h
  match vs,h with
  | v :: vs,⟨h1,h2⟩=>exact ⟨h1,ih h2⟩
def rcapAV (c:TRow × Nat × Nat):AV:=.s (.rptr c.1 c.2.1 c.2.2)
theorem rcaps_ok:∀ {cs:List (TRow × Nat × Nat)} {vs:List Value},RptrRs w ρ cs vs->AVRs w ρ (cs.map rcapAV) vs:=by
 intro cs
 induction cs with
 | nil=>intro vs h; cases vs with
  | nil=>trivial
  | cons v vs=>exact h.elim
 | cons c cs ih=>
  intro vs h
  match vs,h with
  | v :: vs,⟨h1,h2⟩=>exact ⟨h1,ih h2⟩
def aCallR (Γ:FuncId->Option Summ) (g:FuncId) (cs:List (TRow × Nat × Nat)) (args:List AV) (s:St) (K:AV->St->Option β):Option β :=
 match Γ g,viewAll s (args++cs.map rcapAV) with
 | some A,some (ys,false)=>(A.run ys).bind fun t=>K (A.enc t) s
 | some A,some (ys,true)=>(A.run ys).bind fun t=>cond (A.enc t).bare (K (A.enc t) s) none
 | _,_=>none
def aCallΓ (P:Program) (Γ:FuncId->Option Summ) (g:FuncId) (first cap:List Pl) (args:List AV) (ts:List TypeId) (s:St) (K:AV->St->Option β):Option β :=
 match Γ g,viewAll s (ofPls first++(fixArgs P args ts++ofPls cap)) with
 | some A,some (ys,false)=>cond (first.all Pl.noAgg && cap.all Pl.noAgg) ((A.run ys).bind fun t=>K (A.enc t) s) none
 | some A,some (ys,true)=>cond (first.all Pl.noAgg && cap.all Pl.noAgg) ((A.run ys).bind fun t=>cond (A.enc t).bare (K (A.enc t) s) none) none
 | _,_=>none
def aCall (P:Program) (Γ:FuncId->Option Summ) (E:Efs) (f:AV) (args:List AV) (ts:List TypeId) (s:St) (K:AV->St->Option β):Option β :=
 match f with
 | .c (.s (.clo g first cap)) => match E g with
  | some F => match F (ofPls first ++ (args ++ ofPls cap)) s with
    | some (b, av, s') => cond (first.all Pl.noAgg && cap.all Pl.noAgg) (cond b (K av s') none) none
    | none => aCallΓ P Γ g first cap args ts s K
  | none => aCallΓ P Γ g first cap args ts s K
 | .c (.s (.clop g cs)) => match E g with
  | some F => match F (args ++ cs.map capAV) s with
    | some (b, av, s') => cond b (K av s') none
    | none => none
  | none => none
 | .c (.s (.clor g cs))=>aCallR Γ g cs args s K
 | _=>none
theorem aCallR_sound {Γ:FuncId->Option Summ} (hΓ:∀ g A,Γ g=some A->CallOk P g A) {f:Operand} {args:List Operand} {K:AV->St->Option β} {o:Oper} {ats:Array TypeId} {ro:Option Nat} {n:Nat} {g:FuncId} {cs:List (TRow × Nat × Nat)}
  (ho:o.op=.call { callee:=.value f,args:=args.toArray,argTypes:=ats }) (hs:Rel B w0 ρ s a w) (hf:s.ev f=.c (.s (.clor g cs))) (h:aCallR Γ g cs (args.map s.ev) s K=some r) {next:Act->World->Prop} {Q:Exit->Act->World->Prop}
  (hn:∀ av v w' s' ρ',K av s'=some r->(∀ id ∈ av.refs,Liv s' id)->AVR w' ρ' av v->Rel B w0 ρ' s' a w'->next (a.put o.dst v) w'):o.wpIn (Fw ro) n P a w next Q:=by
 obtain ⟨vs,hfv,hp⟩:∃ vs:List Value,a.eval f=.func (.func g) #[] vs.toArray /\ RptrRs w ρ cs vs:=by
  have:=hs.ev f
  rw [hf] at this
  exact this
 have hargs:=hs.evs args
 have hop:(execOp a.eval o).run P w=(callFunc g (args.map a.eval++vs).toArray).run P w:=by
  have e:args.toArray.map a.eval=(args.map a.eval).toArray:=by simp
  simp only [execOp,ho,resolve,hfv,Deferred.ofValue,e,Sem.run_bind,Sem.run_pure,Result.andThen_ok,invoke]
  simp
 have fin:∀ {R:Value->World->Prop},FAt P g (args.map a.eval++vs).toArray w R->(∀ v w',R v w'->next (a.put o.dst v) w')->o.wpIn (Fw ro) n P a w next Q:=by
  intro R hF hR
  refine wpIn_of (by rw [ho]; simp) ?_
  rw [hop]
  rcases hF with ⟨v,w',hr,hv⟩ | ⟨hr,hc⟩
  ·rw [hr,Oper.uponIn_value]; exact hR v w' hv
  ·rw [hr,Oper.uponIn_enter]
   refine ⟨fw_depth,(Calls.fw hc).mono fun e w' he=>?_⟩
   obtain ⟨v,rfl,hv⟩:=he
   exact hR v w' hv
 have back:∀ w',Below w.heap.size w w'->Rel B w0 ρ s a w':=fun w' hb=>hs.ext hb.size (fun k hk=>hb.block k hk) (hs.below.trans (hb.mono hs.B_le))
 have hall:AVRs w ρ (args.map s.ev++cs.map rcapAV) (args.map a.eval++vs):=hargs.append (rcaps_ok hp)
 unfold aCallR at h
 split at h
 ·rename_i A ys hA hys
  obtain ⟨q1,q2⟩:=viewAll_ok hs hall hys
  obtain ⟨rfl,hrefs⟩:=q2 rfl
  obtain ⟨t,k0,k1⟩:=Option.bind_eq_some_iff.1 h
  have k3:=hΓ g A hA _ _ k0
  have hX:∀ b,((∃ id x,ρ id=some x /\ x.r=b) ∨ ρ.out b)->b < w.heap.size:=by
   rintro b (⟨id,x,hx,rfl⟩ | hb)
   ·exact (hs.base id x hx).2
   ·exact hs.ob b hb
  have hfor:∀ b,Foreign ρ b ↔ Foreign (P0 fun b=>(∃ id x,ρ id=some x /\ x.r=b) ∨ ρ.out b) b:=by
   intro b
   constructor
   ·rintro ⟨g1,g2⟩
    refine ⟨fun id x hx=>by simp [P0] at hx,?_⟩
    rintro (⟨id,x,hx,hb⟩ | hb)
    ·exact g1 id x hx hb
    ·exact g2 hb
   ·rintro ⟨g1,g2⟩
    exact ⟨fun id x hx hb=>g2 (.inl ⟨id,x,hx,hb⟩),fun hb=>g2 (.inr hb)⟩
  refine fin (k3 w (fun b=>(∃ id x,ρ id=some x /\ x.r=b) ∨ ρ.out b) _ hX (hall.chg hrefs fun b=>(hfor b).1)) fun v w' hv=>?_
  exact hn (A.enc t) v w' s ρ k1 (by rw [hv.2.1]; simp) (hv.1.chg hv.2.1 fun b=>(hfor b).2) (back w' hv.2.2)
 ·rename_i A ys hA hys
  obtain ⟨q1,q2⟩:=viewAll_ok hs hall hys
  obtain ⟨t,k0,k1⟩:=Option.bind_eq_some_iff.1 h
  have k3:=hΓ g A hA _ _ k0
  obtain ⟨k4,k5⟩:=ctrue k1
  refine fin (k3 w (fun _=>False) _ (fun _ hb=>hb.elim) q1) fun v w' hv=>?_
  exact hn (A.enc t) v w' s ρ k5 (by rw [hv.2.1]; simp) (hv.1.bare k4) (back w' hv.2.2)
 ·simp at h
theorem aCall_sound {Γ:FuncId->Option Summ} {E:Efs} (hΓ:∀ g A,Γ g=some A->CallOk P g A) (hE:∀ g F,E g=some F->EffOk P g F) {f:Operand} {args:List Operand} {ts:List TypeId} {K:AV->St->Option β} {o:Oper} {ats:Array TypeId} {ro:Option Nat} {n:Nat}
  (ho:o.op=.call { callee:=.value f,args:=args.toArray,argTypes:=ats }) (hs:Rel B w0 ρ s a w) (h:aCall P Γ E (s.ev f) (args.map s.ev) ts s K=some r) {next:Act->World->Prop} {Q:Exit->Act->World->Prop}
  (hn:∀ av v w' s' ρ',K av s'=some r->(∀ id ∈ av.refs,Liv s' id)->AVR w' ρ' av v->Rel B w0 ρ' s' a w'->next (a.put o.dst v) w'):o.wpIn (Fw ro) n P a w next Q:=by
 unfold aCall at h
 split at h
 case h_4=>simp at h
 case h_3 g cs hf=>exact aCallR_sound hΓ ho hs hf h hn
 case h_2 g cs hf=>
  obtain ⟨vs,hfv,hp⟩:∃ vs:List Value,a.eval f=.func (.func g) #[] vs.toArray /\ PtrRs ρ cs vs:=by
   have:=hs.ev f
   rw [hf] at this
   exact this
  have hargs:=hs.evs args
  have hop:(execOp a.eval o).run P w=(callFunc g (args.map a.eval++vs).toArray).run P w:=by
   have e:args.toArray.map a.eval=(args.map a.eval).toArray:=by simp
   simp only [execOp,ho,resolve,hfv,Deferred.ofValue,e,Sem.run_bind,Sem.run_pure,Result.andThen_ok,invoke]
   simp
  split at h
  ·rename_i F hF
   split at h
   ·rename_i b av s' hFs
    obtain ⟨rfl,h2⟩:=ctrue h
    have hrefs:∀ x ∈ args.map s.ev++cs.map capAV,∀ id ∈ x.refs,Liv s id:=by
     intro x hx id hid
     rcases List.mem_append.1 hx with hx | hx
     ·obtain ⟨y,_,rfl⟩:=List.mem_map.1 hx
      exact hs.evr y id hid
     ·obtain ⟨c,hc,rfl⟩:=List.mem_map.1 hx
      have:=hs.evr f
      rw [hf] at this
      refine this id ?_
      simp [capAV,AV.refs,CV.refs,SV.refs] at hid ⊢
      subst hid
      exact ⟨_,_,hc⟩
    have k:=hE g F hF B w0 w ρ s a _ _ av s' hs (hargs.append (caps_ok hp)) hrefs hFs
    refine wpIn_of (by rw [ho]; simp) ?_
    rw [hop]
    rcases k with ⟨v,w',hr,ρ',g1,g2,g3⟩ | ⟨hr,hc⟩
    ·rw [hr,Oper.uponIn_value]
     exact hn av v w' s' ρ' h2 g2 g1 g3
    ·rw [hr,Oper.uponIn_enter]
     refine ⟨fw_depth,(Calls.fw hc).mono fun e w' he=>?_⟩
     obtain ⟨v,rfl,ρ',g1,g2,g3⟩:=he
     exact hn av v w' s' ρ' h2 g2 g1 g3
   ·simp at h
  ·simp at h
 case h_1 g first cap hf=>
 have hfv:a.eval f=.func (.func g) (first.map Pl.val).toArray (cap.map Pl.val).toArray:=by
  have:=hs.ev f
  rw [hf] at this
  exact this
 have hargs:=hs.evs args
 have hop:(execOp a.eval o).run P w=(callFunc g ((first.map Pl.val).toArray++(args.map a.eval).toArray++(cap.map Pl.val).toArray)).run P w:=by
  have e:args.toArray.map a.eval=(args.map a.eval).toArray:=by simp
  simp only [execOp,ho,resolve,hfv,Deferred.ofValue,e,Sem.run_bind,Sem.run_pure,Result.andThen_ok,invoke]
 have harr:(first.map Pl.val).toArray++(args.map a.eval).toArray++(cap.map Pl.val).toArray=(first.map Pl.val++(args.map a.eval++cap.map Pl.val)).toArray:=by simp
 rw [harr] at hop
 have fin:∀ {R:Value->World->Prop},FAt P g (first.map Pl.val++(args.map a.eval++cap.map Pl.val)).toArray w R->(∀ v w',R v w'->next (a.put o.dst v) w')->o.wpIn (Fw ro) n P a w next Q:=by
  intro R hF hR
  refine wpIn_of (by rw [ho]; simp) ?_
  rw [hop]
  rcases hF with ⟨v,w',hr,hv⟩ | ⟨hr,hc⟩
  ·rw [hr,Oper.uponIn_value]; exact hR v w' hv
  ·rw [hr,Oper.uponIn_enter]
   refine ⟨fw_depth,(Calls.fw hc).mono fun e w' he=>?_⟩
   obtain ⟨v,rfl,hv⟩:=he
   exact hR v w' hv
 have back:∀ w',Below w.heap.size w w'->Rel B w0 ρ s a w':=fun w' hb=>hs.ext hb.size (fun k hk=>hb.block k hk) (hs.below.trans (hb.mono hs.B_le))
 have back2:aCallΓ P Γ g first cap (args.map s.ev) ts s K=some r->o.wpIn (Fw ro) n P a w next Q:=by
  intro h
  unfold aCallΓ at h
  split at h
  ·rename_i A ys hA hys
   obtain ⟨h1,h2⟩:=ctrue h
   simp only [Bool.and_eq_true] at h1
   have hall:AVRs w ρ (ofPls first++(fixArgs P (args.map s.ev) ts++ofPls cap)) (first.map Pl.val++(args.map a.eval++cap.map Pl.val)) :=
    (ofPls_ok first (noAgg_all h1.1)).append ((fixArgs_ok hargs).append (ofPls_ok cap (noAgg_all h1.2)))
   obtain ⟨q1,q2⟩:=viewAll_ok hs hall hys
   obtain ⟨rfl,hrefs⟩:=q2 rfl
   obtain ⟨t,k0,k1⟩:=Option.bind_eq_some_iff.1 h2
   have k3:=hΓ g A hA _ _ k0
   have hX:∀ b,((∃ id x,ρ id=some x /\ x.r=b) ∨ ρ.out b)->b < w.heap.size:=by
    rintro b (⟨id,x,hx,rfl⟩ | hb)
    ·exact (hs.base id x hx).2
    ·exact hs.ob b hb
   have hfor:∀ b,Foreign ρ b ↔ Foreign (P0 fun b=>(∃ id x,ρ id=some x /\ x.r=b) ∨ ρ.out b) b:=by
    intro b
    constructor
    ·rintro ⟨g1,g2⟩
     refine ⟨fun id x hx=>by simp [P0] at hx,?_⟩
     rintro (⟨id,x,hx,hb⟩ | hb)
     ·exact g1 id x hx hb
     ·exact g2 hb
    ·rintro ⟨g1,g2⟩
     exact ⟨fun id x hx hb=>g2 (.inl ⟨id,x,hx,hb⟩),fun hb=>g2 (.inr hb)⟩
   refine fin (k3 w (fun b=>(∃ id x,ρ id=some x /\ x.r=b) ∨ ρ.out b) _ hX (hall.chg hrefs fun b=>(hfor b).1)) fun v w' hv=>?_
   exact hn (A.enc t) v w' s ρ k1 (by rw [hv.2.1]; simp) (hv.1.chg hv.2.1 fun b=>(hfor b).2) (back w' hv.2.2)
  ·rename_i A ys hA hys
   obtain ⟨h1,h2⟩:=ctrue h
   simp only [Bool.and_eq_true] at h1
   have hall:AVRs w ρ (ofPls first++(fixArgs P (args.map s.ev) ts++ofPls cap)) (first.map Pl.val++(args.map a.eval++cap.map Pl.val)) :=
    (ofPls_ok first (noAgg_all h1.1)).append ((fixArgs_ok hargs).append (ofPls_ok cap (noAgg_all h1.2)))
   obtain ⟨q1,q2⟩:=viewAll_ok hs hall hys
   obtain ⟨t,k0,k1⟩:=Option.bind_eq_some_iff.1 h2
   have k3:=hΓ g A hA _ _ k0
   obtain ⟨k4,k5⟩:=ctrue k1
   refine fin (k3 w (fun _=>False) _ (fun _ hb=>hb.elim) q1) fun v w' hv=>?_
   exact hn (A.enc t) v w' s ρ k5 (by rw [hv.2.1]; simp) (hv.1.bare k4) (back w' hv.2.2)
  ·simp at h
 split at h
 case h_2=>exact back2 h
 ·rename_i F hF
  split at h
  case h_2=>exact back2 h
  rename_i bb av s' k0
  obtain ⟨h1,h2⟩:=ctrue h
  obtain ⟨h3,k1⟩:=ctrue h2
  subst h3
  simp only [Bool.and_eq_true] at h1
  have hall:AVRs w ρ (ofPls first++(args.map s.ev++ofPls cap)) (first.map Pl.val++(args.map a.eval++cap.map Pl.val)) :=
   (ofPls_ok first (noAgg_all h1.1)).append (hargs.append (ofPls_ok cap (noAgg_all h1.2)))
  refine fin (hE g F hF B w0 w ρ s a _ _ av s' hs hall ?_ k0) fun v w' ⟨ρ',q1,q2,q3⟩=>hn av v w' s' ρ' k1 q2 q1 q3
  intro x hx id hid
  have hmem:id ∈ (ofPls first++(args.map s.ev++ofPls cap)).flatMap AV.refs:=List.mem_flatMap.2 ⟨x,hx,hid⟩
  simp only [List.flatMap_append,ofPls_refs,List.nil_append,List.append_nil] at hmem
  obtain ⟨y,hy,hid2⟩:=List.mem_flatMap.1 hmem
  obtain ⟨o',_,rfl⟩:=List.mem_map.1 hy
  exact hs.evr o' id hid2
end
end
noncomputable section
open Go Go.RowKit
set_option linter.all false
structure Cf where
 Γ:FuncId->Option Summ
 own:List Nat
 E:Efs
structure CfOk (P:Program) (c:Cf):Prop where
 g:∀ g A,c.Γ g=some A->CallOk P g A
 e:∀ g F,c.E g=some F->EffOk P g F
def Cf.quiet (c:Cf):Cf:={ c with E:=noE }
theorem CfOk.quiet {P:Program} {c:Cf} (h:CfOk P c):CfOk P c.quiet:=⟨h.g,fun g F hF=>by cases hF⟩
section
variable {P:Program} {B:Bs} {w0 w w':World} {ρ:Plc} {s:St} {a:Act} {β:Type} {r:β} {ro:Option Nat} {n:Nat}
def ownDst (c:Cf) (o:Oper):Bool :=
 match o.dst with
 | some d=>memN d c.own
 | none=>false
def fin (o:Oper) (G:Gds) (K:St->Gds->Option β) (av:AV) (s':St):Option β :=
 match o.dst with
 | some d=>cond (Nat.blt d s'.sz) (K (s'.put d av) (gdrop d G)) none
 | none=>K s' G
def aStep (P:Program) (c:Cf) (G:Gds) (o:Oper) (s:St) (K:St->Gds->Option β):Option β :=
 match o.op with
 | .call { callee:=.value f,args,argTypes } =>aCall P c.Γ c.E (s.ev f) (args.toList.map s.ev) argTypes.toList s (fin o G K)
 | _=>aop P (ownDst c o) G o s (fin o G K)
def newId (s:St) (o:Oper):Option Nat :=
 match o.dst with
 | some d=>cond (Nat.blt d s.nx) (match look s.hp (s.nx - 1 - d) with
  | none=>some (s.nx - 1 - d)
  | some _=>none) none
 | none=>none
def aStepD (P:Program) (c:Cf) (G:Gds) (o:Oper) (s:St) (K:St->Gds->Option β):Option β :=
 match o.op with
 | .call { callee:=.value f,args,argTypes } =>aCall P c.Γ c.E (s.ev f) (args.toList.map s.ev) argTypes.toList s (fin o G K)
 | .alloc T=>(newId s o).bind fun k=>aAllocAt P k s.nx T s (fin o G K)
 | .box T x=>(newId s o).bind fun k=>aNewAt k s.nx T s (s.ev x) (fin o G K)
 | .makeSlice T l c=>(newId s o).bind fun k=>aMakeAt P k s.nx T (s.ev l) (s.ev c) s (fin o G K)
 | _=>aop P (ownDst c o) G o s (fin o G K)
def toPl:Option AV->Option Pl
 | some (.c (.s (.pl p)))=>some p
 | _=>none
def evG (G:Gds) (tg:Nat) (want:Bool) (s:St):Operand->AV
 | .tmp t=>match gfind G t tg want with
  | some p=>.s (.pl p)
  | none=>s.ev (.tmp t)
 | x=>s.ev x
def safeOp:BinOp->Bool
 | .quo | .rem | .shl | .shr=>false
 | _=>true
def aPure (P:Program) (G:Gds) (tg:Nat) (want:Bool) (o:Oper) (s:St):Option Pl :=
 match o.op with
 | .move x=>match evG G tg want s x with
  | .c (.s (.pl (.raw _)))=>none
  | .c (.s (.pl p))=>some p
  | _=>none
 | .binOp op T x y _=>match evG G tg want s x,evG G tg want s y with
  | .c (.s (.pl (.int k m))),.c (.s (.pl (.int k' n)))=>match safeOp op with
   | true=>toPl (aBin P T op (.int k m) (.int k' n) some)
   | false=>none
  | .c (.s (.pl (.str m))),.c (.s (.pl (.str n)))=>match op with
   | .eql=>some (.bool (decide (m=n)))
   | .neq=>some (.bool (!decide (m=n)))
   | _=>none
  | .c (.s (.pl (.bool m))),.c (.s (.pl (.bool n)))=>toPl (aBin P T op (.bool m) (.bool n) some)
  | _,_=>none
 | .unOp op _ x=>match evG G tg want s x with
  | .c (.s (.pl p))=>toPl (aUn op (.s (.pl p)) some)
  | _=>none
 | .convert src dst x=>match evG G tg want s x with
  | .c (.s (.pl (.int k m)))=>toPl (aConv P src dst (.int k m) some)
  | _=>none
 | _=>none
def isUndef:AV->Bool
 | .c (.s (.pl (.raw (.tuple _))))=>true
 | _=>false
def skipTo (o:Oper) (G:Gds) (s:St) (K:St->Gds->Option β):Option β :=
 match o.dst with
 | some d=>cond (Nat.blt d s.sz) (K (s.put d (.s (.pl (.raw undef)))) (gdrop d G)) none
 | none=>K s G
def aGuarded (P:Program) (c:Cf) (G:Gds) (tg:Nat) (want:Bool) (o:Oper) (s:St) (K:St->Gds->Option β):Option β :=
 match s.get tg with
 | .c (.s (.pl (.bool b)))=>
  match want with
  | true=>cond b (aStepD P c G o (s.put tg (.bool true)) K) (skipTo o G (s.put tg (.bool false)) K)
  | false=>cond b (skipTo o G (s.put tg (.bool true)) K) (aStepD P c G o (s.put tg (.bool false)) K)
 | x=>match isUndef x with
  | true=>skipTo o G s K
  | false=>none
def aOne (P:Program) (c:Cf) (ops:Array Oper) (G:Gds) (o:Oper) (s:St) (K:St->Gds->Option β):Option β :=
 match o.guard with
 | none=>aStepD P c G o s K
 | some (j,want)=>match (ops[j]?).bind (·.dst) with
  | some tg=>cond (Nat.blt tg s.sz) (aGuarded P c G tg want o s K) none
  | none=>none
def realz (G:Gds) (tg:Nat) (want:Bool) (s:St):St :=
 match G with
 | []=>s
 | (d,u,w,p) :: r=>cond (Nat.beq u tg && (w == want) && Nat.blt d s.sz) ((realz r tg want s).put d (.s (.pl p))) (realz r tg want s)
def gdropD (d:Nat):Gds->Gds
 | []=>[]
 | (e,tg,want,p) :: r=>cond (Nat.beq e d) (gdropD d r) ((e,tg,want,p) :: gdropD d r)
theorem gdropD_mem {d:Nat} {G:Gds} {x:Nat × Nat × Bool × Pl} (h:x ∈ gdropD d G):x ∈ G:=by
 induction G with
 | nil=>simp [gdropD] at h
 | cons q r ih=>
  obtain ⟨e,u,w',p⟩:=q
  simp only [gdropD] at h
  cases hb:Nat.beq e d
  ·rw [hb] at h
   rcases List.mem_cons.1 h with h | h
   ·rw [h]; simp
   ·exact List.mem_cons_of_mem _ (ih h)
  ·rw [hb] at h; exact List.mem_cons_of_mem _ (ih h)
theorem GR.dropD {G:Gds} {a:Act} (h:GR G a) (d:Nat):GR (gdropD d G) a:=fun e tg want p hm=>h e tg want p (gdropD_mem hm)
def aGuardedR (P:Program) (c:Cf) (G:Gds) (tg:Nat) (want:Bool) (o:Oper) (s:St) (K:St->Gds->Option β):Option β :=
 match s.get tg with
 | .c (.s (.pl (.bool b)))=>
  match aPure P G tg want o s,o.dst with
  | some p,some d=>cond (Nat.blt d s.sz && !(Nat.beq d tg) && p.plain) (K (s.put d .junk) ((d,tg,want,p) :: gdrop d G)) none
  | _,_=>match want with
   | true=>cond b (aStep P c (gdropD tg G) o (realz G tg true (s.put tg (.bool true))) K) (skipTo o (gdropD tg G) (s.put tg (.bool false)) K)
   | false=>cond b (skipTo o (gdropD tg G) (s.put tg (.bool true)) K) (aStep P c (gdropD tg G) o (realz G tg false (s.put tg (.bool false))) K)
 | x=>match isUndef x with
  | true=>skipTo o G s K
  | false=>none
def gany:Gds->Nat->Option (Nat × Bool × Pl)
 | [],_=>none
 | (d,u,w,p) :: r,t=>cond (Nat.beq d t) (some (u,w,p)) (gany r t)
def aOneR (P:Program) (c:Cf) (ops:Array Oper) (G:Gds) (o:Oper) (s:St) (K:St->Gds->Option β):Option β :=
 match o.guard with
 | none=>aStep P c G o s K
 | some (j,want)=>match (ops[j]?).bind (·.dst) with
  | some tg=>cond (Nat.blt tg s.sz) (match gany G tg with
   | some (u,w',.bool q)=>match s.get u with
    | .c (.s (.pl (.bool b)))=>cond (Nat.blt u s.sz) (cond (b == w')
      (aGuardedR P c G tg want o ((realz G u w' (s.put u (.bool w'))).put tg (.bool q)) K)
      (aGuardedR P c G tg want o ((s.put u (.bool (!w'))).put tg (.s (.pl (.raw undef)))) K)) none
    | _=>aGuardedR P c G tg want o s K
   | _=>aGuardedR P c G tg want o s K) none
  | none=>none
def aops (P:Program) (c:Cf) (ops:Array Oper):List Oper->Gds->St->(St->Option β)->Option β
 | [],G,s,K=>K s
 | o :: rest,G,s,K=>aOneR P c ops G o s fun s' G'=>aops P c ops rest G' s' K
theorem fin_ok {o:Oper} {G:Gds} {K:St->Gds->Option β} {av:AV} {s':St} {v:Value} {ρ':Plc} (h:fin o G K av s'=some r) (hs:Rel B w0 ρ' s' a w') (hv:AVR w' ρ' av v) (hr:∀ id ∈ av.refs,Liv s' id) (hG:GR G a) :
  ∃ s2 G2,K s2 G2=some r /\ Rel B w0 ρ' s2 (a.put o.dst v) w' /\ GR G2 (a.put o.dst v):=by
 unfold fin at h
 split at h
 ·rename_i d hd
  obtain ⟨h1,h2⟩:=ctrue h
  have h1:d < s'.sz:=Nat.le_of_ble_eq_true h1
  exact ⟨_,_,h2,by rw [hd]; exact hs.put hv hr h1,by rw [hd]; exact hG.put d v⟩
 ·rename_i hd
  exact ⟨_,_,h,by rw [hd]; exact hs,by rw [hd]; exact hG⟩
theorem aop_nd {own:Bool} {G:Gds} {o:Oper} {K:AV->St->Option β} (h:aop P own G o s K=some r):∀ c,o.op ≠ .defer c:=by
 intro c e
 unfold aop at h
 rw [e] at h
 simp at h
theorem aPure_nd {G:Gds} {tg:Nat} {want:Bool} {o:Oper} {p:Pl} (h:aPure P G tg want o s=some p):∀ c,o.op ≠ .defer c:=by
 intro c e
 unfold aPure at h
 rw [e] at h
 simp at h
theorem aStep_sound {c:Cf} (hΓ:CfOk P c) {G:Gds} {o:Oper} {K:St->Gds->Option β} (hs:Rel B w0 ρ s a w) (hG:GR G a) (h:aStep P c G o s K=some r) {next:Act->World->Prop} {Q:Exit->Act->World->Prop}
  (hn:∀ s2 G2 a2 w2 ρ2,K s2 G2=some r->Rel B w0 ρ2 s2 a2 w2->GR G2 a2->next a2 w2):o.wpIn (Fw ro) n P a w next Q:=by
 unfold aStep at h
 split at h
 ·rename_i f args ats ho
  have e:args=args.toList.toArray:=by simp
  refine aCall_sound hΓ.g hΓ.e (f:=f) (args:=args.toList) (ats:=ats) (ts:=ats.toList) (K:=fin o G K) (by rw [<-e]; exact ho) hs h ?_
  intro av v w' s' ρ' h1 h2 h3 h4
  obtain ⟨s2,G2,q1,q2,q3⟩:=fin_ok h1 h4 h3 h2 hG
  exact hn s2 G2 _ _ ρ' q1 q2 q3
 ·obtain ⟨av,s',h1,n,v,w',ρ',h2,h3,h4,h5,h6⟩:=aop_sound hs hG h
  refine wpIn_of (aop_nd h) ?_
  rw [h2]
  rcases h3 with rfl | ⟨rfl,rfl⟩
  ·rw [Oper.uponIn_value]
   obtain ⟨s2,G2,q1,q2,q3⟩:=fin_ok h1 h6 h4 h5 hG
   exact hn s2 G2 _ _ ρ' q1 q2 q3
  ·rw [Oper.uponIn_skip]
   obtain ⟨s2,G2,q1,q2,q3⟩:=fin_ok h1 h6 h4 h5 hG
   exact hn s2 G2 _ _ ρ' q1 q2 q3
theorem newId_ok {o:Oper} {k:Nat} (h:newId s o=some k):k < s.nx /\ look s.hp k=none:=by
 unfold newId at h
 split at h
 ·rename_i d _
  obtain ⟨h1,h2⟩:=ctrue h
  split at h2
  ·rename_i hl
   have h1:d < s.nx:=Nat.le_of_ble_eq_true h1
   simp only [Option.some.injEq] at h2
   subst h2
   exact ⟨Nat.lt_of_le_of_lt (Nat.sub_le _ _) (Nat.sub_lt (Nat.lt_of_le_of_lt (Nat.zero_le _) h1) Nat.one_pos),hl⟩
  ·simp at h2
 ·simp at h
theorem newId_ne {o:Oper} {k:Nat} (h:newId s o=some k):∀ j,Liv s j->j ≠ k:=by
 intro j hj e
 subst e
 obtain ⟨b,hb⟩:=hj.2
 rw [(newId_ok h).2] at hb; cases hb
theorem aStepD_sound {c:Cf} (hΓ:CfOk P c) {G:Gds} {o:Oper} {K:St->Gds->Option β} (hs:Rel B w0 ρ s a w) (hG:GR G a) (h:aStepD P c G o s K=some r) {next:Act->World->Prop} {Q:Exit->Act->World->Prop}
  (hn:∀ s2 G2 a2 w2 ρ2,K s2 G2=some r->Rel B w0 ρ2 s2 a2 w2->GR G2 a2->next a2 w2):o.wpIn (Fw ro) n P a w next Q:=by
 have fall:aStep P c G o s K=some r->o.wpIn (Fw ro) n P a w next Q:=fun h=>aStep_sound hΓ hs hG h hn
 have key:(∀ c,o.op ≠ .defer c)->∀ {av s' v w' ρ'},fin o G K av s'=some r->(∀ id ∈ av.refs,Liv s' id)->AVR w' ρ' av v->Rel B w0 ρ' s' a w'->(execOp a.eval o).run P w=.ok (.value v) w'->o.wpIn (Fw ro) n P a w next Q:=by
  intro hnd av s' v w' ρ' h1 h5 h4 h6 h2
  refine wpIn_of hnd ?_
  rw [h2,Oper.uponIn_value]
  obtain ⟨s2,G2,q1,q2,q3⟩:=fin_ok h1 h6 h4 h5 hG
  exact hn s2 G2 _ _ ρ' q1 q2 q3
 unfold aStepD at h
 split at h
 ·rename_i f args ats ho
  exact fall (by unfold aStep; rw [ho]; exact h)
 ·rename_i T ho
  obtain ⟨k,hk,h⟩:=Option.bind_eq_some_iff.1 h
  obtain ⟨av,s',w',ρ',v,q1,q2,q3,q4,q5⟩:=aAllocAt_sound hs (newId_ok hk).1 (Nat.le_refl _) (newId_ne hk) h
  exact key (by rw [ho]; simp) q1 q2 q3 q4 (by simp only [execOp,ho]; exact run_v q5)
 ·rename_i T x ho
  obtain ⟨k,hk,h⟩:=Option.bind_eq_some_iff.1 h
  obtain ⟨av,s',w',ρ',v,q1,q2,q3,q4,q5⟩:=aBoxAt_sound (P:=P) hs (newId_ok hk).1 (Nat.le_refl _) (newId_ne hk) (hs.ev x) (hs.evr x) h
  exact key (by rw [ho]; simp) q1 q2 q3 q4 (by simp only [execOp,ho]; exact run_v q5)
 ·rename_i T l c ho
  obtain ⟨k,hk,h⟩:=Option.bind_eq_some_iff.1 h
  obtain ⟨av,s',w',ρ',v,q1,q2,q3,q4,q5⟩:=aMakeAt_sound (P:=P) hs (newId_ok hk).1 (Nat.le_refl _) (newId_ne hk) (hs.ev l) (hs.ev c) h
  exact key (by rw [ho]; simp) q1 q2 q3 q4 (by simp only [execOp,ho]; exact run_v q5)
 ·rename_i hc _ _ _
  refine fall ?_
  unfold aStep
  split
  ·rename_i f args ats ho
   exact absurd ho (hc f args ats)
  ·exact h
theorem evG_ok {G:Gds} (hs:Rel B w0 ρ s a w) (hG:GR G a) {tg:Nat} {want:Bool} (hg:a.tmps.getD tg undef=.bool want) (x:Operand):AVR w ρ (evG G tg want s x) (a.eval x):=by
 unfold evG
 split
 ·rename_i t
  split
  ·rename_i p hp
   have:=hG _ _ _ _ (gfind_ok hp)
   refine ⟨this.2.1 hg,fun rr n e=>?_⟩
   subst e; simp [Pl.plain] at this
  ·exact hs.ev (.tmp t)
 ·exact hs.ev x
theorem toPl_some {x:Option AV} {p:Pl} (h:toPl x=some p):x=some (.s (.pl p)):=by
 unfold toPl at h
 split at h
 ·simp at h; subst h; rfl
 ·simp at h
theorem aPure_ok {G:Gds} (hs:Rel B w0 ρ s a w) (hG:GR G a) {tg:Nat} {want:Bool} (hg:a.tmps.getD tg undef=.bool want) {o:Oper} {p:Pl} (h:aPure P G tg want o s=some p) :
  (execOp a.eval o).run P w=.ok (.value p.val) w:=by
 have ev:=fun x=>evG_ok hs hG hg (x:=x)
 unfold aPure at h
 split at h
 ·rename_i x ho
  split at h
  ·simp at h
  ·rename_i q _ hq
   simp at h; subst h
   have:=ev x
   rw [hq] at this
   simp [execOp,ho,this.1]
  ·simp at h
 ·rename_i op T x y yt ho
  have key:∀ {av:AV} {K:AV->Option AV},aBin P T op (evG G tg want s x) (evG G tg want s y) some=some (.s (.pl p))->(execOp a.eval o).run P w=.ok (.value p.val) w:=by
   intro _ _ h
   obtain ⟨av,z,q1,q2,q3,q4⟩:=aBin_sound (P:=P) (ev x) (ev y) h
   cases q1
   simp only [execOp,ho]
   rw [run_v (q4 x y),q3.1]
  split at h
  ·rename_i k m k' n hx hy
   split at h
   ·exact key (av:=.junk) (K:=some) (by rw [hx,hy]; exact toPl_some h)
   ·simp at h
  ·rename_i m n hx hy
   split at h
   ·refine key (av:=.junk) (K:=some) ?_
    rw [hx,hy]
    simp at h; subst h; rfl
   ·refine key (av:=.junk) (K:=some) ?_
    rw [hx,hy]
    simp at h; subst h; rfl
   ·simp at h
  ·rename_i m n hx hy
   exact key (av:=.junk) (K:=some) (by rw [hx,hy]; exact toPl_some h)
  ·simp at h
 ·rename_i op T x ho
  split at h
  ·rename_i q hq
   have h':aUn op (evG G tg want s x) some=some (.s (.pl p)):=by rw [hq]; exact toPl_some h
   obtain ⟨av,z,q1,q2,q3,q4⟩:=aUn_sound (P:=P) (ev x) h'
   cases q1
   simp only [execOp,ho]
   rw [run_v q4,q3.1]
  ·simp at h
 ·rename_i src dst x ho
  split at h
  ·rename_i k m hq
   have h':aConv P src dst (evG G tg want s x) some=some (.s (.pl p)):=by rw [hq]; exact toPl_some h
   obtain ⟨av,z,q1,q2,q3,q4⟩:=aConv_sound (P:=P) (ev x) h'
   cases q1
   simp only [execOp,ho]
   rw [run_v q4,q3.1]
  ·simp at h
 ·simp at h
theorem yielded_bool {ops:Array Oper} {j tg:Nat} {b:Bool} (hj:(ops[j]?).bind (·.dst)=some tg) (hb:a.tmps.getD tg undef=.bool b):yielded ops a.tmps j=some b:=by
 unfold yielded
 rw [hj]
 simp only [Option.bind_some]
 have:a.tmps[tg]?=some (.bool b):=by
  simp only [Array.getD] at hb
  split at hb
  ·rename_i h; simp [h]; exact hb
  ·simp [undef] at hb
 rw [this]
theorem yielded_undef {ops:Array Oper} {j tg:Nat} {vs:Array Value} (hj:(ops[j]?).bind (·.dst)=some tg) (hb:a.tmps.getD tg undef=.tuple vs):yielded ops a.tmps j=none:=by
 unfold yielded
 rw [hj]
 simp only [Option.bind_some]
 cases h:a.tmps[tg]? with
 | none=>rfl
 | some v=>
  have:v=.tuple vs:=by
   obtain ⟨h1,h2⟩:=Array.getElem?_eq_some_iff.1 h
   simp only [Array.getD,h1,dif_pos] at hb
   rw [<-h2]; exact hb
  subst this; rfl
theorem Rel.putSame {d:Nat} {x:AV} (h:Rel B w0 ρ s a w) (hx:AVR w ρ x (slot B a d)) (hr:∀ id ∈ x.refs,Liv s id):Rel B w0 ρ (s.put d x) a w:=by
 have hget:∀ t,(s.put d x).get t=if t=d then x else s.get t:=by
  intro t
  by_cases e:t=d
  ·subst e; simp [St.get,St.put_eq,look_ins]
  ·simp [St.get,St.put_eq,look_ins,e]
 refine ⟨fun t=>?_,h.blk,h.lt,h.inj,h.base,h.size,h.df,h.below,h.b0,fun t id=>?_,h.rb,h.gh,h.ob,h.ox⟩
 ·rw [hget]; split
  ·rename_i e; subst e; exact hx
  ·exact h.tm t
 ·rw [hget]; split
  ·exact hr id
  ·exact h.rt t id
theorem skipTo_ok {o:Oper} {G:Gds} {K:St->Gds->Option β} (h:skipTo o G s K=some r) (hs:Rel B w0 ρ s a w) (hG:GR G a) :
  ∃ s2 G2,K s2 G2=some r /\ Rel B w0 ρ s2 (a.put o.dst undef) w /\ GR G2 (a.put o.dst undef):=by
 unfold skipTo at h
 split at h
 ·rename_i d hd
  obtain ⟨h1,h2⟩:=ctrue h
  have h1:d < s.sz:=Nat.le_of_ble_eq_true h1
  exact ⟨_,_,h2,by rw [hd]; exact hs.put ⟨rfl,fun _ _ e=>by cases e⟩ (by simp [AV.refs,CV.refs,SV.refs]) h1,by rw [hd]; exact hG.put d undef⟩
 ·rename_i hd
  exact ⟨_,_,h,by rw [hd]; exact hs,by rw [hd]; exact hG⟩
theorem GR.cons {G:Gds} {d tg:Nat} {want:Bool} {p:Pl} {v:Value} (hG:GR G a) (hp:p.plain=true) (hne:d ≠ tg) (hd:d < a.tmps.size) (hv:a.tmps.getD tg undef=.bool want->v=p.val) (hu:a.tmps.getD tg undef=.bool (!want)->v=undef):GR ((d,tg,want,p) :: gdrop d G) (a.put (some d) v):=by
 intro e tg' want' p' hm
 rcases List.mem_cons.1 hm with e1 | hm
 ·cases e1
  refine ⟨hp,fun hg=>?_,fun hg=>?_⟩
  ·rw [getD_put_ne (Ne.symm hne)] at hg
   simp [Act.put,Array.getD,hd,hv hg]
  ·rw [getD_put_ne (Ne.symm hne)] at hg
   simp [Act.put,Array.getD,hd,hu hg]
 ·exact hG.put d v e tg' want' p' hm
theorem aOne_sound {c:Cf} (hΓ:CfOk P c) {ops:Array Oper} {G:Gds} {o:Oper} {K:St->Gds->Option β} (hs:Rel B w0 ρ s a w) (hG:GR G a) (h:aOne P c ops G o s K=some r) {next:Act->World->Prop} {Q:Exit->Act->World->Prop}
  (hn:∀ s2 G2 a2 w2 ρ2,K s2 G2=some r->Rel B w0 ρ2 s2 a2 w2->GR G2 a2->next a2 w2) :
  if Region.wanted o (yielded ops a.tmps) then o.wpIn (Fw ro) n P a w next Q else next (a.put o.dst undef) w:=by
 unfold aOne at h
 split at h
 ·rename_i hg
  have:Region.wanted o (yielded ops a.tmps)=true:=by simp [Region.wanted,hg]
  rw [if_pos this]
  exact (aStepD_sound hΓ hs hG h hn)
 ·rename_i j want hg
  split at h
  ·rename_i tg htg
   obtain ⟨hsz,h⟩:=ctrue h
   have hsz':tg < s.sz:=Nat.le_of_ble_eq_true hsz
   have hwant:∀ b,a.tmps.getD tg undef=.bool b->Region.wanted o (yielded ops a.tmps)=(b == want):=by
    intro b hb
    simp only [Region.wanted,hg,yielded_bool htg hb]
    cases b <;> cases want <;> rfl
   unfold aGuarded at h
   split at h
   ·rename_i b hb
    have hreal:a.tmps.getD tg undef=.bool b:=by
     have:=hs.tmL (t:=tg) hsz'
     rw [hb] at this; exact this.1
    have hlit:∀ q:Bool,b=q->Rel B w0 ρ (s.put tg (.bool q)) a w:=fun q e=>hs.putSame (by rw [slot_lt (by rw [hs.size]; exact hsz'),hreal,e]; exact AVR.bool _) (by simp [AV.refs,CV.refs,SV.refs])
    rw [hwant b hreal]
    split at h
    ·cases b
     ·obtain ⟨s2,G2,q1,q2,q3⟩:=skipTo_ok h (hlit false rfl) hG
      simp only [Bool.false_eq_true,if_false,show (false == true)=false from rfl]
      exact hn _ _ _ _ ρ q1 q2 q3
     ·simp only [beq_self_eq_true,if_true]
      exact (aStepD_sound hΓ (hlit true rfl) hG h hn)
    ·cases b
     ·simp only [beq_self_eq_true,if_true]
      exact (aStepD_sound hΓ (hlit false rfl) hG h hn)
     ·obtain ⟨s2,G2,q1,q2,q3⟩:=skipTo_ok h (hlit true rfl) hG
      simp only [Bool.false_eq_true,if_false,show (true == false)=false from rfl]
      exact hn _ _ _ _ ρ q1 q2 q3
   ·split at h
    ·rename_i hu
     have hreal:∃ vs,a.tmps.getD tg undef=.tuple vs:=by
      unfold isUndef at hu
      split at hu
      ·rename_i vs he
       have:=hs.tmL (t:=tg) hsz'
       rw [he] at this; exact ⟨vs,this.1⟩
      ·simp at hu
     obtain ⟨vs,hvs⟩:=hreal
     have:Region.wanted o (yielded ops a.tmps)=false:=by
      simp [Region.wanted,hg,yielded_undef htg hvs]
     rw [this]
     simp only [Bool.false_eq_true,if_false]
     obtain ⟨s2,G2,q1,q2,q3⟩:=skipTo_ok h hs hG
     exact hn _ _ _ _ ρ q1 q2 q3
    ·simp at h
  ·simp at h
theorem realz_sz {G:Gds} {tg:Nat} {want:Bool}:(realz G tg want s).sz=s.sz:=by
 induction G with
 | nil=>rfl
 | cons q r ih=>
  obtain ⟨d,u,w',p⟩:=q
  simp only [realz]
  cases (Nat.beq u tg && (w' == want) && Nat.blt d s.sz)
  ·exact ih
  ·exact ih
theorem realz_ok {G:Gds} {tg:Nat} {want:Bool} (hg:a.tmps.getD tg undef=.bool want) (hs:Rel B w0 ρ s a w) (hG:GR G a):Rel B w0 ρ (realz G tg want s) a w:=by
 induction G with
 | nil=>exact hs
 | cons q r ih=>
  obtain ⟨d,u,w',p⟩:=q
  have ih:=ih fun e tg' want' p' hm=>hG e tg' want' p' (List.mem_cons_of_mem _ hm)
  simp only [realz]
  cases hc:(Nat.beq u tg && (w' == want) && Nat.blt d s.sz)
  ·exact ih
  ·simp only [Bool.and_eq_true] at hc
   obtain ⟨⟨h1,h2⟩,h3⟩:=hc
   have h1:u=tg:=Nat.eq_of_beq_eq_true h1
   have h2:w'=want:=by simpa using h2
   have h3:d < s.sz:=Nat.le_of_ble_eq_true h3
   subst h1; subst h2
   obtain ⟨k1,k2,_⟩:=hG d u w' p (by simp)
   refine ih.putSame ?_ (by simp [AV.refs,CV.refs,SV.refs])
   rw [slot_lt (by rw [hs.size]; exact h3),k2 hg]
   exact ⟨rfl,fun rr n e=>by subst e; simp [Pl.plain] at k1⟩
theorem aGuardedR_sound {c:Cf} (hΓ:CfOk P c) {ops:Array Oper} {G:Gds} {o:Oper} {j tg:Nat} {want:Bool} (hg:o.guard=some (j,want)) (htg:(ops[j]?).bind (·.dst)=some tg) (hsz':tg < s.sz) {K:St->Gds->Option β} (hs:Rel B w0 ρ s a w) (hG:GR G a) (h:aGuardedR P c G tg want o s K=some r) {next:Act->World->Prop} {Q:Exit->Act->World->Prop}
  (hn:∀ s2 G2 a2 w2 ρ2,K s2 G2=some r->Rel B w0 ρ2 s2 a2 w2->GR G2 a2->next a2 w2) :
  if Region.wanted o (yielded ops a.tmps) then o.wpIn (Fw ro) n P a w next Q else next (a.put o.dst undef) w:=by
 have hwant:∀ b,a.tmps.getD tg undef=.bool b->Region.wanted o (yielded ops a.tmps)=(b == want):=by
  intro b hb
  simp only [Region.wanted,hg,yielded_bool htg hb]
  cases b <;> cases want <;> rfl
 unfold aGuardedR at h
 split at h
 ·rename_i b hb
  have hreal:a.tmps.getD tg undef=.bool b:=by
   have:=hs.tmL (t:=tg) hsz'
   rw [hb] at this; exact this.1
  have hlit:∀ q:Bool,b=q->Rel B w0 ρ (s.put tg (.bool q)) a w:=fun q e=>hs.putSame (by rw [slot_lt (by rw [hs.size]; exact hsz'),hreal,e]; exact AVR.bool _) (by simp [AV.refs,CV.refs,SV.refs])
  rw [hwant b hreal]
  split at h
  ·rename_i p d hp hd
   obtain ⟨h1,h2⟩:=ctrue h
   simp only [Bool.and_eq_true] at h1
   obtain ⟨⟨c1,c2⟩,c3⟩:=h1
   have c1:d < s.sz:=Nat.le_of_ble_eq_true c1
   have c2:d ≠ tg:=by
    intro e; subst e; simp at c2
   have hda:d < a.tmps.size:=by rw [hs.size]; exact c1
   by_cases hbw:b=want
   ·subst hbw
    have hrun:=aPure_ok hs hG hreal hp
    simp only [beq_self_eq_true,if_true]
    refine wpIn_of (aPure_nd hp) ?_
    rw [hrun,Oper.uponIn_value]
    refine hn _ _ _ _ ρ h2 ?_ ?_
    ·rw [hd]; exact hs.put trivial (by simp [AV.refs,CV.refs,SV.refs]) c1
    ·rw [hd]; exact hG.cons c3 c2 hda (fun _=>rfl) (fun hg=>by rw [hreal] at hg; cases b <;> cases hg)
   ·have:(b == want)=false:=by simpa using hbw
    rw [this]
    simp only [Bool.false_eq_true,if_false]
    refine hn _ _ _ _ ρ h2 ?_ ?_
    ·rw [hd]; exact hs.put trivial (by simp [AV.refs,CV.refs,SV.refs]) c1
    ·rw [hd]; exact hG.cons c3 c2 hda (fun hg=>by rw [hreal] at hg; cases hg; exact absurd rfl hbw) (fun _=>rfl)
  ·split at h
   ·cases b
    ·obtain ⟨s2,G2,q1,q2,q3⟩:=skipTo_ok h (hlit false rfl) (hG.dropD tg)
     simp only [Bool.false_eq_true,if_false,show (false == true)=false from rfl]
     exact hn _ _ _ _ ρ q1 q2 q3
    ·simp only [beq_self_eq_true,if_true]
     exact (aStep_sound hΓ (realz_ok hreal (hlit true rfl) hG) (hG.dropD tg) h hn)
   ·cases b
    ·simp only [beq_self_eq_true,if_true]
     exact (aStep_sound hΓ (realz_ok hreal (hlit false rfl) hG) (hG.dropD tg) h hn)
    ·obtain ⟨s2,G2,q1,q2,q3⟩:=skipTo_ok h (hlit true rfl) (hG.dropD tg)
     simp only [Bool.false_eq_true,if_false,show (true == false)=false from rfl]
     exact hn _ _ _ _ ρ q1 q2 q3
 ·split at h
  ·rename_i hu
   have hreal:∃ vs,a.tmps.getD tg undef=.tuple vs:=by
    unfold isUndef at hu
    split at hu
    ·rename_i vs he
     have:=hs.tmL (t:=tg) hsz'
     rw [he] at this; exact ⟨vs,this.1⟩
    ·simp at hu
   obtain ⟨vs,hvs⟩:=hreal
   have:Region.wanted o (yielded ops a.tmps)=false:=by
    simp [Region.wanted,hg,yielded_undef htg hvs]
   rw [this]
   simp only [Bool.false_eq_true,if_false]
   obtain ⟨s2,G2,q1,q2,q3⟩:=skipTo_ok h hs hG
   exact hn _ _ _ _ ρ q1 q2 q3
  ·simp at h
theorem gany_mem {G:Gds} {t u:Nat} {w:Bool} {p:Pl} (h:gany G t=some (u,w,p)):(t,u,w,p) ∈ G:=by
 induction G with
 | nil=>cases h
 | cons q r ih=>
  obtain ⟨d,u',w',p'⟩:=q
  simp only [gany] at h
  cases hb:Nat.beq d t
  ·rw [hb] at h; exact List.mem_cons_of_mem _ (ih h)
  ·rw [hb] at h
   have:d=t:=Nat.eq_of_beq_eq_true hb
   subst this; cases h; simp
theorem aOneR_sound {c:Cf} (hΓ:CfOk P c) {ops:Array Oper} {G:Gds} {o:Oper} {K:St->Gds->Option β} (hs:Rel B w0 ρ s a w) (hG:GR G a) (h:aOneR P c ops G o s K=some r) {next:Act->World->Prop} {Q:Exit->Act->World->Prop}
  (hn:∀ s2 G2 a2 w2 ρ2,K s2 G2=some r->Rel B w0 ρ2 s2 a2 w2->GR G2 a2->next a2 w2) :
  if Region.wanted o (yielded ops a.tmps) then o.wpIn (Fw ro) n P a w next Q else next (a.put o.dst undef) w:=by
 unfold aOneR at h
 split at h
 ·rename_i hg
  have:Region.wanted o (yielded ops a.tmps)=true:=by simp [Region.wanted,hg]
  rw [if_pos this]
  exact (aStep_sound hΓ hs hG h hn)
 ·rename_i j want hg
  split at h
  ·rename_i tg htg
   obtain ⟨hsz,h⟩:=ctrue h
   have hsz':tg < s.sz:=Nat.le_of_ble_eq_true hsz
   split at h
   ·rename_i u w' q hgy
    have hmem:=gany_mem hgy
    split at h
    ·rename_i b hb
     obtain ⟨hu,h⟩:=ctrue h
     have hu':u < s.sz:=Nat.le_of_ble_eq_true hu
     have hreal:a.tmps.getD u undef=.bool b:=by
      have:=hs.tmL (t:=u) hu'
      rw [hb] at this; exact this.1
     obtain ⟨k1,k2,k3⟩:=hG tg u w' (.bool q) hmem
     have hlit:Rel B w0 ρ (s.put u (.bool b)) a w:=hs.putSame (by rw [slot_lt (by rw [hs.size]; exact hu'),hreal]; exact AVR.bool _) (by simp [AV.refs,CV.refs,SV.refs])
     by_cases hbw:b=w'
     ·subst hbw
      simp only [beq_self_eq_true,cond_true] at h
      have hz:(realz G u b (s.put u (.bool b))).sz=s.sz:=realz_sz
      refine aGuardedR_sound hΓ hg htg (by show tg < (realz G u b (s.put u (.bool b))).sz; rw [hz]; exact hsz') ((realz_ok hreal hlit hG).putSame ?_ (by simp [AV.refs,CV.refs,SV.refs])) hG h hn
      rw [slot_lt (by rw [hs.size]; exact hsz'),k2 hreal]
      exact AVR.bool _
     ·have e:(b == w')=false:=by simpa using hbw
      have e2:b=!w':=by cases b <;> cases w' <;> simp_all
      rw [e] at h
      simp only [cond_false] at h
      rw [e2] at hlit hreal
      refine aGuardedR_sound hΓ hg htg (by exact hsz') (hlit.putSame ?_ (by simp [AV.refs,CV.refs,SV.refs])) hG h hn
      rw [slot_lt (by rw [hs.size]; exact hsz'),k3 hreal]
      exact ⟨rfl,fun _ _ e=>by cases e⟩
    ·exact aGuardedR_sound hΓ hg htg hsz' hs hG h hn
   ·exact aGuardedR_sound hΓ hg htg hsz' hs hG h hn
  ·simp at h
theorem aops_sound {c:Cf} (hΓ:CfOk P c) {ops:Array Oper} {Q:Exit->Act->World->Prop} {K:St->Option β}:∀ (l:List Oper) {G:Gds} {s:St} {a:Act} {w:World} {ρ:Plc},Rel B w0 ρ s a w->GR G a->aops P c ops l G s K=some r ->
  (∀ s' a' w' ρ',K s'=some r->Rel B w0 ρ' s' a' w'->Q .normal a' w')->wpListIn (Fw ro) n P ops Q l a w:=by
 intro l
 induction l with
 | nil=>intro G s a w ρ hs hG h hQ; exact hQ s a w ρ h hs
 | cons o rest ih=>
  intro G s a w ρ hs hG h hQ
  have h1:=aOneR_sound (ro:=ro) (n:=n) (Q:=Q) hΓ hs hG h fun s2 G2 a2 w2 ρ2 h1 h2 h3=>ih h2 h3 h1 hQ
  unfold wpListIn
  by_cases hw:Region.wanted o (yielded ops a.tmps)=true
  ·rw [if_pos hw] at h1 ⊢; exact h1
  ·rw [if_neg hw] at h1 ⊢; exact ⟨fun _ _=>trivial,h1⟩
end
end
noncomputable section
open Go Go.RowKit
set_option linter.all false
theorem cond_bindN {α γ:Type} (b:Bool) (x:Option α) (f:α->Option γ):(cond b x none).bind f=cond b (x.bind f) none:=by cases b <;> rfl
theorem cond_bindF {α γ:Type} (b:Bool) (x:Option α) (f:α->Option γ):(cond b none x).bind f=cond b none (x.bind f):=by cases b <;> rfl
theorem cond_bind2 {α γ:Type} (b:Bool) (x y:Option α) (f:α->Option γ):(cond b x y).bind f=cond b (x.bind f) (y.bind f):=by cases b <;> rfl
theorem condN {α:Type} (b:Bool) {x y:Option α} (h:x=y):cond b x none=cond b y none:=by rw [h]
theorem condF {α:Type} (b:Bool) {x y:Option α} (h:x=y):cond b none x=cond b none y:=by rw [h]
theorem cond2 {α:Type} (b:Bool) {x y u v:Option α} (h:x=u) (h2:y=v):cond b x y=cond b u v:=by rw [h,h2]
section
variable {P:Program} {s:St} {β:Type}
theorem aLoad_bind (T:TypeId) (x:AV) (K:AV->Option β):aLoad P T s x K=(aLoad P T s x some).bind K:=by
 unfold aLoad
 repeat' (first | rfl | (rw [cond_bindN]; refine condN _ ?_) | (rw [cond_bindF]; refine condF _ ?_) | split)
theorem aSlice_bind (T:TypeId) (x:AV) (lo hi mx:Option AV) (K:AV->Option β):aSlice P T x lo hi mx K=(aSlice P T x lo hi mx some).bind K:=by
 unfold aSlice
 repeat' (first | rfl | (rw [cond_bindN]; refine condN _ ?_) | (rw [cond_bindF]; refine condF _ ?_) | split)
theorem aBin_bind (T:TypeId) (op:BinOp) (x y:AV) (K:AV->Option β):aBin P T op x y K=(aBin P T op x y some).bind K:=by
 unfold aBin aBinInt aBinStr
 repeat' (first | rfl | (rw [cond_bindN]; refine condN _ ?_) | (rw [cond_bindF]; refine condF _ ?_) | split)
theorem aEqAgg_bind (T:TypeId) (op:BinOp) (x y:AV) (K:AV->Option β):aEqAgg P T op x y K=(aEqAgg P T op x y some).bind K:=by
 unfold aEqAgg
 repeat' (first | rfl | (rw [cond_bindN]; refine condN _ ?_) | (rw [cond_bindF]; refine condF _ ?_) | split)
theorem aEqMix_bind (T:TypeId) (op:BinOp) (xs ys:List SV) (K:AV->Option β):aEqMix P T op xs ys K=(aEqMix P T op xs ys some).bind K:=by
 unfold aEqMix
 repeat' (first | rfl | (rw [cond_bindN]; refine condN _ ?_) | (rw [cond_bindF]; refine condF _ ?_) | split)
theorem aBinX_bind (T:TypeId) (op:BinOp) (x y:AV) (K:AV->Option β):aBinX P T op x y K=(aBinX P T op x y some).bind K:=by
 unfold aBinX
 split
 ·exact aEqMix_bind _ _ _ _ _
 ·exact aEqAgg_bind _ _ _ _ _
 ·exact aEqMix_bind _ _ _ _ _
 ·exact aBin_bind _ _ _ _ _
theorem aStore_bind (T:TypeId) (x y:AV) (K:St->Option β):aStore P T s x y K=(aStore P T s x y some).bind K:=by
 unfold aStore
 repeat' (first | rfl | (rw [cond_bindN]; refine condN _ ?_) | (rw [cond_bindF]; refine condF _ ?_) | split)
theorem aUn_bind (op:UnOp) (x:AV) (K:AV->Option β):aUn op x K=(aUn op x some).bind K:=by
 unfold aUn
 repeat' (first | rfl | split)
theorem aConv_bind (a b:TypeId) (x:AV) (K:AV->Option β):aConv P a b x K=(aConv P a b x some).bind K:=by
 unfold aConv
 repeat' (first | rfl | split)
theorem aField_bind (T:TypeId) (x:AV) (f:Nat) (K:AV->Option β):aField P T x f K=(aField P T x f some).bind K:=by
 unfold aField
 repeat' (first | rfl | (rw [cond_bindN]; refine condN _ ?_) | split)
theorem aPart_bind (T:TypeId) (x:AV) (f:Nat) (K:AV->Option β):aPart P T f x K=(aPart P T f x some).bind K:=by
 unfold aPart
 repeat' (first | rfl | (rw [cond_bindN]; refine condN _ ?_) | split)
theorem aFieldV_bind (T:TypeId) (x:AV) (f:Nat) (K:AV->Option β):aFieldV P T x f K=(aFieldV P T x f some).bind K:=by
 unfold aFieldV
 repeat' (first | rfl | exact aPart_bind _ _ _ _ | split)
theorem aIndexV_bind (T:TypeId) (x i:AV) (K:AV->Option β):aIndexV P T x i K=(aIndexV P T x i some).bind K:=by
 unfold aIndexV
 repeat' (first | rfl | exact aPart_bind _ _ _ _ | (rw [cond_bindN]; refine condN _ ?_) | split)
theorem aIndexV1_bind (T:TypeId) (x i:AV) (K:AV->Option β):aIndexV1 P T x i K=(aIndexV1 P T x i some).bind K:=by
 unfold aIndexV1
 repeat' (first | rfl | exact aIndexV_bind _ _ _ _ | (rw [cond_bindN]; refine condN _ ?_) | split)
theorem aIndexAddr_bind (T:TypeId) (x i:AV) (K:AV->Option β):aIndexAddr P T x i K=(aIndexAddr P T x i some).bind K:=by
 unfold aIndexAddr
 repeat' (first | rfl | (rw [cond_bindN]; refine condN _ ?_) | split)
theorem aNilCheck_bind (x:AV) (K:AV->Option β):aNilCheck x K=(aNilCheck x some).bind K:=by
 unfold aNilCheck
 repeat' (first | rfl | split)
theorem aArrAt_bind (T:TypeId) (x:AV) (K:AV->Option β):aArrAt P T x K=(aArrAt P T x some).bind K:=by
 unfold aArrAt
 split
 ·rw [cond_bindN]; rfl
 ·rfl
theorem aMkFunc_bind (fn:Fn) (x y:List AV) (K:AV->Option β):aMkFunc fn x y K=(aMkFunc fn x y some).bind K:=by
 unfold aMkFunc
 repeat' (first | rfl | split)
theorem aExtract_bind (x:AV) (i:Nat) (K:AV->Option β):aExtract x i K=(aExtract x i some).bind K:=by
 unfold aExtract
 repeat' (first | rfl | split)
theorem aLen_bind (T:TypeId) (x:AV) (K:AV->Option β):aLen P T x K=(aLen P T x some).bind K:=by
 unfold aLen
 repeat' (first | rfl | split)
theorem aBuild_bind (T:TypeId) (ps:List (Nat × AV)) (K:AV->Option β):aBuild P T ps K=(aBuild P T ps some).bind K:=by
 unfold aBuild
 repeat' (first | rfl | (rw [cond_bindN]; refine condN _ ?_) | split)
theorem foldMin_bind (l:List AV) (K:AV->Option β):foldMin l K=(foldMin l some).bind K:=by
 unfold foldMin
 repeat' (first | rfl | split)
theorem foldMax_bind (l:List AV) (K:AV->Option β):foldMax l K=(foldMax l some).bind K:=by
 unfold foldMax
 repeat' (first | rfl | split)
theorem aPick_bind (G:Gds) (c x y:Operand) (K:AV->Option β):aPick G s c x y K=(aPick G s c x y some).bind K:=by
 unfold aPick
 repeat' (first | rfl | (rw [cond_bind2]; refine cond2 _ ?_ ?_) | split)
def prK (av:AV) (s:St):Option (AV × St):=some (av,s)
theorem aNewAt_bind (k nx':Nat) (T:TypeId) (x:AV) (K:AV->St->Option β):aNewAt k nx' T s x K=(aNewAt k nx' T s x prK).bind fun p=>K p.1 p.2:=by
 unfold aNewAt
 repeat' (first | rfl | split)
theorem aAllocAt_bind (k nx':Nat) (T:TypeId) (K:AV->St->Option β):aAllocAt P k nx' T s K=(aAllocAt P k nx' T s prK).bind fun p=>K p.1 p.2:=by
 unfold aAllocAt
 repeat' (first | rfl | exact aNewAt_bind _ _ _ _ _ | split)
theorem aNew_bind (T:TypeId) (x:AV) (K:AV->St->Option β):aNew T s x K=(aNew T s x prK).bind fun p=>K p.1 p.2:=by
 unfold aNew
 exact aNewAt_bind _ _ _ _ _
theorem aAlloc_bind (T:TypeId) (K:AV->St->Option β):aAlloc P T s K=(aAlloc P T s prK).bind fun p=>K p.1 p.2:=by
 unfold aAlloc
 repeat' (first | rfl | exact aNew_bind _ _ _ | split)
theorem aMakeAt_bind (k nx':Nat) (T:TypeId) (x y:AV) (K:AV->St->Option β):aMakeAt P k nx' T x y s K=(aMakeAt P k nx' T x y s prK).bind fun p=>K p.1 p.2:=by
 unfold aMakeAt
 repeat' (first | rfl | (rw [cond_bindN]; refine condN _ ?_) | split)
theorem aMake_bind (T:TypeId) (x y:AV) (K:AV->St->Option β):aMake P T x y s K=(aMake P T x y s prK).bind fun p=>K p.1 p.2:=by
 unfold aMake
 repeat' (first | rfl | (rw [cond_bindN]; refine condN _ ?_) | split)
theorem aBuildSlice_bind (own:Bool) (T:TypeId) (len:Nat) (ps:List (Nat × AV)) (K:AV->St->Option β):aBuildSlice P own T len ps s K=(aBuildSlice P own T len ps s prK).bind fun p=>K p.1 p.2:=by
 unfold aBuildSlice
 repeat' (first | rfl | (rw [cond_bindN]; refine condN _ ?_) | split)
theorem aConvB_bind (own:Bool) (a b:TypeId) (x:AV) (K:AV->St->Option β):aConvB P own a b x s K=(aConvB P own a b x s prK).bind fun p=>K p.1 p.2:=by
 unfold aConvB
 repeat' (first | rfl | (rw [cond_bindN]; refine condN _ ?_) | split)
 ·rw [aConv_bind,aConv_bind (K:=fun v=>prK v s)]
  cases aConv P a b x some <;> rfl
theorem aNilOwn_bind (T:TypeId) (K:AV->St->Option β):aNilOwn P T s K=(aNilOwn P T s prK).bind fun p=>K p.1 p.2:=by
 unfold aNilOwn
 repeat' (first | rfl | split)
theorem aMove_bind (own:Bool) (T:TypeId) (x:AV) (K:AV->St->Option β):aMove P own T x s K=(aMove P own T x s prK).bind fun p=>K p.1 p.2:=by
 unfold aMove
 split
 ·exact aNilOwn_bind _ _
 ·rfl
theorem aAppend_bind (T:TypeId) (x y:AV) (K:AV->St->Option β):aAppend P T x y s K=(aAppend P T x y s prK).bind fun p=>K p.1 p.2:=by
 unfold aAppend
 repeat' (first | rfl | (rw [cond_bindN]; refine condN _ ?_) | split)
theorem aCallΓ_bind (Γ:FuncId->Option Summ) (g:FuncId) (first cap:List Pl) (args:List AV) (ts:List TypeId) (K:AV->St->Option β):aCallΓ P Γ g first cap args ts s K=(aCallΓ P Γ g first cap args ts s prK).bind fun p=>K p.1 p.2:=by
 unfold aCallΓ
 split
 ·rw [cond_bindN]; refine condN _ ?_
  rw [Option.bind_assoc]; rfl
 ·rw [cond_bindN]; refine condN _ ?_
  rw [Option.bind_assoc]
  congr 1; funext t
  rw [cond_bindN]; rfl
 ·rfl
theorem aCallR_bind (Γ:FuncId->Option Summ) (g:FuncId) (cs:List (TRow × Nat × Nat)) (args:List AV) (K:AV->St->Option β):aCallR Γ g cs args s K=(aCallR Γ g cs args s prK).bind fun p=>K p.1 p.2:=by
 unfold aCallR
 split
 ·rw [Option.bind_assoc]; rfl
 ·rw [Option.bind_assoc]
  congr 1; funext t
  rw [cond_bindN]; rfl
 ·rfl
theorem aCall_bind (Γ:FuncId->Option Summ) (E:Efs) (f:AV) (args:List AV) (ts:List TypeId) (K:AV->St->Option β):aCall P Γ E f args ts s K=(aCall P Γ E f args ts s prK).bind fun p=>K p.1 p.2:=by
 unfold aCall
 split
 ·split
  ·split
   ·rw [cond_bindN]; refine condN _ ?_
    rw [cond_bindN]; rfl
   ·exact aCallΓ_bind _ _ _ _ _ _ _
  ·exact aCallΓ_bind _ _ _ _ _ _ _
 ·split
  ·split
   ·rw [cond_bindN]; rfl
   ·rfl
  ·rfl
 ·exact aCallR_bind _ _ _ _ _
 ·rfl
theorem lift_bind {γ:Type} {f:∀ {δ:Type},(AV->Option δ)->Option δ} (hf:∀ {δ:Type} (K:AV->Option δ),f K=(f some).bind K) (K:AV->St->Option β):f (fun v=>K v s)=(f (fun v=>prK v s)).bind fun p=>K p.1 p.2:=by
 rw [hf (fun v=>K v s),hf (fun v=>prK v s),Option.bind_assoc]
 rfl
theorem aBuiltin_bind (own:Bool) (b:Builtin) (ts:List TypeId) (xs:List AV) (K:AV->St->Option β):aBuiltin P own b ts xs s K=(aBuiltin P own b ts xs s prK).bind fun p=>K p.1 p.2:=by
 unfold aBuiltin
 split
 ·exact lift_bind (γ:=Unit) (f:=fun K=>aLen P _ _ K) (fun K=>aLen_bind _ _ K) K
 ·rw [cond_bindN]; refine condN _ ?_; exact aAppend_bind _ _ _ _
 ·exact lift_bind (γ:=Unit) (f:=fun K=>foldMin _ K) (fun K=>foldMin_bind _ K) K
 ·exact lift_bind (γ:=Unit) (f:=fun K=>foldMax _ K) (fun K=>foldMax_bind _ K) K
 ·rfl
theorem aop_bind (own:Bool) (G:Gds) (o:Oper) (K:AV->St->Option β):aop P own G o s K=(aop P own G o s prK).bind fun p=>K p.1 p.2:=by
 unfold aop
 split
 ·exact aMove_bind _ _ _ _
 ·exact aMove_bind _ _ _ _
 ·exact lift_bind (γ:=Unit) (f:=fun K=>aPick G s _ _ _ K) (fun K=>aPick_bind _ _ _ _ K) K
 ·exact aAlloc_bind _ _
 ·exact aNew_bind _ _ _
 ·exact lift_bind (γ:=Unit) (f:=fun K=>aBuild P _ _ K) (fun K=>aBuild_bind _ _ K) K
 ·exact aBuildSlice_bind _ _ _ _ _
 ·exact lift_bind (γ:=Unit) (f:=fun K=>aLoad P _ s _ K) (fun K=>aLoad_bind _ _ K) K
 ·rw [aStore_bind (K:=fun s'=>K .junk s'),aStore_bind (K:=fun s'=>prK .junk s'),Option.bind_assoc]; rfl
 ·exact lift_bind (γ:=Unit) (f:=fun K=>aNilCheck _ K) (fun K=>aNilCheck_bind _ K) K
 ·exact lift_bind (γ:=Unit) (f:=fun K=>aBinX P _ _ _ _ K) (fun K=>aBinX_bind _ _ _ _ K) K
 ·exact lift_bind (γ:=Unit) (f:=fun K=>aUn _ _ K) (fun K=>aUn_bind _ _ K) K
 ·exact aConvB_bind _ _ _ _ _
 ·exact lift_bind (γ:=Unit) (f:=fun K=>aMkFunc _ _ _ K) (fun K=>aMkFunc_bind _ _ _ K) K
 ·exact aMake_bind _ _ _ _
 ·exact lift_bind (γ:=Unit) (f:=fun K=>aSlice P _ _ _ _ _ K) (fun K=>aSlice_bind _ _ _ _ _ K) K
 ·exact lift_bind (γ:=Unit) (f:=fun K=>aField P _ _ _ K) (fun K=>aField_bind _ _ _ K) K
 ·exact lift_bind (γ:=Unit) (f:=fun K=>aFieldV P _ _ _ K) (fun K=>aFieldV_bind _ _ _ K) K
 ·exact lift_bind (γ:=Unit) (f:=fun K=>aIndexAddr P _ _ _ K) (fun K=>aIndexAddr_bind _ _ _ K) K
 ·exact lift_bind (γ:=Unit) (f:=fun K=>aIndexV1 P _ _ _ K) (fun K=>aIndexV1_bind _ _ _ K) K
 ·exact lift_bind (γ:=Unit) (f:=fun K=>aExtract _ _ K) (fun K=>aExtract_bind _ _ K) K
 ·exact aBuiltin_bind _ _ _ _ _
 ·exact lift_bind (γ:=Unit) (f:=fun K=>aArrAt P _ _ K) (fun K=>aArrAt_bind _ _ K) K
 ·rfl
def prG (s:St) (G:Gds):Option (St × Gds):=some (s,G)
theorem fin_bind (o:Oper) (G:Gds) (K:St->Gds->Option β) (av:AV) (s':St):fin o G K av s'=(fin o G prG av s').bind fun p=>K p.1 p.2:=by
 unfold fin
 repeat' (first | rfl | (rw [cond_bindN]; refine condN _ ?_) | split)
theorem aStepD_bind (c:Cf) (G:Gds) (o:Oper) (K:St->Gds->Option β):aStepD P c G o s K=(aStepD P c G o s prG).bind fun p=>K p.1 p.2:=by
 unfold aStepD
 split
 ·rw [aCall_bind (K:=fin o G K),aCall_bind (K:=fin o G prG),Option.bind_assoc]
  congr 1; funext p; exact fin_bind _ _ _ _ _
 ·rw [Option.bind_assoc]
  congr 1; funext k
  rw [aAllocAt_bind (K:=fin o G K),aAllocAt_bind (K:=fin o G prG),Option.bind_assoc]
  congr 1; funext p; exact fin_bind _ _ _ _ _
 ·rw [Option.bind_assoc]
  congr 1; funext k
  rw [aNewAt_bind (K:=fin o G K),aNewAt_bind (K:=fin o G prG),Option.bind_assoc]
  congr 1; funext p; exact fin_bind _ _ _ _ _
 ·rw [Option.bind_assoc]
  congr 1; funext k
  rw [aMakeAt_bind (K:=fin o G K),aMakeAt_bind (K:=fin o G prG),Option.bind_assoc]
  congr 1; funext p; exact fin_bind _ _ _ _ _
 ·rw [aop_bind (K:=fin o G K),aop_bind (K:=fin o G prG),Option.bind_assoc]
  congr 1; funext p; exact fin_bind _ _ _ _ _
theorem skipTo_bind (o:Oper) (G:Gds) (K:St->Gds->Option β):skipTo o G s K=(skipTo o G s prG).bind fun p=>K p.1 p.2:=by
 unfold skipTo
 repeat' (first | rfl | (rw [cond_bindN]; refine condN _ ?_) | split)
theorem aGuarded_bind (c:Cf) (G:Gds) (tg:Nat) (want:Bool) (o:Oper) (K:St->Gds->Option β):aGuarded P c G tg want o s K=(aGuarded P c G tg want o s prG).bind fun p=>K p.1 p.2:=by
 unfold aGuarded
 split
 ·split
  ·rw [cond_bind2]; exact cond2 _ (aStepD_bind _ _ _ _) (skipTo_bind _ _ _)
  ·rw [cond_bind2]; exact cond2 _ (skipTo_bind _ _ _) (aStepD_bind _ _ _ _)
 ·split
  ·exact skipTo_bind _ _ _
  ·rfl
theorem aOne_bind (c:Cf) (ops:Array Oper) (G:Gds) (o:Oper) (K:St->Gds->Option β):aOne P c ops G o s K=(aOne P c ops G o s prG).bind fun p=>K p.1 p.2:=by
 unfold aOne
 split
 ·exact aStepD_bind _ _ _ _
 ·split
  ·rw [cond_bindN]; exact condN _ (aGuarded_bind _ _ _ _ _ _)
  ·rfl
end
end
noncomputable section
open Go Go.RowKit
set_option linter.all false
inductive Kd where
 | pure | mem | wr | bad
 deriving DecidableEq
def kindOf (own:Bool):Op->Kd
 | .move _ | .assign _=>cond own .bad .pure
 | .pick .. | .binOp .. | .unOp .. | .extract .. | .field .. | .index .. | .fieldAddr .. | .indexAddr .. | .nilCheck _ | .makeFunc .. | .build .. | .slice .. | .sliceToArrayPointer ..=>.pure
 | .load ..=>.mem
 | .convert .. | .buildSlice ..=>cond own .bad .mem
 | .store .. | .alloc _ | .box .. | .makeSlice ..=>.wr
 | .call { callee:=.value _,.. } =>.mem
 | .call { callee:=.builtin .len,.. } | .call { callee:=.builtin .min,.. } | .call { callee:=.builtin .max,.. } =>.pure
 | _=>.bad
section
variable {P:Program} {s s2 s':St} {β:Type} {G G2:Gds} {av:AV}
structure Ag (lk:List Tmp) (G:Gds) (s:St) (G2:Gds) (s2:St):Prop where
 get:∀ t ∈ lk,s.get t=s2.get t
 gf:∀ t ∈ lk,∀ tg ∈ lk,∀ w,gfind G t tg w=gfind G2 t tg w
 sz:s.sz=s2.sz
 nx:s.nx=s2.nx
theorem looksAt_op {ops:Array Oper} {o:Oper} {t:Tmp} (h:.tmp t ∈ o.op.operands.toList):t ∈ o.looksAt ops:=by
 unfold Oper.looksAt
 rw [List.mem_append]
 exact .inl (List.mem_filterMap.2 ⟨.tmp t,h,rfl⟩)
theorem Ag.evt {lk:List Tmp} (h:Ag lk G s G2 s2) {t:Tmp} (ht:t ∈ lk):s.ev (.tmp t)=s2.ev (.tmp t):=by
 show cond (Nat.blt t s.sz) (s.get t) .junk=cond (Nat.blt t s2.sz) (s2.get t) .junk
 rw [h.sz,h.get t ht]
theorem Ag.ev {ops:Array Oper} {o:Oper} (h:Ag (o.looksAt ops) G s G2 s2) {x:Operand} (hx:x ∈ o.op.operands.toList):s.ev x=s2.ev x:=by
 cases x with
 | tmp t=>exact h.evt (looksAt_op hx)
 | _=>rfl
theorem lift_congr {f g:∀ {δ:Type},(AV->Option δ)->Option δ} (hf:∀ {δ:Type} (K:AV->Option δ),f K=(f some).bind K) (hfg:∀ {δ:Type} (K:AV->Option δ),f K=g K) (h:f (fun v=>prK v s)=some (av,s')) :
  s'=s /\ g (fun v=>prK v s2)=some (av,s2):=by
 rw [hf] at h
 obtain ⟨v,h1,h2⟩:=Option.bind_eq_some_iff.1 h
 simp [prK] at h2
 obtain ⟨rfl,rfl⟩:=h2
 refine ⟨rfl,?_⟩
 rw [<-hfg,hf,h1]; rfl
theorem plOf_congr {lk:List Tmp} (h:Ag lk G s G2 s2) {tc:Nat} (hc:tc ∈ lk) {want:Bool} {x:Operand} (hx:∀ t,x=.tmp t->t ∈ lk):plOf G s tc want x=plOf G2 s2 tc want x:=by
 cases x with
 | tmp t=>simp only [plOf,h.gf t (hx t rfl) tc hc,h.evt (hx t rfl)]
 | _=>rfl
theorem aPick_congr {lk:List Tmp} (h:Ag lk G s G2 s2) {c x y:Operand} (hc:∀ t,c=.tmp t->t ∈ lk) (hx:∀ t,x=.tmp t->t ∈ lk) (hy:∀ t,y=.tmp t->t ∈ lk) (K:AV->Option β):aPick G s c x y K=aPick G2 s2 c x y K:=by
 have e1:s.ev x=s2.ev x:=by
  cases x with
  | tmp t=>exact h.evt (hx t rfl)
  | _=>rfl
 have e2:s.ev y=s2.ev y:=by
  cases y with
  | tmp t=>exact h.evt (hy t rfl)
  | _=>rfl
 cases c with
 | tmp tc=>
  have hm:=hc tc rfl
  simp only [aPick,h.evt hm,plOf_congr h hm hx,plOf_congr h hm hy,e1,e2]
 | _=>rfl
theorem aop_pure {ops:Array Oper} {o:Oper} {own:Bool} (hk:kindOf own o.op=.pure) (h:Ag (o.looksAt ops) G s G2 s2) (hr:aop P own G o s prK=some (av,s')) :
  s'=s /\ aop P own G2 o s2 prK=some (av,s2):=by
 have ev:∀ x ∈ o.op.operands.toList,s.ev x=s2.ev x:=fun x hx=>h.ev hx
 have tm:∀ t,.tmp t ∈ o.op.operands.toList->t ∈ o.looksAt ops:=fun t ht=>looksAt_op ht
 unfold aop at hr ⊢
 cases hop:o.op with
 | move x=>
  rw [hop] at hk hr ev
  cases own
  ·simp only [Op.operands] at ev
   have e:=ev x (by simp)
   simp only [aMove,Bool.false_and,prK] at hr ⊢
   simp at hr; obtain ⟨rfl,rfl⟩:=hr
   exact ⟨rfl,by rw [e]⟩
  ·simp [kindOf] at hk
 | assign x=>
  rw [hop] at hk hr ev
  cases own
  ·simp only [Op.operands] at ev
   have e:=ev x (by simp)
   simp only [aMove,Bool.false_and,prK] at hr ⊢
   simp at hr; obtain ⟨rfl,rfl⟩:=hr
   exact ⟨rfl,by rw [e]⟩
  ·simp [kindOf] at hk
 | pick c x y=>
  rw [hop] at hr tm
  simp only [Op.operands] at tm
  exact lift_congr (f:=fun K=>aPick G s c x y K) (g:=fun K=>aPick G2 s2 c x y K) (fun K=>aPick_bind _ _ _ _ K)
   (fun K=>aPick_congr h (fun t e=>tm t (by simp [e])) (fun t e=>tm t (by simp [e])) (fun t e=>tm t (by simp [e])) K) hr
 | binOp op T x y yt=>
  rw [hop] at hr ev
  simp only [Op.operands] at ev
  exact lift_congr (f:=fun K=>aBinX P T op (s.ev x) (s.ev y) K) (g:=fun K=>aBinX P T op (s2.ev x) (s2.ev y) K) (fun K=>aBinX_bind _ _ _ _ K) (fun K=>by rw [ev x (by simp),ev y (by simp)]) hr
 | unOp op T x=>
  rw [hop] at hr ev
  simp only [Op.operands] at ev
  exact lift_congr (f:=fun K=>aUn op (s.ev x) K) (g:=fun K=>aUn op (s2.ev x) K) (fun K=>aUn_bind _ _ K) (fun K=>by rw [ev x (by simp)]) hr
 | extract x i=>
  rw [hop] at hr ev
  simp only [Op.operands] at ev
  exact lift_congr (f:=fun K=>aExtract (s.ev x) i K) (g:=fun K=>aExtract (s2.ev x) i K) (fun K=>aExtract_bind _ _ K) (fun K=>by rw [ev x (by simp)]) hr
 | field T x f=>
  rw [hop] at hr ev
  simp only [Op.operands] at ev
  exact lift_congr (f:=fun K=>aFieldV P T (s.ev x) f K) (g:=fun K=>aFieldV P T (s2.ev x) f K) (fun K=>aFieldV_bind _ _ _ K) (fun K=>by rw [ev x (by simp)]) hr
 | index T x i=>
  rw [hop] at hr ev
  simp only [Op.operands] at ev
  exact lift_congr (f:=fun K=>aIndexV1 P T (s.ev x) (s.ev i) K) (g:=fun K=>aIndexV1 P T (s2.ev x) (s2.ev i) K) (fun K=>aIndexV1_bind _ _ _ K) (fun K=>by rw [ev x (by simp),ev i (by simp)]) hr
 | fieldAddr T x f=>
  rw [hop] at hr ev
  simp only [Op.operands] at ev
  exact lift_congr (f:=fun K=>aField P T (s.ev x) f K) (g:=fun K=>aField P T (s2.ev x) f K) (fun K=>aField_bind _ _ _ K) (fun K=>by rw [ev x (by simp)]) hr
 | indexAddr T x i=>
  rw [hop] at hr ev
  simp only [Op.operands] at ev
  exact lift_congr (f:=fun K=>aIndexAddr P T (s.ev x) (s.ev i) K) (g:=fun K=>aIndexAddr P T (s2.ev x) (s2.ev i) K) (fun K=>aIndexAddr_bind _ _ _ K) (fun K=>by rw [ev x (by simp),ev i (by simp)]) hr
 | nilCheck x=>
  rw [hop] at hr ev
  simp only [Op.operands] at ev
  exact lift_congr (f:=fun K=>aNilCheck (s.ev x) K) (g:=fun K=>aNilCheck (s2.ev x) K) (fun K=>aNilCheck_bind _ K) (fun K=>by rw [ev x (by simp)]) hr
 | sliceToArrayPointer T x=>
  rw [hop] at hr ev
  simp only [Op.operands] at ev
  exact lift_congr (f:=fun K=>aArrAt P T (s.ev x) K) (g:=fun K=>aArrAt P T (s2.ev x) K) (fun K=>aArrAt_bind _ _ K) (fun K=>by rw [ev x (by simp)]) hr
 | makeFunc fn first cap=>
  rw [hop] at hr ev
  simp only [Op.operands] at ev
  have e1:first.toList.map s.ev=first.toList.map s2.ev:=List.map_congr_left fun x hx=>ev x (by simp at hx ⊢; exact .inl hx)
  have e2:cap.toList.map s.ev=cap.toList.map s2.ev:=List.map_congr_left fun x hx=>ev x (by simp at hx ⊢; exact .inr hx)
  exact lift_congr (f:=fun K=>aMkFunc fn (first.toList.map s.ev) (cap.toList.map s.ev) K) (g:=fun K=>aMkFunc fn (first.toList.map s2.ev) (cap.toList.map s2.ev) K) (fun K=>aMkFunc_bind _ _ _ K) (fun K=>by rw [e1,e2]) hr
 | build T ps=>
  rw [hop] at hr ev
  simp only [Op.operands] at ev
  have e1:evps s ps=evps s2 ps:=List.map_congr_left fun x hx=>by rw [ev x.2 (by simp at hx ⊢; exact ⟨x.1,hx⟩)]
  exact lift_congr (f:=fun K=>aBuild P T (evps s ps) K) (g:=fun K=>aBuild P T (evps s2 ps) K) (fun K=>aBuild_bind _ _ K) (fun K=>by rw [e1]) hr
 | slice T x lo hi mx=>
  rw [hop] at hr ev
  simp only [Op.operands] at ev
  have e0:=ev x (by simp)
  have e1:optEv s lo=optEv s2 lo:=by cases lo with
   | none=>rfl
   | some y=>simp only [optEv]; rw [ev y (by simp)]
  have e2:optEv s hi=optEv s2 hi:=by cases hi with
   | none=>rfl
   | some y=>simp only [optEv]; rw [ev y (by simp)]
  have e3:optEv s mx=optEv s2 mx:=by cases mx with
   | none=>rfl
   | some y=>simp only [optEv]; rw [ev y (by simp)]
  exact lift_congr (f:=fun K=>aSlice P T (s.ev x) (optEv s lo) (optEv s hi) (optEv s mx) K) (g:=fun K=>aSlice P T (s2.ev x) (optEv s2 lo) (optEv s2 hi) (optEv s2 mx) K) (fun K=>aSlice_bind _ _ _ _ _ K) (fun K=>by rw [e0,e1,e2,e3]) hr
 | call c=>
  rw [hop] at hk hr ev
  obtain ⟨callee,args,ats⟩:=c
  cases callee with
  | value f=>simp [kindOf] at hk
  | invoke r m=>simp [kindOf] at hk
  | builtin b=>
   simp only [Op.operands,Call.operands] at ev
   have e1:args.toList.map s.ev=args.toList.map s2.ev:=List.map_congr_left fun x hx=>ev x (by simpa using hx)
   simp only [e1] at hr ⊢
   cases b <;> simp only [kindOf,reduceCtorEq] at hk
   ·unfold aBuiltin at hr ⊢
    split at hr
    ·rename_i t tr x hts hb hxs
     exact lift_congr (f:=fun K=>aLen P t x K) (g:=fun K=>aLen P t x K) (fun K=>aLen_bind _ _ K) (fun K=>rfl) hr
    all_goals first | (rename_i hb; cases hb; done) | (rename_i hb _; cases hb; done) | (rename_i hb _ _; cases hb; done) | skip
    ·simp at hr
   ·unfold aBuiltin at hr ⊢
    exact lift_congr (f:=fun K=>foldMax (args.toList.map s2.ev) K) (g:=fun K=>foldMax (args.toList.map s2.ev) K) (fun K=>foldMax_bind _ K) (fun K=>rfl) hr
   ·unfold aBuiltin at hr ⊢
    exact lift_congr (f:=fun K=>foldMin (args.toList.map s2.ev) K) (g:=fun K=>foldMin (args.toList.map s2.ev) K) (fun K=>foldMin_bind _ K) (fun K=>rfl) hr
 | _=>rw [hop] at hk; simp [kindOf] at hk; try (cases own <;> simp at hk)
end
end
noncomputable section
open Go Go.RowKit
set_option linter.all false
def vat (s:St):Nat->Nat ⊕ Option Blk
 | 0=>.inl s.nx
 | i+1=>.inr (look s.hp i)
def newCell (s:St) (o:Oper):List Nat :=
 match o.dst with
 | some d=>[s.nx - 1 - d+1]
 | none=>[]
def foot (s:St) (o:Oper):List Nat :=
 match o.op with
 | .load _ x=>(s.ev x).refs.map (·+1)
 | .store _ x _=>(s.ev x).refs.map (·+1)
 | .alloc _ | .box .. | .makeSlice ..=>newCell s o
 | .convert _ _ x=>(s.ev x).refs.map (·+1)
 | .call { callee:=.value f,args,.. } =>((args.toList.map s.ev).flatMap AV.refs).map (·+1)
 | _=>[]
structure Ft (F:List Nat) (wr:Prop) (s s' s2 s2':St):Prop where
 tm:s'.tm=s.tm
 tm2:s2'.tm=s2.tm
 sz:s'.sz=s.sz
 sz2:s2'.sz=s2.sz
 nx:s'.nx=s.nx
 nx2:s2'.nx=s2.nx
 same:∀ c ∈ F,vat s' c=vat s2' c
 rest:∀ c,c ∉ F->vat s' c=vat s c
 rest2:∀ c,c ∉ F->vat s2' c=vat s2 c
 still:¬ wr->s'=s /\ s2'=s2
section
variable {P:Program} {s s2 s':St} {β:Type} {G G2:Gds} {av:AV}
theorem Ft.id {F:List Nat} {wr:Prop} (h:∀ c ∈ F,vat s c=vat s2 c):Ft F wr s s s2 s2:=⟨rfl,rfl,rfl,rfl,rfl,rfl,h,fun _ _=>rfl,fun _ _=>rfl,fun _=>⟨rfl,rfl⟩⟩
theorem vat_look {l:List Nat} (h:∀ c ∈ l.map (·+1),vat s c=vat s2 c) {i:Nat} (hi:i ∈ l):look s.hp i=look s2.hp i:=by
 have:=h (i+1) (List.mem_map.2 ⟨i,hi,rfl⟩)
 simpa [vat] using this
theorem aLoad_foot {T:TypeId} {x:AV} (h:∀ i ∈ x.refs,look s.hp i=look s2.hp i) (K:AV->Option β):aLoad P T s x K=aLoad P T s2 x K:=by
 unfold aLoad
 split
 ·rename_i id off ext
  rw [h id (by simp [AV.refs,CV.refs,SV.refs])]
 ·rfl
 ·rfl
 ·rfl
theorem bytesOf_foot {T:TypeId} {x:AV} (h:∀ i ∈ x.refs,look s.hp i=look s2.hp i):bytesOf P T s x=bytesOf P T s2 x:=by
 rw [<-fixNil_refs (P:=P) (T:=T)] at h
 unfold bytesOf
 generalize fixNil P T x=y at h
 split <;> first | rfl | (rw [h _ (by simp [AV.refs,CV.refs,SV.refs])])
theorem viewArg_foot {x:AV} (h:∀ i ∈ x.refs,look s.hp i=look s2.hp i):viewArg s x=viewArg s2 x:=by
 unfold viewArg
 split <;> first | rfl | (rw [h _ (by simp [AV.refs,CV.refs,SV.refs])])
theorem viewAll_foot {l:List AV} (h:∀ i ∈ l.flatMap AV.refs,look s.hp i=look s2.hp i):viewAll s l=viewAll s2 l:=by
 induction l with
 | nil=>rfl
 | cons x r ih=>
  simp only [viewAll]
  rw [viewArg_foot fun i hi=>h i (by simp [hi]),ih fun i hi=>h i (List.mem_flatMap.2 (by obtain ⟨y,h1,h2⟩:=List.mem_flatMap.1 hi; exact ⟨y,by simp [h1],h2⟩))]
theorem aCall_foot {Γ:FuncId->Option Summ} {E:Efs} (hE:E=noE) {f:AV} {args:List AV} {ts:List TypeId} (h:∀ i ∈ args.flatMap AV.refs,look s.hp i=look s2.hp i) :
  aCall P Γ E f args ts s prK=some (av,s')->s'=s /\ aCall P Γ E f args ts s2 prK=some (av,s2):=by
 subst hE
 intro hr
 unfold aCall at hr ⊢
 split at hr
 ·rename_i g first cap
  simp only [noE] at hr ⊢
  unfold aCallΓ at hr ⊢
  have e:viewAll s (ofPls first++(fixArgs P args ts++ofPls cap))=viewAll s2 (ofPls first++(fixArgs P args ts++ofPls cap)):=by
   refine viewAll_foot fun i hi=>h i ?_
   simp only [List.flatMap_append,ofPls_refs,List.nil_append,List.append_nil] at hi
   exact fixArgs_refs i hi
  simp only [e] at hr
  split at hr
  ·rename_i A ys hA hys
   obtain ⟨h1,h2⟩:=ctrue hr
   rw [h1]
   obtain ⟨t,k0,k1⟩:=Option.bind_eq_some_iff.1 h2
   simp [prK] at k1
   obtain ⟨rfl,rfl⟩:=k1
   simp [k0,prK]
  ·rename_i A ys hA hys
   obtain ⟨h1,h2⟩:=ctrue hr
   rw [h1]
   obtain ⟨t,k0,k1⟩:=Option.bind_eq_some_iff.1 h2
   obtain ⟨k2,k3⟩:=ctrue k1
   simp [prK] at k3
   obtain ⟨rfl,rfl⟩:=k3
   simp [k0,k2,prK]
  ·simp at hr
 ·simp [noE] at hr
 ·rename_i g cs
  unfold aCallR at hr ⊢
  have e:viewAll s (args++cs.map rcapAV)=viewAll s2 (args++cs.map rcapAV):=by
   refine viewAll_foot fun i hi=>h i ?_
   have hz:(cs.map rcapAV).flatMap AV.refs=[]:=by
    rw [List.flatMap_eq_nil_iff]
    intro x hx
    obtain ⟨c,_,rfl⟩:=List.mem_map.1 hx
    rfl
   simpa only [List.flatMap_append,hz,List.append_nil] using hi
  simp only [e] at hr
  split at hr
  ·rename_i A ys hA hys
   obtain ⟨t,k0,k1⟩:=Option.bind_eq_some_iff.1 hr
   simp [prK] at k1
   obtain ⟨rfl,rfl⟩:=k1
   simp [k0,prK,hA,hys]
  ·rename_i A ys hA hys
   obtain ⟨t,k0,k1⟩:=Option.bind_eq_some_iff.1 hr
   obtain ⟨k2,k3⟩:=ctrue k1
   simp [prK] at k3
   obtain ⟨rfl,rfl⟩:=k3
   simp [k0,k2,prK,hA,hys]
  ·simp at hr
 ·simp at hr
theorem aStore_form {T:TypeId} {x v:AV} (hr:aStore P T s x v some=some s') :
  ∃ id b,x.refs=[id] /\ s'={ s with hp:=upd id b s.hp } /\ ∀ s2:St,look s.hp id=look s2.hp id->aStore P T s2 x v some=some { s2 with hp:=upd id b s2.hp }:=by
 unfold aStore at hr
 simp only [St.setBlk_eq] at hr
 split at hr
 ·rename_i id off ext
  refine ⟨id,?_⟩
  split at hr
  ·rename_i b hb hk hm
   split at hr
   ·rename_i sv hsv
    obtain ⟨h1,h2⟩:=ctrue hr
    split at h2
    ·rename_i rr hrr
     split at h2
     ·rename_i r' hr'
      simp at h2
      refine ⟨_,rfl,h2.symm,fun s2 e=>?_⟩
      unfold aStore; simp only [St.setBlk_eq]
      simp only [<-e,hb,hk,hm,hsv,hrr,hr',h1,cond_true]
     ·simp at h2
    ·rename_i l hl
     simp at h2
     refine ⟨_,rfl,h2.symm,fun s2 e=>?_⟩
     unfold aStore; simp only [St.setBlk_eq]
     simp only [<-e,hb,hk,hm,hsv,hl,h1,cond_true]
   ·simp at hr
  ·rename_i b hb hk hm
   split at hr
   ·rename_i u n
    obtain ⟨h1,h2⟩:=ctrue hr
    split at h2
    ·rename_i rr hrr
     split at h2
     ·rename_i r' hr'
      simp at h2
      refine ⟨_,rfl,h2.symm,fun s2 e=>?_⟩
      unfold aStore; simp only [St.setBlk_eq]
      simp only [<-e,hb,hk,hm,hrr,hr',h1,cond_true]
     ·simp at h2
    ·rename_i l hl
     simp at h2
     refine ⟨_,rfl,h2.symm,fun s2 e=>?_⟩
     unfold aStore; simp only [St.setBlk_eq]
     simp only [<-e,hb,hk,hm,hl,h1,cond_true]
   ·rename_i u
    obtain ⟨h1,h2⟩:=ctrue hr
    split at h2
    ·simp at h2
    ·rename_i l hl
     simp at h2
     refine ⟨_,rfl,h2.symm,fun s2 e=>?_⟩
     unfold aStore; simp only [St.setBlk_eq]
     simp only [<-e,hb,hk,hm,hl,h1,cond_true]
   ·simp at hr
  ·simp at hr
 ·simp at hr
theorem Ft.store {id:Nat} {b:Blk} (h:look s.hp id=look s2.hp id):Ft [id+1] True s { s with hp:=upd id b s.hp } s2 { s2 with hp:=upd id b s2.hp }:=by
 refine ⟨rfl,rfl,rfl,rfl,rfl,rfl,?_,?_,?_,fun h=>(h trivial).elim⟩
 ·intro c hc
  simp at hc; subst hc
  simp [vat,look_upd]
 ·intro c hc
  cases c with
  | zero=>rfl
  | succ i=>
   simp at hc
   simp [vat,look_upd,hc]
 ·intro c hc
  cases c with
  | zero=>rfl
  | succ i=>
   simp at hc
   simp [vat,look_upd,hc]
theorem Ft.new {k:Nat} {b:Blk}:Ft [k+1] True s { s with hp:=(k,b) :: s.hp } s2 { s2 with hp:=(k,b) :: s2.hp }:=by
 refine ⟨rfl,rfl,rfl,rfl,rfl,rfl,?_,?_,?_,fun h=>(h trivial).elim⟩
 ·intro c hc
  simp at hc; subst hc
  simp [vat,look_nil,look_cons]
 ·intro c hc
  cases c with
  | zero=>rfl
  | succ i=>
   simp at hc
   have:Nat.beq k i=false:=beqF fun e=>hc e.symm
   simp [vat,look_nil,look_cons,this]
 ·intro c hc
  cases c with
  | zero=>rfl
  | succ i=>
   simp at hc
   have:Nat.beq k i=false:=beqF fun e=>hc e.symm
   simp [vat,look_nil,look_cons,this]
theorem Ft.mono {F:List Nat} {s' s2':St} (h:Ft F True s s' s2 s2') (wr:Prop) (hw:wr):Ft F wr s s' s2 s2':=⟨h.tm,h.tm2,h.sz,h.sz2,h.nx,h.nx2,h.same,h.rest,h.rest2,fun e=>(e hw).elim⟩
theorem aNewAt_foot {k:Nat} {T:TypeId} {x:AV} (hr:aNewAt k s.nx T s x prK=some (av,s')):∃ s2',aNewAt k s2.nx T s2 x prK=some (av,s2') /\ Ft [k+1] True s s' s2 s2':=by
 unfold aNewAt at hr ⊢
 split at hr
 ·simp [prK] at hr
  obtain ⟨rfl,rfl⟩:=hr
  refine ⟨_,?_,Ft.new⟩
  simp [prK]
 ·simp at hr
theorem aAllocAt_foot {k:Nat} {T:TypeId} (hr:aAllocAt P k s.nx T s prK=some (av,s')):∃ s2',aAllocAt P k s2.nx T s2 prK=some (av,s2') /\ Ft [k+1] True s s' s2 s2':=by
 unfold aAllocAt at hr ⊢
 split at hr
 ·split at hr
  ·exact aNewAt_foot hr
  ·simp at hr
 ·simp at hr
theorem aMakeAt_foot {k:Nat} {T:TypeId} {l c:AV} (hr:aMakeAt P k s.nx T l c s prK=some (av,s')):∃ s2',aMakeAt P k s2.nx T l c s2 prK=some (av,s2') /\ Ft [k+1] True s s' s2 s2':=by
 unfold aMakeAt at hr ⊢
 split at hr
 ·split at hr
  ·split at hr
   ·split at hr
    ·obtain ⟨h1,h2⟩:=ctrue hr
     obtain ⟨h3,h4⟩:=ctrue h2
     split at h4
     ·rename_i tr htr
      simp [prK] at h4
      obtain ⟨rfl,rfl⟩:=h4
      rw [h1,cond_true,h3,cond_true]
      exact ⟨_,rfl,Ft.new⟩
     ·simp at h4
    ·simp at hr
   ·simp at hr
  ·simp at hr
 ·simp at hr
theorem newId_foot {o:Oper} {k:Nat} (hn:s.nx=s2.nx) (hF:∀ c ∈ newCell s o,vat s c=vat s2 c) (h:newId s o=some k):newId s2 o=some k /\ newCell s o=[k+1]:=by
 unfold newId newCell at *
 split at h
 ·rename_i d hd
  simp only [hd] at hF ⊢
  have e:=hF (s.nx - 1 - d+1) (by simp)
  simp only [vat,Sum.inr.injEq] at e
  obtain ⟨h1,h2⟩:=ctrue h
  rw [<-hn,h1,<-e]
  split at h2
  ·rename_i hl
   simp only [Option.some.injEq] at h2
   subst h2
   simp
  ·simp at h2
 ·simp at h
theorem aConvB_foot {src dst:TypeId} {x:AV} (h:∀ i ∈ x.refs,look s.hp i=look s2.hp i) (hr:aConvB P false src dst x s prK=some (av,s')):s'=s /\ aConvB P false src dst x s2 prK=some (av,s2):=by
 unfold aConvB at hr ⊢
 split at hr
 ·split at hr
  ·rw [bytesOf_foot h] at hr
   split at hr
   ·simp [prK] at hr
    obtain ⟨rfl,rfl⟩:=hr
    exact ⟨rfl,rfl⟩
   ·simp at hr
  ·simp at hr
 ·split at hr
  ·obtain ⟨h1,hr⟩:=ctrue hr
   rw [h1]
   simp [prK] at hr
   obtain ⟨rfl,rfl⟩:=hr
   exact ⟨rfl,rfl⟩
  ·simp at hr
 ·exact lift_congr (f:=fun K=>aConv P src dst x K) (g:=fun K=>aConv P src dst x K) (fun K=>aConv_bind _ _ _ K) (fun K=>rfl) hr
theorem aBuildSlice_foot {T:TypeId} {len:Nat} {ps:List (Nat × AV)} (hr:aBuildSlice P false T len ps s prK=some (av,s')):s'=s /\ aBuildSlice P false T len ps s2 prK=some (av,s2):=by
 unfold aBuildSlice at hr ⊢
 split at hr
 ·split at hr
  ·split at hr
   ·obtain ⟨h1,hr⟩:=ctrue hr
    rw [h1]
    split at hr
    ·split at hr
     ·obtain ⟨h2,hr⟩:=ctrue hr
      simp only [h2,cond_true]
      split at hr
      ·simp_all
      ·simp [prK] at hr
       obtain ⟨rfl,rfl⟩:=hr
       exact ⟨rfl,by simp [*,prK]⟩
      ·obtain ⟨h3,hr⟩:=ctrue hr
       simp [prK] at hr
       obtain ⟨rfl,rfl⟩:=hr
       exact ⟨rfl,by simp [*,prK]⟩
     ·simp at hr
    ·simp at hr
   ·simp at hr
  ·simp at hr
 ·simp at hr
theorem aop_foot {ops:Array Oper} {o:Oper} {own:Bool} (hk:kindOf own o.op ≠ .bad) (hnc:∀ f a t,o.op ≠ .call { callee:=.value f,args:=a,argTypes:=t }) (hna:∀ T,o.op ≠ .alloc T) (hnb:∀ T x,o.op ≠ .box T x) (hnm:∀ T x y,o.op ≠ .makeSlice T x y) (h:Ag (o.looksAt ops) G s G2 s2) (hF:∀ c ∈ foot s o,vat s c=vat s2 c) (hr:aop P own G o s prK=some (av,s')) :
  ∃ s2',aop P own G2 o s2 prK=some (av,s2') /\ Ft (foot s o) (kindOf own o.op=.wr) s s' s2 s2':=by
 have still:s'=s /\ aop P own G2 o s2 prK=some (av,s2)->∃ s2',aop P own G2 o s2 prK=some (av,s2') /\ Ft (foot s o) (kindOf own o.op=.wr) s s' s2 s2':=by
  rintro ⟨rfl,e⟩
  exact ⟨s2,e,Ft.id hF⟩
 have ev:∀ x ∈ o.op.operands.toList,s.ev x=s2.ev x:=fun x hx=>h.ev hx
 cases hp:kindOf own o.op with
 | bad=>exact absurd hp hk
 | pure=>exact hp ▸ still (aop_pure hp h hr)
 | mem=>
  rw [<-hp]
  apply still
  unfold aop at hr ⊢
  cases hop:o.op with
  | load T x=>
   rw [hop] at hr ev
   simp only [foot,hop] at hF
   simp only [Op.operands] at ev
   have e:=ev x (by simp)
   exact lift_congr (f:=fun K=>aLoad P T s (s.ev x) K) (g:=fun K=>aLoad P T s2 (s2.ev x) K) (fun K=>aLoad_bind _ _ K) (fun K=>by rw [<-e]; exact aLoad_foot (fun i hi=>vat_look hF hi) K) hr
  | convert src dst x=>
   rw [hop] at hr ev hp
   simp only [foot,hop] at hF
   simp only [Op.operands] at ev
   have e:=ev x (by simp)
   cases own
   ·simp only [<-e]
    exact aConvB_foot (fun i hi=>vat_look hF hi) hr
   ·simp [kindOf] at hp
  | buildSlice T len ps=>
   rw [hop] at hr ev hp
   simp only [Op.operands] at ev
   have e1:evps s ps=evps s2 ps:=List.map_congr_left fun x hx=>by rw [ev x.2 (by simp at hx ⊢; exact ⟨x.1,hx⟩)]
   cases own
   ·simp only [<-e1]
    exact aBuildSlice_foot hr
   ·simp [kindOf] at hp
  | call c=>
   obtain ⟨callee,args,ats⟩:=c
   cases callee with
   | value f=>exact absurd hop (hnc _ _ _)
   | invoke r m=>rw [hop] at hp; simp [kindOf] at hp
   | builtin b=>rw [hop] at hp; cases b <;> simp [kindOf] at hp
  | move x=>rw [hop] at hp; cases own <;> simp [kindOf] at hp
  | assign x=>rw [hop] at hp; cases own <;> simp [kindOf] at hp
  | _=>rw [hop] at hp; simp [kindOf] at hp
 | wr=>
  unfold aop at hr ⊢
  cases hop:o.op with
  | store T x v=>
   rw [hop] at hr ev
   simp only [foot,hop] at hF
   simp only [Op.operands] at ev
   have e:=ev x (by simp)
   have e2:=ev v (by simp)
   simp only [<-e,<-e2]
   simp only [] at hr
   rw [aStore_bind (K:=fun s'=>prK AV.junk s')] at hr
   obtain ⟨s1,h1,h2⟩:=Option.bind_eq_some_iff.1 hr
   simp [prK] at h2
   obtain ⟨rfl,rfl⟩:=h2
   obtain ⟨id,b,q1,q2,q3⟩:=aStore_form h1
   have hl:look s.hp id=look s2.hp id:=vat_look hF (by rw [q1]; simp)
   refine ⟨{ s2 with hp:=upd id b s2.hp },?_,?_⟩
   ·rw [aStore_bind (K:=fun s'=>prK AV.junk s'),q3 s2 hl]; rfl
   ·simp only [foot,hop,q1,q2]
    exact (Ft.store hl).mono _ trivial
  | alloc T=>exact absurd hop (hna T)
  | box T x=>exact absurd hop (hnb T x)
  | makeSlice T x y=>exact absurd hop (hnm T x y)
  | call c=>
   obtain ⟨callee,args,ats⟩:=c
   cases callee with
   | value f=>rw [hop] at hp; simp [kindOf] at hp
   | invoke r m=>rw [hop] at hp; simp [kindOf] at hp
   | builtin b=>rw [hop] at hp; cases b <;> simp [kindOf] at hp
  | move x=>rw [hop] at hp; cases own <;> simp [kindOf] at hp
  | assign x=>rw [hop] at hp; cases own <;> simp [kindOf] at hp
  | convert src dst x=>rw [hop] at hp; cases own <;> simp [kindOf] at hp
  | buildSlice T len ps=>rw [hop] at hp; cases own <;> simp [kindOf] at hp
  | _=>rw [hop] at hp; simp [kindOf] at hp
end
end
noncomputable section
open Go Go.RowKit
set_option linter.all false
structure Eff (o:Oper) (F:List Nat) (wr:Prop) (gt:Option Nat) (s:St) (G:Gds) (s':St) (G':Gds):Prop where
 sz:s'.sz=s.sz
 nx:s'.nx=s.nx
 get:∀ t,o.dst ≠ some t->s'.get t=s.get t
 rest:∀ c,c ∉ F->vat s' c=vat s c
 still:¬ wr->∀ c,vat s' c=vat s c
 g1:∀ t tg w,o.dst ≠ some t->o.dst ≠ some tg->gfind G' t tg w=gfind G t tg w
 g2:∀ t tg w,o.dst=some tg->gfind G' t tg w=none
 g3:∀ d tg w p,o.dst=some d->gfind G' d tg w=some p->gt=some tg
structure Same (o:Oper) (F:List Nat) (s':St) (G':Gds) (s2':St) (G2':Gds):Prop where
 get:∀ d,o.dst=some d->s'.get d=s2'.get d
 gf:∀ d tg w,o.dst=some d->gfind G' d tg w=gfind G2' d tg w
 vt:∀ c ∈ F,vat s' c=vat s2' c
structure Cong (o:Oper) (F:List Nat) (wr:Prop) (gt:Option Nat) (s:St) (G:Gds) (s':St) (G':Gds) (s2:St) (G2:Gds) (s2':St) (G2':Gds):Prop where
 e1:Eff o F wr gt s G s' G'
 e2:Eff o F wr gt s2 G2 s2' G2'
 sm:Same o F s' G' s2' G2'
section
variable {P:Program} {s s2 s':St} {β:Type} {G G2 G':Gds} {av:AV} {ops:Array Oper} {o:Oper}
theorem gfind_gdrop (d:Nat) (G:Gds) (t tg:Nat) (w:Bool):gfind (gdrop d G) t tg w=if t=d ∨ tg=d then none else gfind G t tg w:=by
 induction G with
 | nil=>simp [gdrop,gfind]
 | cons q r ih=>
  obtain ⟨e,u,w',p⟩:=q
  simp only [gdrop]
  cases hb:(Nat.beq e d || Nat.beq u d)
  ·simp only [Bool.or_eq_false_iff] at hb
   have h1:e ≠ d:=fun h=>by subst h; simp at hb
   have h2:u ≠ d:=fun h=>by subst h; simp at hb
   simp only [cond_false,gfind]
   cases hc:(Nat.beq e t && Nat.beq u tg && (w' == w))
   ·simp only [cond_false,ih]
   ·simp only [Bool.and_eq_true] at hc
    have e1:e=t:=Nat.eq_of_beq_eq_true hc.1.1
    have e2:u=tg:=Nat.eq_of_beq_eq_true hc.1.2
    subst e1; subst e2
    simp [h1,h2]
  ·simp only [cond_true,ih,gfind]
   split
   ·rfl
   ·rename_i hn
    have:(Nat.beq e t && Nat.beq u tg && (w' == w))=false:=by
     cases hc:(Nat.beq e t && Nat.beq u tg && (w' == w))
     ·rfl
     ·simp only [Bool.and_eq_true] at hc
      have e1:e=t:=Nat.eq_of_beq_eq_true hc.1.1
      have e2:u=tg:=Nat.eq_of_beq_eq_true hc.1.2
      subst e1; subst e2
      simp only [Bool.or_eq_true] at hb
      rcases hb with hb | hb
      ·exact absurd (.inl (Nat.eq_of_beq_eq_true hb)) hn
      ·exact absurd (.inr (Nat.eq_of_beq_eq_true hb)) hn
    rw [this]; rfl
theorem get_put (s:St) (d:Nat) (v:AV) (t:Nat):(s.put d v).get t=if t=d then v else s.get t:=by
 by_cases e:t=d
 ·subst e; simp [St.get,St.put_eq,look_ins]
 ·simp [St.get,St.put_eq,look_ins,e]
theorem vat_put (s:St) (d:Nat) (v:AV) (c:Nat):vat (s.put d v) c=vat s c:=by cases c <;> rfl
theorem get_tm {s s':St} (h:s'.tm=s.tm) (t:Nat):s'.get t=s.get t:=by simp [St.get,h]
theorem ev_put_self {tg:Nat} {x:AV} (h:s.get tg=x):(s.put tg x).ev=s.ev:=by
 funext y
 cases y with
 | tmp t=>
  show cond (Nat.blt t s.sz) ((s.put tg x).get t) .junk=cond (Nat.blt t s.sz) (s.get t) .junk
  have:(s.put tg x).get t=s.get t:=by
   rw [get_put]; split
   ·rename_i e; subst e; exact h.symm
   ·rfl
  rw [this]
 | _=>rfl
theorem foot_put_self {tg:Nat} {x:AV} (h:s.get tg=x) (o:Oper):foot (s.put tg x) o=foot s o:=by
 unfold foot; rw [ev_put_self h]; rfl
theorem Eff.base {F:List Nat} {wr:Prop} {gt:Option Nat} {s0:St} (h:Eff o F wr gt s G s' G') (hg:∀ t,s.get t=s0.get t) (hv:∀ c,vat s c=vat s0 c) (hz:s.sz=s0.sz) (hn:s.nx=s0.nx):Eff o F wr gt s0 G s' G' :=
 ⟨h.sz.trans hz,h.nx.trans hn,fun t ht=>(h.get t ht).trans (hg t),fun c hc=>(h.rest c hc).trans (hv c),fun hw c=>(h.still hw c).trans (hv c),h.g1,h.g2,h.g3⟩
theorem Eff.put_self {F:List Nat} {wr:Prop} {gt:Option Nat} {tg:Nat} {x:AV} (h:Eff o F wr gt (s.put tg x) G s' G') (hx:s.get tg=x):Eff o F wr gt s G s' G' :=
 h.base (fun t=>by rw [get_put]; split <;> simp_all) (fun c=>vat_put s tg x c) rfl rfl
theorem fin_cong {F:List Nat} {wr:Prop} {gt:Option Nat} {s1 s1':St} {u:Gds} (hF:Ft F wr s s1 s2 s1') (hsz:s.sz=s2.sz) (h:fin o G prG av s1=some (s',G')) :
  ∃ s2' G2',fin o G2 prG av s1'=some (s2',G2') /\ Cong o F wr gt s G s' G' s2 G2 s2' G2':=by
 unfold fin at h ⊢
 split at h
 ·rename_i d hd
  obtain ⟨h1,h2⟩:=ctrue h
  simp [prG] at h2
  obtain ⟨rfl,rfl⟩:=h2
  have hz:s1'.sz=s1.sz:=by rw [hF.sz2,hF.sz,hsz]
  refine ⟨s1'.put d av,gdrop d G2,by rw [hz,h1]; rfl,⟨hF.sz,hF.nx,?_,?_,?_,?_,?_,?_⟩,⟨hF.sz2,hF.nx2,?_,?_,?_,?_,?_,?_⟩,⟨?_,?_,?_⟩⟩
  ·intro t ht
   rw [get_put,if_neg (fun e=>ht (by rw [hd,e]))]; exact get_tm hF.tm t
  ·intro c hc; rw [vat_put]; exact hF.rest c hc
  ·intro hw c; rw [vat_put,(hF.still hw).1]
  ·intro t tg w ht hg
   rw [gfind_gdrop,if_neg]
   rintro (e | e)
   ·exact ht (by rw [hd,e])
   ·exact hg (by rw [hd,e])
  ·intro t tg w hg
   rw [hd] at hg; cases hg
   rw [gfind_gdrop]; simp
  ·intro e tg w p he hg
   rw [hd] at he; cases he
   rw [gfind_gdrop] at hg; simp at hg
  ·intro t ht
   rw [get_put,if_neg (fun e=>ht (by rw [hd,e]))]; exact get_tm hF.tm2 t
  ·intro c hc; rw [vat_put]; exact hF.rest2 c hc
  ·intro hw c; rw [vat_put,(hF.still hw).2]
  ·intro t tg w ht hg
   rw [gfind_gdrop,if_neg]
   rintro (e | e)
   ·exact ht (by rw [hd,e])
   ·exact hg (by rw [hd,e])
  ·intro t tg w hg
   rw [hd] at hg; cases hg
   rw [gfind_gdrop]; simp
  ·intro e tg w p he hg
   rw [hd] at he; cases he
   rw [gfind_gdrop] at hg; simp at hg
  ·intro e he
   rw [hd] at he; cases he
   rw [get_put,get_put,if_pos rfl,if_pos rfl]
  ·intro e tg w he
   rw [hd] at he; cases he
   rw [gfind_gdrop,gfind_gdrop]; simp
  ·intro c hc; rw [vat_put,vat_put]; exact hF.same c hc
 ·rename_i hd
  simp [prG] at h
  obtain ⟨rfl,rfl⟩:=h
  refine ⟨s1',G2,rfl,⟨hF.sz,hF.nx,fun t _=>get_tm hF.tm t,hF.rest,fun hw c=>by rw [(hF.still hw).1],fun _ _ _ _ _=>rfl,?_,?_⟩,⟨hF.sz2,hF.nx2,fun t _=>get_tm hF.tm2 t,hF.rest2,fun hw c=>by rw [(hF.still hw).2],fun _ _ _ _ _=>rfl,?_,?_⟩,⟨?_,?_,hF.same⟩⟩
  all_goals intros; rename_i q; rw [hd] at *; first | contradiction | simp_all
def wrK (c:Cf) (o:Oper):Prop:=kindOf (ownDst c o) o.op=.wr
theorem aStepD_cong {c:Cf} (hE:c.E=noE) {gt:Option Nat} (hk:kindOf (ownDst c o) o.op ≠ .bad) (h:Ag (o.looksAt ops) G s G2 s2) (hF:∀ c ∈ foot s o,vat s c=vat s2 c) (hr:aStepD P c G o s prG=some (s',G')) :
  ∃ s2' G2',aStepD P c G2 o s2 prG=some (s2',G2') /\ Cong o (foot s o) (wrK c o) gt s G s' G' s2 G2 s2' G2':=by
 unfold aStepD at hr ⊢
 cases hop:o.op with
 | call cl=>
  obtain ⟨callee,args,ats⟩:=cl
  cases callee with
  | value f=>
   rw [hop] at hr
   have hF':=hF
   simp only [foot,hop] at hF'
   simp only [] at hr ⊢
   rw [aCall_bind (K:=fin o G prG)] at hr
   obtain ⟨⟨av,s1⟩,h1,h2⟩:=Option.bind_eq_some_iff.1 hr
   have ev:∀ x ∈ o.op.operands.toList,s.ev x=s2.ev x:=fun x hx=>h.ev hx
   rw [hop] at ev
   simp only [Op.operands,Call.operands] at ev
   have ef:s.ev f=s2.ev f:=ev f (by simp)
   have ea:args.toList.map s.ev=args.toList.map s2.ev:=List.map_congr_left fun x hx=>ev x (by simp at hx ⊢; exact .inr hx)
   obtain ⟨rfl,q⟩:=aCall_foot hE (fun i hi=>vat_look hF' hi) h1
   obtain ⟨s2',G2',q1,q2⟩:=fin_cong (gt:=gt) (wr:=wrK c o) (u:=G) (G2:=G2) (Ft.id hF) h.sz h2
   refine ⟨s2',G2',?_,q2⟩
   rw [aCall_bind (K:=fin o G2 prG),<-ef,<-ea,q]
   exact q1
  | builtin b=>
   rw [hop] at hr
   simp only [] at hr ⊢
   rw [aop_bind (K:=fin o G prG)] at hr
   obtain ⟨⟨av,s1⟩,h1,h2⟩:=Option.bind_eq_some_iff.1 hr
   obtain ⟨s1',q1,q2⟩:=aop_foot hk (fun f a t=>by rw [hop]; simp) (fun T=>by rw [hop]; simp) (fun T x=>by rw [hop]; simp) (fun T x y=>by rw [hop]; simp) h hF h1
   obtain ⟨s2',G2',q3,q4⟩:=fin_cong (gt:=gt) (u:=G) (G2:=G2) q2 h.sz h2
   rw [hop] at q4
   refine ⟨s2',G2',?_,?_⟩
   ·rw [aop_bind (K:=fin o G2 prG),q1]; exact q3
   ·simp only [wrK,hop]; exact q4
  | invoke r m=>rw [hop] at hk; simp [kindOf] at hk
 | alloc T=>
  rw [hop] at hr
  simp only [] at hr ⊢
  obtain ⟨k,hk1,hr⟩:=Option.bind_eq_some_iff.1 hr
  have hF':=hF
  simp only [foot,hop] at hF'
  obtain ⟨n1,n2⟩:=newId_foot h.nx hF' hk1
  rw [aAllocAt_bind (K:=fin o G prG)] at hr
  obtain ⟨⟨av,s1⟩,h1,h2⟩:=Option.bind_eq_some_iff.1 hr
  obtain ⟨s1',q1,q2⟩:=aAllocAt_foot (s2:=s2) h1
  have q2':Ft (foot s o) (wrK c o) s s1 s2 s1':=by
   simp only [foot,hop,n2]; exact q2.mono _ (by simp [wrK,hop,kindOf])
  obtain ⟨s2',G2',q3,q4⟩:=fin_cong (gt:=gt) (u:=G) (G2:=G2) q2' h.sz h2
  refine ⟨s2',G2',?_,q4⟩
  rw [n1,Option.bind_some,aAllocAt_bind (K:=fin o G2 prG),q1]; exact q3
 | box T x=>
  rw [hop] at hr
  simp only [] at hr ⊢
  obtain ⟨k,hk1,hr⟩:=Option.bind_eq_some_iff.1 hr
  have hF':=hF
  simp only [foot,hop] at hF'
  obtain ⟨n1,n2⟩:=newId_foot h.nx hF' hk1
  have ev:s.ev x=s2.ev x:=h.ev (by rw [hop]; simp [Op.operands])
  rw [aNewAt_bind (K:=fin o G prG)] at hr
  obtain ⟨⟨av,s1⟩,h1,h2⟩:=Option.bind_eq_some_iff.1 hr
  obtain ⟨s1',q1,q2⟩:=aNewAt_foot (s2:=s2) h1
  have q2':Ft (foot s o) (wrK c o) s s1 s2 s1':=by
   simp only [foot,hop,n2]; exact q2.mono _ (by simp [wrK,hop,kindOf])
  obtain ⟨s2',G2',q3,q4⟩:=fin_cong (gt:=gt) (u:=G) (G2:=G2) q2' h.sz h2
  refine ⟨s2',G2',?_,q4⟩
  rw [n1,Option.bind_some,<-ev,aNewAt_bind (K:=fin o G2 prG),q1]; exact q3
 | makeSlice T x y=>
  rw [hop] at hr
  simp only [] at hr ⊢
  obtain ⟨k,hk1,hr⟩:=Option.bind_eq_some_iff.1 hr
  have hF':=hF
  simp only [foot,hop] at hF'
  obtain ⟨n1,n2⟩:=newId_foot h.nx hF' hk1
  have ev:s.ev x=s2.ev x:=h.ev (by rw [hop]; simp [Op.operands])
  have ev':s.ev y=s2.ev y:=h.ev (by rw [hop]; simp [Op.operands])
  rw [aMakeAt_bind (K:=fin o G prG)] at hr
  obtain ⟨⟨av,s1⟩,h1,h2⟩:=Option.bind_eq_some_iff.1 hr
  obtain ⟨s1',q1,q2⟩:=aMakeAt_foot (s2:=s2) h1
  have q2':Ft (foot s o) (wrK c o) s s1 s2 s1':=by
   simp only [foot,hop,n2]; exact q2.mono _ (by simp [wrK,hop,kindOf])
  obtain ⟨s2',G2',q3,q4⟩:=fin_cong (gt:=gt) (u:=G) (G2:=G2) q2' h.sz h2
  refine ⟨s2',G2',?_,q4⟩
  rw [n1,Option.bind_some,<-ev,<-ev',aMakeAt_bind (K:=fin o G2 prG),q1]; exact q3
 | _=>
  rw [hop] at hr
  simp only [] at hr ⊢
  rw [aop_bind (K:=fin o G prG)] at hr
  obtain ⟨⟨av,s1⟩,h1,h2⟩:=Option.bind_eq_some_iff.1 hr
  obtain ⟨s1',q1,q2⟩:=aop_foot hk (fun f a t=>by rw [hop]; simp) (fun T=>by rw [hop]; simp) (fun T x=>by rw [hop]; simp) (fun T x y=>by rw [hop]; simp) h hF h1
  obtain ⟨s2',G2',q3,q4⟩:=fin_cong (gt:=gt) (u:=G) (G2:=G2) q2 h.sz h2
  rw [hop] at q4
  refine ⟨s2',G2',?_,?_⟩
  ·rw [aop_bind (K:=fin o G2 prG),q1]; exact q3
  ·simp only [wrK,hop]; exact q4
end
end
end Go.Eng
