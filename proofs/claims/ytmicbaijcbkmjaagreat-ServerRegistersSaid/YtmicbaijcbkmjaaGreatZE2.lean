import Derived.DeepKeys
import Derived.Test.YtmicbaijcbkmjaaGreatZE1
namespace Go.Eng
open Go.IntKind (u64 i64 u8)
noncomputable section
open Go Go.RowKit
set_option linter.all false
def FR (id:Nat):List Nat->Bool
 | []=>false
 | j :: r=>Nat.beq j id || FR id r
theorem yC {id:Nat} {l:List Nat} (h:FR id l=false):id ∉ l:=by
 induction l with
 | nil=>simp
 | cons j r ih=>
  simp only [FR,Cv] at h;intro hm;rcases mR.1 hm with e | e
  ·subst e; simp at h
  ·exact ih h.2 e
def EG (id:Nat) (x:AV):AV:=cond (FR id x.refs) .junk x
def Xn (id:Nat) (x:SV):SV:=cond (FR id x.refs) .junk x
def iH (id:Nat):Row->Row
 | .t r=>.t r
 | .mix l=>.mix (l.map (Xn id))
def Xo (id:Nat):List (Nat × AV)->List (Nat × AV)
 | []=>[]
 | (t,x) :: r=>(t,EG id x) :: Xo id r
def wR (id:Nat):List (Nat × Blk)->List (Nat × Blk)
 | []=>[]
 | (t,b) :: r=>(t,{ b with row:=iH id b.row }) :: wR id r
def St.kill (s:St) (id:Nat):St:={ s with tm:=Xo id s.tm,hp:=wR id s.hp }
theorem Uq (id:Nat) (l:List (Nat × AV)) (t:Nat):bU (Xo id l) t=(bU l t).map (EG id):=by
 induction l with
 | nil=>rfl
 | cons p r ih=>
  obtain ⟨i,x⟩:=p;simp only [Xo,bZ,bH];cases Nat.beq i t <;> simp [ih]
theorem mL (id:Nat) (l:List (Nat × Blk)) (t:Nat):bU (wR id l) t=(bU l t).map λ b=>{ b with row:=iH id b.row }:=by
 induction l with
 | nil=>rfl
 | cons p r ih=>
  obtain ⟨i,x⟩:=p;simp only [wR,bZ,bH];cases Nat.beq i t <;> simp [ih]
theorem Rd (s:St) (id t:Nat):(s.kill id).get t=EG id (s.get t):=by
 unfold St.get St.kill;simp only [Uq];cases bU s.tm t <;> rfl
theorem Jb {id j:Nat} {x:AV} (h:j ∈ (EG id x).refs):j ∈ x.refs /\ j ≠ id:=by
 unfold EG at h;cases hb:FR id x.refs
 ·rw [hb] at h; exact ⟨h,λ e=>yC hb (e ▸ h)⟩
 ·rw [hb] at h; simp [AV.refs,CV.refs,SV.refs] at h
theorem oZ {id j:Nat} {x:Row} (h:j ∈ (iH id x).refs):j ∈ x.refs /\ j ≠ id:=by
 cases x with
 | t r=>simp [iH,Row.refs] at h
 | mix l=>
  simp only [iH,Row.refs,fG,jZ] at h;obtain ⟨y,⟨x,hx,rfl⟩,hj⟩:=h;unfold Xn at hj;cases hb:FR id x.refs
  ·rw [hb] at hj; exact ⟨fG.2 ⟨x,hx,hj⟩,λ e=>yC hb (e ▸ hj)⟩
  ·rw [hb] at hj; simp [SV.refs] at hj
section
variable {P:Program} {B:Bs} {w0 w w':World} {ρ:Plc} {s:St} {a:Act} {β:Type} {r:β}
theorem SVRs.kill {id:Nat} {l:List SV} {vs:List Value} (h:SVRs w ρ l vs):SVRs w ρ (l.map (Xn id)) vs:=by
 refine ⟨by simp [h.1],λ i x v hx hv=>?_⟩;simp only [kV,pX] at hx;obtain ⟨y,hy,rfl⟩:=hx;unfold Xn;cases FR id y.refs
 ·exact h.2 i y v hy hv
 ·trivial
theorem RowR.kill {id n:Nat} {cs:Array Value} {row:Row} (h:RowR w ρ n cs row):RowR w ρ n cs (iH id row):=by
 cases row with
 | t r=>exact h
 | mix l=>exact SVRs.kill h
theorem RowL.kill {id:Nat} {cs:List Value} {row:Row} (h:RowL w ρ cs row):RowL w ρ cs (iH id row):=by
 cases row with
 | t r=>exact h
 | mix l=>exact SVRs.kill h
theorem Liv.kill {j id:Nat} (h:Liv s j) (b':Blk):Liv { s.kill id with hp:=Eng.upd id b' (wR id s.hp) } j:=by
 refine ⟨h.1,?_⟩;obtain ⟨c,hc⟩:=h.2;show ∃ b,bU (Eng.upd id b' (wR id s.hp)) j=some b;rw [cS,mL];split
 ·exact ⟨b',rfl⟩
 ·rw [hc]; exact ⟨_,rfl⟩
theorem Liv.killed {id:Nat} (h:id < s.nx) (b':Blk):Liv { s.kill id with hp:=Eng.upd id b' (wR id s.hp) } id:=by
 refine ⟨h,b',?_⟩;show bU (Eng.upd id b' (wR id s.hp)) id=_;rw [cS,aT rfl]
theorem Rel.rehome (h:Rel B w0 ρ s a w) {id:Nat} {x':RB} {b':Blk} (hid:id < s.nx) (hsz:w.heap.size <= w'.heap.size)
  (hother:∀ k,k < w.heap.size->(∀ x,ρ id=some x->k ≠ x.r)->w'.heap[k]?=w.heap[k]?)
  (hnew:(∃ x,ρ id=some x /\ x.r=x'.r) ∨ w.heap.size <= x'.r) (hlt:x'.r < w'.heap.size)
  (hbl:BelowM B w0 w') (hb:BlkR w' (qC ρ id x') b' x') (hrf:∀ j ∈ b'.row.refs,Liv s j) :
  Rel B w0 (qC ρ id x') { s.kill id with hp:=upd id b' (wR id s.hp) } a w':=by
 have hw:WExt ρ w w':=⟨hsz,λ k hk hf=>hother k hk λ x hx e=>hf.1 id x hx e.symm⟩;have hp:PExt ρ (qC ρ id x') w:=by
  refine ⟨λ j y hy=>?_,λ _ _ h=>h⟩;by_cases e:j=id
  ·subst e; rw [dC] at hy; cases hy;rcases hnew with ⟨x,h1,h2⟩ | h1
   ·exact .inl ⟨j,x,h1,h2⟩
   ·exact .inr h1
  ·rw [dK _ _ e] at hy; exact .inl ⟨j,y,hy,rfl⟩
 have hget:∀ t,St.get { s.kill id with hp:=upd id b' (wR id s.hp) } t=EG id (s.get t):=λ t=>Rd s id t;have hB:=h.B_le;refine ⟨λ t=>?_,λ j y hy=>?_,λ j y hy=>?_,λ i j y z hy hz e=>?_,λ j y hy=>?_,h.size,h.df,hbl,h.b0,λ t j hj=>?_,λ j c hc=>?_,λ j c hc hnn=>?_,λ b hb=>by have:=h.ob b hb; omega,h.ox⟩
 ·rw [hget];unfold EG;cases hm:FR id (s.get t).refs
  ·exact (h.tm t).ext hw hp λ j hj=>dK _ _ λ e=>yC hm (e ▸ hj)
  ·trivial
 ·by_cases e:j=id
  ·subst e;rw [dC] at hy; cases hy;exact ⟨b',by simp [cS],hb⟩
  ·rw [dK _ _ e] at hy;obtain ⟨c,hc,hR⟩:=h.blk j y hy;refine ⟨{ c with row:=iH id c.row },by simp [cS,e,mL,hc],?_⟩;obtain ⟨cs,fz,h1,h2,h3,h4⟩:=hR.ex;have hy2:=h.base j y hy;have hne:∀ x,ρ id=some x->y.r ≠ x.r:=λ x hx e2=>e (h.inj j id y x hy hx e2);refine ⟨⟨cs,fz,by rw [hother _ hy2.2 hne]; exact h1,h2,h3,?_⟩,hR.n⟩;have hk:RowR w ρ y.n cs (iH id c.row):=h4.kill;cases hrow:iH id c.row with
   | t r=>rw [hrow] at hk; exact hk
   | mix l=>
    rw [hrow] at hk;refine SVRs.ext hk hw hp λ q hq=>dK _ _ ?_;exact (oZ (x:=c.row) (by rw [hrow]; exact hq)).2
 ·by_cases e:j=id
  ·subst e; exact hid
  ·rw [dK _ _ e] at hy; exact h.lt j y hy
 ·by_cases e1:i=id
  ·by_cases e2:j=id
   ·omega
   ·subst e1; rw [dC] at hy; rw [dK _ _ e2] at hz; cases hy;rcases hnew with ⟨x,h1,h2⟩ | h1
    ·exact h.inj i j x z h1 hz (h2.trans e)
    ·have:=(h.base j z hz).2; omega
  ·by_cases e2:j=id
   ·subst e2; rw [dC] at hz; rw [dK _ _ e1] at hy; cases hz;rcases hnew with ⟨x,h1,h2⟩ | h1
    ·exact h.inj i j y x hy h1 (e.trans h2.symm)
    ·have:=(h.base i y hy).2; omega
   ·rw [dK _ _ e1] at hy; rw [dK _ _ e2] at hz;exact h.inj i j y z hy hz e
 ·by_cases e:j=id
  ·subst e; rw [dC] at hy; cases hy;refine ⟨?_,hlt⟩;rcases hnew with ⟨x,h1,h2⟩ | h1
   ·have:=(h.base j x h1).1; rw [h2] at this; exact this
   ·exact .inl (by omega)
  ·rw [dK _ _ e] at hy; exact ⟨(h.base j y hy).1,by have:=(h.base j y hy).2; omega⟩
 ·rw [hget] at hj;exact (h.rt t j (Jb hj).1).kill _
 ·by_cases e:j=id
  ·subst e; simp [cS] at hc; subst hc; exact λ q hq=>(hrf q hq).kill _
  ·simp [cS,e,mL] at hc;obtain ⟨c',hc',rfl⟩:=hc;intro q hq;exact (h.rb j c' hc' q (oZ hq).1).kill _
 ·by_cases e:j=id
  ·subst e; rw [dC] at hnn; cases hnn
  ·simp [cS,e,mL] at hc;obtain ⟨c',hc',rfl⟩:=hc;rw [dK _ _ e] at hnn;have:=h.gh j c' hc' hnn;show (iH id c'.row).len=0;cases hrow:c'.row with
   | t r=>rw [hrow] at this; exact this
   | mix l=>rw [hrow] at this; simpa [iH,Row.len] using this
theorem Rel.drew (h:Rel B w0 ρ s a w):Rel B w0 ρ s a w.drew:=h.ext (bV _) (λ _ _=>rfl) h.below.drew
def aGz (P:Program) (T:TypeId) (x:AV):Option (Row × Nat × Nat) :=
 match jV P T x with
 | .c (.s (.dat r len esz))=>some (.t r,len,esz)
 | .c (.mdat l)=>some (.mix l,l.length,1)
 | _=>none
def bAm (w:World) (ρ:Plc) (u:Value) (row:Row) (m esz:Nat):Prop :=
 (m=0 /\ u=.slice none 0 0 /\ RowL w ρ [] row) ∨ ∃ b off c news,u=.slice (some ⟨b,off,none⟩) m c /\ news.length=m*esz /\ RowL w ρ news row /\ (∀ (j:Nat) (v:Value),news[j]?=some v->w.cell? ⟨b,off+j,none⟩=some v) /\ Foreign ρ b /\ b < w.heap.size
theorem aGA {T:TypeId} {x:AV} {u:Value} {row:Row} {m esz:Nat} (hx:AVR w ρ x u) (h:aGz P T x=some (row,m,esz)):bAm w ρ u row m esz /\ (∀ id ∈ row.refs,id ∈ x.refs):=by
 have hx':=jT (P:=P) (T:=T) hx;have hr:(jV P T x).refs=x.refs:=iE;unfold aGz at h;split at h
 ·rename_i tr len es he;simp at h; obtain ⟨rfl,rfl,rfl⟩:=h;rw [he] at hx';obtain ⟨h1,h2⟩:=hx';refine ⟨?_,by simp [Row.refs]⟩;rcases h2 with ⟨h2,rfl⟩ | ⟨b,off,c,rfl,hc,hf,hra,hb⟩
  ·subst h2;refine .inl ⟨rfl,rfl,?_⟩;simp only [RowL];exact (oB (by rw [tr.length_cells,h1]; simp)).symm
  ·exact .inr ⟨b,off,c,tr.cells,rfl,by rw [tr.length_cells,h1],rfl,hra,hf,hb⟩
 ·rename_i l he;simp at h; obtain ⟨rfl,rfl,rfl⟩:=h;rw [he] at hx' hr;refine ⟨?_,λ id hid=>by rw [<-hr]; exact hid⟩;rcases hx' with ⟨h2,rfl⟩ | ⟨b,off,c,rfl,hc,hf,hra,hb⟩
  ·refine .inl ⟨h2,rfl,?_⟩;have:l=[]:=oB h2;subst this;exact ⟨rfl,by simp⟩
  ·have:∃ news:List Value,news.length=l.length /\ ∀ (i:Nat) (y:SV),l[i]?=some y->∃ v,news[i]?=some v /\ w.cell? ⟨b,off+i,none⟩=some v /\ SVR w ρ y v:=by
    refine ⟨(List.range l.length).map λ i=>((w.cell? ⟨b,off+i,none⟩).getD undef),by simp,λ i y hy=>?_⟩;have hi:=(iT.1 hy).1;obtain ⟨v,hv1,hv2⟩:=hra i y hy;exact ⟨v,by simp [hi,hv1],hv1,hv2⟩
   obtain ⟨news,hn1,hn2⟩:=this;refine .inr ⟨b,off,c,news,rfl,by rw [hn1,iY],⟨hn1.symm,λ i y v hy hv=>?_⟩,λ j v hv=>?_,hf,hb⟩
   ·obtain ⟨v',q1,q2,q3⟩:=hn2 i y hy;rw [q1] at hv; cases hv; exact q3
   ·have hj:j < l.length:=by rw [<-hn1]; exact (iT.1 hv).1
    obtain ⟨v',q1,q2,q3⟩:=hn2 j l[j] (by simp [hj]);rw [q1] at hv; cases hv; exact q2
 ·simp at h
def aGB:Row->Bool
 | .t _=>true
 | .mix l=>l.all SV.one
def BD (P:Program) (T:TypeId) (x y:AV) (s:St) (K:AV->St->Option β):Option β :=
 match x with
 | .c (.s (.own id len esz))=>
  match P.underlying T,bU s.hp id,aGz P T y with
  | some (.slice e),some b,some (row2,m,lI)=>
   match P.info? e with
   | some i=>match i.zero with
    | some z=>
     cond (Nat.beq i.size esz && Nat.beq lI esz && Nat.ble 1 esz && Nat.ble i.bytes 128 && Nat.beq z.cells.size esz && Nat.blt id s.nx && !(FR id y.refs) && decide (b.ty=e) && aGB row2)
      (cond (decide (len+m <= 1099511627776)) (
       K (.s (.own id (len+m) esz)) { s.kill id with hp:=upd id { ty:=e,n:=(len+m)*esz,row:=(mK (iH id b.row,len*esz) (row2,m*esz)).1 } (wR id s.hp) }) none) none
    | none=>none
   | none=>none
  | _,_,_=>none
 | _=>none
theorem RowR.rowL {n:Nat} {cs:Array Value} {row:Row} (h:RowR w ρ n cs row):RowL w ρ (cs.toList.take n) row:=by
 cases row with
 | t r=>exact h
 | mix l=>exact h
theorem RowL.one {row:Row} {vs:List Value} (h:RowL w ρ vs row) (hall:aGB row=true):∀ v ∈ vs,v.oneCell'=true:=by
 intro v hv;cases row with
 | t r=>simp only [RowL] at h; subst h; exact r.one v hv
 | mix l=>
  obtain ⟨i,hi⟩:=List.getElem?_of_mem hv;have hi':i < l.length:=by rw [h.1]; exact (iT.1 hi).1
  exact SV.one_ok (h.2 i l[i] v (by simp [hi']) hi) (rG.1 hall _ (by simp))
theorem uL {T ty e:TypeId} {i:TypeInfo} (ht:P.underlying T=some (.slice e)) (hi:P.info? e=some i) (base:Option Addr) (n c:Nat) (hc:n <= c) :
  (Builtin.append_ #[T,T] ty #[.slice base n c,.slice none 0 0]).run P w=.ok (.slice base n c) w:=by
 cases base with
 | none=>simp [Builtin.append_,run_underlying ht,sizeOf,typeInfo,hi,Builtin.lenOf,hc,Builtin.firstCells]
 | some b=>simp [Builtin.append_,run_underlying ht,sizeOf,typeInfo,hi,Builtin.lenOf,hc,Builtin.firstCells,storeCells]
theorem Cm {T ty e:TypeId} {i:TypeInfo} (ht:P.underlying T=some (.slice e)) (hi:P.info? e=some i) {g n c m:Nat} {b off c2:Nat} {news:List Value} (hl:news.length=m*i.size)
  (hnews:∀ (j:Nat) (v:Value),news[j]?=some v->w.cell? ⟨b,off+j,none⟩=some v) (h1:∀ u ∈ news,u.oneCell'=true) (hroom:n+m <= c)
  (hw:∀ j,j < news.length->(w.cell? ⟨g,n*i.size+j,none⟩).isSome=true /\ w.frozen? ⟨g,n*i.size+j,none⟩=false) :
  (Builtin.append_ #[T,T] ty #[.slice (some ⟨g,0,none⟩) n c,.slice (some ⟨b,off,none⟩) m c2]).run P w=.ok (.slice (some ⟨g,0,none⟩) (n+m) c) (w.setCells g (n*i.size) news):=by
 have hf:=run_firstCells_some (P:=P) w i.size m ⟨b,off,none⟩ m c2 news hl (λ j v hv=>by rw [Addr.add_mid]; exact hnews j v hv);have hst:=run_storeCells_cells (P:=P) g (n*i.size) news 0 w (λ j hj=>by simpa using (hw j hj).1) (λ j hj=>by simpa using (hw j hj).2) h1;simp only [fH] at hst;simp [Builtin.append_,run_underlying ht,sizeOf,typeInfo,hi,Builtin.lenOf,hroom,hf,Addr.add_mid,hst]
theorem RowL.len {row:Row} {vs:List Value} (h:RowL w ρ vs row):row.len=vs.length:=by
 cases row with
 | t r=>simp only [RowL] at h; subst h; exact r.length_cells.symm
 | mix l=>exact h.1
theorem RowL.nil {row:Row} (h:row.len=0):RowL w ρ [] row:=by
 cases row with
 | t r=>simp only [RowL]; exact (oB (by rw [r.length_cells]; exact h)).symm
 | mix l=>have:l=[]:=oB h; subst this; exact ⟨rfl,by simp⟩
theorem Re {x y:Row × Nat} {id:Nat} (h:id ∈ (mK x y).1.refs):id ∈ x.1.refs ∨ id ∈ y.1.refs:=by
 have hr:id ∈ (Row.svs x++Row.svs y).flatMap SV.refs->id ∈ x.1.refs ∨ id ∈ y.1.refs:=by
  intro hid;rw [KB,tO] at hid;rcases hid with h | h
  ·exact .inl (Row.svs_refs h)
  ·exact .inr (Row.svs_refs h)
 unfold mK at h;split at h
 ·split at h
  ·simp [Row.refs] at h
  ·exact hr h
 ·exact hr h
theorem Rel.reghost (h:Rel B w0 ρ s a w) {id:Nat} {b':Blk} (hn:ρ id=none) (hrf:∀ j ∈ b'.row.refs,Liv s j) (hl:b'.row.len=0) :
  Rel B w0 ρ { s.kill id with hp:=upd id b' (wR id s.hp) } a w:=by
 have hget:∀ t,St.get { s.kill id with hp:=upd id b' (wR id s.hp) } t=EG id (s.get t):=λ t=>Rd s id t;refine ⟨λ t=>?_,λ j y hy=>?_,h.lt,h.inj,h.base,h.size,h.df,h.below,h.b0,λ t j hj=>?_,λ j c hc=>?_,λ j c hc hnn=>?_,h.ob,h.ox⟩
 ·rw [hget];unfold EG;cases hm:FR id (s.get t).refs
  ·exact h.tm t
  ·trivial
 ·by_cases e:j=id
  ·subst e; rw [hn] at hy; cases hy
  ·obtain ⟨c,hc,hR⟩:=h.blk j y hy;refine ⟨{ c with row:=iH id c.row },by simp [cS,e,mL,hc],?_⟩;obtain ⟨cs,fz,h1,h2,h3,h4⟩:=hR.ex;exact ⟨⟨cs,fz,h1,h2,h3,h4.kill⟩,hR.n⟩
 ·rw [hget] at hj;exact (h.rt t j (Jb hj).1).kill _
 ·by_cases e:j=id
  ·subst e; simp [cS] at hc; subst hc; exact λ q hq=>(hrf q hq).kill _
  ·simp [cS,e,mL] at hc;obtain ⟨c',hc',rfl⟩:=hc;intro q hq;exact (h.rb j c' hc' q (oZ hq).1).kill _
 ·by_cases e:j=id
  ·subst e; simp [cS] at hc; subst hc; exact hl
  ·simp [cS,e,mL] at hc;obtain ⟨c',hc',rfl⟩:=hc;have:=h.gh j c' hc' hnn;show (iH id c'.row).len=0;cases hrow:c'.row with
   | t r=>rw [hrow] at this; exact this
   | mix l=>rw [hrow] at this; simpa [iH,Row.len] using this
theorem KV {T ty:TypeId} {x y:AV} {u v:Value} {K:AV->St->Option β} (hs:Rel B w0 ρ s a w) (hx:AVR w ρ x u) (hy:AVR w ρ y v) (hyr:∀ id ∈ y.refs,Liv s id) (h:BD P T x y s K=some r) :
  ∃ av s' w' ρ' z,K av s'=some r /\ (∀ id ∈ av.refs,Liv s' id) /\ AVR w' ρ' av z /\ Rel B w0 ρ' s' a w' /\ (Builtin.append_ #[T,T] ty #[u,v]).run P w=.ok z w':=by
 unfold BD at h;split at h
 ·rename_i id len esz;split at h
  ·rename_i e b row2 m lI hT hb hsrc;split at h
   ·rename_i i hi;split at h
    ·rename_i z hz;obtain ⟨h1,h2⟩:=aY h;obtain ⟨h3,h4⟩:=aY h2;simp only [aX] at h1;obtain ⟨⟨⟨⟨⟨⟨⟨⟨c1,c2⟩,c3⟩,c4⟩,c5⟩,c6⟩,c7⟩,c8⟩,c9⟩:=h1;have c1:i.size=esz:=aS c1;have c2:lI=esz:=aS c2;have c3:1 <= esz:=by simpa using c3
     have c4:i.bytes <= 128:=by simpa using c4
     have c5:z.cells.size=esz:=aS c5;have c6:id < s.nx:=by have:=c6; simp [Nat.blt] at this; omega
     have c7:id ∉ y.refs:=by
      have:FR id y.refs=false:=by simpa using c7
      exact yC this
     have c8:b.ty=e:=by simpa using c8
     have h3:len+m <= 1099511627776:=by simpa using h3
     subst c2;obtain ⟨hsv,hsr⟩:=aGA hy hsrc;have hB:=hs.B_le;have hrow2refs:∀ j ∈ row2.refs,Liv s j:=λ j hj=>hyr j (hsr j hj)
     -- the old cells
     have hold:∃ olds:List Value,olds.length=len*lI /\ RowL w ρ olds b.row /\ (∀ x0,ρ id=some x0->∀ (j:Nat) (q:Value),olds[j]?=some q->w.cell? ⟨x0.r,j,none⟩=some q):=by
      rcases hx with ⟨x0,hx0,rfl,hn,hc,hcm,hcz⟩ | ⟨hnone,hl0,rfl⟩
      ·obtain ⟨b',hb',hR⟩:=hs.blk id x0 hx0;rw [hb] at hb'; cases hb';obtain ⟨cs,fz,g1,g2,g3,g4⟩:=hR.ex;refine ⟨cs.toList.take x0.n,by rw [dV]; simp; omega,g4.rowL,λ x1 hx1 j q hq=>?_⟩;rw [hx0] at hx1; cases hx1;rw [kW] at hq;split at hq
       ·simpa [World.cell?,g1] using hq
       ·simp at hq
      ·exact ⟨[],by rw [hl0]; simp,RowL.nil (hs.gh id b hb hnone),λ x0 hx0=>by rw [hnone] at hx0; cases hx0⟩
     obtain ⟨olds,ho1,ho2,ho3⟩:=hold;have hz':∀ n:Nat,(Builtin.zeroCells z.cells n).size=n*lI:=λ n=>by rw [size_zeroCells,c5]
     have hlm:len+m <= maxLen:=by simp only [maxLen]; omega
     have hby:(len+m)*i.bytes <= 140737488355328:=by
      have:(len+m)*i.bytes <= (len+m)*128:=yU _ c4;omega
     -- the row told behind it
     have hcat:∀ (news:List Value) (w1:World) (ρ1:Plc),RowL w1 ρ1 olds (iH id b.row)->news.length=m*lI->RowL w1 ρ1 news row2 ->
       RowL w1 ρ1 (olds++news) (mK (iH id b.row,len*lI) (row2,m*lI)).1 /\ (olds++news).length=(len+m)*lI:=by
      intro news w1 ρ1 q1 q2 q3;obtain ⟨g1,g2,g3⟩:=sR (x:=(iH id b.row,len*lI)) (y:=(row2,m*lI)) q1 ho1 q3 q2;exact ⟨g1,by rw [i9,ho1,q2,gL]⟩
     have hcatrefs:∀ j ∈ (mK (iH id b.row,len*lI) (row2,m*lI)).1.refs,Liv s j /\ j ≠ id:=by
      intro j hj;rcases Re hj with h | h
      ·have:=oZ (x:=b.row) h; exact ⟨hs.rb id b hb j this.1,this.2⟩
      ·exact ⟨hrow2refs j h,λ e=>c7 (hsr id (e ▸ h))⟩
     have hav:∀ s':St,Liv s' id->∀ j ∈ (AV.s (.own id (len+m) lI)).refs,Liv s' j:=by
      intro s' hl j hj; simp [AV.refs,CV.refs,SV.refs] at hj; subst hj; exact hl
     have hpos:∀ n:Nat,n <= n*lI:=λ n=>Nat.le_mul_of_pos_right _ c3
     -- a new block behind it
     have grown:∀ (old:Nat) (news:List Value),news.length=m*lI->RowL w ρ news row2->old < len+m ->
       ∃ s' w' ρ',K (.s (.own id (len+m) lI)) s'=some r /\ Liv s' id /\ AVR w' ρ' (.s (.own id (len+m) lI)) (.slice (some ⟨w.heap.size,0,none⟩) (len+m) (grownCap w (len+m) old e)) /\ Rel B w0 ρ' s' a w' /\
        w'=w.drew.alloc (.cells (olds.toArray++news.toArray++Builtin.zeroCells z.cells (grownCap w (len+m) old e - (len+m))) e):=by
      intro old news q1 q2 hold;have hge:=grownCap_ge w (len+m) old e;have hcm:=grownCap_le_maxLen w (len+m) old e hlm;have hsd:=hs.drew;have hw:WExt ρ w.drew (w.drew.alloc (.cells (olds.toArray++news.toArray++Builtin.zeroCells z.cells (grownCap w (len+m) old e - (len+m))) e)):=⟨by simp,λ k hk _=>heap_alloc_old w.drew _ hk⟩;have hP:PExt ρ (qC ρ id ⟨w.heap.size,grownCap w (len+m) old e,(len+m)*lI,grownCap w (len+m) old e*lI⟩) w.drew:=PExt.new (bV _);have hk:∀ {row:Row} {vs:List Value},RowL w ρ vs row->(∀ j ∈ row.refs,j ≠ id)->RowL (w.drew.alloc (.cells (olds.toArray++news.toArray++Builtin.zeroCells z.cells (grownCap w (len+m) old e - (len+m))) e)) (qC ρ id ⟨w.heap.size,grownCap w (len+m) old e,(len+m)*lI,grownCap w (len+m) old e*lI⟩) vs row:=by
       intro row vs h1 h2;have h1':RowL w.drew ρ vs row:=h1.ext (w':=w.drew) ⟨bV _,λ _ _ _=>rfl⟩ (PExt.refl _ _) (λ _ _=>rfl);exact h1'.ext hw hP λ j hj=>dK _ _ (h2 j hj)
      obtain ⟨k1,k2⟩:=hcat news _ _ (hk ho2.kill (λ j hj=>(oZ hj).2)) q1 (hk q2 (λ j hj e=>c7 (hsr id (e ▸ hj))));refine ⟨_,_,qC ρ id ⟨w.heap.size,grownCap w (len+m) old e,(len+m)*lI,grownCap w (len+m) old e*lI⟩,h4,Liv.killed c6 _,.inl ⟨_,dC _ _ _,rfl,rfl,hge,hcm,bV _⟩,?_,rfl⟩;refine hsd.rehome c6 (by simp) (λ k hk _=>heap_alloc_old w.drew _ hk) (.inr (bV _)) (by simp) (hsd.below.alloc (by simpa using hB) _) ⟨⟨_,(0,0),heap_alloc_new w.drew _,?_,by simp,?_⟩,rfl⟩ (λ j hj=>(hcatrefs j hj).1)
      ·simp only [Array.size_append,List.size_toArray,hz',ho1,q1];have hsp:grownCap w (len+m) old e*lI=len*lI+m*lI+(grownCap w (len+m) old e - (len+m))*lI:=by
        rw [<-gL,<-gL]; congr 1; omega
       rw [gL];exact ⟨by omega,hsp.symm⟩
      ·have e1:(olds.toArray++news.toArray++Builtin.zeroCells z.cells (grownCap w (len+m) old e - (len+m))).toList.take ((len+m)*lI)=olds++news:=by
        simp only [Array.toList_append,BS];rw [<-k2]; exact List.take_left
       cases hrow:(mK (iH id b.row,len*lI) (row2,m*lI)).1 with
       | t rr=>rw [hrow] at k1; simp only [RowR]; rw [e1]; exact k1
       | mix ll=>rw [hrow] at k1; simp only [RowR]; rw [e1]; exact k1
     rcases hsv with ⟨hm0,rfl,hr0⟩ | ⟨bb,off,c2,news,rfl,hnl,hnr,hnc,hnf,hnb⟩
     ·subst hm0;rcases hx with ⟨x0,hx0,rfl,hn,hc,hcm,hcz⟩ | ⟨hnone,hl0,rfl⟩
      ·obtain ⟨b',hb',hR⟩:=hs.blk id x0 hx0;rw [hb] at hb'; cases hb';obtain ⟨cs,fz,g1,g2,g3,g4⟩:=hR.ex;have hP:PExt ρ (qC ρ id x0) w:=by
        refine ⟨λ j q hq=>?_,λ _ _ h=>h⟩;by_cases e:j=id
        ·subst e; rw [dC] at hq; cases hq; exact .inl ⟨j,x0,hx0,rfl⟩
        ·rw [dK _ _ e] at hq; exact .inl ⟨j,q,hq,rfl⟩
       have g4':=g4.rowL.kill (id:=id);have e1:(cs.toList.take x0.n).length=len*lI:=by rw [dV]; simp; omega
       obtain ⟨z1,z2,z3⟩:=sR (x:=(iH id b.row,len*lI)) (y:=(row2,0*lI)) g4' e1 hr0 (by simp);rw [i8] at z1 z2;have z1':=z1.ext (w':=w) ⟨bV _,λ _ _ _=>rfl⟩ hP λ j hj=>dK _ x0 (hcatrefs j hj).2;refine ⟨_,_,w,qC ρ id x0,_,h4,hav _ (Liv.killed c6 _),.inl ⟨x0,dC _ _ _,rfl,by rw [hn,fH],by omega,hcm,hcz⟩,?_,uL hT hi _ _ _ hc⟩;refine hs.rehome c6 (bV _) (λ _ _ _=>rfl) (.inl ⟨x0,hx0,rfl⟩) (hs.base id x0 hx0).2 hs.below ⟨⟨cs,fz,by rw [g1,c8],g2,g3,?_⟩,by show (len+0)*lI=_; rw [fH,hn]⟩ (λ j hj=>(hcatrefs j hj).1);show RowR w _ x0.n cs (mK (iH id b.row,len*lI) (row2,0*lI)).1;cases hrow:(mK (iH id b.row,len*lI) (row2,0*lI)).1 with
       | t rr=>rw [hrow] at z1'; exact z1'
       | mix ll=>rw [hrow] at z1'; exact z1'
      ·subst hl0;refine ⟨_,_,w,ρ,_,h4,hav _ (Liv.killed c6 _),.inr ⟨hnone,rfl,rfl⟩,?_,uL hT hi _ _ _ (bV _)⟩;refine hs.reghost hnone (λ j hj=>(hcatrefs j hj).1) ?_;have:=(sR (x:=(iH id b.row,0*lI)) (y:=(row2,0*lI)) (ho2.kill (id:=id)) ho1 hr0 (by simp)).1.len;rw [this,i8,ho1]; simp
     ·rcases hx with ⟨x0,hx0,rfl,hn,hc,hcm,hcz⟩ | ⟨hnone,hl0,rfl⟩
      ·by_cases hroom:len+m <= x0.cap
       ·obtain ⟨b',hb',hR⟩:=hs.blk id x0 hx0;rw [hb] at hb'; cases hb';obtain ⟨cs,fz,g1,⟨g2,g2'⟩,g3,g4⟩:=hR.ex;have hfit:(len+m)*lI <= x0.sz:=cK (pT _ hroom) hcz;have hfit':len*lI+m*lI <= cs.size:=by rw [<-gL,g2']; exact hfit
        have hone:∀ q ∈ news,q.oneCell'=true:=hnr.one c9;have hrun:=Cm (P:=P) (w:=w) (T:=T) (ty:=ty) hT hi (g:=x0.r) (n:=len) (c:=x0.cap) (m:=m) (b:=bb) (off:=off) (c2:=c2) (news:=news) (by rw [c1]; exact hnl) hnc hone hroom (by
         intro j hj;rw [c1];refine ⟨by simp [World.cell?,g1]; omega,?_⟩;have:=g3 (len*lI+j) (by omega);simp only [World.frozen?,g1,Bool.and_eq_false_iff,decide_eq_false_iff_not];omega)
        rw [c1] at hrun;obtain ⟨cs',g5,g6⟩:=CJ x0.r b.ty fz news (len*lI) w cs g1 (by omega);have hsz:cs'.size=cs.size:=by
         have:=dQ List.length g6;rw [jA _ _ _ (by simp; omega)] at this;simpa using this
        have hne:∀ k,k ≠ x0.r->(w.setCells x0.r (len*lI) news).heap[k]?=w.heap[k]?:=λ k hk=>wN x0.r k hk news _ w;have hb2:=hs.base id x0 hx0;have hW:WExt ρ w (w.setCells x0.r (len*lI) news):=⟨by rw [lU]; exact bV _,λ k hk hf=>hne k λ e=>hf.1 id x0 hx0 e.symm⟩;have hP:PExt ρ (qC ρ id ⟨x0.r,x0.cap,(len+m)*lI,x0.sz⟩) w:=by
         refine ⟨λ j q hq=>?_,λ _ _ h=>h⟩;by_cases e:j=id
         ·subst e; rw [dC] at hq; cases hq; exact .inl ⟨j,x0,hx0,rfl⟩
         ·rw [dK _ _ e] at hq; exact .inl ⟨j,q,hq,rfl⟩
        have e0:(cs.toList.take x0.n).length=len*lI:=by rw [dV]; simp; omega
        have k0:=(g4.rowL.kill (id:=id)).ext hW hP λ j hj=>dK _ _ (oZ hj).2;have k1:=hnr.ext hW hP λ j hj=>dK _ _ λ e=>c7 (hsr id (e ▸ hj));obtain ⟨z1,z2,z3⟩:=sR (x:=(iH id b.row,len*lI)) (y:=(row2,m*lI)) k0 e0 k1 hnl;have e1:cs'.toList.take ((len+m)*lI)=cs.toList.take x0.n++news:=by
         rw [g6];unfold splL;rw [hn,gL,<-hnl,<-lN];have:(cs.toList.take (len*lI)++news).length=len*lI+news.length:=by rw [i9,dV]; simp; omega
         rw [<-this]; exact List.take_left
        refine ⟨_,_,_,qC ρ id ⟨x0.r,x0.cap,(len+m)*lI,x0.sz⟩,_,h4,hav _ (Liv.killed c6 _),.inl ⟨_,dC _ _ _,rfl,rfl,hroom,hcm,hcz⟩,?_,hrun⟩;refine hs.rehome c6 (by rw [lU]; exact bV _) (λ k hk hk2=>hne k (hk2 x0 hx0)) (.inl ⟨x0,hx0,rfl⟩) (by rw [lU]; exact hb2.2) (AP x0.r hb2.1 news _ w hs.below) ⟨⟨cs',fz,by rw [g5,c8],?_,by rw [hsz]; exact g3,?_⟩,rfl⟩ (λ j hj=>(hcatrefs j hj).1)
        ·show (len+m)*lI <= _ /\ _=x0.sz;rw [hsz,g2']; exact ⟨hfit,rfl⟩
        ·show RowR _ _ ((len+m)*lI) cs' (mK (iH id b.row,len*lI) (row2,m*lI)).1;cases hrow:(mK (iH id b.row,len*lI) (row2,m*lI)).1 with
         | t rr=>rw [hrow] at z1; simp only [RowR]; rw [e1]; exact z1
         | mix ll=>rw [hrow] at z1; simp only [RowR]; rw [e1]; exact z1
       ·have hholds:∀ (j:Nat) (q:Value),olds[j]?=some q->w.cell? ((⟨x0.r,0,none⟩:Addr).add j)=some q:=by
         intro j q hq; rw [Addr.add_mid,bS]; exact ho3 x0 hx0 j q hq
        have hr:=run_append_grow (P:=P) w T ty e i z hT hi hz ⟨x0.r,0,none⟩ len x0.cap olds (by rw [c1]; exact ho1) hholds ⟨bb,off,none⟩ m c2 news (by rw [c1]; exact hnl) (λ j q hq=>by rw [Addr.add_mid]; exact hnc j q hq) (by omega) (by omega) (growslice_fits (by omega) hby);obtain ⟨s',w',ρ',k1,k2,k3,k4,k5⟩:=grown x0.cap news hnl hnr (by omega);exact ⟨_,s',w',ρ',_,k1,hav _ k2,k3,k4,by rw [k5]; exact hr⟩
      ·subst hl0;have hol:olds=[]:=oB (by rw [ho1]; simp);by_cases hm0:m=0
       ·subst hm0;have hn0:news=[]:=oB (by rw [hnl]; simp);subst hn0;refine ⟨_,_,w,ρ,.slice none 0 0,h4,hav _ (Liv.killed c6 _),.inr ⟨hnone,rfl,rfl⟩,?_,?_⟩
        ·refine hs.reghost hnone (λ j hj=>(hcatrefs j hj).1) ?_;have:=(sR (x:=(iH id b.row,0*lI)) (y:=(row2,0*lI)) (ho2.kill (id:=id)) ho1 hnr (by simp)).1.len;rw [this,i8,ho1]; simp
        ·simp [Builtin.append_,run_underlying hT,sizeOf,typeInfo,hi,Builtin.lenOf,Builtin.firstCells,loadCells,loadCellsFrom]
       ·have hr:=run_append_nil (P:=P) w T ty e i z hT hi hz ⟨bb,off,none⟩ m c2 news (by rw [c1]; exact hnl) (λ j q hq=>by rw [Addr.add_mid]; exact hnc j q hq) (by omega) (by omega) (by have:=hby; simp only [bS] at this; omega);obtain ⟨s',w',ρ',k1,k2,k3,k4,k5⟩:=grown 0 news hnl hnr (by omega);subst hol;simp only [bS] at k3 k5 hr;refine ⟨_,s',w',ρ',_,k1,hav _ k2,by simpa only [bS] using k3,k4,by rw [k5,hr]; simp⟩
    ·simp at h
   ·simp at h
  ·simp at h
 ·simp at h
end
end
noncomputable section
open Go Go.RowKit
set_option linter.all false
def b8 (n:Int):UInt8:=UInt8.ofNat n.toNat
def lO (b:UInt8):Int:=(b.toNat:Int)
section
variable {P:Program} {B:Bs} {w0 w w':World} {ρ:Plc} {s:St} {a:Act} {β:Type} {r:β}
def BE (P:Program) (T:TypeId) (s:St) (x:AV):Option (List Int) :=
 match jV P T x with
 | .c (.s (.dat (.ints .u8 xs) len esz))=>cond (Nat.beq esz 1) (some xs) none
 | .c (.s (.own id len esz))=>match bU s.hp id with
  | some b=>match b.row with
   | .t (.ints .u8 xs)=>cond (Nat.beq esz 1) (some xs) none
   | _=>none
  | none=>none
 | .c (.s (.sub id lo len esz))=>match bU s.hp id with
  | some b=>match b.row with
   | .t (.ints .u8 xs)=>cond (Nat.beq esz 1) (some ((xs.drop lo).take len)) none
   | _=>none
  | none=>none
 | _=>none
theorem Ur {T:TypeId} {x:AV} {u:Value} {xs:List Int} (hs:Rel B w0 ρ s a w) (hx:AVR w ρ x u) (h:BE P T s x=some xs) :
  (xs=[] /\ u=.slice none 0 0) ∨ ∃ b off len c,u=.slice (some ⟨b,off,none⟩) len c /\ xs.length=len /\ ∀ i,i < len->w.cell? ⟨b,off+i,none⟩=some (.int .u8 (xs.getD i 0)):=by
 have hx':=jT (P:=P) (T:=T) hx;have key:∀ {b off n:Nat} {ys:List Int},ys.length=n->RowAt w b off (TRow.ints .u8 ys).cells->∀ i,i < n->w.cell? ⟨b,off+i,none⟩=some (.int .u8 (ys.getD i 0)):=by
  intro b off n ys hl hra i hi;apply hra;simp [TRow.cells,List.getD,show i < ys.length by omega]
 unfold BE at h;split at h
 ·rename_i ys len esz he;obtain ⟨h1,h2⟩:=aY h;have h1:esz=1:=aS h1;simp at h2; subst h2; subst h1;rw [he] at hx';obtain ⟨q1,q2⟩:=hx';simp only [TRow.length,iY] at q1;rcases q2 with ⟨hl,rfl⟩ | ⟨b,off,c,rfl,hc,hf,hra,hb⟩
  ·exact .inl ⟨oB (by omega),rfl⟩
  ·exact .inr ⟨b,off,len,c,rfl,q1,key q1 hra⟩
 ·rename_i id len esz he;split at h
  ·rename_i b hb;split at h
   ·rename_i ys hrow;obtain ⟨h1,h2⟩:=aY h;have h1:esz=1:=aS h1;simp at h2; subst h2; subst h1;rw [he] at hx';rcases hx' with ⟨y,hy,rfl,hn,hc,hcm,hcz⟩ | ⟨hnone,hl0,rfl⟩
    ·obtain ⟨b',hb',hR⟩:=hs.blk id y hy;rw [hb] at hb'; cases hb';obtain ⟨q1,q2⟩:=hR.cell hrow;simp only [TRow.length] at q1;refine .inr ⟨y.r,0,len,y.cap,rfl,by omega,key (by omega) λ i v hv=>?_⟩;rw [bS]; exact q2 i v hv
    ·have:=hs.gh id b hb hnone;rw [hrow] at this;exact .inl ⟨oB this,rfl⟩
   ·simp at h
  ·simp at h
 ·rename_i id lo len esz he;split at h
  ·rename_i b hb;split at h
   ·rename_i ys hrow;obtain ⟨h1,h2⟩:=aY h;have h1:esz=1:=aS h1;simp at h2; subst h2; subst h1;rw [he] at hx';rcases hx' with ⟨y,hy,hn,o,c,rfl,ho,hlc⟩ | ⟨hnone,hl0,rfl⟩
    ·obtain ⟨b',hb',hR⟩:=hs.blk id y hy;rw [hb] at hb'; cases hb';obtain ⟨q1,q2⟩:=hR.cell hrow;simp only [TRow.length] at q1;have hlen:((ys.drop lo).take len).length=len:=by rw [dV,kX]; omega
     refine .inr ⟨y.r,o,len,c,rfl,hlen,λ i hi=>?_⟩;have ho':o=lo:=by rcases ho with ho | ho <;> omega
     subst ho';apply q2;have:o+i < ys.length:=by omega
     simp [TRow.cells,List.getD,kW,hi,this]
    ·subst hl0;exact .inl ⟨by simp,rfl⟩
   ·simp at h
  ·simp at h
 ·simp at h
def yD (P:Program) (own:Bool) (src dst:TypeId) (x:AV) (s:St) (K:AV->St->Option β):Option β :=
 match P.underlying src,P.underlying dst with
 | some (.slice e),some .string=>
  match P.underlying e with
  | some (.int .u8)=>match BE P src s x with
   | some xs=>K (.str (xs.map b8)) s
   | none=>none
  | _=>none
 | some .string,some (.slice e)=>
  match P.underlying e,x with
  | some (.int .u8),.c (.s (.pl (.str t)))=>
   cond (decide (t.length <= 1099511627776)) (
    match own with
    | true=>K (.s (.own s.nx t.length 1)) { s with hp:=(s.nx,{ ty:=e,n:=t.length,row:=.t (.ints .u8 (t.map lO)) }) :: s.hp,nx:=s.nx+1 }
    | false=>K (.s (.dat (.ints .u8 (t.map lO)) t.length 1)) s) none
  | _,_=>none
 | _,_=>AO P src dst x λ v=>K v s
theorem CL (t:Str) (c:Nat):(bytesRow ⟨t.toArray⟩ c).toList.take t.length=(TRow.ints .u8 (t.map lO)).cells:=by
 unfold bytesRow TRow.cells lO;simp only [Array.toList_append,KD];rw [List.take_append_of_le_length (by simp),fB (by simp)];simp
theorem Ob {own:Bool} {src dst:TypeId} {x:AV} {u:Value} {K:AV->St->Option β} (hs:Rel B w0 ρ s a w) (hx:AVR w ρ x u) (hxr:∀ id ∈ x.refs,Liv s id) (h:yD P own src dst x s K=some r) :
  ∃ av s' w' ρ' z,K av s'=some r /\ (∀ id ∈ av.refs,Liv s' id) /\ AVR w' ρ' av z /\ Rel B w0 ρ' s' a w' /\ (convert src dst u).run P w=.ok z w':=by
 unfold yD at h;split at h
 ·rename_i e hsrc hdst;split at h
  ·rename_i he;split at h
   ·rename_i xs hxs;refine ⟨_,_,w,ρ,.string ⟨(xs.map b8).toArray⟩,h,by simp [AV.refs,CV.refs,SV.refs],AVR.str _,hs,?_⟩;rcases Ur hs hx hxs with ⟨rfl,rfl⟩ | ⟨b,off,len,c,rfl,hl,hc⟩
    ·rw [run_convert_bytes_nil w src e hsrc he 0 0 dst hdst]; rfl
    ·rw [run_convert_bytes_arg w src e hsrc he b off len c xs hl hc dst hdst]; rfl
   ·simp at h
  ·simp at h
 ·rename_i e hsrc hdst;split at h
  ·rename_i t he;obtain ⟨h1,h2⟩:=aY h;have h1:t.length <= 1099511627776:=by simpa using h1
   rw [hx.ofStr];have hrun:=run_bytes_of_string (P:=P) w src dst e ⟨t.toArray⟩ hsrc hdst he;have hsz:(ByteArray.mk t.toArray).size=t.length:=by simp [ByteArray.size]
   rw [hsz] at hrun;have hge:=grownCap_ge w t.length 0 e;have hcm:=grownCap_le_maxLen w t.length 0 e (by simp only [maxLen]; omega);have hbs:(bytesRow ⟨t.toArray⟩ (grownCap w t.length 0 e)).size=grownCap w t.length 0 e:=by
    unfold bytesRow; simp [hsz]; omega
   have hsd:=hs.drew;split at h2
   ·refine ⟨_,_,_,qC ρ s.nx ⟨w.heap.size,grownCap w t.length 0 e,t.length,grownCap w t.length 0 e⟩,_,h2,?_,.inl ⟨_,dC _ _ _,rfl,by simp,hge,hcm,by simp⟩,
     hsd.newblk (x:=⟨w.heap.size,grownCap w t.length 0 e,t.length,grownCap w t.length 0 e⟩) rfl ⟨⟨_,_,heap_alloc_new w.drew _,⟨by rw [hbs]; exact hge,hbs⟩,λ i hi=>by rw [hbs] at hi ⊢; simp; omega,?_⟩,rfl⟩ (by simp [Row.refs]),hrun⟩
    ·intro id hid;simp [AV.refs,CV.refs,SV.refs] at hid;subst hid; exact Liv.new _ _
    ·simp only [RowR]; exact CL t _
   ·have hB:=hs.B_le;refine ⟨_,_,_,ρ,_,h2,by simp [AV.refs,CV.refs,SV.refs],⟨by simp [TRow.length],.inr ⟨w.heap.size,0,_,rfl,hge,⟨λ id y hy e=>?_,λ ho=>?_⟩,λ i v hv=>?_,by simp⟩⟩,hsd.ext (by simp) (λ k hk=>heap_alloc_old w.drew _ hk) (hsd.below.alloc (by simpa using hB) _),hrun⟩
    ·have:=(hs.base id y hy).2; omega
    ·have:=hs.ob _ ho; omega
    ·rw [bS];have:=JV w.drew (bytesRow ⟨t.toArray⟩ (grownCap w t.length 0 e)) e ((bytesRow ⟨t.toArray⟩ (grownCap w t.length 0 e)).size,(bytesRow ⟨t.toArray⟩ (grownCap w t.length 0 e)).size+1) i;rw [show w.heap.size=w.drew.heap.size from rfl,this,<-Yd];rw [<-CL t (grownCap w t.length 0 e),kW] at hv;split at hv
     ·exact hv
     ·simp at hv
  ·simp at h
 ·obtain ⟨av,z,h1,h2,h3,h4⟩:=GM hx h;exact ⟨av,s,w,ρ,z,h1,by simp [h2],h3,hs,h4⟩
def Li:List AV->Option (List Pl)
 | []=>some []
 | .c (.s (.pl p)) :: r=>match Li r with
  | some l=>some (p :: l)
  | none=>none
 | _ :: _=>none
theorem Jc:∀ {l:List AV} {vs:List Value} {ps:List Pl},AVRs w ρ l vs->Li l=some ps->vs=ps.map Pl.val:=by
 intro l
 induction l with
 | nil=>intro vs ps h hp; simp [Li] at hp; subst hp; cases vs <;> simp_all [AVRs]
 | cons x r ih=>
  intro vs ps h hp
  match vs,h with
  | v :: vs,⟨h1,h2⟩=>
   unfold Li at hp;split at hp
   ·simp at *
   ·rename_i he;simp at he;obtain ⟨rfl,rfl⟩:=he;split at hp
    ·rename_i l hl;simp at hp; subst hp;rw [ih h2 hl,h1.1]; rfl
    ·simp at hp
   ·simp at hp
def Jd:List AV->Option (List (Nat × Nat × Nat))
 | []=>some []
 | .c (.s (.ptr id off ext)) :: r=>match Jd r with
  | some l=>some ((id,off,ext) :: l)
  | none=>none
 | _ :: _=>none
theorem aAw:∀ {l:List AV} {vs:List Value} {cs:List (Nat × Nat × Nat)},AVRs w ρ l vs->Jd l=some cs->PtrRs ρ cs vs /\ cs.map Prod.fst=l.flatMap AV.refs:=by
 intro l
 induction l with
 | nil=>
  intro vs cs h hp;simp [Jd] at hp; subst hp;cases vs with
  | nil=>exact ⟨trivial,rfl⟩
  | cons v vs=>exact h.elim
 | cons x r ih=>
  intro vs cs h hp
  match vs,h with
  | v :: vs,⟨h1,h2⟩=>
  unfold Jd at hp;split at hp
  ·rename_i he; cases he
  ·rename_i id off ext r' he;cases he;split at hp
   ·rename_i l hl;simp at hp; subst hp;obtain ⟨g1,g2⟩:=ih h2 hl;exact ⟨⟨h1,g1⟩,by simp [AV.refs,CV.refs,SV.refs,g2]⟩
   ·simp at hp
  ·simp at hp
def rY (fn:Fn) (first cap:List AV) (K:AV->Option β):Option β :=
 match fn,Li first,Li cap with
 | .func f,some fs,some cs=>K (.s (.clo f fs cs))
 | .func f,some [],none=>match Jd cap with
  | some cs=>K (.s (.clop f cs))
  | none=>none
 | _,_,_=>none
theorem KW {fn:Fn} {first cap:List AV} {fv cv:List Value} {K:AV->Option β} (hf:AVRs w ρ first fv) (hc:AVRs w ρ cap cv) (h:rY fn first cap K=some r) :
  ∃ av,K av=some r /\ (∀ id ∈ av.refs,id ∈ cap.flatMap AV.refs) /\ AVR w ρ av (.func fn fv.toArray cv.toArray):=by
 unfold rY at h;split at h
 ·rename_i f fs cs h1 h2;refine ⟨_,h,λ id hid=>by simp [AV.refs,CV.refs,SV.refs] at hid,?_⟩;rw [Jc hf h1,Jc hc h2]; rfl
 ·rename_i f h1 h2;split at h
  ·rename_i cs hcs;obtain ⟨g1,g2⟩:=aAw hc hcs;have:=Jc hf h1;subst this;refine ⟨_,h,λ id hid=>?_,⟨cv,rfl,g1⟩⟩;rw [<-g2]; exact hid
  ·simp at h
 ·simp at h
def aPy (P:Program) (T:TypeId):Option (Nat × Option TypeId) :=
 match P.underlying T with
 | some (.array n e)=>match P.underlying e,gQ P e with
  | some (.int _),some 1=>some (n,none)
  | _,_=>none
 | some (.struct fs)=>match fs.toList with
  | [f]=>cond (!(f.name == "_") && Nat.beq f.offset 0 && !P.stoodInHeld T) (match P.underlying f.type,gQ P f.type with
   | some (.array n e),some m=>match P.underlying e,gQ P e with
    | some (.int _),some 1=>cond (Nat.beq m n) (some (n,some f.type)) none
    | _,_=>none
   | _,_=>none) none
  | _=>none
 | _=>none
def FS (P:Program) (T:TypeId) (op:BinOp) (x y:AV) (K:AV->Option β):Option β :=
 match x,y with
 | .c (.s (.pl (.agg (.ints k xs) n))),.c (.s (.pl (.agg (.ints k' ys) n')))=>
  match aPy P T with
  | some (m,_)=>cond (Nat.beq m n && Nat.beq m n' && decide (k=k') && !P.eqGuardType P.depth T) (match op with
   | .eql=>K (.bool (decide (xs=ys)))
   | .neq=>K (.bool (!decide (xs=ys)))
   | _=>none) none
  | none=>none
 | _,_=>none
theorem FT {e:TypeId} {q:IntKind} (he:P.underlying e=some (.int q)) (hm:gQ P e=some 1) (d:Nat) (k:IntKind) (xs ys:List Int):∀ (is:List Nat),(∀ i ∈ is,i < xs.length /\ i < ys.length) ->
  (Op.eqItems (d+1) e 1 (xs.map (Value.int k)).toArray (ys.map (Value.int k)).toArray is).run P w=.ok (is.all λ i=>decide (xs.getD i 0=ys.getD i 0)) w:=by
 have hk:lV P e=some false:=by unfold lV; rw [he]
 intro is
 induction is with
 | nil=>intro _; rfl
 | cons i is ih=>
  intro h;obtain ⟨h1,h2⟩:=h i (by simp);have p1:(part e (xs.map (Value.int k)).toArray (i*1)).run P w=.ok (.int k xs[i]) w:=by simp [part,kP hk,h1]
  have p2:(part e (ys.map (Value.int k)).toArray (i*1)).run P w=.ok (.int k ys[i]) w:=by simp [part,kP hk,h2]
  have p3:(Op.equalIn (d+1) e (.int k xs[i]) (.int k ys[i])).run P w=.ok (xs[i] == ys[i]) w:=run_equalIn_int w d e k q _ _ he;simp only [Op.eqItems,Sem.run_bind,p1,p2,p3,Result.andThen_ok];have e1:xs.getD i 0=xs[i]:=by simp [List.getD,h1]
  have e2:ys.getD i 0=ys[i]:=by simp [List.getD,h2]
  simp only [Aq,e1,e2];by_cases hxy:xs[i]=ys[i]
  ·simp [hxy,ih (λ j hj=>h j (by simp [hj]))]
  ·simp [hxy]
theorem Rf (xs ys:List Int) (n:Nat) (h1:xs.length=n) (h2:ys.length=n):((List.range n).all λ i=>decide (xs.getD i 0=ys.getD i 0))=decide (xs=ys):=by
 rw [J6];simp only [rG,List.mem_range,bG];constructor
 ·intro h;apply PI (by omega);intro i hi1 hi2;have:=h i (by omega);simpa [List.getD,hi1,hi2] using this
 ·rintro rfl i _; rfl
theorem mW {op:BinOp} {T:TypeId} {x y:Operand} {cs ds:Array Value} (h:P.eqGuardType P.depth T=false):(eqGuard op T x y (.agg cs) (.agg ds)).run P w=.ok () w:=by
 unfold eqGuard;cases op <;> simp [h]
theorem Oc {T:TypeId} {op:BinOp} {x y:AV} {u v:Value} {K:AV->Option β} (hx:AVR w ρ x u) (hy:AVR w ρ y v) (h:FS P T op x y K=some r) :
  ∃ av z,K av=some r /\ av.refs=[] /\ AVR w ρ av z /\ ∀ xo yo,(do eqGuard op T xo yo u v; binOp op T u v:Sem Value).run P w=.ok z w:=by
 unfold FS at h;split at h
 ·rename_i k xs n k' ys n';split at h
  ·rename_i m ft hq;obtain ⟨h1,h2⟩:=aY h;simp only [aX] at h1;obtain ⟨⟨⟨c1,c2⟩,c3⟩,c4⟩:=h1;have c1:m=n:=aS c1;have c2:m=n':=aS c2;have c3:k=k':=by simpa using c3
   have c4:P.eqGuardType P.depth T=false:=by simpa using c4
   subst c3;have hu:u=.agg (xs.map (Value.int k)).toArray:=hx.1;have hv:v=.agg (ys.map (Value.int k)).toArray:=hy.1;have hxl:xs.length=m:=by have:=hx.2 _ _ rfl; simp [TRow.length] at this; omega
   have hyl:ys.length=m:=by have:=hy.2 _ _ rfl; simp [TRow.length] at this; omega
   subst hu; subst hv;have harr:∀ (t e:TypeId) (q:IntKind) (d:Nat),P.underlying t=some (.array m e)->P.underlying e=some (.int q)->gQ P e=some 1 ->
     (Op.equalIn (d+2) t (.agg (xs.map (Value.int k)).toArray) (.agg (ys.map (Value.int k)).toArray)).run P w=.ok (decide (xs=ys)) w:=by
    intro t e q d ht he hs1;obtain ⟨i,hi,him⟩:=eL hs1;rw [run_equalIn_array (P:=P) (w:=w) (d+1) _ _ ht hi];have hc:P.cellsOf e=1:=by simp [Program.cellsOf,hi,him]
    rw [hc,FT he hs1 d k xs ys _ (λ j hj=>by simp at hj; omega),Rf xs ys m hxl hyl]
   have heq:(Op.equalIn 10000 T (.agg (xs.map (Value.int k)).toArray) (.agg (ys.map (Value.int k)).toArray)).run P w=.ok (decide (xs=ys)) w:=by
    unfold aPy at hq;split at hq
    ·rename_i n2 e hT;split at hq
     ·rename_i q he hs1;simp at hq;obtain ⟨rfl,rfl⟩:=hq;exact harr T e q 9998 hT he hs1
     ·simp at hq
    ·rename_i fs hT;split at hq
     ·rename_i f hfs;obtain ⟨g1,g2⟩:=aY hq;simp only [aX] at g1;have g3:f.name ≠ "_" := by have:=g1.1.1; simpa using this
      have g4:f.offset=0:=aS g1.1.2;have g5:P.stoodInHeld T=false:=by have:=g1.2; simpa using this
      split at g2
      ·rename_i n2 e m2 hft hsz;split at g2
       ·rename_i q he hs1;obtain ⟨g6,g7⟩:=aY g2;have g6:m2=n2:=aS g6;simp at g7;obtain ⟨rfl,rfl⟩:=g7;subst g6;have hfo:P.fieldsOf T=fs:=by simp [Program.fieldsOf,hT]
        rw [run_equalIn_struct w 9999 T _ _ (by rw [hfo]; exact hT) g5,hfo,hfs];have hk:lV P f.type=some true:=by unfold lV; rw [hft]
        obtain ⟨i,hi,him⟩:=eL hsz;obtain ⟨d,hd,hrow⟩:=xV hk;have hagg:(isAgg f.type).run P w=.ok true w:=by
         unfold isAgg;rw [Sem.run_bind,run_underlying hd w];cases d <;> simp_all
        have p1:∀ zs:List Int,zs.length=m2->(part f.type (zs.map (Value.int k)).toArray 0).run P w=.ok (.agg (zs.map (Value.int k)).toArray) w:=by
         intro zs hz;simp [part,hagg,sizeOf,typeInfo,hi,him];exact fB (by simp; omega)
        simp only [Op.eqFields,ne_eq,g3,not_false_eq_true,jM,Sem.run_bind,g4,p1 xs hxl,p1 ys hyl,Result.andThen_ok,harr f.type e q 9997 hft he hs1];by_cases hxy:xs=ys <;> simp [hxy]
       ·simp at g2
      ·simp at g2
     ·simp at hq
    ·simp at hq
   split at h2
   ·refine ⟨_,_,h2,rfl,AVR.bool _,λ xo yo=>?_⟩;rw [Sem.run_bind,mW c4,Result.andThen_ok,run_eql_struct,heq]; rfl
   ·refine ⟨_,_,h2,rfl,AVR.bool _,λ xo yo=>?_⟩;rw [Sem.run_bind,mW c4,Result.andThen_ok,run_neq_struct,heq]; rfl
   ·simp at h2
  ·simp at h
 ·simp at h
end
end
noncomputable section
open Go Go.RowKit
set_option linter.all false
section
variable {P:Program} {B:Bs} {w0 w w':World} {ρ:Plc} {s:St} {a:Act} {β:Type} {r:β}
theorem Rel.evr (h:Rel B w0 ρ s a w) (x:Operand):∀ id ∈ (s.ev x).refs,Liv s id:=by
 cases x with
 | tmp t=>
  show ∀ id ∈ (cond (Nat.blt t s.sz) (s.get t) .junk).refs,Liv s id;cases Nat.blt t s.sz
  ·intro id hid; simp [AV.refs,CV.refs,SV.refs] at hid
  ·exact h.rt t
 | const v=>intro id hid; simp [St.ev,RN] at hid
 | func f=>intro id hid; simp [St.ev,AV.refs,CV.refs,SV.refs] at hid
 | global g=>intro id hid; simp [St.ev,AV.refs,CV.refs,SV.refs] at hid
def evps (s:St) (ps:Array (Nat × Operand)):List (Nat × AV):=ps.toList.map λ p=>(p.1,s.ev p.2)
theorem Rel.evps (h:Rel B w0 ρ s a w):∀ (l:List (Nat × Operand)),PRs w ρ (l.map λ p=>(p.1,s.ev p.2)) (l.map λ p=>(p.1,a.eval p.2)):=by
 intro l
 induction l with
 | nil=>trivial
 | cons p r ih=>exact ⟨rfl,h.ev p.2,ih⟩
theorem Rel.evs (h:Rel B w0 ρ s a w):∀ (l:List Operand),AVRs w ρ (l.map s.ev) (l.map a.eval):=by
 intro l
 induction l with
 | nil=>trivial
 | cons p r ih=>exact ⟨h.ev p,ih⟩
def BF (P:Program) (T:TypeId) (s:St) (K:AV->St->Option β):Option β :=
 match P.underlying T with
 | some (.slice e)=>match P.info? e with
  | some i=>match i.zero with
   | some z=>K (.s (.own s.nx 0 i.size)) { s with hp:=(s.nx,{ ty:=e,n:=0,row:=match Dw z.cells with | some row=>.t row | none=>.mix [] }) :: s.hp,nx:=s.nx+1 }
   | none=>none
  | none=>none
 | _=>none
theorem KX {T:TypeId} {K:AV->St->Option β} (hs:Rel B w0 ρ s a w) (h:BF P T s K=some r) :
  ∃ av s',K av s'=some r /\ (∀ id ∈ av.refs,Liv s' id) /\ AVR w ρ av (.slice none 0 0) /\ Rel B w0 ρ s' a w:=by
 unfold BF at h;split at h
 ·split at h
  ·split at h
   ·rename_i e hT i hi z hz;have hnone:ρ s.nx=none:=by
     cases hc:ρ s.nx with
     | none=>rfl
     | some x=>have:=hs.lt _ _ hc; omega
    refine ⟨_,_,h,?_,.inr ⟨hnone,rfl,rfl⟩,⟨hs.tm,λ j y hy=>?_,λ j y hy=>?_,hs.inj,hs.base,hs.size,hs.df,hs.below,hs.b0,λ t id hid=>?_,λ j c hc=>?_,λ j c hc hn=>?_,hs.ob,hs.ox⟩⟩
    ·intro id hid;simp [AV.refs,CV.refs,SV.refs] at hid;subst hid; exact Liv.new _ _
    ·have hne:j ≠ s.nx:=λ e=>by rw [e,hnone] at hy; cases hy
     obtain ⟨c,hc,hR⟩:=hs.blk j y hy;exact ⟨c,by simp [bZ,bH,iP (fX hne),hc],hR⟩
    ·have:=hs.lt j y hy; show _ < _+1; omega
    ·exact (hs.rt t id hid).cons _
    ·by_cases e:j=s.nx
     ·subst e;simp [bZ,bH] at hc; subst hc;intro id hid;simp only at hid;split at hid <;> simp [Row.refs] at hid
     ·simp [bZ,bH,iP (fX e)] at hc;intro id hid; exact (hs.rb j c hc id hid).cons _
    ·by_cases e:j=s.nx
     ·subst e;simp [bZ,bH] at hc; subst hc;show Row.len _=0;simp only;split
      ·rename_i row hrow; exact Dx hrow
      ·rfl
     ·simp [bZ,bH,iP (fX e)] at hc;exact hs.gh j c hc hn
   ·simp at h
  ·simp at h
 ·simp at h
def aGC:AV->Bool
 | .c (.s (.pl (.raw (.slice none 0 0))))=>true
 | _=>false
def EH (P:Program) (own:Bool) (T:TypeId) (x:AV) (s:St) (K:AV->St->Option β):Option β :=
 match own && aGC x with
 | true=>BF P T s K
 | false=>K (jV P T x) s
theorem GS {own:Bool} {T:TypeId} {x:AV} {u:Value} {K:AV->St->Option β} (hs:Rel B w0 ρ s a w) (hx:AVR w ρ x u) (hxr:∀ id ∈ x.refs,Liv s id) (h:EH P own T x s K=some r) :
  ∃ av s',K av s'=some r /\ (∀ id ∈ av.refs,Liv s' id) /\ AVR w ρ av u /\ Rel B w0 ρ s' a w:=by
 unfold EH at h;split at h
 ·rename_i hb;simp only [aX] at hb;have hn:=hb.2;unfold aGC at hn;split at hn
  ·have:u=.slice none 0 0:=hx.1;subst this;exact KX hs h
  ·simp at hn
 ·exact ⟨_,_,h,by rw [iE]; exact hxr,jT hx,hs⟩
abbrev fE:=List (Nat × Nat × Bool × Pl)
def Pl.plain:Pl->Bool
 | .agg _ _=>false
 | _=>true
def GR (G:fE) (a:Act):Prop:=∀ d tg want p,(d,tg,want,p) ∈ G->p.plain=true /\ (a.tmps.getD tg undef=.bool want->a.tmps.getD d undef=p.val) /\ (a.tmps.getD tg undef=.bool (!want)->a.tmps.getD d undef=undef)
def fV:fE->Nat->Nat->Bool->Option Pl
 | [],_,_,_=>none
 | (d,tg,want,p) :: r,d',tg',want'=>cond (Nat.beq d d' && Nat.beq tg tg' && (want == want')) (some p) (fV r d' tg' want')
theorem Rg {G:fE} {d tg:Nat} {want:Bool} {p:Pl} (h:fV G d tg want=some p):(d,tg,want,p) ∈ G:=by
 induction G with
 | nil=>simp [fV] at h
 | cons q r ih=>
  obtain ⟨d',tg',want',p'⟩:=q;simp only [fV] at h;cases hb:(Nat.beq d' d && Nat.beq tg' tg && (want' == want))
  ·rw [hb] at h; exact yQ _ (ih h)
  ·rw [hb] at h;simp only [aX] at hb;have e1:=aS hb.1.1;have e2:=aS hb.1.2;have e3:want'=want:=by simpa using hb.2
   simp at h;subst e1; subst e2; subst e3; subst h;exact PM
def tK (d:Nat):fE->fE
 | []=>[]
 | (e,tg,want,p) :: r=>cond (Nat.beq e d || Nat.beq tg d) (tK d r) ((e,tg,want,p) :: tK d r)
theorem aAx {d:Nat} {G:fE} {x:Nat × Nat × Bool × Pl} (h:x ∈ tK d G):x ∈ G /\ x.1 ≠ d /\ x.2.1 ≠ d:=by
 induction G with
 | nil=>simp [tK] at h
 | cons q r ih=>
  obtain ⟨e,tg,want,p⟩:=q;simp only [tK] at h;cases hb:(Nat.beq e d || Nat.beq tg d)
  ·rw [hb] at h;simp only [Cv] at hb;rcases mR.1 h with rfl | h
   ·refine ⟨PM,λ e1=>?_,λ e1=>?_⟩
    ·simp at e1; subst e1; simp at hb
    ·simp at e1; subst e1; simp at hb
   ·exact ⟨yQ _ (ih h).1,(ih h).2⟩
  ·rw [hb] at h; exact ⟨yQ _ (ih h).1,(ih h).2⟩
theorem mX {a:Act} {d t:Nat} {v:Value} (h:t ≠ d):(a.put (some d) v).tmps.getD t undef=a.tmps.getD t undef:=by
 simp only [Act.put,Array.getD];by_cases ht:t < a.tmps.size
 ·simp [ht,aHX,fX h]
 ·simp [ht]
theorem GR.put {G:fE} (h:GR G a) (d:Nat) (v:Value):GR (tK d G) (a.put (some d) v):=by
 intro e tg want p hm;obtain ⟨h1,h2,h3⟩:=aAx hm;refine ⟨(h e tg want p h1).1,λ hg=>?_,λ hg=>?_⟩
 ·rw [mX (by simpa using h3)] at hg;rw [mX (by simpa using h2)];exact (h e tg want p h1).2.1 hg
 ·rw [mX (by simpa using h3)] at hg;rw [mX (by simpa using h2)];exact (h e tg want p h1).2.2 hg
def Od (G:fE) (s:St) (tc:Nat) (want:Bool):Operand->Option Pl
 | .tmp t=>match fV G t tc want with
  | some p=>some p
  | none=>match s.ev (.tmp t) with
   | .c (.s (.pl p))=>some p
   | _=>none
 | x=>match s.ev x with
  | .c (.s (.pl p))=>some p
  | _=>none
def isC (b:Bool):Operand->Bool
 | .const (.bool b')=>b == b'
 | _=>false
def zA (G:fE) (s:St) (c x y:Operand) (K:AV->Option β):Option β :=
 match c with
 | .tmp tc=>match s.ev (.tmp tc) with
  | .c (.s (.pl (.bool cb)))=>
   match Od G s tc true x,Od G s tc false y with
   | some (.bool p),some (.bool q)=>match isC false y,isC true x with
    | true,_=>K (.bool (cb && p))
    | false,true=>K (.bool (cb || q))
    | false,false=>K (.bool (cond cb p q))
   | _,_=>cond cb (K (s.ev x)) (K (s.ev y))
  | _=>none
 | _=>none
theorem Xp {G:fE} (hs:Rel B w0 ρ s a w) (hG:GR G a) {tc:Nat} {want:Bool} (hc:a.tmps.getD tc undef=.bool want) {x:Operand} {p:Pl} (h:Od G s tc want x=some p):a.eval x=p.val:=by
 unfold Od at h;split at h
 ·rename_i t;split at h
  ·rename_i q hq;simp at h; subst h;exact (hG _ _ _ _ (Rg hq)).2.1 hc
  ·split at h
   ·rename_i q hq;simp at h; subst h;have:=hs.ev (.tmp t);rw [hq] at this;exact this.1
   ·simp at h
 ·split at h
  ·rename_i q hq;simp at h; subst h;have:=hs.ev x;rw [hq] at this;exact this.1
  ·simp at h
theorem Rh {G:fE} {c x y:Operand} {K:AV->Option β} (hs:Rel B w0 ρ s a w) (hG:GR G a) (h:zA G s c x y K=some r) :
  ∃ av cb,K av=some r /\ (∀ id ∈ av.refs,Liv s id) /\ a.eval c=.bool cb /\ AVR w ρ av (if cb then a.eval x else a.eval y):=by
 unfold zA at h;split at h
 ·rename_i tc;split at h
  ·rename_i cb hcb;have hc:a.tmps.getD tc undef=.bool cb:=by
    have:=hs.ev (.tmp tc);rw [hcb] at this;exact this.1
   have hc':a.eval (.tmp tc)=.bool cb:=hc;split at h
   ·rename_i p q hp hq;have key:AVR w ρ (.bool (cond cb p q)) (if cb then a.eval x else a.eval y):=by
     cases cb
     ·have:=Xp hs hG hc hq;simp only [Pl.val] at this;simp only [An,mB,aD]; rw [this]; exact AVR.bool _
     ·have:=Xp hs hG hc hp;simp only [Pl.val] at this;simp only [jM,aB]; rw [this]; exact AVR.bool _
    split at h
    ·rename_i hy;refine ⟨_,cb,h,by simp [AV.refs,CV.refs,SV.refs],hc',?_⟩;have:q=false:=by
      unfold isC at hy;split at hy
      ·rename_i b';simp at hy; subst hy;simp [Od,St.ev,evc] at hq; exact hq
      ·simp at hy
     subst this;cases cb <;> simpa using key
    ·rename_i hx;refine ⟨_,cb,h,by simp [AV.refs,CV.refs,SV.refs],hc',?_⟩;have:p=true:=by
      unfold isC at hx;split at hx
      ·rename_i b';simp at hx; subst hx;simp [Od,St.ev,evc] at hp; exact hp
      ·simp at hx
     subst this;cases cb <;> simpa using key
    ·exact ⟨_,cb,h,by simp [AV.refs,CV.refs,SV.refs],hc',key⟩
   ·cases cb
    ·exact ⟨_,false,h,hs.evr y,hc',hs.ev y⟩
    ·exact ⟨_,true,h,hs.evr x,hc',hs.ev x⟩
  ·simp at h
 ·simp at h
def Us (P:Program) (t:TypeId) (x:SV):Bool :=
 match P.underlying t,x with
 | some (.int _),.pl (.int _ _)=>true
 | some .string,.pl (.str _)=>true
 | some .bool,.pl (.bool _)=>true
 | _,_=>false
def Cn (x y:SV):Option Bool :=
 match x,y with
 | .pl (.int k a),.pl (.int k' b)=>cond (decide (k=k')) (some (decide (a=b))) none
 | .pl (.str a),.pl (.str b)=>some (decide (a=b))
 | .pl (.bool a),.pl (.bool b)=>some (decide (a=b))
 | _,_=>none
def Oe (P:Program):List Field->List SV->List SV->Option Bool
 | [],_,_=>some true
 | f :: fs,xs,ys=>match xs[f.offset]?,ys[f.offset]? with
  | some x,some y=>cond (!(f.name == "_") && Us P f.type x) (match Cn x y,Oe P fs xs ys with
   | some b,some c=>some (b && c)
   | _,_=>none) none
  | _,_=>none
theorem Ut {t:TypeId} {x y:SV} {u v:Value} {b:Bool} (d:Nat) (ht:Us P t x=true) (hx:SVR w ρ x u) (hy:SVR w ρ y v) (h:Cn x y=some b) :
  lV P t=some false /\ (Op.equalIn (d+1) t u v).run P w=.ok b w:=by
 unfold Us at ht;split at ht
 ·rename_i q k a hu;refine ⟨by unfold lV; rw [hu],?_⟩;unfold Cn at h;split at h
  ·rename_i k1 a1 k2 b1 e1;cases e1;obtain ⟨h1,h2⟩:=aY h;have h1:=jN h1;subst h1;have h2:=dG h2;subst h2;have hx:u=.int k a:=hx.1;have hy:v=.int k b1:=hy.1;subst hx hy;rw [run_equalIn_int w d t k q a b1 hu];congr 1
  ·rename_i e1; cases e1
  ·rename_i e1; cases e1
  ·cases h
 ·rename_i s hu;refine ⟨by unfold lV; rw [hu],?_⟩;unfold Cn at h;split at h
  ·rename_i e1; cases e1
  ·rename_i s1 s2 e1;cases e1;have h2:=dG h;subst h2;have hx:u=.string ⟨s.toArray⟩:=hx.1;have hy:v=.string ⟨s2.toArray⟩:=hy.1;subst hx hy;rw [run_equalIn_string w d t _ _ hu];congr 1;rw [ByteArray.toList_eq,ByteArray.toList_eq];simp only [BS];rw [J6,beq_iff_eq,bG]
  ·rename_i e1; cases e1
  ·cases h
 ·rename_i s hu;refine ⟨by unfold lV; rw [hu],?_⟩;unfold Cn at h;split at h
  ·rename_i e1; cases e1
  ·rename_i e1; cases e1
  ·rename_i s1 s2 e1;cases e1;have h2:=dG h;subst h2;have hx:u=.bool s:=hx.1;have hy:v=.bool s2:=hy.1;subst hx hy;rw [run_equalIn_bool' w d t _ _ hu];congr 1
  ·cases h
 ·cases ht
theorem aAy {xs ys:List SV} {us vs:Array Value} (d:Nat) (hx:SVRs w ρ xs us.toList) (hy:SVRs w ρ ys vs.toList):∀ (fs:List Field) (b:Bool),Oe P fs xs ys=some b ->
  (Op.eqFields (d+1) us vs fs).run P w=.ok b w:=by
 intro fs
 induction fs with
 | nil=>
  intro b h;have h:=dG h;subst h;rfl
 | cons f fs ih=>
  intro b h;unfold Oe at h;split at h
  ·rename_i x y ex ey;obtain ⟨h1,h2⟩:=aY h;rw [aX] at h1;split at h2
   ·rename_i b1 b2 e1 e2;have h2:=dG h2;subst h2;have lx:f.offset < us.size:=by
     have:=(iT.1 ex).1;have:=hx.1;simp at this; omega
    have ly:f.offset < vs.size:=by
     have:=(iT.1 ey).1;have:=hy.1;simp at this; omega
    have ux:us[f.offset]?=some (us[f.offset]'lx):=by simp
    have uy:vs[f.offset]?=some (vs[f.offset]'ly):=by simp
    have rx:=hx.2 f.offset x _ ex (by rw [Yd]; exact ux);have ry:=hy.2 f.offset y _ ey (by rw [Yd]; exact uy);obtain ⟨hk,hr⟩:=Ut (P:=P) d h1.2 rx ry e1;have hn:f.name ≠ "_" := by have:=h1.1; simpa using this
    have p1:(part f.type us f.offset).run P w=.ok (us[f.offset]'lx) w:=by simp [part,kP hk,lx]
    have p2:(part f.type vs f.offset).run P w=.ok (vs[f.offset]'ly) w:=by simp [part,kP hk,ly]
    simp only [Op.eqFields,ne_eq,hn,not_false_eq_true,jM,Sem.run_bind,p1,p2,hr,Result.andThen_ok];cases b1
    ·simp
    ·simp [ih b2 e2]
   ·cases h2
  ·cases h
def FU (P:Program) (T:TypeId) (op:BinOp) (xs ys:List SV) (K:AV->Option β):Option β :=
 match P.underlying T with
 | some (.struct fs)=>cond (!P.stoodInHeld T && !P.eqGuardType P.depth T) (match Oe P fs.toList xs ys with
  | some b=>match op with
   | .eql=>K (.bool b)
   | .neq=>K (.bool (!b))
   | _=>none
  | none=>none) none
 | _=>none
theorem Of {T:TypeId} {op:BinOp} {xs ys:List SV} {u v:Value} {K:AV->Option β} (hx:AVR w ρ (.c (.mix xs)) u) (hy:AVR w ρ (.c (.mix ys)) v) (h:FU P T op xs ys K=some r) :
  ∃ av z,K av=some r /\ av.refs=[] /\ AVR w ρ av z /\ ∀ xo yo,(do eqGuard op T xo yo u v; binOp op T u v:Sem Value).run P w=.ok z w:=by
 obtain ⟨us,rfl,gx⟩:=hx;obtain ⟨vs,rfl,gy⟩:=hy;unfold FU at h;split at h
 ·rename_i fs hT;obtain ⟨h1,h2⟩:=aY h;simp only [aX] at h1;have g5:P.stoodInHeld T=false:=by have:=h1.1; simpa using this
  have c4:P.eqGuardType P.depth T=false:=by have:=h1.2; simpa using this
  split at h2
  ·rename_i b hb;have hfo:P.fieldsOf T=fs:=by simp [Program.fieldsOf,hT]
   have heq:(Op.equalIn 10000 T (.agg us) (.agg vs)).run P w=.ok b w:=by
    rw [run_equalIn_struct w 9999 T _ _ (by rw [hfo]; exact hT) g5,hfo];exact aAy 9998 gx gy fs.toList b hb
   split at h2
   ·refine ⟨_,_,h2,rfl,AVR.bool _,λ xo yo=>?_⟩;rw [Sem.run_bind,mW c4,Result.andThen_ok,run_eql_struct,heq]; rfl
   ·refine ⟨_,_,h2,rfl,AVR.bool _,λ xo yo=>?_⟩;rw [Sem.run_bind,mW c4,Result.andThen_ok,run_neq_struct,heq]; rfl
   ·cases h2
  ·cases h2
 ·cases h
def FV:List SV->Option (List Value)
 | []=>some []
 | .pl (.int k n) :: r=>match FV r with
  | some l=>some (.int k n :: l)
  | none=>none
 | .pl (.str s) :: r=>match FV r with
  | some l=>some (s.val :: l)
  | none=>none
 | .pl (.bool b) :: r=>match FV r with
  | some l=>some (.bool b :: l)
  | none=>none
 | _=>none
def Xq:List SV->List SV->Bool
 | [],[]=>true
 | x :: l,y :: m=>(match Cn x y with
  | some b=>b
  | none=>false) && Xq l m
 | _,_=>false
theorem aGD:∀ {l m:List SV},Xq l m=true->l=m:=by
 intro l
 induction l with
 | nil=>intro m h; cases m with
  | nil=>rfl
  | cons y m=>cases h
 | cons x l ih=>
  intro m h;cases m with
  | nil=>cases h
  | cons y m=>
   simp only [Xq,aX] at h;obtain ⟨h1,h2⟩:=h;rw [ih h2];split at h1
   ·rename_i b hb;subst h1;unfold Cn at hb;split at hb
    ·obtain ⟨g1,g2⟩:=aY hb;have g1:=jN g1;have g2:=jN (dG g2);subst g1 g2; rfl
    ·have g2:=jN (dG hb);subst g2; rfl
    ·have g2:=jN (dG hb);subst g2; rfl
    ·cases hb
   ·cases h1
theorem Lj:∀ {l:List SV} {us vs:List Value},FV l=some vs->SVRs w ρ l us->us=vs:=by
 intro l
 induction l with
 | nil=>
  intro us vs h hx;cases h;exact VL.1 hx.1.symm
 | cons x r ih=>
  intro us vs h hx;cases us with
  | nil=>have:=hx.1; simp at this
  | cons u us=>
   have hu:=hx.2 0 x u rfl rfl;have hr:SVRs w ρ r us:=⟨by simpa using hx.1,λ i a v ha hv=>hx.2 (i+1) a v ha hv⟩;unfold FV at h;split at h
   ·rename_i e; cases e
   ·rename_i k n r' e;cases e;split at h
    ·rename_i l hl;cases h;rw [ih hl hr,show u=.int k n from hu.1]
    ·cases h
   ·rename_i s r' e;cases e;split at h
    ·rename_i l hl;cases h;rw [ih hl hr,show u=s.val from hu.1]
    ·cases h
   ·rename_i b r' e;cases e;split at h
    ·rename_i l hl;cases h;rw [ih hl hr,show u=.bool b from hu.1]
    ·cases h
   ·cases h
def BG (P:Program) (T:TypeId) (op:BinOp) (xs ys:List SV) (K:AV->Option β):Option β :=
 cond (Xq xs ys) (match FV xs with
  | some us=>match P.keyLits 20 T us with
   | some _=>cond (!P.eqGuardType P.depth T && P.keyTypeAt 20 T && (Value.agg us.toArray).formed P T) (match op with
    | .eql=>K (.bool true)
    | .neq=>K (.bool false)
    | _=>none) none
   | none=>none
  | none=>none) none
theorem KY {T:TypeId} {op:BinOp} {xs ys:List SV} {u v:Value} {K:AV->Option β} (hx:AVR w ρ (.c (.mix xs)) u) (hy:AVR w ρ (.c (.mix ys)) v) (h:BG P T op xs ys K=some r) :
  ∃ av z,K av=some r /\ av.refs=[] /\ AVR w ρ av z /\ ∀ xo yo,(do eqGuard op T xo yo u v; binOp op T u v:Sem Value).run P w=.ok z w:=by
 obtain ⟨us,rfl,gx⟩:=hx;obtain ⟨vs,rfl,gy⟩:=hy;unfold BG at h;obtain ⟨h1,h2⟩:=aY h;have e:=aGD h1;subst e;split at h2
 case h_2=>cases h2
 rename_i ws hws;have e1:=Lj hws gx;have e2:=Lj hws gy;have e3:us=vs:=Array.toList_inj.1 (e1.trans e2.symm);subst e3;split at h2
 case h_2=>cases h2
 rename_i la hla;obtain ⟨h3,h4⟩:=aY h2;simp only [aX] at h3;obtain ⟨⟨c4,c5⟩,c6⟩:=h3;have c4:P.eqGuardType P.depth T=false:=by simpa using c4
 have e4:ws.toArray=us:=by rw [<-e1]
 rw [e4] at c6;have hE:EqAt P 10000 T:=run_equalIn_deep 9980 20 T c5;obtain ⟨b,hb,hiff⟩:=hE w 20 20 (.agg us) (.agg us) la la c6 c6 (by rw [<-e1] at hla; exact hla) (by rw [<-e1] at hla; exact hla);have hb1:b=true:=hiff.2 rfl;subst hb1;split at h4
 ·refine ⟨_,_,h4,rfl,AVR.bool _,λ xo yo=>?_⟩;rw [Sem.run_bind,mW c4,Result.andThen_ok,run_eql_struct,hb]; rfl
 ·refine ⟨_,_,h4,rfl,AVR.bool _,λ xo yo=>?_⟩;rw [Sem.run_bind,mW c4,Result.andThen_ok,run_neq_struct,hb]; rfl
 ·cases h4
theorem Ri {xs:List Str} {n:Nat} {u:Value} (h:AVR w ρ (.agg (.strs xs) n) u):AVR w ρ (.c (.mix (xs.map λ s=>.pl (.str s)))) u:=by
 refine ⟨((TRow.strs xs).cells).toArray,h.1,by simp [TRow.cells],λ i x v hx hv=>?_⟩;simp only [TRow.cells,kV] at hx hv;obtain ⟨s,hs,rfl⟩:=pX.1 hx;rw [hs] at hv;cases hv;exact ⟨rfl,λ _ _ e=>by cases e⟩
def GT (P:Program) (T:TypeId) (op:BinOp) (x y:AV) (K:AV->Option β):Option β :=
 match x,y with
 | .c (.s (.pl (.agg (.strs xs) _))),.c (.s (.pl (.agg (.strs ys) _)))=>FU P T op (xs.map λ s=>.pl (.str s)) (ys.map λ s=>.pl (.str s)) K
 | .c (.s (.pl (.agg _ _))),.c (.s (.pl (.agg _ _)))=>FS P T op x y K
 | .c (.mix xs),.c (.mix ys)=>BG P T op xs ys K
 | _,_=>JI P T op x y K
def rZ (l:List AV) (K:AV->Option β):Option β :=
 match l with
 | x :: r=>match Dy aVp x r with
  | some z=>K z
  | none=>none
 | []=>none
def sA (l:List AV) (K:AV->Option β):Option β :=
 match l with
 | x :: r=>match Dy aVq x r with
  | some z=>K z
  | none=>none
 | []=>none
theorem KZ {l:List AV} {vs:List Value} {ts:Array TypeId} {ty:TypeId} {K:AV->Option β} (hl:AVRs w ρ l vs) (h:rZ l K=some r) :
  ∃ av z,K av=some r /\ (∀ id ∈ av.refs,id ∈ l.flatMap AV.refs) /\ AVR w ρ av z /\ (Builtin.min_ ts ty vs.toArray).run P w=.ok z w:=by
 have key:∀ (l:List AV) (vs:List Value) (x:AV) (u:Value) (z:AV),AVRs w ρ l vs->AVR w ρ x u->Dy aVp x l=some z ->
   ∃ v,AVR w ρ z v /\ (∀ id ∈ z.refs,id ∈ x.refs) /\ (vs.foldlM Builtin.min2 u).run P w=.ok v w:=by
  intro l
  induction l with
  | nil=>intro vs x u z hl hx h; simp [Dy] at h; subst h; cases vs with
   | nil=>exact ⟨u,hx,λ _ h=>h,rfl⟩
   | cons _ _=>simp [AVRs] at hl
  | cons y l ih=>
   intro vs x u z hl hx h
   match vs,hl with
   | v :: vs,⟨h1,h2⟩=>
    simp only [Dy] at h;split at h
    ·rename_i q hq;unfold aVp at hq;split at hq
     ·rename_i k m k' n;simp at hq; subst hq;rw [hx.ofInt,h1.ofInt];obtain ⟨v',g1,g2,g3⟩:=ih vs _ _ z h2 (AVR.int k (if n < m then n else m)) h;refine ⟨v',g1,λ id hid=>by have:=g2 id hid; simp [AV.refs,CV.refs,SV.refs] at this,?_⟩;rw [List.foldlM_cons];simp only [Builtin.min2,Sem.run_bind,Sem.run_pure,Result.andThen_ok];exact g3
     ·simp at hq
    ·simp at h
 unfold rZ at h;split at h
 ·rename_i x l
  match vs,hl with
  | v :: vs,⟨h1,h2⟩=>
   split at h
   ·rename_i z hz;obtain ⟨v',g1,g2,g3⟩:=key l vs x v z h2 h1 hz;exact ⟨z,v',h,λ id hid=>by simp [g2 id hid],g1,by simpa [Builtin.min_] using g3⟩
   ·simp at h
 ·simp at h
theorem Ka {l:List AV} {vs:List Value} {ts:Array TypeId} {ty:TypeId} {K:AV->Option β} (hl:AVRs w ρ l vs) (h:sA l K=some r) :
  ∃ av z,K av=some r /\ (∀ id ∈ av.refs,id ∈ l.flatMap AV.refs) /\ AVR w ρ av z /\ (Builtin.max_ ts ty vs.toArray).run P w=.ok z w:=by
 have key:∀ (l:List AV) (vs:List Value) (x:AV) (u:Value) (z:AV),AVRs w ρ l vs->AVR w ρ x u->Dy aVq x l=some z ->
   ∃ v,AVR w ρ z v /\ (∀ id ∈ z.refs,id ∈ x.refs) /\ (vs.foldlM Builtin.max2 u).run P w=.ok v w:=by
  intro l
  induction l with
  | nil=>intro vs x u z hl hx h; simp [Dy] at h; subst h; cases vs with
   | nil=>exact ⟨u,hx,λ _ h=>h,rfl⟩
   | cons _ _=>simp [AVRs] at hl
  | cons y l ih=>
   intro vs x u z hl hx h
   match vs,hl with
   | v :: vs,⟨h1,h2⟩=>
    simp only [Dy] at h;split at h
    ·rename_i q hq;unfold aVq at hq;split at hq
     ·rename_i k m k' n;simp at hq; subst hq;rw [hx.ofInt,h1.ofInt];obtain ⟨v',g1,g2,g3⟩:=ih vs _ _ z h2 (AVR.int k (if n > m then n else m)) h;refine ⟨v',g1,λ id hid=>by have:=g2 id hid; simp [AV.refs,CV.refs,SV.refs] at this,?_⟩;rw [List.foldlM_cons];simp only [Builtin.max2,Sem.run_bind,Sem.run_pure,Result.andThen_ok];exact g3
     ·simp at hq
    ·simp at h
 unfold sA at h;split at h
 ·rename_i x l
  match vs,hl with
  | v :: vs,⟨h1,h2⟩=>
   split at h
   ·rename_i z hz;obtain ⟨v',g1,g2,g3⟩:=key l vs x v z h2 h1 hz;exact ⟨z,v',h,λ id hid=>by simp [g2 id hid],g1,by simpa [Builtin.max_] using g3⟩
   ·simp at h
 ·simp at h
end
end
noncomputable section
open Go Go.RowKit
set_option linter.all false
section
variable {P:Program} {B:Bs} {w0 w w':World} {ρ:Plc} {s:St} {a:Act} {β:Type} {r:β}
def nT (s:St):Option Operand->Option AV
 | some x=>some (s.ev x)
 | none=>none
def FW (P:Program) (t:TypeId):Bool:=match P.underlying t with
 | some (.slice e)=>match gQ P e with
  | some m=>Nat.beq m 1
  | none=>false
 | _=>false
def Xr (P:Program) (t:TypeId) (x y:AV) (s:St) (K:AV->St->Option β):Option β :=
 match x,y with
 | .c (.s (.sub id 0 len 1)),.c (.s (.pl (.str z)))=>match bU s.hp id with
  | some b=>match b.row with
   | .t (.ints .u8 xs)=>cond (Nat.beq z.length len && (Nat.beq xs.length len && (Nat.ble 1 len && FW P t))) (K (.int .i64 (len:Nat)) (s.setBlk id b (.t (.ints .u8 (z.map λ c=>(c.toNat:Int)))))) none
   | _=>none
  | none=>none
 | _,_=>none
theorem Og (h:Rel B w0 ρ s a w) {id:Nat} {q:RB} (hq:ρ id=some q) {t:TypeId} {ts:Array TypeId} {ty:TypeId} {len c:Nat} {z:Str} (ht:ts[0]?=some t) (he:FW P t=true) (hz:z.length=len) (hn:len <= q.n) :
  (Builtin.copy_ ts ty #[.slice (some ⟨q.r,0,none⟩) len c,z.val]).run P w=.ok (.int .i64 (len:Nat)) (w.setCells q.r 0 (z.map λ b=>Value.int .u8 b.toNat)):=by
 unfold FW at he;split at he
 ·rename_i e hu;split at he
  ·rename_i m hm;obtain ⟨i,hi,him⟩:=eL hm;have h1:m=1:=aS he;have:=run_storeCells_cells (P:=P) q.r 0 (z.map λ b=>Value.int .u8 b.toNat) 0 w (λ j hj=>(h.writable hq _ (by simp at hj; omega)).1) (λ j hj=>(h.writable hq _ (by simp at hj; omega)).2) (λ v hv=>by obtain ⟨b,_,rfl⟩:=jZ.1 hv; rfl);simp only [fH] at this;simp only [Builtin.copy_,ht,Str.val];simp [run_underlying hu,Builtin.lenOf,Builtin.firstCells,sizeOf,typeInfo,hi,him,h1,hz,ByteArray.size];rw [fB (by simp [hz]),this]; rfl
  ·cases he
 ·cases he
theorem Rj {t:TypeId} {ts:Array TypeId} {ty:TypeId} {x y:AV} {u v:Value} {K:AV->St->Option β} (hs:Rel B w0 ρ s a w) (hx:AVR w ρ x u) (hy:AVR w ρ y v) (ht:ts[0]?=some t) (h:Xr P t x y s K=some r) :
  ∃ av s' w' z,K av s'=some r /\ av.refs=[] /\ AVR w' ρ av z /\ Rel B w0 ρ s' a w' /\ (Builtin.copy_ ts ty #[u,v]).run P w=.ok z w':=by
 unfold Xr at h;split at h
 case h_2=>cases h
 rename_i id len z;split at h
 case h_2=>cases h
 rename_i b hb;split at h
 case h_2=>cases h
 rename_i xs hrow;obtain ⟨h1,h2⟩:=aY h;rw [aX,aX,aX] at h1;obtain ⟨g1,g2,g3,g4⟩:=h1;have g1:=aS g1;have g2:=aS g2;have g3:=cF g3;obtain ⟨rfl,_⟩:=hy;rcases hx with ⟨q,hq,hn,o,c,rfl,ho,hc⟩ | ⟨_,h0,_⟩;rotate_left
 ·omega
 obtain ⟨b',hb',hR⟩:=hs.blk id q hq;rw [hb] at hb'; cases hb';have ho:o=0:=by
  rcases ho with ho | ho
  ·omega
  ·omega
 subst ho;obtain ⟨hl,_⟩:=hR.cell hrow;have hqn:q.n=len:=by
  have:(TRow.ints u8 xs).length=q.n:=hl;have:xs.length=q.n:=this;omega
 refine ⟨_,_,_,_,h2,rfl,?_,?_,Og hs hq ht g4 g1 (by omega)⟩
 ·exact ⟨rfl,λ r n e=>by cases e⟩
 ·rw [St.setBlk_eq];refine hs.stored hq hb (by simp; omega) (λ cs w1 _ _ hsz cs' h6=>?_) (λ j hj=>by cases hj);show cs'.toList.take q.n=(TRow.ints u8 (z.map λ c=>(c.toNat:Int))).cells;rw [h6];simp only [splL,uR,rI,TRow.cells,KD];rw [List.take_append_of_le_length (by simp; omega),fB (by simp; omega)];rfl
def nU (P:Program) (own:Bool) (b:Builtin) (ts:List TypeId) (xs:List AV) (s:St) (K:AV->St->Option β):Option β :=
 match b,ts,xs with
 | .len,t :: _,[x]=>OG P t x λ v=>K v s
 | .append,t :: t' :: _,[x,y]=>cond (Nat.beq t t') (BD P t x y s K) none
 | .min,_,xs=>rZ xs λ v=>K v s
 | .max,_,xs=>sA xs λ v=>K v s
 | .copy,t :: _,[x,y]=>Xr P t x y s K
 | _,_,_=>none
def PW (P:Program) (own:Bool) (G:fE) (o:Oper) (s:St) (K:AV->St->Option β):Option β :=
 match o.op with
 | .move x=>EH P own o.type (s.ev x) s K
 | .assign x=>EH P own o.type (s.ev x) s K
 | .pick c x y=>zA G s c x y λ v=>K v s
 | .alloc T=>FK P T s K
 | .box T x=>UZ T s (s.ev x) K
 | .build T ps=>x9 P T (evps s ps) λ v=>K v s
 | .buildSlice T len ps=>iG P own T len (evps s ps) s K
 | .load T x=>nP P T s (s.ev x) λ v=>K v s
 | .store T x v=>nQ P T s (s.ev x) (s.ev v) λ s'=>K .junk s'
 | .nilCheck x=>k8 (s.ev x) λ v=>K v s
 | .binOp op T x y _=>GT P T op (s.ev x) (s.ev y) λ v=>K v s
 | .unOp op _ x=>aUn op (s.ev x) λ v=>K v s
 | .convert src dst x=>yD P own src dst (s.ev x) s K
 | .makeFunc fn first cap=>rY fn (first.toList.map s.ev) (cap.toList.map s.ev) λ v=>K v s
 | .makeSlice T l c=>LY P T (s.ev l) (s.ev c) s K
 | .slice T x lo hi mx=>xZ P T (s.ev x) (nT s lo) (nT s hi) (nT s mx) λ v=>K v s
 | .fieldAddr T x f=>xX P T (s.ev x) f λ v=>K v s
 | .field T x f=>rW P T (s.ev x) f λ v=>K v s
 | .indexAddr T x i=>jH P T (s.ev x) (s.ev i) λ v=>K v s
 | .index T x i=>nS P T (s.ev x) (s.ev i) λ v=>K v s
 | .extract t i=>nO (s.ev t) i λ v=>K v s
 | .call { callee:=.builtin b,args,argTypes } =>nU P own b argTypes.toList (args.toList.map s.ev) s K
 | .sliceToArrayPointer T x=>xY P T (s.ev x) λ v=>K v s
 | _=>none
theorem Je (hs:Rel B w0 ρ s a w) (x:Option Operand):RO w ρ (nT s x) (x.map a.eval):=by
 cases x with
 | none=>trivial
 | some x=>exact hs.ev x
theorem kR {α γ:Type} (f:α->γ) (x:Array α):x.map f=(x.toList.map f).toArray:=by
 apply Array.ext'; simp
theorem AVRs.refs {l:List AV} {p:Nat->Prop} (h:∀ x ∈ l,∀ id ∈ x.refs,p id):∀ id ∈ l.flatMap AV.refs,p id:=by
 intro id hid;obtain ⟨x,h1,h2⟩:=fG.1 hid;exact h x h1 id h2
theorem Rk (hs:Rel B w0 ρ s a w) (l:List Operand):∀ x ∈ l.map s.ev,∀ id ∈ x.refs,Liv s id:=by
 intro x hx id hid;obtain ⟨o,_,rfl⟩:=jZ.1 hx;exact hs.evr o id hid
theorem Lk (hs:Rel B w0 ρ s a w) (ps:Array (Nat × Operand)):∀ p ∈ evps s ps,∀ id ∈ p.2.refs,Liv s id:=by
 intro p hp id hid;obtain ⟨o,_,rfl⟩:=jZ.1 hp;exact hs.evr o.2 id hid
theorem Jf {own:Bool} {b:Builtin} {ts:Array TypeId} {ty:TypeId} {consts:Array Bool} {xs:List AV} {vs:List Value} {K:AV->St->Option β} (hs:Rel B w0 ρ s a w) (hx:AVRs w ρ xs vs) (hxr:∀ x ∈ xs,∀ id ∈ x.refs,Liv s id)
  (h:nU P own b ts.toList xs s K=some r) :
  ∃ av s' w' ρ' z,K av s'=some r /\ (∀ id ∈ av.refs,Liv s' id) /\ AVR w' ρ' av z /\ Rel B w0 ρ' s' a w' /\ (builtin b ts ty consts vs.toArray).run P w=.ok (.value z) w':=by
 unfold nU at h;split at h
 ·rename_i t tr x hts
  match vs,hx with
  | [u],⟨h1,_⟩=>
   obtain ⟨av,z,q1,q2,q3,q4⟩:=Ub (ty:=ty) h1 h;refine ⟨av,s,w,ρ,z,q1,by simp [q2],q3,hs,?_⟩;have hts':ts=(t :: tr).toArray:=by rw [<-hts]
   have hl:(Builtin.len_ ts ty #[u]).run P w=.ok z w:=by
    rw [<-q4,hts'];simp [Builtin.len_]
   simp [builtin,hl]
  | u :: v :: _,⟨_,h2⟩=>simp [AVRs] at h2
 ·rename_i t t' tr x y hts;obtain ⟨g1,g2⟩:=aY h;have g1:t=t':=aS g1;subst g1
  match vs,hx with
  | [u,v],⟨h1,h2,_⟩=>
   obtain ⟨av,s',w',ρ',z,q1,q2,q3,q4,q5⟩:=KV (ty:=ty) hs h1 h2 (hxr y (by simp)) g2;refine ⟨av,s',w',ρ',z,q1,q2,q3,q4,?_⟩;have hts':ts=(t :: t :: tr).toArray:=by rw [<-hts]
   have hl:(Builtin.append_ ts ty #[u,v]).run P w=.ok z w':=by
    rw [<-q5,hts'];simp [Builtin.append_]
   simp [builtin,hl]
  | [u],⟨_,h2⟩=>simp [AVRs] at h2
  | u :: v :: q :: _,⟨_,_,h2⟩=>simp [AVRs] at h2
 ·obtain ⟨av,z,q1,q2,q3,q4⟩:=KZ (P:=P) (ts:=ts) (ty:=ty) hx h;refine ⟨av,s,w,ρ,z,q1,λ id hid=>AVRs.refs hxr id (q2 id hid),q3,hs,?_⟩;simp [builtin,q4]
 ·obtain ⟨av,z,q1,q2,q3,q4⟩:=Ka (P:=P) (ts:=ts) (ty:=ty) hx h;refine ⟨av,s,w,ρ,z,q1,λ id hid=>AVRs.refs hxr id (q2 id hid),q3,hs,?_⟩;simp [builtin,q4]
 ·rename_i t tr x y hts
  match vs,hx with
  | [u,v],⟨h1,h2,_⟩=>
   have hts0:ts[0]?=some t:=by
    have:ts=(t :: tr).toArray:=by rw [<-hts]
    rw [this]; simp
   obtain ⟨av,s',w',z,q1,q2,q3,q4,q5⟩:=Rj (ts:=ts) (ty:=ty) hs h1 h2 hts0 h;refine ⟨av,s',w',ρ,z,q1,by simp [q2],q3,q4,?_⟩;simp [builtin,q5]
  | [u],⟨_,h2⟩=>simp [AVRs] at h2
  | u :: v :: q :: _,⟨_,_,h2⟩=>simp [AVRs] at h2
 ·simp at h
theorem OpOk.value {o:Oper} {av:AV} {s':St} {v:Value} {ρ':Plc} (hr:(execOp a.eval o).run P w=.ok (.value v) w') (hv:AVR w' ρ' av v) (hf:∀ id ∈ av.refs,Liv s' id) (h:Rel B w0 ρ' s' a w') :
  OpOk P B w0 o a w av s':=⟨_,v,w',ρ',hr,.inl rfl,hv,hf,h⟩
theorem i5 {m:Sem Value} {z:Value} (h:m.run P w=.ok z w'):(do pure (Next.value (<-m)):Sem Next).run P w=.ok (.value z) w':=by
 simp only [Sem.run_bind,h,Result.andThen_ok,Sem.run_pure]
theorem aYR {m:Sem Unit} (h:m.run P w=.ok () w'):(do m; pure Next.skip:Sem Next).run P w=.ok .skip w':=by
 simp only [Sem.run_bind,h,Result.andThen_ok,Sem.run_pure]
theorem aAz {own:Bool} {G:fE} {o:Oper} {K:AV->St->Option β} (hs:Rel B w0 ρ s a w) (hG:GR G a) (h:PW P own G o s K=some r) :
  ∃ av s',K av s'=some r /\ OpOk P B w0 o a w av s':=by
 unfold PW at h;split at h
 case h_1 x ho=>
  obtain ⟨av,s',q1,q2,q3,q4⟩:=GS hs (hs.ev x) (hs.evr x) h;exact ⟨av,s',q1,.value (by simp [execOp,ho]) q3 q2 q4⟩
 case h_2 x ho=>
  obtain ⟨av,s',q1,q2,q3,q4⟩:=GS hs (hs.ev x) (hs.evr x) h;exact ⟨av,s',q1,.value (by simp [execOp,ho]) q3 q2 q4⟩
 case h_3 c x y ho=>
  obtain ⟨av,cb,q1,q2,q3,q4⟩:=Rh hs hG h;refine ⟨av,s,q1,.value (v:=if cb then a.eval x else a.eval y) ?_ q4 q2 hs⟩;simp [execOp,ho,q3,asBool]
 case h_4 T ho=>
  obtain ⟨av,s',w',ρ',v,q1,q2,q3,q4,q5⟩:=OD hs h;exact ⟨av,s',q1,.value (by simp only [execOp,ho]; exact i5 q5) q3 q2 q4⟩
 case h_5 T x ho=>
  obtain ⟨av,s',w',ρ',v,q1,q2,q3,q4,q5⟩:=Ua (P:=P) hs (hs.ev x) (hs.evr x) h;exact ⟨av,s',q1,.value (by simp only [execOp,ho]; exact i5 q5) q3 q2 q4⟩
 case h_6 T ps ho=>
  obtain ⟨av,z,q1,q2,q3,q4⟩:=OJ (hs.evps ps.toList) h;refine ⟨av,s,q1,.value (v:=z) ?_ q3 (λ id hid=>?_) hs⟩
  ·simp only [execOp,ho];apply i5;rw [kR]; exact q4
  ·obtain ⟨p,p1,p2⟩:=fG.1 (q2 id hid);exact Lk hs ps p p1 id p2
 case h_7 T len ps ho=>
  obtain ⟨av,s',w',ρ',v,q1,q2,q3,q4,q5⟩:=D6 hs (hs.evps ps.toList) (Lk hs ps) h;refine ⟨av,s',q1,.value (v:=v) ?_ q3 q2 q4⟩;simp only [execOp,ho];apply i5;rw [kR]; exact q5
 case h_8 T x ho=>
  obtain ⟨av,z,q1,q2,q3,q4⟩:=qD hs (hs.ev x) (hs.evr x) h;exact ⟨av,s,q1,.value (by simp only [execOp,ho]; exact i5 q4) q3 q2 hs⟩
 case h_9 T x v ho=>
  obtain ⟨s',w',q1,q2,q3,q4⟩:=OB hs (hs.ev x) (hs.ev v) (hs.evr v) h;exact ⟨_,s',q1,.skip,undef,w',ρ,by simp only [execOp,ho]; exact aYR q4,.inr ⟨rfl,rfl⟩,trivial,by simp [AV.refs,CV.refs,SV.refs],q3⟩
 case h_10 x ho=>
  obtain ⟨q1,q2⟩:=Gp (P:=P) (w:=w) ho rfl (hs.ev x) h;exact ⟨_,s,q1,.value q2 (hs.ev x) (hs.evr x) hs⟩
 case h_11 op T x y yt ho=>
  have key:∃ av z,K av s=some r /\ av.refs=[] /\ AVR w ρ av z /\ ∀ xo yo,(do eqGuard op T xo yo (a.eval x) (a.eval y); binOp op T (a.eval x) (a.eval y):Sem Value).run P w=.ok z w:=by
   have ex:=hs.ev x;have ey:=hs.ev y;unfold GT at h;split at h
   ·rename_i xs n1 ys n2 e1 e2;rw [e1] at ex;rw [e2] at ey;exact Of (Ri ex) (Ri ey) h
   ·exact Oc (hs.ev x) (hs.ev y) h
   ·rename_i xs ys e1 e2;rw [e1] at ex;rw [e2] at ey;exact KY ex ey h
   ·exact Ci (hs.ev x) (hs.ev y) h
  obtain ⟨av,z,q1,q2,q3,q4⟩:=key;exact ⟨av,s,q1,.value (by simp only [execOp,ho]; exact i5 (q4 x y)) q3 (by simp [q2]) hs⟩
 case h_12 op T x ho=>
  obtain ⟨av,z,q1,q2,q3,q4⟩:=FI (P:=P) (hs.ev x) h;exact ⟨av,s,q1,.value (by simp only [execOp,ho]; exact i5 q4) q3 (by simp [q2]) hs⟩
 case h_13 src dst x ho=>
  obtain ⟨av,s',w',ρ',z,q1,q2,q3,q4,q5⟩:=Ob hs (hs.ev x) (hs.evr x) h;exact ⟨av,s',q1,.value (by simp only [execOp,ho]; exact i5 q5) q3 q2 q4⟩
 case h_14 fn first cap ho=>
  obtain ⟨av,q1,q2,q3⟩:=KW (hs.evs first.toList) (hs.evs cap.toList) h;refine ⟨av,s,q1,.value ?_ q3 (λ id hid=>AVRs.refs (Rk hs cap.toList) id (q2 id hid)) hs⟩;simp only [execOp,ho];apply i5;rw [kR,kR]; rfl
 case h_15 T l c ho=>
  obtain ⟨av,s',w',ρ',v,q1,q2,q3,q4,q5⟩:=RQ hs (hs.ev l) (hs.ev c) h;exact ⟨av,s',q1,.value (by simp only [execOp,ho]; exact i5 q5) q3 q2 q4⟩
 case h_16 T x lo hi mx ho=>
  obtain ⟨av,z,q1,q2,q3,q4⟩:=OH (P:=P) (hs.ev x) (Je hs lo) (Je hs hi) (Je hs mx) h;exact ⟨av,s,q1,.value (by simp only [execOp,ho]; exact i5 q4) q3 (λ id hid=>hs.evr x id (q2 id hid)) hs⟩
 case h_17 T x f ho=>
  obtain ⟨av,z,q1,q2,q3,q4⟩:=D3 (hs.ev x) h;exact ⟨av,s,q1,.value (by simp only [execOp,ho]; exact i5 q4) q3 (λ id hid=>hs.evr x id (q2 id hid)) hs⟩
 case h_18 T x f ho=>
  obtain ⟨av,z,q1,q2,q3,q4⟩:=KR (hs.ev x) h;exact ⟨av,s,q1,.value (by simp only [execOp,ho]; exact i5 q4) q3 (λ id hid=>hs.evr x id (q2 id hid)) hs⟩
 case h_19 T x i ho=>
  obtain ⟨av,z,q1,q2,q3,q4⟩:=FL (hs.ev x) (hs.ev i) h;exact ⟨av,s,q1,.value (by simp only [execOp,ho]; exact i5 q4) q3 (λ id hid=>hs.evr x id (q2 id hid)) hs⟩
 case h_20 T x i ho=>
  obtain ⟨av,z,q1,q2,q3,q4⟩:=JT (hs.ev x) (hs.ev i) h;exact ⟨av,s,q1,.value (by simp only [execOp,ho]; exact i5 q4) q3 (λ id hid=>hs.evr x id (q2 id hid)) hs⟩
 case h_21 t i ho=>
  obtain ⟨av,z,q1,q2,q3,q4⟩:=JJ (P:=P) (hs.ev t) h;exact ⟨av,s,q1,.value (by simp only [execOp,ho]; exact i5 q4) q3 (λ id hid=>hs.evr t id (q2 id hid)) hs⟩
 case h_22 b args ts ho=>
  obtain ⟨av,s',w',ρ',z,q1,q2,q3,q4,q5⟩:=Jf (ty:=o.type) (consts:=args.map λ | .const _=>true | _=>false) hs (hs.evs args.toList) (Rk hs args.toList) h;refine ⟨av,s',q1,.value (v:=z) ?_ q3 q2 q4⟩;simp only [execOp,ho,resolve,Sem.run_bind,Sem.run_pure,Result.andThen_ok,invoke];rw [kR a.eval args];exact q5
 case h_23 T x ho=>
  obtain ⟨av,z,q1,q2,q3,q4⟩:=OE (P:=P) (hs.ev x) h;exact ⟨av,s,q1,.value (by simp only [execOp,ho]; exact i5 q4) q3 (by simp [q2]) hs⟩
 case h_24=>simp at h
end
end
end Go.Eng
