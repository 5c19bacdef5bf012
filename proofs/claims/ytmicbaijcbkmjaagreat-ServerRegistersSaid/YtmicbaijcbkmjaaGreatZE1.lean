import Derived.Test.YtmicbaijcbkmjaaGreatZA
import Derived.Deep.MidRow
import Derived.Laws.BytesArg
import Derived.Laws.IdiomStrings
import Derived.Lib.Strings
import Derived.WalkKit
import Derived.WalkLawsBesides
import Derived.WalkSpells
namespace Go.Eng
open Go.IntKind (u64 i64 u8)
noncomputable section
open Go Go.RowKit
set_option linter.all false
abbrev Str:=List UInt8
def Str.val (s:Str):Value:=.string ⟨s.toArray⟩
inductive TRow where
 | ints (k:IntKind) (xs:List Int)
 | strs (ss:List Str)
 | bools (bs:List Bool)
def TRow.cells:TRow->List Value
 | .ints k xs=>xs.map (Value.int k)
 | .strs ss=>ss.map Str.val
 | .bools bs=>bs.map Value.bool
def TRow.length:TRow->Nat
 | .ints _ xs=>xs.length
 | .strs ss=>ss.length
 | .bools bs=>bs.length
theorem TRow.length_cells (r:TRow):r.cells.length=r.length:=by cases r <;> simp [cells,length]
inductive Pl where
 | int (k:IntKind) (n:Int)
 | bool (b:Bool)
 | str (s:Str)
 | raw (v:Value)
 | agg (r:TRow) (n:Nat)
def Pl.val:Pl->Value
 | .int k n=>.int k n
 | .bool b=>.bool b
 | .str s=>s.val
 | .raw v=>v
 | .agg r _=>.agg r.cells.toArray
inductive SV where
 | junk
 | pl (p:Pl)
 | clo (f:FuncId) (first cap:List Pl)
 | clop (f:FuncId) (caps:List (Nat × Nat × Nat))
 | clor (f:FuncId) (caps:List (TRow × Nat × Nat))
 | ptr (id off ext:Nat)
 | own (id len esz:Nat)
 | sub (id lo len esz:Nat)
 | dat (r:TRow) (len esz:Nat)
 | rptr (r:TRow) (off ext:Nat)
inductive CV where
 | s (v:SV)
 | mix (l:List SV)
 | mdat (l:List SV)
 | mptr (l:List SV) (off:Nat)
inductive AV where
 | c (v:CV)
 | tup (l:List CV)
abbrev AV.s (v:SV):AV:=.c (.s v)
abbrev AV.junk:AV:=.c (.s .junk)
abbrev AV.int (k:IntKind) (n:Int):AV:=.c (.s (.pl (.int k n)))
abbrev AV.bool (b:Bool):AV:=.c (.s (.pl (.bool b)))
abbrev AV.str (x:Str):AV:=.c (.s (.pl (.str x)))
abbrev AV.agg (r:TRow) (n:Nat):AV:=.c (.s (.pl (.agg r n)))
def SV.refs:SV->List Nat
 | .ptr id _ _=>[id]
 | .own id _ _=>[id]
 | .sub id _ _ _=>[id]
 | .clop _ cs=>cs.map Prod.fst
 | _=>[]
inductive Row where
 | t (r:TRow)
 | mix (l:List SV)
def Row.refs:Row->List Nat
 | .t _=>[]
 | .mix l=>l.flatMap SV.refs
def Row.len:Row->Nat
 | .t r=>r.length
 | .mix l=>l.length
structure Blk where
 ty:TypeId
 n:Nat
 row:Row
structure RB where
 r:Nat
 cap:Nat
 n:Nat
 sz:Nat
structure Plc where
 own:Nat->Option RB
 out:Nat->Prop
instance : CoeFun Plc (λ _ => Nat -> Option RB) := ⟨Plc.own⟩
def Foreign (ρ:Plc) (b:Nat):Prop:=(∀ id x,ρ id=some x->x.r ≠ b) /\ ¬ ρ.out b
def RowAt (w:World) (b off:Nat) (cs:List Value):Prop:=∀ (i:Nat) (v:Value),cs[i]?=some v->w.cell? ⟨b,off+i,none⟩=some v
def PtrRs (ρ:Plc):List (Nat × Nat × Nat)->List Value->Prop
 | [],[]=>True
 | c :: cs,v :: vs=>(∃ x,ρ c.1=some x /\ c.2.1+c.2.2 <= x.n /\ v=.pointer (some ⟨x.r,c.2.1,none⟩)) /\ PtrRs ρ cs vs
 | _,_=>False
theorem PtrRs.same {ρ ρ':Plc}:∀ {cs:List (Nat × Nat × Nat)} {vs:List Value},PtrRs ρ cs vs->(∀ id ∈ cs.map Prod.fst,ρ' id=ρ id)->PtrRs ρ' cs vs:=by
 intro cs
 induction cs with
 | nil=>intro vs h _; cases vs with
  | nil=>trivial
  | cons v vs=>exact h
 | cons c cs ih=>
  intro vs h hr
  match vs,h with
  | v :: vs,⟨h1,h2⟩=>
   refine ⟨?_,ih h2 λ id hid=>hr id (by simp at hid ⊢; exact .inr hid)⟩;rw [hr c.1 (by simp)]; exact h1
def RptrRs (w:World) (ρ:Plc):List (TRow × Nat × Nat)->List Value->Prop
 | [],[]=>True
 | c :: cs,v :: vs=>(c.2.1+c.2.2 <= c.1.length /\ ∃ b o,v=.pointer (some ⟨b,o+c.2.1,none⟩) /\ Foreign ρ b /\ RowAt w b o c.1.cells /\ b < w.heap.size) /\ RptrRs w ρ cs vs
 | _,_=>False
theorem RptrRs.map {w w':World} {ρ ρ':Plc} (f:∀ (b o:Nat) (cs:List Value),Foreign ρ b->RowAt w b o cs->b < w.heap.size->Foreign ρ' b /\ RowAt w' b o cs /\ b < w'.heap.size) :
  ∀ {cs:List (TRow × Nat × Nat)} {vs:List Value},RptrRs w ρ cs vs->RptrRs w' ρ' cs vs:=by
 intro cs
 induction cs with
 | nil=>intro vs h; cases vs with
  | nil=>trivial
  | cons v vs=>exact h
 | cons c cs ih=>
  intro vs h
  match vs,h with
  | v :: vs,⟨⟨h0,b,o,e,hf,hr,hb⟩,h2⟩=>
   obtain ⟨g1,g2,g3⟩:=f b o _ hf hr hb;exact ⟨⟨h0,b,o,e,g1,g2,g3⟩,ih h2⟩
def SVR (w:World) (ρ:Plc):SV->Value->Prop
 | .junk,_=>True
 | .pl p,v=>v=p.val /\ (∀ r n,p=.agg r n->r.length=n)
 | .clo f first cap,v=>v=.func (.func f) (first.map Pl.val).toArray (cap.map Pl.val).toArray
 | .clop f cs,v=>∃ vs:List Value,v=.func (.func f) #[] vs.toArray /\ PtrRs ρ cs vs
 | .clor f cs,v=>∃ vs:List Value,v=.func (.func f) #[] vs.toArray /\ RptrRs w ρ cs vs
 | .ptr id off ext,v=>∃ x,ρ id=some x /\ off+ext <= x.n /\ v=.pointer (some ⟨x.r,off,none⟩)
 | .own id len esz,v=>(∃ x,ρ id=some x /\ v=.slice (some ⟨x.r,0,none⟩) len x.cap /\ x.n=len*esz /\ len <= x.cap /\ x.cap <= maxLen /\ x.cap*esz <= x.sz) ∨ (ρ id=none /\ len=0 /\ v=.slice none 0 0)
 | .sub id lo len esz,v=>(∃ x,ρ id=some x /\ (lo+len)*esz <= x.n /\ ∃ o c,v=.slice (some ⟨x.r,o,none⟩) len c /\ (len=0 ∨ o=lo*esz) /\ len <= c) ∨ (ρ id=none /\ len=0 /\ v=.slice none 0 0)
 | .dat r len esz,v=>r.length=len*esz /\ ((len=0 /\ v=.slice none 0 0) ∨ ∃ b off cap,v=.slice (some ⟨b,off,none⟩) len cap /\ len <= cap /\ Foreign ρ b /\ RowAt w b off r.cells /\ b < w.heap.size)
 | .rptr r off ext,v=>off+ext <= r.length /\ ∃ b o,v=.pointer (some ⟨b,o+off,none⟩) /\ Foreign ρ b /\ RowAt w b o r.cells /\ b < w.heap.size
def SVRs (w:World) (ρ:Plc) (l:List SV) (vs:List Value):Prop:=l.length=vs.length /\ ∀ (i:Nat) (x:SV) (v:Value),l[i]?=some x->vs[i]?=some v->SVR w ρ x v
def MRowAt (w:World) (ρ:Plc) (b off:Nat) (l:List SV):Prop:=∀ (i:Nat) (x:SV),l[i]?=some x->∃ v,w.cell? ⟨b,off+i,none⟩=some v /\ SVR w ρ x v
def CVR (w:World) (ρ:Plc):CV->Value->Prop
 | .s x,v=>SVR w ρ x v
 | .mix l,v=>∃ cs:Array Value,v=.agg cs /\ SVRs w ρ l cs.toList
 | .mdat l,v=>(l.length=0 /\ v=.slice none 0 0) ∨ ∃ b off cap,v=.slice (some ⟨b,off,none⟩) l.length cap /\ l.length <= cap /\ Foreign ρ b /\ MRowAt w ρ b off l /\ b < w.heap.size
 | .mptr l off,v=>off < l.length /\ ∃ b o,v=.pointer (some ⟨b,o+off,none⟩) /\ Foreign ρ b /\ MRowAt w ρ b o l /\ b < w.heap.size
def aFB (w:World) (ρ:Plc) (l:List CV) (vs:List Value):Prop:=l.length=vs.length /\ ∀ (i:Nat) (x:CV) (v:Value),l[i]?=some x->vs[i]?=some v->CVR w ρ x v
def AVR (w:World) (ρ:Plc):AV->Value->Prop
 | .c x,v=>CVR w ρ x v
 | .tup l,v=>∃ vs:Array Value,v=.tuple vs /\ aFB w ρ l vs.toList
def CV.refs:CV->List Nat
 | .s x=>x.refs
 | .mix l | .mdat l | .mptr l _=>l.flatMap SV.refs
def AV.refs:AV->List Nat
 | .c x=>x.refs
 | .tup l=>l.flatMap CV.refs
structure WExt (ρ:Plc) (w w':World):Prop where
 size:w.heap.size <= w'.heap.size
 keep:∀ b,b < w.heap.size->Foreign ρ b->w'.heap[b]?=w.heap[b]?
def PExt (ρ ρ':Plc) (w:World):Prop:=(∀ id x,ρ' id=some x->(∃ id' x',ρ id'=some x' /\ x'.r=x.r) ∨ w.heap.size <= x.r) /\ ∀ b,b < w.heap.size->ρ'.out b->ρ.out b
theorem WExt.refl (ρ:Plc) (w:World):WExt ρ w w:=⟨bV _,λ _ _ _=>rfl⟩
theorem PExt.refl (ρ:Plc) (w:World):PExt ρ ρ w:=⟨λ id x h=>.inl ⟨id,x,h,rfl⟩,λ _ _ h=>h⟩
theorem Foreign.ext {ρ ρ':Plc} {w:World} {b:Nat} (h:Foreign ρ b) (hp:PExt ρ ρ' w) (hb:b < w.heap.size):Foreign ρ' b:=by
 refine ⟨λ id x hx he=>?_,λ ho=>h.2 (hp.2 b hb ho)⟩;rcases hp.1 id x hx with ⟨id',x',h1,h2⟩ | h1
 ·exact h.1 id' x' h1 (h2.trans he)
 ·omega
theorem cell?_keep {w w':World} {b o:Nat} (h:w'.heap[b]?=w.heap[b]?):w'.cell? ⟨b,o,none⟩=w.cell? ⟨b,o,none⟩:=by simp [World.cell?,h]
theorem RowAt.ext {ρ:Plc} {w w':World} {b off:Nat} {cs:List Value} (h:RowAt w b off cs) (hw:WExt ρ w w') (hb:b < w.heap.size) (hf:Foreign ρ b):RowAt w' b off cs:=by
 intro i v hv;rw [cell?_keep (hw.keep b hb hf)];exact h i v hv
theorem SVR.ext {ρ ρ':Plc} {w w':World} {x:SV} {v:Value} (h:SVR w ρ x v) (hw:WExt ρ w w') (hp:PExt ρ ρ' w) (hr:∀ id ∈ x.refs,ρ' id=ρ id):SVR w' ρ' x v:=by
 cases x with
 | junk=>trivial
 | pl p=>exact h
 | clo f a b=>exact h
 | clop f cs=>obtain ⟨vs,e,h⟩:=h; exact ⟨vs,e,h.same hr⟩
 | clor f cs=>obtain ⟨vs,e,h⟩:=h; exact ⟨vs,e,h.map λ b o cs hf hra hb=>⟨hf.ext hp hb,hra.ext hw hb hf,by have:=hw.size; omega⟩⟩
 | ptr id off ext=>simpa [SVR,hr id (by simp [SV.refs])] using h
 | own id len esz=>simpa [SVR,hr id (by simp [SV.refs])] using h
 | sub id lo len esz=>simpa [SVR,hr id (by simp [SV.refs])] using h
 | dat r len esz=>
  obtain ⟨h1,h2⟩:=h;refine ⟨h1,?_⟩;rcases h2 with h2 | ⟨b,off,cap,e,hc,hf,hra,hb⟩
  ·exact .inl h2
  ·exact .inr ⟨b,off,cap,e,hc,hf.ext hp hb,hra.ext hw hb hf,by have:=hw.size; omega⟩
 | rptr r off ext=>
  obtain ⟨h1,b,o,e,hf,hra,hb⟩:=h;exact ⟨h1,b,o,e,hf.ext hp hb,hra.ext hw hb hf,by have:=hw.size; omega⟩
theorem MRowAt.ext {ρ ρ':Plc} {w w':World} {b off:Nat} {l:List SV} (h:MRowAt w ρ b off l) (hw:WExt ρ w w') (hp:PExt ρ ρ' w) (hb:b < w.heap.size) (hf:Foreign ρ b)
  (hr:∀ id ∈ l.flatMap SV.refs,ρ' id=ρ id):MRowAt w' ρ' b off l:=by
 intro i x hx;obtain ⟨v,h1,h2⟩:=h i x hx;refine ⟨v,by rw [cell?_keep (hw.keep b hb hf)]; exact h1,h2.ext hw hp λ id hid=>hr id ?_⟩;exact fG.2 ⟨x,jI hx,hid⟩
theorem SVRs.ext {ρ ρ':Plc} {w w':World} {l:List SV} {vs:List Value} (h:SVRs w ρ l vs) (hw:WExt ρ w w') (hp:PExt ρ ρ' w) (hr:∀ id ∈ l.flatMap SV.refs,ρ' id=ρ id):SVRs w' ρ' l vs :=
 ⟨h.1,λ i x v hx hv=>(h.2 i x v hx hv).ext hw hp λ id hid=>hr id (fG.2 ⟨x,jI hx,hid⟩)⟩
theorem CVR.ext {ρ ρ':Plc} {w w':World} {x:CV} {v:Value} (h:CVR w ρ x v) (hw:WExt ρ w w') (hp:PExt ρ ρ' w) (hr:∀ id ∈ x.refs,ρ' id=ρ id):CVR w' ρ' x v:=by
 cases x with
 | s x=>exact SVR.ext h hw hp hr
 | mix l=>obtain ⟨cs,e,h⟩:=h; exact ⟨cs,e,h.ext hw hp hr⟩
 | mdat l=>
  rcases h with h | ⟨b,off,cap,e,hc,hf,hra,hb⟩
  ·exact .inl h
  ·exact .inr ⟨b,off,cap,e,hc,hf.ext hp hb,hra.ext hw hp hb hf hr,by have:=hw.size; omega⟩
 | mptr l off=>
  obtain ⟨h1,b,o,e,hf,hra,hb⟩:=h;exact ⟨h1,b,o,e,hf.ext hp hb,hra.ext hw hp hb hf hr,by have:=hw.size; omega⟩
theorem AVR.ext {ρ ρ':Plc} {w w':World} {x:AV} {v:Value} (h:AVR w ρ x v) (hw:WExt ρ w w') (hp:PExt ρ ρ' w) (hr:∀ id ∈ x.refs,ρ' id=ρ id):AVR w' ρ' x v:=by
 cases x with
 | c x=>exact CVR.ext h hw hp hr
 | tup l=>
  obtain ⟨vs,e,h1,h2⟩:=h;exact ⟨vs,e,h1,λ i x v hx hv=>(h2 i x v hx hv).ext hw hp λ id hid=>hr id (fG.2 ⟨x,jI hx,hid⟩)⟩
theorem iP {i k:Nat} (h:i ≠ k):Nat.beq i k=false:=by
 cases hb:Nat.beq i k
 ·rfl
 ·exact absurd (aS hb) h
def bU {α:Type} (l:List (Nat × α)) (k:Nat):Option α :=
 List.rec (motive:=λ _=>Option α) none (λ p _ ih=>Bool.rec (motive:=λ _=>Option α) ih (some p.2) (Nat.beq p.1 k)) l
theorem bZ {α:Type} (k:Nat):bU ([]:List (Nat × α)) k=none:=rfl
theorem bH {α:Type} (i:Nat) (v:α) (r:List (Nat × α)) (k:Nat):bU ((i,v) :: r) k=cond (Nat.beq i k) (some v) (bU r k):=by
 show Bool.rec (motive:=λ _=>Option α) (bU r k) (some v) (Nat.beq i k)=_;cases Nat.beq i k <;> rfl
def upd {α:Type} (k:Nat) (v:α):List (Nat × α)->List (Nat × α)
 | []=>[(k,v)]
 | (i,u) :: r=>cond (Nat.beq i k) ((k,v) :: r) ((i,u) :: upd k v r)
theorem cS {α:Type} (k:Nat) (v:α) (l:List (Nat × α)) (j:Nat):bU (upd k v l) j=if j=k then some v else bU l j:=by
 induction l with
 | nil=>
  by_cases h:j=k
  ·subst h; simp [upd,bZ,bH]
  ·have:Nat.beq k j=false:=iP (fX h);simp [upd,bZ,bH,h,this]
 | cons p r ih=>
  obtain ⟨i,u⟩:=p;by_cases h1:i=k
  ·subst h1;by_cases h:j=i
   ·subst h; simp [upd,bZ,bH]
   ·have:Nat.beq i j=false:=iP (fX h);simp [upd,bZ,bH,h,this]
  ·have e1:Nat.beq i k=false:=iP h1;simp only [upd,e1,aD,bZ,bH,ih];by_cases h:j=k
   ·subst h; simp [e1]
   ·simp [h]
structure St where
 tm:List (Nat × AV)
 hp:List (Nat × Blk)
 nx:Nat
 sz:Nat
def St.get (s:St) (t:Nat):AV:=match bU s.tm t with | some v=>v | none=>.junk
def St.put (s:St) (t:Nat) (v:AV):St:=match s with
 | ⟨tm,hp,nx,sz⟩=>⟨(t,v) :: tm,hp,nx,sz⟩
theorem St.put_eq (s:St) (t:Nat) (v:AV):s.put t v={ s with tm:=(t,v) :: s.tm }:=rfl
theorem iD {α:Type} (k:Nat) (v:α) (l:List (Nat × α)) (j:Nat):bU ((k,v) :: l) j=if j=k then some v else bU l j:=by
 rw [bH];by_cases h:j=k
 ·subst h; simp
 ·simp [h,iP (fX h)]
def RowR (w:World) (ρ:Plc) (n:Nat) (cs:Array Value):Row->Prop
 | .t r=>cs.toList.take n=r.cells
 | .mix l=>SVRs w ρ l (cs.toList.take n)
structure BlkR (w:World) (ρ:Plc) (b:Blk) (x:RB):Prop where
 ex:∃ cs fz,w.heap[x.r]?=some (.cells cs b.ty fz) /\ (x.n <= cs.size /\ cs.size=x.sz) /\ (∀ i,i < cs.size->¬ (fz.1 <= i /\ i < fz.2)) /\ RowR w ρ x.n cs b.row
 n:b.n=x.n
structure Bs where
 n:Nat
 X:Nat->Prop
 ext:List Value
 M:Nat->Prop
 ds:List Deferred
instance : Coe Bs Nat := ⟨Bs.n⟩
def Shape (o o':Option Obj):Prop:=∀ cs ty fz,o=some (.cells cs ty fz)->∃ cs',o'=some (.cells cs' ty fz) /\ cs'.size=cs.size
theorem Shape.refl (o:Option Obj):Shape o o:=λ cs ty fz h=>⟨cs,h,rfl⟩
theorem Shape.trans {a b c:Option Obj} (h:Shape a b) (k:Shape b c):Shape a c:=λ cs ty fz e=>by
 obtain ⟨cs',h1,h2⟩:=h cs ty fz e;obtain ⟨cs2,h3,h4⟩:=k cs' ty fz h1;exact ⟨cs2,h3,h4.trans h2⟩
theorem Shape.setCell (w:World) (p:Addr) (u:Value) (k:Nat):Shape w.heap[k]? (w.setCell p u).heap[k]?:=by
 intro cs ty fz e;by_cases h:k=p.block
 ·subst h;simp only [World.setCell,Array.getElem?_modify,e,jM,Option.map_some];exact ⟨_,rfl,by split <;> simp⟩
 ·rw [Below.heap_setCell _ _ _ _ h]; exact ⟨cs,e,rfl⟩
structure BelowM (B:Bs) (w w':World):Prop where
 os:w'.os=w.os
 tape:w'.tape=w.tape
 output:w'.output=w.output
 size:w.heap.size <= w'.heap.size
 block:∀ k,k < B.n->¬ B.M k->w'.heap[k]?=w.heap[k]?
 shape:∀ k,k < B.n->B.M k->Shape w.heap[k]? w'.heap[k]?
theorem BelowM.refl (B:Bs) (w:World):BelowM B w w:=⟨rfl,rfl,rfl,bV _,λ _ _ _=>rfl,λ _ _ _=>Shape.refl _⟩
theorem BelowM.trans {B:Bs} {a b c:World} (h:BelowM B a b) (k:Below B.n b c):BelowM B a c :=
 ⟨k.os.trans h.os,k.tape.trans h.tape,k.output.trans h.output,cK h.size k.size,λ i hi hm=>(k.block i hi).trans (h.block i hi hm),λ i hi hm=>by rw [k.block i hi]; exact h.shape i hi hm⟩
theorem BelowM.drew {B:Bs} {a w:World} (h:BelowM B a w):BelowM B a w.drew:=⟨h.os,h.tape,h.output,h.size,h.block,h.shape⟩
theorem BelowM.alloc {B:Bs} {a w:World} (h:BelowM B a w) (hB:B.n <= w.heap.size) (o:Obj):BelowM B a (w.alloc o) :=
 h.trans ⟨rfl,rfl,rfl,by simp,λ k hk=>Below.heap_alloc _ _ _ (by omega)⟩
theorem BelowM.setCell {B:Bs} {a w:World} (h:BelowM B a w) {p:Addr} (hp:B.n <= p.block ∨ B.M p.block) (u:Value):BelowM B a (w.setCell p u) :=
 ⟨h.os,h.tape,h.output,by simpa [World.setCell] using h.size,λ k hk hm=>(Below.heap_setCell _ _ _ _ (λ e=>by
  subst e;rcases hp with hp | hp
  ·omega
  ·exact hm hp)).trans (h.block k hk hm),λ k hk hm=>(h.shape k hk hm).trans (Shape.setCell _ _ _ _)⟩
theorem BelowM.below {B:Bs} {a w:World} (h:BelowM B a w) (hM:∀ k,¬ B.M k):Below B.n a w:=⟨h.os,h.tape,h.output,h.size,λ k hk=>h.block k hk (hM k)⟩
def AM (B:Bs) (a:Act) (t:Nat):Value:=if t < a.tmps.size then a.tmps.getD t undef else B.ext.getD (t - a.tmps.size) undef
def Liv (s:St) (id:Nat):Prop:=id < s.nx /\ ∃ b,bU s.hp id=some b
theorem Liv.upd {s:St} {id:Nat} (h:Liv s id) (k:Nat) (b:Blk):Liv { s with hp:=upd k b s.hp } id:=by
 refine ⟨h.1,?_⟩;obtain ⟨c,hc⟩:=h.2;show ∃ b',bU (Eng.upd k b s.hp) id=some b';rw [cS]; split
 ·exact ⟨b,rfl⟩
 ·exact ⟨c,hc⟩
theorem JH {l:List (Nat × Blk)} {k id:Nat} {b c:Blk} (h:bU l id=some c):∃ b',bU ((k,b) :: l) id=some b':=by
 rw [iD]; split
 ·exact ⟨b,rfl⟩
 ·exact ⟨c,h⟩
theorem Liv.cons {s:St} {id:Nat} (h:Liv s id) (b:Blk):Liv { s with hp:=(s.nx,b) :: s.hp,nx:=s.nx+1 } id:=by
 obtain ⟨c,hc⟩:=h.2;exact ⟨Nat.lt_succ_of_lt h.1,JH hc⟩
theorem Liv.new (s:St) (b:Blk):Liv { s with hp:=(s.nx,b) :: s.hp,nx:=s.nx+1 } s.nx :=
 ⟨lD _,b,by show bU ((s.nx,b) :: s.hp) s.nx=_; rw [iD]; simp⟩
theorem Liv.at {s:St} {id k:Nat} (h:Liv s id) (b:Blk):Liv { s with hp:=(k,b) :: s.hp } id:=by
 obtain ⟨c,hc⟩:=h.2;exact ⟨h.1,JH hc⟩
structure Rel (B:Bs) (w0:World) (ρ:Plc) (s:St) (a:Act) (w:World):Prop where
 tm:∀ t,AVR w ρ (s.get t) (AM B a t)
 blk:∀ id x,ρ id=some x->∃ b,bU s.hp id=some b /\ BlkR w ρ b x
 lt:∀ id x,ρ id=some x->id < s.nx
 inj:∀ i j x y,ρ i=some x->ρ j=some y->x.r=y.r->i=j
 base:∀ id x,ρ id=some x->(B.n <= x.r ∨ B.M x.r) /\ x.r < w.heap.size
 size:a.tmps.size=s.sz
 df:a.defers=B.ds
 below:BelowM B w0 w
 b0:B <= w0.heap.size
 rt:∀ t id,id ∈ (s.get t).refs->Liv s id
 rb:∀ i b,bU s.hp i=some b->∀ id ∈ b.row.refs,Liv s id
 gh:∀ i b,bU s.hp i=some b->ρ i=none->b.row.len=0
 ob:∀ b,ρ.out b->b < w.heap.size
 ox:∀ b,B.X b->ρ.out b
theorem Rel.put {B:Bs} {w0 w:World} {ρ:Plc} {s:St} {a:Act} (h:Rel B w0 ρ s a w) {d:Nat} {x:AV} {v:Value} (hx:AVR w ρ x v) (hr:∀ id ∈ x.refs,Liv s id) (hd:d < s.sz):Rel B w0 ρ (s.put d x) (a.put (some d) v) w:=by
 refine ⟨λ t=>?_,h.blk,h.lt,h.inj,h.base,by simp [Act.put,St.put_eq,h.size],h.df,h.below,h.b0,λ t id=>?_,h.rb,h.gh,h.ob,h.ox⟩;rotate_left
 ·by_cases e:t=d
  ·subst e;have h1:(s.put t x).get t=x:=by simp [St.get,St.put_eq,iD]
   rw [h1]; exact hr id
  ·have h1:(s.put d x).get t=s.get t:=by simp [St.get,St.put_eq,iD,e]
   rw [h1]; exact h.rt t id
 have hs:=h.size;have hz:(a.put (some d) v).tmps.size=a.tmps.size:=by simp [Act.put]
 by_cases e:t=d
 ·subst e;have h1:(s.put t x).get t=x:=by simp [St.get,St.put_eq,iD]
  have h2:AM B (a.put (some t) v) t=v:=by
   unfold AM;rw [hz,aT (by omega)];simp [Act.put,Array.getD,hs,hd]
  rw [h1,h2]; exact hx
 ·have h1:(s.put d x).get t=s.get t:=by simp [St.get,St.put_eq,iD,e]
  have h2:AM B (a.put (some d) v) t=AM B a t:=by
   unfold AM;rw [hz];by_cases ht:t < a.tmps.size
   ·rw [aT ht,aT ht];simp only [Act.put,Array.getD];simp [ht,aHX,fX e]
   ·rw [aW ht,aW ht]
  rw [h1,h2]; exact h.tm t
theorem k7 {B:Bs} {a:Act} {t:Nat} (h:t < a.tmps.size):AM B a t=a.tmps.getD t undef:=aT h
theorem Rel.tmL {B:Bs} {w0 w:World} {ρ:Plc} {s:St} {a:Act} (h:Rel B w0 ρ s a w) {t:Nat} (ht:t < s.sz):AVR w ρ (s.get t) (a.tmps.getD t undef):=by
 have:=h.tm t;unfold AM at this;rwa [aT (by rw [h.size]; exact ht)] at this
end
noncomputable section
open Go Go.RowKit
set_option linter.all false
def FF (k:IntKind):List Value->Option (List Int)
 | []=>some []
 | .int k' n :: r=>if k=k' then (match FF k r with | some l=>some (n :: l) | none=>none) else none
 | _ :: _=>none
theorem RK {k:IntKind}:∀ {l:List Value} {xs:List Int},FF k l=some xs->l=xs.map (Value.int k):=by
 intro l
 induction l with
 | nil=>intro xs h; simp [FF] at h; subst h; rfl
 | cons v r ih=>
  intro xs h;cases v with
  | int k' n=>
   simp only [FF] at h;split at h
   ·rename_i e;subst e;split at h
    ·rename_i l hl;simp at h; subst h;simp [ih hl]
    ·simp at h
   ·simp at h
  | _=>simp [FF] at h
def XP (cs:Array Value):AV :=
 match cs.toList with
 | .int k n :: r=>match FF k (.int k n :: r) with
  | some xs=>.agg (.ints k xs) xs.length
  | none=>.s (.pl (.raw (.agg cs)))
 | _=>.s (.pl (.raw (.agg cs)))
def evc:Value->AV
 | .int k n=>.int k n
 | .bool b=>.bool b
 | .string b=>.str b.data.toList
 | .agg cs=>XP cs
 | v=>.s (.pl (.raw v))
theorem aFC (w:World) (ρ:Plc) (cs:Array Value):AVR w ρ (XP cs) (.agg cs):=by
 unfold XP;split
 ·rename_i k n r h;split
  ·rename_i xs hx;refine ⟨?_,?_⟩
   ·have:=RK hx;rw [<-h] at this;simp [Pl.val,TRow.cells,<-this]
   ·intro r n' e; cases e; rfl
  ·exact ⟨rfl,λ _ _ e=>by cases e⟩
 ·exact ⟨rfl,λ _ _ e=>by cases e⟩
theorem aFD (w:World) (ρ:Plc) (v:Value):AVR w ρ (evc v) v:=by
 cases v with
 | string b=>exact ⟨by simp [Pl.val,Str.val],λ _ _ e=>by cases e⟩
 | agg cs=>exact aFC w ρ cs
 | _=>exact ⟨rfl,λ _ _ e=>by cases e⟩
def St.ev (s:St):Operand->AV
 | .tmp t=>cond (Nat.blt t s.sz) (s.get t) .junk
 | .const v=>evc v
 | .func f=>.s (.clo f [] [])
 | .global g=>.s (.pl (.raw (.pointer (some ⟨g,0,none⟩))))
theorem Rel.ev {B:Bs} {w0 w:World} {ρ:Plc} {s:St} {a:Act} (h:Rel B w0 ρ s a w) (x:Operand):AVR w ρ (s.ev x) (a.eval x):=by
 cases x with
 | tmp t=>
  show AVR w ρ (cond (Nat.blt t s.sz) (s.get t) .junk) _;cases hb:Nat.blt t s.sz
  ·exact trivial
  ·exact h.tmL (cF hb)
 | const v=>exact aFD w ρ v
 | func f=>rfl
 | global g=>exact ⟨rfl,λ _ _ e=>by cases e⟩
def OpOk (P:Program) (B:Bs) (w0:World) (o:Oper) (a:Act) (w:World) (av:AV) (s':St):Prop :=
 ∃ n v w' ρ',(execOp a.eval o).run P w=.ok n w' /\ (n=.value v ∨ (n=.skip /\ v=undef)) /\ AVR w' ρ' av v /\ (∀ id ∈ av.refs,Liv s' id) /\ Rel B w0 ρ' s' a w'
theorem OpOk.pure {P:Program} {B:Bs} {w0 w:World} {ρ:Plc} {s:St} {a:Act} {o:Oper} {av:AV} {v:Value} (h:Rel B w0 ρ s a w) (hr:(execOp a.eval o).run P w=.ok (.value v) w) (hv:AVR w ρ av v) (hf:∀ id ∈ av.refs,Liv s id) :
  OpOk P B w0 o a w av s:=⟨_,v,w,ρ,hr,.inl rfl,hv,hf,h⟩
def d8 (k:IntKind) (x y:Int):Int:=k.wrap ((BitVec.ofInt k.bits x &&& BitVec.ofInt k.bits y).toNat:Int)
def Du (k:IntKind) (x y:Int):Int:=k.wrap ((BitVec.ofInt k.bits x ||| BitVec.ofInt k.bits y).toNat:Int)
def fL (k:IntKind) (x y:Int):Int:=k.wrap ((BitVec.ofInt k.bits x ^^^ BitVec.ofInt k.bits y).toNat:Int)
def XQ (k:IntKind) (x y:Int):Int:=k.wrap ((BitVec.ofInt k.bits x &&& ~~~ BitVec.ofInt k.bits y).toNat:Int)
def j9 (k:IntKind) (x y:Int):Int:=k.wrap (x*2 ^ (min y.toNat k.bits))
def eK (k:IntKind) (x y:Int):Int:=x.fdiv (2 ^ (min y.toNat k.bits))
variable {β:Type}
def N9 (op:BinOp) (k:IntKind) (x y:Int) (K:AV->Option β):Option β :=
 match op with
 | .add=>K (.int k (k.wrap (x+y)))
 | .sub=>K (.int k (k.wrap (x - y)))
 | .mul=>K (.int k (k.wrap (x*y)))
 | .quo=>cond (decide (y=0)) none (K (.int k (k.wrap (x.tdiv y))))
 | .rem=>cond (decide (y=0)) none (K (.int k (x.tmod y)))
 | .and=>K (.int k (d8 k x y))
 | .or=>K (.int k (Du k x y))
 | .xor=>K (.int k (fL k x y))
 | .andNot=>K (.int k (XQ k x y))
 | .eql=>K (.bool (decide (x=y)))
 | .neq=>K (.bool (!decide (x=y)))
 | .lss=>K (.bool (decide (x < y)))
 | .leq=>K (.bool (decide (x <= y)))
 | .gtr=>K (.bool (decide (y < x)))
 | .geq=>K (.bool (decide (y <= x)))
 | _=>none
def OA (op:BinOp) (x y:Str) (K:AV->Option β):Option β :=
 match op with
 | .add=>cond (decide (x.length+y.length <= 9223372036854775807)) (K (.str (x++y))) none
 | .eql=>K (.bool (decide (x=y)))
 | .neq=>K (.bool (!decide (x=y)))
 | _=>none
def JI (P:Program) (T:TypeId) (op:BinOp) (x y:AV) (K:AV->Option β):Option β :=
 match x,y with
 | .c (.s (.pl (.int k a))),.c (.s (.pl (.int k' b)))=>
  match op with
  | .shl=>cond (decide (b < 0)) none (K (.int k (j9 k a b)))
  | .shr=>cond (decide (b < 0)) none (K (.int k (eK k a b)))
  | op=>if k=k' then N9 op k a b K else none
 | .c (.s (.pl (.str a))),.c (.s (.pl (.str b)))=>OA op a b K
 | .c (.s (.pl (.bool a))),.c (.s (.pl (.bool b)))=>
  match P.underlying T with
  | some .bool=>
   match op with
   | .eql=>K (.bool (a == b))
   | .neq=>K (.bool (!(a == b)))
   | _=>none
  | _=>none
 | _,_=>none
section
variable {P:Program} {B:Bs} {w0 w:World} {ρ:Plc} {s:St} {a:Act} {o:Oper} {r:β}
theorem aY {α:Type} {b:Bool} {x:Option α} {r:α} (h:cond b x none=some r):b=true /\ x=some r:=by cases b <;> simp_all
theorem UX {α:Type} {b:Bool} {x:Option α} {r:α} (h:cond b none x=some r):b=false /\ x=some r:=by cases b <;> simp_all
theorem AVR.ofInt {k:IntKind} {n:Int} {v:Value} (h:AVR w ρ (.int k n) v):v=.int k n:=h.1
theorem AVR.ofBool {b:Bool} {v:Value} (h:AVR w ρ (.bool b) v):v=.bool b:=h.1
theorem AVR.ofStr {x:Str} {v:Value} (h:AVR w ρ (.str x) v):v=.string ⟨x.toArray⟩:=h.1
theorem AVR.int (k:IntKind) (n:Int):AVR w ρ (.int k n) (.int k n):=⟨rfl,λ _ _ e=>by cases e⟩
theorem AVR.bool (b:Bool):AVR w ρ (.bool b) (.bool b):=⟨rfl,λ _ _ e=>by cases e⟩
theorem AVR.str (x:Str):AVR w ρ (.str x) (.string ⟨x.toArray⟩):=⟨rfl,λ _ _ e=>by cases e⟩
theorem AN (op:BinOp) (t:TypeId) (x y:Operand) (k:IntKind) (m:Int) (v:Value) (w:World):(eqGuard op t x y (.int k m) v).run P w=.ok () w:=by
 unfold eqGuard;cases op <;> simp
theorem RL (op:BinOp) (t:TypeId) (x y:Operand) (b:ByteArray) (v:Value) (w:World):(eqGuard op t x y (.string b) v).run P w=.ok () w:=by
 unfold eqGuard;cases op <;> simp
theorem Dv (op:BinOp) (t:TypeId) (x y:Operand) (b:Bool) (v:Value) (w:World):(eqGuard op t x y (.bool b) v).run P w=.ok () w:=by
 unfold eqGuard;cases op <;> simp
theorem rV (b:List UInt8):(ByteArray.mk b.toArray).toList=b:=by
 rw [ByteArray.toList_eq]
theorem Ci {T:TypeId} {op:BinOp} {x y:AV} {u v:Value} {K:AV->Option β} (hx:AVR w ρ x u) (hy:AVR w ρ y v) (h:JI P T op x y K=some r) :
  ∃ av z,K av=some r /\ av.refs=[] /\ AVR w ρ av z /\ ∀ xo yo,(do eqGuard op T xo yo u v; binOp op T u v:Sem Value).run P w=.ok z w:=by
 unfold JI at h;split at h
 ·rename_i k1 a k2 b;rw [hx.ofInt,hy.ofInt];split at h
  ·obtain ⟨h1,h2⟩:=UX h;refine ⟨_,_,h2,rfl,AVR.int _ _,λ xo yo=>?_⟩;have h1:¬ b < 0:=by simpa using h1
   simp [AN,binOp,Op.shift,h1,j9]
  ·obtain ⟨h1,h2⟩:=UX h;refine ⟨_,_,h2,rfl,AVR.int _ _,λ xo yo=>?_⟩;have h1:¬ b < 0:=by simpa using h1
   simp [AN,binOp,Op.shift,h1,eK]
  ·rename_i hn1 hn2;split at h
   ·rename_i e;subst e;have key:∀ z,(binOp op T (.int k1 a) (.int k1 b)).run P w=.ok z w->∀ xo yo,(do eqGuard op T xo yo (.int k1 a) (.int k1 b); binOp op T (.int k1 a) (.int k1 b):Sem Value).run P w=.ok z w:=by
     intro z hz xo yo;simp [AN,hz]
    cases op <;> simp only [N9] at h <;> first
     | (exact absurd rfl hn1)
     | (exact absurd rfl hn2)
     | (exact absurd h (by simp))
     | (obtain ⟨h1, h2⟩ := UX h
        refine ⟨_, _, h2, rfl, AVR.int _ _, key _ ?_⟩;have h1 : ¬ b = 0 := by simpa using h1
        simp [binOp, Op.intDiv, h1])
     | (refine ⟨_, _, h, rfl, AVR.int _ _, key _ ?_⟩
        simp [binOp, Op.intArith, Op.intBits, d8, Du, fL, XQ]; done)
     | (refine ⟨_, _, h, rfl, AVR.bool _, key _ ?_⟩
        simp [binOp, Op.intCmp, BEq.beq, bne]; done)
   ·simp at h
 ·rename_i a b;rw [hx.ofStr,hy.ofStr];have key:∀ z,(binOp op T (.string ⟨a.toArray⟩) (.string ⟨b.toArray⟩)).run P w=.ok z w->∀ xo yo,(do eqGuard op T xo yo (.string ⟨a.toArray⟩) (.string ⟨b.toArray⟩); binOp op T (.string ⟨a.toArray⟩) (.string ⟨b.toArray⟩):Sem Value).run P w=.ok z w:=by
   intro z hz xo yo;simp [RL,hz]
  cases op <;> simp only [OA] at h <;> try (exact absurd h (by simp))
  ·obtain ⟨h1,h2⟩:=aY h;refine ⟨_,_,h2,rfl,AVR.str _,key _ ?_⟩;have h1:a.length+b.length <= 9223372036854775807:=by simpa using h1
   have hs:¬ ((((ByteArray.mk a.toArray).size+(ByteArray.mk b.toArray).size:Nat):Int) > i64.max):=by
    have e1:(ByteArray.mk a.toArray).size=a.length:=by simp [ByteArray.size]
    have e2:(ByteArray.mk b.toArray).size=b.length:=by simp [ByteArray.size]
    have e3:i64.max=9223372036854775807:=by decide
    rw [e1,e2,e3]; omega
   have e:(ByteArray.mk a.toArray)++(ByteArray.mk b.toArray)=ByteArray.mk (a++b).toArray:=by
    apply ByteArray.ext; simp
   rw [binOp_string_add];simp only [Op.stringOp];rw [aW hs,e]; rfl
  ·refine ⟨_,_,h,rfl,AVR.bool _,key _ ?_⟩;rw [binOp_string_eql,rV,rV];by_cases e:a=b <;> simp [e]
  ·refine ⟨_,_,h,rfl,AVR.bool _,key _ ?_⟩;rw [binOp_string_neq,rV,rV];by_cases e:a=b <;> simp [e]
 ·rename_i a b;rw [hx.ofBool,hy.ofBool];split at h
  ·rename_i hT;split at h
   ·refine ⟨_,_,h,rfl,AVR.bool _,λ xo yo=>?_⟩;simp only [Sem.run_bind,Dv,Result.andThen_ok];exact run_eql_bool _ T a b hT
   ·refine ⟨_,_,h,rfl,AVR.bool _,λ xo yo=>?_⟩;simp only [Sem.run_bind,Dv,Result.andThen_ok];exact run_neq_bool _ T a b hT
   ·simp at h
  ·simp at h
 ·simp at h
def aUn (op:UnOp) (x:AV) (K:AV->Option β):Option β :=
 match op,x with
 | .not,.c (.s (.pl (.bool b)))=>K (.bool (!b))
 | .neg,.c (.s (.pl (.int k n)))=>K (.int k (k.wrap (0 - n)))
 | .xor,.c (.s (.pl (.int k n)))=>K (.int k (fL k (if k.signed then -1 else k.max) n))
 | _,_=>none
theorem FI {op:UnOp} {x:AV} {u:Value} {K:AV->Option β} (hx:AVR w ρ x u) (h:aUn op x K=some r) :
  ∃ av z,K av=some r /\ av.refs=[] /\ AVR w ρ av z /\ (Op.unary op u).run P w=.ok z w:=by
 unfold aUn at h;split at h
 ·rw [hx.ofBool]; exact ⟨_,_,h,rfl,AVR.bool _,rfl⟩
 ·rw [hx.ofInt]; exact ⟨_,_,h,rfl,AVR.int _ _,rfl⟩
 ·rw [hx.ofInt]; exact ⟨_,_,h,rfl,AVR.int _ _,rfl⟩
 ·simp at h
def Dw (cells:Array Value):Option TRow :=
 match cells.toList with
 | [.int k _]=>some (.ints k [])
 | [.string _]=>some (.strs [])
 | [.bool _]=>some (.bools [])
 | .int k _ :: .int _ _ :: _=>some (.ints k [])
 | _=>none
def jV (P:Program) (T:TypeId) (x:AV):AV :=
 match x with
 | .c (.s (.pl (.raw (.slice none 0 0))))=>
  match P.underlying T with
  | some (.slice e)=>match P.info? e with
   | some i=>match i.zero with
    | some z=>match Dw z.cells with
     | some row=>.s (.dat row 0 i.size)
     | none=>.c (.mdat [])
    | none=>x
   | none=>x
  | _=>x
 | x=>x
theorem Dx {cells:Array Value} {row:TRow} (h:Dw cells=some row):row.length=0:=by
 unfold Dw at h;split at h <;> first | (simp at h; subst h; rfl) | simp at h
theorem jT {T:TypeId} {x:AV} {v:Value} (h:AVR w ρ x v):AVR w ρ (jV P T x) v:=by
 unfold jV;split
 ·have e:v=.slice none 0 0:=h.1;subst e;split
  ·split
   ·split
    ·split
     ·rename_i row hrow;exact ⟨by simp [Dx hrow],.inl ⟨rfl,rfl⟩⟩
     ·exact .inl ⟨rfl,rfl⟩
    ·exact h
   ·exact h
  ·exact h
 ·exact h
theorem iE {T:TypeId} {x:AV}:(jV P T x).refs=x.refs:=by
 unfold jV;split
 ·repeat (first | rfl | split)
 ·rfl
def AO (P:Program) (src dst:TypeId) (x:AV) (K:AV->Option β):Option β :=
 match P.underlying src,P.underlying dst with
 | some _,some d=>
  match d,x with
  | .int k,.c (.s (.pl (.int _ n)))=>K (.int k (k.wrap n))
  | .string,.c (.s (.pl (.str s)))=>K (.str s)
  | _,_=>none
 | _,_=>none
theorem GM {src dst:TypeId} {x:AV} {u:Value} {K:AV->Option β} (hx:AVR w ρ x u) (h:AO P src dst x K=some r) :
  ∃ av z,K av=some r /\ av.refs=[] /\ AVR w ρ av z /\ (convert src dst u).run P w=.ok z w:=by
 unfold AO at h;split at h
 ·rename_i sd dd hs hd;split at h
  ·rw [hx.ofInt];refine ⟨_,_,h,rfl,AVR.int _ _,?_⟩;simp [convert,underlying,hs,hd,Conv.intToInt]
  ·rw [hx.ofStr];refine ⟨_,_,h,rfl,AVR.str _,?_⟩;simp [convert,underlying,hs,hd]
  ·simp at h
 ·simp at h
def nO (x:AV) (i:Nat) (K:AV->Option β):Option β :=
 match x with
 | .tup l=>match l[i]? with
  | some c=>K (.c c)
  | none=>none
 | _=>none
theorem JJ {x:AV} {i:Nat} {u:Value} {K:AV->Option β} (hx:AVR w ρ x u) (h:nO x i K=some r) :
  ∃ av z,K av=some r /\ (∀ id ∈ av.refs,id ∈ x.refs) /\ AVR w ρ av z /\ (Instr.extract u i).run P w=.ok z w:=by
 unfold nO at h;split at h
 ·rename_i l;split at h
  ·rename_i c hc;obtain ⟨vs,rfl,hl,hv⟩:=hx;have hi:i < vs.size:=by
    have:=(iT.1 hc).1;simp at hl; omega
   have e:vs[i]?=some vs[i]:=by simp [hi]
   refine ⟨_,vs[i],h,λ id hid=>fG.2 ⟨c,jI hc,hid⟩,hv i c vs[i] hc (by simp),?_⟩;simp [Instr.extract,e]
  ·simp at h
 ·simp at h
def aVp (x y:AV):Option AV :=
 match x,y with
 | .c (.s (.pl (.int k a))),.c (.s (.pl (.int k' b)))=>some (.int k (if b < a then b else a))
 | _,_=>none
def aVq (x y:AV):Option AV :=
 match x,y with
 | .c (.s (.pl (.int k a))),.c (.s (.pl (.int k' b)))=>some (.int k (if b > a then b else a))
 | _,_=>none
def Dy (f:AV->AV->Option AV):AV->List AV->Option AV
 | x,[]=>some x
 | x,y :: r=>match f x y with
  | some z=>Dy f z r
  | none=>none
end
end
noncomputable section
open Go Go.RowKit
set_option linter.all false
def qC (ρ:Plc) (id:Nat) (x:RB):Plc:=⟨λ j=>if j=id then some x else ρ j,ρ.out⟩
theorem dC (ρ:Plc) (id:Nat) (x:RB):qC ρ id x id=some x:=by simp [qC]
theorem dK (ρ:Plc) {id j:Nat} (x:RB) (h:j ≠ id):qC ρ id x j=ρ j:=by simp [qC,h]
def TRow.get:TRow->Nat->SV
 | .ints k xs,i=>.pl (.int k (xs.getD i 0))
 | .strs ss,i=>.pl (.str (ss.getD i []))
 | .bools bs,i=>.pl (.bool (bs.getD i false))
def TRow.sub:TRow->Nat->Nat->TRow
 | .ints k xs,o,n=>.ints k ((xs.drop o).take n)
 | .strs ss,o,n=>.strs ((ss.drop o).take n)
 | .bools bs,o,n=>.bools ((bs.drop o).take n)
def XR (r:TRow) (o n total:Nat):TRow:=cond (Nat.beq o 0 && Nat.beq n total) r (r.sub o n)
def TRow.set:TRow->Nat->SV->Option TRow
 | .ints k xs,i,.pl (.int k' n)=>if k=k' then some (.ints k (xs.set i n)) else none
 | .strs ss,i,.pl (.str x)=>some (.strs (ss.set i x))
 | .bools bs,i,.pl (.bool b)=>some (.bools (bs.set i b))
 | _,_,_=>none
def splL {α:Type} (l:List α) (o:Nat) (v:List α):List α:=l.take o++(v++l.drop (o+v.length))
def RM {α:Type} (l:List α) (o:Nat) (v:List α) (n total:Nat):List α:=cond (Nat.beq o 0 && Nat.beq n total) v (splL l o v)
def TRow.splice (o n total:Nat):TRow->TRow->Option TRow
 | .ints k xs,.ints k' ys=>if k=k' then some (.ints k (RM xs o ys n total)) else none
 | .strs xs,.strs ys=>some (.strs (RM xs o ys n total))
 | .bools xs,.bools ys=>some (.bools (RM xs o ys n total))
 | _,_=>none
theorem TRow.get_cell {w:World} {ρ:Plc} (r:TRow) {i:Nat} {v:Value} (h:r.cells[i]?=some v):SVR w ρ (r.get i) v:=by
 cases r with
 | ints k xs=>
  simp only [TRow.cells,kV,pX] at h;obtain ⟨x,hx,rfl⟩:=h;exact ⟨by simp [Pl.val,List.getD,hx],λ _ _ e=>by cases e⟩
 | strs ss=>
  simp only [TRow.cells,kV,pX] at h;obtain ⟨x,hx,rfl⟩:=h;exact ⟨by simp [Pl.val,List.getD,hx],λ _ _ e=>by cases e⟩
 | bools bs=>
  simp only [TRow.cells,kV,pX] at h;obtain ⟨x,hx,rfl⟩:=h;exact ⟨by simp [Pl.val,List.getD,hx],λ _ _ e=>by cases e⟩
theorem TRow.get_refs (r:TRow) (i:Nat):(r.get i).refs=[]:=by cases r <;> rfl
theorem TRow.sub_cells (r:TRow) (o n:Nat):(r.sub o n).cells=(r.cells.drop o).take n:=by
 cases r <;> simp [TRow.sub,TRow.cells,List.map_take,List.map_drop]
theorem GN (r:TRow) (o n total:Nat) (h:r.length=total):(XR r o n total).cells=(r.cells.drop o).take n:=by
 unfold XR;cases hb:Nat.beq o 0 && Nat.beq n total
 ·simpa using r.sub_cells o n
 ·simp only [aX] at hb;have h1:=aS hb.1;have h2:=aS hb.2;subst h1; subst h2;simp only [aB,kU];rw [fB];rw [r.length_cells,h]; exact bV _
theorem jA {α:Type} (l v:List α) (o:Nat) (h:o+v.length <= l.length):(splL l o v).length=l.length:=by simp [splL]; omega
theorem JK {α:Type} (l v:List α) (o n total:Nat) (hv:v.length=n) (hl:l.length=total) (h:o+n <= total):RM l o v n total=splL l o v:=by
 unfold RM;cases hb:Nat.beq o 0 && Nat.beq n total
 ·rfl
 ·simp only [aX] at hb;have h1:=aS hb.1;have h2:=aS hb.2;subst h1;have:l.drop v.length=[]:=List.drop_of_length_le (by omega);simp [splL,this]
theorem wM {α γ:Type} (f:α->γ) (l v:List α) (o:Nat):(splL l o v).map f=splL (l.map f) o (v.map f):=by simp [splL,List.map_take,List.map_drop]
theorem Dz {α:Type} (l:List α) (o:Nat) (x:α) (h:o < l.length):l.set o x=splL l o [x]:=by
 rw [Yg];simp [h,splL]
theorem TRow.set_cells {r r':TRow} {i:Nat} {x:SV} (h:r.set i x=some r') (hi:i < r.length):∃ p:Pl,x=.pl p /\ (∀ a b,p ≠ .agg a b) /\ r'.length=r.length /\ r'.cells=splL r.cells i [p.val]:=by
 unfold TRow.set at h;split at h
 ·rename_i k xs i k' n;split at h
  ·rename_i e;subst e;simp at h; subst h;refine ⟨_,rfl,by simp,by simp [TRow.length],?_⟩;simp only [TRow.cells];rw [Dz _ _ _ (by simpa [TRow.length] using hi),wM];rfl
  ·simp at h
 ·simp at h; subst h;refine ⟨_,rfl,by simp,by simp [TRow.length],?_⟩;simp only [TRow.cells];rw [Dz _ _ _ (by simpa [TRow.length] using hi),wM];rfl
 ·simp at h; subst h;refine ⟨_,rfl,by simp,by simp [TRow.length],?_⟩;simp only [TRow.cells];rw [Dz _ _ _ (by simpa [TRow.length] using hi),wM];rfl
 ·simp at h
theorem TRow.splice_cells {r u r':TRow} {o n total:Nat} (h:TRow.splice o n total r u=some r') (hu:u.length=n) (hr:r.length=total) (ho:o+n <= total) :
  r'.length=r.length /\ r'.cells=splL r.cells o u.cells:=by
 unfold TRow.splice at h;split at h
 ·split at h
  ·rename_i e;subst e;simp at h; subst h;simp only [TRow.length] at *;rw [JK _ _ _ _ _ hu hr ho];exact ⟨jA _ _ _ (by omega),by simp [TRow.cells,wM]⟩
  ·simp at h
 ·simp at h; subst h;simp only [TRow.length] at *;rw [JK _ _ _ _ _ hu hr ho];exact ⟨jA _ _ _ (by omega),by simp [TRow.cells,wM]⟩
 ·simp at h; subst h;simp only [TRow.length] at *;rw [JK _ _ _ _ _ hu hr ho];exact ⟨jA _ _ _ (by omega),by simp [TRow.cells,wM]⟩
 ·simp at h
def JL (k:IntKind):List SV->Option (List Int)
 | []=>some []
 | .pl (.int k' n) :: r=>if k=k' then (match JL k r with | some l=>some (n :: l) | none=>none) else none
 | _ :: _=>none
def JM:List SV->Option (List Str)
 | []=>some []
 | .pl (.str x) :: r=>(match JM r with | some l=>some (x :: l) | none=>none)
 | _ :: _=>none
def D0:List SV->Option (List Bool)
 | []=>some []
 | .pl (.bool x) :: r=>(match D0 r with | some l=>some (x :: l) | none=>none)
 | _ :: _=>none
def aFE (l:List SV):Option TRow :=
 match l with
 | .pl (.int k n) :: r=>match JL k (.pl (.int k n) :: r) with | some xs=>some (.ints k xs) | none=>none
 | .pl (.str x) :: r=>match JM (.pl (.str x) :: r) with | some xs=>some (.strs xs) | none=>none
 | .pl (.bool x) :: r=>match D0 (.pl (.bool x) :: r) with | some xs=>some (.bools xs) | none=>none
 | _=>none
def JN (l:List SV):CV :=
 match aFE l with
 | some r=>.s (.pl (.agg r l.length))
 | none=>.mix l
theorem aAf {w:World} {ρ:Plc} {k:IntKind}:∀ {l:List SV} {xs:List Int} {vs:List Value},JL k l=some xs->SVRs w ρ l vs->vs=xs.map (Value.int k):=by
 intro l
 induction l with
 | nil=>intro xs vs h hv; simp [JL] at h; subst h; have:=hv.1; simp at this; simp [oB this.symm]
 | cons v r ih=>
  intro xs vs h hv
  match vs,hv with
  | [],hv=>have:=hv.1; simp at this
  | u :: us,hv=>
  have hu:SVR w ρ v u:=hv.2 0 v u rfl rfl;have hus:SVRs w ρ r us:=⟨by simpa using hv.1,λ i x y hx hy=>hv.2 (i+1) x y (by simpa using hx) (by simpa using hy)⟩;unfold JL at h;split at h
  ·simp at *
  ·rename_i e;simp at e;obtain ⟨rfl,rfl⟩:=e;split at h
   ·rename_i e; subst e;split at h
    ·rename_i l hl;simp at h; subst h;rw [ih hl hus,hu.1]; rfl
    ·simp at h
   ·simp at h
  ·simp at h
theorem aAg {w:World} {ρ:Plc}:∀ {l:List SV} {xs:List Str} {vs:List Value},JM l=some xs->SVRs w ρ l vs->vs=xs.map Str.val:=by
 intro l
 induction l with
 | nil=>intro xs vs h hv; simp [JM] at h; subst h; have:=hv.1; simp at this; simp [oB this.symm]
 | cons v r ih=>
  intro xs vs h hv
  match vs,hv with
  | [],hv=>have:=hv.1; simp at this
  | u :: us,hv=>
  have hu:SVR w ρ v u:=hv.2 0 v u rfl rfl;have hus:SVRs w ρ r us:=⟨by simpa using hv.1,λ i x y hx hy=>hv.2 (i+1) x y (by simpa using hx) (by simpa using hy)⟩;unfold JM at h;split at h
  ·simp at *
  ·rename_i e;simp at e;obtain ⟨rfl,rfl⟩:=e;split at h
   ·rename_i l hl;simp at h; subst h;rw [ih hl hus,hu.1]; rfl
   ·simp at h
  ·simp at h
theorem UY {w:World} {ρ:Plc}:∀ {l:List SV} {xs:List Bool} {vs:List Value},D0 l=some xs->SVRs w ρ l vs->vs=xs.map Value.bool:=by
 intro l
 induction l with
 | nil=>intro xs vs h hv; simp [D0] at h; subst h; have:=hv.1; simp at this; simp [oB this.symm]
 | cons v r ih=>
  intro xs vs h hv
  match vs,hv with
  | [],hv=>have:=hv.1; simp at this
  | u :: us,hv=>
  have hu:SVR w ρ v u:=hv.2 0 v u rfl rfl;have hus:SVRs w ρ r us:=⟨by simpa using hv.1,λ i x y hx hy=>hv.2 (i+1) x y (by simpa using hx) (by simpa using hy)⟩;unfold D0 at h;split at h
  ·simp at *
  ·rename_i e;simp at e;obtain ⟨rfl,rfl⟩:=e;split at h
   ·rename_i l hl;simp at h; subst h;rw [ih hl hus,hu.1]; rfl
   ·simp at h
  ·simp at h
theorem aFF {w:World} {ρ:Plc} {l:List SV} {r:TRow} {vs:List Value} (h:aFE l=some r) (hv:SVRs w ρ l vs):vs=r.cells:=by
 unfold aFE at h;split at h
 ·split at h
  ·rename_i xs hx; simp at h; subst h; exact aAf hx hv
  ·simp at h
 ·split at h
  ·rename_i xs hx; simp at h; subst h; exact aAg hx hv
  ·simp at h
 ·split at h
  ·rename_i xs hx; simp at h; subst h; exact UY hx hv
  ·simp at h
 ·simp at h
theorem JO {w:World} {ρ:Plc} {l:List SV} {cs:Array Value} (hv:SVRs w ρ l cs.toList):CVR w ρ (JN l) (.agg cs):=by
 unfold JN;split
 ·rename_i r hr;have e:=aFF hr hv;refine ⟨by simp [Pl.val,<-e],λ a n h=>?_⟩;simp at h;obtain ⟨rfl,rfl⟩:=h;rw [<-r.length_cells,<-e,hv.1]
 ·exact ⟨cs,rfl,hv⟩
theorem Cj {l:List SV} {id:Nat} (h:id ∈ (JN l).refs):id ∈ l.flatMap SV.refs:=by
 unfold JN at h;split at h
 ·simp [CV.refs,SV.refs] at h
 ·exact h
theorem CJ (b:Nat) (ty:TypeId) (fz:Nat × Nat):∀ (vs:List Value) (o:Nat) (w:World) (cs:Array Value),w.heap[b]?=some (.cells cs ty fz)->o+vs.length <= cs.size ->
  ∃ cs':Array Value,(w.setCells b o vs).heap[b]?=some (.cells cs' ty fz) /\ cs'.toList=splL cs.toList o vs:=by
 intro vs
 induction vs with
 | nil=>
  intro o w cs h hl;exact ⟨cs,h,by simp [splL]⟩
 | cons v r ih=>
  intro o w cs h hl;have h1:(w.setCell ⟨b,o,none⟩ v).heap[b]?=some (.cells (cs.setIfInBounds o v) ty fz):=by
   simp [World.setCell,Array.getElem?_modify,h]
  obtain ⟨cs',h2,h3⟩:=ih (o+1) (w.setCell ⟨b,o,none⟩ v) (cs.setIfInBounds o v) h1 (by simp at hl ⊢; omega);refine ⟨cs',h2,?_⟩;rw [h3];have ho:o < cs.toList.length:=by simp at hl ⊢; omega
  simp only [Ye,splL,fF];rw [Yg,aT ho];have e1:(cs.toList.take o).length=o:=by rw [dV]; omega
  rw [BR,e1,PF,e1];simp only [show o+1 - o=1 from by omega,yT,uR,show o+1+r.length - o=r.length+1 from by omega,PH,KA];rw [List.take_take,Fu (as:=List.take o cs.toList) (by rw [e1]; omega)];simp [show min (o+1) o=o from by omega,show o+1+r.length=o+(r.length+1) from by omega]
theorem wN (b k:Nat) (h:k ≠ b):∀ (vs:List Value) (o:Nat) (w:World),(w.setCells b o vs).heap[k]?=w.heap[k]?:=by
 intro vs
 induction vs with
 | nil=>intro o w; rfl
 | cons v r ih=>
  intro o w;show ((w.setCell ⟨b,o,none⟩ v).setCells b (o+1) r).heap[k]?=_;rw [ih,heap_setCell_other _ _ _ _ (by simpa using h)]
theorem lU (b:Nat):∀ (vs:List Value) (o:Nat) (w:World),(w.setCells b o vs).heap.size=w.heap.size:=by
 intro vs
 induction vs with
 | nil=>intro o w; rfl
 | cons v r ih=>intro o w; show ((w.setCell ⟨b,o,none⟩ v).setCells b (o+1) r).heap.size=_; rw [ih]; simp
theorem AP {B:Bs} {w0:World} (b:Nat) (hb:B.n <= b ∨ B.M b):∀ (vs:List Value) (o:Nat) (w:World),BelowM B w0 w->BelowM B w0 (w.setCells b o vs):=by
 intro vs
 induction vs with
 | nil=>intro o w h; exact h
 | cons v r ih=>intro o w h; exact ih (o+1) _ (h.setCell (p:=⟨b,o,none⟩) hb v)
end
noncomputable section
open Go Go.RowKit
set_option linter.all false
section
variable {B:Bs} {w0 w w':World} {ρ:Plc} {s:St} {a:Act}
theorem SVRs.get {l:List SV} {vs:List Value} (h:SVRs w ρ l vs) {i:Nat} {x:SV} (hx:l[i]?=some x):∃ v,vs[i]?=some v /\ SVR w ρ x v:=by
 have hi:=(iT.1 hx).1;have:i < vs.length:=by rw [<-h.1]; exact hi
 exact ⟨vs[i],by simp [this],h.2 i x _ hx (by simp [this])⟩
theorem BlkR.cell {b:Blk} {x:RB} (h:BlkR w ρ b x) {r:TRow} (hr:b.row=.t r):r.length=x.n /\ ∀ (i:Nat) (v:Value),r.cells[i]?=some v->w.cell? ⟨x.r,i,none⟩=some v:=by
 obtain ⟨cs,fz,h1,h2,h3,h4⟩:=h.ex;rw [hr] at h4;simp only [RowR] at h4;have hl:r.length=x.n:=by
  rw [<-r.length_cells,<-h4,dV]; simp; omega
 refine ⟨hl,λ i v hv=>?_⟩;rw [<-h4,kW] at hv;split at hv
 ·simpa [World.cell?,h1] using hv
 ·simp at hv
theorem BlkR.mcell {b:Blk} {x:RB} (h:BlkR w ρ b x) {l:List SV} (hr:b.row=.mix l):l.length=x.n /\ ∀ (i:Nat) (y:SV),l[i]?=some y->∃ v,w.cell? ⟨x.r,i,none⟩=some v /\ SVR w ρ y v:=by
 obtain ⟨cs,fz,h1,h2,h3,h4⟩:=h.ex;rw [hr] at h4;simp only [RowR] at h4;refine ⟨by rw [h4.1,dV]; simp; omega,λ i y hy=>?_⟩;obtain ⟨v,hv,hs⟩:=h4.get hy;refine ⟨v,?_,hs⟩;rw [kW] at hv;split at hv
 ·simpa [World.cell?,h1] using hv
 ·simp at hv
theorem BlkR.ext {b:Blk} {x:RB} {ρ':Plc} (h:BlkR w ρ b x) (hw:WExt ρ w w') (hp:PExt ρ ρ' w) (hh:w'.heap[x.r]?=w.heap[x.r]?) (hr:∀ id ∈ b.row.refs,ρ' id=ρ id):BlkR w' ρ' b x:=by
 obtain ⟨cs,fz,h1,h2,h3,h4⟩:=h.ex;refine ⟨⟨cs,fz,by rw [hh]; exact h1,h2,h3,?_⟩,h.n⟩;cases hb:b.row with
 | t r=>rw [hb] at h4; exact h4
 | mix l=>rw [hb] at h4 hr; exact SVRs.ext h4 hw hp hr
theorem Rel.modifyG (h:Rel B w0 ρ s a w) {id:Nat} {x:RB} (hx:ρ id=some x) {b':Blk} (hsz:w.heap.size <= w'.heap.size) (hother:∀ k,k < w.heap.size->k ≠ x.r->w'.heap[k]?=w.heap[k]?)
  (hbl:BelowM B w0 w') (hb:BlkR w' ρ b' x) (hrf:∀ j ∈ b'.row.refs,Liv s j):Rel B w0 ρ { s with hp:=upd id b' s.hp } a w':=by
 have hw:WExt ρ w w':=⟨hsz,λ k hk hf=>hother k hk λ e=>hf.1 id x hx e.symm⟩;refine ⟨λ t=>(h.tm t).ext hw (PExt.refl _ _) (λ _ _=>rfl),λ j y hy=>?_,h.lt,h.inj,λ j y hy=>?_,h.size,h.df,hbl,h.b0,λ t j hj=>(h.rt t j hj).upd _ _,λ j c hc=>?_,λ j c hc hn=>?_,λ b hb=>by have:=h.ob b hb; omega,h.ox⟩
 ·by_cases e:j=id
  ·subst e;rw [hx] at hy; cases hy;exact ⟨b',by simp [cS],hb⟩
  ·obtain ⟨c,hc,hR⟩:=h.blk j y hy;refine ⟨c,by simp [cS,e,hc],hR.ext hw (PExt.refl _ _) (hother _ (h.base j y hy).2 λ e2=>e (h.inj j id y x hy hx e2)) (λ _ _=>rfl)⟩
 ·exact ⟨(h.base j y hy).1,by have:=(h.base j y hy).2; omega⟩
 ·by_cases e:j=id
  ·subst e;simp [cS] at hc; subst hc; exact λ q hq=>(hrf q hq).upd _ _
  ·simp [cS,e] at hc; exact λ q hq=>(h.rb j c hc q hq).upd _ _
 ·by_cases e:j=id
  ·subst e; rw [hx] at hn; cases hn
  ·simp [cS,e] at hc; exact h.gh j c hc hn
theorem Rel.modify (h:Rel B w0 ρ s a w) {id:Nat} {x:RB} (hx:ρ id=some x) {b':Blk} (hsz:w'.heap.size=w.heap.size) (hother:∀ k,k ≠ x.r->w'.heap[k]?=w.heap[k]?)
  (hbl:BelowM B w0 w') (hb:BlkR w' ρ b' x) (hrf:∀ j ∈ b'.row.refs,Liv s j):Rel B w0 ρ { s with hp:=upd id b' s.hp } a w' :=
 h.modifyG hx (by omega) (λ k _ hk=>hother k hk) hbl hb hrf
theorem Rel.ext (h:Rel B w0 ρ s a w) (hw:w.heap.size <= w'.heap.size) (hk:∀ k,k < w.heap.size->w'.heap[k]?=w.heap[k]?) (hbl:BelowM B w0 w'):Rel B w0 ρ s a w':=by
 have hw':WExt ρ w w':=⟨hw,λ k hk' _=>hk k hk'⟩;refine ⟨λ t=>(h.tm t).ext hw' (PExt.refl _ _) (λ _ _=>rfl),λ j y hy=>?_,h.lt,h.inj,λ j y hy=>?_,h.size,h.df,hbl,h.b0,h.rt,h.rb,h.gh,λ b hb=>by have:=h.ob b hb; omega,h.ox⟩
 ·obtain ⟨c,hc,hR⟩:=h.blk j y hy;exact ⟨c,hc,hR.ext hw' (PExt.refl _ _) (hk _ (h.base j y hy).2) (λ _ _=>rfl)⟩
 ·exact ⟨(h.base j y hy).1,by have:=(h.base j y hy).2; omega⟩
theorem Rel.B_le (h:Rel B w0 ρ s a w):B <= w.heap.size:=cK h.b0 h.below.size
theorem PExt.new {x:RB} {id:Nat} (hx:w.heap.size <= x.r):PExt ρ (qC ρ id x) w:=by
 refine ⟨λ j y hy=>?_,λ _ _ h=>h⟩;by_cases e:j=id
 ·subst e; rw [dC] at hy; cases hy; exact .inr hx
 ·rw [dK _ _ e] at hy; exact .inl ⟨j,y,hy,rfl⟩
theorem Rel.newat (h:Rel B w0 ρ s a w) {k nx':Nat} (hk:k < nx') (hnx:s.nx <= nx') (hne:∀ j,Liv s j->j ≠ k) {x:RB} {b:Blk} {o:Obj} (hr:x.r=w.heap.size) (hb:BlkR (w.alloc o) (qC ρ k x) b x) (hrf:∀ j ∈ b.row.refs,Liv s j) :
  Rel B w0 (qC ρ k x) { s with hp:=(k,b) :: s.hp,nx:=nx' } a (w.alloc o):=by
 have hw:WExt ρ w (w.alloc o):=⟨by simp,λ k hk _=>heap_alloc_old w o hk⟩;have hp:PExt ρ (qC ρ k x) w:=PExt.new (by omega);have hn:∀ j,Liv s j->qC ρ k x j=ρ j:=λ j hj=>dK ρ x (hne j hj);have hl:∀ j,Liv s j->Liv { s with hp:=(k,b) :: s.hp,nx:=nx' } j:=λ j hj=>by
  obtain ⟨c,hc⟩:=hj.2;exact ⟨cU hj.1 hnx,JH hc⟩
 refine ⟨λ t=>(h.tm t).ext hw hp (λ id hid=>hn id (h.rt t id hid)),λ j y hy=>?_,λ j y hy=>?_,λ i j y z hy hz e=>?_,λ j y hy=>?_,h.size,h.df,h.below.alloc h.B_le o,h.b0,λ t id hid=>hl id (h.rt t id hid),λ j c hc=>?_,λ j c hc hnn=>?_,λ b hb=>by have:=h.ob b hb; simp; omega,h.ox⟩
 ·by_cases e:j=k
  ·subst e;rw [dC] at hy; cases hy;exact ⟨b,by simp [bZ,bH],hb⟩
  ·rw [dK _ _ e] at hy;obtain ⟨c,hc,hR⟩:=h.blk j y hy;refine ⟨c,by simp [bZ,bH,iP (fX e),hc],hR.ext hw hp (heap_alloc_old w o (h.base j y hy).2) (λ id hid=>hn id (h.rb j c hc id hid))⟩
 ·by_cases e:j=k
  ·subst e; exact hk
  ·rw [dK _ _ e] at hy; have:=h.lt j y hy; exact cU this hnx
 ·by_cases e1:i=k
  ·by_cases e2:j=k
   ·omega
   ·subst e1; rw [dC] at hy; rw [dK _ _ e2] at hz; cases hy;have:=(h.base j z hz).2; omega
  ·by_cases e2:j=k
   ·subst e2; rw [dC] at hz; rw [dK _ _ e1] at hy; cases hz;have:=(h.base i y hy).2; omega
   ·rw [dK _ _ e1] at hy; rw [dK _ _ e2] at hz;exact h.inj i j y z hy hz e
 ·by_cases e:j=k
  ·subst e; rw [dC] at hy; cases hy; have:=h.B_le; simp; omega
  ·rw [dK _ _ e] at hy; exact ⟨(h.base j y hy).1,by have:=(h.base j y hy).2; simp; omega⟩
 ·by_cases e:j=k
  ·subst e; simp [bZ,bH] at hc; subst hc; exact λ id hid=>hl id (hrf id hid)
  ·simp [bZ,bH,iP (fX e)] at hc; exact λ id hid=>hl id (h.rb j c hc id hid)
 ·by_cases e:j=k
  ·subst e; rw [dC] at hnn; cases hnn
  ·simp [bZ,bH,iP (fX e)] at hc; rw [dK _ _ e] at hnn; exact h.gh j c hc hnn
theorem Rel.newblk (h:Rel B w0 ρ s a w) {x:RB} {b:Blk} {o:Obj} (hr:x.r=w.heap.size) (hb:BlkR (w.alloc o) (qC ρ s.nx x) b x) (hrf:∀ j ∈ b.row.refs,Liv s j) :
  Rel B w0 (qC ρ s.nx x) { s with hp:=(s.nx,b) :: s.hp,nx:=s.nx+1 } a (w.alloc o) :=
 h.newat (lD _) (Nat.le_succ _) (λ j hj=>Nat.ne_of_lt hj.1) hr hb hrf
end
def lV (P:Program) (T:TypeId):Option Bool :=
 match P.underlying T with
 | some (.struct _) | some (.array _ _)=>some true
 | some _=>some false
 | none=>none
def gQ (P:Program) (T:TypeId):Option Nat :=
 match P.info? T with
 | some i=>some i.size
 | none=>none
theorem eL {P:Program} {T:TypeId} {n:Nat} (h:gQ P T=some n):∃ i,P.info? T=some i /\ i.size=n:=by
 unfold gQ at h;split at h
 ·rename_i i hi; simp at h; exact ⟨i,hi,h⟩
 ·simp at h
theorem xV {P:Program} {T:TypeId} (h:lV P T=some true):∃ d:TypeDesc,P.underlying T=some d /\ d.isRow=true:=by
 unfold lV at h;split at h
 ·rename_i f e; exact ⟨_,e,rfl⟩
 ·rename_i f e; exact ⟨_,e,rfl⟩
 ·simp at h
 ·simp at h
theorem kP {P:Program} {T:TypeId} (h:lV P T=some false) (w:World):(isAgg T).run P w=.ok false w:=by
 unfold lV at h;split at h
 ·simp at h
 ·simp at h
 ·rename_i d h1 h2 e;unfold isAgg;rw [Sem.run_bind,run_underlying e w];cases d <;> simp_all
 ·simp at h
section
variable {P:Program} {B:Bs} {w0 w w':World} {ρ:Plc} {s:St} {a:Act} {β:Type} {r:β}
theorem lZ {T:TypeId} (h:lV P T=some false) {b o:Nat} {v:Value} (hc:w.cell? ⟨b,o,none⟩=some v):(Instr.loadAt T (.pointer (some ⟨b,o,none⟩))).run P w=.ok v w:=by
 simp only [Instr.loadAt,Instr.sureAddr,Sem.run_bind,Sem.run_pure,Result.andThen_ok,loadVar,kP h];simp [hc]
def nP (P:Program) (T:TypeId) (s:St) (x:AV) (K:AV->Option β):Option β :=
 match x with
 | .c (.s (.ptr id off ext))=>
  match bU s.hp id,lV P T,gQ P T with
  | some b,some true,some m=>
   cond (Nat.ble m ext) (match b.row with
    | .t r=>K (.agg (XR r off m b.n) m)
    | .mix l=>K (.c (JN ((l.drop off).take m)))) none
  | some b,some false,some m=>
   cond (Nat.ble 1 ext) (match b.row with
    | .t r=>K (.s (r.get off))
    | .mix l=>match l[off]? with
     | some v=>K (jV P T (.s v))
     | none=>none) none
  | _,_,_=>none
 | .c (.s (.rptr r off ext))=>
  match lV P T,gQ P T with
  | some true,some m=>cond (Nat.ble m ext) (K (.agg (r.sub off m) m)) none
  | some false,some m=>cond (Nat.ble 1 ext) (K (.s (r.get off))) none
  | _,_=>none
 | .c (.mptr l off)=>
  match lV P T with
  | some false=>match l[off]? with
   | some v=>K (jV P T (.s v))
   | none=>none
  | _=>none
 | _=>none
theorem qD {T:TypeId} {x:AV} {u:Value} {K:AV->Option β} (hs:Rel B w0 ρ s a w) (hx:AVR w ρ x u) (hxr:∀ id ∈ x.refs,Liv s id) (h:nP P T s x K=some r) :
  ∃ av z,K av=some r /\ (∀ id ∈ av.refs,Liv s id) /\ AVR w ρ av z /\ (Instr.loadAt T u).run P w=.ok z w:=by
 unfold nP at h;split at h
 ·rename_i id off ext;obtain ⟨y,hy,hoff,rfl⟩:=hx;split at h
  ·rename_i b m hb hk hm;obtain ⟨h1,h2⟩:=aY h;have h1:m <= ext:=by simpa using h1
   obtain ⟨c,hc,hR⟩:=hs.blk id y hy;rw [hb] at hc; cases hc;obtain ⟨d,hd,hrow⟩:=xV hk;obtain ⟨i,hi,him⟩:=eL hm;split at h2
   ·rename_i tr htr;obtain ⟨hl,hcell⟩:=hR.cell htr;have hlen:((tr.cells.drop off).take m).length=m:=by
     rw [dV,kX,tr.length_cells]; omega
    have hsub:=GN tr off m b.n (by rw [hl,hR.n]);refine ⟨_,.agg ((tr.cells.drop off).take m).toArray,h2,by simp [AV.refs,CV.refs,SV.refs],⟨by simp [Pl.val,hsub],λ rr nn e=>?_⟩,?_⟩
    ·cases e; rw [<-TRow.length_cells,hsub,hlen]
    ·refine run_loadAt_mid w y.r off T _ d (λ j v hv=>?_) hd hrow (by rw [hi,hlen]; simp [him]);apply hcell;rw [kW] at hv;split at hv
     ·rwa [mO] at hv
     ·simp at hv
   ·rename_i l hl;obtain ⟨hll,hcell⟩:=hR.mcell hl;have hlen:((l.drop off).take m).length=m:=by rw [dV,kX]; omega
    have:∃ cs:List Value,SVRs w ρ ((l.drop off).take m) cs /\ w.rangeAt y.r off cs:=by
     obtain ⟨cs,fz,q1,q2,q3,q4⟩:=hR.ex;rw [hl] at q4;simp only [RowR] at q4;refine ⟨((cs.toList.take y.n).drop off).take m,⟨?_,λ i x v hx hv=>?_⟩,λ j v hv=>?_⟩
     ·rw [hlen,dV,kX,<-q4.1]; omega
     ·rw [kW] at hx hv;split at hx
      ·rename_i hi';rw [aT hi'] at hv;rw [mO] at hx hv;exact q4.2 _ _ _ hx hv
      ·simp at hx
     ·rw [kW] at hv;split at hv
      ·rw [mO,kW] at hv;split at hv
       ·simpa [World.cell?,q1] using hv
       ·simp at hv
      ·simp at hv
    obtain ⟨cs,hcs,hra⟩:=this;refine ⟨_,.agg cs.toArray,h2,λ j hj=>hs.rb id b hb j ?_,JO (by simpa using hcs),?_⟩
    ·rw [hl];have:=Cj hj;obtain ⟨x,hx1,hx2⟩:=fG.1 this;exact fG.2 ⟨x,PO (PP hx1),hx2⟩
    ·exact run_loadAt_mid w y.r off T cs d hra hd hrow (by rw [hi,<-hcs.1,hlen]; simp [him])
  ·rename_i b m hb hk hm;obtain ⟨h1,h2⟩:=aY h;have h1:1 <= ext:=by simpa using h1
   obtain ⟨c,hc,hR⟩:=hs.blk id y hy;rw [hb] at hc; cases hc;split at h2
   ·rename_i tr htr;obtain ⟨hl,hcell⟩:=hR.cell htr;have hlt:off < tr.cells.length:=by rw [tr.length_cells]; omega
    have hv:tr.cells[off]?=some tr.cells[off]:=by simp [hlt]
    exact ⟨_,tr.cells[off],h2,by simp [AV.refs,CV.refs,tr.get_refs],tr.get_cell hv,lZ hk (hcell off _ hv)⟩
   ·rename_i l hl;obtain ⟨hll,hcell⟩:=hR.mcell hl;split at h2
    ·rename_i v hv;obtain ⟨z,hz,hzr⟩:=hcell off v hv;refine ⟨_,z,h2,λ j hj=>?_,jT (x:=.s v) hzr,lZ hk hz⟩;rw [iE] at hj;exact hs.rb id b hb j (by rw [hl]; exact fG.2 ⟨v,jI hv,hj⟩)
    ·simp at h2
  ·simp at h
 ·rename_i tr off ext;obtain ⟨hoff,b,o,rfl,hf,hra,hbl⟩:=hx;split at h
  ·rename_i m hk hm;obtain ⟨h1,h2⟩:=aY h;have h1:m <= ext:=by simpa using h1
   obtain ⟨d,hd,hrow⟩:=xV hk;obtain ⟨i,hi,him⟩:=eL hm;have hlen:((tr.cells.drop off).take m).length=m:=by
    rw [dV,kX,tr.length_cells]; omega
   refine ⟨_,.agg ((tr.cells.drop off).take m).toArray,h2,by simp [AV.refs,CV.refs,SV.refs],⟨by simp [Pl.val,TRow.sub_cells],λ rr nn e=>?_⟩,?_⟩
   ·cases e; rw [<-TRow.length_cells,TRow.sub_cells,hlen]
   ·refine run_loadAt_mid w b (o+off) T _ d (λ j v hv=>?_) hd hrow (by rw [hi,hlen]; simp [him]);rw [kW] at hv;split at hv
    ·rw [mO] at hv;have:=hra _ _ hv;rwa [<-sI] at this
    ·simp at hv
  ·rename_i m hk hm;obtain ⟨h1,h2⟩:=aY h;have h1:1 <= ext:=by simpa using h1
   have hlt:off < tr.cells.length:=by rw [tr.length_cells]; omega
   have hv:tr.cells[off]?=some tr.cells[off]:=by simp [hlt]
   exact ⟨_,tr.cells[off],h2,by simp [AV.refs,CV.refs,tr.get_refs],tr.get_cell hv,lZ hk (hra off _ hv)⟩
  ·simp at h
 ·rename_i l off;obtain ⟨hoff,b,o,rfl,hf,hra,hbl⟩:=hx;split at h
  ·rename_i hk;split at h
   ·rename_i v hv;obtain ⟨z,hz,hzr⟩:=hra off v hv;refine ⟨_,z,h,λ id hid=>?_,jT (x:=.s v) hzr,lZ hk hz⟩;rw [iE] at hid;exact hxr id (fG.2 ⟨v,jI hv,hid⟩)
   ·simp at h
  ·simp at h
 ·simp at h
end
end
noncomputable section
open Go Go.RowKit
set_option linter.all false
theorem wO {α:Type} (l v:List α) (o n:Nat) (h:o+v.length <= n) (hn:n <= l.length):(splL l o v).take n=splL (l.take n) o v:=by
 unfold splL;have e1:(l.take o).length=o:=by rw [dV]; omega
 have hA:(l.take o).take n=l.take o:=fB (by omega);have hB:(l.take n).take o=l.take o:=by rw [List.take_take,show min o n=o from by omega]
 have hC:v.take (n - o)=v:=fB (by omega);rw [BR,e1,BR,hA,hB,hC,List.drop_take];congr 3;omega
theorem SVRs.splL {w:World} {ρ:Plc} {l m:List SV} {vs us:List Value} (h:SVRs w ρ l vs) (h2:SVRs w ρ m us) (o:Nat) (ho:o+m.length <= l.length):SVRs w ρ (splL l o m) (splL vs o us):=by
 refine ⟨by rw [jA _ _ _ ho,jA _ _ _ (by rw [<-h2.1,<-h.1]; exact ho),h.1],λ i x v hx hv=>?_⟩;unfold Eng.splL at hx hv;have e1:(l.take o).length=o:=by rw [dV]; omega
 have e2:(vs.take o).length=o:=by rw [dV,<-h.1]; omega
 by_cases h1:i < o
 ·rw [yO (by omega)] at hx hv;rw [kW,aT h1] at hx hv;exact h.2 i x v hx hv
 ·rw [yP (by omega),e1] at hx;rw [yP (by omega),e2] at hv;by_cases h3:i - o < m.length
  ·rw [yO h3] at hx;rw [yO (by rw [<-h2.1]; exact h3)] at hv;exact h2.2 _ _ _ hx hv
  ·rw [yP (by omega),mO] at hx;rw [yP (by rw [<-h2.1]; omega),mO,<-h2.1] at hv;exact h.2 _ _ _ hx hv
def SV.one:SV->Bool
 | .junk=>false
 | .pl (.agg _ _)=>false
 | .pl (.raw v)=>v.oneCell'
 | _=>true
theorem SV.one_ok {w:World} {ρ:Plc} {x:SV} {v:Value} (h:SVR w ρ x v) (h1:x.one=true):v.oneCell'=true:=by
 cases x with
 | junk=>simp [SV.one] at h1
 | pl p=>
  cases p with
  | agg r n=>simp [SV.one] at h1
  | raw u=>have:=h.1; subst this; exact h1
  | _=>have:=h.1; subst this; rfl
 | clo f a b=>have:v=_:=h; subst this; rfl
 | clop f cs=>obtain ⟨vs,rfl,_⟩:=h; rfl
 | clor f cs=>obtain ⟨vs,rfl,_⟩:=h; rfl
 | ptr id o e=>obtain ⟨y,_,_,rfl⟩:=h; rfl
 | own id l e=>rcases h with ⟨y,_,rfl,_⟩ | ⟨_,_,rfl⟩ <;> rfl
 | sub id lo l e=>rcases h with ⟨y,_,_,o,c,rfl,_⟩ | ⟨_,_,rfl⟩ <;> rfl
 | dat r l e=>rcases h.2 with ⟨_,rfl⟩ | ⟨_,_,_,rfl,_⟩ <;> rfl
 | rptr r o e=>obtain ⟨_,_,_,rfl,_⟩:=h; rfl
theorem pP {v:Value} (h:v.oneCell'=true):v.cells=#[v]:=by cases v <;> first | rfl | simp [Value.oneCell'] at h
theorem TRow.one (r:TRow):∀ v ∈ r.cells,v.oneCell'=true:=by
 intro v hv;cases r with
 | ints k xs=>simp only [TRow.cells,jZ] at hv; obtain ⟨x,_,rfl⟩:=hv; rfl
 | strs xs=>simp only [TRow.cells,jZ] at hv; obtain ⟨x,_,rfl⟩:=hv; rfl
 | bools xs=>simp only [TRow.cells,jZ] at hv; obtain ⟨x,_,rfl⟩:=hv; rfl
def TRow.svs (r:TRow) (n:Nat):List SV:=(List.range n).map r.get
theorem TRow.svs_ok {w:World} {ρ:Plc} (r:TRow) (n:Nat) (h:r.length=n):SVRs w ρ (r.svs n) r.cells:=by
 refine ⟨by simp [TRow.svs,r.length_cells,h],λ i x v hx hv=>?_⟩;simp only [TRow.svs,kV,pX] at hx;obtain ⟨j,hj,rfl⟩:=hx;have:j=i:=by
  have:=iT.1 hj;obtain ⟨h1,h2⟩:=this;simp at h2; exact h2.symm
 subst this;exact r.get_cell hv
theorem TRow.svs_refs (r:TRow) (n:Nat):(r.svs n).flatMap SV.refs=[]:=by
 simp [TRow.svs,List.flatMap_map,TRow.get_refs]
section
variable {P:Program} {B:Bs} {w0 w w':World} {ρ:Plc} {s:St} {a:Act} {β:Type} {r:β}
theorem Rel.stored (h:Rel B w0 ρ s a w) {id:Nat} {x:RB} {b:Blk} (hx:ρ id=some x) (hb:bU s.hp id=some b) {off:Nat} {vs:List Value} (hoff:off+vs.length <= x.n) {row:Row}
  (hrow:∀ (cs:Array Value) (w1:World),SVRs w1 ρ [] []->RowR w ρ x.n cs b.row->x.n <= cs.size->∀ cs':Array Value,cs'.toList=splL cs.toList off vs->RowR w ρ x.n cs' row) (hrf:∀ j ∈ row.refs,Liv s j) :
  Rel B w0 ρ { s with hp:=upd id { b with row:=row } s.hp } a (w.setCells x.r off vs):=by
 obtain ⟨c,hc,hR⟩:=h.blk id x hx;rw [hb] at hc; cases hc;obtain ⟨cs,fz,h1,h2,h3,h4⟩:=hR.ex;obtain ⟨cs',h5,h6⟩:=CJ x.r b.ty fz vs off w cs h1 (by omega);have hsz:cs'.size=cs.size:=by
  have:=dQ List.length h6;rw [jA _ _ _ (by simp; omega)] at this;simpa using this
 have hne:∀ k,k ≠ x.r->(w.setCells x.r off vs).heap[k]?=w.heap[k]?:=λ k hk=>wN x.r k hk vs off w;refine h.modify hx (lU _ _ _ _) hne (AP x.r (h.base id x hx).1 vs off w h.below) ⟨⟨cs',fz,h5,by omega,by rw [hsz]; exact h3,?_⟩,hR.n⟩ hrf;have:=hrow cs w ⟨rfl,by simp⟩ h4 h2.1 cs' h6;have hw:WExt ρ w (w.setCells x.r off vs):=⟨by rw [lU]; exact bV _,λ k hk hf=>hne k λ e=>hf.1 id x hx e.symm⟩;cases row with
 | t r=>exact this
 | mix l=>exact SVRs.ext this hw (PExt.refl _ _) (λ _ _=>rfl)
theorem Rel.writable (h:Rel B w0 ρ s a w) {id:Nat} {x:RB} (hx:ρ id=some x):∀ j,j < x.n->(w.cell? ⟨x.r,j,none⟩).isSome=true /\ w.frozen? ⟨x.r,j,none⟩=false:=by
 intro j hj;obtain ⟨b,hb,hR⟩:=h.blk id x hx;obtain ⟨cs,fz,h1,h2,h3,h4⟩:=hR.ex;refine ⟨by simp [World.cell?,h1]; omega,?_⟩;have:=h3 j (by omega);simp only [World.frozen?,h1];simp only [Bool.and_eq_false_iff,decide_eq_false_iff_not];omega
theorem qU (h:Rel B w0 ρ s a w) {id:Nat} {x:RB} (hx:ρ id=some x) {T:TypeId} {off m:Nat} {v:Value} (hm:gQ P T=some m) (hc:v.cells.size=m) (h1:∀ u ∈ v.cells.toList,u.oneCell'=true)
  (ho:off+m <= x.n):(Instr.storeAt T (.pointer (some ⟨x.r,off,none⟩)) v).run P w=.ok () (w.setCells x.r off v.cells.toList):=by
 obtain ⟨i,hi,him⟩:=eL hm;have:=run_storeCells_cells (P:=P) x.r off v.cells.toList 0 w (λ j hj=>(h.writable hx _ (by simp at hj; omega)).1) (λ j hj=>(h.writable hx _ (by simp at hj; omega)).2) h1;simp only [fH] at this;have hne:¬ (v.cells.size ≠ i.size):=by omega
 simp only [Instr.storeAt,Instr.sureAddr,Sem.run_bind,Sem.run_pure,Result.andThen_ok,storeVar,sizeOf,typeInfo,run_program,hi];simp [hne,this]
def St.setBlk (s:St) (id:Nat) (b:Blk) (r:Row):St:=match s,b with
 | ⟨tm,hp,nx,sz⟩,⟨ty,n,_⟩=>⟨tm,upd id ⟨ty,n,r⟩ hp,nx,sz⟩
theorem St.setBlk_eq (s:St) (id:Nat) (b:Blk) (r:Row):s.setBlk id b r={ s with hp:=upd id { b with row:=r } s.hp }:=rfl
def nQ (P:Program) (T:TypeId) (s:St) (x v:AV) (K:St->Option β):Option β :=
 match x with
 | .c (.s (.ptr id off ext))=>
  match bU s.hp id,lV P T,gQ P T with
  | some b,some false,some m=>
   match jV P T v with
   | .c (.s sv)=>
    cond (Nat.beq m 1 && Nat.ble 1 ext && sv.one) (match b.row with
     | .t r=>match r.set off sv with
      | some r'=>K (s.setBlk id b (.t r'))
      | none=>none
     | .mix l=>K (s.setBlk id b (.mix (splL l off [sv])))) none
   | _=>none
  | some b,some true,some m=>
   match v with
   | .c (.s (.pl (.agg u n)))=>
    cond (Nat.beq n m && Nat.ble m ext) (match b.row with
     | .t r=>match TRow.splice off m b.n r u with
      | some r'=>K (s.setBlk id b (.t r'))
      | none=>none
     | .mix l=>K (s.setBlk id b (.mix (splL l off (u.svs n))))) none
   | .c (.mix u)=>
    cond (Nat.beq u.length m && Nat.ble m ext && u.all SV.one) (match b.row with
     | .t r=>none
     | .mix l=>K (s.setBlk id b (.mix (splL l off u)))) none
   | _=>none
  | _,_,_=>none
 | _=>none
theorem sQ {l v:List SV} {o id:Nat} (h:id ∈ (splL l o v).flatMap SV.refs):id ∈ l.flatMap SV.refs ∨ id ∈ v.flatMap SV.refs:=by
 obtain ⟨x,h1,h2⟩:=fG.1 h;simp only [splL,tO] at h1;rcases h1 with h1 | h1 | h1
 ·exact .inl (fG.2 ⟨x,PP h1,h2⟩)
 ·exact .inr (fG.2 ⟨x,h1,h2⟩)
 ·exact .inl (fG.2 ⟨x,PO h1,h2⟩)
theorem OB {T:TypeId} {x v:AV} {p u:Value} {K:St->Option β} (hs:Rel B w0 ρ s a w) (hx:AVR w ρ x p) (hv:AVR w ρ v u) (hvr:∀ id ∈ v.refs,Liv s id) (h:nQ P T s x v K=some r) :
  ∃ s' w',K s'=some r /\ s'.nx=s.nx /\ Rel B w0 ρ s' a w' /\ (Instr.storeAt T p u).run P w=.ok () w':=by
 unfold nQ at h;simp only [St.setBlk_eq] at h;split at h
 ·rename_i id off ext;obtain ⟨y,hy,hoff,rfl⟩:=hx;split at h
  ·rename_i b m hb hk hm;have hv':=jT (P:=P) (T:=T) hv;have hvr':∀ id ∈ (jV P T v).refs,Liv s id:=by rw [iE]; exact hvr
   split at h
   ·rename_i sv hsv;rw [hsv] at hv' hvr';obtain ⟨h1,h2⟩:=aY h;simp only [aX] at h1;obtain ⟨⟨e1,e2⟩,e3⟩:=h1;have e1:m=1:=aS e1;have e2:1 <= ext:=by simpa using e2
    subst e1;have hone:=SV.one_ok hv' e3;have hcl:=pP hone;obtain ⟨c,hc,hR⟩:=hs.blk id y hy;rw [hb] at hc; cases hc;have hrun:=qU (P:=P) hs hy (T:=T) (off:=off) (v:=u) hm (by rw [hcl]; rfl) (by rw [hcl]; simpa using hone) (by omega);rw [hcl] at hrun;split at h2
    ·rename_i tr htr;split at h2
     ·rename_i r' hr';obtain ⟨hl,_⟩:=hR.cell htr;obtain ⟨q,rfl,hq,hlen,hcells⟩:=TRow.set_cells hr' (by omega);have hu:u=q.val:=hv'.1;refine ⟨_,_,h2,rfl,hs.stored hy hb (vs:=[u]) (by simp; omega) ?_ (by simp [Row.refs]),hrun⟩;intro cs w1 _ hrow hcs cs' hcs';rw [htr] at hrow;simp only [RowR] at hrow ⊢;rw [hcs',wO _ _ _ _ (by simp; omega) (by simpa using hcs),hrow,hcells,hu]
     ·simp at h2
    ·rename_i l hl;obtain ⟨hll,_⟩:=hR.mcell hl;refine ⟨_,_,h2,rfl,hs.stored hy hb (vs:=[u]) (by simp; omega) ?_ ?_,hrun⟩
     ·intro cs w1 _ hrow hcs cs' hcs';rw [hl] at hrow;simp only [RowR] at hrow ⊢;rw [hcs',wO _ _ _ _ (by simp; omega) (by simpa using hcs)];exact hrow.splL ⟨rfl,λ i x v hx hv=>by
       match i with
       | 0=>simp at hx hv; subst hx; subst hv; exact hv'
       | i+1=>simp at hx⟩ off (by simp; omega)
     ·intro j hj;rcases sQ hj with hj | hj
      ·exact hs.rb id b hb j (by rw [hl]; exact hj)
      ·exact hvr' j (by simpa [AV.refs,CV.refs] using hj)
   ·simp at h
  ·rename_i b m hb hk hm;obtain ⟨c,hc,hR⟩:=hs.blk id y hy;rw [hb] at hc; cases hc;split at h
   ·rename_i tu n;obtain ⟨h1,h2⟩:=aY h;simp only [aX] at h1;have e1:n=m:=aS h1.1;have e2:m <= ext:=by simpa using h1.2
    subst e1;have hu:u=.agg tu.cells.toArray:=hv.1;have hlen:tu.length=n:=hv.2 tu n rfl;subst hu;have hrun:=qU (P:=P) hs hy (T:=T) (off:=off) (v:=.agg tu.cells.toArray) hm (by simp [Value.cells,tu.length_cells,hlen]) (by simpa [Value.cells] using tu.one) (by omega);simp only [Value.cells] at hrun;split at h2
    ·rename_i tr htr;split at h2
     ·rename_i r' hr';obtain ⟨hl,_⟩:=hR.cell htr;obtain ⟨hl2,hcells⟩:=TRow.splice_cells hr' hlen (by rw [hl,hR.n]) (by rw [hR.n]; omega);refine ⟨_,_,h2,rfl,hs.stored hy hb (vs:=tu.cells) (by rw [tu.length_cells]; omega) ?_ (by simp [Row.refs]),hrun⟩;intro cs w1 _ hrow hcs cs' hcs';rw [htr] at hrow;simp only [RowR] at hrow ⊢;rw [hcs',wO _ _ _ _ (by rw [tu.length_cells]; omega) (by simpa using hcs),hrow,hcells]
     ·simp at h2
    ·rename_i l hl;obtain ⟨hll,_⟩:=hR.mcell hl;refine ⟨_,_,h2,rfl,hs.stored hy hb (vs:=tu.cells) (by rw [tu.length_cells]; omega) ?_ ?_,hrun⟩
     ·intro cs w1 _ hrow hcs cs' hcs';rw [hl] at hrow;simp only [RowR] at hrow ⊢;rw [hcs',wO _ _ _ _ (by rw [tu.length_cells]; omega) (by simpa using hcs)];exact hrow.splL (tu.svs_ok n hlen) off (by simp [TRow.svs]; omega)
     ·intro j hj;rcases sQ hj with hj | hj
      ·exact hs.rb id b hb j (by rw [hl]; exact hj)
      ·rw [tu.svs_refs] at hj; simp at hj
   ·rename_i lu;obtain ⟨h1,h2⟩:=aY h;simp only [aX] at h1;obtain ⟨⟨e1,e2⟩,e3⟩:=h1;have e1:lu.length=m:=aS e1;have e2:m <= ext:=by simpa using e2
    obtain ⟨cu,rfl,hcu⟩:=hv;have hone:∀ v ∈ cu.toList,v.oneCell'=true:=by
     intro v hv;obtain ⟨i,hi⟩:=List.getElem?_of_mem hv;have hi':i < lu.length:=by rw [hcu.1]; exact (iT.1 hi).1
     exact SV.one_ok (hcu.2 i lu[i] v (by simp [hi']) hi) (rG.1 e3 _ (by simp))
    have hrun:=qU (P:=P) hs hy (T:=T) (off:=off) (v:=.agg cu) hm (by have:=hcu.1; simp [Value.cells] at this ⊢; omega) (by simpa [Value.cells] using hone) (by omega);simp only [Value.cells] at hrun;split at h2
    ·simp at h2
    ·rename_i l hl;obtain ⟨hll,_⟩:=hR.mcell hl;refine ⟨_,_,h2,rfl,hs.stored hy hb (vs:=cu.toList) (by rw [<-hcu.1]; omega) ?_ ?_,hrun⟩
     ·intro cs w1 _ hrow hcs cs' hcs';rw [hl] at hrow;simp only [RowR] at hrow ⊢;rw [hcs',wO _ _ _ _ (by rw [<-hcu.1]; omega) (by simpa using hcs)];exact hrow.splL hcu off (by omega)
     ·intro j hj;rcases sQ hj with hj | hj
      ·exact hs.rb id b hb j (by rw [hl]; exact hj)
      ·exact hvr j hj
   ·simp at h
  ·simp at h
 ·simp at h
end
end
noncomputable section
open Go Go.RowKit
set_option linter.all false
def svc:Value->SV
 | .int k n=>.pl (.int k n)
 | .bool b=>.pl (.bool b)
 | .string b=>.pl (.str b.data.toList)
 | v=>.pl (.raw v)
theorem aVr (w:World) (ρ:Plc) (v:Value):SVR w ρ (svc v) v:=by
 cases v with
 | string b=>exact ⟨by simp [Pl.val,Str.val],λ _ _ e=>by cases e⟩
 | _=>exact ⟨rfl,λ _ _ e=>by cases e⟩
theorem aFG (v:Value):(svc v).refs=[]:=by cases v <;> rfl
def AQ:Value->AV
 | .agg cs=>.c (JN (cs.toList.map svc))
 | v=>evc v
theorem FJ (w:World) (ρ:Plc) (v:Value):AVR w ρ (AQ v) v:=by
 unfold AQ;split
 ·rename_i cs;refine JO ⟨by simp,λ i x v hx hv=>?_⟩;simp only [kV,pX] at hx;obtain ⟨u,hu,rfl⟩:=hx;rw [hu] at hv; cases hv;exact aVr w ρ v
 ·exact aFD w ρ _
theorem RN (v:Value):(evc v).refs=[]:=by
 cases v with
 | agg cs=>
  simp only [evc,XP];split
  ·split <;> rfl
  ·rfl
 | _=>rfl
theorem AR (v:Value):(AQ v).refs=[]:=by
 unfold AQ;split
 ·rename_i cs;simp only [AV.refs];apply List.eq_nil_iff_forall_not_mem.2;intro id hid;have:=Cj hid;obtain ⟨x,h1,h2⟩:=fG.1 this;obtain ⟨u,_,rfl⟩:=jZ.1 h1;rw [aFG] at h2; simp at h2
 ·exact RN _
def GO:AV->Option (Row × Nat)
 | .c (.s (.pl (.agg r n)))=>some (.t r,n)
 | .c (.mix l)=>some (.mix l,l.length)
 | .c (.s (.pl (.int k n)))=>some (.t (.ints k [n]),1)
 | .c (.s (.pl (.bool b)))=>some (.t (.bools [b]),1)
 | .c (.s (.pl (.str x)))=>some (.t (.strs [x]),1)
 | .c (.s x)=>if x.one then some (.mix [x],1) else none
 | _=>none
def RowL (w:World) (ρ:Plc) (vs:List Value):Row->Prop
 | .t r=>vs=r.cells
 | .mix l=>SVRs w ρ l vs
theorem D1 {w:World} {ρ:Plc} {x:AV} {u:Value} {row:Row} {n:Nat} (hx:AVR w ρ x u) (h:GO x=some (row,n)):RowL w ρ u.cells.toList row /\ u.cells.size=n /\ ∀ id ∈ row.refs,id ∈ x.refs:=by
 unfold GO at h;split at h
 ·rename_i r m;simp at h; obtain ⟨rfl,rfl⟩:=h;have:u=_:=hx.1;subst this;exact ⟨by simp [RowL,Value.cells,Pl.val],by simp [Value.cells,Pl.val,r.length_cells,hx.2 r m rfl],by simp [Row.refs]⟩
 ·rename_i l;simp at h; obtain ⟨rfl,rfl⟩:=h;obtain ⟨cs,rfl,hcs⟩:=hx;exact ⟨hcs,by simp [Value.cells,hcs.1],λ id hid=>hid⟩
 ·simp at h; obtain ⟨rfl,rfl⟩:=h;have:u=_:=hx.1;subst this;exact ⟨rfl,rfl,by simp [Row.refs]⟩
 ·simp at h; obtain ⟨rfl,rfl⟩:=h;have:u=_:=hx.1;subst this;exact ⟨rfl,rfl,by simp [Row.refs]⟩
 ·simp at h; obtain ⟨rfl,rfl⟩:=h;have:u=_:=hx.1;subst this;exact ⟨rfl,rfl,by simp [Row.refs]⟩
 ·rename_i x _ _ _ _;split at h
  ·rename_i h1;simp at h; obtain ⟨rfl,rfl⟩:=h;have hc:=pP (SV.one_ok hx h1);rw [hc];exact ⟨⟨rfl,λ i y v hy hv=>by
    match i with
    | 0=>simp at hy hv; subst hy; subst hv; exact hx
    | i+1=>simp at hy⟩,rfl,λ id hid=>by simpa [Row.refs,AV.refs,CV.refs] using hid⟩
  ·simp at h
 ·simp at h
def aLS (P:Program) (T:TypeId):Nat :=
 match P.underlying T with
 | some (.array n _)=>n
 | _=>0
section
variable {P:Program} {B:Bs} {w0 w w':World} {ρ:Plc} {s:St} {a:Act} {β:Type} {r:β}
def qV (k nx':Nat) (T:TypeId) (s:St) (x:AV) (K:AV->St->Option β):Option β :=
 match GO x with
 | some (row,n)=>K (.s (.ptr k 0 n)) { s with hp:=(k,{ ty:=T,n:=n,row:=row }) :: s.hp,nx:=nx' }
 | none=>none
def UZ (T:TypeId) (s:St) (x:AV) (K:AV->St->Option β):Option β:=qV s.nx (s.nx+1) T s x K
theorem RowL.rowR {cs:Array Value} {row:Row} {n:Nat} (h:RowL w ρ cs.toList row) (hn:n=cs.size):RowR w ρ n cs row:=by
 have e:cs.toList.take n=cs.toList:=fB (by simp; omega);cases row with
 | t r=>simp only [RowR,e]; exact h
 | mix l=>simp only [RowR,e]; exact h
theorem RowL.ext {ρ':Plc} {vs:List Value} {row:Row} (h:RowL w ρ vs row) (hw:WExt ρ w w') (hp:PExt ρ ρ' w) (hr:∀ id ∈ row.refs,ρ' id=ρ id):RowL w' ρ' vs row:=by
 cases row with
 | t r=>exact h
 | mix l=>exact SVRs.ext h hw hp hr
theorem xW {T:TypeId} {x:AV} {u:Value} {k nx':Nat} {K:AV->St->Option β} (cap:Nat) (hs:Rel B w0 ρ s a w) (hk:k < nx') (hnx:s.nx <= nx') (hne:∀ j,Liv s j->j ≠ k) (hx:AVR w ρ x u) (hxr:∀ id ∈ x.refs,Liv s id) (h:qV k nx' T s x K=some r) :
  ∃ av s' w' ρ',K av s'=some r /\ (∀ id ∈ av.refs,Liv s' id) /\ AVR w' ρ' av (.pointer (some ⟨w.heap.size,0,none⟩)) /\ Rel B w0 ρ' s' a w' /\ w'=w.alloc (.cells u.cells T):=by
 unfold qV at h;split at h
 ·rename_i row n hb;obtain ⟨h1,h2,h3⟩:=D1 hx hb;have hw:WExt ρ w (w.alloc (.cells u.cells T)):=⟨by simp,λ k hk _=>heap_alloc_old w _ hk⟩;refine ⟨_,_,_,qC ρ k ⟨w.heap.size,cap,n,n⟩,h,?_,?_,hs.newat hk hnx hne (x:=⟨w.heap.size,cap,n,n⟩) rfl ⟨⟨u.cells,(0,0),heap_alloc_new w _,by simp [h2],by simp,?_⟩,rfl⟩ ?_,rfl⟩
  ·intro id hid;simp [AV.refs,CV.refs,SV.refs] at hid;subst hid;exact ⟨hk,_,by show bU ((id,_) :: s.hp) id=_; rw [iD,aT rfl]⟩
  ·exact ⟨_,dC _ _ _,by simp,rfl⟩
  ·refine RowL.rowR (h1.ext hw (PExt.new (bV _)) λ id hid=>dK _ _ ?_) h2.symm;exact hne id (hxr id (h3 id hid))
  ·intro id hid; exact hxr id (h3 id hid)
 ·simp at h
theorem JP {T:TypeId} {x:AV} {u:Value} {K:AV->St->Option β} (cap:Nat) (hs:Rel B w0 ρ s a w) (hx:AVR w ρ x u) (hxr:∀ id ∈ x.refs,Liv s id) (h:UZ T s x K=some r) :
  ∃ av s' w' ρ',K av s'=some r /\ (∀ id ∈ av.refs,Liv s' id) /\ AVR w' ρ' av (.pointer (some ⟨w.heap.size,0,none⟩)) /\ Rel B w0 ρ' s' a w' /\ w'=w.alloc (.cells u.cells T) :=
 xW cap hs (lD _) (Nat.le_succ _) (λ j hj=>Nat.ne_of_lt hj.1) hx hxr h
def nR (P:Program) (k nx':Nat) (T:TypeId) (s:St) (K:AV->St->Option β):Option β :=
 match P.info? T with
 | some i=>match i.zero with
  | some z=>qV k nx' T s (AQ z) K
  | none=>none
 | none=>none
theorem JQ {T:TypeId} {k nx':Nat} {K:AV->St->Option β} (hs:Rel B w0 ρ s a w) (hk:k < nx') (hnx:s.nx <= nx') (hne:∀ j,Liv s j->j ≠ k) (h:nR P k nx' T s K=some r) :
  ∃ av s' w' ρ' v,K av s'=some r /\ (∀ id ∈ av.refs,Liv s' id) /\ AVR w' ρ' av v /\ Rel B w0 ρ' s' a w' /\ (Instr.alloc T true (.tuple #[])).run P w=.ok v w':=by
 unfold nR at h;split at h
 ·rename_i i hi;split at h
  ·rename_i z hz;obtain ⟨av,s',w',ρ',h1,h2,h3,h4,h5⟩:=xW (aLS P T) hs hk hnx hne (FJ w ρ z) (by simp [AR]) h;refine ⟨av,s',w',ρ',_,h1,h2,h3,h4,?_⟩;subst h5;simp [Instr.alloc,zeroValue,typeInfo,hi,hz,newVar,newRow]
  ·simp at h
 ·simp at h
theorem OC {T:TypeId} {x:AV} {u:Value} {k nx':Nat} {K:AV->St->Option β} (hs:Rel B w0 ρ s a w) (hk:k < nx') (hnx:s.nx <= nx') (hne:∀ j,Liv s j->j ≠ k) (hx:AVR w ρ x u) (hxr:∀ id ∈ x.refs,Liv s id) (h:qV k nx' T s x K=some r) :
  ∃ av s' w' ρ' v,K av s'=some r /\ (∀ id ∈ av.refs,Liv s' id) /\ AVR w' ρ' av v /\ Rel B w0 ρ' s' a w' /\ (Instr.box T u).run P w=.ok v w':=by
 obtain ⟨av,s',w',ρ',h1,h2,h3,h4,h5⟩:=xW (aLS P T) hs hk hnx hne hx hxr h;refine ⟨av,s',w',ρ',_,h1,h2,h3,h4,?_⟩;subst h5;simp [Instr.box,newVar,newRow]
def FK (P:Program) (T:TypeId) (s:St) (K:AV->St->Option β):Option β :=
 match P.info? T with
 | some i=>match i.zero with
  | some z=>UZ T s (AQ z) K
  | none=>none
 | none=>none
theorem OD {T:TypeId} {K:AV->St->Option β} (hs:Rel B w0 ρ s a w) (h:FK P T s K=some r) :
  ∃ av s' w' ρ' v,K av s'=some r /\ (∀ id ∈ av.refs,Liv s' id) /\ AVR w' ρ' av v /\ Rel B w0 ρ' s' a w' /\ (Instr.alloc T true (.tuple #[])).run P w=.ok v w':=by
 unfold FK at h;split at h
 ·rename_i i hi;split at h
  ·rename_i z hz;obtain ⟨av,s',w',ρ',h1,h2,h3,h4,h5⟩:=JP (aLS P T) hs (FJ w ρ z) (by simp [AR]) h;refine ⟨av,s',w',ρ',_,h1,h2,h3,h4,?_⟩;subst h5;simp [Instr.alloc,zeroValue,typeInfo,hi,hz,newVar,newRow]
  ·simp at h
 ·simp at h
theorem Ua {T:TypeId} {x:AV} {u:Value} {K:AV->St->Option β} (hs:Rel B w0 ρ s a w) (hx:AVR w ρ x u) (hxr:∀ id ∈ x.refs,Liv s id) (h:UZ T s x K=some r) :
  ∃ av s' w' ρ' v,K av s'=some r /\ (∀ id ∈ av.refs,Liv s' id) /\ AVR w' ρ' av v /\ Rel B w0 ρ' s' a w' /\ (Instr.box T u).run P w=.ok v w':=by
 obtain ⟨av,s',w',ρ',h1,h2,h3,h4,h5⟩:=JP (aLS P T) hs hx hxr h;refine ⟨av,s',w',ρ',_,h1,h2,h3,h4,?_⟩;subst h5;simp [Instr.box,newVar,newRow]
def D2 (n m:Nat):Nat:=cond (Nat.beq m 1) n (n*m)
theorem JR (n m:Nat):D2 n m=n*m:=by
 unfold D2;cases h:Nat.beq m 1
 ·rfl
 ·have:=aS h; subst this; simp
def xX (P:Program) (S:TypeId) (x:AV) (f:Nat) (K:AV->Option β):Option β :=
 match P.underlying S with
 | some (.struct fs)=>match fs[f]? with
  | some fd=>match gQ P fd.type with
   | some m=>
    match x with
    | .c (.s (.ptr id off ext))=>cond (Nat.ble 1 m && Nat.ble (fd.offset+m) ext) (K (.s (.ptr id (off+fd.offset) m))) none
    | .c (.s (.rptr r off ext))=>cond (Nat.ble 1 m && Nat.ble (fd.offset+m) ext) (K (.s (.rptr r (off+fd.offset) m))) none
    | _=>none
   | none=>none
  | none=>none
 | _=>none
theorem D3 {S:TypeId} {x:AV} {u:Value} {f:Nat} {K:AV->Option β} (hx:AVR w ρ x u) (h:xX P S x f K=some r) :
  ∃ av z,K av=some r /\ (∀ id ∈ av.refs,id ∈ x.refs) /\ AVR w ρ av z /\ (Instr.fieldAt S u f).run P w=.ok z w:=by
 unfold xX at h;split at h
 ·rename_i fs hS;split at h
  ·rename_i fd hfd;split at h
   ·rename_i m hm;obtain ⟨i,hi,him⟩:=eL hm;have key:∀ b o,1 <= m->(Instr.fieldAt S (.pointer (some ⟨b,o,none⟩)) f).run P w=.ok (.pointer (some ⟨b,o+fd.offset,none⟩)) w:=by
     intro b o h1;have hne:¬ (i.size=0):=by omega
     simp [Instr.fieldAt,underlying,hS,hfd,Instr.sureAddr,fieldPlace,sizeOf,typeInfo,hi,hne,Addr.add_mid]
    split at h
    ·rename_i id off ext;obtain ⟨h1,h2⟩:=aY h;simp only [aX] at h1;have e1:1 <= m:=by simpa using h1.1
     have e2:fd.offset+m <= ext:=by simpa using h1.2
     obtain ⟨y,hy,ho,rfl⟩:=hx;exact ⟨_,_,h2,by simp [AV.refs,CV.refs,SV.refs],⟨y,hy,by omega,rfl⟩,key _ _ e1⟩
    ·rename_i tr off ext;obtain ⟨h1,h2⟩:=aY h;simp only [aX] at h1;have e1:1 <= m:=by simpa using h1.1
     have e2:fd.offset+m <= ext:=by simpa using h1.2
     obtain ⟨ho,b,o,rfl,hf,hra,hb⟩:=hx;refine ⟨_,_,h2,by simp [AV.refs,CV.refs,SV.refs],⟨by omega,b,o,?_,hf,hra,hb⟩,key _ _ e1⟩;rw [sI]
    ·simp at h
   ·simp at h
  ·simp at h
 ·simp at h
def jH (P:Program) (T:TypeId) (x i:AV) (K:AV->Option β):Option β :=
 match i with
 | .c (.s (.pl (.int _ n)))=>
  match P.underlying T with
  | some (.array len e)=>match gQ P e with
   | some m=>match x with
    | .c (.s (.ptr id off ext))=>cond (Nat.ble (len*m) ext) (cond (decide (0 <= n /\ n < (len:Int))) (K (.s (.ptr id (off+D2 n.toNat m) m))) none) none
    | .c (.s (.rptr r off ext))=>cond (Nat.ble (len*m) ext) (cond (decide (0 <= n /\ n < (len:Int))) (K (.s (.rptr r (off+D2 n.toNat m) m))) none) none
    | _=>none
   | none=>none
  | some (.slice e)=>match gQ P e with
   | some m=>match x with
    | .c (.s (.own id len esz))=>cond (Nat.beq esz m) (cond (decide (0 <= n /\ n < (len:Int))) (K (.s (.ptr id (D2 n.toNat m) m))) none) none
    | .c (.s (.sub id lo len esz))=>cond (Nat.beq esz m) (cond (decide (0 <= n /\ n < (len:Int))) (K (.s (.ptr id (D2 (lo+n.toNat) m) m))) none) none
    | .c (.s (.dat r len esz))=>cond (Nat.beq esz m) (cond (decide (0 <= n /\ n < (len:Int))) (K (.s (.rptr r (D2 n.toNat m) m))) none) none
    | .c (.mdat l)=>cond (Nat.beq m 1) (cond (decide (0 <= n /\ n < (l.length:Int))) (K (.c (.mptr l n.toNat))) none) none
    | _=>none
   | none=>none
  | _=>none
 | _=>none
theorem j5 {T e:TypeId} {m:Nat} {b o len c:Nat} {k:IntKind} {n:Int} (hT:P.underlying T=some (.slice e)) (hm:gQ P e=some m) (hn:0 <= n /\ n < (len:Int)) :
  (Instr.indexAt T (.slice (some ⟨b,o,none⟩) len c) (.int k n)).run P w=.ok (.pointer (some ⟨b,o+n.toNat*m,none⟩)) w:=by
 obtain ⟨i,hi,him⟩:=eL hm;simp [Instr.indexAt,underlying,hT,asIntOf,hn.1,hn.2,sizeOf,typeInfo,hi,him,Addr.add_mid]
theorem uJ {T e:TypeId} {m:Nat} {b o len:Nat} {k:IntKind} {n:Int} (hT:P.underlying T=some (.array len e)) (hm:gQ P e=some m) (hn:0 <= n /\ n < (len:Int)) :
  (Instr.indexAt T (.pointer (some ⟨b,o,none⟩)) (.int k n)).run P w=.ok (.pointer (some ⟨b,o+n.toNat*m,none⟩)) w:=by
 obtain ⟨i,hi,him⟩:=eL hm;simp [Instr.indexAt,underlying,hT,asIntOf,hn.1,hn.2,Instr.sureAddr,sizeOf,typeInfo,hi,him,Addr.add_mid]
theorem tF {j len m:Nat} (h:j < len):j*m+m <= len*m:=by
 have:(j+1)*m <= len*m:=pT m h;rwa [gL,pV] at this
theorem FL {T:TypeId} {x i:AV} {u v:Value} {K:AV->Option β} (hx:AVR w ρ x u) (hi:AVR w ρ i v) (h:jH P T x i K=some r) :
  ∃ av z,K av=some r /\ (∀ id ∈ av.refs,id ∈ x.refs) /\ AVR w ρ av z /\ (Instr.indexAt T u v).run P w=.ok z w:=by
 unfold jH at h;simp only [JR] at h;split at h
 ·rename_i k n;have:v=.int k n:=hi.1;subst this;split at h
  ·rename_i len e hT;split at h
   ·rename_i m hm;split at h
    ·rename_i id off ext;obtain ⟨h1,h2⟩:=aY h;obtain ⟨h3,h4⟩:=aY h2;have h1:len*m <= ext:=by simpa using h1
     have h3:0 <= n /\ n < (len:Int):=by simpa using h3
     obtain ⟨y,hy,ho,rfl⟩:=hx;have:=tF (m:=m) (show n.toNat < len by omega);exact ⟨_,_,h4,by simp [AV.refs,CV.refs,SV.refs],⟨y,hy,by omega,rfl⟩,uJ hT hm h3⟩
    ·rename_i tr off ext;obtain ⟨h1,h2⟩:=aY h;obtain ⟨h3,h4⟩:=aY h2;have h1:len*m <= ext:=by simpa using h1
     have h3:0 <= n /\ n < (len:Int):=by simpa using h3
     obtain ⟨ho,b,o,rfl,hf,hra,hb⟩:=hx;have:=tF (m:=m) (show n.toNat < len by omega);exact ⟨_,_,h4,by simp [AV.refs,CV.refs,SV.refs],⟨by omega,b,o,rfl,hf,hra,hb⟩,by rw [uJ hT hm h3,sI]⟩
    ·simp at h
   ·simp at h
  ·rename_i e hT;split at h
   ·rename_i m hm;split at h
    ·rename_i id len esz;obtain ⟨h1,h2⟩:=aY h;obtain ⟨h3,h4⟩:=aY h2;have h1:esz=m:=aS h1;have h3:0 <= n /\ n < (len:Int):=by simpa using h3
     subst h1;rcases hx with ⟨y,hy,rfl,hn,hc,hcm,hcz⟩ | ⟨_,hl,_⟩
     ·have:=tF (m:=esz) (show n.toNat < len by omega);refine ⟨_,_,h4,by simp [AV.refs,CV.refs,SV.refs],⟨y,hy,by omega,rfl⟩,?_⟩;rw [j5 hT hm h3,bS]
     ·omega
    ·rename_i id lo len esz;obtain ⟨h1,h2⟩:=aY h;obtain ⟨h3,h4⟩:=aY h2;have h1:esz=m:=aS h1;have h3:0 <= n /\ n < (len:Int):=by simpa using h3
     subst h1;rcases hx with ⟨y,hy,hn,o,c,rfl,ho,hlc⟩ | ⟨_,hl,_⟩;rotate_left
     ·omega
     have hlo:o=lo*esz:=by rcases ho with ho | ho <;> omega
     have:=tF (m:=esz) (show lo+n.toNat < lo+len by omega);refine ⟨_,_,h4,by simp [AV.refs,CV.refs,SV.refs],⟨y,hy,by omega,rfl⟩,?_⟩;rw [j5 hT hm h3,hlo,gL]
    ·rename_i tr len esz;obtain ⟨h1,h2⟩:=aY h;obtain ⟨h3,h4⟩:=aY h2;have h1:esz=m:=aS h1;have h3:0 <= n /\ n < (len:Int):=by simpa using h3
     subst h1;obtain ⟨hl,hx⟩:=hx;rcases hx with ⟨hl,_⟩ | ⟨b,o,c,rfl,hc,hf,hra,hb⟩
     ·omega
     ·have:=tF (m:=esz) (show n.toNat < len by omega);exact ⟨_,_,h4,by simp [AV.refs,CV.refs,SV.refs],⟨by omega,b,o,rfl,hf,hra,hb⟩,j5 hT hm h3⟩
    ·rename_i l;obtain ⟨h1,h2⟩:=aY h;obtain ⟨h3,h4⟩:=aY h2;have h1:m=1:=aS h1;have h3:0 <= n /\ n < (l.length:Int):=by simpa using h3
     subst h1;rcases hx with ⟨hl,_⟩ | ⟨b,o,c,rfl,hc,hf,hra,hb⟩
     ·omega
     ·refine ⟨_,_,h4,λ id hid=>hid,⟨by omega,b,o,rfl,hf,hra,hb⟩,?_⟩;rw [j5 hT hm h3,iY]
    ·simp at h
   ·simp at h
  ·simp at h
 ·simp at h
def xY (P:Program) (T:TypeId) (x:AV) (K:AV->Option β):Option β :=
 match P.underlying T,x with
 | some (.array n e),.c (.s (.dat r len esz))=>cond (Nat.ble 1 n && Nat.ble n len) (K (.s (.rptr r 0 (n*esz)))) none
 | _,_=>none
theorem OE {T:TypeId} {x:AV} {u:Value} {K:AV->Option β} (hx:AVR w ρ x u) (h:xY P T x K=some r) :
  ∃ av z,K av=some r /\ av.refs=[] /\ AVR w ρ av z /\ (Instr.arrayAt T u).run P w=.ok z w:=by
 unfold xY at h;split at h
 ·rename_i n e tr len esz hT;obtain ⟨h1,h2⟩:=aY h;simp only [aX] at h1;have g1:1 <= n:=cF h1.1;have g2:n <= len:=cF h1.2;obtain ⟨hl,hx⟩:=hx;rcases hx with ⟨hl,_⟩ | ⟨b,o,c,rfl,hc,hf,hra,hb⟩
  ·omega
  ·have hm:=pT esz g2;refine ⟨_,_,h2,by simp [AV.refs,CV.refs,SV.refs],⟨by omega,b,o,rfl,hf,hra,hb⟩,?_⟩;simp [Instr.arrayAt,run_underlying hT,Nat.not_lt.2 g2]
 ·simp at h
def k8 (x:AV) (K:AV->Option β):Option β :=
 match x with
 | .c (.s (.ptr id off ext))=>K x
 | .c (.s (.rptr r off ext))=>K x
 | .c (.s (.clo f g c))=>K x
 | .c (.s (.clop f c))=>K x
 | .c (.s (.clor f c))=>K x
 | _=>none
theorem Gp {x:AV} {u:Value} {o:Oper} {y:Operand} {K:AV->Option β} (ho:o.op=.nilCheck y) (hu:a.eval y=u) (hx:AVR w ρ x u) (h:k8 x K=some r) :
  K x=some r /\ (execOp a.eval o).run P w=.ok (.value u) w:=by
 unfold k8 at h;split at h
 ·obtain ⟨y,_,_,rfl⟩:=hx; exact ⟨h,by simp [execOp,ho,hu]⟩
 ·obtain ⟨_,_,_,rfl,_⟩:=hx; exact ⟨h,by simp [execOp,ho,hu]⟩
 ·have:u=_:=hx; subst this; exact ⟨h,by simp [execOp,ho,hu]⟩
 ·obtain ⟨_,rfl,_⟩:=hx; exact ⟨h,by simp [execOp,ho,hu]⟩
 ·obtain ⟨_,rfl,_⟩:=hx; exact ⟨h,by simp [execOp,ho,hu]⟩
 ·simp at h
end
end
noncomputable section
open Go Go.RowKit
set_option linter.all false
section
variable {P:Program} {B:Bs} {w0 w w':World} {ρ:Plc} {s:St} {a:Act} {β:Type} {r:β}
def JS (P:Program) (ft:TypeId) (off:Nat) (x:AV) (K:AV->Option β):Option β :=
 match lV P ft,gQ P ft with
 | some true,some m=>
  match x with
  | .c (.s (.pl (.agg r n)))=>cond (Nat.ble (off+m) n) (K (.agg (XR r off m n) m)) none
  | .c (.mix l)=>cond (Nat.ble (off+m) l.length) (K (.c (JN ((l.drop off).take m)))) none
  | _=>none
 | some false,some _=>
  match x with
  | .c (.s (.pl (.agg r n)))=>cond (Nat.blt off n) (K (.s (r.get off))) none
  | .c (.mix l)=>match l[off]? with
   | some v=>K (jV P ft (.s v))
   | none=>none
  | _=>none
 | _,_=>none
theorem GP {ft:TypeId} {off:Nat} {x:AV} {u:Value} {K:AV->Option β} (hx:AVR w ρ x u) (h:JS P ft off x K=some r) :
  ∃ av z cs,K av=some r /\ (∀ id ∈ av.refs,id ∈ x.refs) /\ AVR w ρ av z /\ u=.agg cs /\ (part ft cs off).run P w=.ok z w:=by
 have agT:∀ {m:Nat} (cs:Array Value),lV P ft=some true->gQ P ft=some m->(part ft cs off).run P w=.ok (.agg (cs.extract off (off+m))) w:=by
  intro m cs hk hm;obtain ⟨d,hd,hrow⟩:=xV hk;obtain ⟨i,hi,him⟩:=eL hm;have hagg:(isAgg ft).run P w=.ok true w:=by
   unfold isAgg;rw [Sem.run_bind,run_underlying hd w];cases d <;> simp_all
  simp [part,hagg,sizeOf,typeInfo,hi,him]
 have agF:∀ (cs:Array Value) (v:Value),lV P ft=some false->cs[off]?=some v->(part ft cs off).run P w=.ok v w:=by
  intro cs v hk hv;simp [part,kP hk,hv]
 unfold JS at h;split at h
 ·rename_i m hk hm;split at h
  ·rename_i tr n;obtain ⟨h1,h2⟩:=aY h;have h1:off+m <= n:=by simpa using h1
   have hu:u=.agg tr.cells.toArray:=hx.1;have hl:tr.length=n:=hx.2 tr n rfl;subst hu;have hsub:=GN tr off m n hl;refine ⟨_,_,_,h2,by simp [AV.refs,CV.refs,SV.refs],⟨rfl,λ rr nn e=>?_⟩,rfl,?_⟩
   ·cases e; rw [<-TRow.length_cells,hsub,dV,kX,tr.length_cells]; omega
   ·rw [agT _ hk hm];simp only [Pl.val,hsub];congr 2;apply Array.ext';simp [List.drop_take]
  ·rename_i l;obtain ⟨h1,h2⟩:=aY h;have h1:off+m <= l.length:=by simpa using h1
   obtain ⟨cs,rfl,hcs⟩:=hx;refine ⟨_,_,_,h2,λ id hid=>?_,JO (cs:=cs.extract off (off+m)) ⟨?_,λ i x v hx hv=>?_⟩,rfl,agT _ hk hm⟩
   ·obtain ⟨x,hx1,hx2⟩:=fG.1 (Cj hid);exact fG.2 ⟨x,PO (PP hx1),hx2⟩
   ·have:=hcs.1; simp at this ⊢; omega
   ·rw [kW] at hx;split at hx
    ·rename_i hi;rw [mO] at hx;refine hcs.2 (off+i) x v hx ?_;simp only [Yd,Array.getElem?_extract] at hv ⊢;split at hv
     ·exact hv
     ·simp at hv
    ·simp at hx
  ·simp at h
 ·rename_i m hk hm;split at h
  ·rename_i tr n;obtain ⟨h1,h2⟩:=aY h;have h1:off < n:=by
    have:=h1;simp [Nat.blt] at this; omega
   have hu:u=.agg tr.cells.toArray:=hx.1;have hl:tr.length=n:=hx.2 tr n rfl;subst hu;have hv:tr.cells[off]?=some (tr.cells[off]'(by rw [tr.length_cells]; omega)):=by simp
   exact ⟨_,_,_,h2,by simp [AV.refs,CV.refs,tr.get_refs],tr.get_cell hv,rfl,agF _ _ hk (by simp)⟩
  ·rename_i l;obtain ⟨cs,rfl,hcs⟩:=hx;split at h
   ·rename_i v hv;obtain ⟨z,hz,hzr⟩:=hcs.get hv;refine ⟨_,z,_,h,λ id hid=>?_,jT (x:=.s v) hzr,rfl,agF _ _ hk (by simpa using hz)⟩;rw [iE] at hid;exact fG.2 ⟨v,jI hv,hid⟩
   ·simp at h
  ·simp at h
 ·simp at h
def rW (P:Program) (T:TypeId) (x:AV) (f:Nat) (K:AV->Option β):Option β :=
 match P.underlying T with
 | some (.struct fs)=>match fs[f]? with
  | some fd=>JS P fd.type fd.offset x K
  | none=>none
 | _=>none
theorem KR {T:TypeId} {x:AV} {u:Value} {f:Nat} {K:AV->Option β} (hx:AVR w ρ x u) (h:rW P T x f K=some r) :
  ∃ av z,K av=some r /\ (∀ id ∈ av.refs,id ∈ x.refs) /\ AVR w ρ av z /\ (Instr.field T u f).run P w=.ok z w:=by
 unfold rW at h;split at h
 ·rename_i fs hT;split at h
  ·rename_i fd hfd;obtain ⟨av,z,cs,h1,h2,h3,rfl,h4⟩:=GP hx h;exact ⟨av,z,h1,h2,h3,by simp [Instr.field,underlying,hT,hfd,asAgg,h4]⟩
  ·simp at h
 ·simp at h
def uK (P:Program) (T:TypeId) (x i:AV) (K:AV->Option β):Option β :=
 match i with
 | .c (.s (.pl (.int _ n)))=>
  match P.underlying T with
  | some .string=>match x with
   | .c (.s (.pl (.str s)))=>cond (decide (0 <= n /\ n < (s.length:Int))) (K (.int .u8 ((s.getD n.toNat 0).toNat:Int))) none
   | _=>none
  | some (.array len e)=>match gQ P e with
   | some m=>cond (decide (0 <= n /\ n < (len:Int))) (JS P e (n.toNat*m) x K) none
   | none=>none
  | _=>none
 | _=>none
def nS (P:Program) (T:TypeId) (x i:AV) (K:AV->Option β):Option β :=
 match i with
 | .c (.s (.pl (.int _ n)))=>
  match P.underlying T with
  | some (.array len e)=>match lV P e,gQ P e with
   | some false,some m=>match x with
    | .c (.s (.pl (.agg r l)))=>cond (Nat.beq m 1 && Nat.ble len l) (cond (decide (0 <= n /\ n < (len:Int))) (K (.s (r.get n.toNat))) none) none
    | _=>uK P T x i K
   | _,_=>uK P T x i K
  | _=>uK P T x i K
 | _=>none
theorem vC {T:TypeId} {x i:AV} {u v:Value} {K:AV->Option β} (hx:AVR w ρ x u) (hi:AVR w ρ i v) (h:uK P T x i K=some r) :
  ∃ av z,K av=some r /\ (∀ id ∈ av.refs,id ∈ x.refs) /\ AVR w ρ av z /\ (Instr.index T u v).run P w=.ok z w:=by
 unfold uK at h;split at h
 ·rename_i k n;have:v=.int k n:=hi.1;subst this;split at h
  ·rename_i hT;split at h
   ·rename_i x;obtain ⟨h1,h2⟩:=aY h;have h1:0 <= n /\ n < (x.length:Int):=by simpa using h1
    rw [hx.ofStr];refine ⟨_,_,h2,by simp [AV.refs,CV.refs,SV.refs],AVR.int _ _,?_⟩;have hlt:n.toNat < x.length:=by omega
    have hs:n.toNat < (ByteArray.mk x.toArray).size:=by simpa [ByteArray.size] using hlt
    have hg:(ByteArray.mk x.toArray)[n.toNat]?=some (x[n.toNat]'hlt):=by
     rw [getElem?_pos (ByteArray.mk x.toArray) n.toNat hs];simp [ByteArray.getElem_eq_getElem_data]
    simp [Instr.index,underlying,hT,asIntOf,h1.1,hg,List.getD,hlt]
   ·simp at h
  ·rename_i len e hT;split at h
   ·rename_i m hm;obtain ⟨h1,h2⟩:=aY h;have h1:0 <= n /\ n < (len:Int):=by simpa using h1
    obtain ⟨av,z,cs,q1,q2,q3,rfl,q4⟩:=GP hx h2;obtain ⟨i,hi',him⟩:=eL hm;refine ⟨av,z,q1,q2,q3,?_⟩;simp [Instr.index,underlying,hT,asIntOf,h1.1,h1.2,sizeOf,typeInfo,hi',him,q4]
   ·simp at h
  ·simp at h
 ·simp at h
theorem JT {T:TypeId} {x i:AV} {u v:Value} {K:AV->Option β} (hx:AVR w ρ x u) (hi:AVR w ρ i v) (h:nS P T x i K=some r) :
  ∃ av z,K av=some r /\ (∀ id ∈ av.refs,id ∈ x.refs) /\ AVR w ρ av z /\ (Instr.index T u v).run P w=.ok z w:=by
 unfold nS at h;split at h
 ·rename_i k n;split at h
  ·rename_i len e hT;split at h
   ·rename_i m hk hm;split at h
    ·rename_i tr l;have:v=.int k n:=hi.1;subst this;obtain ⟨h0,h2⟩:=aY h;obtain ⟨h1,h3⟩:=aY h2;simp only [aX] at h0;have e1:m=1:=aS h0.1;have e2:len <= l:=by simpa using h0.2
     have h1:0 <= n /\ n < (len:Int):=by simpa using h1
     have hu:u=.agg tr.cells.toArray:=hx.1;have hl:tr.length=l:=hx.2 tr l rfl;subst hu; subst e1;obtain ⟨i,hi',him⟩:=eL hm;have hv:tr.cells[n.toNat]?=some (tr.cells[n.toNat]'(by rw [tr.length_cells]; omega)):=by simp
     refine ⟨_,_,h3,by simp [AV.refs,CV.refs,tr.get_refs],tr.get_cell hv,?_⟩;have hn:n.toNat < tr.cells.length:=by rw [tr.length_cells]; omega
     simp [Instr.index,underlying,hT,asIntOf,h1.1,h1.2,sizeOf,typeInfo,hi',him,part,kP hk,hn]
    ·exact vC hx hi h
   ·exact vC hx hi h
  ·exact vC hx hi h
 ·simp at h
def OG (P:Program) (T:TypeId) (x:AV) (K:AV->Option β):Option β :=
 match P.underlying T with
 | some .string=>match x with
  | .c (.s (.pl (.str s)))=>K (.int .i64 (s.length:Int))
  | _=>none
 | some (.array n _)=>K (.int .i64 (n:Int))
 | some (.slice _)=>match jV P T x with
  | .c (.s (.own _ len _))=>K (.int .i64 (len:Int))
  | .c (.s (.sub _ _ len _))=>K (.int .i64 (len:Int))
  | .c (.s (.dat _ len _))=>K (.int .i64 (len:Int))
  | .c (.mdat l)=>K (.int .i64 (l.length:Int))
  | _=>none
 | _=>none
theorem Ub {T ty:TypeId} {x:AV} {u:Value} {K:AV->Option β} (hx:AVR w ρ x u) (h:OG P T x K=some r) :
  ∃ av z,K av=some r /\ av.refs=[] /\ AVR w ρ av z /\ (Builtin.len_ #[T] ty #[u]).run P w=.ok z w:=by
 unfold OG at h;split at h
 ·rename_i hT;split at h
  ·rename_i x;rw [hx.ofStr];refine ⟨_,_,h,rfl,AVR.int _ _,?_⟩;have hsz:(ByteArray.mk x.toArray).size=x.length:=by simp [ByteArray.size]
   simp only [Builtin.len_,List.getElem?_toArray,List.getElem?_cons_zero,underlying,Sem.run_bind,run_program,Result.andThen_ok,hT,Sem.run_pure,goInt,hsz]
  ·simp at h
 ·rename_i n e hT;refine ⟨_,_,h,rfl,AVR.int _ _,?_⟩;simp [Builtin.len_,underlying,hT,goInt]
 ·rename_i e hT;have key:∀ (ad:Option Addr) (n c:Nat),(Builtin.len_ #[T] ty #[.slice ad n c]).run P w=.ok (.int .i64 (n:Int)) w:=by
   intro ad n c;simp [Builtin.len_,underlying,hT,goInt]
  have hx':=jT (P:=P) (T:=T) hx;split at h
  ·rename_i id len esz he;rw [he] at hx';rcases hx' with ⟨y,_,rfl,_⟩ | ⟨_,rfl,rfl⟩ <;> exact ⟨_,_,h,rfl,AVR.int _ _,key _ _ _⟩
  ·rename_i id lo len esz he;rw [he] at hx';rcases hx' with ⟨y,_,_,o,c,rfl,_⟩ | ⟨_,rfl,rfl⟩ <;> exact ⟨_,_,h,rfl,AVR.int _ _,key _ _ _⟩
  ·rename_i tr len esz he;rw [he] at hx';rcases hx'.2 with ⟨rfl,rfl⟩ | ⟨b,o,c,rfl,_⟩ <;> exact ⟨_,_,h,rfl,AVR.int _ _,key _ _ _⟩
  ·rename_i l he;rw [he] at hx';rcases hx' with ⟨hl,rfl⟩ | ⟨b,o,c,rfl,_⟩
   ·exact ⟨_,_,h,rfl,AVR.int _ _,by rw [hl]; exact key _ _ _⟩
   ·exact ⟨_,_,h,rfl,AVR.int _ _,key _ _ _⟩
  ·simp at h
 ·simp at h
def fS (o:Option AV) (d:Int):Option Int :=
 match o with
 | none=>some d
 | some (.c (.s (.pl (.int _ n))))=>some n
 | some _=>none
def RO (w:World) (ρ:Plc):Option AV->Option Value->Prop
 | none,none=>True
 | some x,some v=>AVR w ρ x v
 | _,_=>False
def sl {α:Type} (l:List α) (lo hi:Int):List α:=(l.drop lo.toNat).take (hi - lo).toNat
theorem kQ {v:Value} {k:IntKind} {n:Int} {y:Nat} {c:BoundsCode} (hv:v=.int k n) (h:0 <= n /\ n <= (y:Int)):(Instr.sliceBound v y c).run P w=.ok n.toNat w:=by
 subst hv;simp [Instr.sliceBound,asIntOf,h.1,h.2]
theorem qW {isS:Bool} {len cap:Nat} {lo hi:Option AV} {lv hv:Option Value} {l h:Int} (h1:RO w ρ lo lv) (h2:RO w ρ hi hv) (e1:fS lo 0=some l) (e2:fS hi len=some h)
  (hb:0 <= l /\ l <= h /\ h <= (len:Int)) (hc:len <= cap):(Instr.sliceBounds isS len cap lv hv none).run P w=.ok (l.toNat,h.toNat,cap) w:=by
 have hl:∀ y:Nat,y=h.toNat->(match lv with | some v=>Instr.sliceBound v y .sliceB | none=>pure 0:Sem Nat).run P w=.ok l.toNat w:=by
  intro y hy
  match lo,lv,h1 with
  | none,none,_=>simp [fS] at e1; subst e1; rfl
  | some x,some v,h1=>
   unfold fS at e1;split at e1
   ·simp at *
   ·rename_i k n he;simp at he e1; subst he; subst e1;exact kQ h1.1 (by omega)
   ·simp at e1
 have hh:(match hv,(none:Option Value) with | some v,some _=>Instr.sliceBound v cap .slice3B | some v,none=>Instr.sliceBound v cap (if isS then .sliceAcap else .sliceAlen) | none,none=>pure len | none,some _=>stuck "Slice: max without high" : Sem Nat).run P w=.ok h.toNat w:=by
  match hi,hv,h2 with
  | none,none,_=>simp [fS] at e2; subst e2; simp
  | some x,some v,h2=>
   unfold fS at e2;split at e2
   ·simp at *
   ·rename_i k n he;simp at he e2; subst he; subst e2;exact kQ h2.1 (by omega)
   ·simp at e2
 unfold Instr.sliceBounds;cases hv with
 | none=>
  have e:len=h.toNat:=by simpa using hh
  have hl':=hl len e;cases lv with
  | none=>simp at hl' ⊢; exact ⟨hl',e⟩
  | some v=>simp at hl' ⊢; rw [e] at hl'; simp [hl',e]
 | some v=>
  have hh':(Instr.sliceBound v cap (if isS then .sliceAcap else .sliceAlen)).run P w=.ok h.toNat w:=hh;have hl':=hl h.toNat rfl;cases lv with
  | none=>simp at hl' ⊢; simp [hh',hl']
  | some u=>simp at hl' ⊢; simp [hh',hl']
theorem FM {len cap:Nat} {lo:Option AV} {lv:Option Value} {l h x:Int} {kh kx:IntKind} (h1:RO w ρ lo lv) (e1:fS lo 0=some l)
  (hb:0 <= l /\ l <= h /\ h <= x /\ x <= (cap:Int)):(Instr.sliceBounds true len cap lv (some (.int kh h)) (some (.int kx x))).run P w=.ok (l.toNat,h.toNat,x.toNat) w:=by
 have g1:∀ c,(Instr.sliceBound (.int kx x) cap c).run P w=.ok x.toNat w:=λ c=>kQ rfl (by omega);have g2:∀ c,(Instr.sliceBound (.int kh h) x.toNat c).run P w=.ok h.toNat w:=λ c=>kQ rfl (by omega);unfold Instr.sliceBounds
 match lo,lv,h1 with
 | none,none,_=>
  simp [fS] at e1; subst e1;simp [g1,g2]
 | some y,some v,h1=>
  unfold fS at e1;split at e1
  ·simp at *
  ·rename_i k n he;simp at he e1; subst he; subst e1;have g3:∀ c,(Instr.sliceBound v h.toNat c).run P w=.ok n.toNat w:=λ c=>kQ h1.1 (by omega);simp [g1,g2,g3]
  ·simp at e1
def xZ (P:Program) (T:TypeId) (x:AV) (lo hi mx:Option AV) (K:AV->Option β):Option β :=
 match P.underlying T with
 | some .string=>match x,mx with
  | .c (.s (.pl (.str s))),none=>
   match fS lo 0,fS hi s.length with
   | some l,some h=>cond (decide (0 <= l /\ l <= h /\ h <= (s.length:Int))) (K (.str (sl s l h))) none
   | _,_=>none
  | _,_=>none
 | some (.slice e)=>match gQ P e with
  | some m=>match jV P T x,mx with
   | .c (.s (.dat r len esz)),none=>
    match fS lo 0,fS hi len with
    | some l,some h=>cond (Nat.beq esz m) (cond (decide (0 <= l /\ l <= h /\ h <= (len:Int))) (K (.s (.dat (r.sub (l.toNat*esz) ((h - l).toNat*esz)) (h - l).toNat esz))) none) none
    | _,_=>none
   | .c (.mdat t),none=>
    match fS lo 0,fS hi t.length with
    | some l,some h=>cond (Nat.beq m 1) (cond (decide (0 <= l /\ l <= h /\ h <= (t.length:Int))) (K (.c (.mdat (sl t l h)))) none) none
    | _,_=>none
   | .c (.s (.own id len esz)),none=>
    match fS lo 0,fS hi len with
    | some l,some h=>cond (Nat.beq esz m) (cond (decide (0 <= l /\ l <= h /\ h <= (len:Int))) (K (.s (.sub id l.toNat (h - l).toNat esz))) none) none
    | _,_=>none
   | .c (.s (.sub id lo' len esz)),none=>
    match fS lo 0,fS hi len with
    | some l,some h=>cond (Nat.beq esz m) (cond (decide (0 <= l /\ l <= h /\ h <= (len:Int))) (K (.s (.sub id (lo'+l.toNat) (h - l).toNat esz))) none) none
    | _,_=>none
   | .c (.s (.dat r len esz)),some (.c (.s (.pl (.int _ x))))=>
    match fS lo 0,hi with
    | some l,some (.c (.s (.pl (.int _ h))))=>cond (Nat.beq esz m) (cond (decide (0 <= l /\ l <= h /\ h <= x /\ x <= (len:Int))) (K (.s (.dat (r.sub (l.toNat*esz) ((h - l).toNat*esz)) (h - l).toNat esz))) none) none
    | _,_=>none
   | _,_=>none
  | none=>none
 | some (.array n e)=>match gQ P e with
  | some m=>match x,mx with
   | .c (.s (.ptr id off ext)),none=>
    match fS lo 0,fS hi n with
    | some l,some h=>cond (Nat.beq off 0 && Nat.ble (n*m) ext) (cond (decide (0 <= l /\ l <= h /\ h <= (n:Int))) (K (.s (.sub id l.toNat (h - l).toNat m))) none) none
    | _,_=>none
   | _,_=>none
  | none=>none
 | _=>none
theorem aLT (s:Str) (l h:Int) (h0:0 <= l) (h1:l <= h):(ByteArray.mk s.toArray).extract l.toNat h.toNat=ByteArray.mk (sl s l h).toArray:=by
 rw [Lib.extract_eq];have:h.toNat - l.toNat=(h - l).toNat:=by omega
 simp [sl,this]
theorem tG {x y m:Nat} (h:x <= y):x*m <= y*m:=pT m h
theorem OH {T:TypeId} {x:AV} {u:Value} {lo hi mx:Option AV} {lv hv mv:Option Value} {K:AV->Option β} (hx:AVR w ρ x u) (hlo:RO w ρ lo lv) (hhi:RO w ρ hi hv) (hmx:RO w ρ mx mv) (h:xZ P T x lo hi mx K=some r) :
  ∃ av z,K av=some r /\ (∀ id ∈ av.refs,id ∈ x.refs) /\ AVR w ρ av z /\ (Instr.sliceAt T u lv hv mv).run P w=.ok z w:=by
 have nomx:mx=none->mv=none:=by intro e; subst e; cases mv <;> simp_all [RO]
 unfold xZ at h;split at h
 ·rename_i hT;split at h
  ·rename_i x;have hmv:=nomx rfl;subst hmv;split at h
   ·rename_i l hh e1 e2;obtain ⟨h1,h2⟩:=aY h;have h1:0 <= l /\ l <= hh /\ hh <= (x.length:Int):=by simpa using h1
    rw [hx.ofStr];refine ⟨_,_,h2,by simp [AV.refs,CV.refs,SV.refs],AVR.str _,?_⟩;have hsz:(ByteArray.mk x.toArray).size=x.length:=by simp [ByteArray.size]
    have:=qW (P:=P) (isS:=false) (cap:=x.length) hlo hhi e1 e2 h1 (bV _);simp [Instr.sliceAt,Instr.slice,underlying,hT,hsz,this,aLT _ _ _ h1.1 h1.2.1]
   ·simp at h
  ·simp at h
 ·rename_i e hT;split at h
  ·rename_i m hm;obtain ⟨i,hi',him⟩:=eL hm;have hx':=jT (P:=P) (T:=T) hx;have hfr:(jV P T x).refs=x.refs:=iE;have key:∀ {ad:Option Addr} {len cap:Nat} {l hh:Int},fS lo 0=some l->fS hi len=some hh->0 <= l /\ l <= hh /\ hh <= (len:Int)->len <= cap ->
     (Instr.sliceAt T (.slice ad len cap) lv hv none).run P w=.ok (.slice (if cap=l.toNat then ad else ad.map (·.add (l.toNat*m))) (hh.toNat - l.toNat) (cap - l.toNat)) w:=by
    intro ad len cap l hh e1 e2 hb hc;have:=qW (P:=P) (w:=w) (ρ:=ρ) (isS:=true) (cap:=cap) hlo hhi e1 e2 hb hc;simp [Instr.sliceAt,Instr.slice,underlying,hT,this,sizeOf,typeInfo,hi',him]
   split at h
   ·rename_i tr len esz he;have hmv:=nomx rfl;subst hmv;rw [he] at hx' hfr;split at h
    ·rename_i l hh e1 e2;obtain ⟨h0,h2⟩:=aY h;obtain ⟨h1,h3⟩:=aY h2;have h0:esz=m:=aS h0;have h1:0 <= l /\ l <= hh /\ hh <= (len:Int):=by simpa using h1
     subst h0;have hle:hh.toNat - l.toNat=(hh - l).toNat:=by omega
     obtain ⟨hl,hx'⟩:=hx';have hsublen:(tr.sub (l.toNat*esz) ((hh - l).toNat*esz)).length=(hh - l).toNat*esz:=by
      clear hx';rw [<-TRow.length_cells,TRow.sub_cells,dV,kX,tr.length_cells,hl];have:(l.toNat+(hh - l).toNat)*esz <= len*esz:=tG (by omega);rw [gL] at this;omega
     have hz:len=0->l.toNat=0 /\ (hh - l).toNat=0 /\ hh.toNat=0:=by clear hx'; omega
     have hz2:∀ c,len <= c->(hh - l).toNat <= c - l.toNat:=by clear hx'; intro c hc; omega
     rcases hx' with ⟨hl0,rfl⟩ | ⟨b,o,c,rfl,hc,hf,hra,hb⟩
     ·subst hl0;obtain ⟨z1,z2,z3⟩:=hz rfl;refine ⟨_,_,h3,by simp [AV.refs,CV.refs,SV.refs],⟨hsublen,.inl ⟨z2,rfl⟩⟩,?_⟩;rw [key e1 e2 h1 (bV _)];simp [z1,z3]
     ·refine ⟨_,_,h3,by simp [AV.refs,CV.refs,SV.refs],⟨hsublen,.inr ?_⟩,key e1 e2 h1 hc⟩;by_cases hcl:c=l.toNat
      ·refine ⟨b,o,c - l.toNat,by rw [aT hcl,hle],hz2 c hc,hf,?_,hb⟩;intro i v hv;have:=(iT.1 hv).1;rw [TRow.length_cells,hsublen] at this;have hz':(hh - l).toNat=0:=by have:=hz2 c hc; omega
       rw [hz'] at this; omega
      ·refine ⟨b,o+l.toNat*esz,c - l.toNat,by rw [aW hcl,hle]; simp [Addr.add_mid],hz2 c hc,hf,?_,hb⟩;intro i v hv;rw [TRow.sub_cells,kW] at hv;split at hv
       ·rw [mO] at hv;have:=hra _ _ hv;rwa [<-sI] at this
       ·simp at hv
    ·simp at h
   ·rename_i t he;have hmv:=nomx rfl;subst hmv;rw [he] at hx' hfr;split at h
    ·rename_i l hh e1 e2;obtain ⟨h0,h2⟩:=aY h;obtain ⟨h1,h3⟩:=aY h2;have h0:m=1:=aS h0;have h1:0 <= l /\ l <= hh /\ hh <= (t.length:Int):=by simpa using h1
     subst h0;have hle:hh.toNat - l.toNat=(hh - l).toNat:=by omega
     have hlen:(sl t l hh).length=(hh - l).toNat:=by simp [sl]; omega
     have hrefs:∀ id ∈ (AV.c (.mdat (sl t l hh))).refs,id ∈ x.refs:=by
      intro id hid;rw [<-hfr];obtain ⟨y,hy1,hy2⟩:=fG.1 hid;exact fG.2 ⟨y,PO (PP hy1),hy2⟩
     rcases hx' with ⟨hl0,rfl⟩ | ⟨b,o,c,rfl,hc,hf,hra,hb⟩
     ·refine ⟨_,_,h3,hrefs,.inl ⟨by omega,rfl⟩,?_⟩;have e2':fS hi ((0:Nat):Int)=some hh:=by rw [hl0] at e2; exact e2
      rw [key e1 e2' (by omega) (bV _)];have:l.toNat=0:=by omega
      simp [this]; omega
     ·refine ⟨_,_,h3,hrefs,.inr ?_,key e1 e2 h1 hc⟩;by_cases hcl:c=l.toNat
      ·refine ⟨b,o,c - l.toNat,by rw [aT hcl,hle,hlen],by omega,hf,?_,hb⟩;intro i v hv;have:=(iT.1 hv).1;omega
      ·refine ⟨b,o+l.toNat*1,c - l.toNat,by rw [aW hcl,hle,hlen]; simp [Addr.add_mid],by omega,hf,?_,hb⟩;intro i v hv;unfold sl at hv;rw [kW] at hv;split at hv
       ·rw [mO] at hv;obtain ⟨z,hz1,hz2⟩:=hra _ _ hv;exact ⟨z,by rw [iY,sI]; exact hz1,hz2⟩
       ·simp at hv
    ·simp at h
   ·rename_i id len esz he;have hmv:=nomx rfl;subst hmv;rw [he] at hx' hfr;split at h
    ·rename_i l hh e1 e2;obtain ⟨h0,h2⟩:=aY h;obtain ⟨h1,h3⟩:=aY h2;have h0:esz=m:=aS h0;have h1:0 <= l /\ l <= hh /\ hh <= (len:Int):=by simpa using h1
     subst h0;have hle:hh.toNat - l.toNat=(hh - l).toNat:=by omega
     have hrefs:∀ j ∈ (AV.c (.s (.sub id l.toNat (hh - l).toNat esz))).refs,j ∈ x.refs:=by
      intro j hj; rw [<-hfr]; simpa [AV.refs,CV.refs,SV.refs] using hj
     rcases hx' with ⟨y,hy,rfl,hn,hc,hcm,hcz⟩ | ⟨hnone,hl0,rfl⟩
     ·refine ⟨_,_,h3,hrefs,.inl ⟨y,hy,?_,?_⟩,key e1 e2 h1 hc⟩
      ·rw [hn]; exact tG (by omega)
      ·by_cases hcl:y.cap=l.toNat
       ·exact ⟨0,y.cap - l.toNat,by rw [aT hcl,hle],.inl (by omega),by omega⟩
       ·exact ⟨0+l.toNat*esz,y.cap - l.toNat,by rw [aW hcl,hle]; simp [Addr.add_mid],.inr (by simp),by omega⟩
     ·refine ⟨_,_,h3,hrefs,.inr ⟨hnone,by omega,rfl⟩,?_⟩;have e2':fS hi ((0:Nat):Int)=some hh:=by rw [hl0] at e2; exact e2
      rw [key e1 e2' (by omega) (bV _)];have:l.toNat=0:=by omega
      simp [this]; omega
    ·simp at h
   ·rename_i id lo' len esz he;have hmv:=nomx rfl;subst hmv;rw [he] at hx' hfr;split at h
    ·rename_i l hh e1 e2;obtain ⟨h0,h2⟩:=aY h;obtain ⟨h1,h3⟩:=aY h2;have h0:esz=m:=aS h0;have h1:0 <= l /\ l <= hh /\ hh <= (len:Int):=by simpa using h1
     subst h0;have hle:hh.toNat - l.toNat=(hh - l).toNat:=by omega
     have hrefs:∀ j ∈ (AV.c (.s (.sub id (lo'+l.toNat) (hh - l).toNat esz))).refs,j ∈ x.refs:=by
      intro j hj; rw [<-hfr]; simpa [AV.refs,CV.refs,SV.refs] using hj
     rcases hx' with ⟨y,hy,hn,o,c,rfl,ho,hlc⟩ | ⟨hnone,hl0,rfl⟩
     ·refine ⟨_,_,h3,hrefs,.inl ⟨y,hy,?_,?_⟩,key e1 e2 h1 hlc⟩
      ·exact cK (tG (by omega)) hn
      ·by_cases hcl:c=l.toNat
       ·exact ⟨o,c - l.toNat,by rw [aT hcl,hle],.inl (by omega),by omega⟩
       ·refine ⟨o+l.toNat*esz,c - l.toNat,by rw [aW hcl,hle]; simp [Addr.add_mid],?_,by omega⟩;rcases ho with ho | ho
        ·exact .inl (by omega)
        ·exact .inr (by rw [ho,gL])
     ·refine ⟨_,_,h3,hrefs,.inr ⟨hnone,by omega,rfl⟩,?_⟩;have e2':fS hi ((0:Nat):Int)=some hh:=by rw [hl0] at e2; exact e2
      rw [key e1 e2' (by omega) (bV _)];have:l.toNat=0:=by omega
      simp [this]; omega
    ·simp at h
   ·rename_i tr len esz kx xm he;rw [he] at hx' hfr
    match mv,hmx with
    | some mv',hmx=>
    have hmv:mv'=.int kx xm:=hmx.1;subst hmv;split at h
    ·rename_i l kh hh e1
     match hv,hhi with
     | some hv',hhi=>
     have hhv:hv'=.int kh hh:=hhi.1;subst hhv;obtain ⟨h0,h2⟩:=aY h;obtain ⟨h1,h3⟩:=aY h2;have h0:esz=m:=aS h0;have h1:0 <= l /\ l <= hh /\ hh <= xm /\ xm <= (len:Int):=by simpa using h1
     subst h0;have hle:hh.toNat - l.toNat=(hh - l).toNat:=by omega
     obtain ⟨hl,hx'⟩:=hx';have hsublen:(tr.sub (l.toNat*esz) ((hh - l).toNat*esz)).length=(hh - l).toNat*esz:=by
      clear hx';rw [<-TRow.length_cells,TRow.sub_cells,dV,kX,tr.length_cells,hl];have:(l.toNat+(hh - l).toNat)*esz <= len*esz:=tG (by omega);rw [gL] at this;omega
     have key3:∀ {ad:Option Addr} {cap:Nat},len <= cap ->
       (Instr.sliceAt T (.slice ad len cap) lv (some (.int kh hh)) (some (.int kx xm))).run P w=.ok (.slice (if xm.toNat=l.toNat then ad else ad.map (·.add (l.toNat*esz))) (hh.toNat - l.toNat) (xm.toNat - l.toNat)) w:=by
      intro ad cap hc;have:=FM (P:=P) (w:=w) (ρ:=ρ) (len:=len) (cap:=cap) (kh:=kh) (kx:=kx) hlo e1 (h:=hh) (x:=xm) (by clear hx'; omega);simp [Instr.sliceAt,Instr.slice,underlying,hT,this,sizeOf,typeInfo,hi',him]
     have hz2:(hh - l).toNat <= xm.toNat - l.toNat:=by clear hx'; omega
     rcases hx' with ⟨hl0,rfl⟩ | ⟨b,o,c,rfl,hc,hf,hra,hb⟩
     ·subst hl0;refine ⟨_,_,h3,by simp [AV.refs,CV.refs,SV.refs],⟨hsublen,.inl ⟨by omega,rfl⟩⟩,?_⟩;rw [key3 (bV _)];have z1:l.toNat=0:=by omega
      have z2:hh.toNat=0:=by omega
      have z3:xm.toNat=0:=by omega
      simp [z1,z2,z3]
     ·refine ⟨_,_,h3,by simp [AV.refs,CV.refs,SV.refs],⟨hsublen,.inr ?_⟩,key3 hc⟩;by_cases hcl:xm.toNat=l.toNat
      ·refine ⟨b,o,xm.toNat - l.toNat,by rw [aT hcl,hle],hz2,hf,?_,hb⟩;intro i v hv;have:=(iT.1 hv).1;rw [TRow.length_cells,hsublen] at this;have hz':(hh - l).toNat=0:=by omega
       rw [hz'] at this; omega
      ·refine ⟨b,o+l.toNat*esz,xm.toNat - l.toNat,by rw [aW hcl,hle]; simp [Addr.add_mid],hz2,hf,?_,hb⟩;intro i v hv;rw [TRow.sub_cells,kW] at hv;split at hv
       ·rw [mO] at hv;have:=hra _ _ hv;rwa [<-sI] at this
       ·simp at hv
    ·simp at h
   ·simp at h
  ·simp at h
 ·rename_i n e hT;split at h
  ·rename_i m hm;obtain ⟨i,hi',him⟩:=eL hm;split at h
   ·rename_i id off ext;have hmv:=nomx rfl;subst hmv;split at h
    ·rename_i l hh e1 e2;obtain ⟨h0,h2⟩:=aY h;obtain ⟨h1,h3⟩:=aY h2;simp only [aX] at h0;have e3:off=0:=aS h0.1;have e4:n*m <= ext:=by simpa using h0.2
     have h1:0 <= l /\ l <= hh /\ hh <= (n:Int):=by simpa using h1
     subst e3;have hle:hh.toNat - l.toNat=(hh - l).toNat:=by omega
     obtain ⟨y,hy,hoff,rfl⟩:=hx;have:=qW (P:=P) (isS:=false) (cap:=n) hlo hhi e1 e2 h1 (bV _);refine ⟨_,.slice (some (if n=l.toNat then ⟨y.r,0,none⟩ else (⟨y.r,0,none⟩:Addr).add (l.toNat*m))) (hh.toNat - l.toNat) (n - l.toNat),h3,by simp [AV.refs,CV.refs,SV.refs],.inl ⟨y,hy,?_,?_⟩,?_⟩
     ·have:(l.toNat+(hh - l).toNat)*m <= n*m:=tG (by omega);omega
     ·by_cases hcl:n=l.toNat
      ·exact ⟨0,n - l.toNat,by rw [aT hcl,hle],.inl (by omega),by omega⟩
      ·exact ⟨0+l.toNat*m,n - l.toNat,by rw [aW hcl,hle]; simp [Addr.add_mid],.inr (by simp),by omega⟩
     ·simp only [Instr.sliceAt,underlying,Sem.run_bind,run_program,Result.andThen_ok,hT,Instr.sureAddr,Sem.run_pure,this,sizeOf,typeInfo,hi',him]
    ·simp at h
   ·simp at h
  ·simp at h
 ·simp at h
end
end
noncomputable section
open Go Go.RowKit
set_option linter.all false
theorem LV {α:Type}:∀ (vs:List α) (j off:Nat) (cs:Array α),off+j+vs.length <= cs.size ->
  ((vs.zipIdx j).foldl (λ (cs:Array α) (p:α × Nat)=>cs.setIfInBounds (off+p.2) p.1) cs).toList=splL cs.toList (off+j) vs /\
  ((vs.zipIdx j).foldl (λ (cs:Array α) (p:α × Nat)=>cs.setIfInBounds (off+p.2) p.1) cs).size=cs.size:=by
 intro vs
 induction vs with
 | nil=>intro j off cs h; simp [splL]
 | cons v r ih=>
  intro j off cs h;simp only [List.zipIdx_cons,List.foldl_cons];simp only [fF] at h;obtain ⟨h1,h2⟩:=ih (j+1) off (cs.setIfInBounds (off+j) v) (by simp; omega);refine ⟨?_,by rw [h2]; simp⟩;rw [h1];have ho:off+j < cs.toList.length:=by simp; omega
  simp only [Ye];rw [Dz _ _ _ ho];unfold splL;have e1:(cs.toList.take (off+j)).length=off+j:=by rw [dV]; omega
  simp only [fF,PJ];rw [BR,e1,PF,e1];simp only [show off+(j+1) - (off+j)=1 from by omega,Fr,rI,yT,uR,show off+(j+1)+r.length - (off+j)=r.length+1 from by omega,PH,KA];rw [fB (by omega),Fu (as:=List.take (off+j) cs.toList) (by omega)];simp [show off+j+1+r.length=off+j+(r.length+1) from by omega]
theorem aFH (place:Nat->Option (Nat × Nat)) (offs:Nat->Nat):∀ (parts:List (Nat × Value)) (cells:Array Value),(∀ p ∈ parts,place p.1=some (offs p.1,p.2.cells.size) /\ offs p.1+p.2.cells.size <= cells.size) ->
  ∃ cells',Instr.fill place cells parts=some cells' /\ cells'.size=cells.size /\ cells'.toList=parts.foldl (λ l p=>splL l (offs p.1) p.2.cells.toList) cells.toList:=by
 intro parts
 induction parts with
 | nil=>intro cells h; exact ⟨cells,rfl,rfl,rfl⟩
 | cons p r ih=>
  intro cells h;obtain ⟨i,v⟩:=p;obtain ⟨h1,h2⟩:=h (i,v) (by simp);simp only at h1 h2;obtain ⟨e1,e2⟩:=LV v.cells.toList 0 (offs i) cells (by simpa using h2);simp only [<-Array.toList_zipIdx,Array.foldl_toList] at e1 e2;obtain ⟨cells',q1,q2,q3⟩:=ih _ (λ p hp=>⟨(h p (by simp [hp])).1,by rw [e2]; exact (h p (by simp [hp])).2⟩);refine ⟨cells',?_,by rw [q2,e2],by rw [q3,e1]; simp⟩;simp only [Instr.fill,h1];rw [aW (by simp; omega)];exact q1
def AS (place:Nat->Option (Nat × Nat)):List Nat->Nat->Nat->Option Nat
 | [],_,off=>some off
 | i :: r,j,off=>cond (Nat.beq i j) (match place j with
  | some (o,m)=>cond (Nat.beq o off) (AS place r (j+1) (off+m)) none
  | none=>none) none
def TRow.cat:TRow->TRow->Option TRow
 | .ints k xs,.ints k' ys=>if k=k' then some (.ints k (xs++ys)) else none
 | .strs xs,.strs ys=>some (.strs (xs++ys))
 | .bools xs,.bools ys=>some (.bools (xs++ys))
 | _,_=>none
theorem TRow.cat_cells {r u v:TRow} (h:r.cat u=some v):v.cells=r.cells++u.cells:=by
 unfold TRow.cat at h;split at h
 ·split at h
  ·rename_i e; subst e; simp at h; subst h; simp [TRow.cells]
  ·simp at h
 ·simp at h; subst h; simp [TRow.cells]
 ·simp at h; subst h; simp [TRow.cells]
 ·simp at h
def Row.svs (x:Row × Nat):List SV :=
 match x.1 with
 | .t r=>r.svs x.2
 | .mix l=>l
def mK (x y:Row × Nat):Row × Nat :=
 match x.1,y.1 with
 | .t r,.t u=>match r.cat u with
  | some v=>(.t v,x.2+y.2)
  | none=>(.mix (Row.svs x++Row.svs y),x.2+y.2)
 | _,_=>(.mix (Row.svs x++Row.svs y),x.2+y.2)
def x8:List (Row × Nat)->Option (Row × Nat)
 | []=>none
 | [x]=>some x
 | x :: r=>match x8 r with
  | some y=>some (mK x y)
  | none=>none
def OI:List AV->Option (List (Row × Nat))
 | []=>some []
 | x :: r=>match GO x,OI r with
  | some b,some l=>some (b :: l)
  | _,_=>none
def AVRs (w:World) (ρ:Plc):List AV->List Value->Prop
 | [],[]=>True
 | x :: r,v :: vs=>AVR w ρ x v /\ AVRs w ρ r vs
 | _,_=>False
section
variable {P:Program} {B:Bs} {w0 w w':World} {ρ:Plc} {s:St} {a:Act} {β:Type} {r:β}
theorem SVRs.append {l m:List SV} {vs us:List Value} (h:SVRs w ρ l vs) (h2:SVRs w ρ m us):SVRs w ρ (l++m) (vs++us):=by
 refine ⟨by simp [h.1,h2.1],λ i x v hx hv=>?_⟩;by_cases hi:i < l.length
 ·rw [yO hi] at hx;rw [yO (by rw [<-h.1]; exact hi)] at hv;exact h.2 i x v hx hv
 ·rw [yP (by omega)] at hx;rw [yP (by rw [<-h.1]; omega),<-h.1] at hv;exact h2.2 _ x v hx hv
theorem RowL.svs {x:Row × Nat} {vs:List Value} (h:RowL w ρ vs x.1) (hn:vs.length=x.2):SVRs w ρ (Row.svs x) vs:=by
 obtain ⟨row,n⟩:=x;cases row with
 | t r=>simp only [RowL] at h; subst h; exact r.svs_ok n (by rw [<-r.length_cells]; exact hn)
 | mix l=>exact h
theorem Row.svs_refs {x:Row × Nat} {id:Nat} (h:id ∈ (Row.svs x).flatMap SV.refs):id ∈ x.1.refs:=by
 obtain ⟨row,n⟩:=x;cases row with
 | t r=>simp only [Row.svs,r.svs_refs] at h; simp at h
 | mix l=>exact h
theorem sR {x y:Row × Nat} {vs us:List Value} (hx:RowL w ρ vs x.1) (hxn:vs.length=x.2) (hy:RowL w ρ us y.1) (hyn:us.length=y.2) :
  RowL w ρ (vs++us) (mK x y).1 /\ (vs++us).length=(mK x y).2 /\ ∀ id ∈ (mK x y).1.refs,id ∈ x.1.refs ∨ id ∈ y.1.refs:=by
 have hm:=(RowL.svs hx hxn).append (RowL.svs hy hyn);have hr:∀ id ∈ (Row.svs x++Row.svs y).flatMap SV.refs,id ∈ x.1.refs ∨ id ∈ y.1.refs:=by
  intro id hid;rw [KB,tO] at hid;rcases hid with h | h
  ·exact .inl (Row.svs_refs h)
  ·exact .inr (Row.svs_refs h)
 unfold mK;split
 ·rename_i r u h1 h2;split
  ·rename_i v hv;refine ⟨?_,by simp [hxn,hyn],by simp [Row.refs]⟩;rw [h1] at hx; rw [h2] at hy;simp only [RowL] at hx hy ⊢;rw [TRow.cat_cells hv,hx,hy]
  ·exact ⟨hm,by simp [hxn,hyn],hr⟩
 ·exact ⟨hm,by simp [hxn,hyn],hr⟩
theorem Uc:∀ {l:List AV} {vs:List Value} {bs:List (Row × Nat)} {y:Row × Nat},AVRs w ρ l vs->OI l=some bs->x8 bs=some y ->
  RowL w ρ (vs.flatMap λ v=>v.cells.toList) y.1 /\ (vs.flatMap λ v=>v.cells.toList).length=y.2 /\ (∀ id ∈ y.1.refs,id ∈ l.flatMap AV.refs):=by
 intro l
 induction l with
 | nil=>intro vs bs y hv hb hc; simp [OI] at hb; subst hb; simp [x8] at hc
 | cons x r ih=>
  intro vs bs y hv hb hc
  match vs,hv with
  | v :: vs,⟨hxv,hrv⟩=>
  simp only [OI] at hb;split at hb
  ·rename_i b l hb1 hb2;simp at hb; subst hb;obtain ⟨h1,h2,h3⟩:=D1 (row:=b.1) (n:=b.2) hxv hb1
   match l,hb2,hc with
   | [],hb2,hc=>
    simp [x8] at hc; subst hc;cases r with
    | nil=>
     match vs,hrv with
     | [],_=>exact ⟨by simpa using h1,by simpa using h2,λ id hid=>by simpa using h3 id hid⟩
    | cons x2 r2=>
     simp only [OI] at hb2;split at hb2 <;> simp at hb2
   | b2 :: l2,hb2,hc=>
    simp only [x8] at hc;split at hc
    ·rename_i y2 hy2;simp at hc; subst hc;obtain ⟨q1,q2,q3⟩:=ih hrv hb2 hy2;obtain ⟨z1,z2,z3⟩:=sR (x:=b) (y:=y2) h1 (by simpa using h2) q1 q2;refine ⟨by simpa using z1,by simpa using z2,λ id hid=>?_⟩;rcases z3 id hid with h | h
     ·simp [h3 id h]
     ·have:=q3 id h;simp only [Ar,tO]; exact .inr this
    ·simp at hc
  ·simp at hb
end
end
noncomputable section
open Go Go.RowKit
set_option linter.all false
theorem FN {place:Nat->Option (Nat × Nat)} (offs:Nat->Nat):∀ (parts:List (Nat × Value)) (j off e:Nat) (l:List Value),AS place (parts.map (·.1)) j off=some e->(∀ p ∈ parts,place p.1=some (offs p.1,p.2.cells.size))->e <= l.length ->
  parts.foldl (λ l p=>splL l (offs p.1) p.2.cells.toList) l=l.take off++((parts.flatMap λ p=>p.2.cells.toList)++l.drop e) /\ off <= e:=by
 intro parts
 induction parts with
 | nil=>
  intro j off e l h hp hl;simp [AS] at h; subst h;simp
 | cons p r ih=>
  intro j off e l h hp hl;obtain ⟨i,v⟩:=p;simp only [mQ,AS] at h;obtain ⟨h1,h2⟩:=aY h;have h1:i=j:=aS h1;subst h1;have hpl:=hp (i,v) (by simp);simp only at hpl;rw [hpl] at h2;simp only at h2;obtain ⟨h3,h4⟩:=aY h2;have h3:offs i=off:=aS h3;have hlen:∀ l':List Value,l'.length=l.length->e <= l'.length:=λ l' e'=>by omega
  have hle:off+v.cells.size <= e:=by
   exact (ih (i+1) (off+v.cells.size) e l h4 (λ p hp'=>hp p (by simp [hp'])) hl).2
  have hs:(splL l (offs i) v.cells.toList).length=l.length:=jA _ _ _ (by simp; omega);obtain ⟨q1,q2⟩:=ih (i+1) (off+v.cells.size) e (splL l (offs i) v.cells.toList) h4 (λ p hp'=>hp p (by simp [hp'])) (by omega);refine ⟨?_,by omega⟩;simp only [List.foldl_cons,Ar];rw [q1,h3];unfold splL;have e1:(l.take off).length=off:=by rw [dV]; omega
  rw [BR,e1,PF,e1,BR,PF];have a1:(l.take off).take (off+v.cells.size)=l.take off:=fB (by omega);have a2:v.cells.toList.take (off+v.cells.size - off)=v.cells.toList:=fB (by simp);have a3:off+v.cells.size - off - v.cells.toList.length=0:=by simp
  have a4:(l.take off).drop e=[]:=Fu (by omega);have a5:v.cells.toList.drop (e - off)=[]:=Fu (by simp; omega);have a6:off+v.cells.toList.length+(e - off - v.cells.toList.length)=e:=by simp; omega
  rw [a1,a2,a3,a4,a5,KA,a6];simp
section
variable {P:Program} {B:Bs} {w0 w w':World} {ρ:Plc} {s:St} {a:Act} {β:Type} {r:β}
def D4 (P:Program) (fs:Array Field) (i:Nat):Option (Nat × Nat) :=
 match fs[i]? with
 | some f=>match gQ P f.type with
  | some m=>some (f.offset,m)
  | none=>none
 | none=>none
def aAh (y:Row × Nat):AV :=
 match y.1 with
 | .t r=>.agg r y.2
 | .mix l=>.c (.mix l)
def Ud (row:Row) (total off m:Nat) (x:AV):Option Row :=
 match row,x with
 | .t r,.c (.s (.pl (.agg u n)))=>cond (Nat.beq n m) (match TRow.splice off m total r u with
  | some v=>some (.t v)
  | none=>none) none
 | .t r,.c (.s sv)=>cond (Nat.beq m 1 && sv.one) (match r.set off sv with
  | some v=>some (.t v)
  | none=>none) none
 | .mix l,.c (.s (.pl (.agg u n)))=>cond (Nat.beq n m) (some (.mix (splL l off (u.svs n)))) none
 | .mix l,.c (.s sv)=>cond (Nat.beq m 1 && sv.one) (some (.mix (splL l off [sv]))) none
 | .mix l,.c (.mix u)=>cond (Nat.beq u.length m) (some (.mix (splL l off u))) none
 | _,_=>none
theorem aAi {row row':Row} {total off m:Nat} {x:AV} {u:Value} {vs:List Value} (hr:RowL w ρ vs row) (hn:vs.length=total) (hx:AVR w ρ x u) (ho:off+m <= total) (h:Ud row total off m x=some row') :
  u.cells.size=m /\ RowL w ρ (splL vs off u.cells.toList) row' /\ ∀ id ∈ row'.refs,id ∈ row.refs ∨ id ∈ x.refs:=by
 unfold Ud at h;split at h
 ·rename_i tr tu n;obtain ⟨h1,h2⟩:=aY h;have h1:n=m:=aS h1;subst h1;split at h2
  ·rename_i v hv;simp at h2; subst h2;have hu:u=.agg tu.cells.toArray:=hx.1;have hlen:tu.length=n:=hx.2 tu n rfl;subst hu;simp only [RowL] at hr; subst hr;obtain ⟨q1,q2⟩:=TRow.splice_cells hv hlen (by rw [<-tr.length_cells]; exact hn) ho;exact ⟨by simp [Value.cells,tu.length_cells,hlen],by simp [RowL,q2,Value.cells],by simp [Row.refs]⟩
  ·simp at h2
 ·rename_i tr sv hne;obtain ⟨h1,h2⟩:=aY h;simp only [aX] at h1;have e1:m=1:=aS h1.1;subst e1;split at h2
  ·rename_i v hv;simp at h2; subst h2;simp only [RowL] at hr; subst hr;have hc:=pP (SV.one_ok hx h1.2);obtain ⟨p,rfl,hp,q1,q2⟩:=TRow.set_cells hv (by rw [<-tr.length_cells]; omega);have hu:u=p.val:=hx.1;rw [hc];exact ⟨rfl,by simp [RowL,q2,hu],by simp [Row.refs]⟩
  ·simp at h2
 ·rename_i l tu n;obtain ⟨h1,h2⟩:=aY h;have h1:n=m:=aS h1;subst h1;simp at h2; subst h2;have hu:u=.agg tu.cells.toArray:=hx.1;have hlen:tu.length=n:=hx.2 tu n rfl;subst hu;refine ⟨by simp [Value.cells,tu.length_cells,hlen],?_,λ id hid=>?_⟩
  ·simp only [RowL,Value.cells,BS] at hr ⊢;exact SVRs.splL hr (tu.svs_ok n hlen) off (by simp [TRow.svs]; have:=hr.1; omega)
  ·rcases sQ hid with h | h
   ·exact .inl h
   ·rw [tu.svs_refs] at h; simp at h
 ·rename_i l sv hne;obtain ⟨h1,h2⟩:=aY h;simp only [aX] at h1;have e1:m=1:=aS h1.1;subst e1;simp at h2; subst h2;have hc:=pP (SV.one_ok hx h1.2);rw [hc];refine ⟨rfl,?_,λ id hid=>?_⟩
  ·simp only [RowL] at hr ⊢;exact SVRs.splL hr ⟨rfl,λ i x v hx' hv=>by
    match i with
    | 0=>simp at hx' hv; subst hx'; subst hv; exact hx
    | i+1=>simp at hx'⟩ off (by simp; have:=hr.1; omega)
  ·rcases sQ hid with h | h
   ·exact .inl h
   ·exact .inr (by simpa [AV.refs,CV.refs] using h)
 ·rename_i l lu;obtain ⟨h1,h2⟩:=aY h;have h1:lu.length=m:=aS h1;simp at h2; subst h2;obtain ⟨cu,rfl,hcu⟩:=hx;refine ⟨by have:=hcu.1; simp [Value.cells] at this ⊢; omega,?_,λ id hid=>?_⟩
  ·simp only [RowL,Value.cells] at hr ⊢;exact SVRs.splL hr hcu off (by have:=hr.1; omega)
  ·rcases sQ hid with h | h
   ·exact .inl h
   ·exact .inr h
 ·simp at h
def JU (place:Nat->Option (Nat × Nat)) (total:Nat):List (Nat × AV)->Row->Option Row
 | [],row=>some row
 | (i,x) :: r,row=>match place i with
  | some (off,m)=>cond (Nat.ble (off+m) total) (match Ud row total off m x with
   | some row'=>JU place total r row'
   | none=>none) none
  | none=>none
def PRs (w:World) (ρ:Plc):List (Nat × AV)->List (Nat × Value)->Prop
 | [],[]=>True
 | (i,x) :: r,(j,v) :: vs=>i=j /\ AVR w ρ x v /\ PRs w ρ r vs
 | _,_=>False
theorem PRs.fst {l:List (Nat × AV)} {vs:List (Nat × Value)} (h:PRs w ρ l vs):l.map (·.1)=vs.map (·.1):=by
 induction l generalizing vs with
 | nil=>cases vs <;> simp_all [PRs]
 | cons p r ih=>match vs,h with
  | (j,v) :: vs,⟨h1,h2,h3⟩=>simp [ih h3,h1]
theorem PRs.avrs {l:List (Nat × AV)} {vs:List (Nat × Value)} (h:PRs w ρ l vs):AVRs w ρ (l.map (·.2)) (vs.map (·.2)):=by
 induction l generalizing vs with
 | nil=>cases vs <;> simp_all [PRs,AVRs]
 | cons p r ih=>match vs,h with
  | (j,v) :: vs,⟨h1,h2,h3⟩=>exact ⟨h2,ih h3⟩
theorem aAj {place:Nat->Option (Nat × Nat)} {total:Nat}:∀ {ps:List (Nat × AV)} {vs:List (Nat × Value)} {row row':Row} {cells:Array Value},PRs w ρ ps vs->RowL w ρ cells.toList row->cells.size=total->JU place total ps row=some row' ->
  ∃ cells',Instr.fill place cells vs=some cells' /\ cells'.size=total /\ RowL w ρ cells'.toList row' /\ ∀ id ∈ row'.refs,id ∈ row.refs ∨ id ∈ ps.flatMap λ p=>p.2.refs:=by
 intro ps
 induction ps with
 | nil=>
  intro vs row row' cells hv hr hn h
  match vs,hv with
  | [],_=>simp [JU] at h; subst h; exact ⟨cells,rfl,hn,hr,λ id hid=>.inl hid⟩
 | cons p r ih=>
  intro vs row row' cells hv hr hn h
  match p,vs,hv with
  | (i,x),(j,v) :: vs,⟨hij,hxv,hrv⟩=>
  subst hij;simp only [JU] at h;split at h
  ·rename_i off m hpl;obtain ⟨h1,h2⟩:=aY h;have h1:off+m <= total:=by simpa using h1
   split at h2
   ·rename_i row1 hrow1;obtain ⟨q1,q2,q3⟩:=aAi hr (by simpa using hn) hxv h1 hrow1;obtain ⟨e1,e2⟩:=LV v.cells.toList 0 off cells (by simp; omega);simp only [<-Array.toList_zipIdx,Array.foldl_toList] at e1 e2;obtain ⟨cells',z1,z2,z3,z4⟩:=ih (cells:=v.cells.zipIdx.foldl (λ (cs:Array Value) (p:Value × Nat)=>cs.setIfInBounds (off+p.2) p.1) cells) hrv (by rw [e1]; simpa using q2) (by rw [e2]; exact hn) h2;refine ⟨cells',?_,z2,z3,λ id hid=>?_⟩
    ·simp only [Instr.fill,hpl];rw [aW (by simp; omega)];exact z1
    ·rcases z4 id hid with h | h
     ·rcases q3 id h with h | h
      ·exact .inl h
      ·exact .inr (by simp [h])
     ·exact .inr (by simp only [Ar,tO]; exact .inr h)
   ·simp at h2
  ·simp at h
def wP (place:Nat->Option (Nat × Nat)) (z:Value) (ps:List (Nat × AV)):Option (Row × Nat) :=
 match AS place (ps.map (·.1)) 0 0,OI (ps.map (·.2)) with
 | some e,some bs=>match x8 bs with
  | some y=>cond (Nat.beq e z.cells.size && Nat.beq y.2 e) (some y) none
  | none=>none
 | _,_=>none
def LW (place:Nat->Option (Nat × Nat)) (z:Value) (ps:List (Nat × AV)):Option (Row × Nat) :=
 match GO (AQ z) with
 | some (row,n)=>match JU place n ps row with
  | some row'=>some (row',n)
  | none=>none
 | none=>none
theorem GQ {place:Nat->Option (Nat × Nat)} {z:Value} {ps:List (Nat × AV)} {vs:List (Nat × Value)} {y:Row × Nat} (hp:PRs w ρ ps vs) (hsz:∀ (i o m:Nat) (v:Value),(i,v) ∈ vs->place i=some (o,m)->v.cells.size=m) (h:wP place z ps=some y) :
  ∃ cells',Instr.fill place z.cells vs=some cells' /\ RowL w ρ cells'.toList y.1 /\ cells'.size=y.2 /\ (∀ id ∈ y.1.refs,id ∈ ps.flatMap λ p=>p.2.refs):=by
 unfold wP at h;split at h
 ·rename_i e bs he hbs;split at h
  ·rename_i y' hy;obtain ⟨h1,h2⟩:=aY h;simp at h2; subst h2;simp only [aX] at h1;have e1:e=z.cells.size:=aS h1.1;have e2:y'.2=e:=aS h1.2;rw [hp.fst] at he;obtain ⟨q1,q2,q3⟩:=Uc hp.avrs hbs hy;have hplace:∀ (parts:List (Nat × Value)) (j off:Nat),AS place (parts.map (·.1)) j off=some e->(∀ (i o m:Nat) (v:Value),(i,v) ∈ parts->place i=some (o,m)->v.cells.size=m) ->
     ∀ p ∈ parts,place p.1=some (((place p.1).map (·.1)).getD 0,p.2.cells.size) /\ ((place p.1).map (·.1)).getD 0+p.2.cells.size <= e:=by
    intro parts
    induction parts with
    | nil=>intro j off _ _ p hp; simp at hp
    | cons p r ih=>
     intro j off hc hs q hq;obtain ⟨i,v⟩:=p;simp only [mQ,AS] at hc;obtain ⟨c1,c2⟩:=aY hc;have c1:i=j:=aS c1;subst c1;split at c2
     ·rename_i o m hpl;obtain ⟨c3,c4⟩:=aY c2;have c3:o=off:=aS c3;have hv:v.cells.size=m:=hs i o m v (by simp) hpl;have hmono:∀ (l:List Nat) (j off:Nat),AS place l j off=some e->off <= e:=by
       intro l
       induction l with
       | nil=>intro j off h; simp [AS] at h; omega
       | cons a l ihl=>
        intro j off h;simp only [AS] at h;obtain ⟨d1,d2⟩:=aY h;split at d2
        ·obtain ⟨d3,d4⟩:=aY d2;have:=ihl _ _ d4; omega
        ·simp at d2
      rcases mR.1 hq with rfl | hq
      ·simp only [hpl,Option.map_some,Option.getD_some];have:=hmono _ _ _ c4;exact ⟨by rw [hv],by omega⟩
      ·exact ih (i+1) (off+m) c4 (λ a b c d hd hpl'=>hs a b c d (by simp [hd]) hpl') q hq
     ·simp at c2
   have hpl:=hplace vs 0 0 he hsz;obtain ⟨cells',f1,f2,f3⟩:=aFH place (λ i=>((place i).map (·.1)).getD 0) vs z.cells (λ p hp'=>⟨(hpl p hp').1,by have:=(hpl p hp').2; omega⟩);have f4:=(FN (place:=place) (λ i=>((place i).map (·.1)).getD 0) vs 0 0 e z.cells.toList he (λ p hp'=>(hpl p hp').1) (by simp; omega)).1;have hd:z.cells.toList.drop e=[]:=Fu (by simp; omega);rw [hd] at f4;simp only [uR,rI,i8] at f4;have hfl:(vs.flatMap λ p=>p.2.cells.toList)=((vs.map (·.2)).flatMap λ v=>v.cells.toList):=by rw [List.flatMap_map]
   refine ⟨cells',f1,by rw [f3,f4,hfl]; exact q1,by rw [f2,e2,e1],λ id hid=>?_⟩;have:=q3 id hid;rwa [List.flatMap_map] at this
  ·simp at h
 ·simp at h
def BA (place:Nat->Option (Nat × Nat)) (z:Value) (ps:List (Nat × AV)):Option (Row × Nat) :=
 match wP place z ps with
 | some y=>some y
 | none=>LW place z ps
theorem Ue {z:Value} {row:Row} {n:Nat} (h:GO (AQ z)=some (row,n)):RowL w ρ z.cells.toList row /\ z.cells.size=n /\ row.refs=[]:=by
 obtain ⟨h1,h2,h3⟩:=D1 (FJ w ρ z) h;refine ⟨h1,h2,List.eq_nil_iff_forall_not_mem.2 λ id hid=>?_⟩;have:=h3 id hid;rw [AR] at this; simp at this
theorem PRs.blk {ps:List (Nat × AV)} {vs:List (Nat × Value)} (hp:PRs w ρ ps vs) {place:Nat->Option (Nat × Nat)} :
  (ps.all λ p=>match place p.1,GO p.2 with | some (_,m),some (_,n)=>Nat.beq m n | _,_=>true)=true->∀ (bs:List (Row × Nat)),OI (ps.map (·.2))=some bs ->
  ∀ (i o m:Nat) (v:Value),(i,v) ∈ vs->place i=some (o,m)->v.cells.size=m:=by
 induction ps generalizing vs with
 | nil=>intro _ bs _ i o m v hv; match vs,hp with | [],_=>simp at hv
 | cons p r ih=>
  intro hall bs hbs i o m v hv hpl
  match p,vs,hp with
  | (j,x),(k,u) :: vs,⟨hjk,hx,hr⟩=>
  subst hjk;simp only [mQ,OI] at hbs;split at hbs
  ·rename_i b l hb hl;simp only [Aq,aX] at hall;rcases mR.1 hv with e | hv
   ·cases e;have h1:=hall.1;simp only [hpl,hb] at h1;obtain ⟨q1,q2,q3⟩:=D1 (row:=b.1) (n:=b.2) hx hb;have:m=b.2:=aS h1;omega
   ·exact ih hr hall.2 l hl i o m v hv hpl
  ·simp at hbs
def HR (place:Nat->Option (Nat × Nat)) (ps:List (Nat × AV)):Bool:=ps.all λ p=>match place p.1,GO p.2 with | some (_,m),some (_,n)=>Nat.beq m n | _,_=>true
theorem D5 {place:Nat->Option (Nat × Nat)} {z:Value} {ps:List (Nat × AV)} {vs:List (Nat × Value)} {y:Row × Nat} (hp:PRs w ρ ps vs) (hok:HR place ps=true) (h:BA place z ps=some y) :
  ∃ cells',Instr.fill place z.cells vs=some cells' /\ RowL w ρ cells'.toList y.1 /\ cells'.size=y.2 /\ (∀ id ∈ y.1.refs,id ∈ ps.flatMap λ p=>p.2.refs):=by
 unfold BA at h;split at h
 ·rename_i y' hy;simp at h; subst h;have hy':=hy;unfold wP at hy';split at hy'
  ·rename_i e bs he hbs;exact GQ hp (hp.blk hok bs hbs) hy
  ·simp at hy'
 ·unfold LW at h;split at h
  ·rename_i row n hb;obtain ⟨h1,h2,h3⟩:=Ue (w:=w) (ρ:=ρ) hb;split at h
   ·rename_i row' hrow;simp at h; subst h;obtain ⟨cells',q1,q2,q3,q4⟩:=aAj hp h1 h2 hrow;refine ⟨cells',q1,q3,q2,λ id hid=>?_⟩;rcases q4 id hid with h | h
    ·rw [h3] at h; simp at h
    ·exact h
   ·simp at h
  ·simp at h
theorem XS {y:Row × Nat} {cs:Array Value} (h:RowL w ρ cs.toList y.1) (hn:cs.size=y.2):AVR w ρ (aAh y) (.agg cs):=by
 unfold aAh;split
 ·rename_i r hr;rw [hr] at h;simp only [RowL] at h;refine ⟨by simp [Pl.val,<-h],λ a b e=>?_⟩;cases e;rw [<-r.length_cells,<-h]; simp [hn]
 ·rename_i l hl;rw [hl] at h;exact ⟨cs,rfl,h⟩
theorem LX {y:Row × Nat} {id:Nat} (h:id ∈ (aAh y).refs):id ∈ y.1.refs:=by
 unfold aAh at h;split at h
 ·simp [AV.refs,CV.refs,SV.refs] at h
 ·rename_i l hl;rw [hl]; exact h
def x9 (P:Program) (T:TypeId) (ps:List (Nat × AV)) (K:AV->Option β):Option β :=
 match P.info? T with
 | some i=>match i.zero with
  | some z=>match P.underlying T with
   | some (.struct fs)=>cond (HR (D4 P fs) ps && fs.all λ f=>(gQ P f.type).isSome) (match BA (D4 P fs) z ps with
    | some y=>K (aAh y)
    | none=>none) none
   | some (.array _ e)=>match gQ P e with
    | some m=>cond (HR (λ i=>some (i*m,m)) ps) (match BA (λ i=>some (i*m,m)) z ps with
     | some y=>K (aAh y)
     | none=>none) none
    | none=>none
   | _=>none
  | none=>none
 | none=>none
theorem Gq {α γ:Type} (f:α->Sem γ) (g:α->γ):∀ (l:List α) (w:World),(∀ x ∈ l,∀ w,(f x).run P w=.ok (g x) w)->(l.mapM f).run P w=.ok (l.map g) w:=by
 intro l
 induction l with
 | nil=>intro w _; rfl
 | cons x r ih=>
  intro w h;rw [PL];simp [h x (by simp),ih w (λ y hy=>h y (by simp [hy]))]
theorem OJ {T:TypeId} {ps:List (Nat × AV)} {vs:List (Nat × Value)} {K:AV->Option β} (hp:PRs w ρ ps vs) (h:x9 P T ps K=some r) :
  ∃ av z,K av=some r /\ (∀ id ∈ av.refs,id ∈ ps.flatMap λ p=>p.2.refs) /\ AVR w ρ av z /\ (Instr.build T vs.toArray).run P w=.ok z w:=by
 unfold x9 at h;split at h
 ·rename_i i hi;split at h
  ·rename_i z hz;split at h
   ·rename_i fs hT;obtain ⟨h1,h2⟩:=aY h;simp only [aX] at h1;split at h2
    ·rename_i y hy;obtain ⟨cells',q1,q2,q3,q4⟩:=D5 hp h1.1 hy;refine ⟨_,.agg cells',h2,λ id hid=>q4 id (LX hid),XS q2 q3,?_⟩;have hm:(fs.mapM λ f=>do pure (f.offset,<-sizeOf f.type):Sem (Array (Nat × Nat))).run P w=.ok (fs.map λ f=>(f.offset,(gQ P f.type).getD 0)) w:=by
      rw [Array.mapM_eq_mapM_toList];have:=Gq (P:=P) (λ f:Field=>(do pure (f.offset,<-sizeOf f.type):Sem (Nat × Nat))) (λ f=>(f.offset,(gQ P f.type).getD 0)) fs.toList w (λ f hf w=>by
       have hs:=aQd.1 h1.2 f (by simpa using hf);cases hsz:gQ P f.type with
       | none=>simp [hsz] at hs
       | some n=>
        obtain ⟨j,hj,hjn⟩:=eL hsz;simp [sizeOf,typeInfo,hj,hjn])
      rw [Sem.run_map,this,Result.andThen_ok];congr 1;apply Array.ext';simp
     have hpl:(λ i=>(fs.map λ f=>(f.offset,(gQ P f.type).getD 0))[i]?)=D4 P fs:=by
      funext j;unfold D4;cases hf:fs[j]? with
      | none=>simp [hf]
      | some f=>
       have hs:=aQd.1 h1.2 f (by
        obtain ⟨a,b⟩:=uP.1 hf;rw [<-b]; exact Array.getElem_mem a)
       cases hsz:gQ P f.type with
       | none=>simp [hsz] at hs
       | some n=>simp [hf,hsz]
     simp only [Instr.build,Sem.run_bind,zeroValue,typeInfo,run_program,Result.andThen_ok,hi,hz,Sem.run_pure,underlying,hT,hm,hpl,BS,q1]
    ·simp at h2
   ·rename_i n e hT;split at h
    ·rename_i m hm;obtain ⟨h1,h2⟩:=aY h;split at h2
     ·rename_i y hy;obtain ⟨cells',q1,q2,q3,q4⟩:=D5 hp h1 hy;obtain ⟨j,hj,hjn⟩:=eL hm;refine ⟨_,.agg cells',h2,λ id hid=>q4 id (LX hid),XS q2 q3,?_⟩;simp only [Instr.build,Sem.run_bind,zeroValue,typeInfo,run_program,Result.andThen_ok,hi,hz,Sem.run_pure,underlying,hT,sizeOf,hj,hjn,BS,q1]
     ·simp at h2
    ·simp at h
   ·simp at h
  ·simp at h
 ·simp at h
end
end
noncomputable section
open Go Go.RowKit
set_option linter.all false
section
variable {P:Program} {B:Bs} {w0 w w':World} {ρ:Plc} {s:St} {a:Act} {β:Type} {r:β}
def iG (P:Program) (own:Bool) (T:TypeId) (len:Nat) (ps:List (Nat × AV)) (s:St) (K:AV->St->Option β):Option β :=
 match P.underlying T with
 | some (.slice e)=>match P.info? e with
  | some i=>match i.zero with
   | some z=>
    cond (Nat.ble (len*i.size) 16777216 && Nat.ble 1 len && Nat.ble 1 i.size && HR (λ j=>some (j*i.size,i.size)) ps)
     (match AS (λ j=>some (j*i.size,i.size)) (ps.map (·.1)) 0 0,OI (ps.map (·.2)) with
     | some e1,some bs=>match x8 bs with
      | some y=>cond (Nat.beq e1 (len*i.size) && Nat.beq y.2 e1) (
        match own,y.1 with
        | true,row=>K (.s (.own s.nx len i.size)) { s with hp:=(s.nx,{ ty:=e,n:=len*i.size,row:=row }) :: s.hp,nx:=s.nx+1 }
        | false,.t r=>K (.s (.dat r len i.size)) s
        | false,.mix l=>cond (Nat.beq i.size 1) (K (.c (.mdat l)) s) none) none
      | none=>none
     | _,_=>none) none
   | none=>none
  | none=>none
 | _=>none
theorem Uf (z:Array Value) (n:Nat):(Array.range n).map (z[·%z.size]!)=madeCells z n:=rfl
theorem JV (w:World) (cs:Array Value) (e:TypeId) (fz:Nat × Nat) (j:Nat):(w.alloc (.cells cs e fz)).cell? ⟨w.heap.size,j,none⟩=cs[j]?:=by
 unfold World.cell?;rw [heap_alloc_new w (.cells cs e fz)];rfl
theorem tH (w:World) (o:Obj):w.heap.size < (w.alloc o).heap.size:=by simp
theorem D6 {own:Bool} {T:TypeId} {len:Nat} {ps:List (Nat × AV)} {vs:List (Nat × Value)} {K:AV->St->Option β} (hs:Rel B w0 ρ s a w) (hp:PRs w ρ ps vs) (hpr:∀ p ∈ ps,∀ id ∈ p.2.refs,Liv s id) (h:iG P own T len ps s K=some r) :
  ∃ av s' w' ρ' v,K av s'=some r /\ (∀ id ∈ av.refs,Liv s' id) /\ AVR w' ρ' av v /\ Rel B w0 ρ' s' a w' /\ (Instr.buildSlice T len vs.toArray).run P w=.ok v w':=by
 unfold iG at h;split at h
 ·rename_i e hT;split at h
  ·rename_i i hi;split at h
   ·rename_i z hz;obtain ⟨h1,h2⟩:=aY h;simp only [aX] at h1;obtain ⟨⟨⟨c1,c2⟩,c3⟩,c4⟩:=h1;have c1:len*i.size <= 16777216:=by simpa using c1
    have c2:1 <= len:=by simpa using c2
    have c3:1 <= i.size:=by simpa using c3
    split at h2
    ·rename_i e1 bs he hbs;split at h2
     ·rename_i y hy;obtain ⟨d1,d2⟩:=aY h2;simp only [aX] at d1;have d3:e1=len*i.size:=aS d1.1;have d4:y.2=e1:=aS d1.2;have hpos:1 <= len*i.size:=Nat.mul_pos c2 c3
      -- the fill
      have hin:∀ (zz:Value),zz.cells.size=len*i.size->wP (λ j=>some (j*i.size,i.size)) zz ps=some y:=by
       intro zz hzz;unfold wP;simp only [he,hbs,hy];rw [hzz,<-d3,d4]; simp
      obtain ⟨cells',q1,q2,q3,q4⟩:=GQ (z:=.agg (madeCells z.cells (len*i.size))) hp (hp.blk (place:=λ j=>some (j*i.size,i.size)) c4 bs hbs) (hin _ (by simp [Value.cells,size_madeCells]));have q1':Instr.fill (λ j=>some (j*i.size,i.size)) (madeCells z.cells (len*i.size)) vs=some cells':=q1;have hne:¬ (len*i.size > 2 ^ 24):=by omega
      have hne0:¬ (len*i.size=0):=by omega
      have hrun:(Instr.buildSlice T len vs.toArray).run P w=.ok (.slice (some ⟨w.heap.size,0,none⟩) len len) (w.alloc (.cells cells' e)):=by
       simp only [Instr.buildSlice,Sem.run_bind,underlying,run_program,Result.andThen_ok,hT,Sem.run_pure,sizeOf,typeInfo,hi,aW hne,aW hne0,zeroValue,hz,Uf,BS];rw [q1'];simp [newRow]
      have hw:WExt ρ w (w.alloc (.cells cells' e)):=⟨by simp,λ k hk _=>heap_alloc_old w _ hk⟩;have hB:=hs.B_le;have hrefs:∀ id ∈ y.1.refs,Liv s id:=by
       intro id hid;obtain ⟨p,hp1,hp2⟩:=fG.1 (q4 id hid);exact hpr p hp1 id hp2
      have hforeign:Foreign ρ w.heap.size:=by
       refine ⟨λ id x hx he=>?_,λ ho=>?_⟩
       ·have:=(hs.base id x hx).2; omega
       ·have:=hs.ob _ ho; omega
      split at d2
      ·rename_i row hrow;refine ⟨_,_,_,qC ρ s.nx ⟨w.heap.size,len,len*i.size,len*i.size⟩,_,d2,?_,?_,hs.newblk (x:=⟨w.heap.size,len,len*i.size,len*i.size⟩) rfl ⟨⟨cells',(0,0),heap_alloc_new w _,by show len*i.size <= _ /\ _=len*i.size; omega,by simp,?_⟩,rfl⟩ (by exact hrefs),hrun⟩
       ·intro id hid;simp [AV.refs,CV.refs,SV.refs] at hid;subst hid; exact Liv.new _ _
       ·have hlm:len <= maxLen:=by
         have:len <= len*i.size:=Nat.le_mul_of_pos_right _ c3;simp only [maxLen]; omega
        exact .inl ⟨_,dC _ _ _,rfl,rfl,bV _,hlm,bV _⟩
       ·exact RowL.rowR (q2.ext hw (PExt.new (bV _)) λ id hid=>dK _ _ (Nat.ne_of_lt (hrefs id hid).1)) (by show len*i.size=_; omega)
      ·rename_i tr htr;rw [htr] at q2;simp only [RowL] at q2;have hlen:tr.length=len*i.size:=by rw [<-tr.length_cells,<-q2]; simp; omega
       refine ⟨_,_,_,ρ,_,d2,by simp [AV.refs,CV.refs,SV.refs],⟨hlen,.inr ⟨w.heap.size,0,len,rfl,bV _,hforeign,?_,tH w _⟩⟩,hs.ext (by simp) (λ k hk=>heap_alloc_old w _ hk) (hs.below.alloc hB _),hrun⟩;intro j v hv;rw [<-q2] at hv;rw [bS,JV];simpa using hv
      ·rename_i l hl;obtain ⟨g1,g2⟩:=aY d2;have g1:i.size=1:=aS g1;rw [hl] at q2 hrefs;simp only [RowL] at q2;have hlen:l.length=len:=by rw [q2.1]; simp; rw [g1] at d3; omega
       refine ⟨_,_,_,ρ,_,g2,λ id hid=>hrefs id hid,.inr ⟨w.heap.size,0,len,by rw [hlen],by omega,hforeign,?_,tH w _⟩,hs.ext (by simp) (λ k hk=>heap_alloc_old w _ hk) (hs.below.alloc hB _),hrun⟩;intro j x hx;obtain ⟨v,hv,hvr⟩:=q2.get hx;refine ⟨v,?_,hvr.ext hw (PExt.refl _ _) (λ _ _=>rfl)⟩;rw [bS,JV];simpa using hv
     ·simp at h2
    ·simp at h2
   ·simp at h
  ·simp at h
 ·simp at h
def aLU (z:Value) (n:Nat):Option TRow :=
 match z.cells.toList with
 | .int k 0 :: l=>cond (l.all λ v=>match v with | .int k' 0=>decide (k=k') | _=>false) (some (.ints k (List.replicate n 0))) none
 | [.string b]=>cond (Nat.beq b.size 0) (some (.strs (List.replicate n []))) none
 | [.bool false]=>some (.bools (List.replicate n false))
 | _=>none
theorem qX {z:Array Value} {v:Value} (hz:0 < z.size) (h:∀ u ∈ z.toList,u=v) (n:Nat):(madeCells z n).toList=List.replicate n v:=by
 unfold madeCells;apply PI
 ·simp
 ·intro j h1 h2;have hj:j%z.size < z.size:=bK _ hz;simp only [Array.toList_map,Array.toList_range,List.getElem_map,List.getElem_range,List.getElem_replicate];rw [getElem!_pos z (j%z.size) hj];exact h _ (by simp)
theorem XT {z:Value} {n:Nat} {tr:TRow} (h:aLU z n=some tr):(madeCells z.cells n).toList=tr.cells /\ tr.length=n:=by
 unfold aLU at h;split at h
 ·rename_i k l hl;obtain ⟨h1,h2⟩:=aY h;simp at h2; subst h2;refine ⟨?_,by simp [TRow.length]⟩;have hz:0 < z.cells.size:=by rw [<-Sg,hl]; simp
  rw [qX (v:=.int k 0) hz (by
   rw [hl];intro u hu;rcases mR.1 hu with rfl | hu
   ·rfl
   ·have:=rG.1 h1 u hu;split at this
    ·simp at this; subst this; rfl
    ·simp at this)]
  simp [TRow.cells]
 ·rename_i b hb;obtain ⟨h1,h2⟩:=aY h;have h1:b.size=0:=aS h1;simp at h2; subst h2;refine ⟨?_,by simp [TRow.length]⟩;have hz:0 < z.cells.size:=by rw [<-Sg,hb]; simp
  rw [qX (v:=.string b) hz (by rw [hb]; simp)];have:b=⟨#[]⟩:=by
   apply ByteArray.ext;have:b.data.size=0:=h1;exact Array.eq_empty_of_size_eq_zero this
  subst this;simp [TRow.cells,Str.val]
 ·rename_i hb;simp at h; subst h;refine ⟨?_,by simp [TRow.length]⟩;have hz:0 < z.cells.size:=by rw [<-Sg,hb]; simp
  rw [qX (v:=.bool false) hz (by rw [hb]; simp)];simp [TRow.cells]
 ·simp at h
def LY (P:Program) (T:TypeId) (l c:AV) (s:St) (K:AV->St->Option β):Option β :=
 match l,c with
 | .c (.s (.pl (.int _ l))),.c (.s (.pl (.int _ c)))=>
  match P.underlying T with
  | some (.slice e)=>match P.info? e with
   | some i=>match i.zero with
    | some z=>cond (Nat.ble i.bytes 128 && Nat.ble 1 i.size)
      (cond (decide (0 <= l /\ l <= c /\ c <= 1099511627776)) (match aLU z (D2 l.toNat i.size) with
       | some tr=>K (.s (.own s.nx l.toNat i.size)) { s with hp:=(s.nx,{ ty:=e,n:=l.toNat*i.size,row:=.t tr }) :: s.hp,nx:=s.nx+1 }
       | none=>none) none) none
    | none=>none
   | none=>none
  | _=>none
 | _,_=>none
def rX (P:Program) (k nx':Nat) (T:TypeId) (l c:AV) (s:St) (K:AV->St->Option β):Option β :=
 match l,c with
 | .c (.s (.pl (.int _ l))),.c (.s (.pl (.int _ c)))=>
  match P.underlying T with
  | some (.slice e)=>match P.info? e with
   | some i=>match i.zero with
    | some z=>cond (Nat.ble i.bytes 128 && Nat.ble 1 i.size)
      (cond (decide (0 <= l /\ l <= c /\ c <= 1099511627776)) (match aLU z (D2 l.toNat i.size) with
       | some tr=>K (.s (.own k l.toNat i.size)) { s with hp:=(k,{ ty:=e,n:=l.toNat*i.size,row:=.t tr }) :: s.hp,nx:=nx' }
       | none=>none) none) none
    | none=>none
   | none=>none
  | _=>none
 | _,_=>none
theorem AU (z:Array Value) (n m:Nat) (h:n <= m):(madeCells z m).toList.take n=(madeCells z n).toList:=by
 unfold madeCells;apply PI
 ·simp; omega
 ·intro j h1 h2;simp
theorem RQ {T:TypeId} {l c:AV} {lv cv:Value} {K:AV->St->Option β} (hs:Rel B w0 ρ s a w) (hl:AVR w ρ l lv) (hc:AVR w ρ c cv) (h:LY P T l c s K=some r) :
  ∃ av s' w' ρ' v,K av s'=some r /\ (∀ id ∈ av.refs,Liv s' id) /\ AVR w' ρ' av v /\ Rel B w0 ρ' s' a w' /\ (Instr.makeSlice T lv cv).run P w=.ok v w':=by
 unfold LY at h;split at h
 ·rename_i k1 l k2 c;rw [hl.ofInt,hc.ofInt];split at h
  ·rename_i e hT;split at h
   ·rename_i i hi;split at h
    ·rename_i z hz;obtain ⟨h1,h2⟩:=aY h;obtain ⟨h3,h4⟩:=aY h2;simp only [aX] at h1;have c1:i.bytes <= 128:=by simpa using h1.1
     have c2:1 <= i.size:=by simpa using h1.2
     have h3:0 <= l /\ l <= c /\ c <= 1099511627776:=by simpa using h3
     split at h4
     ·rename_i tr htr;obtain ⟨q1,q2⟩:=XT htr;rw [JR] at q1 q2;have hb:(i.bytes:Int)*c <= 281474976710656:=by
       have e1:(i.bytes:Int)*c <= 128*c:=Int.mul_le_mul_of_nonneg_right (by omega) (by omega);omega
      have hrun:=run_make (P:=P) w T e i z hT hi hz k1 k2 l c h3.1 h3.2.1 hb (by omega);have hB:=hs.B_le;have hle:l.toNat*i.size <= c.toNat*i.size:=pT _ (by omega);refine ⟨_,_,_,qC ρ s.nx ⟨w.heap.size,c.toNat,l.toNat*i.size,c.toNat*i.size⟩,_,h4,?_,?_,hs.newblk (x:=⟨w.heap.size,c.toNat,l.toNat*i.size,c.toNat*i.size⟩) rfl ⟨⟨_,(0,0),heap_alloc_new w _,by rw [size_madeCells]; exact ⟨hle,rfl⟩,by simp,?_⟩,rfl⟩ (by simp [Row.refs]),hrun⟩
      ·intro id hid;simp [AV.refs,CV.refs,SV.refs] at hid;subst hid; exact Liv.new _ _
      ·refine .inl ⟨_,dC _ _ _,rfl,rfl,by show l.toNat <= c.toNat; omega,?_,bV _⟩;show c.toNat <= maxLen;simp only [maxLen]; omega
      ·simp only [RowR];rw [AU _ _ _ hle]; exact q1
     ·simp at h4
    ·simp at h
   ·simp at h
  ·simp at h
 ·simp at h
theorem KS {T:TypeId} {l c:AV} {lv cv:Value} {k nx':Nat} {K:AV->St->Option β} (hs:Rel B w0 ρ s a w) (hk:k < nx') (hnx:s.nx <= nx') (hne:∀ j,Liv s j->j ≠ k) (hl:AVR w ρ l lv) (hc:AVR w ρ c cv) (h:rX P k nx' T l c s K=some r) :
  ∃ av s' w' ρ' v,K av s'=some r /\ (∀ id ∈ av.refs,Liv s' id) /\ AVR w' ρ' av v /\ Rel B w0 ρ' s' a w' /\ (Instr.makeSlice T lv cv).run P w=.ok v w':=by
 unfold rX at h;split at h
 ·rename_i k1 l k2 c;rw [hl.ofInt,hc.ofInt];split at h
  ·rename_i e hT;split at h
   ·rename_i i hi;split at h
    ·rename_i z hz;obtain ⟨h1,h2⟩:=aY h;obtain ⟨h3,h4⟩:=aY h2;simp only [aX] at h1;have c1:i.bytes <= 128:=by simpa using h1.1
     have c2:1 <= i.size:=by simpa using h1.2
     have h3:0 <= l /\ l <= c /\ c <= 1099511627776:=by simpa using h3
     split at h4
     ·rename_i tr htr;obtain ⟨q1,q2⟩:=XT htr;rw [JR] at q1 q2;have hb:(i.bytes:Int)*c <= 281474976710656:=by
       have e1:(i.bytes:Int)*c <= 128*c:=Int.mul_le_mul_of_nonneg_right (by omega) (by omega);omega
      have hrun:=run_make (P:=P) w T e i z hT hi hz k1 k2 l c h3.1 h3.2.1 hb (by omega);have hB:=hs.B_le;have hle:l.toNat*i.size <= c.toNat*i.size:=pT _ (by omega);refine ⟨_,_,_,qC ρ k ⟨w.heap.size,c.toNat,l.toNat*i.size,c.toNat*i.size⟩,_,h4,?_,?_,hs.newat hk hnx hne (x:=⟨w.heap.size,c.toNat,l.toNat*i.size,c.toNat*i.size⟩) rfl ⟨⟨_,(0,0),heap_alloc_new w _,by rw [size_madeCells]; exact ⟨hle,rfl⟩,by simp,?_⟩,rfl⟩ (by simp [Row.refs]),hrun⟩
      ·intro id hid;simp [AV.refs,CV.refs,SV.refs] at hid;subst hid;exact ⟨hk,_,by show bU ((id,_) :: s.hp) id=_; rw [iD,aT rfl]⟩
      ·refine .inl ⟨_,dC _ _ _,rfl,rfl,by show l.toNat <= c.toNat; omega,?_,bV _⟩;show c.toNat <= maxLen;simp only [maxLen]; omega
      ·simp only [RowR];rw [AU _ _ _ hle]; exact q1
     ·simp at h4
    ·simp at h
   ·simp at h
  ·simp at h
 ·simp at h
end
end
end Go.Eng
