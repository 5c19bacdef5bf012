import Derived.ChangeSlices
import Derived.SizedLaws
import Derived.SliceStrings
import Derived.Test.YtdcaobkcdgojgaaZE3
namespace Go.Eng
noncomputable section
open Go Go.RowKit Go.ChangeShapes Go.WideShapes Go.ChangeAt
set_option linter.all false
inductive Leaf where
 | int (k:IntKind)
 | str
 | bool
def leafB (P:Program) (t:TypeId) (l:Leaf):Bool:=match P.underlying t,l with
 | some (.int k),.int k'=>decide (k=k')
 | some .string,.str=>true
 | some .bool,.bool=>true
 | _,_=>false
def fieldsB (P:Program):Nat->List Field->List Leaf->Bool
 | _,[],[]=>true
 | i,f :: fs,l :: ls=>Nat.beq f.offset i && Nat.beq (P.cellsOf f.type) 1 && leafB P f.type l && fieldsB P (i+1) fs ls
 | _,_,_=>false
def structB (P:Program) (t:TypeId) (ls:List Leaf):Bool:=match P.underlying t with
 | some (.struct fs)=>Nat.beq (P.cellsOf t) ls.length && fieldsB P 0 fs.toList ls
 | _=>false
def inLeaf:Leaf->Pl->Prop
 | .int k,x=>∃ n:Int,x=.int k n /\ (Lit.int k n).wf=true
 | .str,x=>∃ s:Str,x=.str s /\ s.length <= maxLen
 | .bool,x=>∃ b:Bool,x=.bool b
def inLeafs:List Leaf->List Pl->Prop
 | [],[]=>True
 | l :: ls,x :: xs=>inLeaf l x /\ inLeafs ls xs
 | _,_=>False
theorem addr_add (b off i:Nat):(⟨b,off,none⟩:Addr).add i=⟨b,off+i,none⟩:=by
 unfold Addr.add
 split <;> simp_all
theorem str_val (s:ByteArray):Str.val s.data.toList=.string s:=by
 cases s
 simp [Str.val]
section
variable {H:Type} {enc:TypeId × Value->H} {P:Program} {W:World} {base:Nat} {sp:Nat->Bool} {hd:Bool} {b0:Nat} {r:Reach}
theorem open_leaf {t:TypeId} {l:Leaf} {n:Nat} {cs:List Value} {y:DataW H × List MemPlace} (hk:leafB P t l=true) (h:DataW.trod enc P W base sp hd n t cs=some y) :
  ∃ x,inLeaf l x /\ cs=[x.val] /\ y.2=[]:=by
 unfold leafB at hk
 split at hk
 ·rename_i k k' e
  have:=of_decide_eq_true hk
  subst this
  obtain ⟨z,e1,e2,e3⟩:=DataW.trod_int e h
  exact ⟨.int k z,⟨z,rfl,e3⟩,e1,by rw [e2]⟩
 ·rename_i e
  obtain ⟨s,e1,e2,e3⟩:=DataW.trod_string e h
  exact ⟨.str s.data.toList,⟨_,rfl,by rw [Array.length_toList]; exact e3⟩,by rw [e1]; simp [Pl.val,str_val],by rw [e2]⟩
 ·rename_i e
  obtain ⟨b,e1,e2⟩:=DataW.trod_bool e h
  exact ⟨.bool b,⟨b,rfl⟩,e1,by rw [e2]⟩
 ·cases hk
theorem open_fields {n:Nat}:∀ {fs:List Field} {ls:List Leaf} {i:Nat} {cs:List Value} {xs:List (DataW H × List MemPlace)},fieldsB P i fs ls=true->cs.length=i+ls.length->xs.length=fs.length ->
  (∀ (j:Nat) (f:Field),fs[j]?=some f->DataW.trod enc P W base sp hd n f.type ((cs.drop f.offset).take (P.cellsOf f.type))=xs[j]?) ->
  ∃ ys:List Pl,inLeafs ls ys /\ cs.drop i=ys.map Pl.val /\ xs.flatMap (·.2)=[]:=by
 intro fs
 induction fs with
 | nil=>
  intro ls i cs xs hf hl hx h
  match ls,xs,hf,hx with
  | [],[],_,_=>exact ⟨[],trivial,by simp at hl ⊢; omega,rfl⟩
 | cons f fs ih=>
  intro ls i cs xs hf hl hx h
  match ls,xs,hf,hx with
  | l :: ls,x :: xs,hf,hx=>
   simp only [fieldsB,Bool.and_eq_true] at hf
   obtain ⟨⟨⟨h1,h2⟩,h3⟩,h4⟩:=hf
   have e1:=Nat.eq_of_beq_eq_true h1
   have e2:=Nat.eq_of_beq_eq_true h2
   have g:=h 0 f rfl
   rw [e1,e2] at g
   obtain ⟨y,y1,y2,y3⟩:=open_leaf h3 g
   obtain ⟨ys,z1,z2,z3⟩:=ih (ls:=ls) (i:=i+1) (cs:=cs) (xs:=xs) h4 (by simp at hl; omega) (by simpa using hx) fun j f hj=>by
    have:=h (j+1) f hj
    simpa using this
   refine ⟨y :: ys,⟨y1,z1⟩,?_,by simp [y3,z3]⟩
   have hi:i < cs.length:=by simp at hl; omega
   have y4:[cs[i]]=[y.val]:=by
    rw [<-y2,List.drop_eq_getElem_cons hi]; rfl
   rw [List.drop_eq_getElem_cons hi,z2,(List.cons.inj y4).1]; rfl
theorem open_struct {t:TypeId} {ls:List Leaf} {v:Value} {d:DataW H} {p:List MemPlace} (hk:structB P t ls=true) (hv:Value.okWide P W r b0 t v) (h:DataW.Trod enc P W base sp hd t v d p) :
  ∃ ys:List Pl,inLeafs ls ys /\ v=.agg (ys.map Pl.val).toArray /\ p=[]:=by
 unfold structB at hk
 split at hk
 ·rename_i fs ht
  rw [Bool.and_eq_true] at hk
  have e:=Nat.eq_of_beq_eq_true hk.1
  obtain ⟨cs,rfl,hsz⟩:=okWide_struct ht hv
  obtain ⟨fuel,hf⟩:=h
  obtain ⟨xs,n,_,hx,hcl,hl,hel⟩:=DataW.trod_struct ht hf
  obtain ⟨ys,h1,h2,h3⟩:=open_fields (i:=0) (cs:=cs.toList) hk.2 (by rw [Array.length_toList,hsz,e]; omega) (by rw [hl]; simp) fun j f hj=>by
   have:=hel j f (by simpa using hj)
   simpa [Value.cells] using this
  refine ⟨ys,h1,?_,?_⟩
  ·rw [<-h2]; simp
  ·simp only [Prod.mk.injEq] at hx
   rw [hx.2,h3]
 ·cases hk
theorem inLeafs_len:∀ {ls:List Leaf} {ys:List Pl},inLeafs ls ys->ys.length=ls.length:=by
 intro ls
 induction ls with
 | nil=>intro ys h; match ys,h with | [],_=>rfl
 | cons l ls ih=>intro ys h; match ys,h with | y :: ys,h=>exact congrArg Nat.succ (ih h.2)
theorem inLeafs_strs:∀ {n:Nat} {ys:List Pl},inLeafs (List.replicate n .str) ys->∃ ss:List Str,ys=ss.map .str /\ ss.length=n /\ ∀ s ∈ ss,s.length <= maxLen:=by
 intro n
 induction n with
 | zero=>intro ys h; match ys,h with | [],_=>exact ⟨[],rfl,rfl,by simp⟩
 | succ n ih=>
  intro ys h
  match ys,h with
  | y :: ys,⟨⟨s,h1,h2⟩,h3⟩=>
   obtain ⟨ss,e1,e2,e3⟩:=ih h3
   exact ⟨s :: ss,by rw [h1,e1]; rfl,by simp [e2],fun x hx=>by
    rcases List.mem_cons.1 hx with rfl | hx
    ·exact h2
    ·exact e3 x hx⟩
theorem slice_spot {t e:TypeId} {a:Addr} {len cap:Nat} (ht:P.underlying t=some (.slice e)) (h:Value.okWide P W r b0 t (.slice (some a) len cap)):a.spot=none /\ a.block < W.heap.size:=by
 simp only [Value.okWide,ht,Cell.okWide,Cell.ok] at h
 obtain ⟨_,_,_,h2,row,cells,h3,_⟩:=h
 refine ⟨h2,?_⟩
 unfold World.shape? at h3
 rcases Nat.lt_or_ge a.block W.heap.size with h | h
 ·exact h
 ·rw [Array.getElem?_eq_none (by omega)] at h3; cases h3
theorem foreign0 (b:Nat):Foreign (P0 fun _=>False) b:=⟨fun _ _ h=>by simp [P0] at h,fun h=>h⟩
theorem open_sints {t e:TypeId} {k:IntKind} {v:Value} {d:DataW H} {p:List MemPlace} (ht:P.underlying t=some (.slice e)) (he:P.underlying e=some (.int k)) (hc:P.cellsOf e=1)
  (hv:Value.okWide P W r b0 t v) (h:DataW.Trod enc P W base sp hd t v d p) :
  ∃ l:List Int,AVR W (P0 fun _=>False) (.c (.s (.dat (.ints k l) l.length 1))) v /\ (∀ x ∈ l,(Lit.int k x).wf=true) /\ (∀ x ∈ p,x.block < W.heap.size) /\ (l=[] ∨ ∃ sp,d=.slice (lits k l) sp):=by
 obtain ⟨a0,len0,cap0,rfl⟩:=okWide_slice ht hv
 obtain ⟨fuel,hf⟩:=h
 have hcs:(Value.slice a0 len0 cap0).cells.toList=[.slice a0 len0 cap0]:=by simp [Value.cells]
 rw [hcs] at hf
 rcases open_ints ht he hc hf with ⟨h1,h2⟩ | ⟨a,len,cap,zs,h1,_,h2,h3,h4,h5,h6,h7⟩
 ·simp only [Prod.mk.injEq] at h2
  refine ⟨[],⟨rfl,.inl ⟨rfl,by simpa using h1⟩⟩,by simp,?_,.inl rfl⟩
  rw [h2.2]; simp
 ·rw [List.cons.injEq] at h1
  have hvs:=h1.1
  rw [hvs] at hv ⊢
  obtain ⟨hs,hb⟩:=slice_spot ht hv
  obtain ⟨b,off,spot⟩:=a
  simp only at hs hb
  subst hs
  have hz:len <= zs.length:=by rw [h4]; split <;> omega
  have hl:(zs.take len).length=len:=by simp; omega
  simp only [Prod.mk.injEq] at h5
  refine ⟨zs.take len,⟨?_,.inr ⟨b,off,cap,by rw [hl],by omega,foreign0 b,?_,hb⟩⟩,fun x hx=>h7 x (List.mem_of_mem_take hx),?_,.inr ⟨_,h5.1⟩⟩
  ·show (zs.take len).length=_; omega
  ·intro i v hi
   simp only [TRow.cells,List.getElem?_map,Option.map_eq_some_iff] at hi
   obtain ⟨z,hi,rfl⟩:=hi
   have hlt:i < len:=by
    have:=(List.getElem?_eq_some_iff.1 hi).1; omega
   have:=h6 i (by omega)
   rw [List.getElem?_take_of_lt hlt] at hi
   rw [List.getD,hi] at this
   rw [addr_add] at this
   exact this
  ·rw [h5.2]
   intro x hx
   obtain ⟨i,_,rfl⟩:=MemPlace.mem_row.1 hx
   exact hb
theorem weights_strs {e:TypeId}:∀ {l:List ByteArray} {s:ByteArray},s ∈ l->s.size ∈ DataW.weightsAll (H:=H) P e (strs l):=by
 intro l
 induction l with
 | nil=>intro s h; cases h
 | cons x l ih=>
  intro s h
  simp only [strs,List.map_cons,DataW.weightsAll,DataW.weights,List.mem_append]
  rcases List.mem_cons.1 h with rfl | h
  ·left; simp
  ·right; exact ih h
theorem open_sstrs {t e:TypeId} {v:Value} {d:DataW H} {p:List MemPlace} (ht:P.underlying t=some (.slice e)) (he:P.underlying e=some .string) (hc:P.cellsOf e=1)
  (hv:Value.okWide P W r b0 t v) (h:DataW.Trod enc P W base sp hd t v d p) :
  ∃ l:List Str,AVR W (P0 fun _=>False) (.c (.s (.dat (.strs l) l.length 1))) v /\ ((∀ n ∈ d.weights P t,n <= reachBytes)->∀ x ∈ l,x.length <= reachBytes) /\ (∀ x ∈ p,x.block < W.heap.size) /\ (l=[] ∨ ∃ zs sp,d=.slice (strs zs) sp /\ l=zs.map (·.data.toList)):=by
 obtain ⟨a0,len0,cap0,rfl⟩:=okWide_slice ht hv
 obtain ⟨fuel,hf⟩:=h
 have hcs:(Value.slice a0 len0 cap0).cells.toList=[.slice a0 len0 cap0]:=by simp [Value.cells]
 rw [hcs] at hf
 rcases open_strings ht he hc hf with ⟨h1,h2⟩ | ⟨a,len,cap,zs,h1,_,h2,h3,h4,h5,h6,h7⟩
 ·simp only [Prod.mk.injEq] at h2
  refine ⟨[],⟨rfl,.inl ⟨rfl,by simpa using h1⟩⟩,by simp,?_,.inl rfl⟩
  rw [h2.2]; simp
 ·rw [List.cons.injEq] at h1
  have hvs:=h1.1
  rw [hvs] at hv ⊢
  obtain ⟨hs,hb⟩:=slice_spot ht hv
  obtain ⟨b,off,spot⟩:=a
  simp only at hs hb
  subst hs
  have hz:len <= zs.length:=by rw [h4]; split <;> omega
  have hl:((zs.take len).map (·.data.toList)).length=len:=by simp; omega
  simp only [Prod.mk.injEq] at h5
  refine ⟨(zs.take len).map (·.data.toList),⟨?_,.inr ⟨b,off,cap,by rw [hl],by omega,foreign0 b,?_,hb⟩⟩,?_,?_,.inr ⟨_,_,h5.1,rfl⟩⟩
  ·show ((zs.take len).map (·.data.toList)).length=_; omega
  ·intro i v hi
   simp only [TRow.cells,List.getElem?_map,Option.map_eq_some_iff] at hi
   obtain ⟨_,⟨z,hi,rfl⟩,rfl⟩:=hi
   have hlt:i < len:=by
    have:=(List.getElem?_eq_some_iff.1 hi).1; simp at this; omega
   have:=h6 i (by omega)
   rw [List.getElem?_take_of_lt hlt] at hi
   rw [List.getD,hi] at this
   rw [str_val]
   rw [addr_add] at this
   exact this
  ·intro hw x hx
   obtain ⟨s,hs,rfl⟩:=List.mem_map.1 hx
   rw [h5.1] at hw
   rw [Array.length_toList]
   refine hw _ ?_
   simp only [DataW.weights,ht]
   exact List.mem_cons_of_mem _ (List.mem_append_left _ (weights_strs hs))
  ·rw [h5.2]
   intro x hx
   obtain ⟨i,_,rfl⟩:=MemPlace.mem_row.1 hx
   exact hb
def Pl.toI:Pl->Int
 | .int _ n=>n
 | _=>0
def Pl.toS:Pl->Str
 | .str s=>s
 | _=>[]
def Pl.toB:Pl->Bool
 | .bool b=>b
 | _=>false
def colOf (hs:List Pl):Leaf->TRow
 | .int k=>.ints k (hs.map Pl.toI)
 | .str=>.strs (hs.map Pl.toS)
 | .bool=>.bools (hs.map Pl.toB)
def hdPl:List Pl->Pl
 | y :: _=>y
 | []=>.bool false
def colsOf:List Leaf->List (List Pl)->List TRow
 | [],_=>[]
 | l :: ls,R=>colOf (R.map hdPl) l :: colsOf ls (R.map List.tail)
def inCol (n:Nat):Leaf->TRow->Prop
 | .int k,c=>∃ xs:List Int,c=.ints k xs /\ xs.length=n /\ ∀ x ∈ xs,(Lit.int k x).wf=true
 | .str,c=>∃ ss:List Str,c=.strs ss /\ ss.length=n /\ ∀ s ∈ ss,s.length <= maxLen
 | .bool,c=>∃ bs:List Bool,c=.bools bs /\ bs.length=n
def inCols (n:Nat):List Leaf->List TRow->Prop
 | [],[]=>True
 | l :: ls,c :: cs=>inCol n l c /\ inCols n ls cs
 | _,_=>False
theorem colOf_ok {hs:List Pl} {l:Leaf} (h:∀ y ∈ hs,inLeaf l y):inCol hs.length l (colOf hs l):=by
 cases l with
 | int k=>
  refine ⟨_,rfl,by simp,fun x hx=>?_⟩
  obtain ⟨y,hy,rfl⟩:=List.mem_map.1 hx
  obtain ⟨n,rfl,h2⟩:=h y hy
  exact h2
 | str=>
  refine ⟨_,rfl,by simp,fun x hx=>?_⟩
  obtain ⟨y,hy,rfl⟩:=List.mem_map.1 hx
  obtain ⟨n,rfl,h2⟩:=h y hy
  exact h2
 | bool=>exact ⟨_,rfl,by simp⟩
theorem colOf_cell {hs:List Pl} {l:Leaf} {i:Nat} {y:Pl} (hi:hs[i]?=some y) (h:inLeaf l y):(colOf hs l).cells[i]?=some y.val:=by
 cases l with
 | int k=>obtain ⟨n,rfl,h2⟩:=h; simp [colOf,TRow.cells,hi,Pl.toI,Pl.val]
 | str=>obtain ⟨n,rfl,h2⟩:=h; simp [colOf,TRow.cells,hi,Pl.toS,Pl.val]
 | bool=>obtain ⟨n,rfl⟩:=h; simp [colOf,TRow.cells,hi,Pl.toB,Pl.val]
theorem inLeafs_cons {l:Leaf} {ls:List Leaf} {r:List Pl} (h:inLeafs (l :: ls) r):∃ y ys,r=y :: ys /\ inLeaf l y /\ inLeafs ls ys:=by
 match r,h with
 | y :: ys,h=>exact ⟨y,ys,rfl,h.1,h.2⟩
theorem colsOf_ok:∀ {ls:List Leaf} {R:List (List Pl)},(∀ r ∈ R,inLeafs ls r)->inCols R.length ls (colsOf ls R):=by
 intro ls
 induction ls with
 | nil=>intro R _; trivial
 | cons l ls ih=>
  intro R h
  refine ⟨?_,?_⟩
  ·have:=colOf_ok (hs:=R.map hdPl) (l:=l) fun y hy=>by
    obtain ⟨r,hr,rfl⟩:=List.mem_map.1 hy
    obtain ⟨y,ys,rfl,h1,_⟩:=inLeafs_cons (h r hr)
    exact h1
   rwa [List.length_map] at this
  ·have:=ih (R:=R.map List.tail) fun r hr=>by
    obtain ⟨r',hr',rfl⟩:=List.mem_map.1 hr
    obtain ⟨y,ys,rfl,_,h2⟩:=inLeafs_cons (h r' hr')
    exact h2
   rwa [List.length_map] at this
theorem colsOf_cell:∀ {ls:List Leaf} {R:List (List Pl)} {i j:Nat} {r:List Pl} {c:TRow},(∀ r ∈ R,inLeafs ls r)->R[i]?=some r->(colsOf ls R)[j]?=some c->∃ y,r[j]?=some y /\ c.cells[i]?=some y.val:=by
 intro ls
 induction ls with
 | nil=>intro R i j r c _ _ h; simp [colsOf] at h
 | cons l ls ih=>
  intro R i j r c h hr hc
  obtain ⟨y,ys,e,h1,h2⟩:=inLeafs_cons (h r (List.mem_of_getElem? hr))
  subst e
  cases j with
  | zero=>
   simp [colsOf] at hc
   subst hc
   exact ⟨y,rfl,colOf_cell (by rw [List.getElem?_map,hr]; rfl) h1⟩
  | succ j=>
   simp only [colsOf,List.getElem?_cons_succ] at hc
   obtain ⟨z,z1,z2⟩:=ih (R:=R.map List.tail) (i:=i) (j:=j) (r:=ys) (c:=c) (fun r hr=>by
    obtain ⟨r',hr',rfl⟩:=List.mem_map.1 hr
    obtain ⟨y,ys,rfl,_,h2⟩:=inLeafs_cons (h r' hr')
    exact h2) (by rw [List.getElem?_map,hr]; rfl) hc
   exact ⟨z,by simpa using z1,z2⟩
theorem colsOf_len:∀ {ls:List Leaf} {R:List (List Pl)},(colsOf ls R).length=ls.length:=by
 intro ls
 induction ls with
 | nil=>intro R; rfl
 | cons l ls ih=>intro R; simp [colsOf,ih]
theorem structB_cells {t:TypeId} {ls:List Leaf} (hk:structB P t ls=true):P.cellsOf t=ls.length:=by
 unfold structB at hk
 split at hk
 ·rw [Bool.and_eq_true] at hk
  exact Nat.eq_of_beq_eq_true hk.1
 ·cases hk
theorem open_structT {t:TypeId} {ls:List Leaf} {n:Nat} {cs:List Value} {y:DataW H × List MemPlace} (hk:structB P t ls=true) (h:DataW.trod enc P W base sp hd n t cs=some y) :
  ∃ ys:List Pl,inLeafs ls ys /\ cs=ys.map Pl.val /\ y.2=[]:=by
 have hce:=structB_cells hk
 unfold structB at hk
 split at hk
 ·rename_i fs ht
  rw [Bool.and_eq_true] at hk
  obtain ⟨xs,n',_,hx,hcl,hl,hel⟩:=DataW.trod_struct ht h
  obtain ⟨ys,h1,h2,h3⟩:=open_fields (i:=0) (cs:=cs) hk.2 (by rw [hcl,hce]; omega) (by rw [hl]; simp) fun j f hj=>hel j f (by simpa using hj)
  refine ⟨ys,h1,by simpa using h2,?_⟩
  rw [hx]; exact h3
 ·cases hk
theorem open_scols {t e:TypeId} {ls:List Leaf} {v:Value} {d:DataW H} {p:List MemPlace} (ht:P.underlying t=some (.slice e)) (hk:structB P e ls=true)
  (hv:Value.okWide P W r b0 t v) (h:DataW.Trod enc P W base sp hd t v d p) :
  ∃ (cols:List TRow) (n:Nat),AVR W (P0 fun _=>False) (.c (.cdat cols n)) v /\ inCols n ls cols /\ ∀ x ∈ p,x.block < W.heap.size:=by
 obtain ⟨a0,len0,cap0,rfl⟩:=okWide_slice ht hv
 obtain ⟨fuel,hf⟩:=h
 have hcs:(Value.slice a0 len0 cap0).cells.toList=[.slice a0 len0 cap0]:=by simp [Value.cells]
 rw [hcs] at hf
 rcases DataW.trod_slice ht hf with ⟨h1,h2⟩ | ⟨a,len,cap,elems,rest,n,_,h1,h2,hb,hl,hm,hlen,hel,hsp,hns⟩
 ·simp only [Prod.mk.injEq] at h2
  refine ⟨colsOf ls [],0,.inl ⟨rfl,by simpa using h1⟩,colsOf_ok (R:=[]) (by simp),?_⟩
  rw [h2.2]; simp
 ·rw [List.cons.injEq] at h1
  have hvs:=h1.1
  rw [hvs] at hv ⊢
  obtain ⟨hs,hblk⟩:=slice_spot ht hv
  obtain ⟨b,off,spot⟩:=a
  simp only at hs hblk
  subst hs
  have hce:=structB_cells hk
  have each:∀ i,i < len->∃ r:List Pl,inLeafs ls r /\ ∀ (j:Nat) (z:Pl),r[j]?=some z->W.cell? ⟨b,off+i*ls.length+j,none⟩=some z.val:=by
   intro i hi
   have g:=hel i hi
   rw [List.getElem?_eq_getElem (by omega),Option.bind_eq_some_iff] at g
   obtain ⟨cs,g1,g2⟩:=g
   obtain ⟨ys,q1,q2,q3⟩:=open_structT hk g2
   obtain ⟨_,c1,c2⟩:=World.cells?_some g1
   refine ⟨ys,q1,fun j z hz=>?_⟩
   have hj:j < P.cellsOf e:=by
    have:=(List.getElem?_eq_some_iff.1 hz).1
    rw [hce,<-inLeafs_len q1]; exact this
   have:=c2 j hj
   rw [addr_add,addr_add,hce,q2,List.getElem?_map,hz] at this
   exact this
  have nop:∀ y ∈ elems++rest,y.2=[]:=by
   intro y hy
   rcases List.mem_append.1 hy with hy | hy
   ·obtain ⟨i,hi⟩:=List.getElem?_of_mem hy
    have hil:i < len:=by rw [<-hlen]; exact (List.getElem?_eq_some_iff.1 hi).1
    have g:=hel i hil
    rw [hi,Option.bind_eq_some_iff] at g
    obtain ⟨cs,g1,g2⟩:=g
    obtain ⟨ys,q1,q2,q3⟩:=open_structT hk g2
    exact q3
   ·obtain ⟨i,hi⟩:=List.getElem?_of_mem hy
    have hil:=(List.getElem?_eq_some_iff.1 hi).1
    cases hsp0:sp b with
    | false=>rw [hns hsp0] at hil; simp at hil
    | true=>
     obtain ⟨hrl,hr⟩:=hsp hsp0
     have g:=hr i (by omega)
     rw [hi,Option.bind_eq_some_iff] at g
     obtain ⟨cs,g1,g2⟩:=g
     obtain ⟨ys,q1,q2,q3⟩:=open_structT hk g2
     exact q3
  have row:∀ i,∃ r:List Pl,i < len->inLeafs ls r /\ ∀ (j:Nat) (z:Pl),r[j]?=some z->W.cell? ⟨b,off+i*ls.length+j,none⟩=some z.val:=by
   intro i
   by_cases hi:i < len
   ·obtain ⟨r,hr⟩:=each i hi
    exact ⟨r,fun _=>hr⟩
   ·exact ⟨[],fun h=>absurd h hi⟩
  let R:=(List.range len).map fun i=>Classical.choose (row i)
  have hR:∀ (i:Nat) (r:List Pl),R[i]?=some r->i < len /\ r=Classical.choose (row i):=by
   intro i r hr
   simp only [R,List.getElem?_map,Option.map_eq_some_iff] at hr
   obtain ⟨k,hk1,hk2⟩:=hr
   obtain ⟨hil,hik⟩:=List.getElem?_eq_some_iff.1 hk1
   rw [List.length_range] at hil
   rw [List.getElem_range] at hik
   exact ⟨hil,by rw [<-hk2,hik]⟩
  have hRl:R.length=len:=by simp [R]
  have hRi:∀ r ∈ R,inLeafs ls r:=by
   intro r hr
   obtain ⟨i,hi⟩:=List.getElem?_of_mem hr
   obtain ⟨h1,rfl⟩:=hR i r hi
   exact (Classical.choose_spec (row i) h1).1
  simp only [Prod.mk.injEq] at h2
  refine ⟨colsOf ls R,len,.inr ⟨b,off,cap,rfl,hl,foreign0 b,fun i hi j c hc=>?_,hblk⟩,?_,?_⟩
  ·have hri:R[i]?=some R[i]:=by rw [List.getElem?_eq_getElem (by omega)]
   obtain ⟨_,e⟩:=hR i _ hri
   obtain ⟨y,y1,y2⟩:=colsOf_cell hRi hri hc
   refine ⟨y.val,?_,y2⟩
   rw [colsOf_len]
   rw [e] at y1
   exact (Classical.choose_spec (row i) hi).2 j y y1
  ·have:=colsOf_ok hRi
   rwa [hRl] at this
  ·rw [h2.2]
   intro x hx
   rcases List.mem_append.1 hx with hx | hx
   ·obtain ⟨i,_,rfl⟩:=MemPlace.mem_row.1 hx
    exact hblk
   ·obtain ⟨y,hy,hxy⟩:=List.mem_flatMap.1 hx
    rw [nop y hy] at hxy; cases hxy
end
inductive PK2 where
 | base (k:PK)
 | str2
 | sst (n:Nat)
 | mst (ls:List Leaf)
 | ints (k:IntKind)
 | strs
 | cols (ls:List Leaf)
def pk2Ok (P:Program) (t:TypeId):PK2->Prop
 | .base k=>pkOk P t k
 | .str2=>P.underlying t=some .string
 | .sst n=>structB P t (List.replicate n .str)=true
 | .mst ls=>structB P t ls=true
 | .ints k=>∃ e,P.underlying t=some (.slice e) /\ P.underlying e=some (.int k) /\ P.cellsOf e=1
 | .strs=>∃ e,P.underlying t=some (.slice e) /\ P.underlying e=some .string /\ P.cellsOf e=1
 | .cols ls=>∃ e,P.underlying t=some (.slice e) /\ structB P e ls=true
def pks2Ok (P:Program):List TypeId->List PK2->Prop
 | [],[]=>True
 | t :: ts,k :: ks=>pk2Ok P t k /\ pks2Ok P ts ks
 | _,_=>False
def inBV:PK2->AV->Prop
 | .base k,x=>inAV k x
 | .str2,x=>∃ s:Str,x=.str s /\ s.length <= reachBytes
 | .sst n,x=>∃ ss:List Str,x=.agg (.strs ss) n /\ ss.length=n /\ ∀ s ∈ ss,s.length <= maxLen
 | .mst ls,x=>∃ ys:List Pl,x=.c (.mix (ys.map .pl)) /\ inLeafs ls ys
 | .ints k,x=>∃ l:List Int,x=.c (.s (.dat (.ints k l) l.length 1)) /\ ∀ y ∈ l,(Lit.int k y).wf=true
 | .strs,x=>∃ l:List Str,x=.c (.s (.dat (.strs l) l.length 1)) /\ ∀ y ∈ l,y.length <= reachBytes
 | .cols ls,x=>∃ (cs:List TRow) (n:Nat),x=.c (.cdat cs n) /\ inCols n ls cs
def inBVs:List PK2->List AV->Prop
 | [],[]=>True
 | k :: ks,x :: xs=>inBV k x /\ inBVs ks xs
 | _,_=>False
section
variable {H:Type} {enc:TypeId × Value->H} {P:Program} {W:World} {base:Nat} {sp:Nat->Bool} {hd:Bool} {b0:Nat} {r:Reach}
theorem inLeafs_noagg:∀ {ls:List Leaf} {ys:List Pl},inLeafs ls ys->∀ y ∈ ys,∀ r n,y ≠ .agg r n:=by
 intro ls
 induction ls with
 | nil=>intro ys h; match ys,h with | [],_=>intro y hy; cases hy
 | cons l ls ih=>
  intro ys h
  match ys,h with
  | y :: ys,h=>
   intro z hz r n e
   rcases List.mem_cons.1 hz with rfl | hz
   ·subst e
    have:=h.1
    cases l <;> (obtain ⟨_,h⟩:=this; first | (cases h.1; done) | (cases h; done))
   ·exact ih h.2 z hz r n e
theorem open_one2 {t:TypeId} {k:PK2} {v:Value} {d:DataW H} {p:List MemPlace} (hk:pk2Ok P t k) (hv:Value.okWide P W r b0 t v) (h:DataW.Trod enc P W base sp hd t v d p) (hw:∀ n ∈ d.weights P t,n <= reachBytes) :
  ∃ x,inBV k x /\ AVR W (P0 fun _=>False) x v /\ ∀ x ∈ p,x.block < W.heap.size:=by
 cases k with
 | base k=>
  obtain ⟨x,h1,h2,rfl⟩:=open_one hk hv h
  exact ⟨x,h1,h2,by simp⟩
 | str2=>
  obtain ⟨s,rfl,rfl,rfl,hs⟩:=Go.ChangeMaps.open_string hk hv h
  exact ⟨.str s.data.toList,⟨_,rfl,hw _ (by simp [DataW.weights])⟩,⟨by simp [Pl.val,Str.val],fun r n' e=>by cases e⟩,by simp⟩
 | sst n=>
  obtain ⟨ys,h1,rfl,rfl⟩:=open_struct hk hv h
  obtain ⟨ss,rfl,h2,h3⟩:=inLeafs_strs h1
  refine ⟨.agg (.strs ss) n,⟨ss,rfl,h2,h3⟩,⟨?_,fun r n' e=>by cases e; exact h2⟩,by simp⟩
  simp only [Pl.val,TRow.cells,List.map_map]; rfl
 | mst ls=>
  obtain ⟨ys,h1,rfl,rfl⟩:=open_struct hk hv h
  refine ⟨.c (.mix (ys.map .pl)),⟨ys,rfl,h1⟩,⟨_,rfl,by simp,fun i x v hx hv=>?_⟩,by simp⟩
  simp only [List.getElem?_map,Option.map_eq_some_iff] at hx hv
  obtain ⟨y,h2,rfl⟩:=hx
  obtain ⟨y',h3,rfl⟩:=hv
  rw [h2] at h3
  cases h3
  exact ⟨rfl,fun r n e=>absurd e (inLeafs_noagg h1 y (List.mem_of_getElem? h2) r n)⟩
 | ints k=>
  obtain ⟨e,h1,h2,h3⟩:=hk
  obtain ⟨l,g1,g2,g3,_⟩:=open_sints h1 h2 h3 hv h
  exact ⟨_,⟨l,rfl,g2⟩,g1,g3⟩
 | strs=>
  obtain ⟨e,h1,h2,h3⟩:=hk
  obtain ⟨l,g1,g2,g3,_⟩:=open_sstrs h1 h2 h3 hv h
  exact ⟨_,⟨l,rfl,g2 hw⟩,g1,g3⟩
 | cols ls=>
  obtain ⟨e,h1,h2⟩:=hk
  obtain ⟨cs,n,g1,g2,g3⟩:=open_scols h1 h2 hv h
  exact ⟨_,⟨cs,n,rfl,g2⟩,g1,g3⟩
theorem open_all2:∀ {ts:List TypeId} {ks:List PK2} {vs:List Value} {ds:List (DataW H)} {p:List MemPlace},pks2Ok P ts ks->(∀ (j:Nat) t v,ts[j]?=some t->vs[j]?=some v->Value.okWide P W r b0 t v) ->
  (∀ n ∈ DataW.weightsEach P ts ds,n <= reachBytes)->DataW.TrodAll enc P W base sp hd ts vs ds p->∃ xs,inBVs ks xs /\ AVRs W (P0 fun _=>False) xs vs /\ ∀ x ∈ p,x.block < W.heap.size:=by
 intro ts
 induction ts with
 | nil=>
  intro ks vs ds p hk hv hw h
  match ks,vs,ds,hk,h with
  | [],[],[],_,h=>exact ⟨[],trivial,trivial,by have:p=[]:=h; simp [this]⟩
 | cons t ts ih=>
  intro ks vs ds p hk hv hw h
  match ks,vs,ds,hk,h with
  | k :: ks,v :: vs,d :: ds,⟨hk1,hk2⟩,⟨p,q,h1,h2,e⟩=>
   obtain ⟨x,g1,g2,g5⟩:=open_one2 hk1 (hv 0 t v rfl rfl) h1 (fun n hn=>hw n (by simp only [DataW.weightsEach,List.mem_append]; exact .inl hn))
   obtain ⟨xs,g3,g4,g6⟩:=ih hk2 (fun j t v ht hv'=>hv (j+1) t v ht hv') (fun n hn=>hw n (by simp only [DataW.weightsEach,List.mem_append]; exact .inr hn)) h2
   exact ⟨x :: xs,⟨g1,g3⟩,⟨g2,g4⟩,fun y hy=>by
    rw [e] at hy
    rcases List.mem_append.1 hy with hy | hy
    ·exact g5 y hy
    ·exact g6 y hy⟩
theorem trodAll_below2 (hl:laidOutB P=true) {W':World} (hb:Below W.heap.size W W'):∀ {ts:List TypeId} {vs:List Value} {ds:List (DataW H)} {p:List MemPlace},(∀ t ∈ ts,P.readableRec t=true /\ t < P.types.size) ->
  (∀ x ∈ p,x.block < W.heap.size)->DataW.TrodAll enc P W 0 (fun _=>true) true ts vs ds p->DataW.TrodAll enc P W' 0 (fun b=>decide (b < W.heap.size)) true ts vs ds p:=by
 intro ts
 induction ts with
 | nil=>
  intro vs ds p hr hp h
  match vs,ds,h with
  | [],[],h=>exact h
 | cons t ts ih=>
  intro vs ds p hr hp h
  match vs,ds,h with
  | v :: vs,d :: ds,⟨p,q,h1,h2,e⟩=>
   subst e
   exact ⟨p,q,Below.trod hl (hr t (by simp)).1 (hr t (by simp)).2 h1 hb (fun x hx=>hp x (List.mem_append_left _ hx)),ih (fun t ht=>hr t (by simp [ht])) (fun x hx=>hp x (List.mem_append_right _ hx)) h2,rfl⟩
theorem weights_mem_front:∀ {ts us:List TypeId} {ds gs:List (DataW H)} {n:Nat},n ∈ DataW.weightsEach P ts ds->n ∈ DataW.weightsEach P (ts++us) (ds++gs):=by
 intro ts
 induction ts with
 | nil=>intro us ds gs n h; cases ds <;> cases h
 | cons t ts ih=>
  intro us ds gs n h
  match ds,h with
  | d :: ds,h=>
   simp only [List.cons_append,DataW.weightsEach,List.mem_append] at h ⊢
   rcases h with h | h
   ·exact .inl h
   ·exact .inr (ih h)
theorem weights_front {ts us:List TypeId} {ds gs:List (DataW H)} (h:(DataW.weightsEach P (ts++us) (ds++gs)).all (· <= reachBytes)=true):∀ n ∈ DataW.weightsEach P ts ds,n <= reachBytes:=fun n hn=>by
 have:=List.all_eq_true.1 h n (weights_mem_front hn)
 simpa using this
theorem inBVs_1 {k:PK2} {xs:List AV} (h:inBVs [k] xs):∃ x,xs=[x] /\ inBV k x:=by
 match xs,h with
 | [x],h=>exact ⟨x,rfl,h.1⟩
end
end
end Go.Eng
