import Derived.Test.YtmicbaijcbkmjaaGreatZE3
namespace Go.Eng
noncomputable section
open Go Go.RowKit
set_option linter.all false
def vD (n:Nat):List (Nat × AV)->List (Nat × AV)
 | []=>[]
 | p :: r=>(p.1+n,p.2) :: vD n r
def tL (n:Nat):List (Nat × AV)->List (Nat × AV)
 | []=>[]
 | p :: r=>cond (Nat.ble n p.1) ((p.1 - n,p.2) :: tL n r) (tL n r)
def Oh (P:Program) (s:St):ResultVar->Option CV
 | .tmp t=>match s.ev (.tmp t) with
  | .c x=>some x
  | .tup _=>none
 | .cell t T=>match nP P T s (s.ev (.tmp t)) some with
  | some (.c x)=>some x
  | _=>none
def BH (P:Program) (s:St):List ResultVar->Option (List CV)
 | []=>some []
 | x :: r=>match Oh P s x,BH P s r with
  | some y,some ys=>some (y :: ys)
  | _,_=>none
def aGE (fn:Func) (args:List AV) (s:St):St:={ tm:=wV args 0++vD fn.ntmps s.tm,hp:=s.hp,nx:=s.nx,sz:=fn.ntmps }
def FX (fn:Func) (sz:Nat) (sc:St):St:={ tm:=tL fn.ntmps sc.tm,hp:=sc.hp,nx:=sc.nx,sz:=sz }
def aGF (P:Program) (fn:Func) (sz:Nat):Ex->St->Option (Bool × AV × St):=λ e sc=>match e with
 | .exit _=>none
 | _=>match BH P sc fn.results.toList with
  | some l=>cond (Nat.beq sc.sz fn.ntmps) (some (true,mZ l,FX fn sz sc)) none
  | none=>none
def inl (P:Program) (fn:Func) (g:Cg) (fu:Nat):KI:=λ args s=>
 match fn.body with
 | some c=>cond (Nat.ble args.length fn.ntmps) (fJ P g fu c (aGE fn args s) (aGF P fn s.sz)) none
 | none=>none
section
variable {P:Program} {B:Bs} {w0 w:World} {ρ ρ':Plc} {s:St} {a:Act}
theorem Ab (n:Nat) (l:List (Nat × AV)) (t:Nat):bU (vD n l) t=if n <= t then bU l (t - n) else none:=by
 induction l with
 | nil=>simp [vD,bZ]
 | cons p r ih=>
  obtain ⟨i,v⟩:=p;simp only [vD,bH,ih];by_cases h:n <= t
  ·rw [aT h,aT h];by_cases e:i=t - n
   ·have:i+n=t:=by omega
    subst e; rw [this]; simp
   ·rw [iP (λ e2=>e (by omega):i+n ≠ t),iP e]
  ·rw [aW h,aW h,iP (by omega:i+n ≠ t)]; rfl
theorem Kb (n:Nat) (l:List (Nat × AV)) (t:Nat):bU (tL n l) t=bU l (t+n):=by
 induction l with
 | nil=>simp [tL,bZ]
 | cons p r ih=>
  obtain ⟨i,v⟩:=p;simp only [tL,bH];by_cases h:n <= i
  ·rw [show Nat.ble n i=true by simpa using h];simp only [aB,bH,ih];by_cases e:i=t+n
   ·subst e; simp
   ·rw [iP e,iP (λ e2=>e (by omega):i - n ≠ t)]
  ·rw [show Nat.ble n i=false by
    cases hb:Nat.ble n i
    ·rfl
    ·exact absurd (cF hb) h]
   simp only [aD,ih];rw [iP (by omega:i ≠ t+n)]; rfl
theorem Jg (l m:List (Nat × AV)) (t:Nat):bU (l++m) t=match bU l t with
  | some v=>some v
  | none=>bU m t:=by
 induction l with
 | nil=>rfl
 | cons p r ih=>
  obtain ⟨i,v⟩:=p;simp only [Fr,bH,ih];cases Nat.beq i t <;> rfl
theorem Uu {x:ResultVar} {y:CV} (hs:Rel B w0 ρ s a w) (h:Oh P s x=some y):∃ v,(Am a.tmps x).run P w=.ok v w /\ CVR w ρ y v /\ ∀ j ∈ y.refs,Liv s j:=by
 unfold Oh at h;split at h
 ·rename_i t;split at h
  ·rename_i x hx;have h1:=hs.ev (.tmp t);have h2:=hs.evr (.tmp t);rw [hx] at h1 h2;simp at h; subst h;exact ⟨_,rfl,h1,h2⟩
  ·simp at h
 ·rename_i t T;split at h
  ·rename_i x hx;obtain ⟨av,z,q1,q2,q3,q4⟩:=qD (P:=P) (K:=some) hs (hs.ev (.tmp t)) (hs.evr (.tmp t)) hx;cases q1;simp at h; subst h;exact ⟨z,Ct q4,q3,q2⟩
  ·simp at h
theorem Uv:∀ {l:List ResultVar} {ys:List CV},Rel B w0 ρ s a w->BH P s l=some ys ->
  ∃ vs,(l.mapM (Am a.tmps)).run P w=.ok vs w /\ aFB w ρ ys vs /\ ∀ j ∈ ys.flatMap CV.refs,Liv s j:=by
 intro l
 induction l with
 | nil=>intro ys hs h; simp [BH] at h; subst h; exact ⟨[],rfl,⟨rfl,by simp⟩,by simp⟩
 | cons x r ih=>
  intro ys hs h;simp only [BH] at h;split at h
  ·rename_i y ys' h1 h2;simp at h; subst h;obtain ⟨v,q1,q2,q3⟩:=Uu hs h1;obtain ⟨vs,q4,q5,q6⟩:=ih hs h2;refine ⟨v :: vs,?_,⟨by have:=q5.1; simp at this ⊢; exact this,λ i x v hx hv=>?_⟩,λ j hj=>?_⟩
   ·rw [PL];simp only [Sem.run_bind,q1,Result.andThen_ok,q4,Sem.run_pure]
   ·cases i with
    | zero=>simp at hx hv; subst hx; subst hv; exact q2
    | succ i=>
     simp only [List.getElem?_cons_succ] at hx hv;exact q5.2 i x v hx hv
   ·simp only [Ar,tO] at hj;rcases hj with hj | hj
    ·exact q3 j hj
    ·exact q6 j hj
  ·simp at h
theorem Rl {l:List CV} {p:Nat->Prop} (h:∀ j ∈ l.flatMap CV.refs,p j):∀ j ∈ (mZ l).refs,p j:=by
 match l with
 | []=>exact λ j hj=>by simp [mZ,AV.refs] at hj
 | [x]=>simpa [mZ,AV.refs] using h
 | x :: y :: r=>exact h
def Bs.in (B:Bs) (a:Act):Bs:=⟨B.n,B.X,a.tmps.toList++B.ext,B.M,[]⟩
theorem Oi {ac:Act} {n:Nat} (hn:ac.tmps.size=n) (t:Nat):AM (B.in a) ac (t+n)=AM B a t:=by
 unfold AM;rw [aW (by omega)];simp only [Bs.in,hn,PQ];by_cases h:t < a.tmps.size
 ·rw [aT h];simp only [List.getD];rw [yO (by simpa using h)];simp [Array.getD,h]
 ·rw [aW h];simp only [List.getD];rw [yP (by simpa using Nat.le_of_not_lt h)];simp
theorem BelowM.in {w0 w:World} (h:BelowM B w0 w):BelowM (B.in a) w0 w:=⟨h.os,h.tape,h.output,h.size,h.block,h.shape⟩
theorem BelowM.out {w0 w:World} (h:BelowM (B.in a) w0 w):BelowM B w0 w:=⟨h.os,h.tape,h.output,h.size,h.block,h.shape⟩
theorem Rel.in {fn:Func} {args:List AV} {vs:List Value} (hs:Rel B w0 ρ s a w) (h:AVRs w ρ args vs) (hrefs:∀ x ∈ args,∀ id ∈ x.refs,Liv s id) (hl:args.length <= fn.ntmps) :
  Rel (B.in a) w0 ρ (aGE fn args s) { tmps:=vs.toArray++Array.replicate (fn.ntmps - vs.toArray.size) undef,defers:=[] } w:=by
 obtain ⟨hlen,hg⟩:=AVRs.get h;have hsz:(vs.toArray++Array.replicate (fn.ntmps - vs.toArray.size) undef).size=fn.ntmps:=by simp; omega
 have hget:∀ t,(aGE fn args s).get t=match args[t]? with
   | some v=>v
   | none=>if fn.ntmps <= t then s.get (t - fn.ntmps) else .junk:=by
  intro t;show (match bU (wV args 0++vD fn.ntmps s.tm) t with | some v=>v | none=>.junk)=_;rw [Jg,Fg];simp only [pW,jM,Hr,Ab];cases args[t]? with
  | some v=>rfl
  | none=>
   by_cases e:fn.ntmps <= t
   ·simp only [aT e]; rfl
   ·simp only [aW e]
 refine ⟨λ t=>?_,hs.blk,hs.lt,hs.inj,hs.base,hsz,rfl,hs.below.in,hs.b0,λ t id hid=>?_,hs.rb,hs.gh,hs.ob,hs.ox⟩
 ·rw [hget];cases ht:args[t]? with
  | none=>
   by_cases e:fn.ntmps <= t
   ·simp only [aT e];have:=hs.tm (t - fn.ntmps);rw [<-Oi (B:=B) (a:=a) (ac:={ tmps:=vs.toArray++Array.replicate (fn.ntmps - vs.toArray.size) undef,defers:=[] }) hsz,PU e] at this;exact this
   ·simp only [aW e]; exact trivial
  | some x=>
   have hlt:=(iT.1 ht).1;have hv:vs[t]?=some (vs[t]'(by omega)):=by simp
   have:=hg t x _ ht hv;have e:(vs.toArray++Array.replicate (fn.ntmps - vs.toArray.size) undef).getD t undef=vs[t]'(by omega):=by
    simp only [Array.getD];have hlt':t < vs.length:=by omega
    rw [dif_pos (by simp; omega)];simp [aHW,hlt']
   simp only [];rw [k7 (by show t < (vs.toArray++Array.replicate (fn.ntmps - vs.toArray.size) undef).size; rw [hsz]; omega)];show AVR w ρ x ((vs.toArray++Array.replicate (fn.ntmps - vs.toArray.size) undef).getD t undef);rw [e]; exact this
 ·rw [hget] at hid;cases ht:args[t]? with
  | none=>
   rw [ht] at hid;simp only [] at hid;by_cases e:fn.ntmps <= t
   ·rw [aT e] at hid; exact hs.rt _ id hid
   ·rw [aW e] at hid; simp [AV.refs,CV.refs,SV.refs] at hid
  | some x=>
   rw [ht] at hid;exact hrefs x (jI ht) id hid
theorem Rel.back {fn:Func} {sc:St} {ac:Act} {w':World} (hs:Rel B w0 ρ s a w) (h:Rel (B.in a) w0 ρ' sc ac w') (hz:sc.sz=fn.ntmps):Rel B w0 ρ' (FX fn s.sz sc) a w':=by
 have hget:∀ t,(FX fn s.sz sc).get t=sc.get (t+fn.ntmps):=by
  intro t;show (match bU (tL fn.ntmps sc.tm) t with | some v=>v | none=>.junk)=(match bU sc.tm (t+fn.ntmps) with | some v=>v | none=>.junk);rw [Kb]
 refine ⟨λ t=>?_,h.blk,h.lt,h.inj,h.base,hs.size,hs.df,h.below.out,h.b0,λ t id hid=>?_,h.rb,h.gh,h.ob,h.ox⟩
 ·rw [hget];have:=h.tm (t+fn.ntmps);rwa [Oi (B:=B) (a:=a) (h.size.trans hz)] at this
 ·rw [hget] at hid;exact h.rt _ id hid
theorem aVK {f:FuncId} {fn:Func} {g:Cg} {fu:Nat} (hm:P.follows .mixedOrders=true) (hΓ:CfOk P g.c) (hf:P.funcs[f]?=some fn) (hname:(fn.name == "runtime.NumGoroutine")=false):yX P f (inl P fn g fu):=by
 intro B w0 w ρ s a args vs av s' hs hargs hrefs hF;unfold inl at hF;split at hF
 case h_2=>simp at hF
 rename_i c hc;obtain ⟨h1,h2⟩:=aY hF;refine .inr ⟨nA hf hname hc _ _,calls_of_wp hf hc ?_⟩;refine mY (B:=B.in a) (w0:=w0) hm hΓ c (hs.in hargs hrefs (cF h1)) h2 λ e sc ac w' ρ' h' hs'=>?_;have j8:(match BH P sc fn.results.toList with
   | some l=>cond (Nat.beq sc.sz fn.ntmps) (some (true,mZ l,FX fn s.sz sc)) none
   | none=>none)=some (true,av,s')->ac.defers=[] /\ ∃ v,(results fn ac.tmps).run P w'=.ok v w' /\ ∃ v',Ending.returned v=.returned v' /\ ∃ ρ2,AVR w' ρ2 av v' /\ (∀ id ∈ av.refs,Liv s' id) /\ Rel B w0 ρ2 s' a w':=by
  intro h;split at h
  ·rename_i l hl;obtain ⟨hz,h⟩:=aY h;simp only [lF,uX,true_and] at h;obtain ⟨rfl,rfl⟩:=h;obtain ⟨vs',q1,q2,q3⟩:=Uv hs' hl;exact ⟨hs'.df,_,kT q1,_,rfl,ρ',wW q2,Rl q3,hs.back hs' (aS hz)⟩
  ·simp at h
 unfold aGF at h';cases e with
 | normal=>exact j8 h'
 | ret=>exact j8 h'
 | exit id=>simp at h'
end
end
noncomputable section
open Go Go.RowKit
set_option linter.all false
section
variable {P:Program} {B:Bs} {w0 w w':World} {ρ ρ':Plc} {s s':St} {a:Act}
def CellsKept (w w':World):Prop:=w.heap.size <= w'.heap.size /\ ∀ (k:Nat) (cs:Array Value) (ty:TypeId) (fz:Nat × Nat),w.heap[k]?=some (Obj.cells cs ty fz)->w'.heap[k]?=w.heap[k]?
theorem CellsKept.cell {b o:Nat} {v:Value} (h:CellsKept w w') (hc:w.cell? ⟨b,o,none⟩=some v):w'.cell? ⟨b,o,none⟩=some v:=by
 cases hb:w.heap[b]? with
 | none=>simp [World.cell?,hb] at hc
 | some obj=>
  cases obj with
  | cells cs ty fz=>rw [cell?_keep (h.2 b cs ty fz hb)]; exact hc
  | _=>simp [World.cell?,hb] at hc
theorem SVR.kept {x:SV} {v:Value} (h:SVR w ρ x v) (hk:CellsKept w w'):SVR w' ρ x v:=by
 cases x with
 | dat r len esz=>
  obtain ⟨h1,h2⟩:=h;refine ⟨h1,?_⟩;rcases h2 with h2 | ⟨b,off,cap,e,hc,hf,hra,hb⟩
  ·exact .inl h2
  ·exact .inr ⟨b,off,cap,e,hc,hf,λ i v hv=>hk.cell (hra i v hv),cU hb hk.1⟩
 | rptr r off ext=>
  obtain ⟨h1,b,o,e,hf,hra,hb⟩:=h;exact ⟨h1,b,o,e,hf,λ i v hv=>hk.cell (hra i v hv),cU hb hk.1⟩
 | clor f cs=>obtain ⟨vs,e,h⟩:=h; exact ⟨vs,e,h.map λ b o cs h1 h2 h3=>⟨h1,λ i v hv=>hk.cell (h2 i v hv),cU h3 hk.1⟩⟩
 | _=>exact h
theorem SVRs.kept {l:List SV} {vs:List Value} (h:SVRs w ρ l vs) (hk:CellsKept w w'):SVRs w' ρ l vs:=⟨h.1,λ i x v hx hv=>(h.2 i x v hx hv).kept hk⟩
theorem MRowAt.kept {b off:Nat} {l:List SV} (h:MRowAt w ρ b off l) (hk:CellsKept w w'):MRowAt w' ρ b off l:=λ i x hx=>by
 obtain ⟨v,h1,h2⟩:=h i x hx;exact ⟨v,hk.cell h1,h2.kept hk⟩
theorem CVR.kept {x:CV} {v:Value} (h:CVR w ρ x v) (hk:CellsKept w w'):CVR w' ρ x v:=by
 cases x with
 | s x=>exact SVR.kept h hk
 | mix l=>obtain ⟨cs,e,h⟩:=h; exact ⟨cs,e,h.kept hk⟩
 | mdat l=>
  rcases h with h | ⟨b,off,cap,e,hc,hf,hra,hb⟩
  ·exact .inl h
  ·exact .inr ⟨b,off,cap,e,hc,hf,hra.kept hk,cU hb hk.1⟩
 | mptr l off=>
  obtain ⟨h1,b,o,e,hf,hra,hb⟩:=h;exact ⟨h1,b,o,e,hf,hra.kept hk,cU hb hk.1⟩
theorem AVR.kept {x:AV} {v:Value} (h:AVR w ρ x v) (hk:CellsKept w w'):AVR w' ρ x v:=by
 cases x with
 | c x=>exact CVR.kept h hk
 | tup l=>
  obtain ⟨vs,e,h1,h2⟩:=h;exact ⟨vs,e,h1,λ i x v hx hv=>(h2 i x v hx hv).kept hk⟩
theorem Rel.kept (h:Rel B w0 ρ s a w) (hk:CellsKept w w') (hbl:BelowM B w0 w'):Rel B w0 ρ s a w':=by
 refine ⟨λ t=>(h.tm t).kept hk,λ id x hx=>?_,h.lt,h.inj,λ id x hx=>⟨(h.base id x hx).1,cU (h.base id x hx).2 hk.1⟩,h.size,h.df,hbl,h.b0,h.rt,h.rb,h.gh,λ b hb=>cU (h.ob b hb) hk.1,h.ox⟩;obtain ⟨b,h1,h2⟩:=h.blk id x hx;refine ⟨b,h1,?_⟩;obtain ⟨⟨cs,fz,q1,q2,q3,q4⟩,q5⟩:=h2;refine ⟨⟨cs,fz,by rw [hk.2 _ _ _ _ q1]; exact q1,q2,q3,?_⟩,q5⟩;cases hrow:b.row with
 | t r=>rw [hrow] at q4; exact q4
 | mix l=>rw [hrow] at q4; exact SVRs.kept q4 hk
theorem Rel.grown {row:Option Nat} {n₁:Nat} (h:Rel B w0 ρ s a w) (hn:B.n <= n₁) (hg:w.grownBy w' row) (hr:∀ r,row=some r->n₁ <= r /\ ∃ o:Obj,w.heap[r]?=some o /\ o.isCells=false):Rel B w0 ρ s a w':=by
 have hne:∀ (k:Nat) (cs:Array Value) (ty:TypeId) (fz:Nat × Nat),w.heap[k]?=some (Obj.cells cs ty fz)->some k ≠ row:=λ k cs ty fz hk e=>by
  obtain ⟨_,o,ho,hc⟩:=hr k e.symm;rw [hk] at ho; cases ho; cases hc
 refine h.kept ⟨hg.size,λ k cs ty fz hk=>hg.block k (uP.1 hk).1 (hne k cs ty fz hk)⟩
  ⟨hg.os.trans h.below.os,hg.tape.trans h.below.tape,hg.output.trans h.below.output,cK h.below.size hg.size,λ k hk hm=>?_,λ k hk hm=>?_⟩
 ·refine (hg.block k (cU hk h.B_le) λ e=>?_).trans (h.below.block k hk hm);have:=(hr k e.symm).1;have hk':k < B.n:=hk;omega
 ·refine (h.below.shape k hk hm).trans ?_;rw [hg.block k (cU hk h.B_le) λ e=>by
   have:=(hr k e.symm).1;have hk':k < B.n:=hk;omega]
  exact Shape.refl _
def Bs.now (B:Bs) (ρ:Plc) (w:World):Bs:=⟨w.heap.size,B.X,B.ext,λ k=>∃ id x,ρ id=some x /\ x.r=k,B.ds⟩
theorem Rel.now (h:Rel B w0 ρ s a w):Rel (B.now ρ w) w ρ s a w :=
 ⟨h.tm,h.blk,h.lt,h.inj,λ id x hx=>⟨.inr ⟨id,x,hx,rfl⟩,(h.base id x hx).2⟩,h.size,h.df,BelowM.refl _ _,bV _,h.rt,h.rb,h.gh,h.ob,h.ox⟩
theorem Rel.then {s2:St} {a2:Act} (h:Rel B w0 ρ s a w) (h2:Rel (B.now ρ w) w ρ' s2 a2 w'):Rel B w0 ρ' s2 a2 w':=by
 have hown:∀ k,k < B.n->¬ B.M k->k < w.heap.size /\ ¬ (B.now ρ w).M k:=λ k hk hm=>by
  refine ⟨cU hk h.B_le,?_⟩;rintro ⟨id,x,hx,rfl⟩;rcases (h.base id x hx).1 with h1 | h1
  ·have:B.n <= x.r:=h1;omega
  ·exact hm h1
 refine ⟨h2.tm,h2.blk,h2.lt,h2.inj,λ id x hx=>⟨?_,(h2.base id x hx).2⟩,h2.size,h2.df,⟨h2.below.os.trans h.below.os,h2.below.tape.trans h.below.tape,h2.below.output.trans h.below.output,cK h.below.size h2.below.size,λ k hk hm=>?_,λ k hk hm=>?_⟩,h.b0,h2.rt,h2.rb,h2.gh,h2.ob,h2.ox⟩
 ·rcases (h2.base id x hx).1 with h1 | ⟨i,y,hy,e⟩
  ·have h1':w.heap.size <= x.r:=h1;have:=h.B_le;exact .inl (by omega)
  ·rw [<-e]; exact (h.base i y hy).1
 ·obtain ⟨q1,q2⟩:=hown k hk hm;exact (h2.below.block k q1 q2).trans (h.below.block k hk hm)
 ·by_cases ho:(B.now ρ w).M k
  ·exact (h.below.shape k hk hm).trans (h2.below.shape k (cU hk h.B_le) ho)
  ·rw [h2.below.block k (cU hk h.B_le) ho]; exact h.below.shape k hk hm
theorem Rel.round {a1:Act} {s1:St} (hs:Rel B w0 ρ s a w) (hsz:a1.tmps.size=s.sz) (hds:a1.defers=[]) (hhp:s1.hp=s.hp) (hnx:s1.nx=s.nx) (hzz:s1.sz=s.sz)
  (hlow:∀ t,t < s.sz->AVR w ρ (s1.get t) (a1.tmps.getD t undef) /\ ∀ id ∈ (s1.get t).refs,Liv s id) (hhi:∀ t,s1.get (t+s.sz)=s.get t):Rel (B.in a) w0 ρ s1 a1 w:=by
 have hliv:∀ id,Liv s id->Liv s1 id:=λ id h=>⟨by rw [hnx]; exact h.1,by rw [hhp]; exact h.2⟩;refine ⟨λ t=>?_,λ id x hx=>by rw [hhp]; exact hs.blk id x hx,λ id x hx=>by rw [hnx]; exact hs.lt id x hx,hs.inj,hs.base,by rw [hzz]; exact hsz,hds,hs.below.in,hs.b0,λ t id hid=>?_,λ i b hb id hid=>hliv id (hs.rb i b (by rw [<-hhp]; exact hb) id hid),λ i b hb=>hs.gh i b (by rw [<-hhp]; exact hb),hs.ob,hs.ox⟩
 ·by_cases h:t < s.sz
  ·rw [k7 (by rw [hsz]; exact h)]; exact (hlow t h).1
  ·have e:t=(t - s.sz)+s.sz:=by omega
   rw [e,hhi,Oi (B:=B) (a:=a) hsz];exact hs.tm _
 ·by_cases h:t < s.sz
  ·exact hliv id ((hlow t h).2 id hid)
  ·have e:t=(t - s.sz)+s.sz:=by omega
   rw [e,hhi] at hid;exact hliv id (hs.rt _ id hid)
end
end
end Go.Eng
