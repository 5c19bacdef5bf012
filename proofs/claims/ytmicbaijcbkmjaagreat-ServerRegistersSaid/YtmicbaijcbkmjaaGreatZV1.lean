import Derived.Defers
import Derived.Recover
import Derived.Test.YtmicbaijcbkmjaaGreatZO6
import Derived.Test.YtmicbaijcbkmjaaGreatZW1
namespace Go.Eng
open Go.IntKind (u64 i64 u8)
noncomputable section
open Go Go.RowKit
set_option linter.all false
section
variable {ro:Option Nat} {n:Nat} {P:Program} {c c1:Cf} {ops:Array Oper} {β:Type} {r:β} {B:Bs} {w0 w:World} {ρ:Plc} {s:St} {a:Act}
theorem aAd (hΓ:CfOk P c) {Q:Exit->Act->World->Prop} {K:St->Option β} {op:Oper} {rest:List Oper} (hg:op.guard=none):∀ (l:List Oper) {G:fE} {s:St} {a:Act} {w:World} {ρ:Plc},Rel B w0 ρ s a w->GR G a->aAD P c ops l G s K=some r ->
  (∀ s' a' w' ρ',K s'=some r->Rel B w0 ρ' s' a' w'->∀ next,op.wpIn (Fw ro) n P a' w' next Q)->wpListIn (Fw ro) n P ops Q (l++op :: rest) a w:=by
 intro l
 induction l with
 | nil=>
  intro G s a w ρ hs hG h hQ;show wpListIn (Fw ro) n P ops Q (op :: rest) a w;unfold wpListIn;have:Region.wanted op (yielded ops a.tmps)=true:=by simp [Region.wanted,hg]
  rw [aT this];exact hQ s a w ρ h hs _
 | cons o l ih=>
  intro G s a w ρ hs hG h hQ;have h1:=GW (ro:=ro) (n:=n) (Q:=Q) hΓ hs hG h λ s2 G2 a2 w2 ρ2 h1 h2 h3=>ih h2 h3 h1 hQ;show wpListIn (Fw ro) n P ops Q (o :: (l++op :: rest)) a w;unfold wpListIn;by_cases hw:Region.wanted o (yielded ops a.tmps)=true
  ·rw [aT hw] at h1 ⊢; exact h1
  ·rw [aW hw] at h1 ⊢; exact ⟨λ _ _=>trivial,h1⟩
def Re (c:Cf) (qs:List Nat):List Oper->List (List Nat)->Bool
 | o :: l,F :: Fs=>(!Hw c o || !Pd F qs) && Re c qs l Fs
 | [],_=>true
 | _,[]=>false
theorem aMe {qs:List Nat}:∀ {l:List Oper} {Fs:List (List Nat)},Re c qs l Fs=true->∀ (j:Nat) o F,l[j]?=some o->Fs[j]?=some F->Ff c o->∀ q ∈ qs,q ∉ F:=by
 intro l
 induction l with
 | nil=>intro Fs h j o F hj; simp at hj
 | cons x l ih=>
  intro Fs h j o F hj hF hw q hq;cases Fs with
  | nil=>simp [Re] at h
  | cons G Fs=>
   simp only [Re,aX] at h;cases j with
   | succ j=>exact ih h.2 j o F (by simpa using hj) (by simpa using hF) hw q hq
   | zero=>
    simp at hj hF; subst hj; subst hF;have hx:Hw c x=true:=by unfold Hw; rw [show cZ (q8 c x) x.op=.wr from hw]
    have h1:=h.1;rw [hx] at h1;simp at h1;exact λ hm=>Pe h1 q hm hq
def GP (t:Nat):List Oper->Bool
 | []=>true
 | o :: l=>(match o.dst with
  | some d=>!Nat.beq d t
  | none=>true) && GP t l
theorem aFI {t:Nat}:∀ {l:List Oper},GP t l=true->∀ o ∈ l,o.dst ≠ some t:=by
 intro l
 induction l with
 | nil=>intro h o ho; cases ho
 | cons x l ih=>
  intro h o ho hd;simp only [GP,aX] at h;rcases mR.1 ho with rfl | ho
  ·have h1:=h.1;rw [hd] at h1;simp at h1
  ·exact ih h.2 o ho hd
def FW (lk:List Tmp):List Oper->Bool
 | []=>true
 | o :: l=>(match o.dst with
  | some d=>!Bf d lk
  | none=>true) && FW lk l
theorem aAe {lk:List Tmp}:∀ {l:List Oper},FW lk l=true->∀ o ∈ l,∀ d,o.dst=some d->d ∉ lk:=by
 intro l
 induction l with
 | nil=>intro h o ho; cases ho
 | cons x l ih=>
  intro h o ho d hd hm;simp only [FW,aX] at h;rcases mR.1 ho with rfl | ho
  ·have h1:=h.1;rw [hd] at h1;simp only [xD.2 hm] at h1;cases h1
  ·exact ih h.2 o ho d hd hm
end
section
variable {ro:Option Nat} {n:Nat} {P:Program} {c c1:Cf} {ops:Array Oper} {β:Type} {r:β} {S:Nat->St × fE} {Fs:List (List Nat)} {B:Bs} {w0 w:World} {ρ:Plc} {s:St} {a:Act}
theorem Rf (hΓ:CfOk P c1) (h:Run P c ops S Fs) {p:Nat} {op:Oper} (hp:ops[p]?=some op) (hpg:op.guard=none)
  (hne:∀ i o,ops[i]?=some o->i ≠ p->∀ G s,kS P c ops G o s lI=kS P c1 ops G o s lI) {qs:List Nat} (hfr:Re c qs ops.toList Fs=true) (hlt:FW (op.looksAt ops) (ops.toList.drop p)=true)
  {Q:Exit->Act->World->Prop}
  (hpan:∀ s2 a w ρ,Rel B w0 ρ s2 a w->(∀ t ∈ op.looksAt ops,s2.get t=(S ops.size).1.get t)->(∀ q ∈ qs,pP s2 q=pP (S 0).1 q)->(∀ t,GP t ops.toList=true->s2.get t=(S 0).1.get t)->s2.sz=(S 0).1.sz->∀ next,op.wpIn (Fw ro) n P a w next Q) :
  ∀ (fuel:Nat) (listed:Array Bool) (s2:St) (G2:fE) (a:Act) (w:World) (ρ:Plc),listed.size=ops.size->listed.toList.count false=fuel->Clo ops (Eo listed)->¬ Eo listed p->Inv c ops S (Eo listed) s2 G2->Rel B w0 ρ s2 a w->GR G2 a ->
   wpAnyIn (Fw ro) n P .any ops Q fuel listed a w:=by
 have hpl:=(uP.1 hp).1;intro fuel
 induction fuel with
 | zero=>
  intro listed s2 G2 a w ρ hsz hcnt hcl hnp inv hr hG;exfalso;have hi':p < listed.size:=by omega
  have:=Kn hcnt p (by simpa using hi');apply hnp;unfold Eo; simp [hi']; simpa using this
 | succ fuel ih=>
  intro listed s2 G2 a w ρ hsz hcnt hcl hnp inv hr hG;refine ⟨λ hnil=>?_,λ i hi=>?_⟩
  ·exfalso;apply hnp;have all:∀ i,i < ops.size->Eo listed i:=by
    intro i
    induction i using Nat.strongRecOn with
    | _ i ih2=>
     intro hi;by_cases hl:Eo listed i
     ·exact hl
     ·have ho:ops[i]?=some (ops[i]'hi):=by simp
      have:i ∈ Region.ready .any ops listed:=mem_ready.2 ⟨(Hx (by omega)).2 hl,_,ho,λ e he hb=>ih2 e.on (h.acy i _ ho e he hb) (by have:=h.acy i _ ho e he hb; omega)⟩;rw [hnil] at this; cases this
   exact all p hpl
  ·obtain ⟨h1,o,ho,h2⟩:=mem_ready.1 hi;have hlt0:=(uP.1 ho).1;have hlt':i < listed.size:=by omega
   have hL:¬ Eo listed i:=(Hx hlt').1 h1;obtain ⟨ag,vg⟩:=h.agree hcl inv ho hL h2;by_cases hip:i=p
   ·subst hip;rw [hp] at ho; cases ho;unfold wpOpIn;rw [hp];simp only [];have hw:Region.wanted op (yielded ops a.tmps)=true:=by simp [Region.wanted,hpg]
    rw [aT hw];have tx:=h.text i (by omega);have te:=h.text ops.size (bV _);refine hpan s2 a w ρ hr (λ t ht=>?_) (λ q hq=>?_) (λ t ht=>(inv.ini t λ i o hi _=>aFI ht o (by have:=Array.mem_of_getElem? hi; simpa using this)).1) inv.sz _
    ·rw [<-ag.get t ht];by_cases hex:∃ (j:Nat) (oj:Oper),ops[j]?=some oj /\ oj.dst=some t
     ·obtain ⟨j,oj,hj,hd⟩:=hex;have hjs:=(uP.1 hj).1;have hji:j < i:=by
       rcases pS j i with hlt1 | hge
       ·exact hlt1
       ·exfalso;refine aAe hlt oj ?_ t hd ht;refine PN.2 ⟨j - i,?_⟩;rw [mO,show i+(j - i)=j by omega];simpa using hj
      exact (tx.wrt j oj t hj hji hd).1.trans (te.wrt j oj t hj hjs hd).1.symm
     ·exact (tx.ini t λ k ok hk _ hkd=>hex ⟨k,ok,hk,hkd⟩).1.trans (te.ini t λ k ok hk _ hkd=>hex ⟨k,ok,hk,hkd⟩).1.symm
    ·obtain ⟨m,m0,m1,_⟩:=inv.vt q;rw [m1];refine h.frame (pW _) m0 λ j oj _ _ hj hwj hqj=>?_;exact aMe hfr j oj _ (by simpa using hj) (h.fs j oj hj) hwj q hq hqj
   ·obtain ⟨s2',G2',q1,q2⟩:=Ay (P:=P) (c:=c) (ops:=ops) h.hE (ME (h.ok.one i o ho)) ag vg (h.step i o ho);have hcl':Clo ops (Eo (listed.setIfInBounds i true)):=⟨λ k ok hk hlk e he hb=>by
     rw [C6 hlt'] at hlk ⊢;rcases hlk with hlk | rfl
     ·exact .inl (hcl.cl k ok hk hlk e he hb)
     ·rw [ho] at hk; cases hk;exact .inl (h2 e he hb)⟩
    have inv':Inv c ops S (Eo (listed.setIfInBounds i true)) s2' G2':=by
     refine (inv.next h ho hL q2 (λ j oj q hj hwi hwj hqi hqj=>⟨λ hji=>?_,λ hij=>?_⟩) (λ g wt hg=>?_)).mono λ k _=>(C6 hlt').symm
     ·by_cases hb:bef ops j i
      ·exact h.listed hcl ho h2 hb
      ·exact absurd hqi ((h.apart hj ho hji hb).2.2 (.inl hwj) q hqj)
     ·intro hl;by_cases hb:bef ops i j
      ·exact hL (h.listed hcl hj (hcl.cl j oj hj hl) hb)
      ·exact absurd hqj ((h.apart ho hj hij hb).2.2 (.inl hwi) q hqi)
     ·obtain ⟨_,e,he,hb,rfl⟩:=h.guard ho hg;exact h2 e he hb
    have hcnt':(listed.setIfInBounds i true).toList.count false=fuel:=by
     have hge:listed.toList[i]'(by simpa using hlt')=false:=by
      have:=h1;simp [hlt'] at this; simpa using this
     rw [Ye,List.count_set (by simpa using hlt'),hcnt,hge];simp
    rw [hne i o ho hip] at q1;have h1:=Jm (ro:=ro) (n:=n) (Q:=Q) hΓ hr hG q1 (λ s3 G3 a3 w3 ρ3 e3 r3 g3=>by
     simp only [lI,lF,uX] at e3;obtain ⟨rfl,rfl⟩:=e3;refine ih _ _ _ a3 w3 ρ3 (by simpa using hsz) hcnt' hcl' ?_ inv' r3 g3;rw [C6 hlt'];rintro (hl | rfl)
     ·exact hnp hl
     ·exact hip rfl)
    unfold wpOpIn;rw [ho];simp only [];by_cases hw:Region.wanted o (yielded ops a.tmps)=true
    ·rw [aT hw] at h1 ⊢; exact h1
    ·rw [aW hw] at h1 ⊢; exact ⟨λ _ _=>trivial,h1⟩
theorem UX (hm:P.follows .mixedOrders=true) (hΓ:CfOk P c1) {p:Nat} {op:Oper} (hp:ops[p]?=some op) (hpg:op.guard=none)
  (hne:∀ i o,ops[i]?=some o->i ≠ p->∀ G s,kS P c.quiet ops G o s lI=kS P c1.quiet ops G o s lI) {qs:List Nat} (hlt:FW (op.looksAt ops) (ops.toList.drop p)=true)
  (hs:Rel B w0 ρ s a w) {se:St} (h:F0 P c.quiet ops ops.toList [] (s.lift (xC ops.toList)) [] (λ s' F=>cond (F2 c.quiet ops 0 ops.toList F (Pc ops) && Re c.quiet qs ops.toList F) (some s') none)=some se) {id:Nat} {Q:Exit->Act->World->Prop}
  (hpan:∀ s2 a w ρ,Rel B w0 ρ s2 a w->(∀ t ∈ op.looksAt ops,s2.get t=se.get t)->(∀ k,k+1 ∈ qs->bT s2.hp k=bT s.hp k)->(∀ t,GP t ops.toList=true->s2.get t=s.get t)->s2.sz=s.sz->∀ next,op.wpIn (Fw ro) n P a w next Q):(Code.region id ops true).wpIn (Fw ro) n P Q a w:=by
 obtain ⟨S,e0,hst,Fs,hl,hfs,hk⟩:=C5 ops.toList [] (s.lift (xC ops.toList)) [] h;obtain ⟨hok,hk⟩:=aY hk;simp only [rI,aX] at hok;have hk:=dG hk;have hrun:Run P c.quiet ops S Fs:=⟨rfl,by rw [e0],λ i o ho=>hst i o (by simpa using ho),λ i o ho=>hfs i o (by simpa using ho),Ok.of hok.1⟩;refine wpIn_region_any hm (Rf (B:=B) (w0:=w0) hΓ.quiet hrun hp hpg hne hok.2 hlt (λ s2 a w ρ hr h1 h2 h4 h5=>hpan s2 a w ρ hr (λ t ht=>?_) (λ k hq=>?_) (λ t ht=>by rw [h4 t ht,e0]; rfl) (by rw [h5,e0]; rfl)) ops.size _ (s.lift (xC ops.toList)) [] a _ ρ (by simp) (by simp [List.count_replicate]) ⟨λ i o _ hL=>?_⟩ ?_ ?_ ?_ ?_)
 ·rw [h1 t ht,<-hk]; simp
 ·have h3:=h2 (k+1) hq;rw [e0] at h3;simp only [pP,Sum.inr.injEq] at h3;exact h3
 ·simp [Eo,Array.getD] at hL
 ·intro hL; simp [Eo,Array.getD] at hL
 ·have t0:=hrun.text 0 (pW _);rw [e0] at t0;refine t0.mono λ i hi=>⟨λ h=>by omega,λ h=>?_⟩;simp [Eo,Array.getD] at h
 ·exact (hs.lift _).drew
 ·intro d tg want p hp; simp at hp
end
end
open Go Go.Proofs Go.RowKit
set_option linter.all false
set_option maxRecDepth 100000
def yF (e:Int):PanicEntry:={ v:=.iface 82 (.agg #[.int .i64 e]),recovered:=false }
theorem OM {e:Int} (he:e ≠ 0) (x:Value) (w:World) :
  Calls prog 16 #[x,.int .i64 e] w λ r w'=>r=.panicked [yF e] /\ Below w.heap.size w w':=by
 go_enter_defers Tryz.func16,Tryz.ntmps16
 go_wp2
 exact ⟨rfl,Below.refl _ _⟩
theorem JW {n:Nat} {w:World} (h:n <= w.heap.size) (o:Obj):Below n w (w.alloc o):=⟨rfl,rfl,rfl,by simp,λ k hk=>Below.heap_alloc _ _ _ (by omega)⟩
theorem ON {e:Int} (he:e ≠ 0) (cs:Array Value) (w:World) :
  Calls prog 18 #[.agg cs,.int .i64 e] w λ r w'=>r=.panicked [yF e] /\ Below w.heap.size w w':=by
 go_enter_defers Tryz.func18,Tryz.ntmps18
 go_wp2
 exact ⟨rfl,(JW (bV _) _).trans (JW (by simp) _)⟩
theorem Rg (p:Value) (w:World) :
  CallsD prog 15 #[p] .returning w λ e u' w'=>e=.returned (.tuple #[]) /\ u'=.returning /\ w'=w:=by
 refine callsD_of_wpS Tryz.func15 rfl λ c₀ cs hu=>?_;apply wpS_seq;apply wpS_region;simp [wpOpsS,go_sem,recoverD,hu,Tryz.ntmps15,Exit.thenS];refine wpS_of_wp ?_;simp only [Array.replicate]
 go_wp2
 cases c₀
 simp_all [bodyPostS,results,Tryz.results15]
theorem Rh (b:Nat) (e:Int) (w:World) {v:Value} (h:w.cell? ⟨b,0,none⟩=some v) (hp:b < w.heap.size) (hfz:w.frozen? ⟨b,0,none⟩=false) :
  CallsD prog 15 #[.pointer (some ⟨b,0,none⟩)] (.panicking [yF e]) w λ r u' w'=>r=.returned (.tuple #[]) /\ u'=.panicking [{ yF e with recovered:=true }] /\ ∃ o,w'=(w.setCell ⟨b,0,none⟩ (.int .i64 e)).alloc o:=by
 have hta:∀ w:World,(Instr.typeAssert (.iface 82 (.agg #[.int .i64 e])) 20 82 true).run prog w=.ok (.tuple #[.agg #[.int .i64 e],.bool true]) w:=λ _=>by kernel_rfl
 refine callsD_of_wpS Tryz.func15 rfl λ c₀ cs hu=>?_;apply wpS_seq;apply wpS_region;simp [wpOpsS,go_sem,recoverD,hu,Tryz.ntmps15,Exit.thenS,yF];refine wpS_of_wp ?_;simp only [Array.replicate]
 go_wp2
 exact ⟨rfl,_,rfl,_,by simp [results,Tryz.results15],rfl,rfl,_,rfl⟩
open Go Go.Proofs
def aUL:Summ where
 T:=List Int
 run:=λ
  | [.c (.s (.pl (.str s)))]=>cond (Nat.beq s.length 32) (some (s.map lP)) none
  | _=>none
 enc:=lR
def Ke:FA (List Int):=aUL.run
def aYr:Summ:={ T:=Str,run:=vV λ a=>a.map b8,enc:=λ t=>.str t }
def aYs:FA Str:=aYr.run
def UY:Summ where
 T:=Str
 run:=λ
  | [.c (.s (.pl (.str s))),.c (.s (.pl (.int .i64 e)))]=>cond (decide (e=0)) (some s) none
  | _=>none
 enc:=λ t=>.str t
def yG:FA Str:=UY.run
def UZ:Summ where
 T:=List Int
 run:=λ
  | [.c (.s (.pl (.agg (.ints .u8 a) 32))),.c (.s (.pl (.int .i64 e)))]=>cond (fR a && decide (e=0)) (some a) none
  | _=>none
 enc:=lR
def aFJ:FA (List Int):=UZ.run
def aFK:List SV->Option (List Int)
 | .pl (.str _) :: .pl (.str _) :: .pl (.str _) :: r=>match Sf (r.take 8),L6 (r.drop 8) with
  | some o,some p=>cond (Nat.beq o.length 8 && fR p) (some p) none
  | _,_=>none
 | _=>none
def aAf (p:List Int) (t:List Int × Int):(Str × Str) × Int:=cond (decide (t.2=0)) ((t.1.map b8,p.map b8),0) (([],[]),t.2)
def JX (p:List Int) (k:Nat) (s:Str):(Str × Str) × Int:=cond (Nat.beq s.length 32) (aAf p (oO k (s.map lP))) (([],[]),4)
def AS:Summ where
 T:=(Str × Str) × Int
 run:=λ
  | [.c (.mix l),.c (.s (.pl (.agg (.ints .u64 k) 8))),.c (.s (.pl (.agg (.strs [s]) 1)))]=>match aFK l with
   | some p=>cond (jO k && Nat.ble s.length 1099511627776) (some (JX p (val k) s)) none
   | none=>none
  | _=>none
 enc:=λ t=>.tup [.s (.pl (.agg (.strs [t.1.1,t.1.2]) 2)),.s (.pl (.int .i64 t.2))]
def aFL:FA ((Str × Str) × Int):=AS.run
def aFM:Summ where
 T:=List Int
 run:=λ
  | [.c (.s (.pl (.str s)))]=>cond (Nat.beq s.length 32) (some (s.map lP)) none
  | _=>none
 enc:=lR
def aPm:FA (List Int):=aFM.run
theorem Lj {α:Type} (l:List α) (i:Nat) (h:i < l.length) (d:α):l.drop i=l.getD i d :: l.drop (i+1):=by
 rw [Cx h,fU,oD h]; rfl
theorem aMf {l:List Int} {n:Nat} (h:aHU l n=true):n=l.length /\ l.length <= 1048576 /\ ∀ x ∈ l,-9223372036854775808 <= x /\ x < 9223372036854775808:=by
 simp only [aHU,aX] at h;exact ⟨aS h.1.1,cF h.1.2,λ x hx=>jN (rG.1 h.2 x hx)⟩
theorem aMg {l:List Str} {n:Nat} (h:VE l n=true):n=l.length /\ l.length <= 1048576 /\ l.flatten.length <= 1099511627776:=by
 simp only [VE,aX] at h;exact ⟨aS h.1.1,cF h.1.2,cF h.2⟩
theorem aAg {ss:List Str} (h1:ss.length <= 1048576) (h2:ss.flatten.length <= 1099511627776):zU [.s (.dat (.strs ss) ss.length 1),.str []]=some ss.flatten:=by
 have e:(Nat.beq ss.length ss.length && Nat.ble ss.length y5 && Nat.ble (Lib.join ss []).length y5)=true:=by
  rw [A8,lB,iX (cK h1 (by decide)),iX (cK h2 (by decide))]; rfl
 simp only [zU,QB];rw [e,aB,A8]
noncomputable abbrev Xn:Cg:=J5 (List UInt8) zU (λ t=>t)
theorem aFN:CfOk prog Xn.c:=gk <| aA Me <| aK
theorem aMh (a:List Int) (b:List Str) (hl:a.length=b.length) (h1:b.length <= 1048576) (h2:b.flatten.length <= 1099511627776) (fu:Nat):∀ (d n i:Nat),i+d=a.length->d < n ->
  eS prog Xn fu PC (Hi _ zU (λ t=>t) fu) n (some (Hh b b.length a a.length (a.length:Int) (i:Int)))=some (Fl.enc (cond (aAV (a.drop i) (b.drop i)) (b.flatten,0) ([],4))):=by
 intro d
 induction d with
 | zero=>
  intro n i hi hn;obtain ⟨n,rfl⟩:=aP (by omega:n ≠ 0);rw [aF,Yc,aH (by omega),aD,aR,aAW,aAg h1 h2,aC,Fu (by omega)]; rfl
 | succ d ih=>
  intro n i hi hn;obtain ⟨n,rfl⟩:=aP (by omega:n ≠ 0);have h:=ih n (i+1) (by omega) (by omega);rw [Lj a i (by omega) 0,Lj b i (by omega) [],aAV,aF,Yc,aE (by omega),aB,aE (by omega),aB,aE (by omega),aB,bE];by_cases c:(((b.getD i []).length:Nat):Int)=a.getD i 0
  ·rw [aE c,jW,aD,jX,bY (by omega) (by omega)];exact h
  ·rw [aH c,lL,aB,pC,aR,aHV]; rfl
theorem Ri:CallOk prog 33 Fl:=by
 refine aZ (fu:=λ args=>match args with | .c (.s (.dat _ n _)) :: _=>n+1 | _=>0) aFN Tryz.func33 ?_;intro args t ht;unfold Fl at ht;simp only at ht;split at ht
 ·rename_i l n ps m;obtain ⟨h1,h2⟩:=cC ht;subst h2;rw [aX] at h1;obtain ⟨e1,e2,e3⟩:=aMf h1.1;obtain ⟨f1,f2,f3⟩:=aMg h1.2;subst e1 f1;refine (aNN ..).trans ?_;rw [CN];by_cases c:l.length=ps.length
  ·rw [aE (by omega),jW,aD,show Nat.beq l.length ps.length=true by rw [c]; exact lB _,aB];exact aMh l ps c f2 f3 _ l.length _ 0 (by omega) (lD _)
  ·rw [aH (by omega),lL,aB,show Nat.beq l.length ps.length=false from iP c]; rfl
 ·cases ht
theorem aAh {l:List Int} {ps:List Str} {n m:Nat} (h1:aHU l n=true) (h2:VE ps m=true):VF [.s (.dat (.ints .i64 l) n 1),.s (.dat (.strs ps) m 1)]=some (CN l ps):=by
 have e:(aHU l n && VE ps m)=true:=by rw [h1,h2]; rfl
 simp only [VF,Fl,e,aB]
theorem aMi {l:List Str} {n:Nat} (h1:n=l.length) (h2:l.length <= 1048576) (h3:l.flatten.length <= 1099511627776):VE l n=true:=by
 subst h1;rw [VE,lB,iX h2,iX h3]; rfl
noncomputable abbrev aUM:Cg:=aQb 
theorem aMj:CfOk prog aUM.c:=gk <| aK
theorem aUN:CallOk prog 34 aZA:=by
 refine i4 aMj Tryz.func34 ?_;intro args t ht;unfold aZA VG at ht;simp only at ht;split at ht
 ·cases ht; exact aWV ..
 ·cases ht
noncomputable abbrev aUO:Cg:=aQc (PUnit) aZB (Str × Int) VF (λ t=>t.fst) (λ t=>t.snd)
theorem aMk:CfOk prog aUO.c:=gk <| aA aUN <| aA Ri <| aK
theorem aMl {ss:List Str} (h:ss.length=1) (h2:ss.flatten.length <= 1099511627776):PB [.agg (.strs ss) 1]=some (CN [32] ss):=by
 have e:(Nat.beq 1 1 && Nat.beq ss.length 1 && Nat.ble ss.flatten.length 1099511627776)=true:=by rw [h,iX h2]; rfl
 simp only [PB,PA,e,aB]
theorem aFO:CallOk prog 17 aZz:=by
 refine i4 aMk Tryz.func17 ?_;intro args t ht;unfold aZz aZy at ht;simp only [PA] at ht;split at ht
 ·rename_i ss n;obtain ⟨h1,h2⟩:=cC ht;subst h2;simp only [aX] at h1;have e1:=aS h1.1.1;have e2:=aS h1.1.2;have e3:=cF h1.2;subst e1
  match ss,e2 with
  | [a],_=>
   refine (aWW ..).trans ?_;rw [show aZB []=some () from rfl,aC];have r:=aAh (l:=[32]) (ps:=[a]) (n:=1) (m:=1) (by decide) (aMi rfl (by simp) e3);refine iR (dQ (λ z=>Option.bind z _) r) ?_;rfl
 ·cases ht
noncomputable def aPn:Cg:=⟨⟨dD [],[],dS⟩,[]⟩
theorem aUP (fu:Nat) (s:Str):bB prog Tryz.f20 aPn fu [.str s]=bif (List.length s).beq 32 && true then some (AV.agg (.ints .u8 (List.map (λ (c:UInt8)=>(c.toNat:Int)) s)) 32) else none:=by kernel_rfl
noncomputable def aPo:Cg:=⟨⟨dD [],[],dS⟩,[]⟩
theorem aUQ (fu:Nat) (a:List Int):bB prog Tryz.f21 aPo fu [.agg (.ints .u8 a) 32]=some (AV.str (List.map b8 (List.take 32 (List.drop 0 a)))):=by kernel_rfl
noncomputable def aPp:Cg:=⟨⟨dD [],[],dS⟩,[]⟩
theorem aUR (fu:Nat) (s:Str):bB prog Tryz.f16 aPp fu [.str s,.int .i64 0]=some (AV.str s):=by kernel_rfl
noncomputable def aPq:Cg:=⟨⟨dD [],[],dS⟩,[]⟩
theorem aUS (fu:Nat) (a:List Int):bB prog Tryz.f18 aPq fu [.agg (.ints .u8 a) 32,.int .i64 0]=some (AV.agg (.ints .u8 a) 32):=by kernel_rfl
noncomputable def Rj:Cg:=⟨⟨dD [],[],dS⟩,[(4,[0,2,3,4],[2,3])]⟩
noncomputable def OO (s0:Str) (v4:Int) (aQ bA:List Int):St:={ tm:=[(0,.str s0),(2,.s (.ptr 0 0 32)),(3,.s (.ptr 1 0 32)),(4,.int .i64 v4)],hp:=[(0,{ ty:=23,n:=32,row:=Row.t (.ints .u8 aQ) }),(1,{ ty:=23,n:=32,row:=Row.t (.ints .u8 bA) })],nx:=2,sz:=21 }
noncomputable def Ua:Code:=cM (bN [1,1,0,1,2] (bD Tryz.f10))
noncomputable def aFP (fu:Nat):=lO prog Rj fu [1,1,0,1,2] (bD Tryz.f10) (fQ prog Tryz.f10)
noncomputable abbrev aUT (fu:Nat) (s0:Str) (v4:Int) (aQ bA:List Int):=eS prog Rj fu Ua (aFP fu ) fu (some (OO s0 v4 aQ bA))
theorem aUU (fu:Nat) (s:Str):bB prog Tryz.f10 Rj fu [.str s]=aUT fu s 0 [0,0,0,0,0,0,0,0,0,0,0,0,0,0,0,0,0,0,0,0,0,0,0,0,0,0,0,0,0,0,0,0] [0,0,0,0,0,0,0,0,0,0,0,0,0,0,0,0,0,0,0,0,0,0,0,0,0,0,0,0,0,0,0,0]:=by kernel_rfl
noncomputable def EH (aQ bA:List Int):St:={ tm:=[(2,.s (.ptr 0 0 32)),(3,.s (.ptr 1 0 32))],hp:=[(0,{ ty:=23,n:=32,row:=Row.t (.ints .u8 aQ) }),(1,{ ty:=23,n:=32,row:=Row.t (.ints .u8 bA) })],nx:=2,sz:=21 }
theorem aFQ {β:Type} (fu:Nat) (G:FG β) (H:FH β) (s0:Str) (v4:Int) (aQ bA:List Int):fI prog Rj fu Ua G H (OO s0 v4 aQ bA)=bif decide (v4 < 32) then bif decide (v4 < (↑(List.length s0):Int)) then bif decide (0 <= v4 /\ v4 < (↑(List.length s0):Int)) then bif decide (0 <= v4 /\ v4 < 32) then G (some (OO s0 (i64.wrap (v4+1)) aQ (bA.set (0+v4.toNat) (↑(List.getD s0 v4.toNat (0:UInt8)).toNat:Int)))) else none else none else H (Ex.exit 0) (some (EH aQ bA)) else H (Ex.exit 0) (some (EH aQ bA)):=by kernel_rfl
theorem aFR (fu:Nat) (aQ bA:List Int):aFP fu  (Ex.exit 0) (EH aQ bA)=some (AV.agg (.ints .u8 bA) 32):=by kernel_rfl
section
variable (T0:Type) (R0:FA T0) (T1:Type) (R1:FA T1) (aN bI gV gW iL f1f f1g f1h:T1->Int) (T2:Type) (R2:FA T2) (bC bW:T2->List UInt8) (dW:T2->Int) (T3:Type) (R3:FA T3) (bO:T3->List Int) (cI:T3->Nat) (T4:Type) (R4:FA T4) (eV:T4->List Int) (jS:T4->Nat) (T5:Type) (R5:FA T5) (fW:T5->List Int) (T6:Type) (R6:FA T6) (oH:T6->Str) (oI:T6->Int) (T7:Type) (R7:FA T7) (xB:T7->List UInt8)
noncomputable def aPr:Cg:=⟨⟨dD [(4,⟨R0,λ t=>AV.bool (true)⟩),(6,⟨R1,λ t=>aU [(aN t),(bI t),(gV t),(gW t),(iL t),(f1f t),(f1g t),(f1h t)] 8⟩),(5,⟨R2,λ t=>AV.tup [.s (.pl (.agg (.strs [(bC t),(bW t)]) 2)),.s (.pl (.int .i64 (dW t)))]⟩),(9,⟨R3,λ t=>AV.s (dI (bO t) (cI t))⟩),(8,⟨R4,λ t=>AV.s (dI (eV t) (jS t))⟩),(10,⟨R5,λ t=>AV.agg (.ints .u8 (fW t)) 32⟩),(7,⟨R6,λ t=>AV.tup [.s (.pl (.str (oH t))),.s (.pl (.int .i64 (oI t)))]⟩),(11,⟨R7,λ t=>AV.str (xB t)⟩)],[],dS⟩,[]⟩
theorem aUV (fu:Nat) (p0 p1 p2 p3 p4 p5 p6 p7 p8 p9 p10 p11 p12 p13 p14 p15 p16 p17 p18 p19 p20 p21 p22 p23 p24 p25 p26 p27 p28 p29 p30 p31:Int) (k:List Int) (s:Str):bB prog i3 (aPr T0 R0 T1 R1 aN bI gV gW iL f1f f1g f1h T2 R2 bC bW dW T3 R3 bO cI T4 R4 eV jS T5 R5 fW T6 R6 oH oI T7 R7 xB) fu [.agg (.ints .u8 [p0,p1,p2,p3,p4,p5,p6,p7,p8,p9,p10,p11,p12,p13,p14,p15,p16,p17,p18,p19,p20,p21,p22,p23,p24,p25,p26,p27,p28,p29,p30,p31]) 32,.agg (.ints .u8 k) 32,.str s]=(R0 []).bind λ t=>bif decide (200 < (↑(List.length s):Int)) then some (AV.bool true) else (R1 [.agg (.ints .u8 k) 32]).bind λ t=>(R2 [.c (.mix [.pl (.str []),.pl (.str []),.pl (.str []),.pl (.int .u64 0),.pl (.int .u64 0),.pl (.int .u64 0),.pl (.int .u64 0),.pl (.int .u64 0),.pl (.int .u64 0),.pl (.int .u64 0),.pl (.int .u64 0),.pl (.int .u8 p0),.pl (.int .u8 p1),.pl (.int .u8 p2),.pl (.int .u8 p3),.pl (.int .u8 p4),.pl (.int .u8 p5),.pl (.int .u8 p6),.pl (.int .u8 p7),.pl (.int .u8 p8),.pl (.int .u8 p9),.pl (.int .u8 p10),.pl (.int .u8 p11),.pl (.int .u8 p12),.pl (.int .u8 p13),.pl (.int .u8 p14),.pl (.int .u8 p15),.pl (.int .u8 p16),.pl (.int .u8 p17),.pl (.int .u8 p18),.pl (.int .u8 p19),.pl (.int .u8 p20),.pl (.int .u8 p21),.pl (.int .u8 p22),.pl (.int .u8 p23),.pl (.int .u8 p24),.pl (.int .u8 p25),.pl (.int .u8 p26),.pl (.int .u8 p27),.pl (.int .u8 p28),.pl (.int .u8 p29),.pl (.int .u8 p30),.pl (.int .u8 p31)]),aU [aN t,bI t,gV t,gW t,iL t,f1f t,f1g t,f1h t] 8,.agg (.strs [s]) 1]).bind λ t=>bif !decide ((↑(List.length s):Int)=32) then bif decide (dW t=4) then some (AV.bool (decide (bC t=[]) && (decide (bW t=[]) && true))) else some (AV.bool false) else (R3 [.agg (.ints .u8 k) 32]).bind λ dH=>(R4 [.s (dI (bO dH) (cI dH))]).bind λ eU=>(R5 [.str s]).bind λ gF=>(R6 [.s (dI (eV eU) (jS eU)),.agg (.ints .u8 (fW gF)) 32]).bind λ gT=>bif !decide (oI gT=0) then bif decide (dW t=oI gT) then some (AV.bool (decide (bC t=[]) && (decide (bW t=[]) && true))) else some (AV.bool false) else bif decide (dW t=0) then (R7 [.agg (.ints .u8 [p0,p1,p2,p3,p4,p5,p6,p7,p8,p9,p10,p11,p12,p13,p14,p15,p16,p17,p18,p19,p20,p21,p22,p23,p24,p25,p26,p27,p28,p29,p30,p31]) 32]).bind λ gJ=>some (AV.bool (decide (bC t=oH gT) && (decide (bW t=xB gJ) && true))) else some (AV.bool false):=by kernel_rfl
end
set_option maxRecDepth 4000
noncomputable abbrev aUW:Cg:=aPn 
theorem aMm:CfOk prog aUW.c:=gk <| aK
theorem aFS:CallOk prog 20 aUL:=by
 refine i4 aMm Tryz.func20 ?_;intro args t ht;unfold aUL at ht;simp only at ht;split at ht
 ·rename_i s;obtain ⟨h1,h2⟩:=cC ht;subst h2;refine (aUP ..).trans ?_;rw [h1]; rfl
 ·cases ht
theorem Xo {s:Str} (h:s.length=32):Ke [.str s]=some (s.map lP):=by
 show cond (Nat.beq s.length 32) (some (s.map lP)) none=_;rw [h]; rfl
noncomputable abbrev aUX:Cg:=aPo 
theorem aMn:CfOk prog aUX.c:=gk <| aK
theorem aUY:CallOk prog 21 aYr:=by
 refine i4 aMn Tryz.func21 ?_;intro args t ht;obtain ⟨a,rfl,ha,rfl⟩:=nG (F:=λ a=>a.map b8) ht;refine (aUQ ..).trans ?_;rw [kU,fB (by rw [(j3 ha).1]; exact bV _)]; rfl
theorem OP {a:List Int} (h:fR a=true):aYs [lR a]=some (a.map b8):=xM (λ a=>a.map b8) h
noncomputable abbrev aUZ:Cg:=aPp 
theorem aMo:CfOk prog aUZ.c:=gk <| aK
theorem Rk:CallOk prog 16 UY:=by
 refine i4 aMo Tryz.func16 ?_;intro args t ht;unfold UY at ht;simp only at ht;split at ht
 ·rename_i s e;obtain ⟨h1,h2⟩:=cC ht;subst h2;have h1:=jN h1;subst h1;exact aUR ..
 ·cases ht
noncomputable abbrev aU0:Cg:=aPq 
theorem aMp:CfOk prog aU0.c:=gk <| aK
theorem aFT:CallOk prog 18 UZ:=by
 refine i4 aMp Tryz.func18 ?_;intro args t ht;unfold UZ at ht;simp only at ht;split at ht
 ·rename_i a e;obtain ⟨h1,h2⟩:=cC ht;subst h2;rw [aX] at h1;have h1:=jN h1.2;subst h1;exact aUS ..
 ·cases ht
theorem aAi {a:List Int} (h:fR a=true):aFJ [lR a,.int .i64 0]=some a:=by
 show cond (fR a && decide ((0:Int)=0)) (some a) none=_;rw [h]; rfl
noncomputable abbrev aFU:Cg:=Rj 
theorem aMq:CfOk prog aFU.c:=gk <| aK
theorem aU1 (s:Str) (i:Nat) (h:i < s.length):(s.map lP).getD i 0=((s.getD i 0).toNat:Int):=by
 rw [fU,fU,kV,oD h]; rfl
theorem aMr {s:Str} (hs:s.length=32) (z:List Int) (fu:Nat) (K:Ex->St->Option AV):∀ (d n i:Nat),i+d=32->d < n ->
  eS prog aFU fu Ua K n (some (OO s (i:Int) z ((s.map lP).take i++List.replicate (32 - i) 0)))=zL K (.exit 0) (some (EH z (s.map lP))):=by
 have hl:(s.map lP).length=32:=by rw [iA,hs]
 intro d
 induction d with
 | zero=>
  intro n i hi hn;obtain ⟨n,rfl⟩:=aP (by omega:n ≠ 0);have e:i=32:=by omega
  subst e;rw [aF,aFQ,aH (by omega),aD,i0,uQ,i8,fB (by omega)]
 | succ d ih=>
  intro n i hi hn;obtain ⟨n,rfl⟩:=aP (by omega:n ≠ 0);have h:=ih n (i+1) (by omega) (by omega);have w1:i64.wrap ((i:Int)+1)=((i+1:Nat):Int):=bY (by omega) (by omega);rw [aF,aFQ,aE (by omega),aB,aE (by omega),aB,aE (by omega),aB,aE (by omega),aB,w1,bE,bS,<-aU1 s i (by omega),Wj (s.map lP) 32 i hl (by omega)];exact h
theorem aMs:CallOk prog 10 aFM:=by
 refine aZ (fu:=λ _=>40) aMq Tryz.func10 ?_;intro args t ht;unfold aFM at ht;simp only at ht;split at ht
 ·rename_i s;obtain ⟨h1,h2⟩:=cC ht;subst h2;have h1:=aS h1;refine (aUU ..).trans ?_;refine (aMr h1 _ 40 _ 32 40 0 rfl (by decide)).trans ?_;rw [aR];exact aFR ..
 ·cases ht
theorem aFV {s:Str} (h:s.length=32):aPm [.str s]=some (s.map lP):=by
 show cond (Nat.beq s.length 32) (some (s.map lP)) none=_;rw [h]; rfl
theorem JY (s:Str) (h:s.length=32):fR (s.map lP)=true:=by
 unfold fR;rw [iA,h,aX];exact ⟨rfl,HX s⟩
set_option maxRecDepth 4000
noncomputable section
def svK:Ex->St->Option St:=λ e s=>match e with
 | .normal=>some s
 | _=>none
def aMt (o:Option St):St:=match o with
 | some s=>s
 | none=>⟨[],[],0,0⟩
def sB (p:List Nat):Code:=bN p (bD Tryz.f5)
def aYt:Code->Array Oper
 | .region _ ops _=>ops
 | _=>#[]
def OQ (p:List Nat):Array Oper:=aYt (sB p)
def gRz:Cg:=⟨⟨dD [],[],dS⟩,[]⟩
section
variable (x0 x1 x2:Str) (o0 o1 o2 o3 o4 o5 o6 o7 p0 p1 p2 p3 p4 p5 p6 p7 p8 p9 p10 p11 p12 p13 p14 p15 p16 p17 p18 p19 p20 p21 p22 p23 p24 p25 p26 p27 p28 p29 p30 p31:Int) (k:List Int) (s:Str)
def sv0:St:=⟨vN [.c (.mix [.pl (.str x0),.pl (.str x1),.pl (.str x2),.pl (.int .u64 o0),.pl (.int .u64 o1),.pl (.int .u64 o2),.pl (.int .u64 o3),.pl (.int .u64 o4),.pl (.int .u64 o5),.pl (.int .u64 o6),.pl (.int .u64 o7),.pl (.int .u8 p0),.pl (.int .u8 p1),.pl (.int .u8 p2),.pl (.int .u8 p3),.pl (.int .u8 p4),.pl (.int .u8 p5),.pl (.int .u8 p6),.pl (.int .u8 p7),.pl (.int .u8 p8),.pl (.int .u8 p9),.pl (.int .u8 p10),.pl (.int .u8 p11),.pl (.int .u8 p12),.pl (.int .u8 p13),.pl (.int .u8 p14),.pl (.int .u8 p15),.pl (.int .u8 p16),.pl (.int .u8 p17),.pl (.int .u8 p18),.pl (.int .u8 p19),.pl (.int .u8 p20),.pl (.int .u8 p21),.pl (.int .u8 p22),.pl (.int .u8 p23),.pl (.int .u8 p24),.pl (.int .u8 p25),.pl (.int .u8 p26),.pl (.int .u8 p27),.pl (.int .u8 p28),.pl (.int .u8 p29),.pl (.int .u8 p30),.pl (.int .u8 p31)]),.agg (.ints .u64 k) 8,.agg (.strs [s]) 1] 0,[],0,28⟩
def sv1:St:=aMt (fJ prog gRz 0 (sB [0]) (sv0 x0 x1 x2 o0 o1 o2 o3 o4 o5 o6 o7 p0 p1 p2 p3 p4 p5 p6 p7 p8 p9 p10 p11 p12 p13 p14 p15 p16 p17 p18 p19 p20 p21 p22 p23 p24 p25 p26 p27 p28 p29 p30 p31 k s) svK)
theorem aU2:fJ prog gRz 0 (sB [0]) (sv0 x0 x1 x2 o0 o1 o2 o3 o4 o5 o6 o7 p0 p1 p2 p3 p4 p5 p6 p7 p8 p9 p10 p11 p12 p13 p14 p15 p16 p17 p18 p19 p20 p21 p22 p23 p24 p25 p26 p27 p28 p29 p30 p31 k s) svK=some (sv1 x0 x1 x2 o0 o1 o2 o3 o4 o5 o6 o7 p0 p1 p2 p3 p4 p5 p6 p7 p8 p9 p10 p11 p12 p13 p14 p15 p16 p17 p18 p19 p20 p21 p22 p23 p24 p25 p26 p27 p28 p29 p30 p31 k s):=by kernel_rfl
theorem aYu:(sv1 x0 x1 x2 o0 o1 o2 o3 o4 o5 o6 o7 p0 p1 p2 p3 p4 p5 p6 p7 p8 p9 p10 p11 p12 p13 p14 p15 p16 p17 p18 p19 p20 p21 p22 p23 p24 p25 p26 p27 p28 p29 p30 p31 k s).get 7=.s (.ptr 4 0 1):=by kernel_rfl
theorem aFW:(sv1 x0 x1 x2 o0 o1 o2 o3 o4 o5 o6 o7 p0 p1 p2 p3 p4 p5 p6 p7 p8 p9 p10 p11 p12 p13 p14 p15 p16 p17 p18 p19 p20 p21 p22 p23 p24 p25 p26 p27 p28 p29 p30 p31 k s).sz=28:=by kernel_rfl
def sv2:St:=match sv1 x0 x1 x2 o0 o1 o2 o3 o4 o5 o6 o7 p0 p1 p2 p3 p4 p5 p6 p7 p8 p9 p10 p11 p12 p13 p14 p15 p16 p17 p18 p19 p20 p21 p22 p23 p24 p25 p26 p27 p28 p29 p30 p31 k s with
 | ⟨tm,hp,nx,sz⟩=>⟨(28,.s (.ptr 4 0 1)) :: tm,hp,nx,sz⟩
variable (T0:Type) (R0:FA T0) (aG:T0->Str) (aM:T0->Int) (T1:Type) (R1:FA T1) (aN:T1->Str) (T2:Type) (R2:FA T2) (bC:T2->List Int)
 (T3:Type) (R3:FA T3) (bO:T3->List Int) (cI:T3->Int) (T4:Type) (R4:FA T4) (eV:T4->List Int) (T5:Type) (R5:FA T5) (fW:T5->Str)
def gRg:Cg:=⟨⟨dD [(17,⟨R0,λ t=>.tup [.s (.pl (.str (aG t))),.s (.pl (.int .i64 (aM t)))]⟩),(16,⟨R1,λ t=>.str (aN t)⟩),(20,⟨R2,λ t=>.agg (.ints .u8 (bC t)) 32⟩),
 (19,⟨R3,λ t=>.tup [.s (.pl (.agg (.ints .u8 (bO t)) 32)),.s (.pl (.int .i64 (cI t)))]⟩),(18,⟨R4,λ t=>.agg (.ints .u8 (eV t)) 32⟩),(21,⟨R5,λ t=>.str (fW t)⟩)],[],dS⟩,[]⟩
def Ub:Cg:=⟨⟨dD [(17,⟨R0,λ t=>.tup [.s (.pl (.str (aG t))),.s (.pl (.int .i64 (aM t)))]⟩),(16,⟨R1,λ t=>.str (aN t)⟩),(20,⟨R2,λ t=>.agg (.ints .u8 (bC t)) 32⟩),
 (19,⟨R3,λ t=>.tup [.s (.pl (.agg (.ints .u8 (bO t)) 32)),.s (.pl (.int .i64 (cI t)))]⟩)],[],dS⟩,[]⟩
theorem aYv:fJ prog (gRg T0 R0 aG aM T1 R1 aN T2 R2 bC T3 R3 bO cI T4 R4 eV T5 R5 fW) 0 (sB [1,1]) (sv2 x0 x1 x2 o0 o1 o2 o3 o4 o5 o6 o7 p0 p1 p2 p3 p4 p5 p6 p7 p8 p9 p10 p11 p12 p13 p14 p15 p16 p17 p18 p19 p20 p21 p22 p23 p24 p25 p26 p27 p28 p29 p30 p31 k s) (fQ prog Tryz.f5) =
  (R0 [.agg (.strs [s]) 1]).bind λ t0=>(R1 [.str (aG t0),.int .i64 (aM t0)]).bind λ t1=>(R2 [.str s]).bind λ t2=>(R3 [.agg (.ints .u64 k) 8,.agg (.ints .u8 (bC t2)) 32]).bind λ t3=>
   (R4 [.agg (.ints .u8 (bO t3)) 32,.int .i64 (cI t3)]).bind λ t4=>(R5 [.agg (.ints .u8 (eV t4)) 32]).bind λ t5=>(R5 [.agg (.ints .u8 [p0,p1,p2,p3,p4,p5,p6,p7,p8,p9,p10,p11,p12,p13,p14,p15,p16,p17,p18,p19,p20,p21,p22,p23,p24,p25,p26,p27,p28,p29,p30,p31]) 32]).bind λ t6=>
    some (.tup [.s (.pl (.agg (.strs [fW t5,fW t6]) 2)),.s (.pl (.int .i64 0))]):=by kernel_rfl
def sv3 (t0:T0):St:=aMt (aAD prog (Ub T0 (λ _=>some t0) aG aM T1 R1 aN T2 R2 bC T3 R3 bO cI).c (OQ [1,1,0]) ((OQ [1,1,0]).toList.take 4) [] (sv2 x0 x1 x2 o0 o1 o2 o3 o4 o5 o6 o7 p0 p1 p2 p3 p4 p5 p6 p7 p8 p9 p10 p11 p12 p13 p14 p15 p16 p17 p18 p19 p20 p21 p22 p23 p24 p25 p26 p27 p28 p29 p30 p31 k s) some)
theorem bAk:aAD prog (Ub T0 R0 aG aM T1 R1 aN T2 R2 bC T3 R3 bO cI).c (OQ [1,1,0]) ((OQ [1,1,0]).toList.take 4) [] (sv2 x0 x1 x2 o0 o1 o2 o3 o4 o5 o6 o7 p0 p1 p2 p3 p4 p5 p6 p7 p8 p9 p10 p11 p12 p13 p14 p15 p16 p17 p18 p19 p20 p21 p22 p23 p24 p25 p26 p27 p28 p29 p30 p31 k s) some =
  (R0 [.agg (.strs [s]) 1]).bind λ t0=>some (sv3 x0 x1 x2 o0 o1 o2 o3 o4 o5 o6 o7 p0 p1 p2 p3 p4 p5 p6 p7 p8 p9 p10 p11 p12 p13 p14 p15 p16 p17 p18 p19 p20 p21 p22 p23 p24 p25 p26 p27 p28 p29 p30 p31 k s T0 aG aM T1 R1 aN T2 R2 bC T3 R3 bO cI t0):=by kernel_rfl
theorem aU3 (t0:T0):(sv3 x0 x1 x2 o0 o1 o2 o3 o4 o5 o6 o7 p0 p1 p2 p3 p4 p5 p6 p7 p8 p9 p10 p11 p12 p13 p14 p15 p16 p17 p18 p19 p20 p21 p22 p23 p24 p25 p26 p27 p28 p29 p30 p31 k s T0 aG aM T1 R1 aN T2 R2 bC T3 R3 bO cI t0).get 12=.int .i64 (aM t0):=by kernel_rfl
theorem aU4 (t0:T0):(sv3 x0 x1 x2 o0 o1 o2 o3 o4 o5 o6 o7 p0 p1 p2 p3 p4 p5 p6 p7 p8 p9 p10 p11 p12 p13 p14 p15 p16 p17 p18 p19 p20 p21 p22 p23 p24 p25 p26 p27 p28 p29 p30 p31 k s T0 aG aM T1 R1 aN T2 R2 bC T3 R3 bO cI t0).get 28=.s (.ptr 4 0 1):=by kernel_rfl
theorem aYw (t0:T0):(sv3 x0 x1 x2 o0 o1 o2 o3 o4 o5 o6 o7 p0 p1 p2 p3 p4 p5 p6 p7 p8 p9 p10 p11 p12 p13 p14 p15 p16 p17 p18 p19 p20 p21 p22 p23 p24 p25 p26 p27 p28 p29 p30 p31 k s T0 aG aM T1 R1 aN T2 R2 bC T3 R3 bO cI t0).get 6=.s (.ptr 3 0 2):=by kernel_rfl
theorem aYx (t0:T0):(sv3 x0 x1 x2 o0 o1 o2 o3 o4 o5 o6 o7 p0 p1 p2 p3 p4 p5 p6 p7 p8 p9 p10 p11 p12 p13 p14 p15 p16 p17 p18 p19 p20 p21 p22 p23 p24 p25 p26 p27 p28 p29 p30 p31 k s T0 aG aM T1 R1 aN T2 R2 bC T3 R3 bO cI t0).get 7=.s (.ptr 4 0 1):=by kernel_rfl
theorem aU5 (t0:T0):bT (sv3 x0 x1 x2 o0 o1 o2 o3 o4 o5 o6 o7 p0 p1 p2 p3 p4 p5 p6 p7 p8 p9 p10 p11 p12 p13 p14 p15 p16 p17 p18 p19 p20 p21 p22 p23 p24 p25 p26 p27 p28 p29 p30 p31 k s T0 aG aM T1 R1 aN T2 R2 bC T3 R3 bO cI t0).hp 3=some ⟨26,2,.t (.strs [[],[]])⟩:=by kernel_rfl
theorem aU6 (t0:T0):bT (sv3 x0 x1 x2 o0 o1 o2 o3 o4 o5 o6 o7 p0 p1 p2 p3 p4 p5 p6 p7 p8 p9 p10 p11 p12 p13 p14 p15 p16 p17 p18 p19 p20 p21 p22 p23 p24 p25 p26 p27 p28 p29 p30 p31 k s T0 aG aM T1 R1 aN T2 R2 bC T3 R3 bO cI t0).hp 4=some ⟨27,1,.t (.ints .i64 [0])⟩:=by kernel_rfl
def sv4 (t0:T0) (t1:T1):St:=aMt (fJ prog (Ub T0 (λ _=>some t0) aG aM T1 (λ _=>some t1) aN T2 R2 bC T3 R3 bO cI) 0 (sB [1,1,0]) (sv2 x0 x1 x2 o0 o1 o2 o3 o4 o5 o6 o7 p0 p1 p2 p3 p4 p5 p6 p7 p8 p9 p10 p11 p12 p13 p14 p15 p16 p17 p18 p19 p20 p21 p22 p23 p24 p25 p26 p27 p28 p29 p30 p31 k s) svK)
theorem bAl:fJ prog (Ub T0 R0 aG aM T1 R1 aN T2 R2 bC T3 R3 bO cI) 0 (sB [1,1,0]) (sv2 x0 x1 x2 o0 o1 o2 o3 o4 o5 o6 o7 p0 p1 p2 p3 p4 p5 p6 p7 p8 p9 p10 p11 p12 p13 p14 p15 p16 p17 p18 p19 p20 p21 p22 p23 p24 p25 p26 p27 p28 p29 p30 p31 k s) svK =
  (R0 [.agg (.strs [s]) 1]).bind λ t0=>(R1 [.str (aG t0),.int .i64 (aM t0)]).bind λ t1=>some (sv4 x0 x1 x2 o0 o1 o2 o3 o4 o5 o6 o7 p0 p1 p2 p3 p4 p5 p6 p7 p8 p9 p10 p11 p12 p13 p14 p15 p16 p17 p18 p19 p20 p21 p22 p23 p24 p25 p26 p27 p28 p29 p30 p31 k s T0 aG aM T1 aN T2 R2 bC T3 R3 bO cI t0 t1):=by kernel_rfl
theorem aU7 (t0:T0) (t1:T1):bT (sv4 x0 x1 x2 o0 o1 o2 o3 o4 o5 o6 o7 p0 p1 p2 p3 p4 p5 p6 p7 p8 p9 p10 p11 p12 p13 p14 p15 p16 p17 p18 p19 p20 p21 p22 p23 p24 p25 p26 p27 p28 p29 p30 p31 k s T0 aG aM T1 aN T2 R2 bC T3 R3 bO cI t0 t1).hp 3=some ⟨26,2,.t (.strs [[],[]])⟩:=by kernel_rfl
theorem aU8 (t0:T0) (t1:T1):bT (sv4 x0 x1 x2 o0 o1 o2 o3 o4 o5 o6 o7 p0 p1 p2 p3 p4 p5 p6 p7 p8 p9 p10 p11 p12 p13 p14 p15 p16 p17 p18 p19 p20 p21 p22 p23 p24 p25 p26 p27 p28 p29 p30 p31 k s T0 aG aM T1 aN T2 R2 bC T3 R3 bO cI t0 t1).hp 4=some ⟨27,1,.t (.ints .i64 [0])⟩:=by kernel_rfl
end
end
set_option maxRecDepth 4000
noncomputable section
section
variable (x0 x1 x2:Str) (o0 o1 o2 o3 o4 o5 o6 o7 p0 p1 p2 p3 p4 p5 p6 p7 p8 p9 p10 p11 p12 p13 p14 p15 p16 p17 p18 p19 p20 p21 p22 p23 p24 p25 p26 p27 p28 p29 p30 p31:Int) (k:List Int) (s:Str)
variable (T0:Type) (R0:FA T0) (aG:T0->Str) (aM:T0->Int) (T1:Type) (R1:FA T1) (aN:T1->Str) (T2:Type) (R2:FA T2) (bC:T2->List Int)
 (T3:Type) (R3:FA T3) (bO:T3->List Int) (cI:T3->Int)
def Sn:Cg:=⟨⟨dD [(17,⟨R0,λ t=>.tup [.s (.pl (.str (aG t))),.s (.pl (.int .i64 (aM t)))]⟩),(16,⟨R1,λ t=>.str (aN t)⟩),(20,⟨R2,λ t=>.agg (.ints .u8 (bC t)) 32⟩),
 (19,⟨R3,λ t=>.tup [.s (.pl (.agg (.ints .u8 (bO t)) 32)),.s (.pl (.int .i64 (cI t)))]⟩),(18,⟨λ _=>some (),λ _=>.agg (.ints .u8 [0,0,0,0,0,0,0,0,0,0,0,0,0,0,0,0,0,0,0,0,0,0,0,0,0,0,0,0,0,0,0,0]) 32⟩)],[],dS⟩,[]⟩
abbrev cX:Array Oper:=OQ [1,1,1,0]
def kQ:Oper:=cX.toList.getD 7 { dst:=none,op:=.alloc 0,type:=0,pos := "",after:=#[],guard:=none }
theorem aFX:cX[7]?=some kQ:=by kernel_rfl
theorem aU9:kQ.guard=none:=by kernel_rfl
theorem Xp:kQ.op=.call { callee:=.value (.func 18),args:=#[.tmp 19,.tmp 20],argTypes:=#[23,27] }:=by kernel_rfl
theorem Uc:kQ.looksAt cX=[19,20]:=by kernel_rfl
theorem aAj:FW (kQ.looksAt cX) (cX.toList.drop 7)=true:=by kernel_rfl
theorem aMx:sB [1,1,1,0]=.region 3 cX true:=by kernel_rfl
theorem aMy:(GP 6 cX.toList && GP 7 cX.toList && GP 28 cX.toList)=true:=by kernel_rfl
def sv5 (t0:T0) (t1:T1) (t2:T2) (t3:T3):St:=aMt (F0 prog (Sn T0 R0 aG aM T1 R1 aN T2 (λ _=>some t2) bC T3 (λ _=>some t3) bO cI).c.quiet cX cX.toList [] ((sv4 x0 x1 x2 o0 o1 o2 o3 o4 o5 o6 o7 p0 p1 p2 p3 p4 p5 p6 p7 p8 p9 p10 p11 p12 p13 p14 p15 p16 p17 p18 p19 p20 p21 p22 p23 p24 p25 p26 p27 p28 p29 p30 p31 k s T0 aG aM T1 aN T2 R2 bC T3 R3 bO cI t0 t1).lift (xC cX.toList)) [] λ s' F=>cond (F2 (Sn T0 R0 aG aM T1 R1 aN T2 (λ _=>some t2) bC T3 (λ _=>some t3) bO cI).c.quiet cX 0 cX.toList F (Pc cX) && Re (Sn T0 R0 aG aM T1 R1 aN T2 (λ _=>some t2) bC T3 (λ _=>some t3) bO cI).c.quiet [4,5] cX.toList F) (some s') none)
theorem bAn (t0:T0) (t1:T1):(F0 prog (Sn T0 R0 aG aM T1 R1 aN T2 R2 bC T3 R3 bO cI).c.quiet cX cX.toList [] ((sv4 x0 x1 x2 o0 o1 o2 o3 o4 o5 o6 o7 p0 p1 p2 p3 p4 p5 p6 p7 p8 p9 p10 p11 p12 p13 p14 p15 p16 p17 p18 p19 p20 p21 p22 p23 p24 p25 p26 p27 p28 p29 p30 p31 k s T0 aG aM T1 aN T2 R2 bC T3 R3 bO cI t0 t1).lift (xC cX.toList)) [] λ s' F=>cond (F2 (Sn T0 R0 aG aM T1 R1 aN T2 R2 bC T3 R3 bO cI).c.quiet cX 0 cX.toList F (Pc cX) && Re (Sn T0 R0 aG aM T1 R1 aN T2 R2 bC T3 R3 bO cI).c.quiet [4,5] cX.toList F) (some s') none) =
  (R2 [.str s]).bind λ t2=>(R3 [.agg (.ints .u64 k) 8,.agg (.ints .u8 (bC t2)) 32]).bind λ t3=>some (sv5 x0 x1 x2 o0 o1 o2 o3 o4 o5 o6 o7 p0 p1 p2 p3 p4 p5 p6 p7 p8 p9 p10 p11 p12 p13 p14 p15 p16 p17 p18 p19 p20 p21 p22 p23 p24 p25 p26 p27 p28 p29 p30 p31 k s T0 R0 aG aM T1 R1 aN T2 R2 bC T3 R3 bO cI t0 t1 t2 t3):=by kernel_rfl
theorem aVa (t0:T0) (t1:T1) (t2:T2) (t3:T3):(sv5 x0 x1 x2 o0 o1 o2 o3 o4 o5 o6 o7 p0 p1 p2 p3 p4 p5 p6 p7 p8 p9 p10 p11 p12 p13 p14 p15 p16 p17 p18 p19 p20 p21 p22 p23 p24 p25 p26 p27 p28 p29 p30 p31 k s T0 R0 aG aM T1 R1 aN T2 R2 bC T3 R3 bO cI t0 t1 t2 t3).get 19=.agg (.ints .u8 (bO t3)) 32:=by kernel_rfl
theorem aVb (t0:T0) (t1:T1) (t2:T2) (t3:T3):(sv5 x0 x1 x2 o0 o1 o2 o3 o4 o5 o6 o7 p0 p1 p2 p3 p4 p5 p6 p7 p8 p9 p10 p11 p12 p13 p14 p15 p16 p17 p18 p19 p20 p21 p22 p23 p24 p25 p26 p27 p28 p29 p30 p31 k s T0 R0 aG aM T1 R1 aN T2 R2 bC T3 R3 bO cI t0 t1 t2 t3).get 20=.int .i64 (cI t3):=by kernel_rfl
theorem aYy (t0:T0) (t1:T1):(sv4 x0 x1 x2 o0 o1 o2 o3 o4 o5 o6 o7 p0 p1 p2 p3 p4 p5 p6 p7 p8 p9 p10 p11 p12 p13 p14 p15 p16 p17 p18 p19 p20 p21 p22 p23 p24 p25 p26 p27 p28 p29 p30 p31 k s T0 aG aM T1 aN T2 R2 bC T3 R3 bO cI t0 t1).get 6=.s (.ptr 3 0 2):=by kernel_rfl
theorem aYz (t0:T0) (t1:T1):(sv4 x0 x1 x2 o0 o1 o2 o3 o4 o5 o6 o7 p0 p1 p2 p3 p4 p5 p6 p7 p8 p9 p10 p11 p12 p13 p14 p15 p16 p17 p18 p19 p20 p21 p22 p23 p24 p25 p26 p27 p28 p29 p30 p31 k s T0 aG aM T1 aN T2 R2 bC T3 R3 bO cI t0 t1).get 7=.s (.ptr 4 0 1):=by kernel_rfl
theorem aVc (t0:T0) (t1:T1):(sv4 x0 x1 x2 o0 o1 o2 o3 o4 o5 o6 o7 p0 p1 p2 p3 p4 p5 p6 p7 p8 p9 p10 p11 p12 p13 p14 p15 p16 p17 p18 p19 p20 p21 p22 p23 p24 p25 p26 p27 p28 p29 p30 p31 k s T0 aG aM T1 aN T2 R2 bC T3 R3 bO cI t0 t1).get 28=.s (.ptr 4 0 1):=by kernel_rfl
theorem aFY:cX.size=10:=by kernel_rfl
theorem aVd:cX[0]?=some (cX.toList.getD 0 kQ):=by kernel_rfl
theorem aVe (G:fE) (q:St):kS prog (Sn T0 R0 aG aM T1 R1 aN T2 R2 bC T3 R3 bO cI).c.quiet cX G (cX.toList.getD 0 kQ) q lI=kS prog (Ub T0 R0 aG aM T1 R1 aN T2 R2 bC T3 R3 bO cI).c.quiet cX G (cX.toList.getD 0 kQ) q lI:=by kernel_rfl
theorem aVf:cX[1]?=some (cX.toList.getD 1 kQ):=by kernel_rfl
theorem aVg (G:fE) (q:St):kS prog (Sn T0 R0 aG aM T1 R1 aN T2 R2 bC T3 R3 bO cI).c.quiet cX G (cX.toList.getD 1 kQ) q lI=kS prog (Ub T0 R0 aG aM T1 R1 aN T2 R2 bC T3 R3 bO cI).c.quiet cX G (cX.toList.getD 1 kQ) q lI:=by kernel_rfl
theorem aVh:cX[2]?=some (cX.toList.getD 2 kQ):=by kernel_rfl
theorem aVi (G:fE) (q:St):kS prog (Sn T0 R0 aG aM T1 R1 aN T2 R2 bC T3 R3 bO cI).c.quiet cX G (cX.toList.getD 2 kQ) q lI=kS prog (Ub T0 R0 aG aM T1 R1 aN T2 R2 bC T3 R3 bO cI).c.quiet cX G (cX.toList.getD 2 kQ) q lI:=by kernel_rfl
theorem aVj:cX[3]?=some (cX.toList.getD 3 kQ):=by kernel_rfl
theorem aVk (G:fE) (q:St):kS prog (Sn T0 R0 aG aM T1 R1 aN T2 R2 bC T3 R3 bO cI).c.quiet cX G (cX.toList.getD 3 kQ) q lI=kS prog (Ub T0 R0 aG aM T1 R1 aN T2 R2 bC T3 R3 bO cI).c.quiet cX G (cX.toList.getD 3 kQ) q lI:=by kernel_rfl
theorem aVl:cX[4]?=some (cX.toList.getD 4 kQ):=by kernel_rfl
theorem aVm (G:fE) (q:St):kS prog (Sn T0 R0 aG aM T1 R1 aN T2 R2 bC T3 R3 bO cI).c.quiet cX G (cX.toList.getD 4 kQ) q lI=kS prog (Ub T0 R0 aG aM T1 R1 aN T2 R2 bC T3 R3 bO cI).c.quiet cX G (cX.toList.getD 4 kQ) q lI:=by kernel_rfl
theorem aVn:cX[5]?=some (cX.toList.getD 5 kQ):=by kernel_rfl
theorem aVo (G:fE) (q:St):kS prog (Sn T0 R0 aG aM T1 R1 aN T2 R2 bC T3 R3 bO cI).c.quiet cX G (cX.toList.getD 5 kQ) q lI=kS prog (Ub T0 R0 aG aM T1 R1 aN T2 R2 bC T3 R3 bO cI).c.quiet cX G (cX.toList.getD 5 kQ) q lI:=by kernel_rfl
theorem aVp:cX[6]?=some (cX.toList.getD 6 kQ):=by kernel_rfl
theorem aVq (G:fE) (q:St):kS prog (Sn T0 R0 aG aM T1 R1 aN T2 R2 bC T3 R3 bO cI).c.quiet cX G (cX.toList.getD 6 kQ) q lI=kS prog (Ub T0 R0 aG aM T1 R1 aN T2 R2 bC T3 R3 bO cI).c.quiet cX G (cX.toList.getD 6 kQ) q lI:=by kernel_rfl
theorem aVr:cX[8]?=some (cX.toList.getD 8 kQ):=by kernel_rfl
theorem aVs (G:fE) (q:St):kS prog (Sn T0 R0 aG aM T1 R1 aN T2 R2 bC T3 R3 bO cI).c.quiet cX G (cX.toList.getD 8 kQ) q lI=kS prog (Ub T0 R0 aG aM T1 R1 aN T2 R2 bC T3 R3 bO cI).c.quiet cX G (cX.toList.getD 8 kQ) q lI:=by kernel_rfl
theorem aVt:cX[9]?=some (cX.toList.getD 9 kQ):=by kernel_rfl
theorem aVu (G:fE) (q:St):kS prog (Sn T0 R0 aG aM T1 R1 aN T2 R2 bC T3 R3 bO cI).c.quiet cX G (cX.toList.getD 9 kQ) q lI=kS prog (Ub T0 R0 aG aM T1 R1 aN T2 R2 bC T3 R3 bO cI).c.quiet cX G (cX.toList.getD 9 kQ) q lI:=by kernel_rfl
theorem bAo:∀ (i:Nat) (o:Oper),cX[i]?=some o->i ≠ 7->∀ G q,kS prog (Sn T0 R0 aG aM T1 R1 aN T2 R2 bC T3 R3 bO cI).c.quiet cX G o q lI=kS prog (Ub T0 R0 aG aM T1 R1 aN T2 R2 bC T3 R3 bO cI).c.quiet cX G o q lI:=by
 intro i o ho hi G q;have hlt:=(uP.1 ho).1;rw [aFY] at hlt
 match i,hlt,hi,ho with
 | 0,_,_,ho=>rw [dG (ho.symm.trans aVd)]; exact aVe T0 R0 aG aM T1 R1 aN T2 R2 bC T3 R3 bO cI G q
 | 1,_,_,ho=>rw [dG (ho.symm.trans aVf)]; exact aVg T0 R0 aG aM T1 R1 aN T2 R2 bC T3 R3 bO cI G q
 | 2,_,_,ho=>rw [dG (ho.symm.trans aVh)]; exact aVi T0 R0 aG aM T1 R1 aN T2 R2 bC T3 R3 bO cI G q
 | 3,_,_,ho=>rw [dG (ho.symm.trans aVj)]; exact aVk T0 R0 aG aM T1 R1 aN T2 R2 bC T3 R3 bO cI G q
 | 4,_,_,ho=>rw [dG (ho.symm.trans aVl)]; exact aVm T0 R0 aG aM T1 R1 aN T2 R2 bC T3 R3 bO cI G q
 | 5,_,_,ho=>rw [dG (ho.symm.trans aVn)]; exact aVo T0 R0 aG aM T1 R1 aN T2 R2 bC T3 R3 bO cI G q
 | 6,_,_,ho=>rw [dG (ho.symm.trans aVp)]; exact aVq T0 R0 aG aM T1 R1 aN T2 R2 bC T3 R3 bO cI G q
 | 8,_,_,ho=>rw [dG (ho.symm.trans aVr)]; exact aVs T0 R0 aG aM T1 R1 aN T2 R2 bC T3 R3 bO cI G q
 | 9,_,_,ho=>rw [dG (ho.symm.trans aVt)]; exact aVu T0 R0 aG aM T1 R1 aN T2 R2 bC T3 R3 bO cI G q
end
end
set_option maxRecDepth 4000
section
variable {B:Bs} {w0 w w':World} {ρ:Plc} {s:St} {a:Act}
theorem Rel.defer (h:Rel B w0 ρ s a w) (he:B.ext=[]) (d:Deferred) {x:AV} {v:Value} (hx:AVR w ρ x v) (hr:∀ id ∈ x.refs,Liv s id) :
  Rel ⟨B.n,B.X,[v],B.M,d :: B.ds⟩ w0 ρ ⟨(s.sz,x) :: s.tm,s.hp,s.nx,s.sz⟩ { a with defers:=d :: a.defers } w:=by
 have hg:∀ t,(⟨(s.sz,x) :: s.tm,s.hp,s.nx,s.sz⟩:St).get t=if t=s.sz then x else s.get t:=by
  intro t;simp only [St.get,iC];by_cases e:t=s.sz
  ·rw [aT e,aT e]
  ·rw [aW e,aW e]
 have hz:=h.size;refine ⟨λ t=>?_,h.blk,h.lt,h.inj,h.base,h.size,by rw [h.df],⟨h.below.1,h.below.2,h.below.3,h.below.4,h.below.5,h.below.6⟩,h.b0,λ t id hid=>?_,h.rb,h.gh,h.ob,h.ox⟩
 ·rw [hg];have ht:=h.tm t;unfold AE at ht ⊢;show AVR w ρ _ (if t < a.tmps.size then a.tmps.getD t undef else [v].getD (t - a.tmps.size) undef);by_cases e:t=s.sz
  ·rw [aT e,aW (by omega),show t - a.tmps.size=0 by omega];exact hx
  ·rw [aW e];by_cases e2:t < a.tmps.size
   ·rw [aT e2] at ht ⊢; exact ht
   ·rw [aW e2] at ht ⊢;rw [he] at ht;obtain ⟨m,hm⟩:=aP (by omega:t - a.tmps.size ≠ 0);rw [hm] at ht ⊢;exact ht
 ·rw [hg] at hid;by_cases e:t=s.sz
  ·rw [aT e] at hid; exact hr id hid
  ·rw [aW e] at hid; exact h.rt t id hid
theorem JZ (p:Addr) (w:World):(invoke (.fn (.func 15) #[]) #[.pointer (some p)]).run prog w=.ok (.enter 15 #[.pointer (some p)]) w:=by
 simp [invoke]
def dfr (v:Value):Deferred:={ target:=.fn (.func 15) #[],args:=#[v] }
theorem aMz {q:St} (hz:q.sz=28) (h6:q.get 6=.s (.ptr 3 0 2)) (h7:q.get 7=.s (.ptr 4 0 1)) {e:Int} (k3:bT q.hp 3=some ⟨26,2,.t (.strs [[],[]])⟩) (k4:bT q.hp 4=some ⟨27,1,.t (.ints .i64 [e])⟩) :
  qK prog q Tryz.f5.results.toList=some [.s (.pl (.agg (.strs [[],[]]) 2)),.s (.pl (.int .i64 e))]:=by
 have e6:q.ev (.tmp 6)=.s (.ptr 3 0 2):=by
  show cond (Nat.blt 6 q.sz) (q.get 6) .junk=_;rw [hz,h6]; rfl
 have e7:q.ev (.tmp 7)=.s (.ptr 4 0 1):=by
  show cond (Nat.blt 7 q.sz) (q.get 7) .junk=_;rw [hz,h7]; rfl
 have hr:Tryz.f5.results.toList=[.cell 6 26,.cell 7 27]:=by kernel_rfl
 have l6:nS prog 26 q (.s (.ptr 3 0 2)) some=some (AV.agg (.strs [[],[]]) 2):=by
  unfold nS;simp only [k3];kernel_rfl
 have l7:nS prog 27 q (.s (.ptr 4 0 1)) some=some (AV.int .i64 e):=by
  unfold nS;simp only [k4];kernel_rfl
 rw [hr];simp only [qK,MI,e6,e7,l6,l7];rfl
theorem Xq {n:Nat} {X:Nat->Prop} {b:Nat} {e:Int} {a:Act} {w w3:World} (he:e ≠ 0) (hw0:n=w0.heap.size) (hX:∀ b,X b->b < w0.heap.size) (hs:Rel ⟨n,X,[.pointer (some ⟨b,0,none⟩)],λ _=>False,[dfr (.pointer (some ⟨b,0,none⟩))]⟩ w0 ρ s a w)
  (h28:s.get 28=.s (.ptr 4 0 1)) (hz:s.sz=28) (h6:s.get 6=.s (.ptr 3 0 2)) (h7:s.get 7=.s (.ptr 4 0 1)) (k3:bT s.hp 3=some ⟨26,2,.t (.strs [[],[]])⟩) (k4:bT s.hp 4=some ⟨27,1,.t (.ints .i64 [0])⟩) (hb:Below w.heap.size w w3) :
  Leaves prog Tryz.f5 a.tmps (λ e' w'=>∃ v,e'=.returned v /\ AVR w' (P0 X) (AS.enc (([],[]),e)) v /\ (AS.enc (([],[]),e)).refs=[] /\ Below w0.heap.size w0 w') [dfr (.pointer (some ⟨b,0,none⟩))] (.panicking [yF e]) w3:=by
 subst hw0;have hs3:Rel _ w0 ρ s a w3:=hs.ext hb.size (λ k hk=>hb.block k hk) (hs.below.trans (hb.mono hs.B_le))
 -- the deferred pointer is the error's
 have ht:=hs3.tm 28;rw [h28] at ht;unfold AE at ht;rw [hs3.size,hz] at ht;obtain ⟨x,hx,_,hv⟩:=ht;have hv:(.pointer (some ⟨b,0,none⟩):Value)=.pointer (some ⟨x.r,0,none⟩):=hv;simp only [Value.pointer.injEq,lF,Addr.mk.injEq,and_true] at hv;subst hv;obtain ⟨b',hb',hR⟩:=hs3.blk 4 x hx;rw [k4] at hb'; cases hb';have hn:x.n=1:=hR.n.symm;have wr:=hs3.writable hx 0 (by omega);obtain ⟨v0,hv0⟩:=Option.isSome_iff_exists.1 wr.1;refine leaves_cons (f:=15) (args:=#[.pointer (some ⟨x.r,0,none⟩)]) (by simp) (JZ _ _) ?_;refine (Rh x.r e w3 hv0 (hs3.base 4 x hx).2 wr.2).mono ?_;rintro r u w4 ⟨rfl,rfl,o,rfl⟩;show Leaves _ _ _ _ [] (settle _) _;have hst:settle (.panicking [{ yF e with recovered:=true }])=.returning:=rfl;rw [hst];have hs4:Rel _ w0 ρ { s with hp:=upd 4 { (⟨27,1,.t (.ints .i64 [0])⟩:Blk) with row:=.t (.ints .i64 [e]) } s.hp } a (w3.setCells x.r 0 [.int .i64 e]):=hs3.stored hx k4 (off:=0) (vs:=[.int .i64 e]) (by simp; omega) (λ cs w1 _ _ hsz cs' h6=>by
  show cs'.toList.take x.n=_;rw [h6,hn];simp [splL,TRow.cells]) (λ j hj=>by cases hj)
 have hw4:Below (w3.setCells x.r 0 [.int .i64 e]).heap.size (w3.setCells x.r 0 [.int .i64 e]) ((w3.setCells x.r 0 [.int .i64 e]).alloc o):=JW (bV _) o;have hs5:=hs4.ext hw4.size (λ k hk=>hw4.block k hk) (hs4.below.trans (hw4.mono hs4.B_le));have hL:Lend ρ (P0 X):=⟨λ id x hx=>⟨λ _ _ h=>by simp [P0] at h,λ hb=>by
   have h2:=hX _ hb;rcases (hs5.base id x hx).1 with h1 | h1
   ·simp only [] at h1; omega
   ·exact h1⟩,λ b hb=>⟨λ _ _ h=>by simp [P0] at h,λ hx=>hb.2 (hs5.ox b hx)⟩⟩
 have hres:qK prog { s with hp:=upd 4 { (⟨27,1,.t (.ints .i64 [0])⟩:Blk) with row:=.t (.ints .i64 [e]) } s.hp } Tryz.f5.results.toList=some [.s (.pl (.agg (.strs [[],[]]) 2)),.s (.pl (.int .i64 e))]:=aMz (q:={ s with hp:=upd 4 { (⟨27,1,.t (.ints .i64 [0])⟩:Blk) with row:=.t (.ints .i64 [e]) } s.hp }) hz h6 h7 (by show bT (upd 4 _ s.hp) 3=_; rw [cS]; exact k3) (by show bT (upd 4 _ s.hp) 4=_; rw [cS]; rfl);obtain ⟨vs',q1,q2,q3⟩:=Az hs5 hL hres;exact ⟨_,kD q1,_,rfl,vO q2,xG q3,hs5.below.below λ _ h=>h⟩
end
set_option maxRecDepth 4000
theorem cY {l:List Int} {n:Nat} (h:l.length=n+1):∃ a r,l=a :: r /\ r.length=n:=by
 cases l with
 | nil=>cases h
 | cons a r=>exact ⟨a,r,rfl,Nat.succ.inj h⟩
theorem aYA {l0:List Int} (h0:l0.length=8):∃ a0 a1 a2 a3 a4 a5 a6 a7:Int,l0=[a0,a1,a2,a3,a4,a5,a6,a7]:=by
 obtain ⟨a0,l1,e0,h1⟩:=cY h0;obtain ⟨a1,l2,e1,h2⟩:=cY h1;obtain ⟨a2,l3,e2,h3⟩:=cY h2;obtain ⟨a3,l4,e3,h4⟩:=cY h3;obtain ⟨a4,l5,e4,h5⟩:=cY h4;obtain ⟨a5,l6,e5,h6⟩:=cY h5;obtain ⟨a6,l7,e6,h7⟩:=cY h6;obtain ⟨a7,l8,e7,h8⟩:=cY h7;have e8:=VL.1 h8;refine ⟨a0,a1,a2,a3,a4,a5,a6,a7,?_⟩;rw [e0,e1,e2,e3,e4,e5,e6,e7,e8]
theorem aFZ {l0:List Int} (h0:l0.length=32):∃ a0 a1 a2 a3 a4 a5 a6 a7 a8 a9 a10 a11 a12 a13 a14 a15 a16 a17 a18 a19 a20 a21 a22 a23 a24 a25 a26 a27 a28 a29 a30 a31:Int,l0=[a0,a1,a2,a3,a4,a5,a6,a7,a8,a9,a10,a11,a12,a13,a14,a15,a16,a17,a18,a19,a20,a21,a22,a23,a24,a25,a26,a27,a28,a29,a30,a31]:=by
 obtain ⟨a0,l1,e0,h1⟩:=cY h0;obtain ⟨a1,l2,e1,h2⟩:=cY h1;obtain ⟨a2,l3,e2,h3⟩:=cY h2;obtain ⟨a3,l4,e3,h4⟩:=cY h3;obtain ⟨a4,l5,e4,h5⟩:=cY h4;obtain ⟨a5,l6,e5,h6⟩:=cY h5;obtain ⟨a6,l7,e6,h7⟩:=cY h6;obtain ⟨a7,l8,e7,h8⟩:=cY h7;obtain ⟨a8,l9,e8,h9⟩:=cY h8;obtain ⟨a9,l10,e9,h10⟩:=cY h9;obtain ⟨a10,l11,e10,h11⟩:=cY h10;obtain ⟨a11,l12,e11,h12⟩:=cY h11;obtain ⟨a12,l13,e12,h13⟩:=cY h12;obtain ⟨a13,l14,e13,h14⟩:=cY h13;obtain ⟨a14,l15,e14,h15⟩:=cY h14;obtain ⟨a15,l16,e15,h16⟩:=cY h15;obtain ⟨a16,l17,e16,h17⟩:=cY h16;obtain ⟨a17,l18,e17,h18⟩:=cY h17;obtain ⟨a18,l19,e18,h19⟩:=cY h18;obtain ⟨a19,l20,e19,h20⟩:=cY h19;obtain ⟨a20,l21,e20,h21⟩:=cY h20;obtain ⟨a21,l22,e21,h22⟩:=cY h21;obtain ⟨a22,l23,e22,h23⟩:=cY h22;obtain ⟨a23,l24,e23,h24⟩:=cY h23;obtain ⟨a24,l25,e24,h25⟩:=cY h24;obtain ⟨a25,l26,e25,h26⟩:=cY h25;obtain ⟨a26,l27,e26,h27⟩:=cY h26;obtain ⟨a27,l28,e27,h28⟩:=cY h27;obtain ⟨a28,l29,e28,h29⟩:=cY h28;obtain ⟨a29,l30,e29,h30⟩:=cY h29;obtain ⟨a30,l31,e30,h31⟩:=cY h30;obtain ⟨a31,l32,e31,h32⟩:=cY h31;have e32:=VL.1 h32;refine ⟨a0,a1,a2,a3,a4,a5,a6,a7,a8,a9,a10,a11,a12,a13,a14,a15,a16,a17,a18,a19,a20,a21,a22,a23,a24,a25,a26,a27,a28,a29,a30,a31,?_⟩;rw [e0,e1,e2,e3,e4,e5,e6,e7,e8,e9,e10,e11,e12,e13,e14,e15,e16,e17,e18,e19,e20,e21,e22,e23,e24,e25,e26,e27,e28,e29,e30,e31,e32]
theorem aF0:∀ {l:List SV} {e:List Int},Sf l=some e->l=e.map λ n=>SV.pl (.int .u64 n):=by
 intro l
 induction l with
 | nil=>intro e h; cases h; rfl
 | cons x r ih=>
  intro e h;unfold Sf at h;split at h
  ·rename_i q; cases q
  ·rename_i n r' q;cases q;split at h
   ·rename_i l' hl;cases h;rw [mQ,<-ih hl]
   ·cases h
  ·cases h
theorem aF1:∀ {l:List SV} {e:List Int},L6 l=some e->l=e.map λ n=>SV.pl (.int .u8 n):=by
 intro l
 induction l with
 | nil=>intro e h; cases h; rfl
 | cons x r ih=>
  intro e h;unfold L6 at h;split at h
  ·rename_i q; cases q
  ·rename_i n r' q;cases q;split at h
   ·rename_i l' hl;cases h;rw [mQ,<-ih hl]
   ·cases h
  ·cases h
theorem Ud (k:Nat) (b:List Int):fR (oO k b).1=true:=by
 unfold oO;cases decide ((nM b).2=0)
 ·rfl
 ·cases Nat.beq k 0
  ·exact SW _
  ·rfl
theorem aMA {l:List SV} {p:List Int} (h:aFK l=some p):∃ (x0 x1 x2:Str) (o:List Int),o.length=8 /\ fR p=true /\ l=.pl (.str x0) :: .pl (.str x1) :: .pl (.str x2) :: (o.map (λ n=>SV.pl (.int .u64 n))++p.map λ n=>SV.pl (.int .u8 n)):=by
 unfold aFK at h;split at h
 ·rename_i x0 x1 x2 r;split at h
  ·rename_i o q ho hq;obtain ⟨h1,rfl⟩:=cC h;rw [aX] at h1;refine ⟨x0,x1,x2,o,aS h1.1,h1.2,?_⟩;rw [<-aF0 ho,<-aF1 hq,List.take_append_drop]
  ·cases h
 ·cases h
theorem aMB:CfOk prog gRz.c:=⟨aK,λ _ _ h=>by cases h⟩
noncomputable abbrev aYB:Cg:=gRg (Str × Int) PB (λ t=>t.1) (λ t=>t.2) Str yG (λ t=>t) (List Int) Ke (λ t=>t) (List Int × Int) CE (λ t=>t.1) (λ t=>t.2) (List Int) aFJ (λ t=>t) Str aYs (λ t=>t)
noncomputable abbrev aYC:Cg:=Ub (Str × Int) PB (λ t=>t.1) (λ t=>t.2) Str yG (λ t=>t) (List Int) Ke (λ t=>t) (List Int × Int) CE (λ t=>t.1) (λ t=>t.2)
theorem aMC:CfOk prog aYB.c:=⟨aA aFO <| aA Rk <| aA aFS <| aA Ng <| aA aFT <| aA aUY <| aK,λ _ _ h=>by cases h⟩
theorem OR:CfOk prog aYC.c:=⟨aA aFO <| aA Rk <| aA aFS <| aA Ng <| aK,λ _ _ h=>by cases h⟩
theorem aF2:Tryz.f5.body=some (.seq (sB [0]) (.seq (sB [1,0]) (sB [1,1]))):=by kernel_rfl
theorem aPs:sB [1,1]=.seq (sB [1,1,0]) (.seq (sB [1,1,1,0]) (sB [1,1,1,1])):=by kernel_rfl
theorem aVv:sB [1,1,0]=.region 2 (OQ [1,1,0]) false:=by kernel_rfl
noncomputable def aF3:Oper:=(OQ [1,1,0]).toList.getD 4 kQ
theorem aVw:(OQ [1,1,0]).toList=(OQ [1,1,0]).toList.take 4++aF3 :: []:=by kernel_rfl
theorem aVx:aF3.guard=none:=by kernel_rfl
theorem Xr:aF3.op=.call { callee:=.value (.func 16),args:=#[.tmp 11,.tmp 12],argTypes:=#[9,27] }:=by kernel_rfl
theorem svD:sB [1,0]=.region 1 #[{ dst:=none,op:=.defer { callee:=.value (.func 15),args:=#[.tmp 7],argTypes:=#[52] },type:=0,pos := "server.go:87",after:=#[],guard:=none }] false:=by kernel_rfl
theorem aF4 {Q:Exit->Act->World->Prop} {a:Act} {w:World} (h:Q .normal { a with defers:=dfr (a.eval (.tmp 7)) :: a.defers } w):(sB [1,0]).wp prog Q a w:=by
 rw [svD];apply wp_region;simp [wpOps,go_sem];exact Or.inl (by simpa [dfr,Act.eval] using h)
theorem aF5 {n:Nat} {a:Act} {w:World} {e:Int} (he:e ≠ 0) (h12:a.eval (.tmp 12)=.int .i64 e) {next:Act->World->Prop} {Q:Exit->Act->World->Prop} (h:∀ w',Below w.heap.size w w'->Q (.panic [yF e]) a w'):aF3.wpIn (Fw none) n prog a w next Q:=by
 refine n8 (by rw [Xr]; simp) ?_;have hr:(execOp a.eval aF3).run prog w=.ok (.enter 16 #[a.eval (.tmp 11),.int .i64 e]) w:=by
  rw [<-h12];simp only [execOp,Xr];simp [resolve,Deferred.ofValue,invoke,Act.eval]
 rw [hr,Oper.uponIn_enter];refine ⟨tL,(Calls.fw (OM he _ w)).mono λ r w' hr=>?_⟩;obtain ⟨rfl,hb⟩:=hr;exact h w' hb
set_option maxRecDepth 4000
theorem aYD:Tryz.f5.ntmps=28:=by kernel_rfl
noncomputable def aAk (X:Nat->Prop) (w0:World) (y:AV):Ending->World->Prop:=λ e' w'=>∃ v,e'=.returned v /\ AVR w' (P0 X) y v /\ y.refs=[] /\ Below w0.heap.size w0 w'
section
variable {X:Nat->Prop} {w0 w:World} {ρ:Plc} {a:Act} {b:Nat} {s:St}
noncomputable abbrev svB (X:Nat->Prop) (w0:World) (b:Nat):Bs:=⟨w0.heap.size,X,[.pointer (some ⟨b,0,none⟩)],λ _=>False,[dfr (.pointer (some ⟨b,0,none⟩))]⟩
theorem Xs (hX:∀ b,X b->b < w0.heap.size) (hs:Rel (svB X w0 b) w0 ρ s a w) {y:AV} {l:List CV} (hl:qK prog s Tryz.f5.results.toList=some l) (e:mU l=y) :
  Leaves prog Tryz.f5 a.tmps (aAk X w0 y) a.defers .returning w:=by
 have hL:Lend ρ (P0 X):=⟨λ id x hx=>⟨λ _ _ h=>by simp [P0] at h,λ hb=>by
   have h2:=hX _ hb;rcases (hs.base id x hx).1 with h1 | h1
   ·simp only [] at h1; omega
   ·exact h1⟩,λ b hb=>⟨λ _ _ h=>by simp [P0] at h,λ hx=>hb.2 (hs.ox b hx)⟩⟩
 rw [hs.df];refine leaves_cons (f:=15) (args:=#[.pointer (some ⟨b,0,none⟩)]) (by simp) (JZ _ _) ?_;refine (Rg _ _).mono ?_;rintro r u w4 ⟨rfl,rfl,rfl⟩;show Leaves _ _ _ _ [] (settle .returning) _;rw [show settle .returning=FrameMode.returning from rfl];obtain ⟨vs',q1,q2,q3⟩:=Az hs hL hl;exact ⟨_,kD q1,_,rfl,by rw [<-e]; exact vO q2,by rw [<-e]; exact xG q3,hs.below.below λ _ h=>h⟩
theorem aF6 (hX:∀ b,X b->b < w0.heap.size) {y:AV} {e:Ex} (h:fQ prog Tryz.f5 e s=some y) (hs:Rel (svB X w0 b) w0 ρ s a w):bodyPostD prog Tryz.f5 (aAk X w0 y) e.to a w:=by
 unfold fQ at h;cases e with
 | exit id=>simp at h
 | normal=>
  simp only [] at h;split at h
  ·rename_i l hl; exact Xs hX hs hl (dG h)
  ·cases h
 | ret=>
  simp only [] at h;split at h
  ·rename_i l hl; exact Xs hX hs hl (dG h)
  ·cases h
theorem aVy {q:St} (h:q.sz=28):(match q with | ⟨tm,hp,nx,sz⟩=>(⟨(28,.s (.ptr 4 0 1)) :: tm,hp,nx,sz⟩:St))=⟨(q.sz,.s (.ptr 4 0 1)) :: q.tm,q.hp,q.nx,q.sz⟩:=by
 cases q; simp only at h; subst h; rfl
theorem Lk (s:Str):yG [.str s,.int .i64 0]=some s:=rfl
theorem OS {q:St} {n t:Nat} {x:AV} (hz:q.sz=n) (hl:Nat.blt t n=true) (h:q.get t=x):q.ev (.tmp t)=x:=by
 show cond (Nat.blt t q.sz) (q.get t) AV.junk=x;rw [hz,hl,h]; rfl
theorem Rl {s:Str} (h:s.length=32):CN [32] [s]=(s,0):=by
 simp only [CN,aAV,h];simp
theorem aF7 {s:Str} (h:¬ s.length=32):CN [32] [s]=([],4):=by
 have h1:decide (((s.length:Nat):Int)=32)=false:=aH (by omega);unfold CN aAV;rw [h1]; rfl
theorem Ja {s:Str} (h:s.length <= 1099511627776):PB [.agg (.strs [s]) 1]=some (CN [32] [s]):=aMl (ss:=[s]) rfl (by simpa using h)
theorem aF8 (x0 x1 x2:Str) (o0 o1 o2 o3 o4 o5 o6 o7 p0 p1 p2 p3 p4 p5 p6 p7 p8 p9 p10 p11 p12 p13 p14 p15 p16 p17 p18 p19 p20 p21 p22 p23 p24 p25 p26 p27 p28 p29 p30 p31:Int) (k:List Int) (s:Str) (hk:jO k=true) (hp:fR [p0,p1,p2,p3,p4,p5,p6,p7,p8,p9,p10,p11,p12,p13,p14,p15,p16,p17,p18,p19,p20,p21,p22,p23,p24,p25,p26,p27,p28,p29,p30,p31]=true) (hs:s.length <= 1099511627776) (hX:∀ b,X b->b < w0.heap.size) (hd:Rel (svB X w0 b) w0 ρ (sv2 x0 x1 x2 o0 o1 o2 o3 o4 o5 o6 o7 p0 p1 p2 p3 p4 p5 p6 p7 p8 p9 p10 p11 p12 p13 p14 p15 p16 p17 p18 p19 p20 p21 p22 p23 p24 p25 p26 p27 p28 p29 p30 p31 k s) a w) (hl:s.length=32) {E:List Int} (hE:fR E=true) (he:oO (val k) (s.map lP)=(E,0)) :
  (sB [1,1]).wp prog (bodyPostD prog Tryz.f5 (aAk X w0 (AS.enc ((E.map b8,[p0,p1,p2,p3,p4,p5,p6,p7,p8,p9,p10,p11,p12,p13,p14,p15,p16,p17,p18,p19,p20,p21,p22,p23,p24,p25,p26,p27,p28,p29,p30,p31].map b8),0)))) a w:=by
 refine mT (g:=aYB) (fu:=0) gG aMC (sB [1,1]) hd (r:=AS.enc ((E.map b8,[p0,p1,p2,p3,p4,p5,p6,p7,p8,p9,p10,p11,p12,p13,p14,p15,p16,p17,p18,p19,p20,p21,p22,p23,p24,p25,p26,p27,p28,p29,p30,p31].map b8),0)) ?_ λ e s' a' w' ρ' h' hs'=>aF6 hX h' hs';refine (aYv ..).trans ?_;have r0:=Ja hs;rw [Rl hl] at r0;have r2:=Xo hl;have r3:=Qu hk (JY s hl);rw [he] at r3;refine aI r0 ?_;refine aI (Lk s) ?_;refine aI r2 ?_;refine aI r3 ?_;refine aI (aAi hE) ?_;refine aI (OP hE) ?_;refine aI (OP hp) ?_;rfl
theorem aF9 (x0 x1 x2:Str) (o0 o1 o2 o3 o4 o5 o6 o7 p0 p1 p2 p3 p4 p5 p6 p7 p8 p9 p10 p11 p12 p13 p14 p15 p16 p17 p18 p19 p20 p21 p22 p23 p24 p25 p26 p27 p28 p29 p30 p31:Int) (k:List Int) (s:Str) (t0:Str × Int):(sv3 x0 x1 x2 o0 o1 o2 o3 o4 o5 o6 o7 p0 p1 p2 p3 p4 p5 p6 p7 p8 p9 p10 p11 p12 p13 p14 p15 p16 p17 p18 p19 p20 p21 p22 p23 p24 p25 p26 p27 p28 p29 p30 p31 k s (Str × Int) (λ t=>t.1) (λ t=>t.2) Str yG (λ t=>t) (List Int) Ke (λ t=>t) (List Int × Int) CE (λ t=>t.1) (λ t=>t.2) t0).sz=28:=by kernel_rfl
theorem aAl (x0 x1 x2:Str) (o0 o1 o2 o3 o4 o5 o6 o7 p0 p1 p2 p3 p4 p5 p6 p7 p8 p9 p10 p11 p12 p13 p14 p15 p16 p17 p18 p19 p20 p21 p22 p23 p24 p25 p26 p27 p28 p29 p30 p31:Int) (k:List Int) (s:Str) (hs:s.length <= 1099511627776) (hX:∀ b,X b->b < w0.heap.size) (hd:Rel (svB X w0 b) w0 ρ (sv2 x0 x1 x2 o0 o1 o2 o3 o4 o5 o6 o7 p0 p1 p2 p3 p4 p5 p6 p7 p8 p9 p10 p11 p12 p13 p14 p15 p16 p17 p18 p19 p20 p21 p22 p23 p24 p25 p26 p27 p28 p29 p30 p31 k s) a w) (hl:¬ s.length=32) :
  (sB [1,1]).wp prog (bodyPostD prog Tryz.f5 (aAk X w0 (AS.enc (([],[]),4)))) a w:=by
 have r0:=Ja hs;rw [aF7 hl] at r0;rw [aPs];refine wp_seq ?_;rw [aVv];refine (wpIn_wide (n:=0)).1 ?_;refine wpIn_region_list ?_;rw [aVw];have hev:=bAk x0 x1 x2 o0 o1 o2 o3 o4 o5 o6 o7 p0 p1 p2 p3 p4 p5 p6 p7 p8 p9 p10 p11 p12 p13 p14 p15 p16 p17 p18 p19 p20 p21 p22 p23 p24 p25 p26 p27 p28 p29 p30 p31 k s (Str × Int) PB (λ t=>t.1) (λ t=>t.2) Str yG (λ t=>t) (List Int) Ke (λ t=>t) (List Int × Int) CE (λ t=>t.1) (λ t=>t.2);have hev:=hev.trans (aI r0 rfl);refine aAd (ro:=none) (n:=0) OR aVx _ hd (λ _ _ _ _ h=>by simp at h) hev λ s' a' w' ρ' h' hs' next=>?_
 have e1:=(dG h').symm;subst e1;have e12:(sv3 x0 x1 x2 o0 o1 o2 o3 o4 o5 o6 o7 p0 p1 p2 p3 p4 p5 p6 p7 p8 p9 p10 p11 p12 p13 p14 p15 p16 p17 p18 p19 p20 p21 p22 p23 p24 p25 p26 p27 p28 p29 p30 p31 k s (Str × Int) (λ t=>t.1) (λ t=>t.2) Str yG (λ t=>t) (List Int) Ke (λ t=>t) (List Int × Int) CE (λ t=>t.1) (λ t=>t.2) ([],4)).ev (.tmp 12)=.int .i64 4:=OS (aF9 ..) rfl (aU3 ..);have hx:=hs'.ev (.tmp 12);rw [e12] at hx;refine aF5 (e:=4) (by decide) hx.1 λ w4 hb=>?_;show Leaves _ _ _ _ _ _ _;rw [hs'.df];refine Xq (n:=w0.heap.size) (by decide) rfl hX hs' (aU4 ..) (aF9 ..) (aYw ..) (aYx ..) (aU5 ..) (aU6 ..) hb
theorem aGa {n:Nat} {a:Act} {w:World} {e:Int} (he:e ≠ 0) {cs:Array Value} (h19:a.eval (.tmp 19)=.agg cs) (h20:a.eval (.tmp 20)=.int .i64 e) {next:Act->World->Prop} {Q:Exit->Act->World->Prop} (h:∀ w',Below w.heap.size w w'->Q (.panic [yF e]) a w'):kQ.wpIn (Fw none) n prog a w next Q:=by
 refine n8 (by rw [Xp]; simp) ?_;have hr:(execOp a.eval kQ).run prog w=.ok (.enter 18 #[.agg cs,.int .i64 e]) w:=by
  rw [<-h20,<-h19];simp only [execOp,Xp];simp [resolve,Deferred.ofValue,invoke,Act.eval]
 rw [hr,Oper.uponIn_enter];refine ⟨tL,(Calls.fw (ON he _ w)).mono λ r w' hr=>?_⟩;obtain ⟨rfl,hb⟩:=hr;exact h w' hb
theorem aVz (x0 x1 x2:Str) (o0 o1 o2 o3 o4 o5 o6 o7 p0 p1 p2 p3 p4 p5 p6 p7 p8 p9 p10 p11 p12 p13 p14 p15 p16 p17 p18 p19 p20 p21 p22 p23 p24 p25 p26 p27 p28 p29 p30 p31:Int) (k:List Int) (s:Str) (t0:Str × Int) (t1:Str):(sv4 x0 x1 x2 o0 o1 o2 o3 o4 o5 o6 o7 p0 p1 p2 p3 p4 p5 p6 p7 p8 p9 p10 p11 p12 p13 p14 p15 p16 p17 p18 p19 p20 p21 p22 p23 p24 p25 p26 p27 p28 p29 p30 p31 k s (Str × Int) (λ t=>t.1) (λ t=>t.2) Str (λ t=>t) (List Int) Ke (λ t=>t) (List Int × Int) CE (λ t=>t.1) (λ t=>t.2) t0 t1).sz=28:=by kernel_rfl
theorem aAm (x0 x1 x2:Str) (o0 o1 o2 o3 o4 o5 o6 o7 p0 p1 p2 p3 p4 p5 p6 p7 p8 p9 p10 p11 p12 p13 p14 p15 p16 p17 p18 p19 p20 p21 p22 p23 p24 p25 p26 p27 p28 p29 p30 p31:Int) (k:List Int) (s:Str) (hk:jO k=true) (hs:s.length <= 1099511627776) (hX:∀ b,X b->b < w0.heap.size) (hd:Rel (svB X w0 b) w0 ρ (sv2 x0 x1 x2 o0 o1 o2 o3 o4 o5 o6 o7 p0 p1 p2 p3 p4 p5 p6 p7 p8 p9 p10 p11 p12 p13 p14 p15 p16 p17 p18 p19 p20 p21 p22 p23 p24 p25 p26 p27 p28 p29 p30 p31 k s) a w) (hl:s.length=32) {E:List Int} {e:Int} (he:oO (val k) (s.map lP)=(E,e)) (h0:e ≠ 0) :
  (sB [1,1]).wp prog (bodyPostD prog Tryz.f5 (aAk X w0 (AS.enc (([],[]),e)))) a w:=by
 have r0:=Ja hs;rw [Rl hl] at r0;have r2:=Xo hl;have r3:=Qu hk (JY s hl);rw [he] at r3;rw [aPs];have hev:=(bAl x0 x1 x2 o0 o1 o2 o3 o4 o5 o6 o7 p0 p1 p2 p3 p4 p5 p6 p7 p8 p9 p10 p11 p12 p13 p14 p15 p16 p17 p18 p19 p20 p21 p22 p23 p24 p25 p26 p27 p28 p29 p30 p31 k s (Str × Int) PB (λ t=>t.1) (λ t=>t.2) Str yG (λ t=>t) (List Int) Ke (λ t=>t) (List Int × Int) CE (λ t=>t.1) (λ t=>t.2)).trans (aI r0 (aI (Lk s) rfl));refine wp_seq (mT (g:=aYC) (fu:=0) gG OR (sB [1,1,0]) hd hev λ e' s' a' w' ρ' h' hs'=>?_);cases e' with
 | exit id=>cases h'
 | ret=>cases h'
 | normal=>
 have e1:=(dG h').symm;subst e1;refine wp_seq ?_;rw [aMx];refine (wpIn_wide (n:=0)).1 ?_;have hev5:=(bAn x0 x1 x2 o0 o1 o2 o3 o4 o5 o6 o7 p0 p1 p2 p3 p4 p5 p6 p7 p8 p9 p10 p11 p12 p13 p14 p15 p16 p17 p18 p19 p20 p21 p22 p23 p24 p25 p26 p27 p28 p29 p30 p31 k s (Str × Int) PB (λ t=>t.1) (λ t=>t.2) Str yG (λ t=>t) (List Int) Ke (λ t=>t) (List Int × Int) CE (λ t=>t.1) (λ t=>t.2) (s,0) s).trans (aI r2 (aI r3 rfl));refine UX (ro:=none) (n:=0) gG OR aFX aU9 (bAo (Str × Int) PB (λ t=>t.1) (λ t=>t.2) Str yG (λ t=>t) (List Int) Ke (λ t=>t) (List Int × Int) CE (λ t=>t.1) (λ t=>t.2)) (qs:=[4,5]) aAj hs' hev5 λ s2 a2 w2 ρ2 hr h1 h2 h4 h5 next=>?_
 have hz:=h5.trans (aVz ..);rw [Uc] at h1;have nd:=aMy;simp only [aX] at nd;have x19:=hr.ev (.tmp 19);rw [OS hz rfl ((h1 19 (by simp)).trans (aVa ..))] at x19;have x20:=hr.ev (.tmp 20);rw [OS hz rfl ((h1 20 (by simp)).trans (aVb ..))] at x20;obtain ⟨cs,hcs⟩:∃ cs,a2.eval (.tmp 19)=.agg cs:=⟨_,x19.1⟩;refine aGa (e:=e) h0 hcs x20.1 λ w4 hb=>?_;show Leaves _ _ _ _ _ _ _;rw [hr.df];exact Xq (n:=w0.heap.size) h0 rfl hX hr ((h4 28 nd.2).trans (aVc ..)) hz ((h4 6 nd.1.1).trans (aYy ..)) ((h4 7 nd.1.2).trans (aYz ..)) ((h2 3 (by simp)).trans (aU7 ..)) ((h2 4 (by simp)).trans (aU8 ..)) hb
theorem aAn (x0 x1 x2:Str) (o0 o1 o2 o3 o4 o5 o6 o7 p0 p1 p2 p3 p4 p5 p6 p7 p8 p9 p10 p11 p12 p13 p14 p15 p16 p17 p18 p19 p20 p21 p22 p23 p24 p25 p26 p27 p28 p29 p30 p31:Int) (k:List Int) (s:Str) (hk:jO k=true) (hp:fR [p0,p1,p2,p3,p4,p5,p6,p7,p8,p9,p10,p11,p12,p13,p14,p15,p16,p17,p18,p19,p20,p21,p22,p23,p24,p25,p26,p27,p28,p29,p30,p31]=true) (hs:s.length <= 1099511627776) {w:World} {X:Nat->Prop} {vs:List Value} (hX:∀ b,X b->b < w.heap.size) (hargs:AVRs w (P0 X) [.c (.mix [.pl (.str x0),.pl (.str x1),.pl (.str x2),.pl (.int .u64 o0),.pl (.int .u64 o1),.pl (.int .u64 o2),.pl (.int .u64 o3),.pl (.int .u64 o4),.pl (.int .u64 o5),.pl (.int .u64 o6),.pl (.int .u64 o7),.pl (.int .u8 p0),.pl (.int .u8 p1),.pl (.int .u8 p2),.pl (.int .u8 p3),.pl (.int .u8 p4),.pl (.int .u8 p5),.pl (.int .u8 p6),.pl (.int .u8 p7),.pl (.int .u8 p8),.pl (.int .u8 p9),.pl (.int .u8 p10),.pl (.int .u8 p11),.pl (.int .u8 p12),.pl (.int .u8 p13),.pl (.int .u8 p14),.pl (.int .u8 p15),.pl (.int .u8 p16),.pl (.int .u8 p17),.pl (.int .u8 p18),.pl (.int .u8 p19),.pl (.int .u8 p20),.pl (.int .u8 p21),.pl (.int .u8 p22),.pl (.int .u8 p23),.pl (.int .u8 p24),.pl (.int .u8 p25),.pl (.int .u8 p26),.pl (.int .u8 p27),.pl (.int .u8 p28),.pl (.int .u8 p29),.pl (.int .u8 p30),.pl (.int .u8 p31)]),.agg (.ints .u64 k) 8,.agg (.strs [s]) 1] vs) :
  Calls prog 5 vs.toArray w (aAk X w (AS.enc (JX [p0,p1,p2,p3,p4,p5,p6,p7,p8,p9,p10,p11,p12,p13,p14,p15,p16,p17,p18,p19,p20,p21,p22,p23,p24,p25,p26,p27,p28,p29,p30,p31] (val k) s))):=by
 refine calls_of_wp_defers Tryz.func5 aF2 ?_;have h0:=Rel.start (fn:=Tryz.f5) hX hargs rfl (by rw [aYD]; exact (by decide:3 <= 28));rw [aYD] at h0 ⊢;have h0:Rel _ w (P0 X) (sv0 x0 x1 x2 o0 o1 o2 o3 o4 o5 o6 o7 p0 p1 p2 p3 p4 p5 p6 p7 p8 p9 p10 p11 p12 p13 p14 p15 p16 p17 p18 p19 p20 p21 p22 p23 p24 p25 p26 p27 p28 p29 p30 p31 k s) _ w:=h0;refine wp_seq (mT gG aMB (sB [0]) h0 (aU2 x0 x1 x2 o0 o1 o2 o3 o4 o5 o6 o7 p0 p1 p2 p3 p4 p5 p6 p7 p8 p9 p10 p11 p12 p13 p14 p15 p16 p17 p18 p19 p20 p21 p22 p23 p24 p25 p26 p27 p28 p29 p30 p31 k s) λ e s' a' w' ρ' h' hs'=>?_);cases e with
 | exit id=>cases h'
 | ret=>cases h'
 | normal=>
 have e1:sv1 x0 x1 x2 o0 o1 o2 o3 o4 o5 o6 o7 p0 p1 p2 p3 p4 p5 p6 p7 p8 p9 p10 p11 p12 p13 p14 p15 p16 p17 p18 p19 p20 p21 p22 p23 p24 p25 p26 p27 p28 p29 p30 p31 k s=s':=(dG h').symm;subst e1;have e7:(sv1 x0 x1 x2 o0 o1 o2 o3 o4 o5 o6 o7 p0 p1 p2 p3 p4 p5 p6 p7 p8 p9 p10 p11 p12 p13 p14 p15 p16 p17 p18 p19 p20 p21 p22 p23 p24 p25 p26 p27 p28 p29 p30 p31 k s).ev (.tmp 7)=.s (.ptr 4 0 1):=OS (aFW ..) rfl (aYu ..);have hx:=hs'.ev (.tmp 7);rw [e7] at hx;have hx0:=hx;obtain ⟨q,hq,_,hv⟩:=hx0;have hv:a'.eval (.tmp 7)=.pointer (some ⟨q.r,0,none⟩):=hv;have hd:=Rel.defer hs' rfl (dfr (a'.eval (.tmp 7))) hx (by
  have h:=hs'.evr (.tmp 7);rw [e7] at h; exact h)
 rw [hv] at hd;refine wp_seq (aF4 ?_);rw [hv];show (sB [1,1]).wp prog _ _ _;have e2:=aVy (aFW x0 x1 x2 o0 o1 o2 o3 o4 o5 o6 o7 p0 p1 p2 p3 p4 p5 p6 p7 p8 p9 p10 p11 p12 p13 p14 p15 p16 p17 p18 p19 p20 p21 p22 p23 p24 p25 p26 p27 p28 p29 p30 p31 k s);rw [<-e2] at hd;have hd:Rel (svB X w q.r) w ρ' (sv2 x0 x1 x2 o0 o1 o2 o3 o4 o5 o6 o7 p0 p1 p2 p3 p4 p5 p6 p7 p8 p9 p10 p11 p12 p13 p14 p15 p16 p17 p18 p19 p20 p21 p22 p23 p24 p25 p26 p27 p28 p29 p30 p31 k s) _ w':=hd;by_cases hl:s.length=32
 ·have hE:=Ud (val k) (s.map lP);rcases hev:oO (val k) (s.map lP) with ⟨E,e⟩;rw [hev] at hE;have e3:JX [p0,p1,p2,p3,p4,p5,p6,p7,p8,p9,p10,p11,p12,p13,p14,p15,p16,p17,p18,p19,p20,p21,p22,p23,p24,p25,p26,p27,p28,p29,p30,p31] (val k) s=cond (decide (e=0)) ((E.map b8,[p0,p1,p2,p3,p4,p5,p6,p7,p8,p9,p10,p11,p12,p13,p14,p15,p16,p17,p18,p19,p20,p21,p22,p23,p24,p25,p26,p27,p28,p29,p30,p31].map b8),0) (([],[]),e):=by
   unfold JX aAf;rw [hl,hev]; rfl
  rw [e3];by_cases he:e=0
  ·subst he;exact aF8 x0 x1 x2 o0 o1 o2 o3 o4 o5 o6 o7 p0 p1 p2 p3 p4 p5 p6 p7 p8 p9 p10 p11 p12 p13 p14 p15 p16 p17 p18 p19 p20 p21 p22 p23 p24 p25 p26 p27 p28 p29 p30 p31 k s hk hp hs hX hd hl hE hev
  ·rw [aH he];exact aAm x0 x1 x2 o0 o1 o2 o3 o4 o5 o6 o7 p0 p1 p2 p3 p4 p5 p6 p7 p8 p9 p10 p11 p12 p13 p14 p15 p16 p17 p18 p19 p20 p21 p22 p23 p24 p25 p26 p27 p28 p29 p30 p31 k s hk hs hX hd hl hev he
 ·have e3:JX [p0,p1,p2,p3,p4,p5,p6,p7,p8,p9,p10,p11,p12,p13,p14,p15,p16,p17,p18,p19,p20,p21,p22,p23,p24,p25,p26,p27,p28,p29,p30,p31] (val k) s=(([],[]),4):=by
   unfold JX;rw [show Nat.beq s.length 32=false from iP hl]; rfl
  rw [e3];exact aAl x0 x1 x2 o0 o1 o2 o3 o4 o5 o6 o7 p0 p1 p2 p3 p4 p5 p6 p7 p8 p9 p10 p11 p12 p13 p14 p15 p16 p17 p18 p19 p20 p21 p22 p23 p24 p25 p26 p27 p28 p29 p30 p31 k s hs hX hd hl
end
theorem aMD:CallOk prog 5 AS:=by
 intro args t ht w X vs hX hargs;unfold AS at ht;simp only at ht;split at ht
 case h_2=>cases ht
 rename_i l k s;split at ht
 case h_2=>cases ht
 rename_i p hp;obtain ⟨h1,h2⟩:=cC ht;subst h2;rw [aX] at h1;have h2:=cF h1.2;obtain ⟨x0,x1,x2,o,ho,hpo,rfl⟩:=aMA hp;obtain ⟨o0,o1,o2,o3,o4,o5,o6,o7,rfl⟩:=aYA ho;obtain ⟨p0,p1,p2,p3,p4,p5,p6,p7,p8,p9,p10,p11,p12,p13,p14,p15,p16,p17,p18,p19,p20,p21,p22,p23,p24,p25,p26,p27,p28,p29,p30,p31,rfl⟩:=aFZ (j3 hpo).1;refine .inr ⟨mV Tryz.func5 (by kernel_rfl) aF2 _ _,(aAn x0 x1 x2 o0 o1 o2 o3 o4 o5 o6 o7 p0 p1 p2 p3 p4 p5 p6 p7 p8 p9 p10 p11 p12 p13 p14 p15 p16 p17 p18 p19 p20 p21 p22 p23 p24 p25 p26 p27 p28 p29 p30 p31 k s h1.1 hpo h2 hX hargs).mono λ e w' h=>?_⟩;obtain ⟨v,g1,g2,g3,g4⟩:=h;exact ⟨v,g1,g2,g3,g4⟩
end Go.Eng
