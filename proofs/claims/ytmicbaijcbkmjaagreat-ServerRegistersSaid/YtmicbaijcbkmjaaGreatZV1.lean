import Derived.Defers
import Derived.Recover
import Derived.Test.YtmicbaijcbkmjaaGreatZO6
import Derived.Test.YtmicbaijcbkmjaaGreatZW1
namespace Go.Eng
open Go.IntKind (u64 i64 u8)
noncomputable section
open Go Go.RowKit
set_option linter.all false
section
variable {ro:Option Nat} {n:Nat} {P:Program} {c c1:Cf} {ops:Array Oper} {β:Type} {r:β} {B:Bs} {w0 w:World} {ρ:Plc} {s:St} {a:Act}
theorem Yu (hΓ:CfOk P c) {Q:Exit->Act->World->Prop} {K:St->Option β} {op:Oper} {rest:List Oper} (hg:op.guard=none):∀ (l:List Oper) {G:fE} {s:St} {a:Act} {w:World} {ρ:Plc},Rel B w0 ρ s a w->GR G a->Yr P c ops l G s K=some r ->
  (∀ s' a' w' ρ',K s'=some r->Rel B w0 ρ' s' a' w'->∀ next,op.wpIn (Fw ro) n P a' w' next Q)->wpListIn (Fw ro) n P ops Q (l++op :: rest) a w:=by
 intro l
 induction l with
 | nil=>
  intro G s a w ρ hs hG h hQ;show wpListIn (Fw ro) n P ops Q (op :: rest) a w;unfold wpListIn;have:Region.wanted op (yielded ops a.tmps)=true:=by simp [Region.wanted,hg]
  rw [aT this];exact hQ s a w ρ h hs _
 | cons o l ih=>
  intro G s a w ρ hs hG h hQ;have h1:=F0 (ro:=ro) (n:=n) (Q:=Q) hΓ hs hG h λ s2 G2 a2 w2 ρ2 h1 h2 h3=>ih h2 h3 h1 hQ;show wpListIn (Fw ro) n P ops Q (o :: (l++op :: rest)) a w;unfold wpListIn;by_cases hw:Region.wanted o (yielded ops a.tmps)=true
  ·rw [aT hw] at h1 ⊢; exact h1
  ·rw [aW hw] at h1 ⊢; exact ⟨λ _ _=>trivial,h1⟩
def Pp (c:Cf) (qs:List Nat):List Oper->List (List Nat)->Bool
 | o :: l,F :: Fs=>(!Ju c o || !SH F qs) && Pp c qs l Fs
 | [],_=>true
 | _,[]=>false
theorem aIo {qs:List Nat}:∀ {l:List Oper} {Fs:List (List Nat)},Pp c qs l Fs=true->∀ (j:Nat) o F,l[j]?=some o->Fs[j]?=some F->Eu c o->∀ q ∈ qs,q ∉ F:=by
 intro l
 induction l with
 | nil=>intro Fs h j o F hj; simp at hj
 | cons x l ih=>
  intro Fs h j o F hj hF hw q hq;cases Fs with
  | nil=>simp [Pp] at h
  | cons G Fs=>
   simp only [Pp,aX] at h;cases j with
   | succ j=>exact ih h.2 j o F (by simpa using hj) (by simpa using hF) hw q hq
   | zero=>
    simp at hj hF; subst hj; subst hF;have hx:Ju c x=true:=by unfold Ju; rw [show cX (qK c x) x.op=.wr from hw]
    have h1:=h.1;rw [hx] at h1;simp at h1;exact λ hm=>SI h1 q hm hq
def F8 (t:Nat):List Oper->Bool
 | []=>true
 | o :: l=>(match o.dst with
  | some d=>!Nat.beq d t
  | none=>true) && F8 t l
theorem aBr {t:Nat}:∀ {l:List Oper},F8 t l=true->∀ o ∈ l,o.dst ≠ some t:=by
 intro l
 induction l with
 | nil=>intro h o ho; cases ho
 | cons x l ih=>
  intro h o ho hd;simp only [F8,aX] at h;rcases mR.1 ho with rfl | ho
  ·have h1:=h.1;rw [hd] at h1;simp at h1
  ·exact ih h.2 o ho hd
def Ev (lk:List Tmp):List Oper->Bool
 | []=>true
 | o :: l=>(match o.dst with
  | some d=>!Bj d lk
  | none=>true) && Ev lk l
theorem Yv {lk:List Tmp}:∀ {l:List Oper},Ev lk l=true->∀ o ∈ l,∀ d,o.dst=some d->d ∉ lk:=by
 intro l
 induction l with
 | nil=>intro h o ho; cases ho
 | cons x l ih=>
  intro h o ho d hd hm;simp only [Ev,aX] at h;rcases mR.1 ho with rfl | ho
  ·have h1:=h.1;rw [hd] at h1;simp only [yJ.2 hm] at h1;cases h1
  ·exact ih h.2 o ho d hd hm
end
section
variable {ro:Option Nat} {n:Nat} {P:Program} {c c1:Cf} {ops:Array Oper} {β:Type} {r:β} {S:Nat->St × fE} {Fs:List (List Nat)} {B:Bs} {w0 w:World} {ρ:Plc} {s:St} {a:Act}
theorem Pq (hΓ:CfOk P c1) (h:Run P c ops S Fs) {p:Nat} {op:Oper} (hp:ops[p]?=some op) (hpg:op.guard=none)
  (hne:∀ i o,ops[i]?=some o->i ≠ p->∀ G s,kD P c ops G o s lG=kD P c1 ops G o s lG) {qs:List Nat} (hfr:Pp c qs ops.toList Fs=true) (hlt:Ev (op.looksAt ops) (ops.toList.drop p)=true)
  {Q:Exit->Act->World->Prop}
  (hpan:∀ s2 a w ρ,Rel B w0 ρ s2 a w->(∀ t ∈ op.looksAt ops,s2.get t=(S ops.size).1.get t)->(∀ q ∈ qs,pE s2 q=pE (S 0).1 q)->(∀ t,F8 t ops.toList=true->s2.get t=(S 0).1.get t)->s2.sz=(S 0).1.sz->∀ next,op.wpIn (Fw ro) n P a w next Q) :
  ∀ (fuel:Nat) (listed:Array Bool) (s2:St) (G2:fE) (a:Act) (w:World) (ρ:Plc),listed.size=ops.size->listed.toList.count false=fuel->Clo ops (Ff listed)->¬ Ff listed p->Inv c ops S (Ff listed) s2 G2->Rel B w0 ρ s2 a w->GR G2 a ->
   wpAnyIn (Fw ro) n P .any ops Q fuel listed a w:=by
 have hpl:=(uP.1 hp).1;intro fuel
 induction fuel with
 | zero=>
  intro listed s2 G2 a w ρ hsz hcnt hcl hnp inv hr hG;exfalso;have hi':p < listed.size:=by omega
  have:=Lt hcnt p (by simpa using hi');apply hnp;unfold Ff; simp [hi']; simpa using this
 | succ fuel ih=>
  intro listed s2 G2 a w ρ hsz hcnt hcl hnp inv hr hG;refine ⟨λ hnil=>?_,λ i hi=>?_⟩
  ·exfalso;apply hnp;have all:∀ i,i < ops.size->Ff listed i:=by
    intro i
    induction i using Nat.strongRecOn with
    | _ i ih2=>
     intro hi;by_cases hl:Ff listed i
     ·exact hl
     ·have ho:ops[i]?=some (ops[i]'hi):=by simp
      have:i ∈ Region.ready .any ops listed:=mem_ready.2 ⟨(Jv (by omega)).2 hl,_,ho,λ e he hb=>ih2 e.on (h.acy i _ ho e he hb) (by have:=h.acy i _ ho e he hb; omega)⟩;rw [hnil] at this; cases this
   exact all p hpl
  ·obtain ⟨h1,o,ho,h2⟩:=mem_ready.1 hi;have hlt0:=(uP.1 ho).1;have hlt':i < listed.size:=by omega
   have hL:¬ Ff listed i:=(Jv hlt').1 h1;obtain ⟨ag,vg⟩:=h.agree hcl inv ho hL h2;by_cases hip:i=p
   ·subst hip;rw [hp] at ho; cases ho;unfold wpOpIn;rw [hp];simp only [];have hw:Region.wanted op (yielded ops a.tmps)=true:=by simp [Region.wanted,hpg]
    rw [aT hw];have tx:=h.text i (by omega);have te:=h.text ops.size (bV _);refine hpan s2 a w ρ hr (λ t ht=>?_) (λ q hq=>?_) (λ t ht=>(inv.ini t λ i o hi _=>aBr ht o (by have:=Array.mem_of_getElem? hi; simpa using this)).1) inv.sz _
    ·rw [<-ag.get t ht];by_cases hex:∃ (j:Nat) (oj:Oper),ops[j]?=some oj /\ oj.dst=some t
     ·obtain ⟨j,oj,hj,hd⟩:=hex;have hjs:=(uP.1 hj).1;have hji:j < i:=by
       rcases pS j i with hlt1 | hge
       ·exact hlt1
       ·exfalso;refine Yv hlt oj ?_ t hd ht;refine PN.2 ⟨j - i,?_⟩;rw [mO,show i+(j - i)=j by omega];simpa using hj
      exact (tx.wrt j oj t hj hji hd).1.trans (te.wrt j oj t hj hjs hd).1.symm
     ·exact (tx.ini t λ k ok hk _ hkd=>hex ⟨k,ok,hk,hkd⟩).1.trans (te.ini t λ k ok hk _ hkd=>hex ⟨k,ok,hk,hkd⟩).1.symm
    ·obtain ⟨m,m0,m1,_⟩:=inv.vt q;rw [m1];refine h.frame (pW _) m0 λ j oj _ _ hj hwj hqj=>?_;exact aIo hfr j oj _ (by simpa using hj) (h.fs j oj hj) hwj q hq hqj
   ·obtain ⟨s2',G2',q1,q2⟩:=BN (P:=P) (c:=c) (ops:=ops) h.hE (O0 (h.ok.one i o ho)) ag vg (h.step i o ho);have hcl':Clo ops (Ff (listed.setIfInBounds i true)):=⟨λ k ok hk hlk e he hb=>by
     rw [EQ hlt'] at hlk ⊢;rcases hlk with hlk | rfl
     ·exact .inl (hcl.cl k ok hk hlk e he hb)
     ·rw [ho] at hk; cases hk;exact .inl (h2 e he hb)⟩
    have inv':Inv c ops S (Ff (listed.setIfInBounds i true)) s2' G2':=by
     refine (inv.next h ho hL q2 (λ j oj q hj hwi hwj hqi hqj=>⟨λ hji=>?_,λ hij=>?_⟩) (λ g wt hg=>?_)).mono λ k _=>(EQ hlt').symm
     ·by_cases hb:bef ops j i
      ·exact h.listed hcl ho h2 hb
      ·exact absurd hqi ((h.apart hj ho hji hb).2.2 (.inl hwj) q hqj)
     ·intro hl;by_cases hb:bef ops i j
      ·exact hL (h.listed hcl hj (hcl.cl j oj hj hl) hb)
      ·exact absurd hqj ((h.apart ho hj hij hb).2.2 (.inl hwi) q hqi)
     ·obtain ⟨_,e,he,hb,rfl⟩:=h.guard ho hg;exact h2 e he hb
    have hcnt':(listed.setIfInBounds i true).toList.count false=fuel:=by
     have hge:listed.toList[i]'(by simpa using hlt')=false:=by
      have:=h1;simp [hlt'] at this; simpa using this
     rw [Ye,List.count_set (by simpa using hlt'),hcnt,hge];simp
    rw [hne i o ho hip] at q1;have h1:=Hw (ro:=ro) (n:=n) (Q:=Q) hΓ hr hG q1 (λ s3 G3 a3 w3 ρ3 e3 r3 g3=>by
     simp only [lG,lF,uX] at e3;obtain ⟨rfl,rfl⟩:=e3;refine ih _ _ _ a3 w3 ρ3 (by simpa using hsz) hcnt' hcl' ?_ inv' r3 g3;rw [EQ hlt'];rintro (hl | rfl)
     ·exact hnp hl
     ·exact hip rfl)
    unfold wpOpIn;rw [ho];simp only [];by_cases hw:Region.wanted o (yielded ops a.tmps)=true
    ·rw [aT hw] at h1 ⊢; exact h1
    ·rw [aW hw] at h1 ⊢; exact ⟨λ _ _=>trivial,h1⟩
theorem Sz (hm:P.follows .mixedOrders=true) (hΓ:CfOk P c1) {p:Nat} {op:Oper} (hp:ops[p]?=some op) (hpg:op.guard=none)
  (hne:∀ i o,ops[i]?=some o->i ≠ p->∀ G s,kD P c.quiet ops G o s lG=kD P c1.quiet ops G o s lG) {qs:List Nat} (hlt:Ev (op.looksAt ops) (ops.toList.drop p)=true)
  (hs:Rel B w0 ρ s a w) {se:St} (h:GY P c.quiet ops ops.toList [] (s.lift (yI ops.toList)) [] (λ s' F=>cond (Ga c.quiet ops 0 ops.toList F (SG ops) && Pp c.quiet qs ops.toList F) (some s') none)=some se) {id:Nat} {Q:Exit->Act->World->Prop}
  (hpan:∀ s2 a w ρ,Rel B w0 ρ s2 a w->(∀ t ∈ op.looksAt ops,s2.get t=se.get t)->(∀ k,k+1 ∈ qs->bU s2.hp k=bU s.hp k)->(∀ t,F8 t ops.toList=true->s2.get t=s.get t)->s2.sz=s.sz->∀ next,op.wpIn (Fw ro) n P a w next Q):(Code.region id ops true).wpIn (Fw ro) n P Q a w:=by
 obtain ⟨S,e0,hst,Fs,hl,hfs,hk⟩:=EP ops.toList [] (s.lift (yI ops.toList)) [] h;obtain ⟨hok,hk⟩:=aY hk;simp only [rI,aX] at hok;have hk:=dG hk;have hrun:Run P c.quiet ops S Fs:=⟨rfl,by rw [e0],λ i o ho=>hst i o (by simpa using ho),λ i o ho=>hfs i o (by simpa using ho),Ok.of hok.1⟩;refine wpIn_region_any hm (Pq (B:=B) (w0:=w0) hΓ.quiet hrun hp hpg hne hok.2 hlt (λ s2 a w ρ hr h1 h2 h4 h5=>hpan s2 a w ρ hr (λ t ht=>?_) (λ k hq=>?_) (λ t ht=>by rw [h4 t ht,e0]; rfl) (by rw [h5,e0]; rfl)) ops.size _ (s.lift (yI ops.toList)) [] a _ ρ (by simp) (by simp [List.count_replicate]) ⟨λ i o _ hL=>?_⟩ ?_ ?_ ?_ ?_)
 ·rw [h1 t ht,<-hk]; simp
 ·have h3:=h2 (k+1) hq;rw [e0] at h3;simp only [pE,Sum.inr.injEq] at h3;exact h3
 ·simp [Ff,Array.getD] at hL
 ·intro hL; simp [Ff,Array.getD] at hL
 ·have t0:=hrun.text 0 (pW _);rw [e0] at t0;refine t0.mono λ i hi=>⟨λ h=>by omega,λ h=>?_⟩;simp [Ff,Array.getD] at h
 ·exact (hs.lift _).drew
 ·intro d tg want p hp; simp at hp
end
end
open Go Go.Proofs Go.RowKit
set_option linter.all false
set_option maxRecDepth 100000
def xH (e:Int):PanicEntry:={ v:=.iface 82 (.agg #[.int .i64 e]),recovered:=false }
theorem MQ {e:Int} (he:e ≠ 0) (x:Value) (w:World) :
  Calls prog 16 #[x,.int .i64 e] w λ r w'=>r=.panicked [xH e] /\ Below w.heap.size w w':=by
 go_enter_defers Tryz.func16,Tryz.ntmps16
 go_wp2
 exact ⟨rfl,Below.refl _ _⟩
theorem H8 {n:Nat} {w:World} (h:n <= w.heap.size) (o:Obj):Below n w (w.alloc o):=⟨rfl,rfl,rfl,by simp,λ k hk=>Below.heap_alloc _ _ _ (by omega)⟩
theorem MR {e:Int} (he:e ≠ 0) (cs:Array Value) (w:World) :
  Calls prog 18 #[.agg cs,.int .i64 e] w λ r w'=>r=.panicked [xH e] /\ Below w.heap.size w w':=by
 go_enter_defers Tryz.func18,Tryz.ntmps18
 go_wp2
 exact ⟨rfl,(H8 (bV _) _).trans (H8 (by simp) _)⟩
theorem Ps (p:Value) (w:World) :
  CallsD prog 15 #[p] .returning w λ e u' w'=>e=.returned (.tuple #[]) /\ u'=.returning /\ w'=w:=by
 refine callsD_of_wpS Tryz.func15 rfl λ c₀ cs hu=>?_;apply wpS_seq;apply wpS_region;simp [wpOpsS,go_sem,recoverD,hu,Tryz.ntmps15,Exit.thenS];refine wpS_of_wp ?_;simp only [Array.replicate]
 go_wp2
 cases c₀
 simp_all [bodyPostS,results,Tryz.results15]
theorem Pu (b:Nat) (e:Int) (w:World) {v:Value} (h:w.cell? ⟨b,0,none⟩=some v) (hp:b < w.heap.size) (hfz:w.frozen? ⟨b,0,none⟩=false) :
  CallsD prog 15 #[.pointer (some ⟨b,0,none⟩)] (.panicking [xH e]) w λ r u' w'=>r=.returned (.tuple #[]) /\ u'=.panicking [{ xH e with recovered:=true }] /\ ∃ o,w'=(w.setCell ⟨b,0,none⟩ (.int .i64 e)).alloc o:=by
 have hta:∀ w:World,(Instr.typeAssert (.iface 82 (.agg #[.int .i64 e])) 20 82 true).run prog w=.ok (.tuple #[.agg #[.int .i64 e],.bool true]) w:=λ _=>by kernel_rfl
 refine callsD_of_wpS Tryz.func15 rfl λ c₀ cs hu=>?_;apply wpS_seq;apply wpS_region;simp [wpOpsS,go_sem,recoverD,hu,Tryz.ntmps15,Exit.thenS,xH];refine wpS_of_wp ?_;simp only [Array.replicate]
 go_wp2
 exact ⟨rfl,_,rfl,_,by simp [results,Tryz.results15],rfl,rfl,_,rfl⟩
open Go Go.Proofs
def aQK:Summ where
 T:=List Int
 run:=λ
  | [.c (.s (.pl (.str s)))]=>cond (Nat.beq s.length 32) (some (s.map lO)) none
  | _=>none
 enc:=lS
def KM:FA (List Int):=aQK.run
def aXi:Summ:={ T:=Str,run:=wK λ a=>a.map b8,enc:=λ t=>.str t }
def aXj:FA Str:=aXi.run
def S0:Summ where
 T:=Str
 run:=λ
  | [.c (.s (.pl (.str s))),.c (.s (.pl (.int .i64 e)))]=>cond (decide (e=0)) (some s) none
  | _=>none
 enc:=λ t=>.str t
def xI:FA Str:=S0.run
def S1:Summ where
 T:=List Int
 run:=λ
  | [.c (.s (.pl (.agg (.ints .u8 a) 32))),.c (.s (.pl (.int .i64 e)))]=>cond (fR a && decide (e=0)) (some a) none
  | _=>none
 enc:=lS
def aBs:FA (List Int):=S1.run
def aBt:List SV->Option (List Int)
 | .pl (.str _) :: .pl (.str _) :: .pl (.str _) :: r=>match Rc (r.take 8),Lh (r.drop 8) with
  | some o,some p=>cond (Nat.beq o.length 8 && fR p) (some p) none
  | _,_=>none
 | _=>none
def Yw (p:List Int) (t:List Int × Int):(Str × Str) × Int:=cond (decide (t.2=0)) ((t.1.map b8,p.map b8),0) (([],[]),t.2)
def H9 (p:List Int) (k:Nat) (s:Str):(Str × Str) × Int:=cond (Nat.beq s.length 32) (Yw p (oP k (s.map lO))) (([],[]),4)
def zS:Summ where
 T:=(Str × Str) × Int
 run:=λ
  | [.c (.mix l),.c (.s (.pl (.agg (.ints .u64 k) 8))),.c (.s (.pl (.agg (.strs [s]) 1)))]=>match aBt l with
   | some p=>cond (jO k && Nat.ble s.length 1099511627776) (some (H9 p (val k) s)) none
   | none=>none
  | _=>none
 enc:=λ t=>.tup [.s (.pl (.agg (.strs [t.1.1,t.1.2]) 2)),.s (.pl (.int .i64 t.2))]
def aBu:FA ((Str × Str) × Int):=zS.run
def aBv:Summ where
 T:=List Int
 run:=λ
  | [.c (.s (.pl (.str s)))]=>cond (Nat.beq s.length 32) (some (s.map lO)) none
  | _=>none
 enc:=lS
def aN6:FA (List Int):=aBv.run
theorem Kp {α:Type} (l:List α) (i:Nat) (h:i < l.length) (d:α):l.drop i=l.getD i d :: l.drop (i+1):=by
 rw [Cx h,fU,oD h]; rfl
theorem aIp {l:List Int} {n:Nat} (h:aFz l n=true):n=l.length /\ l.length <= 1048576 /\ ∀ x ∈ l,-9223372036854775808 <= x /\ x < 9223372036854775808:=by
 simp only [aFz,aX] at h;exact ⟨aS h.1.1,cF h.1.2,λ x hx=>jN (rG.1 h.2 x hx)⟩
theorem aIq {l:List Str} {n:Nat} (h:UU l n=true):n=l.length /\ l.length <= 1048576 /\ l.flatten.length <= 1099511627776:=by
 simp only [UU,aX] at h;exact ⟨aS h.1.1,cF h.1.2,cF h.2⟩
theorem Yx {ss:List Str} (h1:ss.length <= 1048576) (h2:ss.flatten.length <= 1099511627776):Ah [.s (.dat (.strs ss) ss.length 1),.str []]=some ss.flatten:=by
 have e:(Nat.beq ss.length ss.length && Nat.ble ss.length zC && Nat.ble (Lib.join ss []).length zC)=true:=by
  rw [BQ,lB,iX (cK h1 (by decide)),iX (cK h2 (by decide))]; rfl
 simp only [Ah,Rz];rw [e,aB,BQ]
noncomputable abbrev VW:Cg:=JG (List UInt8) Ah (λ t=>t)
theorem aBw:CfOk prog VW.c:=gk <| aA Ox <| aK
theorem aIr (a:List Int) (b:List Str) (hl:a.length=b.length) (h1:b.length <= 1048576) (h2:b.flatten.length <= 1099511627776) (fu:Nat):∀ (d n i:Nat),i+d=a.length->d < n ->
  eS prog VW fu N8 (HQ _ Ah (λ t=>t) fu) n (some (HP b b.length a a.length (a.length:Int) (i:Int)))=some (FE.enc (cond (aAd (a.drop i) (b.drop i)) (b.flatten,0) ([],4))):=by
 intro d
 induction d with
 | zero=>
  intro n i hi hn;obtain ⟨n,rfl⟩:=aP (by omega:n ≠ 0);rw [aF,XO,aH (by omega),aD,aR,aAe,Yx h1 h2,aC,Fu (by omega)]; rfl
 | succ d ih=>
  intro n i hi hn;obtain ⟨n,rfl⟩:=aP (by omega:n ≠ 0);have h:=ih n (i+1) (by omega) (by omega);rw [Kp a i (by omega) 0,Kp b i (by omega) [],aAd,aF,XO,aE (by omega),aB,aE (by omega),aB,aE (by omega),aB,bE];by_cases c:(((b.getD i []).length:Nat):Int)=a.getD i 0
  ·rw [aE c,jW,aD,jX,bY (by omega) (by omega)];exact h
  ·rw [aH c,lL,aB,pC,aR,aFA]; rfl
theorem Pv:CallOk prog 33 FE:=by
 refine aZ (fu:=λ args=>match args with | .c (.s (.dat _ n _)) :: _=>n+1 | _=>0) aBw Tryz.func33 ?_;intro args t ht;unfold FE at ht;simp only at ht;split at ht
 ·rename_i l n ps m;obtain ⟨h1,h2⟩:=cC ht;subst h2;rw [aX] at h1;obtain ⟨e1,e2,e3⟩:=aIp h1.1;obtain ⟨f1,f2,f3⟩:=aIq h1.2;subst e1 f1;refine (aLQ ..).trans ?_;rw [CI];by_cases c:l.length=ps.length
  ·rw [aE (by omega),jW,aD,show Nat.beq l.length ps.length=true by rw [c]; exact lB _,aB];exact aIr l ps c f2 f3 _ l.length _ 0 (by omega) (lD _)
  ·rw [aH (by omega),lL,aB,show Nat.beq l.length ps.length=false from iP c]; rfl
 ·cases ht
theorem Yy {l:List Int} {ps:List Str} {n m:Nat} (h1:aFz l n=true) (h2:UU ps m=true):UV [.s (.dat (.ints .i64 l) n 1),.s (.dat (.strs ps) m 1)]=some (CI l ps):=by
 have e:(aFz l n && UU ps m)=true:=by rw [h1,h2]; rfl
 simp only [UV,FE,e,aB]
theorem aIs {l:List Str} {n:Nat} (h1:n=l.length) (h2:l.length <= 1048576) (h3:l.flatten.length <= 1099511627776):UU l n=true:=by
 subst h1;rw [UU,lB,iX h2,iX h3]; rfl
noncomputable abbrev aQL:Cg:=aPo 
theorem aIt:CfOk prog aQL.c:=gk <| aK
theorem aQM:CallOk prog 34 aYE:=by
 refine i7 aIt Tryz.func34 ?_;intro args t ht;unfold aYE UW at ht;simp only at ht;split at ht
 ·cases ht; exact aVl ..
 ·cases ht
noncomputable abbrev aQN:Cg:=aPp (PUnit) aYF (Str × Int) UV (λ t=>t.fst) (λ t=>t.snd)
theorem aIu:CfOk prog aQN.c:=gk <| aA aQM <| aA Pv <| aK
theorem aIv {ss:List Str} (h:ss.length=1) (h2:ss.flatten.length <= 1099511627776):N7 [.agg (.strs ss) 1]=some (CI [32] ss):=by
 have e:(Nat.beq 1 1 && Nat.beq ss.length 1 && Nat.ble ss.flatten.length 1099511627776)=true:=by rw [h,iX h2]; rfl
 simp only [N7,N6,e,aB]
theorem aBx:CallOk prog 17 aYD:=by
 refine i7 aIu Tryz.func17 ?_;intro args t ht;unfold aYD aYC at ht;simp only [N6] at ht;split at ht
 ·rename_i ss n;obtain ⟨h1,h2⟩:=cC ht;subst h2;simp only [aX] at h1;have e1:=aS h1.1.1;have e2:=aS h1.1.2;have e3:=cF h1.2;subst e1
  match ss,e2 with
  | [a],_=>
   refine (aVm ..).trans ?_;rw [show aYF []=some () from rfl,aC];have r:=Yy (l:=[32]) (ps:=[a]) (n:=1) (m:=1) (by decide) (aIs rfl (by simp) e3);refine iR (dQ (λ z=>Option.bind z _) r) ?_;rfl
 ·cases ht
noncomputable def aN7:Cg:=⟨⟨dE [],[],dR⟩,[]⟩
theorem aQO (fu:Nat) (s:Str):bB prog Tryz.f20 aN7 fu [.str s]=bif (List.length s).beq 32 && true then some (AV.agg (.ints .u8 (List.map (λ (c:UInt8)=>(c.toNat:Int)) s)) 32) else none:=by kernel_rfl
noncomputable def aN8:Cg:=⟨⟨dE [],[],dR⟩,[]⟩
theorem aQP (fu:Nat) (a:List Int):bB prog Tryz.f21 aN8 fu [.agg (.ints .u8 a) 32]=some (AV.str (List.map b8 (List.take 32 (List.drop 0 a)))):=by kernel_rfl
noncomputable def aN9:Cg:=⟨⟨dE [],[],dR⟩,[]⟩
theorem aQQ (fu:Nat) (s:Str):bB prog Tryz.f16 aN9 fu [.str s,.int .i64 0]=some (AV.str s):=by kernel_rfl
noncomputable def aOa:Cg:=⟨⟨dE [],[],dR⟩,[]⟩
theorem aQR (fu:Nat) (a:List Int):bB prog Tryz.f18 aOa fu [.agg (.ints .u8 a) 32,.int .i64 0]=some (AV.agg (.ints .u8 a) 32):=by kernel_rfl
noncomputable def Pw:Cg:=⟨⟨dE [],[],dR⟩,[(4,[0,2,3,4],[2,3])]⟩
noncomputable def MS (s0:Str) (v4:Int) (aQ bA:List Int):St:={ tm:=[(0,.str s0),(2,.s (.ptr 0 0 32)),(3,.s (.ptr 1 0 32)),(4,.int .i64 v4)],hp:=[(0,{ ty:=23,n:=32,row:=Row.t (.ints .u8 aQ) }),(1,{ ty:=23,n:=32,row:=Row.t (.ints .u8 bA) })],nx:=2,sz:=21 }
noncomputable def S2:Code:=cM (bN [1,1,0,1,2] (bD Tryz.f10))
noncomputable def aBy (fu:Nat):=lP prog Pw fu [1,1,0,1,2] (bD Tryz.f10) (fT prog Tryz.f10)
noncomputable abbrev aQS (fu:Nat) (s0:Str) (v4:Int) (aQ bA:List Int):=eS prog Pw fu S2 (aBy fu ) fu (some (MS s0 v4 aQ bA))
theorem aQT (fu:Nat) (s:Str):bB prog Tryz.f10 Pw fu [.str s]=aQS fu s 0 [0,0,0,0,0,0,0,0,0,0,0,0,0,0,0,0,0,0,0,0,0,0,0,0,0,0,0,0,0,0,0,0] [0,0,0,0,0,0,0,0,0,0,0,0,0,0,0,0,0,0,0,0,0,0,0,0,0,0,0,0,0,0,0,0]:=by kernel_rfl
noncomputable def DI (aQ bA:List Int):St:={ tm:=[(2,.s (.ptr 0 0 32)),(3,.s (.ptr 1 0 32))],hp:=[(0,{ ty:=23,n:=32,row:=Row.t (.ints .u8 aQ) }),(1,{ ty:=23,n:=32,row:=Row.t (.ints .u8 bA) })],nx:=2,sz:=21 }
theorem aBz {β:Type} (fu:Nat) (G:FG β) (H:FH β) (s0:Str) (v4:Int) (aQ bA:List Int):fI prog Pw fu S2 G H (MS s0 v4 aQ bA)=bif decide (v4 < 32) then bif decide (v4 < (↑(List.length s0):Int)) then bif decide (0 <= v4 /\ v4 < (↑(List.length s0):Int)) then bif decide (0 <= v4 /\ v4 < 32) then G (some (MS s0 (i64.wrap (v4+1)) aQ (bA.set (0+v4.toNat) (↑(List.getD s0 v4.toNat (0:UInt8)).toNat:Int)))) else none else none else H (Ex.exit 0) (some (DI aQ bA)) else H (Ex.exit 0) (some (DI aQ bA)):=by kernel_rfl
theorem aBA (fu:Nat) (aQ bA:List Int):aBy fu  (Ex.exit 0) (DI aQ bA)=some (AV.agg (.ints .u8 bA) 32):=by kernel_rfl
section
variable (T0:Type) (R0:FA T0) (T1:Type) (R1:FA T1) (aN bI gV gW iL f1f f1g f1h:T1->Int) (T2:Type) (R2:FA T2) (bC bW:T2->List UInt8) (dW:T2->Int) (T3:Type) (R3:FA T3) (bO:T3->List Int) (cI:T3->Nat) (T4:Type) (R4:FA T4) (eV:T4->List Int) (jS:T4->Nat) (T5:Type) (R5:FA T5) (fW:T5->List Int) (T6:Type) (R6:FA T6) (oH:T6->Str) (oI:T6->Int) (T7:Type) (R7:FA T7) (xA:T7->List UInt8)
noncomputable def aOb:Cg:=⟨⟨dE [(4,⟨R0,λ t=>AV.bool (true)⟩),(6,⟨R1,λ t=>aU [(aN t),(bI t),(gV t),(gW t),(iL t),(f1f t),(f1g t),(f1h t)] 8⟩),(5,⟨R2,λ t=>AV.tup [.s (.pl (.agg (.strs [(bC t),(bW t)]) 2)),.s (.pl (.int .i64 (dW t)))]⟩),(9,⟨R3,λ t=>AV.s (dI (bO t) (cI t))⟩),(8,⟨R4,λ t=>AV.s (dI (eV t) (jS t))⟩),(10,⟨R5,λ t=>AV.agg (.ints .u8 (fW t)) 32⟩),(7,⟨R6,λ t=>AV.tup [.s (.pl (.str (oH t))),.s (.pl (.int .i64 (oI t)))]⟩),(11,⟨R7,λ t=>AV.str (xA t)⟩)],[],dR⟩,[]⟩
theorem aQU (fu:Nat) (p0 p1 p2 p3 p4 p5 p6 p7 p8 p9 p10 p11 p12 p13 p14 p15 p16 p17 p18 p19 p20 p21 p22 p23 p24 p25 p26 p27 p28 p29 p30 p31:Int) (k:List Int) (s:Str):bB prog i6 (aOb T0 R0 T1 R1 aN bI gV gW iL f1f f1g f1h T2 R2 bC bW dW T3 R3 bO cI T4 R4 eV jS T5 R5 fW T6 R6 oH oI T7 R7 xA) fu [.agg (.ints .u8 [p0,p1,p2,p3,p4,p5,p6,p7,p8,p9,p10,p11,p12,p13,p14,p15,p16,p17,p18,p19,p20,p21,p22,p23,p24,p25,p26,p27,p28,p29,p30,p31]) 32,.agg (.ints .u8 k) 32,.str s]=(R0 []).bind λ t=>bif decide (200 < (↑(List.length s):Int)) then some (AV.bool true) else (R1 [.agg (.ints .u8 k) 32]).bind λ t=>(R2 [.c (.mix [.pl (.str []),.pl (.str []),.pl (.str []),.pl (.int .u64 0),.pl (.int .u64 0),.pl (.int .u64 0),.pl (.int .u64 0),.pl (.int .u64 0),.pl (.int .u64 0),.pl (.int .u64 0),.pl (.int .u64 0),.pl (.int .u8 p0),.pl (.int .u8 p1),.pl (.int .u8 p2),.pl (.int .u8 p3),.pl (.int .u8 p4),.pl (.int .u8 p5),.pl (.int .u8 p6),.pl (.int .u8 p7),.pl (.int .u8 p8),.pl (.int .u8 p9),.pl (.int .u8 p10),.pl (.int .u8 p11),.pl (.int .u8 p12),.pl (.int .u8 p13),.pl (.int .u8 p14),.pl (.int .u8 p15),.pl (.int .u8 p16),.pl (.int .u8 p17),.pl (.int .u8 p18),.pl (.int .u8 p19),.pl (.int .u8 p20),.pl (.int .u8 p21),.pl (.int .u8 p22),.pl (.int .u8 p23),.pl (.int .u8 p24),.pl (.int .u8 p25),.pl (.int .u8 p26),.pl (.int .u8 p27),.pl (.int .u8 p28),.pl (.int .u8 p29),.pl (.int .u8 p30),.pl (.int .u8 p31)]),aU [aN t,bI t,gV t,gW t,iL t,f1f t,f1g t,f1h t] 8,.agg (.strs [s]) 1]).bind λ t=>bif !decide ((↑(List.length s):Int)=32) then bif decide (dW t=4) then some (AV.bool (decide (bC t=[]) && (decide (bW t=[]) && true))) else some (AV.bool false) else (R3 [.agg (.ints .u8 k) 32]).bind λ dH=>(R4 [.s (dI (bO dH) (cI dH))]).bind λ eU=>(R5 [.str s]).bind λ gE=>(R6 [.s (dI (eV eU) (jS eU)),.agg (.ints .u8 (fW gE)) 32]).bind λ gT=>bif !decide (oI gT=0) then bif decide (dW t=oI gT) then some (AV.bool (decide (bC t=[]) && (decide (bW t=[]) && true))) else some (AV.bool false) else bif decide (dW t=0) then (R7 [.agg (.ints .u8 [p0,p1,p2,p3,p4,p5,p6,p7,p8,p9,p10,p11,p12,p13,p14,p15,p16,p17,p18,p19,p20,p21,p22,p23,p24,p25,p26,p27,p28,p29,p30,p31]) 32]).bind λ gJ=>some (AV.bool (decide (bC t=oH gT) && (decide (bW t=xA gJ) && true))) else some (AV.bool false):=by kernel_rfl
end
set_option maxRecDepth 4000
noncomputable abbrev aQV:Cg:=aN7 
theorem aIw:CfOk prog aQV.c:=gk <| aK
theorem aBB:CallOk prog 20 aQK:=by
 refine i7 aIw Tryz.func20 ?_;intro args t ht;unfold aQK at ht;simp only at ht;split at ht
 ·rename_i s;obtain ⟨h1,h2⟩:=cC ht;subst h2;refine (aQO ..).trans ?_;rw [h1]; rfl
 ·cases ht
theorem VX {s:Str} (h:s.length=32):KM [.str s]=some (s.map lO):=by
 show cond (Nat.beq s.length 32) (some (s.map lO)) none=_;rw [h]; rfl
noncomputable abbrev aQW:Cg:=aN8 
theorem aIx:CfOk prog aQW.c:=gk <| aK
theorem aQX:CallOk prog 21 aXi:=by
 refine i7 aIx Tryz.func21 ?_;intro args t ht;obtain ⟨a,rfl,ha,rfl⟩:=nI (F:=λ a=>a.map b8) ht;refine (aQP ..).trans ?_;rw [kU,fB (by rw [(j3 ha).1]; exact bV _)]; rfl
theorem MT {a:List Int} (h:fR a=true):aXj [lS a]=some (a.map b8):=xO (λ a=>a.map b8) h
noncomputable abbrev aQY:Cg:=aN9 
theorem aIy:CfOk prog aQY.c:=gk <| aK
theorem Px:CallOk prog 16 S0:=by
 refine i7 aIy Tryz.func16 ?_;intro args t ht;unfold S0 at ht;simp only at ht;split at ht
 ·rename_i s e;obtain ⟨h1,h2⟩:=cC ht;subst h2;have h1:=jN h1;subst h1;exact aQQ ..
 ·cases ht
noncomputable abbrev aQZ:Cg:=aOa 
theorem aIz:CfOk prog aQZ.c:=gk <| aK
theorem aBC:CallOk prog 18 S1:=by
 refine i7 aIz Tryz.func18 ?_;intro args t ht;unfold S1 at ht;simp only at ht;split at ht
 ·rename_i a e;obtain ⟨h1,h2⟩:=cC ht;subst h2;rw [aX] at h1;have h1:=jN h1.2;subst h1;exact aQR ..
 ·cases ht
theorem Yz {a:List Int} (h:fR a=true):aBs [lS a,.int .i64 0]=some a:=by
 show cond (fR a && decide ((0:Int)=0)) (some a) none=_;rw [h]; rfl
noncomputable abbrev aBD:Cg:=Pw 
theorem aIA:CfOk prog aBD.c:=gk <| aK
theorem aQ0 (s:Str) (i:Nat) (h:i < s.length):(s.map lO).getD i 0=((s.getD i 0).toNat:Int):=by
 rw [fU,fU,kV,oD h]; rfl
theorem aIB {s:Str} (hs:s.length=32) (z:List Int) (fu:Nat) (K:Ex->St->Option AV):∀ (d n i:Nat),i+d=32->d < n ->
  eS prog aBD fu S2 K n (some (MS s (i:Int) z ((s.map lO).take i++List.replicate (32 - i) 0)))=Ak K (.exit 0) (some (DI z (s.map lO))):=by
 have hl:(s.map lO).length=32:=by rw [iA,hs]
 intro d
 induction d with
 | zero=>
  intro n i hi hn;obtain ⟨n,rfl⟩:=aP (by omega:n ≠ 0);have e:i=32:=by omega
  subst e;rw [aF,aBz,aH (by omega),aD,i0,uQ,i8,fB (by omega)]
 | succ d ih=>
  intro n i hi hn;obtain ⟨n,rfl⟩:=aP (by omega:n ≠ 0);have h:=ih n (i+1) (by omega) (by omega);have w1:i64.wrap ((i:Int)+1)=((i+1:Nat):Int):=bY (by omega) (by omega);rw [aF,aBz,aE (by omega),aB,aE (by omega),aB,aE (by omega),aB,aE (by omega),aB,w1,bE,bS,<-aQ0 s i (by omega),Ww (s.map lO) 32 i hl (by omega)];exact h
theorem aIC:CallOk prog 10 aBv:=by
 refine aZ (fu:=λ _=>40) aIA Tryz.func10 ?_;intro args t ht;unfold aBv at ht;simp only at ht;split at ht
 ·rename_i s;obtain ⟨h1,h2⟩:=cC ht;subst h2;have h1:=aS h1;refine (aQT ..).trans ?_;refine (aIB h1 _ 40 _ 32 40 0 rfl (by decide)).trans ?_;rw [aR];exact aBA ..
 ·cases ht
theorem aBE {s:Str} (h:s.length=32):aN6 [.str s]=some (s.map lO):=by
 show cond (Nat.beq s.length 32) (some (s.map lO)) none=_;rw [h]; rfl
theorem IA (s:Str) (h:s.length=32):fR (s.map lO)=true:=by
 unfold fR;rw [iA,h,aX];exact ⟨rfl,Ha s⟩
set_option maxRecDepth 4000
noncomputable section
def svK:Ex->St->Option St:=λ e s=>match e with
 | .normal=>some s
 | _=>none
def aID (o:Option St):St:=match o with
 | some s=>s
 | none=>⟨[],[],0,0⟩
def rQ (p:List Nat):Code:=bN p (bD Tryz.f5)
def aXk:Code->Array Oper
 | .region _ ops _=>ops
 | _=>#[]
def MU (p:List Nat):Array Oper:=aXk (rQ p)
def gRz:Cg:=⟨⟨dE [],[],dR⟩,[]⟩
section
variable (x0 x1 x2:Str) (o0 o1 o2 o3 o4 o5 o6 o7 p0 p1 p2 p3 p4 p5 p6 p7 p8 p9 p10 p11 p12 p13 p14 p15 p16 p17 p18 p19 p20 p21 p22 p23 p24 p25 p26 p27 p28 p29 p30 p31:Int) (k:List Int) (s:Str)
def sv0:St:=⟨wV [.c (.mix [.pl (.str x0),.pl (.str x1),.pl (.str x2),.pl (.int .u64 o0),.pl (.int .u64 o1),.pl (.int .u64 o2),.pl (.int .u64 o3),.pl (.int .u64 o4),.pl (.int .u64 o5),.pl (.int .u64 o6),.pl (.int .u64 o7),.pl (.int .u8 p0),.pl (.int .u8 p1),.pl (.int .u8 p2),.pl (.int .u8 p3),.pl (.int .u8 p4),.pl (.int .u8 p5),.pl (.int .u8 p6),.pl (.int .u8 p7),.pl (.int .u8 p8),.pl (.int .u8 p9),.pl (.int .u8 p10),.pl (.int .u8 p11),.pl (.int .u8 p12),.pl (.int .u8 p13),.pl (.int .u8 p14),.pl (.int .u8 p15),.pl (.int .u8 p16),.pl (.int .u8 p17),.pl (.int .u8 p18),.pl (.int .u8 p19),.pl (.int .u8 p20),.pl (.int .u8 p21),.pl (.int .u8 p22),.pl (.int .u8 p23),.pl (.int .u8 p24),.pl (.int .u8 p25),.pl (.int .u8 p26),.pl (.int .u8 p27),.pl (.int .u8 p28),.pl (.int .u8 p29),.pl (.int .u8 p30),.pl (.int .u8 p31)]),.agg (.ints .u64 k) 8,.agg (.strs [s]) 1] 0,[],0,28⟩
def sv1:St:=aID (fJ prog gRz 0 (rQ [0]) (sv0 x0 x1 x2 o0 o1 o2 o3 o4 o5 o6 o7 p0 p1 p2 p3 p4 p5 p6 p7 p8 p9 p10 p11 p12 p13 p14 p15 p16 p17 p18 p19 p20 p21 p22 p23 p24 p25 p26 p27 p28 p29 p30 p31 k s) svK)
theorem aQ1:fJ prog gRz 0 (rQ [0]) (sv0 x0 x1 x2 o0 o1 o2 o3 o4 o5 o6 o7 p0 p1 p2 p3 p4 p5 p6 p7 p8 p9 p10 p11 p12 p13 p14 p15 p16 p17 p18 p19 p20 p21 p22 p23 p24 p25 p26 p27 p28 p29 p30 p31 k s) svK=some (sv1 x0 x1 x2 o0 o1 o2 o3 o4 o5 o6 o7 p0 p1 p2 p3 p4 p5 p6 p7 p8 p9 p10 p11 p12 p13 p14 p15 p16 p17 p18 p19 p20 p21 p22 p23 p24 p25 p26 p27 p28 p29 p30 p31 k s):=by kernel_rfl
theorem aXl:(sv1 x0 x1 x2 o0 o1 o2 o3 o4 o5 o6 o7 p0 p1 p2 p3 p4 p5 p6 p7 p8 p9 p10 p11 p12 p13 p14 p15 p16 p17 p18 p19 p20 p21 p22 p23 p24 p25 p26 p27 p28 p29 p30 p31 k s).get 7=.s (.ptr 4 0 1):=by kernel_rfl
theorem aBF:(sv1 x0 x1 x2 o0 o1 o2 o3 o4 o5 o6 o7 p0 p1 p2 p3 p4 p5 p6 p7 p8 p9 p10 p11 p12 p13 p14 p15 p16 p17 p18 p19 p20 p21 p22 p23 p24 p25 p26 p27 p28 p29 p30 p31 k s).sz=28:=by kernel_rfl
def sv2:St:=match sv1 x0 x1 x2 o0 o1 o2 o3 o4 o5 o6 o7 p0 p1 p2 p3 p4 p5 p6 p7 p8 p9 p10 p11 p12 p13 p14 p15 p16 p17 p18 p19 p20 p21 p22 p23 p24 p25 p26 p27 p28 p29 p30 p31 k s with
 | ⟨tm,hp,nx,sz⟩=>⟨(28,.s (.ptr 4 0 1)) :: tm,hp,nx,sz⟩
variable (T0:Type) (R0:FA T0) (aG:T0->Str) (aM:T0->Int) (T1:Type) (R1:FA T1) (aN:T1->Str) (T2:Type) (R2:FA T2) (bC:T2->List Int)
 (T3:Type) (R3:FA T3) (bO:T3->List Int) (cI:T3->Int) (T4:Type) (R4:FA T4) (eV:T4->List Int) (T5:Type) (R5:FA T5) (fW:T5->Str)
def gRg:Cg:=⟨⟨dE [(17,⟨R0,λ t=>.tup [.s (.pl (.str (aG t))),.s (.pl (.int .i64 (aM t)))]⟩),(16,⟨R1,λ t=>.str (aN t)⟩),(20,⟨R2,λ t=>.agg (.ints .u8 (bC t)) 32⟩),
 (19,⟨R3,λ t=>.tup [.s (.pl (.agg (.ints .u8 (bO t)) 32)),.s (.pl (.int .i64 (cI t)))]⟩),(18,⟨R4,λ t=>.agg (.ints .u8 (eV t)) 32⟩),(21,⟨R5,λ t=>.str (fW t)⟩)],[],dR⟩,[]⟩
def S3:Cg:=⟨⟨dE [(17,⟨R0,λ t=>.tup [.s (.pl (.str (aG t))),.s (.pl (.int .i64 (aM t)))]⟩),(16,⟨R1,λ t=>.str (aN t)⟩),(20,⟨R2,λ t=>.agg (.ints .u8 (bC t)) 32⟩),
 (19,⟨R3,λ t=>.tup [.s (.pl (.agg (.ints .u8 (bO t)) 32)),.s (.pl (.int .i64 (cI t)))]⟩)],[],dR⟩,[]⟩
theorem aXm:fJ prog (gRg T0 R0 aG aM T1 R1 aN T2 R2 bC T3 R3 bO cI T4 R4 eV T5 R5 fW) 0 (rQ [1,1]) (sv2 x0 x1 x2 o0 o1 o2 o3 o4 o5 o6 o7 p0 p1 p2 p3 p4 p5 p6 p7 p8 p9 p10 p11 p12 p13 p14 p15 p16 p17 p18 p19 p20 p21 p22 p23 p24 p25 p26 p27 p28 p29 p30 p31 k s) (fT prog Tryz.f5) =
  (R0 [.agg (.strs [s]) 1]).bind λ t0=>(R1 [.str (aG t0),.int .i64 (aM t0)]).bind λ t1=>(R2 [.str s]).bind λ t2=>(R3 [.agg (.ints .u64 k) 8,.agg (.ints .u8 (bC t2)) 32]).bind λ t3=>
   (R4 [.agg (.ints .u8 (bO t3)) 32,.int .i64 (cI t3)]).bind λ t4=>(R5 [.agg (.ints .u8 (eV t4)) 32]).bind λ t5=>(R5 [.agg (.ints .u8 [p0,p1,p2,p3,p4,p5,p6,p7,p8,p9,p10,p11,p12,p13,p14,p15,p16,p17,p18,p19,p20,p21,p22,p23,p24,p25,p26,p27,p28,p29,p30,p31]) 32]).bind λ t6=>
    some (.tup [.s (.pl (.agg (.strs [fW t5,fW t6]) 2)),.s (.pl (.int .i64 0))]):=by kernel_rfl
def sv3 (t0:T0):St:=aID (Yr prog (S3 T0 (λ _=>some t0) aG aM T1 R1 aN T2 R2 bC T3 R3 bO cI).c (MU [1,1,0]) ((MU [1,1,0]).toList.take 4) [] (sv2 x0 x1 x2 o0 o1 o2 o3 o4 o5 o6 o7 p0 p1 p2 p3 p4 p5 p6 p7 p8 p9 p10 p11 p12 p13 p14 p15 p16 p17 p18 p19 p20 p21 p22 p23 p24 p25 p26 p27 p28 p29 p30 p31 k s) some)
theorem aZR:Yr prog (S3 T0 R0 aG aM T1 R1 aN T2 R2 bC T3 R3 bO cI).c (MU [1,1,0]) ((MU [1,1,0]).toList.take 4) [] (sv2 x0 x1 x2 o0 o1 o2 o3 o4 o5 o6 o7 p0 p1 p2 p3 p4 p5 p6 p7 p8 p9 p10 p11 p12 p13 p14 p15 p16 p17 p18 p19 p20 p21 p22 p23 p24 p25 p26 p27 p28 p29 p30 p31 k s) some =
  (R0 [.agg (.strs [s]) 1]).bind λ t0=>some (sv3 x0 x1 x2 o0 o1 o2 o3 o4 o5 o6 o7 p0 p1 p2 p3 p4 p5 p6 p7 p8 p9 p10 p11 p12 p13 p14 p15 p16 p17 p18 p19 p20 p21 p22 p23 p24 p25 p26 p27 p28 p29 p30 p31 k s T0 aG aM T1 R1 aN T2 R2 bC T3 R3 bO cI t0):=by kernel_rfl
theorem aQ2 (t0:T0):(sv3 x0 x1 x2 o0 o1 o2 o3 o4 o5 o6 o7 p0 p1 p2 p3 p4 p5 p6 p7 p8 p9 p10 p11 p12 p13 p14 p15 p16 p17 p18 p19 p20 p21 p22 p23 p24 p25 p26 p27 p28 p29 p30 p31 k s T0 aG aM T1 R1 aN T2 R2 bC T3 R3 bO cI t0).get 12=.int .i64 (aM t0):=by kernel_rfl
theorem aQ3 (t0:T0):(sv3 x0 x1 x2 o0 o1 o2 o3 o4 o5 o6 o7 p0 p1 p2 p3 p4 p5 p6 p7 p8 p9 p10 p11 p12 p13 p14 p15 p16 p17 p18 p19 p20 p21 p22 p23 p24 p25 p26 p27 p28 p29 p30 p31 k s T0 aG aM T1 R1 aN T2 R2 bC T3 R3 bO cI t0).get 28=.s (.ptr 4 0 1):=by kernel_rfl
theorem aXn (t0:T0):(sv3 x0 x1 x2 o0 o1 o2 o3 o4 o5 o6 o7 p0 p1 p2 p3 p4 p5 p6 p7 p8 p9 p10 p11 p12 p13 p14 p15 p16 p17 p18 p19 p20 p21 p22 p23 p24 p25 p26 p27 p28 p29 p30 p31 k s T0 aG aM T1 R1 aN T2 R2 bC T3 R3 bO cI t0).get 6=.s (.ptr 3 0 2):=by kernel_rfl
theorem aXo (t0:T0):(sv3 x0 x1 x2 o0 o1 o2 o3 o4 o5 o6 o7 p0 p1 p2 p3 p4 p5 p6 p7 p8 p9 p10 p11 p12 p13 p14 p15 p16 p17 p18 p19 p20 p21 p22 p23 p24 p25 p26 p27 p28 p29 p30 p31 k s T0 aG aM T1 R1 aN T2 R2 bC T3 R3 bO cI t0).get 7=.s (.ptr 4 0 1):=by kernel_rfl
theorem aQ4 (t0:T0):bU (sv3 x0 x1 x2 o0 o1 o2 o3 o4 o5 o6 o7 p0 p1 p2 p3 p4 p5 p6 p7 p8 p9 p10 p11 p12 p13 p14 p15 p16 p17 p18 p19 p20 p21 p22 p23 p24 p25 p26 p27 p28 p29 p30 p31 k s T0 aG aM T1 R1 aN T2 R2 bC T3 R3 bO cI t0).hp 3=some ⟨26,2,.t (.strs [[],[]])⟩:=by kernel_rfl
theorem aQ5 (t0:T0):bU (sv3 x0 x1 x2 o0 o1 o2 o3 o4 o5 o6 o7 p0 p1 p2 p3 p4 p5 p6 p7 p8 p9 p10 p11 p12 p13 p14 p15 p16 p17 p18 p19 p20 p21 p22 p23 p24 p25 p26 p27 p28 p29 p30 p31 k s T0 aG aM T1 R1 aN T2 R2 bC T3 R3 bO cI t0).hp 4=some ⟨27,1,.t (.ints .i64 [0])⟩:=by kernel_rfl
def sv4 (t0:T0) (t1:T1):St:=aID (fJ prog (S3 T0 (λ _=>some t0) aG aM T1 (λ _=>some t1) aN T2 R2 bC T3 R3 bO cI) 0 (rQ [1,1,0]) (sv2 x0 x1 x2 o0 o1 o2 o3 o4 o5 o6 o7 p0 p1 p2 p3 p4 p5 p6 p7 p8 p9 p10 p11 p12 p13 p14 p15 p16 p17 p18 p19 p20 p21 p22 p23 p24 p25 p26 p27 p28 p29 p30 p31 k s) svK)
theorem aZS:fJ prog (S3 T0 R0 aG aM T1 R1 aN T2 R2 bC T3 R3 bO cI) 0 (rQ [1,1,0]) (sv2 x0 x1 x2 o0 o1 o2 o3 o4 o5 o6 o7 p0 p1 p2 p3 p4 p5 p6 p7 p8 p9 p10 p11 p12 p13 p14 p15 p16 p17 p18 p19 p20 p21 p22 p23 p24 p25 p26 p27 p28 p29 p30 p31 k s) svK =
  (R0 [.agg (.strs [s]) 1]).bind λ t0=>(R1 [.str (aG t0),.int .i64 (aM t0)]).bind λ t1=>some (sv4 x0 x1 x2 o0 o1 o2 o3 o4 o5 o6 o7 p0 p1 p2 p3 p4 p5 p6 p7 p8 p9 p10 p11 p12 p13 p14 p15 p16 p17 p18 p19 p20 p21 p22 p23 p24 p25 p26 p27 p28 p29 p30 p31 k s T0 aG aM T1 aN T2 R2 bC T3 R3 bO cI t0 t1):=by kernel_rfl
theorem aQ6 (t0:T0) (t1:T1):bU (sv4 x0 x1 x2 o0 o1 o2 o3 o4 o5 o6 o7 p0 p1 p2 p3 p4 p5 p6 p7 p8 p9 p10 p11 p12 p13 p14 p15 p16 p17 p18 p19 p20 p21 p22 p23 p24 p25 p26 p27 p28 p29 p30 p31 k s T0 aG aM T1 aN T2 R2 bC T3 R3 bO cI t0 t1).hp 3=some ⟨26,2,.t (.strs [[],[]])⟩:=by kernel_rfl
theorem aQ7 (t0:T0) (t1:T1):bU (sv4 x0 x1 x2 o0 o1 o2 o3 o4 o5 o6 o7 p0 p1 p2 p3 p4 p5 p6 p7 p8 p9 p10 p11 p12 p13 p14 p15 p16 p17 p18 p19 p20 p21 p22 p23 p24 p25 p26 p27 p28 p29 p30 p31 k s T0 aG aM T1 aN T2 R2 bC T3 R3 bO cI t0 t1).hp 4=some ⟨27,1,.t (.ints .i64 [0])⟩:=by kernel_rfl
end
end
set_option maxRecDepth 4000
noncomputable section
section
variable (x0 x1 x2:Str) (o0 o1 o2 o3 o4 o5 o6 o7 p0 p1 p2 p3 p4 p5 p6 p7 p8 p9 p10 p11 p12 p13 p14 p15 p16 p17 p18 p19 p20 p21 p22 p23 p24 p25 p26 p27 p28 p29 p30 p31:Int) (k:List Int) (s:Str)
variable (T0:Type) (R0:FA T0) (aG:T0->Str) (aM:T0->Int) (T1:Type) (R1:FA T1) (aN:T1->Str) (T2:Type) (R2:FA T2) (bC:T2->List Int)
 (T3:Type) (R3:FA T3) (bO:T3->List Int) (cI:T3->Int)
def Sm:Cg:=⟨⟨dE [(17,⟨R0,λ t=>.tup [.s (.pl (.str (aG t))),.s (.pl (.int .i64 (aM t)))]⟩),(16,⟨R1,λ t=>.str (aN t)⟩),(20,⟨R2,λ t=>.agg (.ints .u8 (bC t)) 32⟩),
 (19,⟨R3,λ t=>.tup [.s (.pl (.agg (.ints .u8 (bO t)) 32)),.s (.pl (.int .i64 (cI t)))]⟩),(18,⟨λ _=>some (),λ _=>.agg (.ints .u8 [0,0,0,0,0,0,0,0,0,0,0,0,0,0,0,0,0,0,0,0,0,0,0,0,0,0,0,0,0,0,0,0]) 32⟩)],[],dR⟩,[]⟩
abbrev cY:Array Oper:=MU [1,1,1,0]
def kJ:Oper:=cY.toList.getD 7 { dst:=none,op:=.alloc 0,type:=0,pos := "",after:=#[],guard:=none }
theorem aBG:cY[7]?=some kJ:=by kernel_rfl
theorem aQ8:kJ.guard=none:=by kernel_rfl
theorem VY:kJ.op=.call { callee:=.value (.func 18),args:=#[.tmp 19,.tmp 20],argTypes:=#[23,27] }:=by kernel_rfl
theorem S4:kJ.looksAt cY=[19,20]:=by kernel_rfl
theorem Y0:Ev (kJ.looksAt cY) (cY.toList.drop 7)=true:=by kernel_rfl
theorem aIH:rQ [1,1,1,0]=.region 3 cY true:=by kernel_rfl
theorem aII:(F8 6 cY.toList && F8 7 cY.toList && F8 28 cY.toList)=true:=by kernel_rfl
def sv5 (t0:T0) (t1:T1) (t2:T2) (t3:T3):St:=aID (GY prog (Sm T0 R0 aG aM T1 R1 aN T2 (λ _=>some t2) bC T3 (λ _=>some t3) bO cI).c.quiet cY cY.toList [] ((sv4 x0 x1 x2 o0 o1 o2 o3 o4 o5 o6 o7 p0 p1 p2 p3 p4 p5 p6 p7 p8 p9 p10 p11 p12 p13 p14 p15 p16 p17 p18 p19 p20 p21 p22 p23 p24 p25 p26 p27 p28 p29 p30 p31 k s T0 aG aM T1 aN T2 R2 bC T3 R3 bO cI t0 t1).lift (yI cY.toList)) [] λ s' F=>cond (Ga (Sm T0 R0 aG aM T1 R1 aN T2 (λ _=>some t2) bC T3 (λ _=>some t3) bO cI).c.quiet cY 0 cY.toList F (SG cY) && Pp (Sm T0 R0 aG aM T1 R1 aN T2 (λ _=>some t2) bC T3 (λ _=>some t3) bO cI).c.quiet [4,5] cY.toList F) (some s') none)
theorem aZU (t0:T0) (t1:T1):(GY prog (Sm T0 R0 aG aM T1 R1 aN T2 R2 bC T3 R3 bO cI).c.quiet cY cY.toList [] ((sv4 x0 x1 x2 o0 o1 o2 o3 o4 o5 o6 o7 p0 p1 p2 p3 p4 p5 p6 p7 p8 p9 p10 p11 p12 p13 p14 p15 p16 p17 p18 p19 p20 p21 p22 p23 p24 p25 p26 p27 p28 p29 p30 p31 k s T0 aG aM T1 aN T2 R2 bC T3 R3 bO cI t0 t1).lift (yI cY.toList)) [] λ s' F=>cond (Ga (Sm T0 R0 aG aM T1 R1 aN T2 R2 bC T3 R3 bO cI).c.quiet cY 0 cY.toList F (SG cY) && Pp (Sm T0 R0 aG aM T1 R1 aN T2 R2 bC T3 R3 bO cI).c.quiet [4,5] cY.toList F) (some s') none) =
  (R2 [.str s]).bind λ t2=>(R3 [.agg (.ints .u64 k) 8,.agg (.ints .u8 (bC t2)) 32]).bind λ t3=>some (sv5 x0 x1 x2 o0 o1 o2 o3 o4 o5 o6 o7 p0 p1 p2 p3 p4 p5 p6 p7 p8 p9 p10 p11 p12 p13 p14 p15 p16 p17 p18 p19 p20 p21 p22 p23 p24 p25 p26 p27 p28 p29 p30 p31 k s T0 R0 aG aM T1 R1 aN T2 R2 bC T3 R3 bO cI t0 t1 t2 t3):=by kernel_rfl
theorem aQ9 (t0:T0) (t1:T1) (t2:T2) (t3:T3):(sv5 x0 x1 x2 o0 o1 o2 o3 o4 o5 o6 o7 p0 p1 p2 p3 p4 p5 p6 p7 p8 p9 p10 p11 p12 p13 p14 p15 p16 p17 p18 p19 p20 p21 p22 p23 p24 p25 p26 p27 p28 p29 p30 p31 k s T0 R0 aG aM T1 R1 aN T2 R2 bC T3 R3 bO cI t0 t1 t2 t3).get 19=.agg (.ints .u8 (bO t3)) 32:=by kernel_rfl
theorem aRa (t0:T0) (t1:T1) (t2:T2) (t3:T3):(sv5 x0 x1 x2 o0 o1 o2 o3 o4 o5 o6 o7 p0 p1 p2 p3 p4 p5 p6 p7 p8 p9 p10 p11 p12 p13 p14 p15 p16 p17 p18 p19 p20 p21 p22 p23 p24 p25 p26 p27 p28 p29 p30 p31 k s T0 R0 aG aM T1 R1 aN T2 R2 bC T3 R3 bO cI t0 t1 t2 t3).get 20=.int .i64 (cI t3):=by kernel_rfl
theorem aXp (t0:T0) (t1:T1):(sv4 x0 x1 x2 o0 o1 o2 o3 o4 o5 o6 o7 p0 p1 p2 p3 p4 p5 p6 p7 p8 p9 p10 p11 p12 p13 p14 p15 p16 p17 p18 p19 p20 p21 p22 p23 p24 p25 p26 p27 p28 p29 p30 p31 k s T0 aG aM T1 aN T2 R2 bC T3 R3 bO cI t0 t1).get 6=.s (.ptr 3 0 2):=by kernel_rfl
theorem aXq (t0:T0) (t1:T1):(sv4 x0 x1 x2 o0 o1 o2 o3 o4 o5 o6 o7 p0 p1 p2 p3 p4 p5 p6 p7 p8 p9 p10 p11 p12 p13 p14 p15 p16 p17 p18 p19 p20 p21 p22 p23 p24 p25 p26 p27 p28 p29 p30 p31 k s T0 aG aM T1 aN T2 R2 bC T3 R3 bO cI t0 t1).get 7=.s (.ptr 4 0 1):=by kernel_rfl
theorem aRb (t0:T0) (t1:T1):(sv4 x0 x1 x2 o0 o1 o2 o3 o4 o5 o6 o7 p0 p1 p2 p3 p4 p5 p6 p7 p8 p9 p10 p11 p12 p13 p14 p15 p16 p17 p18 p19 p20 p21 p22 p23 p24 p25 p26 p27 p28 p29 p30 p31 k s T0 aG aM T1 aN T2 R2 bC T3 R3 bO cI t0 t1).get 28=.s (.ptr 4 0 1):=by kernel_rfl
theorem aBH:cY.size=10:=by kernel_rfl
theorem aRc:cY[0]?=some (cY.toList.getD 0 kJ):=by kernel_rfl
theorem aRd (G:fE) (q:St):kD prog (Sm T0 R0 aG aM T1 R1 aN T2 R2 bC T3 R3 bO cI).c.quiet cY G (cY.toList.getD 0 kJ) q lG=kD prog (S3 T0 R0 aG aM T1 R1 aN T2 R2 bC T3 R3 bO cI).c.quiet cY G (cY.toList.getD 0 kJ) q lG:=by kernel_rfl
theorem aRe:cY[1]?=some (cY.toList.getD 1 kJ):=by kernel_rfl
theorem aRf (G:fE) (q:St):kD prog (Sm T0 R0 aG aM T1 R1 aN T2 R2 bC T3 R3 bO cI).c.quiet cY G (cY.toList.getD 1 kJ) q lG=kD prog (S3 T0 R0 aG aM T1 R1 aN T2 R2 bC T3 R3 bO cI).c.quiet cY G (cY.toList.getD 1 kJ) q lG:=by kernel_rfl
theorem aRg:cY[2]?=some (cY.toList.getD 2 kJ):=by kernel_rfl
theorem aRh (G:fE) (q:St):kD prog (Sm T0 R0 aG aM T1 R1 aN T2 R2 bC T3 R3 bO cI).c.quiet cY G (cY.toList.getD 2 kJ) q lG=kD prog (S3 T0 R0 aG aM T1 R1 aN T2 R2 bC T3 R3 bO cI).c.quiet cY G (cY.toList.getD 2 kJ) q lG:=by kernel_rfl
theorem aRi:cY[3]?=some (cY.toList.getD 3 kJ):=by kernel_rfl
theorem aRj (G:fE) (q:St):kD prog (Sm T0 R0 aG aM T1 R1 aN T2 R2 bC T3 R3 bO cI).c.quiet cY G (cY.toList.getD 3 kJ) q lG=kD prog (S3 T0 R0 aG aM T1 R1 aN T2 R2 bC T3 R3 bO cI).c.quiet cY G (cY.toList.getD 3 kJ) q lG:=by kernel_rfl
theorem aRk:cY[4]?=some (cY.toList.getD 4 kJ):=by kernel_rfl
theorem aRl (G:fE) (q:St):kD prog (Sm T0 R0 aG aM T1 R1 aN T2 R2 bC T3 R3 bO cI).c.quiet cY G (cY.toList.getD 4 kJ) q lG=kD prog (S3 T0 R0 aG aM T1 R1 aN T2 R2 bC T3 R3 bO cI).c.quiet cY G (cY.toList.getD 4 kJ) q lG:=by kernel_rfl
theorem aRm:cY[5]?=some (cY.toList.getD 5 kJ):=by kernel_rfl
theorem aRn (G:fE) (q:St):kD prog (Sm T0 R0 aG aM T1 R1 aN T2 R2 bC T3 R3 bO cI).c.quiet cY G (cY.toList.getD 5 kJ) q lG=kD prog (S3 T0 R0 aG aM T1 R1 aN T2 R2 bC T3 R3 bO cI).c.quiet cY G (cY.toList.getD 5 kJ) q lG:=by kernel_rfl
theorem aRo:cY[6]?=some (cY.toList.getD 6 kJ):=by kernel_rfl
theorem aRp (G:fE) (q:St):kD prog (Sm T0 R0 aG aM T1 R1 aN T2 R2 bC T3 R3 bO cI).c.quiet cY G (cY.toList.getD 6 kJ) q lG=kD prog (S3 T0 R0 aG aM T1 R1 aN T2 R2 bC T3 R3 bO cI).c.quiet cY G (cY.toList.getD 6 kJ) q lG:=by kernel_rfl
theorem aRq:cY[8]?=some (cY.toList.getD 8 kJ):=by kernel_rfl
theorem aRr (G:fE) (q:St):kD prog (Sm T0 R0 aG aM T1 R1 aN T2 R2 bC T3 R3 bO cI).c.quiet cY G (cY.toList.getD 8 kJ) q lG=kD prog (S3 T0 R0 aG aM T1 R1 aN T2 R2 bC T3 R3 bO cI).c.quiet cY G (cY.toList.getD 8 kJ) q lG:=by kernel_rfl
theorem aRs:cY[9]?=some (cY.toList.getD 9 kJ):=by kernel_rfl
theorem aRt (G:fE) (q:St):kD prog (Sm T0 R0 aG aM T1 R1 aN T2 R2 bC T3 R3 bO cI).c.quiet cY G (cY.toList.getD 9 kJ) q lG=kD prog (S3 T0 R0 aG aM T1 R1 aN T2 R2 bC T3 R3 bO cI).c.quiet cY G (cY.toList.getD 9 kJ) q lG:=by kernel_rfl
theorem aZV:∀ (i:Nat) (o:Oper),cY[i]?=some o->i ≠ 7->∀ G q,kD prog (Sm T0 R0 aG aM T1 R1 aN T2 R2 bC T3 R3 bO cI).c.quiet cY G o q lG=kD prog (S3 T0 R0 aG aM T1 R1 aN T2 R2 bC T3 R3 bO cI).c.quiet cY G o q lG:=by
 intro i o ho hi G q;have hlt:=(uP.1 ho).1;rw [aBH] at hlt
 match i,hlt,hi,ho with
 | 0,_,_,ho=>rw [dG (ho.symm.trans aRc)]; exact aRd T0 R0 aG aM T1 R1 aN T2 R2 bC T3 R3 bO cI G q
 | 1,_,_,ho=>rw [dG (ho.symm.trans aRe)]; exact aRf T0 R0 aG aM T1 R1 aN T2 R2 bC T3 R3 bO cI G q
 | 2,_,_,ho=>rw [dG (ho.symm.trans aRg)]; exact aRh T0 R0 aG aM T1 R1 aN T2 R2 bC T3 R3 bO cI G q
 | 3,_,_,ho=>rw [dG (ho.symm.trans aRi)]; exact aRj T0 R0 aG aM T1 R1 aN T2 R2 bC T3 R3 bO cI G q
 | 4,_,_,ho=>rw [dG (ho.symm.trans aRk)]; exact aRl T0 R0 aG aM T1 R1 aN T2 R2 bC T3 R3 bO cI G q
 | 5,_,_,ho=>rw [dG (ho.symm.trans aRm)]; exact aRn T0 R0 aG aM T1 R1 aN T2 R2 bC T3 R3 bO cI G q
 | 6,_,_,ho=>rw [dG (ho.symm.trans aRo)]; exact aRp T0 R0 aG aM T1 R1 aN T2 R2 bC T3 R3 bO cI G q
 | 8,_,_,ho=>rw [dG (ho.symm.trans aRq)]; exact aRr T0 R0 aG aM T1 R1 aN T2 R2 bC T3 R3 bO cI G q
 | 9,_,_,ho=>rw [dG (ho.symm.trans aRs)]; exact aRt T0 R0 aG aM T1 R1 aN T2 R2 bC T3 R3 bO cI G q
end
end
set_option maxRecDepth 4000
section
variable {B:Bs} {w0 w w':World} {ρ:Plc} {s:St} {a:Act}
theorem Rel.defer (h:Rel B w0 ρ s a w) (he:B.ext=[]) (d:Deferred) {x:AV} {v:Value} (hx:AVR w ρ x v) (hr:∀ id ∈ x.refs,Liv s id) :
  Rel ⟨B.n,B.X,[v],B.M,d :: B.ds⟩ w0 ρ ⟨(s.sz,x) :: s.tm,s.hp,s.nx,s.sz⟩ { a with defers:=d :: a.defers } w:=by
 have hg:∀ t,(⟨(s.sz,x) :: s.tm,s.hp,s.nx,s.sz⟩:St).get t=if t=s.sz then x else s.get t:=by
  intro t;simp only [St.get,iD];by_cases e:t=s.sz
  ·rw [aT e,aT e]
  ·rw [aW e,aW e]
 have hz:=h.size;refine ⟨λ t=>?_,h.blk,h.lt,h.inj,h.base,h.size,by rw [h.df],⟨h.below.1,h.below.2,h.below.3,h.below.4,h.below.5,h.below.6⟩,h.b0,λ t id hid=>?_,h.rb,h.gh,h.ob,h.ox⟩
 ·rw [hg];have ht:=h.tm t;unfold AM at ht ⊢;show AVR w ρ _ (if t < a.tmps.size then a.tmps.getD t undef else [v].getD (t - a.tmps.size) undef);by_cases e:t=s.sz
  ·rw [aT e,aW (by omega),show t - a.tmps.size=0 by omega];exact hx
  ·rw [aW e];by_cases e2:t < a.tmps.size
   ·rw [aT e2] at ht ⊢; exact ht
   ·rw [aW e2] at ht ⊢;rw [he] at ht;obtain ⟨m,hm⟩:=aP (by omega:t - a.tmps.size ≠ 0);rw [hm] at ht ⊢;exact ht
 ·rw [hg] at hid;by_cases e:t=s.sz
  ·rw [aT e] at hid; exact hr id hid
  ·rw [aW e] at hid; exact h.rt t id hid
theorem IB (p:Addr) (w:World):(invoke (.fn (.func 15) #[]) #[.pointer (some p)]).run prog w=.ok (.enter 15 #[.pointer (some p)]) w:=by
 simp [invoke]
def dfr (v:Value):Deferred:={ target:=.fn (.func 15) #[],args:=#[v] }
theorem aIJ {q:St} (hz:q.sz=28) (h6:q.get 6=.s (.ptr 3 0 2)) (h7:q.get 7=.s (.ptr 4 0 1)) {e:Int} (k3:bU q.hp 3=some ⟨26,2,.t (.strs [[],[]])⟩) (k4:bU q.hp 4=some ⟨27,1,.t (.ints .i64 [e])⟩) :
  q8 prog q Tryz.f5.results.toList=some [.s (.pl (.agg (.strs [[],[]]) 2)),.s (.pl (.int .i64 e))]:=by
 have e6:q.ev (.tmp 6)=.s (.ptr 3 0 2):=by
  show cond (Nat.blt 6 q.sz) (q.get 6) .junk=_;rw [hz,h6]; rfl
 have e7:q.ev (.tmp 7)=.s (.ptr 4 0 1):=by
  show cond (Nat.blt 7 q.sz) (q.get 7) .junk=_;rw [hz,h7]; rfl
 have hr:Tryz.f5.results.toList=[.cell 6 26,.cell 7 27]:=by kernel_rfl
 have l6:nP prog 26 q (.s (.ptr 3 0 2)) some=some (AV.agg (.strs [[],[]]) 2):=by
  unfold nP;simp only [k3];kernel_rfl
 have l7:nP prog 27 q (.s (.ptr 4 0 1)) some=some (AV.int .i64 e):=by
  unfold nP;simp only [k4];kernel_rfl
 rw [hr];simp only [q8,O4,e6,e7,l6,l7];rfl
theorem VZ {n:Nat} {X:Nat->Prop} {b:Nat} {e:Int} {a:Act} {w w3:World} (he:e ≠ 0) (hw0:n=w0.heap.size) (hX:∀ b,X b->b < w0.heap.size) (hs:Rel ⟨n,X,[.pointer (some ⟨b,0,none⟩)],λ _=>False,[dfr (.pointer (some ⟨b,0,none⟩))]⟩ w0 ρ s a w)
  (h28:s.get 28=.s (.ptr 4 0 1)) (hz:s.sz=28) (h6:s.get 6=.s (.ptr 3 0 2)) (h7:s.get 7=.s (.ptr 4 0 1)) (k3:bU s.hp 3=some ⟨26,2,.t (.strs [[],[]])⟩) (k4:bU s.hp 4=some ⟨27,1,.t (.ints .i64 [0])⟩) (hb:Below w.heap.size w w3) :
  Leaves prog Tryz.f5 a.tmps (λ e' w'=>∃ v,e'=.returned v /\ AVR w' (P0 X) (zS.enc (([],[]),e)) v /\ (zS.enc (([],[]),e)).refs=[] /\ Below w0.heap.size w0 w') [dfr (.pointer (some ⟨b,0,none⟩))] (.panicking [xH e]) w3:=by
 subst hw0;have hs3:Rel _ w0 ρ s a w3:=hs.ext hb.size (λ k hk=>hb.block k hk) (hs.below.trans (hb.mono hs.B_le))
 -- the deferred pointer is the error's
 have ht:=hs3.tm 28;rw [h28] at ht;unfold AM at ht;rw [hs3.size,hz] at ht;obtain ⟨x,hx,_,hv⟩:=ht;have hv:(.pointer (some ⟨b,0,none⟩):Value)=.pointer (some ⟨x.r,0,none⟩):=hv;simp only [Value.pointer.injEq,lF,Addr.mk.injEq,and_true] at hv;subst hv;obtain ⟨b',hb',hR⟩:=hs3.blk 4 x hx;rw [k4] at hb'; cases hb';have hn:x.n=1:=hR.n.symm;have wr:=hs3.writable hx 0 (by omega);obtain ⟨v0,hv0⟩:=Option.isSome_iff_exists.1 wr.1;refine leaves_cons (f:=15) (args:=#[.pointer (some ⟨x.r,0,none⟩)]) (by simp) (IB _ _) ?_;refine (Pu x.r e w3 hv0 (hs3.base 4 x hx).2 wr.2).mono ?_;rintro r u w4 ⟨rfl,rfl,o,rfl⟩;show Leaves _ _ _ _ [] (settle _) _;have hst:settle (.panicking [{ xH e with recovered:=true }])=.returning:=rfl;rw [hst];have hs4:Rel _ w0 ρ { s with hp:=upd 4 { (⟨27,1,.t (.ints .i64 [0])⟩:Blk) with row:=.t (.ints .i64 [e]) } s.hp } a (w3.setCells x.r 0 [.int .i64 e]):=hs3.stored hx k4 (off:=0) (vs:=[.int .i64 e]) (by simp; omega) (λ cs w1 _ _ hsz cs' h6=>by
  show cs'.toList.take x.n=_;rw [h6,hn];simp [splL,TRow.cells]) (λ j hj=>by cases hj)
 have hw4:Below (w3.setCells x.r 0 [.int .i64 e]).heap.size (w3.setCells x.r 0 [.int .i64 e]) ((w3.setCells x.r 0 [.int .i64 e]).alloc o):=H8 (bV _) o;have hs5:=hs4.ext hw4.size (λ k hk=>hw4.block k hk) (hs4.below.trans (hw4.mono hs4.B_le));have hL:Lend ρ (P0 X):=⟨λ id x hx=>⟨λ _ _ h=>by simp [P0] at h,λ hb=>by
   have h2:=hX _ hb;rcases (hs5.base id x hx).1 with h1 | h1
   ·simp only [] at h1; omega
   ·exact h1⟩,λ b hb=>⟨λ _ _ h=>by simp [P0] at h,λ hx=>hb.2 (hs5.ox b hx)⟩⟩
 have hres:q8 prog { s with hp:=upd 4 { (⟨27,1,.t (.ints .i64 [0])⟩:Blk) with row:=.t (.ints .i64 [e]) } s.hp } Tryz.f5.results.toList=some [.s (.pl (.agg (.strs [[],[]]) 2)),.s (.pl (.int .i64 e))]:=aIJ (q:={ s with hp:=upd 4 { (⟨27,1,.t (.ints .i64 [0])⟩:Blk) with row:=.t (.ints .i64 [e]) } s.hp }) hz h6 h7 (by show bU (upd 4 _ s.hp) 3=_; rw [cS]; exact k3) (by show bU (upd 4 _ s.hp) 4=_; rw [cS]; rfl);obtain ⟨vs',q1,q2,q3⟩:=BO hs5 hL hres;exact ⟨_,kT q1,_,rfl,wW q2,yL q3,hs5.below.below λ _ h=>h⟩
end
set_option maxRecDepth 4000
theorem cZ {l:List Int} {n:Nat} (h:l.length=n+1):∃ a r,l=a :: r /\ r.length=n:=by
 cases l with
 | nil=>cases h
 | cons a r=>exact ⟨a,r,rfl,Nat.succ.inj h⟩
theorem aXr {l0:List Int} (h0:l0.length=8):∃ a0 a1 a2 a3 a4 a5 a6 a7:Int,l0=[a0,a1,a2,a3,a4,a5,a6,a7]:=by
 obtain ⟨a0,l1,e0,h1⟩:=cZ h0;obtain ⟨a1,l2,e1,h2⟩:=cZ h1;obtain ⟨a2,l3,e2,h3⟩:=cZ h2;obtain ⟨a3,l4,e3,h4⟩:=cZ h3;obtain ⟨a4,l5,e4,h5⟩:=cZ h4;obtain ⟨a5,l6,e5,h6⟩:=cZ h5;obtain ⟨a6,l7,e6,h7⟩:=cZ h6;obtain ⟨a7,l8,e7,h8⟩:=cZ h7;have e8:=VL.1 h8;refine ⟨a0,a1,a2,a3,a4,a5,a6,a7,?_⟩;rw [e0,e1,e2,e3,e4,e5,e6,e7,e8]
theorem aBI {l0:List Int} (h0:l0.length=32):∃ a0 a1 a2 a3 a4 a5 a6 a7 a8 a9 a10 a11 a12 a13 a14 a15 a16 a17 a18 a19 a20 a21 a22 a23 a24 a25 a26 a27 a28 a29 a30 a31:Int,l0=[a0,a1,a2,a3,a4,a5,a6,a7,a8,a9,a10,a11,a12,a13,a14,a15,a16,a17,a18,a19,a20,a21,a22,a23,a24,a25,a26,a27,a28,a29,a30,a31]:=by
 obtain ⟨a0,l1,e0,h1⟩:=cZ h0;obtain ⟨a1,l2,e1,h2⟩:=cZ h1;obtain ⟨a2,l3,e2,h3⟩:=cZ h2;obtain ⟨a3,l4,e3,h4⟩:=cZ h3;obtain ⟨a4,l5,e4,h5⟩:=cZ h4;obtain ⟨a5,l6,e5,h6⟩:=cZ h5;obtain ⟨a6,l7,e6,h7⟩:=cZ h6;obtain ⟨a7,l8,e7,h8⟩:=cZ h7;obtain ⟨a8,l9,e8,h9⟩:=cZ h8;obtain ⟨a9,l10,e9,h10⟩:=cZ h9;obtain ⟨a10,l11,e10,h11⟩:=cZ h10;obtain ⟨a11,l12,e11,h12⟩:=cZ h11;obtain ⟨a12,l13,e12,h13⟩:=cZ h12;obtain ⟨a13,l14,e13,h14⟩:=cZ h13;obtain ⟨a14,l15,e14,h15⟩:=cZ h14;obtain ⟨a15,l16,e15,h16⟩:=cZ h15;obtain ⟨a16,l17,e16,h17⟩:=cZ h16;obtain ⟨a17,l18,e17,h18⟩:=cZ h17;obtain ⟨a18,l19,e18,h19⟩:=cZ h18;obtain ⟨a19,l20,e19,h20⟩:=cZ h19;obtain ⟨a20,l21,e20,h21⟩:=cZ h20;obtain ⟨a21,l22,e21,h22⟩:=cZ h21;obtain ⟨a22,l23,e22,h23⟩:=cZ h22;obtain ⟨a23,l24,e23,h24⟩:=cZ h23;obtain ⟨a24,l25,e24,h25⟩:=cZ h24;obtain ⟨a25,l26,e25,h26⟩:=cZ h25;obtain ⟨a26,l27,e26,h27⟩:=cZ h26;obtain ⟨a27,l28,e27,h28⟩:=cZ h27;obtain ⟨a28,l29,e28,h29⟩:=cZ h28;obtain ⟨a29,l30,e29,h30⟩:=cZ h29;obtain ⟨a30,l31,e30,h31⟩:=cZ h30;obtain ⟨a31,l32,e31,h32⟩:=cZ h31;have e32:=VL.1 h32;refine ⟨a0,a1,a2,a3,a4,a5,a6,a7,a8,a9,a10,a11,a12,a13,a14,a15,a16,a17,a18,a19,a20,a21,a22,a23,a24,a25,a26,a27,a28,a29,a30,a31,?_⟩;rw [e0,e1,e2,e3,e4,e5,e6,e7,e8,e9,e10,e11,e12,e13,e14,e15,e16,e17,e18,e19,e20,e21,e22,e23,e24,e25,e26,e27,e28,e29,e30,e31,e32]
theorem aBJ:∀ {l:List SV} {e:List Int},Rc l=some e->l=e.map λ n=>SV.pl (.int .u64 n):=by
 intro l
 induction l with
 | nil=>intro e h; cases h; rfl
 | cons x r ih=>
  intro e h;unfold Rc at h;split at h
  ·rename_i q; cases q
  ·rename_i n r' q;cases q;split at h
   ·rename_i l' hl;cases h;rw [mQ,<-ih hl]
   ·cases h
  ·cases h
theorem aBK:∀ {l:List SV} {e:List Int},Lh l=some e->l=e.map λ n=>SV.pl (.int .u8 n):=by
 intro l
 induction l with
 | nil=>intro e h; cases h; rfl
 | cons x r ih=>
  intro e h;unfold Lh at h;split at h
  ·rename_i q; cases q
  ·rename_i n r' q;cases q;split at h
   ·rename_i l' hl;cases h;rw [mQ,<-ih hl]
   ·cases h
  ·cases h
theorem S5 (k:Nat) (b:List Int):fR (oP k b).1=true:=by
 unfold oP;cases decide ((nL b).2=0)
 ·rfl
 ·cases Nat.beq k 0
  ·exact SF _
  ·rfl
theorem aIK {l:List SV} {p:List Int} (h:aBt l=some p):∃ (x0 x1 x2:Str) (o:List Int),o.length=8 /\ fR p=true /\ l=.pl (.str x0) :: .pl (.str x1) :: .pl (.str x2) :: (o.map (λ n=>SV.pl (.int .u64 n))++p.map λ n=>SV.pl (.int .u8 n)):=by
 unfold aBt at h;split at h
 ·rename_i x0 x1 x2 r;split at h
  ·rename_i o q ho hq;obtain ⟨h1,rfl⟩:=cC h;rw [aX] at h1;refine ⟨x0,x1,x2,o,aS h1.1,h1.2,?_⟩;rw [<-aBJ ho,<-aBK hq,List.take_append_drop]
  ·cases h
 ·cases h
theorem aIL:CfOk prog gRz.c:=⟨aK,λ _ _ h=>by cases h⟩
noncomputable abbrev aXs:Cg:=gRg (Str × Int) N7 (λ t=>t.1) (λ t=>t.2) Str xI (λ t=>t) (List Int) KM (λ t=>t) (List Int × Int) CE (λ t=>t.1) (λ t=>t.2) (List Int) aBs (λ t=>t) Str aXj (λ t=>t)
noncomputable abbrev aXt:Cg:=S3 (Str × Int) N7 (λ t=>t.1) (λ t=>t.2) Str xI (λ t=>t) (List Int) KM (λ t=>t) (List Int × Int) CE (λ t=>t.1) (λ t=>t.2)
theorem aIM:CfOk prog aXs.c:=⟨aA aBx <| aA Px <| aA aBB <| aA Nr <| aA aBC <| aA aQX <| aK,λ _ _ h=>by cases h⟩
theorem MV:CfOk prog aXt.c:=⟨aA aBx <| aA Px <| aA aBB <| aA Nr <| aK,λ _ _ h=>by cases h⟩
theorem aBL:Tryz.f5.body=some (.seq (rQ [0]) (.seq (rQ [1,0]) (rQ [1,1]))):=by kernel_rfl
theorem aOc:rQ [1,1]=.seq (rQ [1,1,0]) (.seq (rQ [1,1,1,0]) (rQ [1,1,1,1])):=by kernel_rfl
theorem aRu:rQ [1,1,0]=.region 2 (MU [1,1,0]) false:=by kernel_rfl
noncomputable def aBM:Oper:=(MU [1,1,0]).toList.getD 4 kJ
theorem aRv:(MU [1,1,0]).toList=(MU [1,1,0]).toList.take 4++aBM :: []:=by kernel_rfl
theorem aRw:aBM.guard=none:=by kernel_rfl
theorem Va:aBM.op=.call { callee:=.value (.func 16),args:=#[.tmp 11,.tmp 12],argTypes:=#[9,27] }:=by kernel_rfl
theorem svD:rQ [1,0]=.region 1 #[{ dst:=none,op:=.defer { callee:=.value (.func 15),args:=#[.tmp 7],argTypes:=#[52] },type:=0,pos := "server.go:87",after:=#[],guard:=none }] false:=by kernel_rfl
theorem aBN {Q:Exit->Act->World->Prop} {a:Act} {w:World} (h:Q .normal { a with defers:=dfr (a.eval (.tmp 7)) :: a.defers } w):(rQ [1,0]).wp prog Q a w:=by
 rw [svD];apply wp_region;simp [wpOps,go_sem];exact Or.inl (by simpa [dfr,Act.eval] using h)
theorem aBO {n:Nat} {a:Act} {w:World} {e:Int} (he:e ≠ 0) (h12:a.eval (.tmp 12)=.int .i64 e) {next:Act->World->Prop} {Q:Exit->Act->World->Prop} (h:∀ w',Below w.heap.size w w'->Q (.panic [xH e]) a w'):aBM.wpIn (Fw none) n prog a w next Q:=by
 refine nC (by rw [Va]; simp) ?_;have hr:(execOp a.eval aBM).run prog w=.ok (.enter 16 #[a.eval (.tmp 11),.int .i64 e]) w:=by
  rw [<-h12];simp only [execOp,Va];simp [resolve,Deferred.ofValue,invoke,Act.eval]
 rw [hr,Oper.uponIn_enter];refine ⟨sT,(Calls.fw (MQ he _ w)).mono λ r w' hr=>?_⟩;obtain ⟨rfl,hb⟩:=hr;exact h w' hb
set_option maxRecDepth 4000
theorem aXu:Tryz.f5.ntmps=28:=by kernel_rfl
noncomputable def Y1 (X:Nat->Prop) (w0:World) (y:AV):Ending->World->Prop:=λ e' w'=>∃ v,e'=.returned v /\ AVR w' (P0 X) y v /\ y.refs=[] /\ Below w0.heap.size w0 w'
section
variable {X:Nat->Prop} {w0 w:World} {ρ:Plc} {a:Act} {b:Nat} {s:St}
noncomputable abbrev svB (X:Nat->Prop) (w0:World) (b:Nat):Bs:=⟨w0.heap.size,X,[.pointer (some ⟨b,0,none⟩)],λ _=>False,[dfr (.pointer (some ⟨b,0,none⟩))]⟩
theorem Vb (hX:∀ b,X b->b < w0.heap.size) (hs:Rel (svB X w0 b) w0 ρ s a w) {y:AV} {l:List CV} (hl:q8 prog s Tryz.f5.results.toList=some l) (e:mZ l=y) :
  Leaves prog Tryz.f5 a.tmps (Y1 X w0 y) a.defers .returning w:=by
 have hL:Lend ρ (P0 X):=⟨λ id x hx=>⟨λ _ _ h=>by simp [P0] at h,λ hb=>by
   have h2:=hX _ hb;rcases (hs.base id x hx).1 with h1 | h1
   ·simp only [] at h1; omega
   ·exact h1⟩,λ b hb=>⟨λ _ _ h=>by simp [P0] at h,λ hx=>hb.2 (hs.ox b hx)⟩⟩
 rw [hs.df];refine leaves_cons (f:=15) (args:=#[.pointer (some ⟨b,0,none⟩)]) (by simp) (IB _ _) ?_;refine (Ps _ _).mono ?_;rintro r u w4 ⟨rfl,rfl,rfl⟩;show Leaves _ _ _ _ [] (settle .returning) _;rw [show settle .returning=FrameMode.returning from rfl];obtain ⟨vs',q1,q2,q3⟩:=BO hs hL hl;exact ⟨_,kT q1,_,rfl,by rw [<-e]; exact wW q2,by rw [<-e]; exact yL q3,hs.below.below λ _ h=>h⟩
theorem aBP (hX:∀ b,X b->b < w0.heap.size) {y:AV} {e:Ex} (h:fT prog Tryz.f5 e s=some y) (hs:Rel (svB X w0 b) w0 ρ s a w):bodyPostD prog Tryz.f5 (Y1 X w0 y) e.to a w:=by
 unfold fT at h;cases e with
 | exit id=>simp at h
 | normal=>
  simp only [] at h;split at h
  ·rename_i l hl; exact Vb hX hs hl (dG h)
  ·cases h
 | ret=>
  simp only [] at h;split at h
  ·rename_i l hl; exact Vb hX hs hl (dG h)
  ·cases h
theorem aRx {q:St} (h:q.sz=28):(match q with | ⟨tm,hp,nx,sz⟩=>(⟨(28,.s (.ptr 4 0 1)) :: tm,hp,nx,sz⟩:St))=⟨(q.sz,.s (.ptr 4 0 1)) :: q.tm,q.hp,q.nx,q.sz⟩:=by
 cases q; simp only at h; subst h; rfl
theorem Kq (s:Str):xI [.str s,.int .i64 0]=some s:=rfl
theorem MW {q:St} {n t:Nat} {x:AV} (hz:q.sz=n) (hl:Nat.blt t n=true) (h:q.get t=x):q.ev (.tmp t)=x:=by
 show cond (Nat.blt t q.sz) (q.get t) AV.junk=x;rw [hz,hl,h]; rfl
theorem Py {s:Str} (h:s.length=32):CI [32] [s]=(s,0):=by
 simp only [CI,aAd,h];simp
theorem aBQ {s:Str} (h:¬ s.length=32):CI [32] [s]=([],4):=by
 have h1:decide (((s.length:Nat):Int)=32)=false:=aH (by omega);unfold CI aAd;rw [h1]; rfl
theorem IC {s:Str} (h:s.length <= 1099511627776):N7 [.agg (.strs [s]) 1]=some (CI [32] [s]):=aIv (ss:=[s]) rfl (by simpa using h)
theorem aBR (x0 x1 x2:Str) (o0 o1 o2 o3 o4 o5 o6 o7 p0 p1 p2 p3 p4 p5 p6 p7 p8 p9 p10 p11 p12 p13 p14 p15 p16 p17 p18 p19 p20 p21 p22 p23 p24 p25 p26 p27 p28 p29 p30 p31:Int) (k:List Int) (s:Str) (hk:jO k=true) (hp:fR [p0,p1,p2,p3,p4,p5,p6,p7,p8,p9,p10,p11,p12,p13,p14,p15,p16,p17,p18,p19,p20,p21,p22,p23,p24,p25,p26,p27,p28,p29,p30,p31]=true) (hs:s.length <= 1099511627776) (hX:∀ b,X b->b < w0.heap.size) (hd:Rel (svB X w0 b) w0 ρ (sv2 x0 x1 x2 o0 o1 o2 o3 o4 o5 o6 o7 p0 p1 p2 p3 p4 p5 p6 p7 p8 p9 p10 p11 p12 p13 p14 p15 p16 p17 p18 p19 p20 p21 p22 p23 p24 p25 p26 p27 p28 p29 p30 p31 k s) a w) (hl:s.length=32) {E:List Int} (hE:fR E=true) (he:oP (val k) (s.map lO)=(E,0)) :
  (rQ [1,1]).wp prog (bodyPostD prog Tryz.f5 (Y1 X w0 (zS.enc ((E.map b8,[p0,p1,p2,p3,p4,p5,p6,p7,p8,p9,p10,p11,p12,p13,p14,p15,p16,p17,p18,p19,p20,p21,p22,p23,p24,p25,p26,p27,p28,p29,p30,p31].map b8),0)))) a w:=by
 refine mY (g:=aXs) (fu:=0) gH aIM (rQ [1,1]) hd (r:=zS.enc ((E.map b8,[p0,p1,p2,p3,p4,p5,p6,p7,p8,p9,p10,p11,p12,p13,p14,p15,p16,p17,p18,p19,p20,p21,p22,p23,p24,p25,p26,p27,p28,p29,p30,p31].map b8),0)) ?_ λ e s' a' w' ρ' h' hs'=>aBP hX h' hs';refine (aXm ..).trans ?_;have r0:=IC hs;rw [Py hl] at r0;have r2:=VX hl;have r3:=Q2 hk (IA s hl);rw [he] at r3;refine aI r0 ?_;refine aI (Kq s) ?_;refine aI r2 ?_;refine aI r3 ?_;refine aI (Yz hE) ?_;refine aI (MT hE) ?_;refine aI (MT hp) ?_;rfl
theorem aBS (x0 x1 x2:Str) (o0 o1 o2 o3 o4 o5 o6 o7 p0 p1 p2 p3 p4 p5 p6 p7 p8 p9 p10 p11 p12 p13 p14 p15 p16 p17 p18 p19 p20 p21 p22 p23 p24 p25 p26 p27 p28 p29 p30 p31:Int) (k:List Int) (s:Str) (t0:Str × Int):(sv3 x0 x1 x2 o0 o1 o2 o3 o4 o5 o6 o7 p0 p1 p2 p3 p4 p5 p6 p7 p8 p9 p10 p11 p12 p13 p14 p15 p16 p17 p18 p19 p20 p21 p22 p23 p24 p25 p26 p27 p28 p29 p30 p31 k s (Str × Int) (λ t=>t.1) (λ t=>t.2) Str xI (λ t=>t) (List Int) KM (λ t=>t) (List Int × Int) CE (λ t=>t.1) (λ t=>t.2) t0).sz=28:=by kernel_rfl
theorem Y2 (x0 x1 x2:Str) (o0 o1 o2 o3 o4 o5 o6 o7 p0 p1 p2 p3 p4 p5 p6 p7 p8 p9 p10 p11 p12 p13 p14 p15 p16 p17 p18 p19 p20 p21 p22 p23 p24 p25 p26 p27 p28 p29 p30 p31:Int) (k:List Int) (s:Str) (hs:s.length <= 1099511627776) (hX:∀ b,X b->b < w0.heap.size) (hd:Rel (svB X w0 b) w0 ρ (sv2 x0 x1 x2 o0 o1 o2 o3 o4 o5 o6 o7 p0 p1 p2 p3 p4 p5 p6 p7 p8 p9 p10 p11 p12 p13 p14 p15 p16 p17 p18 p19 p20 p21 p22 p23 p24 p25 p26 p27 p28 p29 p30 p31 k s) a w) (hl:¬ s.length=32) :
  (rQ [1,1]).wp prog (bodyPostD prog Tryz.f5 (Y1 X w0 (zS.enc (([],[]),4)))) a w:=by
 have r0:=IC hs;rw [aBQ hl] at r0;rw [aOc];refine wp_seq ?_;rw [aRu];refine (wpIn_wide (n:=0)).1 ?_;refine wpIn_region_list ?_;rw [aRv];have hev:=aZR x0 x1 x2 o0 o1 o2 o3 o4 o5 o6 o7 p0 p1 p2 p3 p4 p5 p6 p7 p8 p9 p10 p11 p12 p13 p14 p15 p16 p17 p18 p19 p20 p21 p22 p23 p24 p25 p26 p27 p28 p29 p30 p31 k s (Str × Int) N7 (λ t=>t.1) (λ t=>t.2) Str xI (λ t=>t) (List Int) KM (λ t=>t) (List Int × Int) CE (λ t=>t.1) (λ t=>t.2);have hev:=hev.trans (aI r0 rfl);refine Yu (ro:=none) (n:=0) MV aRw _ hd (λ _ _ _ _ h=>by simp at h) hev λ s' a' w' ρ' h' hs' next=>?_
 have e1:=(dG h').symm;subst e1;have e12:(sv3 x0 x1 x2 o0 o1 o2 o3 o4 o5 o6 o7 p0 p1 p2 p3 p4 p5 p6 p7 p8 p9 p10 p11 p12 p13 p14 p15 p16 p17 p18 p19 p20 p21 p22 p23 p24 p25 p26 p27 p28 p29 p30 p31 k s (Str × Int) (λ t=>t.1) (λ t=>t.2) Str xI (λ t=>t) (List Int) KM (λ t=>t) (List Int × Int) CE (λ t=>t.1) (λ t=>t.2) ([],4)).ev (.tmp 12)=.int .i64 4:=MW (aBS ..) rfl (aQ2 ..);have hx:=hs'.ev (.tmp 12);rw [e12] at hx;refine aBO (e:=4) (by decide) hx.1 λ w4 hb=>?_;show Leaves _ _ _ _ _ _ _;rw [hs'.df];refine VZ (n:=w0.heap.size) (by decide) rfl hX hs' (aQ3 ..) (aBS ..) (aXn ..) (aXo ..) (aQ4 ..) (aQ5 ..) hb
theorem aBT {n:Nat} {a:Act} {w:World} {e:Int} (he:e ≠ 0) {cs:Array Value} (h19:a.eval (.tmp 19)=.agg cs) (h20:a.eval (.tmp 20)=.int .i64 e) {next:Act->World->Prop} {Q:Exit->Act->World->Prop} (h:∀ w',Below w.heap.size w w'->Q (.panic [xH e]) a w'):kJ.wpIn (Fw none) n prog a w next Q:=by
 refine nC (by rw [VY]; simp) ?_;have hr:(execOp a.eval kJ).run prog w=.ok (.enter 18 #[.agg cs,.int .i64 e]) w:=by
  rw [<-h20,<-h19];simp only [execOp,VY];simp [resolve,Deferred.ofValue,invoke,Act.eval]
 rw [hr,Oper.uponIn_enter];refine ⟨sT,(Calls.fw (MR he _ w)).mono λ r w' hr=>?_⟩;obtain ⟨rfl,hb⟩:=hr;exact h w' hb
theorem aRy (x0 x1 x2:Str) (o0 o1 o2 o3 o4 o5 o6 o7 p0 p1 p2 p3 p4 p5 p6 p7 p8 p9 p10 p11 p12 p13 p14 p15 p16 p17 p18 p19 p20 p21 p22 p23 p24 p25 p26 p27 p28 p29 p30 p31:Int) (k:List Int) (s:Str) (t0:Str × Int) (t1:Str):(sv4 x0 x1 x2 o0 o1 o2 o3 o4 o5 o6 o7 p0 p1 p2 p3 p4 p5 p6 p7 p8 p9 p10 p11 p12 p13 p14 p15 p16 p17 p18 p19 p20 p21 p22 p23 p24 p25 p26 p27 p28 p29 p30 p31 k s (Str × Int) (λ t=>t.1) (λ t=>t.2) Str (λ t=>t) (List Int) KM (λ t=>t) (List Int × Int) CE (λ t=>t.1) (λ t=>t.2) t0 t1).sz=28:=by kernel_rfl
theorem Y3 (x0 x1 x2:Str) (o0 o1 o2 o3 o4 o5 o6 o7 p0 p1 p2 p3 p4 p5 p6 p7 p8 p9 p10 p11 p12 p13 p14 p15 p16 p17 p18 p19 p20 p21 p22 p23 p24 p25 p26 p27 p28 p29 p30 p31:Int) (k:List Int) (s:Str) (hk:jO k=true) (hs:s.length <= 1099511627776) (hX:∀ b,X b->b < w0.heap.size) (hd:Rel (svB X w0 b) w0 ρ (sv2 x0 x1 x2 o0 o1 o2 o3 o4 o5 o6 o7 p0 p1 p2 p3 p4 p5 p6 p7 p8 p9 p10 p11 p12 p13 p14 p15 p16 p17 p18 p19 p20 p21 p22 p23 p24 p25 p26 p27 p28 p29 p30 p31 k s) a w) (hl:s.length=32) {E:List Int} {e:Int} (he:oP (val k) (s.map lO)=(E,e)) (h0:e ≠ 0) :
  (rQ [1,1]).wp prog (bodyPostD prog Tryz.f5 (Y1 X w0 (zS.enc (([],[]),e)))) a w:=by
 have r0:=IC hs;rw [Py hl] at r0;have r2:=VX hl;have r3:=Q2 hk (IA s hl);rw [he] at r3;rw [aOc];have hev:=(aZS x0 x1 x2 o0 o1 o2 o3 o4 o5 o6 o7 p0 p1 p2 p3 p4 p5 p6 p7 p8 p9 p10 p11 p12 p13 p14 p15 p16 p17 p18 p19 p20 p21 p22 p23 p24 p25 p26 p27 p28 p29 p30 p31 k s (Str × Int) N7 (λ t=>t.1) (λ t=>t.2) Str xI (λ t=>t) (List Int) KM (λ t=>t) (List Int × Int) CE (λ t=>t.1) (λ t=>t.2)).trans (aI r0 (aI (Kq s) rfl));refine wp_seq (mY (g:=aXt) (fu:=0) gH MV (rQ [1,1,0]) hd hev λ e' s' a' w' ρ' h' hs'=>?_);cases e' with
 | exit id=>cases h'
 | ret=>cases h'
 | normal=>
 have e1:=(dG h').symm;subst e1;refine wp_seq ?_;rw [aIH];refine (wpIn_wide (n:=0)).1 ?_;have hev5:=(aZU x0 x1 x2 o0 o1 o2 o3 o4 o5 o6 o7 p0 p1 p2 p3 p4 p5 p6 p7 p8 p9 p10 p11 p12 p13 p14 p15 p16 p17 p18 p19 p20 p21 p22 p23 p24 p25 p26 p27 p28 p29 p30 p31 k s (Str × Int) N7 (λ t=>t.1) (λ t=>t.2) Str xI (λ t=>t) (List Int) KM (λ t=>t) (List Int × Int) CE (λ t=>t.1) (λ t=>t.2) (s,0) s).trans (aI r2 (aI r3 rfl));refine Sz (ro:=none) (n:=0) gH MV aBG aQ8 (aZV (Str × Int) N7 (λ t=>t.1) (λ t=>t.2) Str xI (λ t=>t) (List Int) KM (λ t=>t) (List Int × Int) CE (λ t=>t.1) (λ t=>t.2)) (qs:=[4,5]) Y0 hs' hev5 λ s2 a2 w2 ρ2 hr h1 h2 h4 h5 next=>?_
 have hz:=h5.trans (aRy ..);rw [S4] at h1;have nd:=aII;simp only [aX] at nd;have x19:=hr.ev (.tmp 19);rw [MW hz rfl ((h1 19 (by simp)).trans (aQ9 ..))] at x19;have x20:=hr.ev (.tmp 20);rw [MW hz rfl ((h1 20 (by simp)).trans (aRa ..))] at x20;obtain ⟨cs,hcs⟩:∃ cs,a2.eval (.tmp 19)=.agg cs:=⟨_,x19.1⟩;refine aBT (e:=e) h0 hcs x20.1 λ w4 hb=>?_;show Leaves _ _ _ _ _ _ _;rw [hr.df];exact VZ (n:=w0.heap.size) h0 rfl hX hr ((h4 28 nd.2).trans (aRb ..)) hz ((h4 6 nd.1.1).trans (aXp ..)) ((h4 7 nd.1.2).trans (aXq ..)) ((h2 3 (by simp)).trans (aQ6 ..)) ((h2 4 (by simp)).trans (aQ7 ..)) hb
theorem Y4 (x0 x1 x2:Str) (o0 o1 o2 o3 o4 o5 o6 o7 p0 p1 p2 p3 p4 p5 p6 p7 p8 p9 p10 p11 p12 p13 p14 p15 p16 p17 p18 p19 p20 p21 p22 p23 p24 p25 p26 p27 p28 p29 p30 p31:Int) (k:List Int) (s:Str) (hk:jO k=true) (hp:fR [p0,p1,p2,p3,p4,p5,p6,p7,p8,p9,p10,p11,p12,p13,p14,p15,p16,p17,p18,p19,p20,p21,p22,p23,p24,p25,p26,p27,p28,p29,p30,p31]=true) (hs:s.length <= 1099511627776) {w:World} {X:Nat->Prop} {vs:List Value} (hX:∀ b,X b->b < w.heap.size) (hargs:AVRs w (P0 X) [.c (.mix [.pl (.str x0),.pl (.str x1),.pl (.str x2),.pl (.int .u64 o0),.pl (.int .u64 o1),.pl (.int .u64 o2),.pl (.int .u64 o3),.pl (.int .u64 o4),.pl (.int .u64 o5),.pl (.int .u64 o6),.pl (.int .u64 o7),.pl (.int .u8 p0),.pl (.int .u8 p1),.pl (.int .u8 p2),.pl (.int .u8 p3),.pl (.int .u8 p4),.pl (.int .u8 p5),.pl (.int .u8 p6),.pl (.int .u8 p7),.pl (.int .u8 p8),.pl (.int .u8 p9),.pl (.int .u8 p10),.pl (.int .u8 p11),.pl (.int .u8 p12),.pl (.int .u8 p13),.pl (.int .u8 p14),.pl (.int .u8 p15),.pl (.int .u8 p16),.pl (.int .u8 p17),.pl (.int .u8 p18),.pl (.int .u8 p19),.pl (.int .u8 p20),.pl (.int .u8 p21),.pl (.int .u8 p22),.pl (.int .u8 p23),.pl (.int .u8 p24),.pl (.int .u8 p25),.pl (.int .u8 p26),.pl (.int .u8 p27),.pl (.int .u8 p28),.pl (.int .u8 p29),.pl (.int .u8 p30),.pl (.int .u8 p31)]),.agg (.ints .u64 k) 8,.agg (.strs [s]) 1] vs) :
  Calls prog 5 vs.toArray w (Y1 X w (zS.enc (H9 [p0,p1,p2,p3,p4,p5,p6,p7,p8,p9,p10,p11,p12,p13,p14,p15,p16,p17,p18,p19,p20,p21,p22,p23,p24,p25,p26,p27,p28,p29,p30,p31] (val k) s))):=by
 refine calls_of_wp_defers Tryz.func5 aBL ?_;have h0:=Rel.start (fn:=Tryz.f5) hX hargs rfl (by rw [aXu]; exact (by decide:3 <= 28));rw [aXu] at h0 ⊢;have h0:Rel _ w (P0 X) (sv0 x0 x1 x2 o0 o1 o2 o3 o4 o5 o6 o7 p0 p1 p2 p3 p4 p5 p6 p7 p8 p9 p10 p11 p12 p13 p14 p15 p16 p17 p18 p19 p20 p21 p22 p23 p24 p25 p26 p27 p28 p29 p30 p31 k s) _ w:=h0;refine wp_seq (mY gH aIL (rQ [0]) h0 (aQ1 x0 x1 x2 o0 o1 o2 o3 o4 o5 o6 o7 p0 p1 p2 p3 p4 p5 p6 p7 p8 p9 p10 p11 p12 p13 p14 p15 p16 p17 p18 p19 p20 p21 p22 p23 p24 p25 p26 p27 p28 p29 p30 p31 k s) λ e s' a' w' ρ' h' hs'=>?_);cases e with
 | exit id=>cases h'
 | ret=>cases h'
 | normal=>
 have e1:sv1 x0 x1 x2 o0 o1 o2 o3 o4 o5 o6 o7 p0 p1 p2 p3 p4 p5 p6 p7 p8 p9 p10 p11 p12 p13 p14 p15 p16 p17 p18 p19 p20 p21 p22 p23 p24 p25 p26 p27 p28 p29 p30 p31 k s=s':=(dG h').symm;subst e1;have e7:(sv1 x0 x1 x2 o0 o1 o2 o3 o4 o5 o6 o7 p0 p1 p2 p3 p4 p5 p6 p7 p8 p9 p10 p11 p12 p13 p14 p15 p16 p17 p18 p19 p20 p21 p22 p23 p24 p25 p26 p27 p28 p29 p30 p31 k s).ev (.tmp 7)=.s (.ptr 4 0 1):=MW (aBF ..) rfl (aXl ..);have hx:=hs'.ev (.tmp 7);rw [e7] at hx;have hx0:=hx;obtain ⟨q,hq,_,hv⟩:=hx0;have hv:a'.eval (.tmp 7)=.pointer (some ⟨q.r,0,none⟩):=hv;have hd:=Rel.defer hs' rfl (dfr (a'.eval (.tmp 7))) hx (by
  have h:=hs'.evr (.tmp 7);rw [e7] at h; exact h)
 rw [hv] at hd;refine wp_seq (aBN ?_);rw [hv];show (rQ [1,1]).wp prog _ _ _;have e2:=aRx (aBF x0 x1 x2 o0 o1 o2 o3 o4 o5 o6 o7 p0 p1 p2 p3 p4 p5 p6 p7 p8 p9 p10 p11 p12 p13 p14 p15 p16 p17 p18 p19 p20 p21 p22 p23 p24 p25 p26 p27 p28 p29 p30 p31 k s);rw [<-e2] at hd;have hd:Rel (svB X w q.r) w ρ' (sv2 x0 x1 x2 o0 o1 o2 o3 o4 o5 o6 o7 p0 p1 p2 p3 p4 p5 p6 p7 p8 p9 p10 p11 p12 p13 p14 p15 p16 p17 p18 p19 p20 p21 p22 p23 p24 p25 p26 p27 p28 p29 p30 p31 k s) _ w':=hd;by_cases hl:s.length=32
 ·have hE:=S5 (val k) (s.map lO);rcases hev:oP (val k) (s.map lO) with ⟨E,e⟩;rw [hev] at hE;have e3:H9 [p0,p1,p2,p3,p4,p5,p6,p7,p8,p9,p10,p11,p12,p13,p14,p15,p16,p17,p18,p19,p20,p21,p22,p23,p24,p25,p26,p27,p28,p29,p30,p31] (val k) s=cond (decide (e=0)) ((E.map b8,[p0,p1,p2,p3,p4,p5,p6,p7,p8,p9,p10,p11,p12,p13,p14,p15,p16,p17,p18,p19,p20,p21,p22,p23,p24,p25,p26,p27,p28,p29,p30,p31].map b8),0) (([],[]),e):=by
   unfold H9 Yw;rw [hl,hev]; rfl
  rw [e3];by_cases he:e=0
  ·subst he;exact aBR x0 x1 x2 o0 o1 o2 o3 o4 o5 o6 o7 p0 p1 p2 p3 p4 p5 p6 p7 p8 p9 p10 p11 p12 p13 p14 p15 p16 p17 p18 p19 p20 p21 p22 p23 p24 p25 p26 p27 p28 p29 p30 p31 k s hk hp hs hX hd hl hE hev
  ·rw [aH he];exact Y3 x0 x1 x2 o0 o1 o2 o3 o4 o5 o6 o7 p0 p1 p2 p3 p4 p5 p6 p7 p8 p9 p10 p11 p12 p13 p14 p15 p16 p17 p18 p19 p20 p21 p22 p23 p24 p25 p26 p27 p28 p29 p30 p31 k s hk hs hX hd hl hev he
 ·have e3:H9 [p0,p1,p2,p3,p4,p5,p6,p7,p8,p9,p10,p11,p12,p13,p14,p15,p16,p17,p18,p19,p20,p21,p22,p23,p24,p25,p26,p27,p28,p29,p30,p31] (val k) s=(([],[]),4):=by
   unfold H9;rw [show Nat.beq s.length 32=false from iP hl]; rfl
  rw [e3];exact Y2 x0 x1 x2 o0 o1 o2 o3 o4 o5 o6 o7 p0 p1 p2 p3 p4 p5 p6 p7 p8 p9 p10 p11 p12 p13 p14 p15 p16 p17 p18 p19 p20 p21 p22 p23 p24 p25 p26 p27 p28 p29 p30 p31 k s hs hX hd hl
end
theorem aIN:CallOk prog 5 zS:=by
 intro args t ht w X vs hX hargs;unfold zS at ht;simp only at ht;split at ht
 case h_2=>cases ht
 rename_i l k s;split at ht
 case h_2=>cases ht
 rename_i p hp;obtain ⟨h1,h2⟩:=cC ht;subst h2;rw [aX] at h1;have h2:=cF h1.2;obtain ⟨x0,x1,x2,o,ho,hpo,rfl⟩:=aIK hp;obtain ⟨o0,o1,o2,o3,o4,o5,o6,o7,rfl⟩:=aXr ho;obtain ⟨p0,p1,p2,p3,p4,p5,p6,p7,p8,p9,p10,p11,p12,p13,p14,p15,p16,p17,p18,p19,p20,p21,p22,p23,p24,p25,p26,p27,p28,p29,p30,p31,rfl⟩:=aBI (j3 hpo).1;refine .inr ⟨nA Tryz.func5 (by kernel_rfl) aBL _ _,(Y4 x0 x1 x2 o0 o1 o2 o3 o4 o5 o6 o7 p0 p1 p2 p3 p4 p5 p6 p7 p8 p9 p10 p11 p12 p13 p14 p15 p16 p17 p18 p19 p20 p21 p22 p23 p24 p25 p26 p27 p28 p29 p30 p31 k s h1.1 hpo h2 hX hargs).mono λ e w' h=>?_⟩;obtain ⟨v,g1,g2,g3,g4⟩:=h;exact ⟨v,g1,g2,g3,g4⟩
end Go.Eng
