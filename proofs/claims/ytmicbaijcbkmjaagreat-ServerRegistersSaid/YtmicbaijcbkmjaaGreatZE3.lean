import Derived.LoopN
import Derived.OpenShut
import Derived.ProofKit
import Derived.Scope
import Derived.Test.YtmicbaijcbkmjaaGreatZE5
namespace Go.Eng
noncomputable section
open Go Go.RowKit
set_option linter.all false
section
variable {P:Program} {s s2 s':St} {β:Type} {G G2 G':fE} {av:AV} {ops:Array Oper} {o:Oper}
theorem aHn {F:List Nat} {wr:Prop} {gt:Option Nat} {d:Nat} {x:AV} (hd:o.dst=some d) (hsz:s.sz=s2.sz) (hF:∀ c ∈ F,pE s c=pE s2 c) (E E2:fE)
  (hE:∀ t tg w,t ≠ d->tg ≠ d->fV E t tg w=fV G t tg w) (hE2:∀ t tg w,t ≠ d->tg ≠ d->fV E2 t tg w=fV G2 t tg w)
  (h2:∀ t w,fV E t d w=none) (h22:∀ t w,fV E2 t d w=none) (h3:∀ tg w,fV E d tg w=fV E2 d tg w) (h4:∀ tg w p,fV E d tg w=some p->gt=some tg) :
  Cong o F wr gt s G (s.put d x) E s2 G2 (s2.put d x) E2:=by
 have ne:∀ {t},o.dst ≠ some t->t ≠ d:=λ ht e=>ht (by rw [hd,e]);refine ⟨⟨rfl,rfl,?_,λ c _=>iB _ _ _ _,λ _ c=>iB _ _ _ _,λ t tg w ht hg=>hE t tg w (ne ht) (ne hg),?_,?_⟩,⟨rfl,rfl,?_,λ c _=>iB _ _ _ _,λ _ c=>iB _ _ _ _,λ t tg w ht hg=>hE2 t tg w (ne ht) (ne hg),?_,?_⟩,⟨?_,?_,?_⟩⟩
 ·intro t ht; rw [lY,aW (ne ht)]
 ·intro t tg w hg; rw [hd] at hg; cases hg; exact h2 t w
 ·intro e tg w p he hg; rw [hd] at he; cases he; exact h4 tg w p hg
 ·intro t ht; rw [lY,aW (ne ht)]
 ·intro t tg w hg; rw [hd] at hg; cases hg; exact h22 t w
 ·intro e tg w p he hg; rw [hd] at he; cases he; exact h4 tg w p (by rw [h3]; exact hg)
 ·intro e he; rw [hd] at he; cases he; rw [lY,lY,aT rfl,aT rfl]
 ·intro e tg w he; rw [hd] at he; cases he; exact h3 tg w
 ·intro c hc; rw [iB,iB]; exact hF c hc
theorem GX {F:List Nat} {wr:Prop} {gt:Option Nat} (hsz:s.sz=s2.sz) (hF:∀ c ∈ F,pE s c=pE s2 c) (h:lK o G s lG=some (s',G')) :
  ∃ s2' G2',lK o G2 s2 lG=some (s2',G2') /\ Cong o F wr gt s G s' G' s2 G2 s2' G2':=by
 unfold lK at h ⊢;split at h
 ·rename_i d hd;obtain ⟨h1,h2⟩:=aY h;simp [lG] at h2;obtain ⟨rfl,rfl⟩:=h2;refine ⟨s2.put d (.s (.pl (.raw undef))),tK d G2,by rw [<-hsz,h1]; rfl,aHn hd hsz hF _ _ ?_ ?_ ?_ ?_ ?_ ?_⟩
  ·intro t tg w h1 h2; rw [dS]; simp [h1,h2]
  ·intro t tg w h1 h2; rw [dS]; simp [h1,h2]
  ·intro t w; rw [dS]; simp
  ·intro t w; rw [dS]; simp
  ·intro tg w; rw [dS,dS]; simp
  ·intro tg w p hg; rw [dS] at hg; simp at hg
 ·rename_i hd;simp [lG] at h;obtain ⟨rfl,rfl⟩:=h;refine ⟨s2,G2,rfl,⟨rfl,rfl,λ _ _=>rfl,λ _ _=>rfl,λ _ _=>rfl,λ _ _ _ _ _=>rfl,?_,?_⟩,⟨rfl,rfl,λ _ _=>rfl,λ _ _=>rfl,λ _ _=>rfl,λ _ _ _ _ _=>rfl,?_,?_⟩,⟨?_,?_,hF⟩⟩
  all_goals intros; rename_i q; rw [hd] at *; first | contradiction | simp_all
theorem Kh {j tg:Nat} {want:Bool} (hg:o.guard=some (j,want)) (ht:(ops[j]?).bind (·.dst)=some tg):tg ∈ o.looksAt ops:=by
 unfold Oper.looksAt;rw [tO,hg];right;simp [ht]
theorem Ag.put_self {lk:List Tmp} {tg:Nat} {x:AV} (h:Ag lk G s G2 s2) (h1:s.get tg=x) (h2:s2.get tg=x):Ag lk G (s.put tg x) G2 (s2.put tg x) :=
 ⟨λ t ht=>by rw [lY,lY]; split <;> simp_all [h.get t ht],h.gf,h.sz,h.nx⟩
theorem Cong.put_self {F:List Nat} {wr:Prop} {gt:Option Nat} {tg:Nat} {x:AV} {s2':St} {G2':fE} (h:Cong o F wr gt (s.put tg x) G s' G' (s2.put tg x) G2 s2' G2') (h1:s.get tg=x) (h2:s2.get tg=x):Cong o F wr gt s G s' G' s2 G2 s2' G2' :=
 ⟨h.e1.put_self h1,h.e2.put_self h2,h.sm⟩
def wU (ops:Array Oper) (o:Oper):Option Nat :=
 match o.guard with
 | some (j,_)=>(ops[j]?).bind (·.dst)
 | none=>none
theorem Ki {c:Cf} (hE:c.E=dR) {tg:Nat} {want:Bool} (hk:cX (qK c o) o.op ≠ .bad) (h:Ag (o.looksAt ops) G s G2 s2) (hg:tg ∈ o.looksAt ops) (hF:∀ c ∈ iO s o,pE s c=pE s2 c) (hr:pY P c G tg want o s lG=some (s',G')) :
  ∃ s2' G2',pY P c G2 tg want o s2 lG=some (s2',G2') /\ Cong o (iO s o) (Eu c o) (some tg) s G s' G' s2 G2 s2' G2':=by
 have hgt:=h.get tg hg;unfold pY at hr ⊢;rw [<-hgt];split at hr
 ·rename_i b hb;have step:∀ q:Bool,b=q->oT P c G o (s.put tg (.bool q)) lG=some (s',G')->∃ s2' G2',oT P c G2 o (s2.put tg (.bool q)) lG=some (s2',G2') /\ Cong o (iO s o) (Eu c o) (some tg) s G s' G' s2 G2 s2' G2':=by
   rintro q rfl hr;have g1:=hb;have g2:s2.get tg=.bool b:=by rw [<-hgt]; exact hb
   obtain ⟨s2',G2',q1,q2⟩:=F7 hE (gt:=some tg) (ops:=ops) hk (h.put_self g1 g2) (by rw [B7 g1]; intro c hc; rw [iB,iB]; exact hF c hc) hr;rw [B7 g1] at q2;exact ⟨s2',G2',q1,q2.put_self g1 g2⟩
  have skip:∀ q:Bool,b=q->lK o G (s.put tg (.bool q)) lG=some (s',G')->∃ s2' G2',lK o G2 (s2.put tg (.bool q)) lG=some (s2',G2') /\ Cong o (iO s o) (Eu c o) (some tg) s G s' G' s2 G2 s2' G2':=by
   rintro q rfl hr;have g1:=hb;have g2:s2.get tg=.bool b:=by rw [<-hgt]; exact hb
   obtain ⟨s2',G2',q1,q2⟩:=GX (gt:=some tg) (G2:=G2) (s:=s.put tg (.bool b)) (s2:=s2.put tg (.bool b)) (F:=iO s o) (wr:=Eu c o) h.sz (by intro c hc; rw [iB,iB]; exact hF c hc) hr;exact ⟨s2',G2',q1,q2.put_self g1 g2⟩
  split at hr
  ·cases b
   ·exact skip false rfl hr
   ·exact step true rfl hr
  ·cases b
   ·exact step false rfl hr
   ·exact skip true rfl hr
 ·split at hr
  ·exact GX h.sz hF hr
  ·simp at hr
theorem BN {c:Cf} (hE:c.E=dR) (hk:cX (qK c o) o.op ≠ .bad) (h:Ag (o.looksAt ops) G s G2 s2) (hF:∀ c ∈ iO s o,pE s c=pE s2 c) (hr:kD P c ops G o s lG=some (s',G')) :
  ∃ s2' G2',kD P c ops G2 o s2 lG=some (s2',G2') /\ Cong o (iO s o) (Eu c o) (wU ops o) s G s' G' s2 G2 s2' G2':=by
 unfold kD at hr ⊢;split at hr
 ·exact F7 hE hk h hF hr
 ·rename_i j want hg;split at hr
  ·rename_i tg htg;obtain ⟨h1,h2⟩:=aY hr;have e:wU ops o=some tg:=by simp [wU,hg,htg]
   rw [e,<-h.sz,h1];exact Ki hE hk h (Kh hg htg) hF h2
  ·simp at hr
end
end
noncomputable section
open Go Go.RowKit
set_option linter.all false
def GY {β:Type} (P:Program) (c:Cf) (ops:Array Oper):List Oper->fE->St->List (List Nat)->(St->List (List Nat)->Option β)->Option β
 | [],G,s,F,K=>K s F
 | o :: rest,G,s,F,K=>kD P c ops G o s λ s' G'=>GY P c ops rest G' s' (F++[iO s o]) K
def Jt (cl:List Nat):List Edge->Nat
 | []=>0
 | e :: r=>cond (Region.binds .any e) (Nat.lor (Nat.lor (Nat.shiftLeft 1 e.on) (cl.getD e.on 0)) (Jt cl r)) (Jt cl r)
def CM:List Oper->List Nat->List Nat
 | [],cl=>cl
 | o :: r,cl=>CM r (cl++[Jt cl o.after.toList])
def SG (ops:Array Oper):List Nat:=CM ops.toList []
def Bj (t:Nat):List Nat->Bool
 | []=>false
 | x :: r=>cond (Nat.beq x t) true (Bj t r)
def SH:List Nat->List Nat->Bool
 | [],_=>false
 | x :: r,l=>cond (Bj x l) true (SH r l)
def Ju (c:Cf) (o:Oper):Bool :=
 match cX (qK c o) o.op with
 | .wr=>true
 | _=>false
def aP5 (c:Cf) (o:Oper):Bool :=
 match cX (qK c o) o.op with
 | .bad=>true
 | _=>false
def Fd (c:Cf) (ops:Array Oper) (oi oj:Oper) (Fi Fj:List Nat) (before:Bool):Bool :=
 (match oi.dst, oj.dst with
  | some d, some e => !Nat.beq d e
  | _, _ => true) &&
 (before ||
  ((match oi.dst with
   | some d=>!Bj d (oj.looksAt ops)
   | none=>true) &&
   (match oj.dst with
    | some d => !Bj d (oi.looksAt ops)
    | none => true) &&
   (!(Ju c oi || Ju c oj) || !SH Fi Fj)))
def YR (c:Cf) (ops:Array Oper) (i:Nat) (oi:Oper) (Fi:List Nat):List Oper->List (List Nat)->List Nat->Bool
 | oj :: r,Fj :: fs,m :: ms=>Fd c ops oi oj Fi Fj (m.testBit i) && YR c ops i oi Fi r fs ms
 | [],_,_=>true
 | _,_,_=>false
def GZ (c:Cf) (ops:Array Oper) (i:Nat) (o:Oper):Bool :=
 !aP5 c o && (match o.dst with
  | some d=>!Bj d (o.looksAt ops)
  | none=>true) && o.after.toList.all (λ e=>!Region.binds .any e || Nat.blt e.on i) &&
 (match o.guard with
  | some (g, _) => Nat.blt g i && o.after.toList.any (λ e => Region.binds .any e && Nat.beq e.on g)
  | none => true)
def Ga (c:Cf) (ops:Array Oper):Nat->List Oper->List (List Nat)->List Nat->Bool
 | i,o :: r,F :: fs,_ :: ms=>GZ c ops i o && YR c ops i o F r fs ms && Ga c ops (i+1) r fs ms
 | _,[],_,_=>true
 | _,_,_,_=>false
def yI:List Oper->Bool
 | []=>false
 | o :: r=>match o.op with
  | .alloc _ | .box .. | .makeSlice ..=>true
  | _=>yI r
def St.lift (s:St) (b:Bool):St:=match s with
 | ⟨tm,hp,nx,sz⟩=>⟨tm,hp,cond b (nx+sz) nx,sz⟩
def aP6 {β:Type} (P:Program) (c:Cf) (ops:Array Oper) (s:St) (K:St->Option β):Option β :=
 GY P c.quiet ops ops.toList [] (s.lift (yI ops.toList)) [] λ s' F=>cond (Ga c.quiet ops 0 ops.toList F (SG ops)) (K s') none
section
variable {P:Program} {c:Cf} {ops:Array Oper} {β:Type} {r:β}
theorem EP {K:St->List (List Nat)->Option β}:∀ (l:List Oper) (G:fE) (s:St) (F:List (List Nat)),GY P c ops l G s F K=some r ->
  ∃ S:Nat->St × fE,S 0=(s,G) /\ (∀ i o,l[i]?=some o->kD P c ops (S i).2 o (S i).1 lG=some (S (i+1))) /\
   ∃ Fs:List (List Nat),Fs.length=l.length /\ (∀ i o,l[i]?=some o->Fs[i]?=some (iO (S i).1 o)) /\ K (S l.length).1 (F++Fs)=some r:=by
 intro l
 induction l with
 | nil=>
  intro G s F h;exact ⟨λ _=>(s,G),rfl,by simp,[],rfl,by simp,by simpa [GY] using h⟩
 | cons o l ih=>
  intro G s F h;simp only [GY] at h;rw [Yt] at h;obtain ⟨⟨s1,G1⟩,h1,h2⟩:=eQ.1 h;obtain ⟨S,e0,hs,Fs,hl,hf,hk⟩:=ih G1 s1 _ h2;refine ⟨λ | 0=>(s,G) | i+1=>S i,rfl,?_,iO s o :: Fs,by simp [hl],?_,?_⟩
  ·intro i o' ho;cases i with
   | zero=>simp at ho; subst ho; simp only [e0]; exact h1
   | succ i=>simp at ho; exact hs i o' ho
  ·intro i o' ho;cases i with
   | zero=>simp at ho; subst ho; rfl
   | succ i=>simp at ho ⊢; exact hf i o' ho
  ·simpa using hk
def bef (ops:Array Oper) (j i:Nat):Prop:=∃ m,(SG ops)[i]?=some m /\ m.testBit j=true
theorem aHo {cl:List Nat} {es:List Edge} {j:Nat} (h:(Jt cl es).testBit j=true):∃ e ∈ es,Region.binds .any e=true /\ (e.on=j ∨ (cl.getD e.on 0).testBit j=true):=by
 induction es with
 | nil=>simp [Jt] at h
 | cons e r ih=>
  simp only [Jt] at h;cases hb:Region.binds .any e
  ·rw [hb] at h;obtain ⟨e',h1,h2⟩:=ih h;exact ⟨e',by simp [h1],h2⟩
  ·rw [hb] at h;simp only [aB] at h;have h':(((1 <<< e.on) ||| cl.getD e.on 0) ||| Jt cl r).testBit j=true:=h;rw [Nat.testBit_or,Nat.testBit_or,J7,J7] at h';rcases h' with (h' | h') | h'
   ·refine ⟨e,by simp,hb,.inl ?_⟩;rw [Nat.shiftLeft_eq,pV,Nat.testBit_two_pow] at h';simpa using h'
   ·exact ⟨e,by simp,hb,.inr h'⟩
   ·obtain ⟨e',h1,h2⟩:=ih h';exact ⟨e',by simp [h1],h2⟩
theorem aAN:∀ (l:List Oper) (cl:List Nat),(∀ i,i < cl.length->(CM l cl)[i]?=cl[i]?) /\ ∀ i o,l[i]?=some o->∃ cl',(∀ k,k < cl.length+i->cl'[k]?=(CM l cl)[k]?) /\ cl'.length=cl.length+i /\ (CM l cl)[cl.length+i]?=some (Jt cl' o.after.toList):=by
 intro l
 induction l with
 | nil=>intro cl; exact ⟨λ _ _=>rfl,by simp⟩
 | cons o l ih=>
  intro cl;obtain ⟨h1,h2⟩:=ih (cl++[Jt cl o.after.toList]);simp only [CM];have key:∀ i,i < cl.length->(CM l (cl++[Jt cl o.after.toList]))[i]?=cl[i]?:=λ i hi=>by
   rw [h1 i (by simp; omega),yO hi]
  refine ⟨key,?_⟩;intro i o' ho;cases i with
  | zero=>
   simp at ho; subst ho;refine ⟨cl,λ k hk=>(key k (by omega)).symm,rfl,?_⟩;rw [fH,h1 cl.length (by simp)];simp
  | succ i=>
   simp at ho;obtain ⟨cl',g1,g2,g3⟩:=h2 i o' ho;simp only [i9,KC] at g1 g2 g3;refine ⟨cl',λ k hk=>g1 k (by omega),by omega,?_⟩;rw [show cl.length+(i+1)=cl.length+1+i by omega]; exact g3
theorem aHp {i j:Nat} {o:Oper} (ho:ops[i]?=some o) (h:bef ops j i) (hacy:∀ e ∈ o.after,Region.binds .any e=true->e.on < i):∃ e ∈ o.after,Region.binds .any e=true /\ (e.on=j ∨ bef ops j e.on):=by
 obtain ⟨m,hm,hb⟩:=h;obtain ⟨cl',g1,g2,g3⟩:=(aAN ops.toList []).2 i o (by simpa using ho);simp only [PJ,bS] at g1 g2 g3;have e1:m=Jt cl' o.after.toList:=by
  have:(SG ops)[i]?=_:=g3;rw [hm] at this; exact dG this
 rw [e1] at hb;obtain ⟨e,he,hbd,hj⟩:=aHo hb;have he:e ∈ o.after:=by simpa using he
 refine ⟨e,he,hbd,hj.imp id λ hj=>?_⟩;have hlt:=hacy e he hbd;have e2:=g1 e.on (by omega);have hx:cl'[e.on]?=some (cl'.getD e.on 0):=by
  rw [List.getD,oD (by omega)]; rfl
 exact ⟨_,by rw [<-hx,e2]; rfl,hj⟩
theorem U9 {L:Nat->Prop} (hacy:∀ i o,ops[i]?=some o->∀ e ∈ o.after,Region.binds .any e=true->e.on < i) (hcl:∀ i o,ops[i]?=some o->L i->∀ e ∈ o.after,Region.binds .any e=true->L e.on)
  (hin:∀ i j,bef ops j i->∃ o,ops[i]?=some o):∀ (i:Nat),(∀ o,ops[i]?=some o->∀ e ∈ o.after,Region.binds .any e=true->L e.on)->∀ j,bef ops j i->L j:=by
 intro i
 induction i using Nat.strongRecOn with
 | _ i ih=>
  intro hr j hb;obtain ⟨o,ho⟩:=hin i j hb;obtain ⟨e,he,hbd,hj⟩:=aHp ho hb (hacy i o ho);have hL:=hr o ho e he hbd;rcases hj with rfl | hj
  ·exact hL
  ·exact ih e.on (hacy i o ho e he hbd) (λ o' ho'=>hcl e.on o' ho' hL) j hj
theorem aWG {i j:Nat} (h:bef ops j i):∃ o,ops[i]?=some o:=by
 obtain ⟨m,hm,_⟩:=h;have key:∀ (l:List Oper) (cl:List Nat),(CM l cl).length=cl.length+l.length:=by
  intro l
  induction l with
  | nil=>intro cl; simp [CM]
  | cons o l ih=>intro cl; simp [CM,ih]; omega
 have h1:=(iT.1 hm).1;unfold SG at h1;rw [key] at h1;exact ⟨ops[i]'(by simpa using h1),by simp⟩
theorem yJ {t:Nat} {l:List Nat}:Bj t l=true ↔ t ∈ l:=by
 induction l with
 | nil=>simp [Bj]
 | cons x r ih=>
  simp only [Bj];by_cases h:x=t
  ·subst h; simp
  ·have:Nat.beq x t=false:=iP h;simp [this,ih,fX h]
theorem SI {l m:List Nat} (h:SH l m=false):∀ c ∈ l,c ∉ m:=by
 induction l with
 | nil=>simp
 | cons x r ih=>
  simp only [SH] at h;cases hm:Bj x m
  ·rw [hm] at h;intro c hc;rcases mR.1 hc with rfl | hc
   ·intro h1; rw [yJ.2 h1] at hm; cases hm
   ·exact ih h c hc
  ·rw [hm] at h; simp at h
structure Ok (c:Cf) (ops:Array Oper) (Fs:List (List Nat)):Prop where
 one:∀ i o,ops[i]?=some o->GZ c ops i o=true
 pair:∀ i j oi oj Fi Fj,i < j->ops[i]?=some oi->ops[j]?=some oj->Fs[i]?=some Fi->Fs[j]?=some Fj->∃ b,Fd c ops oi oj Fi Fj b=true /\ (b=true->bef ops i j)
theorem aAO {i:Nat} {oi:Oper} {Fi:List Nat}:∀ {l:List Oper} {fs:List (List Nat)} {ms:List Nat},YR c ops i oi Fi l fs ms=true->∀ (j:Nat) (oj:Oper) (Fj:List Nat),l[j]?=some oj->fs[j]?=some Fj->∃ m:Nat,ms[j]?=some m /\ Fd c ops oi oj Fi Fj (m.testBit i)=true:=by
 intro l
 induction l with
 | nil=>simp
 | cons o l ih=>
  intro fs ms h j oj Fj h1 h2
  match fs,ms,h with
  | F :: fs,m :: ms,h=>
   simp only [YR,aX] at h;cases j with
   | zero=>simp at h1 h2; subst h1; subst h2; exact ⟨m,rfl,h.1⟩
   | succ j=>simp at h1 h2; exact ih h.2 j oj Fj h1 h2
theorem Ls:∀ {l:List Oper} {k:Nat} {fs:List (List Nat)} {ms:List Nat},Ga c ops k l fs ms=true->∀ (i:Nat) (oi:Oper),l[i]?=some oi->GZ c ops (k+i) oi=true /\
  ∀ (j:Nat) (oj:Oper) (Fi Fj:List Nat),i < j->l[j]?=some oj->fs[i]?=some Fi->fs[j]?=some Fj->∃ m:Nat,ms[j]?=some m /\ Fd c ops oi oj Fi Fj (m.testBit (k+i))=true:=by
 intro l
 induction l with
 | nil=>simp
 | cons o l ih=>
  intro k fs ms h i oi hi
  match fs,ms,h with
  | F :: fs,m :: ms,h=>
   simp only [Ga,aX] at h;cases i with
   | zero=>
    simp at hi; subst hi;refine ⟨h.1.1,?_⟩;intro j oj Fi Fj hj h1 h2 h3;cases j with
    | zero=>omega
    | succ j=>
     simp at h1 h2 h3; subst h2;obtain ⟨m',q1,q2⟩:=aAO h.1.2 j oj Fj h1 h3;exact ⟨m',by simpa using q1,q2⟩
   | succ i=>
    simp at hi;obtain ⟨q1,q2⟩:=ih h.2 i oi hi;refine ⟨by rw [show k+(i+1)=k+1+i by omega]; exact q1,?_⟩;intro j oj Fi Fj hj h1 h2 h3;cases j with
    | zero=>omega
    | succ j=>
     simp at h1 h2 h3;obtain ⟨m',r1,r2⟩:=q2 j oj Fi Fj (by omega) h1 h2 h3;exact ⟨m',by simpa using r1,by rw [show k+(i+1)=k+1+i by omega]; exact r2⟩
theorem Ok.of {Fs:List (List Nat)} (h:Ga c ops 0 ops.toList Fs (SG ops)=true):Ok c ops Fs:=by
 refine ⟨λ i o ho=>?_,λ i j oi oj Fi Fj hij hi hj h1 h2=>?_⟩
 ·have:=(Ls h i o (by simpa using ho)).1;simpa using this
 ·obtain ⟨m,q1,q2⟩:=(Ls h i oi (by simpa using hi)).2 j oj Fi Fj hij (by simpa using hj) h1 h2;rw [bS] at q2;exact ⟨_,q2,λ hb=>⟨m,q1,hb⟩⟩
end
end
noncomputable section
open Go Go.RowKit
set_option linter.all false
section
variable {P:Program} {c:Cf} {ops:Array Oper} {β:Type} {r:β} {S:Nat->St × fE} {Fs:List (List Nat)} {B:Bs} {w0:World}
structure Inv (c:Cf) (ops:Array Oper) (S:Nat->St × fE) (L:Nat->Prop) (s2:St) (G2:fE):Prop where
 sz:s2.sz=(S 0).1.sz
 nx:s2.nx=(S 0).1.nx
 ini:∀ t,(∀ i o,ops[i]?=some o->L i->o.dst ≠ some t)->s2.get t=(S 0).1.get t /\ ∀ tg w,fV G2 t tg w=none
 wrt:∀ i o t,ops[i]?=some o->L i->o.dst=some t->s2.get t=(S (i+1)).1.get t /\ ∀ tg w,fV G2 t tg w=fV (S (i+1)).2 t tg w
 gt:∀ t tg w p,fV G2 t tg w=some p->∃ g og,ops[g]?=some og /\ L g /\ og.dst=some tg
 vt:∀ q,∃ m,m <= ops.size /\ pE s2 q=pE (S m).1 q /\ ∀ j o,ops[j]?=some o->Eu c o->q ∈ iO (S j).1 o->(L j ↔ j < m)
structure Run (P:Program) (c:Cf) (ops:Array Oper) (S:Nat->St × fE) (Fs:List (List Nat)):Prop where
 hE:c.E=dR
 g0:(S 0).2=[]
 step:∀ i o,ops[i]?=some o->kD P c ops (S i).2 o (S i).1 lG=some (S (i+1))
 fs:∀ i o,ops[i]?=some o->Fs[i]?=some (iO (S i).1 o)
 ok:Ok c ops Fs
theorem O0 {i:Nat} {o:Oper} (h:GZ c ops i o=true):cX (qK c o) o.op ≠ .bad:=by
 intro e;simp [GZ,aP5,e] at h
theorem Ag.refl {lk:List Tmp} {s:St} {G:fE}:Ag lk G s G s:=⟨λ _ _=>rfl,λ _ _ _ _ _=>rfl,rfl,rfl⟩
theorem Run.eff (h:Run P c ops S Fs) {i:Nat} {o:Oper} (ho:ops[i]?=some o):Eff o (iO (S i).1 o) (Eu c o) (wU ops o) (S i).1 (S i).2 (S (i+1)).1 (S (i+1)).2:=by
 obtain ⟨s2,G2,h1,h2⟩:=BN (P:=P) (c:=c) (ops:=ops) h.hE (O0 (h.ok.one i o ho)) Ag.refl (λ _ _=>rfl) (h.step i o ho);exact h2.e1
theorem Run.acy (h:Run P c ops S Fs):∀ i o,ops[i]?=some o->∀ e ∈ o.after,Region.binds .any e=true->e.on < i:=by
 intro i o ho e he hb;have:=h.ok.one i o ho;simp only [GZ,aX] at this;have:=rG.1 this.1.2 e (by simpa using he);simp only [hb,jW,Cu] at this;exact cF this
theorem Run.selfDst (h:Run P c ops S Fs) {i:Nat} {o:Oper} (ho:ops[i]?=some o) {d:Nat} (hd:o.dst=some d):d ∉ o.looksAt ops:=by
 have:=h.ok.one i o ho;simp only [GZ,aX,hd] at this;have:=this.1.1.2;intro hm;rw [yJ.2 hm] at this; simp at this
theorem Run.guard (h:Run P c ops S Fs) {i:Nat} {o:Oper} (ho:ops[i]?=some o) {g:Nat} {w:Bool} (hg:o.guard=some (g,w)):g < i /\ ∃ e ∈ o.after,Region.binds .any e=true /\ e.on=g:=by
 have:=h.ok.one i o ho;simp only [GZ,aX,hg] at this;obtain ⟨h1,h2⟩:=this.2;obtain ⟨e,he,hb⟩:=List.any_eq_true.1 h2;simp only [aX] at hb;exact ⟨cF h1,e,by simpa using he,hb.1,aS hb.2⟩
theorem Run.dsts (h:Run P c ops S Fs) {i j:Nat} {oi oj:Oper} (hi:ops[i]?=some oi) (hj:ops[j]?=some oj) (hne:i ≠ j) {d:Nat} (hd:oi.dst=some d):oj.dst ≠ some d:=by
 have key:∀ {i j:Nat} {oi oj:Oper},ops[i]?=some oi->ops[j]?=some oj->i < j->∀ {d:Nat},oi.dst=some d->oj.dst ≠ some d:=by
  intro i j oi oj hi hj hlt d hd he;obtain ⟨b,h1,_⟩:=h.ok.pair i j oi oj _ _ hlt hi hj (h.fs i oi hi) (h.fs j oj hj);simp only [Fd,hd,he,aX] at h1;simp at h1
 rcases Nat.lt_or_gt_of_ne hne with h1 | h1
 ·exact key hi hj h1 hd
 ·exact λ he=>key hj hi h1 he hd
theorem Run.apart (h:Run P c ops S Fs) {i j:Nat} {oi oj:Oper} (hi:ops[i]?=some oi) (hj:ops[j]?=some oj) (hlt:i < j) (hb:¬ bef ops i j) :
  (∀ d,oi.dst=some d->d ∉ oj.looksAt ops) /\ (∀ d,oj.dst=some d->d ∉ oi.looksAt ops) /\ (Eu c oi ∨ Eu c oj->∀ q ∈ iO (S i).1 oi,q ∉ iO (S j).1 oj):=by
 obtain ⟨b,h1,h2⟩:=h.ok.pair i j oi oj _ _ hlt hi hj (h.fs i oi hi) (h.fs j oj hj);have hbf:b=false:=by
  cases b
  ·rfl
  ·exact absurd (h2 rfl) hb
 subst hbf;simp only [Fd,aX,Cu] at h1;obtain ⟨_,⟨h3,h4⟩,h5⟩:=h1;refine ⟨λ d hd hm=>?_,λ d hd hm=>?_,λ hw=>?_⟩
 ·simp only [hd,yJ.2 hm] at h3; simp at h3
 ·simp only [hd,yJ.2 hm] at h4; simp at h4
 ·have:(Ju c oi || Ju c oj)=true:=by
   rcases hw with hw | hw
   ·have:Ju c oi=true:=by unfold Ju; rw [show cX (qK c oi) oi.op=.wr from hw]
    simp [this]
   ·have:Ju c oj=true:=by unfold Ju; rw [show cX (qK c oj) oj.op=.wr from hw]
    simp [this]
  rw [this] at h5;simp at h5;exact SI h5
theorem Run.frame (h:Run P c ops S Fs) {q a b:Nat} (hab:a <= b) (hb:b <= ops.size) (hn:∀ j o,a <= j->j < b->ops[j]?=some o->Eu c o->q ∉ iO (S j).1 o):pE (S b).1 q=pE (S a).1 q:=by
 induction b with
 | zero => have : a = 0 := by omega
           subst this; rfl
 | succ b ih=>
  rcases pS b a with h1 | h1
  ·have:a=b+1:=by omega
   subst this; rfl
  ·have ho:ops[b]?=some (ops[b]'(by omega)):=by simp
   rw [<-ih h1 (by omega) λ j o h2 h3=>hn j o h2 (by omega)];have e:=h.eff ho;by_cases hw:Eu c (ops[b]'(by omega))
   ·exact e.rest q (hn b _ h1 (by omega) ho hw)
   ·exact e.still hw q
theorem Inv.next (h:Run P c ops S Fs) {L:Nat->Prop} {s2 s2':St} {G2 G2':fE} (inv:Inv c ops S L s2 G2) {i:Nat} {o:Oper} (ho:ops[i]?=some o) (hL:¬ L i)
  (hc:Cong o (iO (S i).1 o) (Eu c o) (wU ops o) (S i).1 (S i).2 (S (i+1)).1 (S (i+1)).2 s2 G2 s2' G2')
  (hw:∀ j oj q,ops[j]?=some oj->Eu c o->Eu c oj->q ∈ iO (S i).1 o->q ∈ iO (S j).1 oj->(j < i->L j) /\ (i < j->¬ L j))
  (hg:∀ g w,o.guard=some (g,w)->L g):Inv c ops S (λ j=>L j ∨ j=i) s2' G2':=by
 refine ⟨hc.e2.sz.trans inv.sz,hc.e2.nx.trans inv.nx,?_,?_,?_,?_⟩
 ·intro t ht;have hd:o.dst ≠ some t:=ht i o ho (.inr rfl);obtain ⟨h1,h2⟩:=inv.ini t λ j oj hj hLj=>ht j oj hj (.inl hLj);refine ⟨(hc.e2.get t hd).trans h1,λ tg w=>?_⟩;by_cases e:o.dst=some tg
  ·exact hc.e2.g2 t tg w e
  ·rw [hc.e2.g1 t tg w hd e]; exact h2 tg w
 ·intro j oj t hj hLj ht;by_cases e:j=i
  ·subst e;rw [ho] at hj; cases hj;exact ⟨(hc.sm.get t ht).symm,λ tg w=>(hc.sm.gf t tg w ht).symm⟩
  ·have hLj:L j:=hLj.resolve_right e;have hd:o.dst ≠ some t:=h.dsts hj ho e ht;obtain ⟨h1,h2⟩:=inv.wrt j oj t hj hLj ht;refine ⟨(hc.e2.get t hd).trans h1,λ tg w=>?_⟩;by_cases e2:o.dst=some tg
   ·rw [hc.e2.g2 t tg w e2,<-h2];cases hgf:fV G2 t tg w with
    | none=>rfl
    | some p=>
     obtain ⟨g,og,g1,g2,g3⟩:=inv.gt t tg w p hgf;by_cases e3:g=i
     ·subst e3; exact absurd g2 hL
     ·exact absurd e2 (h.dsts g1 ho e3 g3)
   ·rw [hc.e2.g1 t tg w hd e2]; exact h2 tg w
 ·intro t tg w p hp;by_cases hd:o.dst=some t
  ·have:=hc.e2.g3 t tg w p hd hp;unfold wU at this;split at this
   ·rename_i g w' hgu;obtain ⟨og,g1,g2⟩:=eQ.1 this;exact ⟨g,og,g1,.inl (hg g w' hgu),g2⟩
   ·cases this
  ·by_cases e2:o.dst=some tg
   ·rw [hc.e2.g2 t tg w e2] at hp; cases hp
   ·rw [hc.e2.g1 t tg w hd e2] at hp;obtain ⟨g,og,g1,g2,g3⟩:=inv.gt t tg w p hp;exact ⟨g,og,g1,.inl g2,g3⟩
 ·intro q;have hi:i < ops.size:=(uP.1 ho).1;by_cases hq:Eu c o /\ q ∈ iO (S i).1 o
  ·refine ⟨i+1,hi,(hc.sm.vt q hq.2).symm,λ j oj hj hwj hqj=>?_⟩;obtain ⟨h1,h2⟩:=hw j oj q hj hq.1 hwj hq.2 hqj;constructor
   ·rintro (hl | rfl)
    ·rcases pS i j with h3 | h3
     ·exact absurd hl (h2 h3)
     ·omega
    ·omega
   ·intro hlt;rcases pS j i with h3 | h3
    ·exact .inl (h1 h3)
    ·exact .inr (by omega)
  ·obtain ⟨m,h0,h1,h2⟩:=inv.vt q;refine ⟨m,h0,?_,λ j oj hj hwj hqj=>?_⟩
   ·rw [<-h1];by_cases hwo:Eu c o
    ·exact hc.e2.rest q λ hm=>hq ⟨hwo,hm⟩
    ·exact hc.e2.still hwo q
   ·rw [<-h2 j oj hj hwj hqj];constructor
    ·rintro (hl | rfl)
     ·exact hl
     ·rw [ho] at hj; cases hj;exact absurd ⟨hwj,hqj⟩ hq
    ·exact .inl
theorem Run.text (h:Run P c ops S Fs):∀ k,k <= ops.size->Inv c ops S (λ j=>j < k) (S k).1 (S k).2:=by
 intro k
 induction k with
 | zero=>
  intro _;exact ⟨rfl,rfl,λ t _=>⟨rfl,λ tg w=>by rw [h.g0]; rfl⟩,λ i o t _ hl=>by omega,λ t tg w p hp=>by rw [h.g0] at hp; simp [fV] at hp,λ q=>⟨0,pW _,rfl,λ j o _ _ _=>by omega⟩⟩
 | succ k ih=>
  intro hk;have ho:ops[k]?=some (ops[k]'(by omega)):=by simp
  obtain ⟨s2,G2,h1,h2⟩:=BN (P:=P) (c:=c) (ops:=ops) h.hE (O0 (h.ok.one k _ ho)) Ag.refl (λ _ _=>rfl) (h.step k _ ho);have e:=h.step k _ ho;rw [h1] at e;have e:=dG e;have e1:s2=(S (k+1)).1:=by rw [<-e]
  have e2:G2=(S (k+1)).2:=by rw [<-e]
  subst e1; subst e2;have:=Inv.next h (ih (by omega)) ho (by omega) h2 (λ j oj q _ _ _ _ _=>⟨λ hj=>hj,λ hj=>by omega⟩) (λ g w hg=>(h.guard ho hg).1)
  refine ⟨this.sz,this.nx,λ t ht=>this.ini t λ i o hi hl=>ht i o hi (by omega),λ i o t hi hl=>this.wrt i o t hi (by omega),λ t tg w p hp=>?_,λ q=>?_⟩
  ·obtain ⟨g,og,g1,g2,g3⟩:=this.gt t tg w p hp;exact ⟨g,og,g1,by omega,g3⟩
  ·obtain ⟨m,q0,q1,q2⟩:=this.vt q;exact ⟨m,q0,q1,λ j o hj hwj hqj=>by rw [<-q2 j o hj hwj hqj]; omega⟩
structure Clo (ops:Array Oper) (L:Nat->Prop):Prop where
 cl:∀ i o,ops[i]?=some o->L i->∀ e ∈ o.after,Region.binds .any e=true->L e.on
theorem Run.listed (h:Run P c ops S Fs) {L:Nat->Prop} (hcl:Clo ops L) {i:Nat} {o:Oper} (ho:ops[i]?=some o) (hr:∀ e ∈ o.after,Region.binds .any e=true->L e.on) {j:Nat} (hb:bef ops j i):L j :=
 U9 h.acy hcl.cl (λ i j=>aWG) i (λ o' ho' e he hbd=>by rw [ho] at ho'; cases ho'; exact hr e he hbd) j hb
theorem Run.agree (h:Run P c ops S Fs) {L:Nat->Prop} (hcl:Clo ops L) {s2:St} {G2:fE} (inv:Inv c ops S L s2 G2) {i:Nat} {o:Oper} (ho:ops[i]?=some o) (hL:¬ L i) (hr:∀ e ∈ o.after,Region.binds .any e=true->L e.on) :
  Ag (o.looksAt ops) (S i).2 (S i).1 G2 s2 /\ ∀ q ∈ iO (S i).1 o,pE (S i).1 q=pE s2 q:=by
 have hi:i < ops.size:=(uP.1 ho).1;have tx:=h.text i (by omega);have early:∀ j,bef ops j i->L j:=λ j hb=>h.listed hcl ho hr hb;have late:∀ j oj,ops[j]?=some oj->bef ops i j->¬ L j:=λ j oj hj hb hLj=>hL (h.listed hcl hj (hcl.cl j oj hj hLj) hb);have key:∀ t ∈ o.looksAt ops,(S i).1.get t=s2.get t /\ ∀ tg w,fV (S i).2 t tg w=fV G2 t tg w:=by
  intro t ht;by_cases hex:∃ (j:Nat) (oj:Oper),ops[j]?=some oj /\ oj.dst=some t
  ·obtain ⟨j,oj,hj,hd⟩:=hex;have uniq:∀ k ok,ops[k]?=some ok->ok.dst=some t->k=j:=λ k ok hk hkd=>by
    by_cases e:k=j
    ·exact e
    ·exact absurd hd (h.dsts hk hj e hkd)
   rcases Nat.lt_trichotomy j i with hlt | rfl | hgt
   ·have hbf:bef ops j i:=by
     by_cases hb:Eng.bef ops j i
     ·exact hb
     ·exact absurd ht ((h.apart hj ho hlt hb).1 t hd)
    obtain ⟨a1,a2⟩:=tx.wrt j oj t hj hlt hd;obtain ⟨b1,b2⟩:=inv.wrt j oj t hj (early j hbf) hd;exact ⟨a1.trans b1.symm,λ tg w=>(a2 tg w).trans (b2 tg w).symm⟩
   ·rw [ho] at hj; cases hj;exact absurd ht (h.selfDst ho hd)
   ·have hbf:bef ops i j:=by
     by_cases hb:Eng.bef ops i j
     ·exact hb
     ·exact absurd ht ((h.apart ho hj hgt hb).2.1 t hd)
    obtain ⟨a1,a2⟩:=tx.ini t λ k ok hk hlk hkd=>by have:=uniq k ok hk hkd; omega
    obtain ⟨b1,b2⟩:=inv.ini t λ k ok hk hlk hkd=>by have:=uniq k ok hk hkd; subst this; exact late k oj hj hbf hlk
    exact ⟨a1.trans b1.symm,λ tg w=>(a2 tg w).trans (b2 tg w).symm⟩
  ·obtain ⟨a1,a2⟩:=tx.ini t λ k ok hk hlk hkd=>hex ⟨k,ok,hk,hkd⟩;obtain ⟨b1,b2⟩:=inv.ini t λ k ok hk hlk hkd=>hex ⟨k,ok,hk,hkd⟩;exact ⟨a1.trans b1.symm,λ tg w=>(a2 tg w).trans (b2 tg w).symm⟩
 refine ⟨⟨λ t ht=>(key t ht).1,λ t ht tg _ w=>(key t ht).2 tg w,tx.sz.trans inv.sz.symm,tx.nx.trans inv.nx.symm⟩,λ q hq=>?_⟩;obtain ⟨m,m0,m1,m2⟩:=inv.vt q;rw [m1];rcases Nat.le_total m i with hmi | him
 ·refine h.frame hmi (by omega) λ j oj h1 h2 hj hwj hqj=>?_;have hnl:¬ L j:=λ hl=>by have:=(m2 j oj hj hwj hqj).1 hl; omega
  by_cases hb:bef ops j i
  ·exact hnl (early j hb)
  ·exact (h.apart hj ho h2 hb).2.2 (.inl hwj) q hqj hq
 ·refine (h.frame him m0 λ j oj h1 h2 hj hwj hqj=>?_).symm;have hl:L j:=(m2 j oj hj hwj hqj).2 h2;rcases pS i j with h3 | h3
  ·by_cases hb:bef ops i j
   ·exact late j oj hj hb hl
   ·exact (h.apart ho hj h3 hb).2.2 (.inr hwj) q hq hqj
  ·have:j=i:=by omega
   subst this; exact hL hl
end
end
noncomputable section
open Go Go.RowKit
set_option linter.all false
section
variable {ro:Option Nat} {n:Nat} {P:Program} {c:Cf} {ops:Array Oper} {β:Type} {r:β} {S:Nat->St × fE} {Fs:List (List Nat)} {B:Bs} {w0 w:World} {ρ:Plc} {s:St} {a:Act}
theorem Rel.congr {s':St} (h:Rel B w0 ρ s a w) (hg:∀ t,s'.get t=s.get t) (hl:∀ i,bU s'.hp i=bU s.hp i) (hn:s'.nx=s.nx) (hz:s'.sz=s.sz):Rel B w0 ρ s' a w :=
 have hv:∀ id,Liv s id->Liv s' id:=λ id h=>⟨by rw [hn]; exact h.1,by obtain ⟨b,hb⟩:=h.2; exact ⟨b,by rw [hl]; exact hb⟩⟩
 ⟨λ t => by rw [hg]; exact h.tm t, λ id x hx => by rw [hl]; exact h.blk id x hx, λ id x hx => by rw [hn]; exact h.lt id x hx, h.inj, h.base, by rw [hz]; exact h.size, h.df, h.below, h.b0,
  λ t id hid => by rw [hg] at hid; exact hv id (h.rt t id hid), λ i b hb id hid => by rw [hl] at hb; exact hv id (h.rb i b hb id hid), λ i b hb hr => by rw [hl] at hb; exact h.gh i b hb hr, h.ob, h.ox⟩
theorem Inv.mono {L L':Nat->Prop} {s2:St} {G2:fE} (h:Inv c ops S L s2 G2) (hl:∀ i,i < ops.size->(L i ↔ L' i)):Inv c ops S L' s2 G2:=by
 have hs:∀ {i o},ops[i]?=some o->i < ops.size:=λ h=>(uP.1 h).1;refine ⟨h.sz,h.nx,λ t ht=>h.ini t λ i o hi hL=>ht i o hi ((hl i (hs hi)).1 hL),λ i o t hi hL=>h.wrt i o t hi ((hl i (hs hi)).2 hL),λ t tg w p hp=>?_,λ q=>?_⟩
 ·obtain ⟨g,og,g1,g2,g3⟩:=h.gt t tg w p hp;exact ⟨g,og,g1,(hl g (hs g1)).1 g2,g3⟩
 ·obtain ⟨m,m0,m1,m2⟩:=h.vt q;exact ⟨m,m0,m1,λ j o hj hw hq=>by rw [<-hl j (hs hj)]; exact m2 j o hj hw hq⟩
theorem Run.last (h:Run P c ops S Fs) {L:Nat->Prop} {s2:St} {G2:fE} (inv:Inv c ops S L s2 G2) (hL:∀ i,i < ops.size->L i) (hr:Rel B w0 ρ s2 a w):Rel B w0 ρ (S ops.size).1 a w:=by
 have tx:=h.text ops.size (bV _);have hs:∀ {i o},ops[i]?=some o->i < ops.size:=λ h=>(uP.1 h).1;have hv:∀ q,pE (S ops.size).1 q=pE s2 q:=by
  intro q;obtain ⟨m,m0,m1,m2⟩:=inv.vt q;rw [m1];exact h.frame m0 (bV _) λ j o h1 h2 hj hw hq=>by have:=(m2 j o hj hw hq).1 (hL j (hs hj)); omega
 refine hr.congr (λ t=>?_) (λ i=>?_) (tx.nx.trans inv.nx.symm) (tx.sz.trans inv.sz.symm)
 ·by_cases hex:∃ (j:Nat) (oj:Oper),ops[j]?=some oj /\ oj.dst=some t
  ·obtain ⟨j,oj,hj,hd⟩:=hex;exact (tx.wrt j oj t hj (hs hj) hd).1.trans (inv.wrt j oj t hj (hL j (hs hj)) hd).1.symm
  ·exact (tx.ini t λ k ok hk _ hkd=>hex ⟨k,ok,hk,hkd⟩).1.trans (inv.ini t λ k ok hk _ hkd=>hex ⟨k,ok,hk,hkd⟩).1.symm
 ·have:=hv (i+1);simpa [pE] using this
def Ff (listed:Array Bool) (i:Nat):Prop:=listed.getD i false=true
theorem EQ {listed:Array Bool} {i j:Nat} (hi:i < listed.size):Ff (listed.setIfInBounds i true) j ↔ Ff listed j ∨ j=i:=by
 unfold Ff;by_cases e:j=i
 ·subst e; simp [hi]
 ·rw [getD_set_ne false (fX e)]; simp [e]
theorem Jv {listed:Array Bool} {i:Nat} (hi:i < listed.size):listed.getD i true=false ↔ ¬ Ff listed i:=by
 unfold Ff; simp [hi]
theorem Lt {l:List Bool} (h:l.count false=0):∀ i (hi:i < l.length),l[i]=true:=by
 intro i hi;have:=List.count_eq_zero.1 h;cases e:l[i]
 ·exact absurd (e ▸ List.getElem_mem hi) this
 ·rfl
theorem aAP (hΓ:CfOk P c) (h:Run P c ops S Fs) {Q:Exit->Act->World->Prop} (hQ:∀ a w ρ,Rel B w0 ρ (S ops.size).1 a w->Q .normal a w) :
  ∀ (fuel:Nat) (listed:Array Bool) (s2:St) (G2:fE) (a:Act) (w:World) (ρ:Plc),listed.size=ops.size->listed.toList.count false=fuel->Clo ops (Ff listed)->Inv c ops S (Ff listed) s2 G2->Rel B w0 ρ s2 a w->GR G2 a ->
   wpAnyIn (Fw ro) n P .any ops Q fuel listed a w:=by
 intro fuel
 induction fuel with
 | zero=>
  intro listed s2 G2 a w ρ hsz hcnt hcl inv hr hG;have hall:∀ i,i < ops.size->Ff listed i:=by
   intro i hi;have hi':i < listed.size:=by omega
   have:=Lt hcnt i (by simpa using hi');unfold Ff; simp [hi']; simpa using this
  refine ⟨?_,hQ a w ρ (h.last inv hall hr)⟩;cases he:Region.ready .any ops listed with
  | nil=>rfl
  | cons j r=>
   have hj:j ∈ Region.ready .any ops listed:=by rw [he]; simp
   obtain ⟨h1,o,ho,_⟩:=mem_ready.1 hj;have hlt:=(uP.1 ho).1;exact absurd (hall j hlt) ((Jv (by omega)).1 h1)
 | succ fuel ih=>
  intro listed s2 G2 a w ρ hsz hcnt hcl inv hr hG;refine ⟨λ hnil=>?_,λ i hi=>?_⟩
  ·refine hQ a w ρ (h.last inv (λ i=>?_) hr)
   induction i using Nat.strongRecOn with
   | _ i ih2=>
    intro hi;by_cases hl:Ff listed i
    ·exact hl
    ·have ho:ops[i]?=some (ops[i]'hi):=by simp
     have:i ∈ Region.ready .any ops listed:=mem_ready.2 ⟨(Jv (by omega)).2 hl,_,ho,λ e he hb=>ih2 e.on (h.acy i _ ho e he hb) (by have:=h.acy i _ ho e he hb; omega)⟩;rw [hnil] at this; cases this
  ·obtain ⟨h1,o,ho,h2⟩:=mem_ready.1 hi;have hlt:=(uP.1 ho).1;have hlt':i < listed.size:=by omega
   have hL:¬ Ff listed i:=(Jv hlt').1 h1;obtain ⟨ag,vg⟩:=h.agree hcl inv ho hL h2;obtain ⟨s2',G2',q1,q2⟩:=BN (P:=P) (c:=c) (ops:=ops) h.hE (O0 (h.ok.one i o ho)) ag vg (h.step i o ho);have hcl':Clo ops (Ff (listed.setIfInBounds i true)):=⟨λ k ok hk hlk e he hb=>by
    rw [EQ hlt'] at hlk ⊢;rcases hlk with hlk | rfl
    ·exact .inl (hcl.cl k ok hk hlk e he hb)
    ·rw [ho] at hk; cases hk;exact .inl (h2 e he hb)⟩
   have inv':Inv c ops S (Ff (listed.setIfInBounds i true)) s2' G2':=by
    refine (inv.next h ho hL q2 (λ j oj q hj hwi hwj hqi hqj=>⟨λ hji=>?_,λ hij=>?_⟩) (λ g wt hg=>?_)).mono λ k _=>(EQ hlt').symm
    ·by_cases hb:bef ops j i
     ·exact h.listed hcl ho h2 hb
     ·exact absurd hqi ((h.apart hj ho hji hb).2.2 (.inl hwj) q hqj)
    ·intro hl;by_cases hb:bef ops i j
     ·exact hL (h.listed hcl hj (hcl.cl j oj hj hl) hb)
     ·exact absurd hqj ((h.apart ho hj hij hb).2.2 (.inl hwi) q hqi)
    ·obtain ⟨_,e,he,hb,rfl⟩:=h.guard ho hg;exact h2 e he hb
   have hcnt':(listed.setIfInBounds i true).toList.count false=fuel:=by
    have hge:listed.toList[i]'(by simpa using hlt')=false:=by
     have:=h1;simp [hlt'] at this; simpa using this
    rw [Ye,List.count_set (by simpa using hlt'),hcnt,hge];simp
   have h1:=Hw (ro:=ro) (n:=n) (Q:=Q) hΓ hr hG q1 (λ s3 G3 a3 w3 ρ3 e3 r3 g3=>by
    simp only [lG,lF,uX] at e3;obtain ⟨rfl,rfl⟩:=e3;exact ih _ _ _ a3 w3 ρ3 (by simpa using hsz) hcnt' hcl' inv' r3 g3)
   unfold wpOpIn;rw [ho];simp only [];by_cases hw:Region.wanted o (yielded ops a.tmps)=true
   ·rw [aT hw] at h1 ⊢; exact h1
   ·rw [aW hw] at h1 ⊢; exact ⟨λ _ _=>trivial,h1⟩
theorem Rel.lift (h:Rel B w0 ρ s a w) (b:Bool):Rel B w0 ρ (s.lift b) a w:=by
 have hn:s.nx <= (s.lift b).nx:=by
  show s.nx <= cond b (s.nx+s.sz) s.nx;cases b
  ·exact bV _
  ·exact Nat.le_add_right _ _
 have hv:∀ id,Liv s id->Liv (s.lift b) id:=λ id h=>⟨cU h.1 hn,h.2⟩;exact ⟨h.tm,h.blk,λ id x hx=>cU (h.lt id x hx) hn,h.inj,h.base,h.size,h.df,h.below,h.b0,
  λ t id hid=>hv id (h.rt t id hid),λ i c hc id hid=>hv id (h.rb i c hc id hid),h.gh,h.ob,h.ox⟩
theorem SJ (hm:P.follows .mixedOrders=true) (hΓ:CfOk P c) {K:St->Option β} (hs:Rel B w0 ρ s a w) (h:aP6 P c ops s K=some r) {id:Nat} {Q:Exit->Act->World->Prop}
  (hQ:∀ s' a' w' ρ',K s'=some r->Rel B w0 ρ' s' a' w'->Q .normal a' w'):(Code.region id ops true).wpIn (Fw ro) n P Q a w:=by
 obtain ⟨S,e0,hst,Fs,hl,hfs,hk⟩:=EP ops.toList [] (s.lift (yI ops.toList)) [] h;obtain ⟨hok,hk⟩:=aY hk;simp only [rI] at hok;have hrun:Run P c.quiet ops S Fs:=⟨rfl,by rw [e0],λ i o ho=>hst i o (by simpa using ho),λ i o ho=>hfs i o (by simpa using ho),Ok.of hok⟩;refine wpIn_region_any hm (aAP (B:=B) (w0:=w0) hΓ.quiet hrun (λ a' w' ρ' hr=>hQ _ a' w' ρ' hk (by simpa using hr)) ops.size _ (s.lift (yI ops.toList)) [] a _ ρ (by simp) (by simp [List.count_replicate]) ⟨λ i o _ hL=>?_⟩ ?_ ?_ ?_)
 ·simp [Ff,Array.getD] at hL
 ·have t0:=hrun.text 0 (pW _);rw [e0] at t0;refine t0.mono λ i hi=>⟨λ h=>by omega,λ h=>?_⟩;simp [Ff,Array.getD] at h
 ·exact (hs.lift _).drew
 ·intro d tg want p hp; simp at hp
end
end
noncomputable section
open Go Go.RowKit
set_option linter.all false
def Lu:List Nat->Nat->Nat->Nat
 | [],_,n=>n
 | x :: r,i,n=>cond (Nat.beq x i) n (Lu r i (n+1))
def SV.ren (os:List Nat):SV->SV
 | .ptr id o e=>.ptr (Lu os id 0) o e
 | .own id l e=>.own (Lu os id 0) l e
 | .sub id lo l e=>.sub (Lu os id 0) lo l e
 | .clop f cs=>.clop f (cs.map λ c=>(Lu os c.1 0,c.2))
 | x=>x
def CV.ren (os:List Nat):CV->CV
 | .s x=>.s (x.ren os)
 | .mix l=>.mix (l.map (SV.ren os))
 | .mdat l=>.mdat (l.map (SV.ren os))
 | .mptr l o=>.mptr (l.map (SV.ren os)) o
def AV.ren (os:List Nat):AV->AV
 | .c x=>.c (x.ren os)
 | .tup l=>.tup (l.map (CV.ren os))
def Row.ren (os:List Nat):Row->Row
 | .t r=>.t r
 | .mix l=>.mix (l.map (SV.ren os))
def SK (os:List Nat):List Nat->Bool
 | []=>true
 | x :: r=>cond (Bj x os) (SK os r) false
def O1:List Nat->List Nat->List Nat
 | os,[]=>os
 | os,x :: r=>cond (Bj x os) (O1 os r) (O1 (os++[x]) r)
def SL (s:St) (os:List Nat):List Nat->Option (List (Nat × AV))
 | []=>some []
 | t :: r=>match SK os (s.get t).refs,SL s os r with
  | true,some l=>some ((t,(s.get t).ren os) :: l)
  | _,_=>none
def SM (s:St) (os:List Nat):List Nat->Nat->Option (List (Nat × Blk))
 | [],_=>some []
 | i :: r,n=>match bU s.hp i with
  | some b=>match SK os b.row.refs,SM s os r (n+1) with
   | true,some l=>some ((n,{ b with row:=b.row.ren os }) :: l)
   | _,_=>none
  | none=>none
def aNo (s:St) (i:Nat):List Nat :=
 match bU s.hp i with
 | some b=>b.row.refs
 | none=>[]
def aWH (s:St) (keep:List Nat):List Nat :=
 let os:=O1 [] (keep.flatMap λ t=>(s.get t).refs)
 O1 os (os.flatMap (aNo s))
def ER:List Nat->Bool
 | []=>true
 | x :: r=>cond (Bj x r) false (ER r)
def VA (s:St) (keep os:List Nat):Option St :=
 match ER os,SL s os keep,SM s os os 0 with
 | true,some tm,some hp=>some { tm:=tm,hp:=hp,nx:=os.length,sz:=s.sz }
 | _,_,_=>none
def Hg (sz:Nat):List (Nat × AV)->List Nat->List Nat
 | [],acc=>acc
 | p :: r,acc=>cond (Nat.blt p.1 sz || Bj p.1 acc) (Hg sz r acc) (Hg sz r (p.1 :: acc))
def Jw (keep:List Nat) (s:St):Option St:=VA s (keep++Hg s.sz s.tm []) (aWH s (keep++Hg s.sz s.tm []))
section
variable {B:Bs} {w0 w:World} {ρ:Plc} {s s':St} {a:Act} {os:List Nat}
def ES (ρ:Plc) (os:List Nat):Plc:=⟨λ i=>(os[i]?).bind ρ.own,ρ.out⟩
theorem aNp {os:List Nat} {i:Nat} (h:i ∈ os):∀ n,∃ k,Lu os i n=n+k /\ os[k]?=some i:=by
 induction os with
 | nil=>simp at h
 | cons x r ih=>
  intro n;simp only [Lu];by_cases e:x=i
  ·subst e; exact ⟨0,by simp,rfl⟩
  ·have:Nat.beq x i=false:=iP e;rw [this];obtain ⟨k,h1,h2⟩:=ih (by simpa [fX e] using h) (n+1);exact ⟨k+1,by simp [h1]; omega,by simpa using h2⟩
theorem Jy {os:List Nat} {i:Nat} (h:i ∈ os):os[Lu os i 0]?=some i:=by
 obtain ⟨k,h1,h2⟩:=aNp h 0;rw [h1,bS]; exact h2
theorem ET {i:Nat} (h:i ∈ os):(ES ρ os).own (Lu os i 0)=ρ i:=by
 simp [ES,Jy h]
theorem nX {b:Nat} (h:Foreign ρ b):Foreign (ES ρ os) b:=by
 refine ⟨λ id x hx=>?_,h.2⟩;simp only [ES] at hx;obtain ⟨j,_,hj⟩:=eQ.1 hx;exact h.1 j x hj
theorem SN {l:List Nat} (h:SK os l=true):∀ i ∈ l,i ∈ os:=by
 induction l with
 | nil=>simp
 | cons x r ih=>
  simp only [SK] at h;cases hm:Bj x os
  ·rw [hm] at h; simp at h
  ·rw [hm] at h;intro i hi;rcases mR.1 hi with rfl | hi
   ·exact yJ.1 hm
   ·exact ih h i hi
theorem SVR.ren {x:SV} {v:Value} (h:SVR w ρ x v) (hr:∀ i ∈ x.refs,i ∈ os):SVR w (ES ρ os) (x.ren os) v:=by
 cases x with
 | junk=>trivial
 | pl p=>exact h
 | clo f a b=>exact h
 | clop f cs=>
  obtain ⟨vs,e,h⟩:=h;refine ⟨vs,e,?_⟩;clear e
  induction cs generalizing vs with
  | nil=>
   cases vs with
   | nil=>trivial
   | cons v vs=>exact h.elim
  | cons c cs ih=>
   match vs,h with
   | v :: vs,⟨h1,h2⟩=>
    refine ⟨?_,ih (λ i hi=>hr i (by simp [SV.refs] at hi ⊢; exact .inr hi)) vs h2⟩;rw [show (ES ρ os).own (Lu os c.1 0)=ρ c.1 from ET (hr c.1 (by simp [SV.refs]))];exact h1
 | clor f cs=>obtain ⟨vs,e,h⟩:=h; exact ⟨vs,e,h.map λ b o cs h1 h2 h3=>⟨nX h1,h2,h3⟩⟩
 | ptr id off ext=>simpa [SV.ren,SVR,ET (ρ:=ρ) (hr id (by simp [SV.refs]))] using h
 | own id len esz=>simpa [SV.ren,SVR,ET (ρ:=ρ) (hr id (by simp [SV.refs]))] using h
 | sub id lo len esz=>simpa [SV.ren,SVR,ET (ρ:=ρ) (hr id (by simp [SV.refs]))] using h
 | dat r len esz=>
  obtain ⟨h1,h2⟩:=h;refine ⟨h1,?_⟩;rcases h2 with h2 | ⟨b,off,cap,e,hc,hf,hra,hb⟩
  ·exact .inl h2
  ·exact .inr ⟨b,off,cap,e,hc,nX hf,hra,hb⟩
 | rptr r off ext=>
  obtain ⟨h1,b,o,e,hf,hra,hb⟩:=h;exact ⟨h1,b,o,e,nX hf,hra,hb⟩
theorem Gb {l:List SV} (hr:∀ i ∈ l.flatMap SV.refs,i ∈ os) {k:Nat} {x:SV} (hx:l[k]?=some x):∀ i ∈ x.refs,i ∈ os:=λ i hi=>hr i (fG.2 ⟨x,jI hx,hi⟩)
theorem SVRs.ren {l:List SV} {vs:List Value} (h:SVRs w ρ l vs) (hr:∀ i ∈ l.flatMap SV.refs,i ∈ os):SVRs w (ES ρ os) (l.map (SV.ren os)) vs:=by
 refine ⟨by simpa using h.1,λ i x v hx hv=>?_⟩;rw [kV] at hx;obtain ⟨y,hy,rfl⟩:=pX.1 hx;exact (h.2 i y v hy hv).ren (Gb hr hy)
theorem MRowAt.ren {b off:Nat} {l:List SV} (h:MRowAt w ρ b off l) (hr:∀ i ∈ l.flatMap SV.refs,i ∈ os):MRowAt w (ES ρ os) b off (l.map (SV.ren os)):=by
 intro i x hx;rw [kV] at hx;obtain ⟨y,hy,rfl⟩:=pX.1 hx;obtain ⟨v,h1,h2⟩:=h i y hy;exact ⟨v,h1,h2.ren (Gb hr hy)⟩
theorem CVR.ren {x:CV} {v:Value} (h:CVR w ρ x v) (hr:∀ i ∈ x.refs,i ∈ os):CVR w (ES ρ os) (x.ren os) v:=by
 cases x with
 | s x=>exact SVR.ren h hr
 | mix l=>obtain ⟨cs,e,h⟩:=h; exact ⟨cs,e,h.ren hr⟩
 | mdat l=>
  rcases h with ⟨h0,h⟩ | ⟨b,off,cap,e,hc,hf,hra,hb⟩
  ·exact .inl ⟨by simpa using h0,h⟩
  ·exact .inr ⟨b,off,cap,by simpa using e,by simpa using hc,nX hf,hra.ren hr,hb⟩
 | mptr l off=>
  obtain ⟨h1,b,o,e,hf,hra,hb⟩:=h;exact ⟨by simpa using h1,b,o,e,nX hf,hra.ren hr,hb⟩
theorem AVR.ren {x:AV} {v:Value} (h:AVR w ρ x v) (hr:∀ i ∈ x.refs,i ∈ os):AVR w (ES ρ os) (x.ren os) v:=by
 cases x with
 | c x=>exact CVR.ren h hr
 | tup l=>
  obtain ⟨vs,e,h1,h2⟩:=h;refine ⟨vs,e,by simpa using h1,λ i x v hx hv=>?_⟩;rw [kV] at hx;obtain ⟨y,hy,rfl⟩:=pX.1 hx;exact (h2 i y v hy hv).ren λ j hj=>hr j (fG.2 ⟨y,jI hy,hj⟩)
theorem SV.ren_refs (x:SV):(x.ren os).refs=x.refs.map λ i=>Lu os i 0:=by
 cases x <;> first | rfl | (simp [SV.ren,SV.refs,Function.comp_def])
theorem sE (l:List SV):(l.map (SV.ren os)).flatMap SV.refs=(l.flatMap SV.refs).map λ i=>Lu os i 0:=by
 induction l with
 | nil=>rfl
 | cons x r ih=>simp only [mQ,Ar,vG,SV.ren_refs,ih]
theorem CV.ren_refs (x:CV):(x.ren os).refs=x.refs.map λ i=>Lu os i 0:=by
 cases x with
 | s x=>exact x.ren_refs
 | mix l=>exact sE l
 | mdat l=>exact sE l
 | mptr l o=>exact sE l
theorem AV.ren_refs (x:AV):(x.ren os).refs=x.refs.map λ i=>Lu os i 0:=by
 cases x with
 | c x=>exact x.ren_refs
 | tup l=>
  show (l.map (CV.ren os)).flatMap CV.refs=(l.flatMap CV.refs).map λ i=>Lu os i 0
  induction l with
  | nil=>rfl
  | cons x r ih=>simp only [mQ,Ar,vG,CV.ren_refs,ih]
theorem Row.ren_refs (x:Row):(x.ren os).refs=x.refs.map λ i=>Lu os i 0:=by
 cases x with
 | t r=>rfl
 | mix l=>exact sE l
theorem aWI {i:Nat} (h:i ∈ os):Lu os i 0 < os.length:=(iT.1 (Jy h)).1
theorem Jz {keep:List Nat}:∀ {tm},SL s os keep=some tm->∀ t,(bU tm t=none /\ t ∉ keep) ∨ (bU tm t=some ((s.get t).ren os) /\ ∀ i ∈ (s.get t).refs,i ∈ os):=by
 induction keep with
 | nil=>intro tm h t; simp [SL] at h; subst h; exact .inl ⟨rfl,by simp⟩
 | cons k r ih=>
  intro tm h t;simp only [SL] at h;split at h
  ·rename_i l h1 h2;simp at h; subst h;simp only [bZ,bH];by_cases e:k=t
   ·subst e; exact .inr ⟨by simp,SN h1⟩
   ·have:Nat.beq k t=false:=iP e;rw [this];exact (ih h2 t).imp (λ h=>⟨h.1,by simp [h.2,fX e]⟩) id
  ·simp at h
theorem yK:∀ {l:List Nat} {n:Nat} {hp},SM s os l n=some hp->∀ j,(∀ k,j=n+k->l[k]?=none->bU hp j=none) /\ (j < n->bU hp j=none) /\ ∀ k i,j=n+k->l[k]?=some i->∃ b,bU s.hp i=some b /\ bU hp j=some { b with row:=b.row.ren os } /\ ∀ q ∈ b.row.refs,q ∈ os:=by
 intro l
 induction l with
 | nil=>intro n hp h j; simp [SM] at h; subst h; exact ⟨λ _ _ _=>rfl,λ _=>rfl,by simp⟩
 | cons i r ih=>
  intro n hp h j;simp only [SM] at h;split at h
  ·rename_i b hb;split at h
   ·rename_i l' h1 h2;simp at h; subst h;obtain ⟨g1,g2,g3⟩:=ih h2 j;refine ⟨λ k hk hn=>?_,λ hlt=>?_,λ k i' hk hi=>?_⟩
    ·cases k with
     | zero=>simp at hn
     | succ k=>
      have:Nat.beq n j=false:=iP (by omega);simp only [bZ,bH,this,aD];exact g1 k (by omega) (by simpa using hn)
    ·have:Nat.beq n j=false:=iP (by omega);simp only [bZ,bH,this,aD];exact g2 (by omega)
    ·cases k with
     | zero=>
      simp at hi; subst hi;have:Nat.beq n j=true:=by rw [hk]; simp
      simp only [bZ,bH,this,aB];exact ⟨b,hb,rfl,SN h1⟩
     | succ k=>
      have:Nat.beq n j=false:=iP (by omega);simp only [bZ,bH,this,aD];exact g3 k i' (by omega) (by simpa using hi)
   ·simp at h
  ·simp at h
theorem SO {os:List Nat} (h:ER os=true):∀ (i j k:Nat),os[i]?=some k->os[j]?=some k->i=j:=by
 induction os with
 | nil=>simp
 | cons x r ih=>
  simp only [ER] at h;cases hm:Bj x r
  ·rw [hm] at h;have hx:x ∉ r:=λ hx=>by rw [yJ.2 hx] at hm; cases hm
   intro i j k hi hj;cases i with
   | zero=>
    cases j with
    | zero=>rfl
    | succ j=>simp at hi hj; subst hi; exact absurd (jI hj) hx
   | succ i=>
    cases j with
    | zero=>simp at hi hj; subst hj; exact absurd (jI hi) hx
    | succ j=>simp at hi hj; rw [ih h i j k hi hj]
  ·rw [hm] at h; simp at h
theorem Row.ren_len (r:Row):(r.ren os).len=r.len:=by cases r <;> simp [Row.ren,Row.len]
theorem aAQ {keep:List Nat} (h:Rel B w0 ρ s a w) (hn:VA s keep os=some s'):Rel B w0 (ES ρ os) s' a w:=by
 unfold VA at hn;split at hn
 case h_2=>simp at hn
 rename_i tm hp hd htm hhp;simp at hn; subst hn;have hget:∀ t,({ tm:=tm,hp:=hp,nx:=os.length,sz:=s.sz }:St).get t=match bU tm t with | some v=>v | none=>.junk:=λ _=>rfl
 have hliv:∀ q,q ∈ os->Liv ({ tm:=tm,hp:=hp,nx:=os.length,sz:=s.sz }:St) (Lu os q 0):=by
  intro q hq;obtain ⟨b,_,g2,_⟩:=(yK hhp (Lu os q 0)).2.2 (Lu os q 0) q (by simp) (Jy hq);exact ⟨aWI hq,_,g2⟩
 have hown:∀ i x,(ES ρ os).own i=some x->∃ j,os[i]?=some j /\ ρ j=some x:=by
  intro i x hx;simp only [ES] at hx;exact eQ.1 hx
 refine ⟨λ t=>?_,λ id x hx=>?_,λ id x hx=>?_,λ i j x y hx hy e=>?_,λ id x hx=>?_,h.size,h.df,h.below,h.b0,λ t id hid=>?_,λ i b hb id hid=>?_,λ i b hb hr=>?_,h.ob,h.ox⟩
 ·rw [hget];rcases Jz htm t with ⟨h1,_⟩ | ⟨h1,h2⟩
  ·rw [h1]; exact trivial
  ·rw [h1]; exact (h.tm t).ren h2
 ·obtain ⟨j,h1,h2⟩:=hown id x hx;obtain ⟨b,g1,g2⟩:=h.blk j x h2;obtain ⟨b',g3,g4,g5⟩:=(yK hhp id).2.2 id j (by simp) h1;rw [g1] at g3; cases g3;obtain ⟨⟨cs,fz,q1,q2,q3,q4⟩,q5⟩:=g2;refine ⟨_,g4,⟨⟨cs,fz,q1,q2,q3,?_⟩,q5⟩⟩;cases hrow:b.row with
  | t r=>rw [hrow] at q4; simpa [Row.ren,RowR] using q4
  | mix l=>
   rw [hrow] at q4 g5;exact SVRs.ren q4 g5
 ·obtain ⟨j,h1,h2⟩:=hown id x hx;exact (iT.1 h1).1
 ·obtain ⟨i',h1,h2⟩:=hown i x hx;obtain ⟨j',h3,h4⟩:=hown j y hy;have:=h.inj i' j' x y h2 h4 e;subst this;exact SO hd i j i' h1 h3
 ·obtain ⟨j,h1,h2⟩:=hown id x hx;exact h.base j x h2
 ·rw [hget] at hid;rcases Jz htm t with ⟨h1,_⟩ | ⟨h1,h2⟩
  ·rw [h1] at hid; simp [AV.refs,CV.refs,SV.refs] at hid
  ·rw [h1] at hid;simp only [AV.ren_refs] at hid;obtain ⟨q,hq,rfl⟩:=jZ.1 hid;exact hliv q (h2 q hq)
 ·have hk:=yK hhp i;cases ho:os[i]? with
  | none=>have:=hk.1 i (by simp) ho; rw [show bU hp i=some b from hb] at this; cases this
  | some j=>
   obtain ⟨b',g3,g4,g5⟩:=hk.2.2 i j (by simp) ho;rw [show bU hp i=some b from hb] at g4; cases g4;simp only [Row.ren_refs] at hid;obtain ⟨q,hq,rfl⟩:=jZ.1 hid;exact hliv q (g5 q hq)
 ·have hk:=yK hhp i;cases ho:os[i]? with
  | none=>have:=hk.1 i (by simp) ho; rw [show bU hp i=some b from hb] at this; cases this
  | some j=>
   obtain ⟨b',g3,g4,g5⟩:=hk.2.2 i j (by simp) ho;rw [show bU hp i=some b from hb] at g4; cases g4;simp only [Row.ren_len];refine h.gh j b' g3 ?_;simpa [ES,ho] using hr
theorem EU {keep:List Nat} (h:Rel B w0 ρ s a w) (hn:Jw keep s=some s'):∃ ρ',Rel B w0 ρ' s' a w:=⟨_,aAQ h hn⟩
end
end
noncomputable section
open Go Go.RowKit
set_option linter.all false
section
variable {β:Type}
def oM (n:Nat) (k:Nat->β):β:=Nat.rec (motive:=λ _=>β) (k 0) (λ m _=>k (Nat.succ m)) n
theorem nY (n:Nat) (k:Nat->β):oM n k=k n:=by cases n <;> rfl
def aWJ (i:Int) (k:Int->β):β:=Int.rec (motive:=λ _=>β) (λ n=>oM n λ n=>k (Int.ofNat n)) (λ n=>oM n λ n=>k (Int.negSucc n)) i
theorem YS (i:Int) (k:Int->β):aWJ i k=k i:=by
 cases i with
 | ofNat n=>exact nY n λ n=>k (Int.ofNat n)
 | negSucc n=>exact nY n λ n=>k (Int.negSucc n)
def zD {α:Type} (f:α->(α->β)->β) (l:List α):(List α->β)->β:=List.rec (motive:=λ _=>(List α->β)->β) (λ k=>k []) (λ x _ ih k=>f x λ x=>ih λ r=>k (x :: r)) l
theorem kS {α:Type} {f:α->(α->β)->β} (hf:∀ x k,f x k=k x) (l:List α):∀ k,zD f l k=k l:=by
 induction l with
 | nil=>intro k; rfl
 | cons x r ih=>intro k; exact (hf x _).trans (ih _)
def fU8 (b:UInt8) (k:UInt8->β):β:=oM b.toNat λ n=>k (UInt8.ofNat n)
theorem aWK (b:UInt8) (k:UInt8->β):fU8 b k=k b:=by
 unfold fU8; rw [nY,UInt8.ofNat_toNat]
def Kj (s:Str) (k:Str->β):β:=zD fU8 s k
theorem sF (s:Str) (k:Str->β):Kj s k=k s:=kS aWK s k
def aHq (b:Bool) (k:Bool->β):β:=cond b (k true) (k false)
theorem SP (b:Bool) (k:Bool->β):aHq b k=k b:=by cases b <;> rfl
def aAR (r:TRow) (k:TRow->β):β:=match r with
 | .ints j xs=>zD aWJ xs λ xs=>k (.ints j xs)
 | .strs ss=>zD Kj ss λ ss=>k (.strs ss)
 | .bools bs=>zD aHq bs λ bs=>k (.bools bs)
theorem O2 (r:TRow) (k:TRow->β):aAR r k=k r:=by
 cases r <;> simp only [aAR,kS YS,kS sF,kS SP]
def fPl (p:Pl) (k:Pl->β):β:=match p with
 | .int j n=>aWJ n λ n=>k (.int j n)
 | .bool b=>aHq b λ b=>k (.bool b)
 | .str s=>Kj s λ s=>k (.str s)
 | .agg r n=>aAR r λ r=>oM n λ n=>k (.agg r n)
 | p=>k p
theorem aWL (p:Pl) (k:Pl->β):fPl p k=k p:=by
 cases p <;> simp only [fPl,YS,SP,sF,O2,nY]
def fSV (v:SV) (k:SV->β):β:=match v with
 | .pl p=>fPl p λ p=>k (.pl p)
 | .dat r n e=>aAR r λ r=>oM n λ n=>oM e λ e=>k (.dat r n e)
 | .rptr r n e=>aAR r λ r=>oM n λ n=>oM e λ e=>k (.rptr r n e)
 | .own i n e=>oM i λ i=>oM n λ n=>oM e λ e=>k (.own i n e)
 | v=>k v
theorem VB (v:SV) (k:SV->β):fSV v k=k v:=by
 cases v <;> simp only [fSV,aWL,O2,nY]
def fCV (v:CV) (k:CV->β):β:=match v with
 | .s v=>fSV v λ v=>k (.s v)
 | .mix l=>zD fSV l λ l=>k (.mix l)
 | v=>k v
theorem aHr (v:CV) (k:CV->β):fCV v k=k v:=by
 cases v <;> simp only [fCV,VB,kS VB]
def fAV (v:AV) (k:AV->β):β:=match v with
 | .c v=>fCV v λ v=>k (.c v)
 | .tup l=>zD fCV l λ l=>k (.tup l)
theorem O3 (v:AV) (k:AV->β):fAV v k=k v:=by
 cases v <;> simp only [fAV,aHr,kS aHr]
def aWM (b:Blk) (k:Blk->β):β:=match b with
 | ⟨ty,n,.t r⟩=>oM n λ n=>aAR r λ r=>k ⟨ty,n,.t r⟩
 | ⟨ty,n,.mix l⟩=>oM n λ n=>zD fSV l λ l=>k ⟨ty,n,.mix l⟩
theorem aNq (b:Blk) (k:Blk->β):aWM b k=k b:=by
 obtain ⟨ty,n,r⟩:=b;cases r <;> simp only [aWM,nY,O2,kS VB]
def aHs {α:Type} (f:α->(α->β)->β) (p:Nat × α) (k:Nat × α->β):β:=oM p.1 λ n=>f p.2 λ x=>k (n,x)
theorem SQ {α:Type} {f:α->(α->β)->β} (hf:∀ x k,f x k=k x) (p:Nat × α) (k:Nat × α->β):aHs f p k=k p:=(nY ..).trans (hf ..)
def fSt (s:St) (k:St->β):β:=zD (aHs fAV) s.tm λ tm=>zD (aHs aWM) s.hp λ hp=>oM s.nx λ nx=>oM s.sz λ sz=>k ⟨tm,hp,nx,sz⟩
theorem aWN (s:St) (k:St->β):fSt s k=k s:=by
 unfold fSt;rw [kS (SQ O3),kS (SQ aNq),nY,nY]
end
def frc {α:Type} (fl:Option α) (o:Option St):Option St:=match fl with
 | some _=>(match o with
  | some s=>fSt s some
  | none=>none)
 | none=>o
theorem aHt {α:Type} (fl:Option α) (o:Option St):frc fl o=o:=by
 cases fl with
 | none=>rfl
 | some _=>cases o with
  | none=>rfl
  | some s=>exact aWN s some
end
noncomputable section
open Go Go.RowKit
set_option linter.all false
inductive Ex where
 | normal
 | exit (id:Nat)
 | ret
def Ex.to:Ex->Exit
 | .normal=>.normal
 | .exit id=>.exit id
 | .ret=>.ret
def sG:Code->Nat
 | .region id _ _=>id+1
 | .seq a b=>match sG a with
  | 0=>sG b
  | n=>n
 | .cond _ a _=>sG a
 | .block _ b=>sG b
 | .loop b=>sG b
 | .scope b=>sG b
 | _=>0
structure Cg where
 c:Cf
 keep:List (Nat × List Nat × List Nat)
section
variable {β:Type}
def Ak (K:Ex->St->Option β) (e:Ex):Option St->Option β
 | some s=>K e s
 | none=>none
def EV (nm nmO:St->Option St) (body:St->(Ex->St->Option β)->Option β) (K:Ex->St->Option β):Nat->Option St->Option β
 | 0,_=>none
 | _+1,none=>none
 | n+1,some s=>body s λ e s'=>match e with
  | .normal=>EV nm nmO body K n (nm s')
  | e=>Ak K e (nmO s')
def aHu (s:St) (o:Operand) (X Y:St->Option β):Option β :=
 match o with
 | .tmp t=>cond (Nat.blt t s.sz) (match s.get t with
  | .c (.s (.pl (.bool b)))=>cond b (X (s.put t (.bool true))) (Y (s.put t (.bool false)))
  | _=>none) none
 | .const (.bool b)=>cond b (X s) (Y s)
 | _=>none
def J0 (g:Cg) (x:Code) (s:St):Option St :=
 match bU g.keep (sG x) with
 | some l=>frc (bU g.keep 2000000) (Jw l.1 s)
 | none=>none
def Gc (g:Cg) (x:Code) (s:St):Option St :=
 match bU g.keep (sG x) with
 | some l=>frc (bU g.keep 2000000) (Jw l.2 s)
 | none=>none
def aHv (g:Cg) (x:Code) (fu:Nat):Nat :=
 match bU g.keep (sG x+1000000) with
 | some (n :: _,_)=>n
 | _=>fu
def fJ (P:Program) (g:Cg) (fu:Nat):Code->St->(Ex->St->Option β)->Option β
 | .skip,s,K=>K .normal s
 | .region _ ops false,s,K=>Yr P g.c ops ops.toList [] s λ s'=>K .normal s'
 | .region _ ops true,s,K=>aP6 P g.c ops s λ s'=>K .normal s'
 | .seq x y,s,K=>fJ P g fu x s λ e s'=>match e with
  | .normal=>fJ P g fu y s' K
  | e=>K e s'
 | .cond o x y,s,K=>aHu s o (λ s'=>fJ P g fu x s' K) (λ s'=>fJ P g fu y s' K)
 | .block id x,s,K=>fJ P g fu x s λ e s'=>match e with
  | .exit id'=>cond (Nat.beq id' id) (K .normal s') (K (.exit id') s')
  | e=>K e s'
 | .loop x,s,K=>EV (J0 g x) (Gc g x) (λ s K=>fJ P g fu x s K) K (aHv g x fu) (J0 g x s)
 | .scope x,s,K=>fJ P g fu x s K
 | .exit id,s,K=>K (.exit id) s
 | .ret,s,K=>K .ret s
 | _,_,_=>none
end
section
variable {P:Program} {g:Cg} {β:Type} {r:β} {B:Bs} {w0 w:World} {ρ:Plc} {s:St} {a:Act} {fu:Nat}
theorem aHw {o:Operand} {X Y:St->Option β} (hs:Rel B w0 ρ s a w) (h:aHu s o X Y=some r):∃ b s',a.eval o=.bool b /\ Rel B w0 ρ s' a w /\ (if b then X s'=some r else Y s'=some r):=by
 unfold aHu at h;split at h
 ·rename_i t;obtain ⟨hsz,h⟩:=aY h;have hsz':t < s.sz:=cF hsz;split at h
  ·rename_i b hb;have hreal:a.tmps.getD t undef=.bool b:=by
    have:=hs.tmL hsz';rw [hb] at this; exact this.1
   have hlit:∀ q:Bool,b=q->Rel B w0 ρ (s.put t (.bool q)) a w:=λ q e=>hs.putSame (by rw [k7 (by rw [hs.size]; exact hsz'),hreal,e]; exact AVR.bool _) (by simp [AV.refs,CV.refs,SV.refs]);refine ⟨b,s.put t (.bool b),hreal,hlit b rfl,?_⟩;cases b <;> simpa using h
  ·simp at h
 ·rename_i b;refine ⟨b,s,rfl,hs,?_⟩;cases b <;> simpa using h
 ·simp at h
theorem k9 {b:Frame} {a:Act} {k:List Item} {cs:List Frame} {w:World} {c:Code}:step P (lone (b.atR a (.code (.scope c) :: k)) cs w)=.next (lone (b.atR a (.code c :: .inScope c :: k)) cs w) :=
 step_lone_go (by simp [stepG,stepG.exec,Frame.atR])
theorem J1 {b:Frame} {a:Act} {k:List Item} {cs:List Frame} {w:World} {c:Code}:step P (lone (b.atR a (.inScope c :: k)) cs w)=.next (lone (b.atR a k) cs w) :=
 step_lone_go (by simp [stepG,stepG.exec,Frame.atR])
theorem Bk {F:Fence} {n:Nat} {Q:Exit->Act->World->Prop} {a:Act} {w:World} {c:Code} (h:c.wpIn F n P (Exit.noGoto Q) a w):(Code.scope c).wpIn F n P Q a w:=by
 intro b k cs hro hb hr;have h0:(lone (b.atR a (.code (.scope c) :: k)) cs w).fenced P F:=fenced_calm hb hr rfl;obtain ⟨e,a₁,w₁,hq,harr⟩:=h b (.inScope c :: k) cs hro hb hr;cases e with
 | normal=>exact ⟨.normal,a₁,w₁,hq,.head h0 k9 (StepsIn.trans harr (.one (fenced_calm hb hr rfl) J1))⟩
 | exit id=>
  have hx:exitTo id (.inScope c :: k)=exitTo id k:=by simp [exitTo]
  exact ⟨.exit id,a₁,w₁,hq,λ k' hk=>.head h0 k9 (harr.1 k' (by rw [hx]; exact hk)),
   λ hr' hk=>let ⟨k₁,h1,h2⟩:=harr.2 hr' (by rw [hx]; exact hk); ⟨k₁,h1,.head h0 k9 h2⟩⟩
 | goto l=>exact hq.elim
 | ret=>exact ⟨_,a₁,w₁,hq,.of_steps (.one h0 k9) harr⟩
 | panic ch=>exact ⟨_,a₁,w₁,hq,.of_steps (.one h0 k9) harr⟩
 | outgrown=>exact ⟨_,a₁,w₁,hq,.of_steps (.one h0 k9) harr⟩
theorem CN {ro:Option Nat} {n:Nat} (hm:P.follows .mixedOrders=true) (hΓ:CfOk P g.c):∀ (x:Code) {s:St} {a:Act} {w:World} {ρ:Plc} {K:Ex->St->Option β} {Q:Exit->Act->World->Prop},
  Rel B w0 ρ s a w->fJ P g fu x s K=some r->(∀ e s' a' w' ρ',K e s'=some r->Rel B w0 ρ' s' a' w'->Q e.to a' w')->x.wpIn (Fw ro) n P Q a w:=by
 intro x
 induction x with
 | skip=>intro s a w ρ K Q hs h hK; exact wpIn_skip (hK .normal s a w ρ h hs)
 | region id ops draw=>
  intro s a w ρ K Q hs h hK;cases draw
  ·refine wpIn_region_list (Sv (K:=λ s'=>K .normal s') hΓ _ hs (λ _ _ _ _ hp=>by simp at hp) h λ s' a' w' ρ' h' hs'=>hK .normal s' a' w' ρ' h' hs')
  ·exact SJ hm hΓ hs h λ s' a' w' ρ' h' hs'=>hK .normal s' a' w' ρ' h' hs'
 | seq x y ihx ihy=>
  intro s a w ρ K Q hs h hK;refine wpIn_seq (ihx hs h λ e s' a' w' ρ' h' hs'=>?_);cases e with
  | normal=>exact ihy hs' h' hK
  | exit id=>exact hK (.exit id) s' a' w' ρ' h' hs'
  | ret=>exact hK .ret s' a' w' ρ' h' hs'
 | cond o x y ihx ihy=>
  intro s a w ρ K Q hs h hK;obtain ⟨b,s',h1,h2,h3⟩:=aHw hs h;refine wpIn_cond h1 ?_;cases b
  ·exact ihy h2 h3 hK
  ·exact ihx h2 h3 hK
 | block id x ih=>
  intro s a w ρ K Q hs h hK;refine wpIn_block (ih hs h λ e s' a' w' ρ' h' hs'=>?_);cases e with
  | normal=>exact hK .normal s' a' w' ρ' h' hs'
  | exit id'=>
   simp only [Ex.to,Exit.inBlock];by_cases e:id'=id
   ·subst e; simp at h'; rw [aT rfl]; exact hK .normal s' a' w' ρ' h' hs'
   ·have:Nat.beq id' id=false:=iP e;simp only [this,aD] at h';rw [aW e]; exact hK (.exit id') s' a' w' ρ' h' hs'
  | ret=>exact hK .ret s' a' w' ρ' h' hs'
 | loop x ih=>
  intro s a w ρ K Q hs h hK;simp only [fJ] at h;generalize aHv g x fu=fl at h;refine wpIn_loop_rounds fl ?_;have nmok:∀ {s s1:St} {a:Act} {w:World} {ρ:Plc},Rel B w0 ρ s a w->J0 g x s=some s1->∃ ρ1,Rel B w0 ρ1 s1 a w:=by
   intro s s1 a w ρ hs h;unfold J0 at h;simp only [aHt] at h;split at h
   ·exact EU hs h
   ·simp at h
  have nook:∀ {s:St} {a:Act} {w:World} {ρ:Plc} {e:Ex},Rel B w0 ρ s a w->Ak K e (Gc g x s)=some r->∃ s1 ρ1,K e s1=some r /\ Rel B w0 ρ1 s1 a w:=by
   intro s a w ρ e hs h;unfold Gc at h;simp only [aHt] at h;split at h
   ·rename_i l hl;cases hn:Jw l.2 s with
    | none=>rw [hn] at h; simp [Ak] at h
    | some s1=>
     rw [hn] at h;obtain ⟨ρ1,h1⟩:=EU hs hn;exact ⟨s1,ρ1,h,h1⟩
   ·simp [Ak] at h
  have key:∀ m {s:St} {a:Act} {w:World} {ρ:Plc},Rel B w0 ρ s a w->EV (J0 g x) (Gc g x) (λ s K=>fJ P g fu x s K) K m (some s)=some r->Code.roundsIn (Fw ro) n P x Q m a w:=by
   intro m
   induction m with
   | zero=>intro s a w ρ hs h; simp [EV] at h
   | succ m ihn=>
    intro s a w ρ hs h;simp only [EV] at h;rw [roundsIn_succ];refine ih hs h λ e s' a' w' ρ' h' hs'=>?_;cases e with
    | normal=>
     simp only [] at h';cases hn:J0 g x s' with
     | none=>rw [hn] at h'; cases m <;> simp [EV] at h'
     | some s1=>
      rw [hn] at h';obtain ⟨ρ1,h1⟩:=nmok hs' hn;exact ihn h1 h'
    | exit id=>
     obtain ⟨s1,ρ1,q1,q2⟩:=nook hs' h';exact hK (.exit id) s1 a' w' ρ1 q1 q2
    | ret=>
     obtain ⟨s1,ρ1,q1,q2⟩:=nook hs' h';exact hK .ret s1 a' w' ρ1 q1 q2
  cases hn:J0 g x s with
  | none=>
   rw [hn] at h;cases fl <;> simp [EV] at h
  | some s1=>
   rw [hn] at h;obtain ⟨ρ1,h1⟩:=nmok hs hn;exact key fl h1 h
 | scope x ih=>
  intro s a w ρ K Q hs h hK;refine Bk (ih hs h λ e s' a' w' ρ' h' hs'=>?_);cases e with
  | normal=>exact hK .normal s' a' w' ρ' h' hs'
  | exit id=>exact hK (.exit id) s' a' w' ρ' h' hs'
  | ret=>exact hK .ret s' a' w' ρ' h' hs'
 | exit id=>intro s a w ρ K Q hs h hK; exact wpIn_exit (hK (.exit id) s a w ρ h hs)
 | ret=>intro s a w ρ K Q hs h hK; exact wpIn_ret (hK .ret s a w ρ h hs)
 | rangeFunc f ps as b _ _=>intro s a w ρ K Q hs h hK; simp [fJ] at h
 | label l=>intro s a w ρ K Q hs h hK; simp [fJ] at h
 | goto l=>intro s a w ρ K Q hs h hK; simp [fJ] at h
 | refuse y=>intro s a w ρ K Q hs h hK; simp [fJ] at h
theorem mY (hm:P.follows .mixedOrders=true) (hΓ:CfOk P g.c) (x:Code) {s:St} {a:Act} {w:World} {ρ:Plc} {K:Ex->St->Option β} {Q:Exit->Act->World->Prop}
  (hs:Rel B w0 ρ s a w) (h:fJ P g fu x s K=some r) (hK:∀ e s' a' w' ρ',K e s'=some r->Rel B w0 ρ' s' a' w'->Q e.to a' w'):x.wp P Q a w :=
 wpIn_wide.1 (CN (ro:=none) (n:=0) hm hΓ x hs h hK)
end
end
noncomputable section
open Go Go.RowKit
set_option linter.all false
def EW (s:St):List (Nat × Nat × Nat)->Option (List (TRow × Nat × Nat))
 | []=>some []
 | c :: r=>match bU s.hp c.1,EW s r with
  | some b,some l=>match b.row with
   | .t t=>some ((t,c.2) :: l)
   | .mix _=>none
  | _,_=>none
def Cr (s:St):SV->Option SV
 | .own id len esz=>match bU s.hp id with
  | some b=>match b.row with
   | .t r=>some (.dat r len esz)
   | .mix _=>none
  | none=>none
 | .sub id lo len esz=>match bU s.hp id with
  | some b=>match b.row with
   | .t r=>some (.dat (r.sub (lo*esz) (len*esz)) len esz)
   | .mix _=>none
  | none=>none
 | .ptr id off ext=>match bU s.hp id with
  | some b=>match b.row with
   | .t r=>some (.rptr r off ext)
   | .mix _=>none
  | none=>none
 | .clop f cs=>match EW s cs with
  | some rs=>some (.clor f rs)
  | none=>none
 | x=>some x
def Gr (s:St):List SV->Option (List SV)
 | []=>some []
 | x :: r=>match Cr s x,Gr s r with
  | some y,some ys=>some (y :: ys)
  | _,_=>none
def aZw (s:St):SV->Option CV
 | .own id len esz=>match bU s.hp id with
  | some b=>match b.row with
   | .t r=>some (.s (.dat r len esz))
   | .mix l=>cond (Nat.beq esz 1 && Nat.beq l.length len) (match Gr s l with
    | some ys=>some (.mdat ys)
    | none=>none) none
  | none=>none
 | .ptr id off ext=>match bU s.hp id with
  | some b=>match b.row with
   | .t r=>some (.s (.rptr r off ext))
   | .mix l=>cond (Nat.blt off l.length) (match Gr s l with
    | some ys=>some (.mptr ys off)
    | none=>none) none
  | none=>none
 | x=>match Cr s x with
  | some y=>some (.s y)
  | none=>none
def aNr (s:St):CV->Option CV
 | .s x=>aZw s x
 | .mix l=>match Gr s l with
  | some ys=>some (.mix ys)
  | none=>none
 | .mdat l=>match Gr s l with
  | some ys=>some (.mdat ys)
  | none=>none
 | .mptr l o=>match Gr s l with
  | some ys=>some (.mptr ys o)
  | none=>none
def O4 (P:Program) (s:St):ResultVar->Option CV
 | .tmp t=>match s.ev (.tmp t) with
  | .c x=>aNr s x
  | .tup _=>none
 | .cell t T=>match nP P T s (s.ev (.tmp t)) some with
  | some (.c x)=>aNr s x
  | _=>none
def q8 (P:Program) (s:St):List ResultVar->Option (List CV)
 | []=>some []
 | x :: r=>match O4 P s x,q8 P s r with
  | some y,some ys=>some (y :: ys)
  | _,_=>none
def mZ:List CV->AV
 | [x]=>.c x
 | l=>.tup l
def Cs:List AV->Bool
 | []=>true
 | x :: r=>match x.refs with
  | []=>Cs r
  | _ :: _=>false
def wV:List AV->Nat->List (Nat × AV)
 | [],_=>[]
 | x :: r,n=>(n,x) :: wV r (n+1)
def bB (P:Program) (fn:Func) (g:Cg) (fu:Nat) (args:List AV):Option AV :=
 match fn.body with
 | some c=>cond (Cs args && Nat.ble args.length fn.ntmps)
   (fJ P g fu c { tm:=wV args 0,hp:=[],nx:=0,sz:=fn.ntmps } λ e s=>
    match e with
    | .exit _=>none
    | _=>match q8 P s fn.results.toList with
     | some l=>some (mZ l)
     | none=>none) none
 | none=>none
section
variable {P:Program} {B:Bs} {w0 w:World} {ρ ρ':Plc} {s:St} {a:Act}
structure Lend (ρ ρ':Plc):Prop where
 own:∀ id x,ρ id=some x->Foreign ρ' x.r
 fr:∀ b,Foreign ρ b->Foreign ρ' b
theorem VC (hs:Rel B w0 ρ s a w):∀ {cs:List (Nat × Nat × Nat)} {rs:List (TRow × Nat × Nat)} {vs:List Value},(∀ id ∈ cs.map Prod.fst,∀ q,ρ id=some q->Foreign ρ' q.r)->PtrRs ρ cs vs->EW s cs=some rs->RptrRs w ρ' rs vs:=by
 intro cs
 induction cs with
 | nil=>
  intro rs vs hown hp h;simp [EW] at h; subst h;cases vs with
  | nil=>trivial
  | cons v vs=>exact hp.elim
 | cons c cs ih=>
  intro rs vs hown hp h
  match vs,hp with
  | v :: vs,⟨⟨q,hq,ho,e⟩,h2⟩=>
   simp only [EW] at h;split at h
   ·rename_i b l hb hl;split at h
    ·rename_i tr htr;simp at h; subst h;obtain ⟨b',hb',hR⟩:=hs.blk c.1 q hq;rw [hb] at hb'; cases hb';obtain ⟨g1,g2⟩:=hR.cell htr;refine ⟨⟨by show c.2.1+c.2.2 <= tr.length; omega,q.r,0,by rw [bS]; exact e,hown c.1 (by simp) q hq,λ i v hv=>by rw [bS]; exact g2 i v hv,(hs.base c.1 q hq).2⟩,?_⟩;exact ih (λ id hid=>hown id (by simp at hid ⊢; exact .inr hid)) h2 hl
    ·simp at h
   ·simp at h
theorem SR {x y:SV} {v:Value} (hs:Rel B w0 ρ s a w) (hown:∀ id ∈ x.refs,∀ q,ρ id=some q->Foreign ρ' q.r) (hfr:∀ b,Foreign ρ b->Foreign ρ' b) (hx:SVR w ρ x v) (h:Cr s x=some y):SVR w ρ' y v /\ y.refs=[]:=by
 unfold Cr at h;split at h
 ·rename_i id len esz;split at h
  ·rename_i b hb;split at h
   ·rename_i tr htr;simp at h; subst h;refine ⟨?_,rfl⟩;rcases hx with ⟨q,hq,rfl,hn,hc,hcm,hcz⟩ | ⟨hnone,rfl,rfl⟩
    ·obtain ⟨b',hb',hR⟩:=hs.blk id q hq;rw [hb] at hb'; cases hb';obtain ⟨h1,h2⟩:=hR.cell htr;refine ⟨by omega,.inr ⟨q.r,0,q.cap,rfl,hc,hown _ (by simp [SV.refs]) _ hq,λ i v hv=>by rw [bS]; exact h2 i v hv,(hs.base id q hq).2⟩⟩
    ·have:=hs.gh id b hb hnone;rw [htr] at this;have this:tr.length=0:=this;exact ⟨by simpa using this,.inl ⟨rfl,rfl⟩⟩
   ·simp at h
  ·simp at h
 ·rename_i id lo len esz;split at h
  ·rename_i b hb;split at h
   ·rename_i tr htr;simp at h; subst h;refine ⟨?_,rfl⟩;rcases hx with ⟨q,hq,hn,o,c,rfl,ho,hlc⟩ | ⟨hnone,rfl,rfl⟩
    ·obtain ⟨b',hb',hR⟩:=hs.blk id q hq;rw [hb] at hb'; cases hb';obtain ⟨h1,h2⟩:=hR.cell htr;have hlen:(tr.sub (lo*esz) (len*esz)).length=len*esz:=by
      rw [<-TRow.length_cells,TRow.sub_cells,dV,kX,tr.length_cells];rw [gL] at hn; omega
     refine ⟨hlen,.inr ⟨q.r,o,c,rfl,hlc,hown _ (by simp [SV.refs]) _ hq,λ i v hv=>?_,(hs.base id q hq).2⟩⟩;have hi:=(iT.1 hv).1;rw [TRow.length_cells,hlen] at hi;have hlo:o=lo*esz:=by
      rcases ho with ho | ho
      ·rw [ho] at hi; omega
      ·exact ho
     rw [TRow.sub_cells,List.getElem?_take_of_lt hi,mO] at hv;rw [hlo]; exact h2 _ v hv
    ·refine ⟨?_,.inl ⟨rfl,rfl⟩⟩;rw [<-TRow.length_cells,TRow.sub_cells]; simp
   ·simp at h
  ·simp at h
 ·rename_i id off ext;split at h
  ·rename_i b hb;split at h
   ·rename_i tr htr;simp at h; subst h;refine ⟨?_,rfl⟩;obtain ⟨q,hq,ho,rfl⟩:=hx;obtain ⟨b',hb',hR⟩:=hs.blk id q hq;rw [hb] at hb'; cases hb';obtain ⟨h1,h2⟩:=hR.cell htr;exact ⟨by omega,q.r,0,by rw [bS],hown _ (by simp [SV.refs]) _ hq,λ i v hv=>by rw [bS]; exact h2 i v hv,(hs.base id q hq).2⟩
   ·simp at h
  ·simp at h
 ·rename_i f cs;split at h
  ·rename_i rs hrs;simp at h; subst h;obtain ⟨vs,e,hp⟩:=hx;exact ⟨⟨vs,e,VC hs (λ id hid=>hown id hid) hp hrs⟩,rfl⟩
  ·simp at h
 ·rename_i h1 h2 h3 h4;simp at h; subst h;have hr:x.refs=[]:=by
   cases x with
   | own id l e=>exact absurd rfl (h1 id l e)
   | sub id lo l e=>exact absurd rfl (h2 id lo l e)
   | ptr id o e=>exact absurd rfl (h3 id o e)
   | clop f cs=>exact absurd rfl (h4 f cs)
   | _=>rfl
  exact ⟨hx.chg hr hfr,hr⟩
theorem EX {x y:SV} {v:Value} (hs:Rel B w0 ρ s a w) (hL:Lend ρ ρ') (hx:SVR w ρ x v) (h:Cr s x=some y):SVR w ρ' y v /\ y.refs=[] :=
 SR hs (λ id _ q hq=>hL.own id q hq) hL.fr hx h
theorem tN:∀ {l ys:List SV},Gr s l=some ys->ys.length=l.length /\ ∀ (i:Nat) y,ys[i]?=some y->∃ x,l[i]?=some x /\ Cr s x=some y:=by
 intro l
 induction l with
 | nil=>intro ys h; simp [Gr] at h; subst h; simp
 | cons x r ih=>
  intro ys h;simp only [Gr] at h;split at h
  ·rename_i y ys' h1 h2;simp at h; subst h;obtain ⟨g1,g2⟩:=ih h2;refine ⟨by simp [g1],λ i y' hy=>?_⟩;cases i with
   | zero=>simp at hy; subst hy; exact ⟨x,rfl,h1⟩
   | succ i=>simp at hy; obtain ⟨x',q1,q2⟩:=g2 i y' hy; exact ⟨x',by simpa using q1,q2⟩
  ·simp at h
theorem aAS {l ys:List SV} (h:Gr s l=some ys) (hall:∀ (i:Nat) x y,l[i]?=some x->Cr s x=some y->y.refs=[]):ys.flatMap SV.refs=[]:=by
 rw [Fv];intro y hy;obtain ⟨i,hi⟩:=PN.1 hy;obtain ⟨x,h1,h2⟩:=(tN h).2 i y hi;exact hall i x y h1 h2
theorem aAT {x y:SV} (h:Cr s x=some y):y.refs=[]:=by
 unfold Cr at h;split at h
 ·split at h
  ·split at h
   ·simp at h; subst h; rfl
   ·simp at h
  ·simp at h
 ·split at h
  ·split at h
   ·simp at h; subst h; rfl
   ·simp at h
  ·simp at h
 ·split at h
  ·split at h
   ·simp at h; subst h; rfl
   ·simp at h
  ·simp at h
 ·split at h
  ·simp at h; subst h; rfl
  ·simp at h
 ·rename_i h1 h2 h3 h4;simp at h; subst h;cases x with
  | own id l e=>exact absurd rfl (h1 id l e)
  | sub id lo l e=>exact absurd rfl (h2 id lo l e)
  | ptr id o e=>exact absurd rfl (h3 id o e)
  | clop f cs=>exact absurd rfl (h4 f cs)
  | _=>rfl
theorem Al {l ys:List SV} (h:Gr s l=some ys):ys.flatMap SV.refs=[]:=aAS h λ _ _ _ _ h=>aAT h
theorem Hh {l ys:List SV} {b off:Nat} (hs:Rel B w0 ρ s a w) (hL:Lend ρ ρ') (hx:MRowAt w ρ b off l) (h:Gr s l=some ys):MRowAt w ρ' b off ys:=by
 intro i y hy;obtain ⟨x,h1,h2⟩:=(tN h).2 i y hy;obtain ⟨v,h3,h4⟩:=hx i x h1;exact ⟨v,h3,(EX hs hL h4 h2).1⟩
theorem YT {x y:CV} {v:Value} (hs:Rel B w0 ρ s a w) (hL:Lend ρ ρ') (hx:CVR w ρ x v) (h:aNr s x=some y):CVR w ρ' y v /\ y.refs=[]:=by
 unfold aNr at h;split at h
 ·rename_i x;unfold aZw at h;split at h
  ·rename_i id len esz;split at h
   ·rename_i b hb;split at h
    ·rename_i tr htr;simp at h; subst h;exact EX (x:=.own id len esz) (y:=.dat tr len esz) hs hL hx (by simp [Cr,hb,htr])
    ·rename_i l hl;obtain ⟨h1,h2⟩:=aY h;simp only [aX] at h1;have c2:esz=1:=aS h1.1;have c3:l.length=len:=aS h1.2;split at h2
     ·rename_i ys hys;simp at h2; subst h2;have hlen:=(tN hys).1;refine ⟨?_,Al hys⟩;rcases hx with ⟨q,hq,rfl,hn,hc,hcm,hcz⟩ | ⟨hnone,rfl,rfl⟩
      ·obtain ⟨b',hb',hR⟩:=hs.blk id q hq;rw [hb] at hb'; cases hb';obtain ⟨h1,h2⟩:=hR.mcell hl;refine .inr ⟨q.r,0,q.cap,by rw [hlen,c3],by omega,hL.own _ _ hq,?_,(hs.base id q hq).2⟩;refine Hh hs hL (λ i x hx=>?_) hys;obtain ⟨v,g1,g2⟩:=h2 i x hx;exact ⟨v,by rw [bS]; exact g1,g2⟩
      ·exact .inl ⟨by omega,rfl⟩
     ·simp at h2
   ·simp at h
  ·rename_i id off ext;split at h
   ·rename_i b hb;split at h
    ·rename_i tr htr;simp at h; subst h;exact EX (x:=.ptr id off ext) (y:=.rptr tr off ext) hs hL hx (by simp [Cr,hb,htr])
    ·rename_i l hl;obtain ⟨h1,h2⟩:=aY h;have h1:off < l.length:=cF h1;split at h2
     ·rename_i ys hys;simp at h2; subst h2;have hlen:=(tN hys).1;refine ⟨?_,Al hys⟩;obtain ⟨q,hq,ho,rfl⟩:=hx;obtain ⟨b',hb',hR⟩:=hs.blk id q hq;rw [hb] at hb'; cases hb';obtain ⟨g1,g2⟩:=hR.mcell hl;refine ⟨by omega,q.r,0,by rw [bS],hL.own _ _ hq,?_,(hs.base id q hq).2⟩;refine Hh hs hL (λ i x hx=>?_) hys;obtain ⟨v,g3,g4⟩:=g2 i x hx;exact ⟨v,by rw [bS]; exact g3,g4⟩
     ·simp at h2
   ·simp at h
  ·split at h
   ·rename_i y' hy;simp at h; subst h;exact EX hs hL hx hy
   ·simp at h
 ·rename_i l;split at h
  ·rename_i ys hys;simp at h; subst h;obtain ⟨cs,e,h1,h2⟩:=hx;obtain ⟨g1,g2⟩:=tN hys;refine ⟨⟨cs,e,by omega,λ i y v hy hv=>?_⟩,Al hys⟩;obtain ⟨x,q1,q2⟩:=g2 i y hy;exact (EX hs hL (h2 i x v q1 hv) q2).1
  ·simp at h
 ·rename_i l;split at h
  ·rename_i ys hys;simp at h; subst h;have hlen:=(tN hys).1;refine ⟨?_,Al hys⟩;rcases hx with ⟨h0,rfl⟩ | ⟨b,off,cap,e,hc,hf,hra,hb⟩
   ·exact .inl ⟨by omega,rfl⟩
   ·exact .inr ⟨b,off,cap,by rw [hlen]; exact e,by omega,hL.fr b hf,Hh hs hL hra hys,hb⟩
  ·simp at h
 ·rename_i l o;split at h
  ·rename_i ys hys;simp at h; subst h;have hlen:=(tN hys).1;refine ⟨?_,Al hys⟩;obtain ⟨h1,b,off,e,hf,hra,hb⟩:=hx;exact ⟨by omega,b,off,e,hL.fr b hf,Hh hs hL hra hys,hb⟩
  ·simp at h
def Am (tmps:Array Value):ResultVar->Sem Value
 | .tmp t=>pure (tmps.getD t undef)
 | .cell a t=>do loadVar t (<-asAddr (tmps.getD a undef))
theorem Ct {T:TypeId} {u z:Value} {w':World} (h:(Instr.loadAt T u).run P w=.ok z w'):(do loadVar T (<-asAddr u):Sem Value).run P w=.ok z w':=by
 unfold Instr.loadAt Instr.sureAddr at h;cases u with
 | pointer p=>
  cases p with
  | some q=>simpa [asAddr] using h
  | none=>simp at h
 | _=>simp at h
theorem aAU {x:ResultVar} {y:CV} (hs:Rel B w0 ρ s a w) (hL:Lend ρ ρ') (h:O4 P s x=some y):∃ v,(Am a.tmps x).run P w=.ok v w /\ CVR w ρ' y v /\ y.refs=[]:=by
 unfold O4 at h;split at h
 ·rename_i t;split at h
  ·rename_i x hx;have:=hs.ev (.tmp t);rw [hx] at this;obtain ⟨h1,h2⟩:=YT hs hL this h;exact ⟨_,rfl,h1,h2⟩
  ·simp at h
 ·rename_i t T;split at h
  ·rename_i x hx;obtain ⟨av,z,q1,q2,q3,q4⟩:=qD (P:=P) (K:=some) hs (hs.ev (.tmp t)) (hs.evr (.tmp t)) hx;cases q1;obtain ⟨h1,h2⟩:=YT hs hL q3 h;exact ⟨z,Ct q4,h1,h2⟩
  ·simp at h
theorem BO:∀ {l:List ResultVar} {ys:List CV},Rel B w0 ρ s a w->Lend ρ ρ'->q8 P s l=some ys->∃ vs,(l.mapM (Am a.tmps)).run P w=.ok vs w /\ aFB w ρ' ys vs /\ ys.flatMap CV.refs=[]:=by
 intro l
 induction l with
 | nil=>intro ys hs hL h; simp [q8] at h; subst h; exact ⟨[],rfl,⟨rfl,by simp⟩,rfl⟩
 | cons x r ih=>
  intro ys hs hL h;simp only [q8] at h;split at h
  ·rename_i y ys' h1 h2;simp at h; subst h;obtain ⟨v,q1,q2,q3⟩:=aAU hs hL h1;obtain ⟨vs,q4,q5,q6⟩:=ih hs hL h2;refine ⟨v :: vs,?_,⟨by simp [q5.1],λ i x v hx hv=>?_⟩,by simp [q3,q6]⟩
   ·rw [PL];simp only [Sem.run_bind,q1,Result.andThen_ok,q4,Sem.run_pure]
   ·cases i with
    | zero=>simp at hx hv; subst hx; subst hv; exact q2
    | succ i=>simp at hx hv; exact q5.2 i x v hx hv
  ·simp at h
theorem kT {fn:Func} {vs:List Value} (h:(fn.results.toList.mapM (Am a.tmps)).run P w=.ok vs w):(results fn a.tmps).run P w=.ok (if h:vs.length=1 then vs[0] else .tuple vs.toArray) w:=by
 have e:results fn a.tmps=(fn.results.mapM (Am a.tmps)) >>= λ vs=>pure (if h:vs.size=1 then vs[0] else .tuple vs):=by
  unfold results;refine dQ (λ (f:ResultVar->Sem Value)=>Array.mapM f fn.results >>= λ (vs:Array Value)=>(pure (if h:vs.size=1 then vs[0] else Value.tuple vs):Sem Value)) ?_;funext x; cases x <;> rfl
 rw [e,Array.mapM_eq_mapM_toList];simp only [Sem.run_bind,map_eq_pure_bind,h,Result.andThen_ok,Sem.run_pure];by_cases hl:vs.length=1
 ·simp [hl]
 ·simp [hl]
theorem wW {ys:List CV} {vs:List Value} (h:aFB w ρ' ys vs):AVR w ρ' (mZ ys) (if h:vs.length=1 then vs[0] else .tuple vs.toArray):=by
 obtain ⟨h1,h2⟩:=h
 match ys,vs with
 | [y],[v]=>exact h2 0 y v rfl rfl
 | [],[]=>exact ⟨#[],rfl,rfl,by simp⟩
 | y :: y' :: r,v :: v' :: r'=>
  have:¬ (v :: v' :: r').length=1:=by simp
  rw [dif_neg this];exact ⟨_,rfl,h1,h2⟩
 | [],v :: r=>simp at h1
 | [y],[]=>simp at h1
 | [y],v :: v' :: r=>simp at h1
 | y :: y' :: r,[]=>simp at h1
 | y :: y' :: r,[v]=>simp at h1
theorem yL {ys:List CV} (h:ys.flatMap CV.refs=[]):(mZ ys).refs=[]:=by
 match ys with
 | [y]=>simpa [mZ,AV.refs] using h
 | []=>rfl
 | y :: y' :: r=>exact h
theorem Fg:∀ (l:List AV) (n t:Nat),bU (wV l n) t=if n <= t then l[t - n]? else none:=by
 intro l
 induction l with
 | nil=>intro n t; simp [wV,bZ,bH]
 | cons x r ih=>
  intro n t;simp only [wV,bZ,bH];by_cases e:n=t
  ·subst e; simp
  ·have:Nat.beq n t=false:=iP e;rw [this,aD,ih];by_cases h:n+1 <= t
   ·rw [aT h,aT (by omega),show t - n=(t - (n+1))+1 by omega]; simp
   ·rw [aW h,aW (by omega)]
theorem Fh {l:List AV} (h:Cs l=true):∀ x ∈ l,x.refs=[]:=by
 induction l with
 | nil=>simp
 | cons x r ih=>
  simp only [Cs] at h;split at h
  ·rename_i hr;intro y hy;rcases mR.1 hy with rfl | hy
   ·exact hr
   ·exact ih h y hy
  ·simp at h
theorem AVRs.get:∀ {l:List AV} {vs:List Value},AVRs w ρ l vs->l.length=vs.length /\ ∀ (i:Nat) x v,l[i]?=some x->vs[i]?=some v->AVR w ρ x v:=by
 intro l
 induction l with
 | nil=>intro vs h; cases vs <;> simp_all [AVRs]
 | cons x r ih=>
  intro vs h
  match vs,h with
  | v :: vs,⟨h1,h2⟩=>
   obtain ⟨g1,g2⟩:=ih h2;refine ⟨by simp [g1],λ i x' v' hx hv=>?_⟩;cases i with
   | zero=>simp at hx hv; subst hx; subst hv; exact h1
   | succ i=>simp at hx hv; exact g2 i x' v' hx hv
theorem nA {f:FuncId} {fn:Func} {c:Code} (hf:P.funcs[f]?=some fn) (hname:(fn.name == "runtime.NumGoroutine")=false) (hb:fn.body=some c) (args:Array Value) (w:World) :
  (callFunc f args).run P w=.ok (.enter f args) w:=by
 have h1:fn.name ≠ "runtime.NumGoroutine" := by simpa using hname
 simp [callFunc,hf,h1,hb]
theorem Rel.start {fn:Func} {args:List AV} {vs:List Value} {X:Nat->Prop} (hX:∀ b,X b->b < w.heap.size) (h:AVRs w (P0 X) args vs) (hr:Cs args=true) (hl:args.length <= fn.ntmps) :
  Rel ⟨w.heap.size,X,[],λ _=>False,[]⟩ w (P0 X) { tm:=wV args 0,hp:=[],nx:=0,sz:=fn.ntmps } { tmps:=vs.toArray++Array.replicate (fn.ntmps - vs.toArray.size) undef,defers:=[] } w:=by
 obtain ⟨hlen,hg⟩:=AVRs.get h;have hget:∀ t,({ tm:=wV args 0,hp:=[],nx:=0,sz:=fn.ntmps }:St).get t=match args[t]? with | some v=>v | none=>.junk:=by
  intro t;simp only [St.get,Fg,pW,jM,Hr];cases args[t]? <;> rfl
 refine ⟨λ t=>?_,λ id x hx=>by simp [P0] at hx,λ id x hx=>by simp [P0] at hx,λ i j x y hx=>by simp [P0] at hx,λ id x hx=>by simp [P0] at hx,?_,rfl,BelowM.refl _ _,bV _,λ t id hid=>?_,λ i b hb=>by simp [bZ,bH] at hb,λ i b hb=>by simp [bZ,bH] at hb,λ b hb=>hX b hb,λ b hb=>hb⟩
 ·rw [hget];cases ht:args[t]? with
  | none=>exact trivial
  | some x=>
   have hlt:=(iT.1 ht).1;have hv:vs[t]?=some (vs[t]'(by omega)):=by simp
   have:=hg t x _ ht hv;have e:(vs.toArray++Array.replicate (fn.ntmps - vs.toArray.size) undef).getD t undef=vs[t]'(by omega):=by
    simp only [Array.getD];have hlt':t < vs.length:=by omega
    rw [dif_pos (by simp; omega)];simp [aHW,hlt']
   simp only [];rw [k7 (by show t < (vs.toArray++Array.replicate (fn.ntmps - vs.toArray.size) undef).size; simp; omega)];show AVR w (P0 X) x ((vs.toArray++Array.replicate (fn.ntmps - vs.toArray.size) undef).getD t undef);rw [e]; exact this
 ·simp; omega
 ·rw [hget] at hid;cases ht:args[t]? with
  | none=>rw [ht] at hid; simp [AV.refs,CV.refs,SV.refs] at hid
  | some x=>
   rw [ht] at hid;simp only [] at hid;rw [Fh hr x (jI ht)] at hid;simp at hid
theorem lA {f:FuncId} {fn:Func} {g:Cg} {fu:List AV->Nat} (hm:P.follows .mixedOrders=true) (hΓ:CfOk P g.c) (hf:P.funcs[f]?=some fn) (hname:(fn.name == "runtime.NumGoroutine")=false)
  {A:Summ} (hA:∀ args t,A.run args=some t->bB P fn g (fu args) args=some (A.enc t)):CallOk P f A:=by
 have key:∀ (args:List AV) (y:AV) (w:World) (X:Nat->Prop) (vs:List Value),bB P fn g (fu args) args=some y->(∀ b,X b->b < w.heap.size)->AVRs w (P0 X) args vs ->
   (∃ c,fn.body=some c) /\ Calls P f vs.toArray w λ e w'=>∃ v,e=.returned v /\ AVR w' (P0 X) y v /\ y.refs=[] /\ Below w.heap.size w w':=by
  intro args y w X vs h hX hargs;unfold bB at h;split at h
  case h_2=>simp at h
  rename_i c hc;refine ⟨⟨c,hc⟩,?_⟩;obtain ⟨h1,h2⟩:=aY h;simp only [aX] at h1;refine calls_of_wp hf hc ?_;refine mY (B:=⟨w.heap.size,X,[],λ _=>False,[]⟩) (w0:=w) hm hΓ c (Rel.start hX hargs h1.1 (by simpa using h1.2)) h2 λ e s a' w' ρ' h' hs=>?_;have hL:Lend ρ' (P0 X):=⟨λ id x hx=>⟨λ _ _ h=>by simp [P0] at h,λ hb=>by
    have h2:=hX _ hb;rcases (hs.base id x hx).1 with h1 | h1
    ·simp only [] at h1; omega
    ·exact h1⟩,λ b hb=>⟨λ _ _ h=>by simp [P0] at h,λ hx=>hb.2 (hs.ox b hx)⟩⟩
  have j8:∀ {l},q8 P s fn.results.toList=some l->mZ l=y->a'.defers=[] /\ ∃ v,(results fn a'.tmps).run P w'=.ok v w' /\ ∃ v',Ending.returned v=.returned v' /\ AVR w' (P0 X) y v' /\ y.refs=[] /\ Below w.heap.size w w':=by
   intro l hl e;obtain ⟨vs',q1,q2,q3⟩:=BO hs hL hl;exact ⟨hs.df,_,kT q1,_,rfl,by rw [<-e]; exact wW q2,by rw [<-e]; exact yL q3,hs.below.below λ _ h=>h⟩
  cases e with
  | normal=>
   simp only [] at h';split at h'
   ·rename_i l hl; simp at h'; exact j8 hl h'
   ·simp at h'
  | ret=>
   simp only [] at h';split at h'
   ·rename_i l hl; simp at h'; exact j8 hl h'
   ·simp at h'
  | exit id=>simp at h'
 intro args t ht;have h:=hA args t ht;intro w X vs hX hargs;obtain ⟨⟨c,hc⟩,hcalls⟩:=key args _ w X vs h hX hargs;exact .inr ⟨nA hf hname hc _ _,hcalls.mono λ e w' ⟨v,h1,h2,h3,h4⟩=>⟨v,h1,h2,h3,h4⟩⟩
theorem jR {f:FuncId} {fn:Func} {g:Cg} {fu:List AV->Nat} (hm:P.follows .mixedOrders=true) (hΓ:∀ f A,g.c.Γ f=some A->CallOk P f A) (hf:P.funcs[f]?=some fn) (hname:(fn.name == "runtime.NumGoroutine")=false)
  {A:Summ} (hA:∀ args t,A.run args=some t->bB P fn g (fu args) args=some (A.enc t)) (hE:g.c.E=dR:=by rfl):CallOk P f A :=
 lA (g:=g) (fu:=fu) hm ⟨hΓ,λ k F hF=>by rw [hE] at hF; cases hF⟩ hf hname hA
end
end
noncomputable section
open Go Go.RowKit
set_option linter.all false
def dE (l:List (Nat × Summ)) (f:FuncId):Option Summ :=
 List.rec (motive:=λ _=>Option Summ) none (λ p _ ih=>Bool.rec (motive:=λ _=>Option Summ) ih (some p.2) (Nat.beq p.1 f)) l
theorem aK {P:Program}:∀ f A,dE [] f=some A->CallOk P f A:=by
 intro f A h; cases h
theorem aA {P:Program} {n:Nat} {S:Summ} {l:List (Nat × Summ)} (h:CallOk P n S) (hl:∀ f A,dE l f=some A->CallOk P f A):∀ f A,dE ((n,S) :: l) f=some A->CallOk P f A:=by
 intro f A hA;have e:dE ((n,S) :: l) f=Bool.rec (motive:=λ _=>Option Summ) (dE l f) (some S) (Nat.beq n f):=rfl;rw [e] at hA;cases hb:Nat.beq n f
 ·rw [hb] at hA; exact hl f A hA
 ·rw [hb] at hA;have:n=f:=aS hb;subst this;cases hA; exact h
theorem CallOk.extern {P:Program} {f:FuncId} {fn:Func} {e:Array Value->Sem Value} (hf:P.funcs[f]?=some fn) (hname:(fn.name == "runtime.NumGoroutine")=false)
  (hb:fn.body.isNone=true) (hn:Extern.findNext fn=none) (he:Extern.find fn=some e) {A:Summ}
  (h:∀ args t,A.run args=some t->(A.enc t).refs=[] /\ ∀ w X vs,AVRs w (P0 X) args vs->∃ v,(e vs.toArray).run P w=.ok v w /\ AVR w (P0 X) (A.enc t) v):CallOk P f A:=by
 intro args t ht w X vs hX hargs;obtain ⟨h1,h2⟩:=h args t ht;obtain ⟨v,q1,q2⟩:=h2 w X vs hargs;refine .inl ⟨v,w,?_,q2,h1,Below.refl _ _⟩;rw [run_callFunc_extern hf hname hb hn he,q1];rfl
section
variable {β:Type}
def aZx (k:St->Option β) (K:Ex->St->Option β):Ex->St->Option β:=λ e s=>match e with
 | .normal=>k s
 | e=>K e s
def aZy (id:Nat) (K:Ex->St->Option β):Ex->St->Option β:=λ e s=>match e with
 | .exit id'=>cond (Nat.beq id' id) (K .normal s) (K (.exit id') s)
 | e=>K e s
def kLp (nm nmO:St->Option St) (G:Option St->Option β) (H:Ex->Option St->Option β):Ex->St->Option β:=λ e s=>match e with
 | .normal=>G (nm s)
 | e=>H e (nmO s)
def ctx (P:Program) (g:Cg) (fu:Nat):List Nat->Code->(Ex->St->Option β)->Code × (Ex->St->Option β)
 | 0 :: p,.seq x y,K=>ctx P g fu p x (aZx (λ s=>fJ P g fu y s K) K)
 | 1 :: p,.seq _ y,K=>ctx P g fu p y K
 | 2 :: p,.block id x,K=>ctx P g fu p x (aZy id K)
 | 3 :: p,.cond _ x _,K=>ctx P g fu p x K
 | 4 :: p,.cond _ _ y,K=>ctx P g fu p y K
 | _,c,K=>(c,K)
end
def fT (P:Program) (fn:Func):Ex->St->Option AV:=λ e s=>match e with
 | .exit _=>none
 | _=>match q8 P s fn.results.toList with
  | some l=>some (mZ l)
  | none=>none
def bD (fn:Func):Code:=match fn.body with
 | some c=>c
 | none=>.skip
def cM:Code->Code
 | .loop x=>x
 | c=>c
def Lv (P:Program) (g:Cg) (fu:Nat) (fn:Func) (p:List Nat):Code:=cM (ctx P g fu p (bD fn) (fT P fn)).1
def Gd (P:Program) (g:Cg) (fu:Nat) (fn:Func) (p:List Nat):Ex->St->Option AV:=(ctx P g fu p (bD fn) (fT P fn)).2
def EY {β:Type} (P:Program) (g:Cg) (fu:Nat) (fn:Func) (p:List Nat) (K:Ex->St->Option β) (n:Nat) (s:Option St):Option β :=
 EV (J0 g (Lv P g fu fn p)) (Gc g (Lv P g fu fn p)) (λ s K=>fJ P g fu (Lv P g fu fn p) s K) K n s
def YU {β:Type} (P:Program) (g:Cg) (fu:Nat) (fn:Func) (p:List Nat) (G:Option St->Option β) (H:Ex->Option St->Option β) (s:St):Option β :=
 fJ P g fu (Lv P g fu fn p) s (kLp (J0 g (Lv P g fu fn p)) (Gc g (Lv P g fu fn p)) G H)
theorem mN {β:Type} (P:Program) (g:Cg) (fu:Nat) (fn:Func) (p:List Nat) (K:Ex->St->Option β) (n:Nat) (s:St) :
  EY P g fu fn p K (n+1) (some s)=YU P g fu fn p (EY P g fu fn p K n) (Ak K) s:=rfl
end
noncomputable section
open Go Go.RowKit
set_option linter.all false
def Gs (s:St) (i:Nat):SV->Option SV
 | .own j len esz=>cond (Nat.beq j i) (some (.own 0 len esz)) (Cr s (.own j len esz))
 | .sub j lo len esz=>cond (Nat.beq j i) (some (.sub 0 lo len esz)) (Cr s (.sub j lo len esz))
 | .ptr j o e=>cond (Nat.beq j i) (some (.ptr 0 o e)) (Cr s (.ptr j o e))
 | .clop _ _=>none
 | x=>some x
def J2 (s:St) (i:Nat):CV->Option CV
 | .s x=>match Gs s i x with
  | some y=>some (.s y)
  | none=>none
 | c=>match c.refs with
  | []=>some c
  | _ :: _=>none
def O5 (P:Program) (s:St) (i:Nat):ResultVar->Option CV
 | .tmp t=>match s.ev (.tmp t) with
  | .c x=>J2 s i x
  | .tup _=>none
 | .cell t T=>match nP P T s (s.ev (.tmp t)) some with
  | some (.c x)=>J2 s i x
  | _=>none
def yM (P:Program) (s:St) (i:Nat):List ResultVar->Option (List CV)
 | []=>some []
 | x :: r=>match O5 P s i x,yM P s i r with
  | some y,some ys=>some (y :: ys)
  | _,_=>none
def SV.at (id:Nat):SV->SV
 | .own _ l e=>.own id l e
 | .sub _ lo l e=>.sub id lo l e
 | .ptr _ o e=>.ptr id o e
 | x=>x
def CV.at (id:Nat):CV->CV
 | .s x=>.s (x.at id)
 | c=>c
def AV.at (id:Nat):AV->AV
 | .c x=>.c (x.at id)
 | .tup l=>.tup (l.map (CV.at id))
def O6 (P:Program) (fn:Func) (len esz:Nat):Ex->St->Option (AV × TRow):=λ e s=>match e with
 | .exit _=>none
 | _=>match s.get s.sz with
  | .c (.s (.own i len' esz'))=>match bU s.hp i,yM P s i fn.results.toList with
   | some b,some l=>match b.row with
    | .t r=>cond (Nat.beq len' len && Nat.beq esz' esz) (some (mZ l,r)) none
    | .mix _=>none
   | _,_=>none
  | _=>none
def Lw (fn:Func) (ty:TypeId) (r:TRow) (len esz:Nat) (rest:List AV):St :=
 {tm:=(fn.ntmps,.s (.own 0 len esz)) :: wV (.s (.own 0 len esz) :: rest) 0,hp:=[(0,⟨ty,len*esz,.t r⟩)],nx:=1,sz:=fn.ntmps }
def aNs (P:Program) (fn:Func) (g:Cg) (fu:Nat) (ty:TypeId) (r:TRow) (len esz:Nat) (rest:List AV):Option (AV × TRow) :=
 match fn.body with
 | some c=>cond (Cs rest && Nat.ble (rest.length+1) fn.ntmps) (fJ P g fu c (Lw fn ty r len esz rest) (O6 P fn len esz)) none
 | none=>none
def J3 (P:Program) (g:Cg) (fu:Nat) (fn:Func) (p:List Nat) (len esz:Nat):Ex->St->Option (AV × TRow):=(ctx P g fu p (bD fn) (O6 P fn len esz)).2
def EZ (E:TRow->Nat->Nat->List AV->Option (Bool × AV × TRow)):KI:=λ args s=>
 match args with
 | .c (.s (.own id len esz)) :: rest=>match bU s.hp id with
  | some b=>match b.row with
   | .t r=>match Cs rest,E r len esz rest with
    | true,some (c,av,r')=>some (c,av.at id,s.setBlk id b (.t r'))
    | _,_=>none
   | .mix _=>none
  | none=>none
 | _=>none
section
variable {P:Program} {B:Bs} {w0 w w':World} {ρ ρ':Plc} {s:St} {a:Act}
theorem aNt {Bc:Bs} {wc:World} {sc:St} {ac:Act} {i id:Nat} {x y:SV} {v:Value} (hs:Rel Bc wc ρ' sc ac w) (hi:ρ' i=ρ id) (hown:∀ j,j ≠ i->∀ q,ρ' j=some q->Foreign ρ q.r) (hfr:∀ b,Foreign ρ' b->Foreign ρ b)
  (hx:SVR w ρ' x v) (h:Gs sc i x=some y):SVR w ρ (y.at id) v /\ ∀ j ∈ (y.at id).refs,j=id:=by
 have plain:∀ z,Cr sc x=some z->(∀ j ∈ x.refs,j ≠ i)->SVR w ρ (z.at id) v /\ ∀ j ∈ (z.at id).refs,j=id:=by
  intro z hz hne;obtain ⟨h1,h2⟩:=SR hs (λ j hj q hq=>hown j (hne j hj) q hq) hfr hx hz;have e:z.at id=z:=by cases z <;> first | rfl | simp [SV.refs] at h2
  rw [e];exact ⟨h1,λ j hj=>by rw [h2] at hj; simp at hj⟩
 cases x with
 | own j len esz=>
  simp only [Gs] at h;cases hb:Nat.beq j i
  ·rw [hb] at h;exact plain y h (λ k hk=>by simp [SV.refs] at hk; subst hk; intro e; subst e; simp at hb)
  ·rw [hb] at h;have:j=i:=aS hb;subst this;simp at h; subst h;refine ⟨?_,λ k hk=>by simpa [SV.at,SV.refs] using hk⟩;show SVR w ρ (.own id len esz) v;simpa [SVR,hi] using hx
 | sub j lo len esz=>
  simp only [Gs] at h;cases hb:Nat.beq j i
  ·rw [hb] at h;exact plain y h (λ k hk=>by simp [SV.refs] at hk; subst hk; intro e; subst e; simp at hb)
  ·rw [hb] at h;have:j=i:=aS hb;subst this;simp at h; subst h;refine ⟨?_,λ k hk=>by simpa [SV.at,SV.refs] using hk⟩;show SVR w ρ (.sub id lo len esz) v;simpa [SVR,hi] using hx
 | ptr j o e=>
  simp only [Gs] at h;cases hb:Nat.beq j i
  ·rw [hb] at h;exact plain y h (λ k hk=>by simp [SV.refs] at hk; subst hk; intro e; subst e; simp at hb)
  ·rw [hb] at h;have:j=i:=aS hb;subst this;simp at h; subst h;refine ⟨?_,λ k hk=>by simpa [SV.at,SV.refs] using hk⟩;show SVR w ρ (.ptr id o e) v;simpa [SVR,hi] using hx
 | junk=>simp [Gs] at h; subst h; exact ⟨trivial,by simp [SV.at,SV.refs]⟩
 | pl p=>simp [Gs] at h; subst h; exact ⟨hx,by simp [SV.at,SV.refs]⟩
 | clo f g c=>simp [Gs] at h; subst h; exact ⟨hx,by simp [SV.at,SV.refs]⟩
 | clop f c=>simp [Gs] at h
 | clor f c=>simp [Gs] at h; subst h; exact ⟨hx.chg rfl hfr,by simp [SV.at,SV.refs]⟩
 | dat r len esz=>simp [Gs] at h; subst h; exact ⟨hx.chg rfl hfr,by simp [SV.at,SV.refs]⟩
 | rptr r o e=>simp [Gs] at h; subst h; exact ⟨hx.chg rfl hfr,by simp [SV.at,SV.refs]⟩
theorem SS {Bc:Bs} {wc:World} {sc:St} {ac:Act} {i id:Nat} {x y:CV} {v:Value} (hs:Rel Bc wc ρ' sc ac w) (hi:ρ' i=ρ id) (hown:∀ j,j ≠ i->∀ q,ρ' j=some q->Foreign ρ q.r) (hfr:∀ b,Foreign ρ' b->Foreign ρ b)
  (hx:CVR w ρ' x v) (h:J2 sc i x=some y):CVR w ρ (y.at id) v /\ ∀ j ∈ (y.at id).refs,j=id:=by
 have rest:∀ c:CV,c.refs=[]->(∀ z,c ≠ .s z)->CVR w ρ' c v->CVR w ρ (c.at id) v /\ ∀ j ∈ (c.at id).refs,j=id:=by
  intro c hr hn hc;have e:c.at id=c:=by cases c <;> first | rfl | exact absurd rfl (hn _)
  rw [e];exact ⟨hc.chg hr hfr,λ j hj=>by rw [hr] at hj; simp at hj⟩
 cases x with
 | s x=>
  simp only [J2] at h;split at h
  ·rename_i y' hy;simp at h; subst h;exact aNt hs hi hown hfr hx hy
  ·simp at h
 | mix l=>
  simp only [J2] at h;split at h
  ·rename_i hr; simp at h; subst h; exact rest _ hr (λ z e=>by cases e) hx
  ·simp at h
 | mdat l=>
  simp only [J2] at h;split at h
  ·rename_i hr; simp at h; subst h; exact rest _ hr (λ z e=>by cases e) hx
  ·simp at h
 | mptr l o=>
  simp only [J2] at h;split at h
  ·rename_i hr; simp at h; subst h; exact rest _ hr (λ z e=>by cases e) hx
  ·simp at h
theorem VD {Bc:Bs} {wc:World} {sc:St} {ac:Act} {i id:Nat} {x:ResultVar} {y:CV} (hs:Rel Bc wc ρ' sc ac w) (hi:ρ' i=ρ id) (hown:∀ j,j ≠ i->∀ q,ρ' j=some q->Foreign ρ q.r) (hfr:∀ b,Foreign ρ' b->Foreign ρ b)
  (h:O5 P sc i x=some y):∃ v,(Am ac.tmps x).run P w=.ok v w /\ CVR w ρ (y.at id) v /\ ∀ j ∈ (y.at id).refs,j=id:=by
 unfold O5 at h;split at h
 ·rename_i t;split at h
  ·rename_i x hx;have:=hs.ev (.tmp t);rw [hx] at this;obtain ⟨h1,h2⟩:=SS hs hi hown hfr this h;exact ⟨_,rfl,h1,h2⟩
  ·simp at h
 ·rename_i t T;split at h
  ·rename_i x hx;obtain ⟨av,z,q1,q2,q3,q4⟩:=qD (P:=P) (K:=some) hs (hs.ev (.tmp t)) (hs.evr (.tmp t)) hx;cases q1;obtain ⟨h1,h2⟩:=SS hs hi hown hfr q3 h;exact ⟨z,Ct q4,h1,h2⟩
  ·simp at h
theorem VE {Bc:Bs} {wc:World} {sc:St} {ac:Act} {i id:Nat}:∀ {l:List ResultVar} {ys:List CV},Rel Bc wc ρ' sc ac w->ρ' i=ρ id->(∀ j,j ≠ i->∀ q,ρ' j=some q->Foreign ρ q.r)->(∀ b,Foreign ρ' b->Foreign ρ b)->yM P sc i l=some ys ->
  ∃ vs,(l.mapM (Am ac.tmps)).run P w=.ok vs w /\ aFB w ρ (ys.map (CV.at id)) vs /\ ∀ j ∈ (ys.map (CV.at id)).flatMap CV.refs,j=id:=by
 intro l
 induction l with
 | nil=>intro ys hs _ _ _ h; simp [yM] at h; subst h; exact ⟨[],rfl,⟨rfl,by simp⟩,by simp⟩
 | cons x r ih=>
  intro ys hs hi hown hfr h;simp only [yM] at h;split at h
  ·rename_i y ys' h1 h2;simp at h; subst h;obtain ⟨v,q1,q2,q3⟩:=VD hs hi hown hfr h1;obtain ⟨vs,q4,q5,q6⟩:=ih hs hi hown hfr h2;refine ⟨v :: vs,?_,⟨by have:=q5.1; simp at this ⊢; exact this,λ i x v hx hv=>?_⟩,λ j hj=>?_⟩
   ·rw [PL];simp only [Sem.run_bind,q1,Result.andThen_ok,q4,Sem.run_pure]
   ·cases i with
    | zero=>simp at hx hv; subst hx; subst hv; exact q2
    | succ i=>
     simp only [mQ,List.getElem?_cons_succ] at hx hv;exact q5.2 i x v hx hv
   ·simp only [mQ,Ar,tO] at hj;rcases hj with hj | hj
    ·exact q3 j hj
    ·exact q6 j hj
  ·simp at h
theorem ST (id:Nat) (l:List CV):(mZ l).at id=mZ (l.map (CV.at id)):=by
 match l with
 | []=>rfl
 | [x]=>rfl
 | x :: y :: r=>rfl
theorem O7 {l:List CV} {id:Nat} (h:∀ j ∈ l.flatMap CV.refs,j=id):∀ j ∈ (mZ l).refs,j=id:=by
 match l with
 | []=>exact λ j hj=>by simp [mZ,AV.refs] at hj
 | [x]=>simpa [mZ,AV.refs] using h
 | x :: y :: r=>exact h
theorem Rel.lent (hs:Rel B w0 ρ s a w) {id len esz:Nat} {b:Blk} {r r':TRow} {v:Value} (hv:AVR w ρ (.s (.own id len esz)) v) (hid:id < s.nx) (hb:bU s.hp id=some b) (hr:b.row=.t r)
  (hw:w.heap.size <= w'.heap.size) (hother:∀ k,k < w.heap.size->(∀ x,ρ id=some x->k ≠ x.r)->w'.heap[k]?=w.heap[k]?) (hos:w'.os=w.os) (htp:w'.tape=w.tape) (hou:w'.output=w.output)
  (hlive:∀ x,ρ id=some x->∃ cs fz,w'.heap[x.r]?=some (.cells cs b.ty fz) /\ (x.n <= cs.size /\ cs.size=x.sz) /\ (∀ i,i < cs.size->¬ (fz.1 <= i /\ i < fz.2)) /\ cs.toList.take x.n=r'.cells)
  (hsh:∀ x,ρ id=some x->Shape w.heap[x.r]? w'.heap[x.r]?)
  (hdead:ρ id=none->r'.length=0) :
  Rel B w0 ρ { s with hp:=upd id { b with row:=.t r' } s.hp } a w':=by
 cases hx:ρ id with
 | some x=>
  obtain ⟨cs,fz,h1,h2,h3,h4⟩:=hlive x hx;obtain ⟨b2,hb2,hR⟩:=hs.blk id x hx;rw [hb] at hb2; cases hb2;have hbase:=(hs.base id x hx).1;have hne:∀ k,k < w.heap.size->k ≠ x.r->w'.heap[k]?=w.heap[k]?:=λ k hk hkx=>hother k hk λ y hy=>by rw [hx] at hy; cases hy; exact hkx
  refine hs.modifyG hx hw hne ⟨hos.trans hs.below.os,htp.trans hs.below.tape,hou.trans hs.below.output,cK hs.below.size hw,λ k hk hm=>?_,λ k hk hm=>?_⟩ ⟨⟨cs,fz,h1,h2,h3,h4⟩,hR.n⟩ (by simp [Row.refs])
  ·rw [hne k (cU hk hs.B_le) (λ e=>by
    subst e;rcases hbase with h | h
    ·omega
    ·exact hm h)]
   exact hs.below.block k hk hm
  ·by_cases e:k=x.r
   ·subst e; exact (hs.below.shape _ hk hm).trans (hsh x hx)
   ·rw [hne k (cU hk hs.B_le) e]; exact hs.below.shape k hk hm
 | none=>
  have hk:∀ k,k < w.heap.size->w'.heap[k]?=w.heap[k]?:=λ k hk=>hother k hk λ y hy=>by rw [hx] at hy; cases hy
  have hbl:BelowM B w0 w':=hs.below.trans ⟨hos,htp,hou,hw,λ k hk'=>hk k (cU hk' hs.B_le)⟩;have h2:=hs.ext hw hk hbl;refine ⟨h2.tm,λ j y hy=>?_,h2.lt,h2.inj,h2.base,h2.size,h2.df,h2.below,h2.b0,λ t j hj=>(h2.rt t j hj).upd _ _,λ j c hc=>?_,λ j c hc hn=>?_,h2.ob,h2.ox⟩
  ·obtain ⟨c,hc,hR⟩:=h2.blk j y hy;have:j ≠ id:=λ e=>by subst e; rw [hx] at hy; cases hy
   exact ⟨c,by simp [cS,this,hc],hR⟩
  ·by_cases e:j=id
   ·subst e; simp [cS] at hc; subst hc; simp [Row.refs]
   ·simp [cS,e] at hc; exact λ q hq=>(h2.rb j c hc q hq).upd _ _
  ·by_cases e:j=id
   ·subst e; simp [cS] at hc; subst hc; exact hdead hx
   ·simp [cS,e] at hc; exact h2.gh j c hc hn
theorem aNu {b:Blk} {r:TRow} {id len esz:Nat} {v:Value} (hs:Rel B w0 ρ s a w) (hv:AVR w ρ (.s (.own id len esz)) v) (hb:bU s.hp id=some b) (hr:b.row=.t r):r.length=len*esz /\ (∀ x,ρ id=some x->b.n=len*esz):=by
 rcases hv with ⟨x,hx,rfl,hn,hc,hcm,hcz⟩ | ⟨hnone,rfl,rfl⟩
 ·obtain ⟨b2,hb2,hR⟩:=hs.blk id x hx;rw [hb] at hb2; cases hb2;obtain ⟨cs,fz,h1,h2,h3,h4⟩:=hR.ex;rw [hr] at h4;have h4:cs.toList.take x.n=r.cells:=h4;have:=dQ List.length h4;rw [TRow.length_cells,dV] at this;simp at this;refine ⟨by omega,λ y hy=>?_⟩;rw [hx] at hy; cases hy;rw [hR.n,hn]
 ·have:=hs.gh id b hb hnone;rw [hr] at this;have this:r.length=0:=this;exact ⟨by simpa using this,λ y hy=>by rw [hnone] at hy; cases hy⟩
theorem aHx {f:FuncId} {fn:Func} {g:Cg} {fu:TRow->Nat->Nat} (hm:P.follows .mixedOrders=true) (hΓ:CfOk P g.c) (hf:P.funcs[f]?=some fn) (hname:(fn.name == "runtime.NumGoroutine")=false)
  {E:TRow->Nat->Nat->List AV->Option (Bool × AV × TRow)} (hE:∀ ty r len esz rest av r',r.length=len*esz->E r len esz rest=some (true,av,r')->aNs P fn g (fu r len) ty r len esz rest=some (av,r')):yX P f (EZ E):=by
 intro B w0 w ρ s a args vs av s' hs hargs hrefs hF;unfold EZ at hF;simp only [St.setBlk_eq] at hF;split at hF
 case h_2=>simp at hF
 rename_i id len esz rest;split at hF
 case h_2=>simp at hF
 rename_i b hb;split at hF
 case h_2=>simp at hF
 rename_i r hr;split at hF
 case h_2=>simp at hF
 rename_i cc av2 r2 hno hEE;simp only [lF,uX] at hF;obtain ⟨rfl,rfl,rfl⟩:=hF
 match vs,hargs with
 | v :: vs,⟨hv,hvs⟩=>
 have hidlv:Liv s id:=hrefs _ (PM ..) id (by simp [AV.refs,CV.refs,SV.refs]);have hidlt:id < s.nx:=hidlv.1;obtain ⟨hrl,hbn⟩:=aNu hs hv hb hr;have hev:=hE b.ty r len esz rest av2 r2 hrl hEE;unfold aNs at hev;split at hev
 case h_2=>simp at hev
 rename_i c hc;obtain ⟨h1,h2⟩:=aY hev;simp only [aX] at h1;have hnt:rest.length+1 <= fn.ntmps:=cF h1.2
 -- the callee's own view
 have hlent:∀ x,ρ id=some x->x.r < w.heap.size:=λ x hx=>(hs.base id x hx).2;have hlent2:∀ j x,ρ j=some x->x.r < w.heap.size:=λ j x hx=>(hs.base j x hx).2;let X:Nat->Prop:=λ k=>ρ.out k ∨ ∃ j x,j ≠ id /\ ρ j=some x /\ x.r=k;let ρc:Plc:=⟨λ j=>if j=0 then ρ id else none,X⟩;let Bc:Bs:=⟨w.heap.size,X,[v],λ k=>∃ x,ρ id=some x /\ x.r=k,[]⟩;have hfor:∀ k,Foreign ρ k->Foreign ρc k:=by
  intro k hk;refine ⟨λ j x hx e=>?_,λ ho=>?_⟩;rotate_left
  ·rcases ho with ho | ⟨j,x,_,hx,e⟩
   ·exact hk.2 ho
   ·exact hk.1 j x hx e
  simp only [ρc] at hx;split at hx
  ·exact hk.1 id x hx e
  ·cases hx
 have hrest:AVRs w ρc rest vs:=AVRs.chg hvs (Fh hno) hfor;have hown:∀ {q:Nat},SVR w ρ (.own id len esz) v->SVR w ρc (.own 0 len esz) v:=λ {q} h=>by
  rcases h with ⟨x,hx,h⟩ | ⟨hx,h⟩
  ·exact .inl ⟨x,by simp [ρc,hx],h⟩
  ·exact .inr ⟨by simp [ρc,hx],h⟩
 have hv0:AVR w ρc (.s (.own 0 len esz)) v:=hown (q:=0) hv;have hall:AVRs w ρc (.s (.own 0 len esz) :: rest) (v :: vs):=⟨hv0,hrest⟩;obtain ⟨hlen,hg⟩:=AVRs.get hall;have hlen':rest.length=vs.length:=by simpa using hlen
 have hget:∀ t,(Lw fn b.ty r len esz rest).get t=if t=fn.ntmps then .s (.own 0 len esz) else match (AV.s (.own 0 len esz) :: rest)[t]? with | some v=>v | none=>.junk:=by
  intro t;show (match bU ((fn.ntmps,AV.s (.own 0 len esz)) :: wV (AV.s (.own 0 len esz) :: rest) 0) t with | some v=>v | none=>.junk)=_;rw [iD];by_cases e:t=fn.ntmps
  ·rw [aT e,aT e]
  ·rw [aW e,aW e,Fg];simp only [pW,jM,Hr]
 have hsz:((v :: vs).toArray++Array.replicate (fn.ntmps - (v :: vs).toArray.size) undef).size=fn.ntmps:=by
  simp; omega
 have hrel:Rel Bc w ρc (Lw fn b.ty r len esz rest) { tmps:=(v :: vs).toArray++Array.replicate (fn.ntmps - (v :: vs).toArray.size) undef,defers:=[] } w:=by
  refine ⟨λ t=>?_,λ j x hx=>?_,λ j x hx=>?_,λ i j x y hx hy e=>?_,λ j x hx=>?_,hsz,rfl,BelowM.refl _ _,bV _,λ t i hi=>?_,λ i q hq j hj=>?_,λ i q hq hn=>?_,λ k hk=>?_,λ k hk=>hk⟩
  ·rw [hget];by_cases e:t=fn.ntmps
   ·rw [aT e];subst e;unfold AM;simp only [hsz,Nat.lt_irrefl,mB,i0];exact hv0
   ·rw [aW e];cases ht:(AV.s (.own 0 len esz) :: rest)[t]? with
    | none=>exact trivial
    | some x=>
     have hlt:=(iT.1 ht).1;have hlt':t < (v :: vs).length:=by omega
     have hvt:(v :: vs)[t]?=some ((v :: vs)[t]'hlt'):=by simp
     have hR:=hg t x _ ht hvt;have hlt2:t < fn.ntmps:=by simp at hlt; omega
     rw [k7 (by rw [hsz]; exact hlt2)];have e2:((v :: vs).toArray++Array.replicate (fn.ntmps - (v :: vs).toArray.size) undef).getD t undef=(v :: vs)[t]'hlt':=by
      simp only [Array.getD];rw [dif_pos (by rw [hsz]; exact hlt2)];have hlt3:t < vs.length+1:=by simpa using hlt'
      simp [aHW,hlt3]
     show AVR w ρc x (((v :: vs).toArray++Array.replicate (fn.ntmps - (v :: vs).toArray.size) undef).getD t undef);rw [e2]; exact hR
  ·simp only [ρc] at hx;split at hx
   ·rename_i e;subst e;obtain ⟨b2,hb2,hR⟩:=hs.blk id x hx;rw [hb] at hb2; cases hb2;refine ⟨⟨b.ty,len*esz,.t r⟩,by simp [Lw,bH],?_⟩;obtain ⟨cs,fz,q1,q2,q3,q4⟩:=hR.ex;rw [hr] at q4;exact ⟨⟨cs,fz,q1,q2,q3,q4⟩,by rw [<-hR.n,hbn x hx]⟩
   ·cases hx
  ·simp only [ρc] at hx;split at hx
   ·rename_i e; subst e; show 0 < 1; omega
   ·cases hx
  ·simp only [ρc] at hx hy;split at hx
   ·split at hy
    ·omega
    ·cases hy
   ·cases hx
  ·simp only [ρc] at hx;split at hx
   ·exact ⟨.inr ⟨x,hx,rfl⟩,hlent x hx⟩
   ·cases hx
  ·rw [hget] at hi;suffices hi1:i < 1 by
    have:i=0:=by omega
    subst this;exact ⟨Nat.one_pos,_,rfl⟩
   by_cases e:t=fn.ntmps
   ·rw [aT e] at hi; simp [AV.refs,CV.refs,SV.refs] at hi; omega
   ·rw [aW e] at hi;cases ht:(AV.s (.own 0 len esz) :: rest)[t]? with
    | none=>rw [ht] at hi; simp [AV.refs,CV.refs,SV.refs] at hi
    | some x=>
     rw [ht] at hi;simp only [] at hi;cases t with
     | zero=>simp at ht; subst ht; simp [AV.refs,CV.refs,SV.refs] at hi; omega
     | succ t=>
      simp at ht;rw [Fh hno x (jI ht)] at hi;simp at hi
  ·simp only [Lw,bH,bZ] at hq;cases hbq:Nat.beq 0 i <;> rw [hbq] at hq <;> simp at hq;subst hq; simp [Row.refs] at hj
  ·simp only [Lw,bH,bZ] at hq;cases hbq:Nat.beq 0 i <;> rw [hbq] at hq <;> simp at hq;subst hq;have:0=i:=aS hbq;subst this;simp only [ρc,jM] at hn;show r.length=0;have:=hs.gh id b hb hn;rw [hr] at this; exact this
  ·rcases hk with hk | ⟨j,x,_,hx,e⟩
   ·exact hs.ob k hk
   ·rw [<-e]; exact (hs.base j x hx).2
 refine .inr ⟨nA hf hname hc _ _,calls_of_wp hf hc ?_⟩;refine mY (B:=Bc) (w0:=w) hm hΓ c hrel h2 λ e sc a' w' ρ' h' hs'=>?_;have j8:∀ {l i len' esz'} {bq:Blk} {rq:TRow},yM P sc i fn.results.toList=some l->sc.get sc.sz=.c (.s (.own i len' esz'))->bU sc.hp i=some bq->bq.row=.t rq ->
   cond (Nat.beq len' len && Nat.beq esz' esz) (some (mZ l,rq)) none=some (av2,r2) ->
   a'.defers=[] /\ ∃ v,(results fn a'.tmps).run P w'=.ok v w' /\ ∃ v',Ending.returned v=.returned v' /\ ∃ ρ2,AVR w' ρ2 (av2.at id) v' /\ (∀ j ∈ (av2.at id).refs,Liv { s with hp:=upd id { b with row:=.t r2 } s.hp } j) /\ Rel B w0 ρ2 { s with hp:=upd id { b with row:=.t r2 } s.hp } a w':=by
  intro l i len' esz' bq rq hl hgt hbq hrq hcnd;obtain ⟨c1,c2⟩:=aY hcnd;simp only [aX] at c1;obtain ⟨c3,c4⟩:=c1;have c3:len'=len:=aS c3;have c4:esz'=esz:=aS c4;subst c3; subst c4;simp only [lF,uX] at c2;obtain ⟨rfl,rfl⟩:=c2;have hslot:AVR w' ρ' (.c (.s (.own i len' esz'))) v:=by
   have:=hs'.tm sc.sz;rw [hgt] at this;unfold AM at this;rw [hs'.size] at this;simpa [Bc] using this
  have hbel:=hs'.below
  -- the lent block stands where it stood
  have hsame:ρ' i=ρ id:=by
   rcases hv with ⟨x,hx,rfl,hn,hcc,hcm,hcz⟩ | ⟨hnone,rfl,rfl⟩
   ·rcases hslot with ⟨y,hy,ev,hyn,hyc,hycm,hycz⟩ | ⟨_,_,ev⟩
    case inr=>cases ev
    simp only [Value.slice.injEq,lF,Addr.mk.injEq] at ev;obtain ⟨⟨er,_,_⟩,_,ecap⟩:=ev;obtain ⟨bq2,hbq2,hR2⟩:=hs'.blk i y hy;obtain ⟨cs,fz,k1,k2,k3,k4⟩:=hR2.ex;obtain ⟨b2,hb2,hR⟩:=hs.blk id x hx;obtain ⟨cs0,fz0,g1,g2,g3,g4⟩:=hR.ex;obtain ⟨cs1,m1,m2⟩:=hbel.shape x.r (hlent x hx) ⟨x,hx,rfl⟩ cs0 b2.ty fz0 g1;rw [er] at m1;rw [m1] at k1;simp only [lF,Obj.cells.injEq] at k1;obtain ⟨rfl,ety,rfl⟩:=k1;have e1:y.sz=x.sz:=by rw [<-k2.2,m2,g2.2]
    have e2:y.n=x.n:=by rw [hyn,hn]
    rw [hy,hx];cases x; cases y;simp only at er ecap e1 e2;subst er; subst ecap; subst e1; subst e2; rfl
   ·rcases hslot with ⟨y,hy,ev,_⟩ | ⟨hn2,_,_⟩
    ·cases ev
    ·rw [hn2,hnone]
  have hown:∀ j,j ≠ i->∀ q,ρ' j=some q->Foreign ρ q.r:=by
   intro j hj q hq;have hge:w.heap.size <= q.r:=by
    rcases (hs'.base j q hq).1 with h | ⟨x,hx,e⟩
    ·exact h
    ·exact absurd (hs'.inj j i q x hq (by rw [hsame]; exact hx) e.symm) hj
   exact ⟨λ k y hy e=>by have:=hlent2 k y hy; omega,λ ho=>by have:=hs.ob _ ho; omega⟩
  have hfr:∀ k,Foreign ρ' k->Foreign ρ k:=by
   intro k hk;have hx:¬ X k:=λ hx=>hk.2 (hs'.ox k hx);refine ⟨λ j y hy e=>?_,λ ho=>hx (.inl ho)⟩;by_cases hj:j=id
   ·subst hj; exact hk.1 i y (by rw [hsame]; exact hy) e
   ·exact hx (.inr ⟨j,y,hj,hy,e⟩)
  obtain ⟨vs',q1,q2,q3⟩:=VE (id:=id) hs' hsame hown hfr hl;refine ⟨hs'.df,_,kT q1,_,rfl,ρ,by rw [ST]; exact wW q2,?_,?_⟩
  ·intro j hj;rw [ST] at hj;rw [O7 q3 j hj]; exact hidlv.upd _ _
  ·refine hs.lent hv hidlt hb hr hbel.size (λ k hk hkx=>hbel.block k hk λ ⟨x,hx,e⟩=>hkx x hx e.symm) hbel.os hbel.tape hbel.output (λ x hx=>?_) (λ x hx=>hbel.shape x.r (hlent x hx) ⟨x,hx,rfl⟩) λ hnone=>?_
   ·obtain ⟨bq2,hbq2,hR2⟩:=hs'.blk i x (by rw [hsame]; exact hx);rw [hbq] at hbq2; cases hbq2;obtain ⟨cs,fz,k1,k2,k3,k4⟩:=hR2.ex;obtain ⟨b2,hb2,hR⟩:=hs.blk id x hx;rw [hb] at hb2; cases hb2;obtain ⟨cs0,fz0,g1,g2,g3,g4⟩:=hR.ex;obtain ⟨cs1,m1,m2⟩:=hbel.shape x.r (hlent x hx) ⟨x,hx,rfl⟩ cs0 b.ty fz0 g1;rw [m1] at k1;simp only [lF,Obj.cells.injEq] at k1;obtain ⟨rfl,ety,rfl⟩:=k1;rw [hrq] at k4;exact ⟨cs1,fz0,m1,k2,k3,k4⟩
   ·have:=hs'.gh i bq hbq (by rw [hsame]; exact hnone);rw [hrq] at this; exact this
 unfold O6 at h';have bodyP:∀ {e:Ex},(∀ id,e ≠ .exit id)->(match sc.get sc.sz with
   | .c (.s (.own i len' esz'))=>match bU sc.hp i,yM P sc i fn.results.toList with
    | some b,some l=>match b.row with
     | .t r=>cond (Nat.beq len' len && Nat.beq esz' esz) (some (mZ l,r)) none
     | .mix _=>none
    | _,_=>none
   | _=>none)=some (av2,r2)->a'.defers=[] /\ ∃ v,(results fn a'.tmps).run P w'=.ok v w' /\ ∃ v',Ending.returned v=.returned v' /\ ∃ ρ2,AVR w' ρ2 (av2.at id) v' /\ (∀ j ∈ (av2.at id).refs,Liv { s with hp:=upd id { b with row:=.t r2 } s.hp } j) /\ Rel B w0 ρ2 { s with hp:=upd id { b with row:=.t r2 } s.hp } a w':=by
  intro e _ h;split at h
  ·rename_i i len' esz' hgt;split at h
   ·rename_i bq l hbq hl;split at h
    ·rename_i rq hrq;exact j8 hl hgt hbq hrq h
    ·simp at h
   ·simp at h
  ·simp at h
 cases e with
 | normal=>exact bodyP (e:=.normal) (by intro id h; cases h) h'
 | ret=>exact bodyP (e:=.ret) (by intro id h; cases h) h'
 | exit id=>simp at h'
end
def efs (l:List (Nat × KI)):Efs:=λ f=>
 List.rec (motive:=λ _=>Option KI) none (λ p _ ih=>Bool.rec (motive:=λ _=>Option KI) ih (some p.2) (Nat.beq p.1 f)) l
theorem BP {P:Program}:∀ f F,efs [] f=some F->yX P f F:=by
 intro f F h; cases h
theorem wX {P:Program} {n:Nat} {S:KI} {l:List (Nat × KI)} (h:yX P n S) (hl:∀ f F,efs l f=some F->yX P f F):∀ f F,efs ((n,S) :: l) f=some F->yX P f F:=by
 intro f F hF;have e:efs ((n,S) :: l) f=Bool.rec (motive:=λ _=>Option KI) (efs l f) (some S) (Nat.beq n f):=rfl;rw [e] at hF;cases hb:Nat.beq n f
 ·rw [hb] at hF; exact hl f F hF
 ·rw [hb] at hF;have:n=f:=aS hb;subst this;cases hF; exact h
end
noncomputable section
open Go Go.RowKit
set_option linter.all false
def bN:List Nat->Code->Code
 | 0 :: p,.seq x _=>bN p x
 | 1 :: p,.seq _ y=>bN p y
 | 2 :: p,.block _ x=>bN p x
 | 3 :: p,.cond _ x _=>bN p x
 | 4 :: p,.cond _ _ y=>bN p y
 | 5 :: p,.scope x=>bN p x
 | 6 :: p,.loop x=>bN p x
 | _,c=>c
def lP {β:Type} (P:Program) (g:Cg) (fu:Nat):List Nat->Code->(Ex->St->Option β)->(Ex->St->Option β)
 | 0 :: p,.seq x y,K=>lP P g fu p x (aZx (λ s=>fJ P g fu y s K) K)
 | 1 :: p,.seq _ y,K=>lP P g fu p y K
 | 2 :: p,.block id x,K=>lP P g fu p x (aZy id K)
 | 3 :: p,.cond _ x _,K=>lP P g fu p x K
 | 4 :: p,.cond _ _ y,K=>lP P g fu p y K
 | 5 :: p,.scope x,K=>lP P g fu p x K
 | _,_,K=>K
def vE {β:Type} (g:Cg) (b:Code) (G:Option St->Option β) (H:Ex->Option St->Option β):Ex->St->Option β:=kLp (J0 g b) (Gc g b) G H
def eS {β:Type} (P:Program) (g:Cg) (fu:Nat) (b:Code) (K:Ex->St->Option β) (n:Nat) (s:Option St):Option β :=
 EV (J0 g b) (Gc g b) (λ s K=>fJ P g fu b s K) K n s
def fI {β:Type} (P:Program) (g:Cg) (fu:Nat) (b:Code) (G:Option St->Option β) (H:Ex->Option St->Option β) (s:St):Option β :=
 fJ P g fu b s (vE g b G H)
theorem aF {β:Type} (P:Program) (g:Cg) (fu:Nat) (b:Code) (K:Ex->St->Option β) (n:Nat) (s:St) :
  eS P g fu b K (n+1) (some s)=fI P g fu b (eS P g fu b K n) (Ak K) s:=rfl
theorem aR {β:Type} (K:Ex->St->Option β) (e:Ex) (s:St):Ak K e (some s)=K e s:=rfl
end
noncomputable section
open Go Go.RowKit Go.ChangeShapes Go.WideShapes Go.ChangeAt
set_option linter.all false
section
variable {H:Type} {enc:TypeId × Value->H} {P:Program} {W:World} {base:Nat} {sp:Nat->Bool} {hd:Bool} {b0:Nat} {r:Reach} {v:Value} {d:DataW H} {p:List MemPlace} {t e:TypeId} {n:Nat} {k:IntKind}
theorem O8 (ht:P.underlying t=some (.array n e)) (h:Value.okWide P W r b0 t v):∃ cs,v=.agg cs /\ cs.size=P.cellsOf t:=by
 simp only [Value.okWide,ht] at h;obtain ⟨cs,h1,h2,_⟩:=h;exact ⟨cs,h1,h2⟩
theorem Gt (ht:P.underlying t=some (.array n e)) (he:P.underlying e=some (.int k)) (hce:P.cellsOf e=1) (hct:P.cellsOf t=n)
  (hv:Value.okWide P W r b0 t v) (h:DataW.Trod enc P W base sp hd t v d p) :
  ∃ a:List Int,v=.agg (a.map (Value.int k)).toArray /\ a.length=n /\ (∀ x ∈ a,(Lit.int k x).wf=true) /\ p=[]:=by
 obtain ⟨cs,rfl,hsz⟩:=O8 ht hv;obtain ⟨fuel,hf⟩:=h;obtain ⟨ys,m,_,hx,hlen,hl,hel⟩:=DataW.trod_array ht hf;rw [hct] at hsz;have cell:∀ i,i < n->∃ z:Int,cs.toList[i]?=some (.int k z) /\ ys[i]?=some (.lit (.int k z),[]) /\ (Lit.int k z).wf=true:=by
  intro i hi;have h1:=hel i hi;rw [hce,iY] at h1;have hy:ys[i]?=some (ys[i]'(by omega)):=by simp
  rw [hy] at h1;obtain ⟨z,e1,e2,e3⟩:=DataW.trod_int he h1;refine ⟨z,?_,by rw [hy,e2],e3⟩;have hc:cs.toList[i]?=some (cs.toList[i]'(by simp; omega)):=by simp
  have:(cs.toList.drop i).take 1=[cs.toList[i]'(by simp; omega)]:=by
   rw [Cx (by simp; omega)]; rfl
  simp only [Value.cells] at e1;rw [this] at e1;rw [hc];simpa using e1
 have key:∀ (l:List Value),(∀ i,i < l.length->∃ z:Int,l[i]?=some (.int k z) /\ (Lit.int k z).wf=true)->∃ a:List Int,l=a.map (Value.int k) /\ ∀ x ∈ a,(Lit.int k x).wf=true:=by
  intro l
  induction l with
  | nil=>intro _; exact ⟨[],rfl,by simp⟩
  | cons u l ih=>
   intro hc;obtain ⟨z,h1,h2⟩:=hc 0 (by simp);obtain ⟨a,h3,h4⟩:=ih λ i hi=>by
    obtain ⟨z,g1,g2⟩:=hc (i+1) (by simp; omega);exact ⟨z,by simpa using g1,g2⟩
   simp at h1; subst h1;exact ⟨z :: a,by rw [h3]; rfl,λ x hx=>by
    rcases mR.1 hx with rfl | hx
    ·exact h2
    ·exact h4 x hx⟩
 obtain ⟨a,h1,h2⟩:=key cs.toList λ i hi=>by
  obtain ⟨z,g1,_,g3⟩:=cell i (by simp at hi; omega);exact ⟨z,g1,g3⟩
 refine ⟨a,?_,?_,h2,?_⟩
 ·rw [<-h1]
 ·have:=dQ List.length h1;simp at this; omega
 ·simp only [uX] at hx;rw [hx.2,Fv];intro y hy;obtain ⟨i,hi⟩:=PN.1 hy;have hlt:i < n:=by
   have:=(iT.1 hi).1;omega
  obtain ⟨z,_,g2,_⟩:=cell i hlt;rw [hi] at g2; cases g2; rfl
end
theorem aAV {P:Program} {f:FuncId} {A:Summ} (hA:CallOk P f A) {args:List AV} {t:A.T} (ht:A.run args=some t) (he:A.enc t=.bool true) {vs:List Value} {W:World} (hargs:AVRs W (P0 λ _=>False) args vs)
  {fn:Func} {c:Code} (hf:P.funcs[f]?=some fn) (hname:(fn.name == "runtime.NumGoroutine")=false) (hb:fn.body=some c):Calls P f vs.toArray W λ e w'=>e=.returned (.bool true) /\ Below W.heap.size W w':=by
 have h:=hA args t ht W (λ _=>False) vs (λ _ h=>h.elim) hargs;rcases h with ⟨v,w',h1,_⟩ | ⟨_,h2⟩
 ·rw [nA hf hname hb] at h1; cases h1
 ·refine h2.mono λ e w' ⟨v,h3,h4,_,h5⟩=>⟨?_,h5⟩;rw [h3];rw [he] at h4;exact dQ Ending.returned h4.1
end
noncomputable section
open Go Go.RowKit Go.ChangeShapes Go.WideShapes Go.ChangeAt
set_option linter.all false
inductive PK where
 | arr (n:Nat) (k:IntKind)
 | int (k:IntKind)
 | str
 | bool
def aZz (P:Program) (t:TypeId):PK->Prop
 | .arr n k=>(∃ e,P.underlying t=some (.array n e) /\ P.underlying e=some (.int k) /\ P.cellsOf e=1) /\ P.cellsOf t=n
 | .int k=>P.underlying t=some (.int k)
 | .str=>P.underlying t=some .string
 | .bool=>P.underlying t=some .bool
def aHz (P:Program):List TypeId->List PK->Prop
 | [],[]=>True
 | t :: ts,k :: ks=>aZz P t k /\ aHz P ts ks
 | _,_=>False
def aHA:PK->AV->Prop
 | .arr n k,x=>∃ a:List Int,x=.agg (.ints k a) n /\ a.length=n /\ ∀ y ∈ a,(Lit.int k y).wf=true
 | .int k,x=>∃ n:Int,x=.int k n /\ (Lit.int k n).wf=true
 | .str,x=>∃ s:Str,x=.str s /\ s.length <= maxLen
 | .bool,x=>∃ b:Bool,x=.bool b
def SU:List PK->List AV->Prop
 | [],[]=>True
 | k :: ks,x :: xs=>aHA k x /\ SU ks xs
 | _,_=>False
section
variable {H:Type} {enc:TypeId × Value->H} {P:Program} {W:World} {base:Nat} {sp:Nat->Bool} {hd:Bool} {b0:Nat} {r:Reach}
theorem aHB {t:TypeId} {k:PK} {v:Value} {d:DataW H} {p:List MemPlace} (hk:aZz P t k) (hv:Value.okWide P W r b0 t v) (h:DataW.Trod enc P W base sp hd t v d p) :
  ∃ x,aHA k x /\ AVR W (P0 λ _=>False) x v /\ p=[]:=by
 cases k with
 | arr n k=>
  obtain ⟨⟨e,h1,h2,h3⟩,h4⟩:=hk;obtain ⟨a,rfl,la,wa,rfl⟩:=Gt h1 h2 h3 h4 hv h;exact ⟨_,⟨a,rfl,la,wa⟩,⟨rfl,λ r n' e=>by cases e; exact la⟩,rfl⟩
 | int k=>
  obtain ⟨n,rfl,_,rfl,hw⟩:=open_int hk hv h;exact ⟨_,⟨n,rfl,hw⟩,⟨rfl,λ r n' e=>by cases e⟩,rfl⟩
 | str=>
  obtain ⟨s,rfl,_,rfl,hs⟩:=Go.ChangeMaps.open_string hk hv h;exact ⟨.str s.data.toList,⟨_,rfl,by rw [Sg]; exact hs⟩,⟨by simp [Pl.val,Str.val],λ r n' e=>by cases e⟩,rfl⟩
 | bool=>
  obtain ⟨b,rfl,_,rfl⟩:=open_bool hk hv h;exact ⟨.bool b,⟨_,rfl⟩,⟨rfl,λ r n' e=>by cases e⟩,rfl⟩
theorem aHC:∀ {ts:List TypeId} {ks:List PK} {vs:List Value} {ds:List (DataW H)} {p:List MemPlace},aHz P ts ks->(∀ (j:Nat) t v,ts[j]?=some t->vs[j]?=some v->Value.okWide P W r b0 t v) ->
  DataW.TrodAll enc P W base sp hd ts vs ds p->∃ xs,SU ks xs /\ AVRs W (P0 λ _=>False) xs vs /\ p=[]:=by
 intro ts
 induction ts with
 | nil=>
  intro ks vs ds p hk hv h
  match ks,vs,ds,hk,h with
  | [],[],[],_,h=>exact ⟨[],trivial,trivial,h⟩
 | cons t ts ih=>
  intro ks vs ds p hk hv h
  match ks,vs,ds,hk,h with
  | k :: ks,v :: vs,d :: ds,⟨hk1,hk2⟩,⟨p,q,h1,h2,e⟩=>
   obtain ⟨x,g1,g2,rfl⟩:=aHB hk1 (hv 0 t v rfl rfl) h1;obtain ⟨xs,g3,g4,rfl⟩:=ih hk2 (λ j t v ht hv'=>hv (j+1) t v ht hv') h2;exact ⟨x :: xs,⟨g1,g3⟩,⟨g2,g4⟩,by simpa using e⟩
theorem SW {w':World}:∀ {ts:List TypeId} {vs:List Value} {ds:List (DataW H)} {p:List MemPlace},DataW.TrodAll enc P w' base sp hd ts vs ds p->ds.length=ts.length:=by
 intro ts
 induction ts with
 | nil=>
  intro vs ds p h
  match vs,ds,h with
  | [],[],h=>rfl
 | cons t ts ih=>
  intro vs ds p h
  match vs,ds,h with
  | v :: vs,d :: ds,⟨p,q,h1,h2,e⟩=>exact dQ Nat.succ (ih h2)
theorem Kk (hl:laidOutB P=true) {W':World} (hb:Below W.heap.size W W'):∀ {ts:List TypeId} {vs:List Value} {ds:List (DataW H)} {p:List MemPlace},(∀ t ∈ ts,P.readableRec t=true /\ t < P.types.size) ->
  p=[]->DataW.TrodAll enc P W 0 (λ _=>true) true ts vs ds p->DataW.TrodAll enc P W' 0 (λ b=>decide (b < W.heap.size)) true ts vs ds p:=by
 intro ts
 induction ts with
 | nil=>
  intro vs ds p hr hp h
  match vs,ds,h with
  | [],[],h=>exact h
 | cons t ts ih=>
  intro vs ds p hr hp h
  match vs,ds,h with
  | v :: vs,d :: ds,⟨p,q,h1,h2,e⟩=>
   rw [hp] at e;obtain ⟨rfl,rfl⟩:=List.append_eq_nil_iff.1 e.symm;exact ⟨[],[],Below.trod hl (hr t (by simp)).1 (hr t (by simp)).2 h1 hb (λ x hx=>by cases hx),ih (λ t ht=>hr t (by simp [ht])) rfl h2,hp⟩
end
theorem bAs {α:Type} {l:List α} (h:l.length=3):∃ a b c,l=[a,b,c]:=by
 match l,h with
 | [a,b,c],_=>exact ⟨a,b,c,rfl⟩
theorem aWO {k k2 k3:PK} {xs:List AV} (h:SU [k,k2,k3] xs):∃ x y z,xs=[x,y,z] /\ aHA k x /\ aHA k2 y /\ aHA k3 z:=by
 match xs,h with
 | [x,y,z],h=>exact ⟨x,y,z,rfl,h.1,h.2.1,h.2.2.1⟩
abbrev FA (T:Type):=List AV->Option T
abbrev FG (b:Type):=Option St->Option b
abbrev FH (b:Type):=Ex->Option St->Option b
noncomputable abbrev dI (l:List Int) (n:Nat):SV:=.dat (.ints .i64 l) n 1
noncomputable abbrev aU (l:List Int) (n:Nat):AV:=.c (.s (.pl (.agg (.ints .u64 l) n)))
theorem gk {P:Program} {l:List (Nat × Summ)} {o:List Nat} (h:∀ g A,dE l g=some A->CallOk P g A):CfOk P ⟨dE l,o,dR⟩:=⟨h,λ _ _ h=>by cases h⟩
end
end Go.Eng
