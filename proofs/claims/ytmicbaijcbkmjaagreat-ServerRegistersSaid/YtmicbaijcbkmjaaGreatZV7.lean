import Derived.Test.YtmicbaijcbkmjaaGreatZV5
import Derived.Test.YtmicbaijcbkmjaaGreatZV6
namespace Go.Eng
noncomputable section
open Go Go.Proofs
set_option maxRecDepth 100000
def L4:List (Nat × Summ):=(61,jQ) :: (62,jQ) :: L3
theorem aP5:∀ f A,dD L4 f=some A->CallOk prog f A:=aA aKl <| aA aMZ aE6
theorem aWM:Jg (AZ L4 12 [])=true:=by kernel_rfl
theorem aNF:CallOk prog 12 jQ:=sD aP5 aWM
def L5:List (Nat × Summ):=(12,jQ) :: L4
theorem aZr:∀ f A,dD L5 f=some A->CallOk prog f A:=aA aNF aP5
theorem aWN:Jg (AZ L5 4 [])=true:=by kernel_rfl
theorem VD:CallOk prog 4 jQ:=sD aZr aWN
set_option linter.all false
set_option maxRecDepth 8000
def aZs:Summ where
 T:=Unit
 run:=λ
  | [.c (.s (.pl (.agg (.ints .u8 p) 32))),.c (.s (.pl (.agg (.ints .u8 k) 32))),.c (.s (.pl (.str s)))]=>cond (fR p && fR k) (some ()) none
  | _=>none
 enc:=λ _=>.bool true
theorem aWO {p:List Int} (hp:fR p=true):∀ {l:List SV},l=p.map (λ n=>SV.pl (.int .u8 n))->aFK ([SV.pl (.str []),SV.pl (.str []),SV.pl (.str []),.pl (.int .u64 0),.pl (.int .u64 0),.pl (.int .u64 0),.pl (.int .u64 0),.pl (.int .u64 0),.pl (.int .u64 0),.pl (.int .u64 0),.pl (.int .u64 0)]++l)=some p:=by
 intro l hl;have h:∀ q:List Int,L6 (q.map λ n=>SV.pl (.int .u8 n))=some q:=by
  intro q
  induction q with
  | nil=>rfl
  | cons x r ih=>rw [mQ,L6,ih]
 subst hl;simp [aFK,Sf,h,hp]
theorem aHL {p a:List Int} {s:Str} (hp:fR p=true) (ha:jO a=true) (hs:s.length <= 1099511627776) {l:List SV} (hl:l=p.map (λ n=>SV.pl (.int .u8 n))):aFL [.c (.mix ([SV.pl (.str []),SV.pl (.str []),SV.pl (.str []),.pl (.int .u64 0),.pl (.int .u64 0),.pl (.int .u64 0),.pl (.int .u64 0),.pl (.int .u64 0),.pl (.int .u64 0),.pl (.int .u64 0),.pl (.int .u64 0)]++l)),.agg (.ints .u64 a) 8,.agg (.strs [s]) 1]=some (JX p (val a) s):=by
 simp only [aFL,AS,AV.agg];rw [aWO hp hl];simp only [ha,iX hs]; rfl
abbrev aWP:Cg:=aPr (PUnit) aFz (Nat) Wg (λ t=>(cQ 8 t).getD 0 0) (λ t=>(cQ 8 t).getD 1 0) (λ t=>(cQ 8 t).getD 2 0) (λ t=>(cQ 8 t).getD 3 0) (λ t=>(cQ 8 t).getD 4 0) (λ t=>(cQ 8 t).getD 5 0) (λ t=>(cQ 8 t).getD 6 0) (λ t=>(cQ 8 t).getD 7 0) ((Str × Str) × Int) aFL (λ t=>t.1.1) (λ t=>t.1.2) (λ t=>t.2) (Nat) aBb (λ t=>nb t) (λ t=>(nb t).length) (Nat) Sr (λ t=>nb t) (λ t=>(nb t).length) (List Int) aPm (λ t=>t) (Str × Int) Wa (λ t=>t.fst) (λ t=>t.snd) (List UInt8) WZ (λ t=>t)
theorem aNG:CfOk prog aWP.c:=gk <| aA VD <| aA Zk <| aA aMD <| aA aIe <| aA aBe <| aA aMs <| aA Zd <| aA Wd <| aK
theorem bAw {x:Nat} (h:x < LN):x < lG:=fC h (by decide)
theorem aWQ {p:List Int} {E:List Int} {e:Int} (h:e ≠ 0):aAf p (E,e)=(([],[]),e):=by
 unfold aAf;rw [aH h]; rfl
theorem aWR:CallOk prog oT aZs:=by
 refine i4 aNG oU ?_;intro args r hr;unfold aZs at hr;simp only at hr;split at hr
 ·rename_i p k s;obtain ⟨hc,_⟩:=cC hr;rw [aX] at hc;obtain ⟨hp,hk⟩:=hc;have sk:=Ts hk;have ok:=aBh hk;have bd:vB k < lG:=by
   have h2:=GS k (j3 hk).2;rw [(j3 hk).1] at h2;exact fC h2 (by decide +kernel)
  have mk:=Yl bd;have c1:vB k%LN < LN:=bK _ bAu;clear bd;generalize vB k%LN=x at *;generalize vB k=vk at *;have v:val (cQ 8 x)=x:=UQ (fC c1 Xd);have tx:=OP hp;have q:=λ hs=>aHL (s:=s) hp (fA x) hs rfl;rw [v] at q;obtain ⟨p0,p1,p2,p3,p4,p5,p6,p7,p8,p9,p10,p11,p12,p13,p14,p15,p16,p17,p18,p19,p20,p21,p22,p23,p24,p25,p26,p27,p28,p29,p30,p31,rfl⟩:=aFZ (j3 hp).1;refine (aUV ..).trans ?_;show _=some (AV.bool true);refine aI (show aFz []=some () from rfl) ?_;by_cases h2:s.length <= 200;rotate_left
  ·rw [aE (by omega)]; rfl
  rw [aH (by omega),aD];refine aI sk ?_;refine aI (q (by omega)) ?_;by_cases hl:s.length=32;rotate_left
  ·rw [aH (by omega),lL,aB];have e3:JX [p0,p1,p2,p3,p4,p5,p6,p7,p8,p9,p10,p11,p12,p13,p14,p15,p16,p17,p18,p19,p20,p21,p22,p23,p24,p25,p26,p27,p28,p29,p30,p31] x s=(([],[]),4):=by
    unfold JX;rw [show Nat.beq s.length 32=false from iP hl]; rfl
   rw [e3]; rfl
  rw [aE (by omega),jW,aD];refine aI ok ?_;refine aI mk ?_;refine aI (aFV hl) ?_;have hb:=JY s hl;have t:=Tl (bAw c1) hb;rw [aK5 hb c1] at t;refine aI t ?_;have e3:JX [p0,p1,p2,p3,p4,p5,p6,p7,p8,p9,p10,p11,p12,p13,p14,p15,p16,p17,p18,p19,p20,p21,p22,p23,p24,p25,p26,p27,p28,p29,p30,p31] x s=aAf [p0,p1,p2,p3,p4,p5,p6,p7,p8,p9,p10,p11,p12,p13,p14,p15,p16,p17,p18,p19,p20,p21,p22,p23,p24,p25,p26,p27,p28,p29,p30,p31] (oO x (s.map lP)):=by
   unfold JX;rw [hl]; rfl
  rw [e3];clear t e3 q sk;generalize oO x (s.map lP)=Z at *;obtain ⟨E,e⟩:=Z;by_cases he:e=0
  ·subst he;have e4:aAf [p0,p1,p2,p3,p4,p5,p6,p7,p8,p9,p10,p11,p12,p13,p14,p15,p16,p17,p18,p19,p20,p21,p22,p23,p24,p25,p26,p27,p28,p29,p30,p31] (E,0)=((E.map b8,[p0,p1,p2,p3,p4,p5,p6,p7,p8,p9,p10,p11,p12,p13,p14,p15,p16,p17,p18,p19,p20,p21,p22,p23,p24,p25,p26,p27,p28,p29,p30,p31].map b8),0):=rfl;have e5:Zb (E,0)=(E.map b8,0):=rfl;have u:=Qq hp;rw [e4,e5];generalize E.map b8=U at *;generalize List.map b8 [p0,p1,p2,p3,p4,p5,p6,p7,p8,p9,p10,p11,p12,p13,p14,p15,p16,p17,p18,p19,p20,p21,p22,p23,p24,p25,p26,p27,p28,p29,p30,p31]=V at *;refine aI (o:=WZ [lR [p0,p1,p2,p3,p4,p5,p6,p7,p8,p9,p10,p11,p12,p13,p14,p15,p16,p17,p18,p19,p20,p21,p22,p23,p24,p25,p26,p27,p28,p29,p30,p31]]) u ?_;show some (AV.bool (decide (U=U) && (decide (V=V) && true)))=_;rw [aE rfl,aE rfl]; rfl
  ·rw [aWQ he];have e5:Zb (E,e)=([],e):=by
    unfold Zb;rw [aH he]; rfl
   rw [e5];show cond (!decide (e=0)) (cond (decide (e=e)) _ _) _=_;rw [aH he,aE rfl]; rfl
 ·cases hr
end
end Go.Eng
