import Derived.Test.YtmicbaijcbkmjaaGreatZV5
import Derived.Test.YtmicbaijcbkmjaaGreatZV6
namespace Go.Eng
noncomputable section
open Go Go.Proofs
set_option maxRecDepth 100000
def L4:List (Nat × Summ):=(61,jQ) :: (62,jQ) :: L3
theorem aP4:∀ f A,dE L4 f=some A->CallOk prog f A:=aA aMZ <| aA aMY aEk
theorem aWx:Jq (Af L4 12 [])=true:=by kernel_rfl
theorem aNj:CallOk prog 12 jQ:=sB aP4 aWx
def L5:List (Nat × Summ):=(12,jQ) :: L4
theorem aZt:∀ f A,dE L5 f=some A->CallOk prog f A:=aA aNj aP4
theorem aWy:Jq (Af L5 4 [])=true:=by kernel_rfl
theorem U8:CallOk prog 4 jQ:=sB aZt aWy
set_option linter.all false
set_option maxRecDepth 8000
def aZu:Summ where
 T:=Unit
 run:=λ
  | [.c (.s (.pl (.agg (.ints .u8 p) 32))),.c (.s (.pl (.agg (.ints .u8 k) 32))),.c (.s (.pl (.str s)))]=>cond (fR p && fR k) (some ()) none
  | _=>none
 enc:=λ _=>.bool true
theorem aWz {p:List Int} (hp:fR p=true):∀ {l:List SV},l=p.map (λ n=>SV.pl (.int .u8 n))->aBt ([SV.pl (.str []),SV.pl (.str []),SV.pl (.str []),.pl (.int .u64 0),.pl (.int .u64 0),.pl (.int .u64 0),.pl (.int .u64 0),.pl (.int .u64 0),.pl (.int .u64 0),.pl (.int .u64 0),.pl (.int .u64 0)]++l)=some p:=by
 intro l hl;have h:∀ q:List Int,Lh (q.map λ n=>SV.pl (.int .u8 n))=some q:=by
  intro q
  induction q with
  | nil=>rfl
  | cons x r ih=>rw [mQ,Lh,ih]
 subst hl;simp [aBt,Rc,h,hp]
theorem aHm {p a:List Int} {s:Str} (hp:fR p=true) (ha:jO a=true) (hs:s.length <= 1099511627776) {l:List SV} (hl:l=p.map (λ n=>SV.pl (.int .u8 n))):aBu [.c (.mix ([SV.pl (.str []),SV.pl (.str []),SV.pl (.str []),.pl (.int .u64 0),.pl (.int .u64 0),.pl (.int .u64 0),.pl (.int .u64 0),.pl (.int .u64 0),.pl (.int .u64 0),.pl (.int .u64 0),.pl (.int .u64 0)]++l)),.agg (.ints .u64 a) 8,.agg (.strs [s]) 1]=some (H9 p (val a) s):=by
 simp only [aBu,zS,AV.agg];rw [aWz hp hl];simp only [ha,iX hs]; rfl
abbrev aWA:Cg:=aOb (PUnit) aCL (Nat) Wt (λ t=>(cQ 8 t).getD 0 0) (λ t=>(cQ 8 t).getD 1 0) (λ t=>(cQ 8 t).getD 2 0) (λ t=>(cQ 8 t).getD 3 0) (λ t=>(cQ 8 t).getD 4 0) (λ t=>(cQ 8 t).getD 5 0) (λ t=>(cQ 8 t).getD 6 0) (λ t=>(cQ 8 t).getD 7 0) ((Str × Str) × Int) aBu (λ t=>t.1.1) (λ t=>t.1.2) (λ t=>t.2) (Nat) aCj (λ t=>nb t) (λ t=>(nb t).length) (Nat) TB (λ t=>nb t) (λ t=>(nb t).length) (List Int) aN6 (λ t=>t) (Str × Int) Xj (λ t=>t.fst) (λ t=>t.snd) (List UInt8) Xi (λ t=>t)
theorem aNk:CfOk prog aWA.c:=gk <| aA U8 <| aA Z2 <| aA aIN <| aA aI9 <| aA aCm <| aA aIC <| aA aAt <| aA Xm <| aK
theorem bAn {x:Nat} (h:x < LN):x < lJ:=fC h (by decide)
theorem aWB {p:List Int} {E:List Int} {e:Int} (h:e ≠ 0):Yw p (E,e)=(([],[]),e):=by
 unfold Yw;rw [aH h]; rfl
theorem aWC:CallOk prog pA aZu:=by
 refine i7 aNk pB ?_;intro args r hr;unfold aZu at hr;simp only at hr;split at hr
 ·rename_i p k s;obtain ⟨hc,_⟩:=cC hr;rw [aX] at hc;obtain ⟨hp,hk⟩:=hc;have sk:=UD hk;have ok:=aCp hk;have bd:vB k < lJ:=by
   have h2:=GD k (j3 hk).2;rw [(j3 hk).1] at h2;exact fC h2 (by decide +kernel)
  have mk:=ZE bd;have c1:vB k%LN < LN:=bK _ bAa;clear bd;generalize vB k%LN=x at *;generalize vB k=vk at *;have v:val (cQ 8 x)=x:=TR (fC c1 V2);have tx:=MT hp;have q:=λ hs=>aHm (s:=s) hp (fA x) hs rfl;rw [v] at q;obtain ⟨p0,p1,p2,p3,p4,p5,p6,p7,p8,p9,p10,p11,p12,p13,p14,p15,p16,p17,p18,p19,p20,p21,p22,p23,p24,p25,p26,p27,p28,p29,p30,p31,rfl⟩:=aBI (j3 hp).1;refine (aQU ..).trans ?_;show _=some (AV.bool true);refine aI (show aCL []=some () from rfl) ?_;by_cases h2:s.length <= 200;rotate_left
  ·rw [aE (by omega)]; rfl
  rw [aH (by omega),aD];refine aI sk ?_;refine aI (q (by omega)) ?_;by_cases hl:s.length=32;rotate_left
  ·rw [aH (by omega),lL,aB];have e3:H9 [p0,p1,p2,p3,p4,p5,p6,p7,p8,p9,p10,p11,p12,p13,p14,p15,p16,p17,p18,p19,p20,p21,p22,p23,p24,p25,p26,p27,p28,p29,p30,p31] x s=(([],[]),4):=by
    unfold H9;rw [show Nat.beq s.length 32=false from iP hl]; rfl
   rw [e3]; rfl
  rw [aE (by omega),jW,aD];refine aI ok ?_;refine aI mk ?_;refine aI (aBE hl) ?_;have hb:=IA s hl;have t:=Ul (bAn c1) hb;rw [aMu hb c1] at t;refine aI t ?_;have e3:H9 [p0,p1,p2,p3,p4,p5,p6,p7,p8,p9,p10,p11,p12,p13,p14,p15,p16,p17,p18,p19,p20,p21,p22,p23,p24,p25,p26,p27,p28,p29,p30,p31] x s=Yw [p0,p1,p2,p3,p4,p5,p6,p7,p8,p9,p10,p11,p12,p13,p14,p15,p16,p17,p18,p19,p20,p21,p22,p23,p24,p25,p26,p27,p28,p29,p30,p31] (oP x (s.map lO)):=by
   unfold H9;rw [hl]; rfl
  rw [e3];clear t e3 q sk;generalize oP x (s.map lO)=Z at *;obtain ⟨E,e⟩:=Z;by_cases he:e=0
  ·subst he;have e4:Yw [p0,p1,p2,p3,p4,p5,p6,p7,p8,p9,p10,p11,p12,p13,p14,p15,p16,p17,p18,p19,p20,p21,p22,p23,p24,p25,p26,p27,p28,p29,p30,p31] (E,0)=((E.map b8,[p0,p1,p2,p3,p4,p5,p6,p7,p8,p9,p10,p11,p12,p13,p14,p15,p16,p17,p18,p19,p20,p21,p22,p23,p24,p25,p26,p27,p28,p29,p30,p31].map b8),0):=rfl;have e5:aAr (E,0)=(E.map b8,0):=rfl;have u:=Rb hp;rw [e4,e5];generalize E.map b8=U at *;generalize List.map b8 [p0,p1,p2,p3,p4,p5,p6,p7,p8,p9,p10,p11,p12,p13,p14,p15,p16,p17,p18,p19,p20,p21,p22,p23,p24,p25,p26,p27,p28,p29,p30,p31]=V at *;refine aI (o:=Xi [lS [p0,p1,p2,p3,p4,p5,p6,p7,p8,p9,p10,p11,p12,p13,p14,p15,p16,p17,p18,p19,p20,p21,p22,p23,p24,p25,p26,p27,p28,p29,p30,p31]]) u ?_;show some (AV.bool (decide (U=U) && (decide (V=V) && true)))=_;rw [aE rfl,aE rfl]; rfl
  ·rw [aWB he];have e5:aAr (E,e)=([],e):=by
    unfold aAr;rw [aH he]; rfl
   rw [e5];show cond (!decide (e=0)) (cond (decide (e=e)) _ _) _=_;rw [aH he,aE rfl]; rfl
 ·cases hr
end
end Go.Eng
