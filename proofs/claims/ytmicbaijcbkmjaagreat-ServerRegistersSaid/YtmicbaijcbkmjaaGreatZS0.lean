import Derived.Lib.Bytealg
import Derived.Test.YtmicbaijcbkmjaaGreatEngNums
import Derived.Test.YtmicbaijcbkmjaaGreatShelf1
namespace Go.Eng
open Go Go.Proofs
set_option linter.all false
def zC:Nat:=140737488355328
def Hd:Summ where
 T:=Str
 run:=λ
  | [.c (.s (.pl (.str s))),.c (.s (.pl (.int .i64 n)))]=>cond (decide (0 <= n) && decide (n <= 140737488355328) && Nat.ble (s.length*n.toNat) zC) (some (Lib.repeatL s n.toNat)) none
  | _=>none
 enc:=λ t=>.str t
def sC:FA Str:=Hd.run
def Rz:Summ where
 T:=Str
 run:=λ
  | [.c (.s (.dat (.strs ss) n 1)),.c (.s (.pl (.str sep)))]=>cond (Nat.beq n ss.length && Nat.ble ss.length zC && Nat.ble (Lib.join ss sep).length zC) (some (Lib.join ss sep)) none
  | _=>none
 enc:=λ t=>.str t
def Ah:FA Str:=Rz.run
def Cq:Summ where
 T:=Bool
 run:=λ
  | [.c (.s (.pl (.str s))),.c (.s (.pl (.str p)))]=>some (Lib.hasPrefix s p)
  | _=>none
 enc:=λ t=>.bool t
theorem cC {α:Type} {c:Bool} {x y:α} (h:cond c (some x) none=some y):c=true /\ x=y:=by
 cases c
 ·cases h
 ·exact ⟨rfl,dG h⟩
theorem sD {P:Program} {f:FuncId} {fn:Func} {c:Code} {args:Array Value} {w:World} {R:Value->World->Prop} (hf:P.funcs[f]?=some fn) (hname:(fn.name == "runtime.NumGoroutine")=false) (hb:fn.body=some c)
  (h:Calls P f args w λ e w'=>∃ v,e=.returned v /\ R v w'):FAt P f args w R:=Or.inr ⟨nA hf hname hb _ _,h⟩
theorem He (w:World) (ρ:Plc) (s:Str):AVR w ρ (.str s) (.string ⟨s.toArray⟩):=⟨rfl,λ r n e=>by cases e⟩
theorem aHh {w:World} {ρ:Plc} {x y:AV} {vs:List Value} (h:AVRs w ρ [x,y] vs):∃ u v,vs=[u,v] /\ AVR w ρ x u /\ AVR w ρ y v:=by
 match vs,h with
 | [u,v],h=>exact ⟨u,v,rfl,h.1,h.2.1⟩
theorem Fc:CallOk prog 150 Hd:=by
 intro args t ht w X vs hX hav;unfold Hd at ht;simp only at ht;split at ht
 case h_2=>cases ht
 rename_i s n;obtain ⟨h1,h2⟩:=cC ht;cases h2;simp only [aX,bG,lC] at h1;obtain ⟨⟨h1,h2⟩,h3⟩:=h1;obtain ⟨u,v,rfl,hu,hv⟩:=aHh hav;have hu:u=.string ⟨s.toArray⟩:=hu.1;have hv:v=.int .i64 n:=hv.1;subst hu hv;obtain ⟨k,rfl⟩:=b9 h1;refine sD Tryz.func150 (by kernel_rfl) (c:=bD Tryz.f150) (by kernel_rfl) ?_;have:=Any.strings_Repeat Tryz.lay105 Tryz.X105 ⟨s.toArray⟩ k w (by omega) h3;refine this.mono λ e w' ⟨he,hb⟩=>⟨_,he,He _ _ _,rfl,hb⟩
theorem Ow:CallOk prog 181 Cq:=by
 intro args t ht w X vs hX hav;unfold Cq at ht;simp only at ht;split at ht
 case h_2=>cases ht
 rename_i s p;cases ht;obtain ⟨u,v,rfl,hu,hv⟩:=aHh hav;have hu:u=.string ⟨s.toArray⟩:=hu.1;have hv:v=.string ⟨p.toArray⟩:=hv.1;subst hu hv;refine sD Tryz.func181 (by kernel_rfl) (c:=bD Tryz.f181) (by kernel_rfl) ?_;have:=Any.strings_HasPrefix Tryz.lay99 ⟨s.toArray⟩ ⟨p.toArray⟩ w;exact this.mono λ e w' ⟨he,hw⟩=>⟨_,he,⟨rfl,λ r n e=>by cases e⟩,rfl,hw ▸ Go.RowKit.Below.refl _ _⟩
theorem Ox:CallOk prog 69 Rz:=by
 intro args t ht w X vs hX hav;unfold Rz at ht;simp only at ht;split at ht
 case h_2=>cases ht
 rename_i ss n sep;obtain ⟨h1,h2⟩:=cC ht;cases h2;simp only [aX,lC] at h1;obtain ⟨⟨h1,h2⟩,h3⟩:=h1;have h1:=aS h1;subst h1;obtain ⟨u,v,rfl,hu,hv⟩:=aHh hav;have hv:v=.string ⟨sep.toArray⟩:=hv.1;subst hv;refine sD Tryz.func69 (by kernel_rfl) (c:=bD Tryz.f69) (by kernel_rfl) ?_;obtain ⟨hl,hu⟩:=hu;rcases hu with ⟨h0,rfl⟩ | ⟨b,off,cap,rfl,hcap,hfo,hrow,hb⟩
 ·have e:ss=[]:=oB h0;subst e;refine (Any.strings_Join_none Tryz.lay156 Tryz.X156 none 0 ⟨sep.toArray⟩ w).mono λ e w' ⟨he,hw⟩=>⟨_,he,?_,rfl,hw ▸ Go.RowKit.Below.refl _ _⟩;exact He _ _ _
 ·have hm:(ss.map λ s=>(⟨s.toArray⟩:ByteArray)).map (·.data.toList)=ss:=by
   rw [KD];exact (Au λ s _=>by simp).trans (List.map_id _)
  have:=Any.strings_Join Tryz.lay156 Tryz.X156 b off cap (ss.map λ s=>⟨s.toArray⟩) ⟨sep.toArray⟩ w (λ j x hx=>by
    refine hrow j (.string x) ?_;show (ss.map Str.val)[j]?=_;rw [kV] at hx ⊢;cases h:ss[j]? with
    | none=>rw [h] at hx; cases hx
    | some s=>rw [h] at hx; cases hx; rfl) hb (by rw [iA]; exact h2) (by rw [iA]; exact hcap) (by rw [hm]; exact h3)
  rw [iA,hm] at this;exact this.mono λ e w' ⟨he,hb⟩=>⟨_,he,He _ _ _,rfl,hb⟩
end Go.Eng
