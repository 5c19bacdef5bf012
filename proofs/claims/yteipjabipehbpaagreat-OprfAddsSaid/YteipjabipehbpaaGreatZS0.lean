import Derived.Lib.Bytealg
import Derived.Test.YteipjabipehbpaaGreatEngNums
import Derived.Test.YteipjabipehbpaaGreatShelf1
namespace Go.Eng
open Go Go.Proofs
set_option linter.all false
def big47:Nat:=140737488355328
def sRepeat:Summ where
 T:=Str
 run:=fun
  | [.c (.s (.pl (.str s))),.c (.s (.pl (.int .i64 n)))]=>cond (decide (0 <= n) && decide (n <= 140737488355328) && Nat.ble (s.length*n.toNat) big47) (some (Lib.repeatL s n.toNat)) none
  | _=>none
 enc:=fun t=>.str t
def rRepeat:List AV->Option Str:=sRepeat.run
def sJoin:Summ where
 T:=Str
 run:=fun
  | [.c (.s (.dat (.strs ss) n 1)),.c (.s (.pl (.str sep)))]=>cond (Nat.beq n ss.length && Nat.ble ss.length big47 && Nat.ble (Lib.join ss sep).length big47) (some (Lib.join ss sep)) none
  | _=>none
 enc:=fun t=>.str t
def rJoin:List AV->Option Str:=sJoin.run
theorem ctrueS {α:Type} {c:Bool} {x y:α} (h:cond c (some x) none=some y):c=true /\ x=y:=by
 cases c
 ·cases h
 ·exact ⟨rfl,Option.some.inj h⟩
theorem fat_of_calls {P:Program} {f:FuncId} {fn:Func} {c:Code} {args:Array Value} {w:World} {R:Value->World->Prop} (hf:P.funcs[f]?=some fn) (hname:(fn.name == "runtime.NumGoroutine")=false) (hb:fn.body=some c)
  (h:Calls P f args w fun e w'=>∃ v,e=.returned v /\ R v w'):FAt P f args w R:=Or.inr ⟨run_enter hf hname hb _ _,h⟩
theorem avr_str (w:World) (ρ:Plc) (s:Str):AVR w ρ (.str s) (.string ⟨s.toArray⟩):=⟨rfl,fun r n e=>by cases e⟩
theorem avrs2 {w:World} {ρ:Plc} {x y:AV} {vs:List Value} (h:AVRs w ρ [x,y] vs):∃ u v,vs=[u,v] /\ AVR w ρ x u /\ AVR w ρ y v:=by
 match vs,h with
 | [u,v],h=>exact ⟨u,v,rfl,h.1,h.2.1⟩
theorem ok_Repeat:CallOk prog nF132 sRepeat:=by
 intro args t ht w X vs hX hav
 unfold sRepeat at ht
 simp only at ht
 split at ht
 case h_2=>cases ht
 rename_i s n
 obtain ⟨h1,h2⟩:=ctrueS ht
 cases h2
 simp only [Bool.and_eq_true,decide_eq_true_eq,Nat.ble_eq] at h1
 obtain ⟨⟨h1,h2⟩,h3⟩:=h1
 obtain ⟨u,v,rfl,hu,hv⟩:=avrs2 hav
 have hu:u=.string ⟨s.toArray⟩:=hu.1
 have hv:v=.int .i64 n:=hv.1
 subst hu hv
 obtain ⟨k,rfl⟩:=Int.eq_ofNat_of_zero_le h1
 refine fat_of_calls hF132 (by kernel_rfl) (c:=codeF fF132) (by kernel_rfl) ?_
 have:=Any.strings_Repeat Tryz.lay105 Tryz.X105 ⟨s.toArray⟩ k w (by omega) h3
 refine this.mono fun e w' ⟨he,hb⟩=>⟨_,he,avr_str _ _ _,rfl,hb⟩
theorem ok_Join:CallOk prog nF131 sJoin:=by
 intro args t ht w X vs hX hav
 unfold sJoin at ht
 simp only at ht
 split at ht
 case h_2=>cases ht
 rename_i ss n sep
 obtain ⟨h1,h2⟩:=ctrueS ht
 cases h2
 simp only [Bool.and_eq_true,Nat.ble_eq] at h1
 obtain ⟨⟨h1,h2⟩,h3⟩:=h1
 have h1:=Nat.eq_of_beq_eq_true h1
 subst h1
 obtain ⟨u,v,rfl,hu,hv⟩:=avrs2 hav
 have hv:v=.string ⟨sep.toArray⟩:=hv.1
 subst hv
 refine fat_of_calls hF131 (by kernel_rfl) (c:=codeF fF131) (by kernel_rfl) ?_
 obtain ⟨hl,hu⟩:=hu
 rcases hu with ⟨h0,rfl⟩ | ⟨b,off,cap,rfl,hcap,hfo,hrow,hb⟩
 ·have e:ss=[]:=List.eq_nil_of_length_eq_zero h0
  subst e
  refine (Any.strings_Join_none Tryz.lay156 Tryz.X156 none 0 ⟨sep.toArray⟩ w).mono fun e w' ⟨he,hw⟩=>⟨_,he,?_,rfl,hw ▸ Go.RowKit.Below.refl _ _⟩
  exact avr_str _ _ _
 ·have hm:(ss.map fun s=>(⟨s.toArray⟩:ByteArray)).map (·.data.toList)=ss:=by
   rw [List.map_map]
   exact (List.map_congr_left fun s _=>by simp).trans (List.map_id _)
  have:=Any.strings_Join Tryz.lay156 Tryz.X156 b off cap (ss.map fun s=>⟨s.toArray⟩) ⟨sep.toArray⟩ w (fun j x hx=>by
    refine hrow j (.string x) ?_
    show (ss.map Str.val)[j]?=_
    rw [List.getElem?_map] at hx ⊢
    cases h:ss[j]? with
    | none=>rw [h] at hx; cases hx
    | some s=>rw [h] at hx; cases hx; rfl) hb (by rw [List.length_map]; exact h2) (by rw [List.length_map]; exact hcap) (by rw [hm]; exact h3)
  rw [List.length_map,hm] at this
  exact this.mono fun e w' ⟨he,hb⟩=>⟨_,he,avr_str _ _ _,rfl,hb⟩
end Go.Eng
