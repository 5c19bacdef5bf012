import Derived.Test.YteipjabipehbpaaGreatZF8
import Derived.Test.YteipjabipehbpaaGreatZG3
namespace Go.Eng
noncomputable section
open Go Go.Proofs
set_option linter.all false
structure RP where
 x:Nat
 y:Nat
 z:Nat
def ePF (p:Pt):AV:=.tup [.s (.pl (.agg (.ints .u64 [(p.x.a:Int),p.x.b,p.x.c,p.x.d,p.x.e]) 5)),.s (.pl (.agg (.ints .u64 [(p.y.a:Int),p.y.b,p.y.c,p.y.d,p.y.e]) 5)),.s (.pl (.agg (.ints .u64 [(p.z.a:Int),p.z.b,p.z.c,p.z.d,p.z.e]) 5)),.s (.pl (.agg (.ints .u64 [(p.t.a:Int),p.t.b,p.t.c,p.t.d,p.t.e]) 5))]
def sParts:Summ:={ T:=Pt,run:=runP1 fun p=>p,enc:=ePF }
def rParts:List AV->Option Pt:=sParts.run
def sCOf:Summ:={ T:=Pt,run:=runF4 fun x y z t=>⟨x,y,z,t⟩,enc:=eP }
def rCOf:List AV->Option Pt:=sCOf.run
def g_DPa:Cg:=⟨⟨gam [],[],noE⟩,[]⟩
theorem DPa_ev (fu:Nat) (a b c d e f g h i j k l m n o p q r s t:Int):afunc prog fF54 g_DPa fu [.agg (.ints .u64 [a,b,c,d,e,f,g,h,i,j,k,l,m,n,o,p,q,r,s,t]) 20]=some (AV.tup [.s (.pl (.agg (.ints .u64 (List.take 5 (List.drop 0 [a,b,c,d,e,f,g,h,i,j,k,l,m,n,o,p,q,r,s,t]))) 5)),.s (.pl (.agg (.ints .u64 (List.take 5 (List.drop 5 [a,b,c,d,e,f,g,h,i,j,k,l,m,n,o,p,q,r,s,t]))) 5)),.s (.pl (.agg (.ints .u64 (List.take 5 (List.drop 10 [a,b,c,d,e,f,g,h,i,j,k,l,m,n,o,p,q,r,s,t]))) 5)),.s (.pl (.agg (.ints .u64 (List.take 5 (List.drop 15 [a,b,c,d,e,f,g,h,i,j,k,l,m,n,o,p,q,r,s,t]))) 5))]):=by kernel_rfl
def g_DOf:Cg:=⟨⟨gam [],[],noE⟩,[]⟩
theorem DOf_ev (fu:Nat) (a b c d e f g h i j k l m n o p q r s t:Int):afunc prog fF48 g_DOf fu [.agg (.ints .u64 [a,b,c,d,e]) 5,.agg (.ints .u64 [f,g,h,i,j]) 5,.agg (.ints .u64 [k,l,m,n,o]) 5,.agg (.ints .u64 [p,q,r,s,t]) 5]=some (AV.agg (.ints .u64 ([a,b,c,d,e]++([f,g,h,i,j]++([k,l,m,n,o]++[p,q,r,s,t])))) 20):=by kernel_rfl
set_option maxRecDepth 4000
theorem CallOk.conv {P:Program} {f:FuncId} {T:Type} {R:List AV->Option T} {e1 e2:T->AV} (hA:CallOk P f ⟨R,e1⟩)
  (h:∀ (t:T) (w:World) (X:Nat->Prop) (v:Value),AVR w (P0 X) (e1 t) v->AVR w (P0 X) (e2 t) v /\ (e2 t).refs=[]):CallOk P f ⟨R,e2⟩:=by
 intro args t ht w X vs hX hargs
 rcases hA args t ht w X vs hX hargs with ⟨v,w',hr,h1,h2,h3⟩ | ⟨hr,hc⟩
 ·have:=h t w' X v h1
  exact .inl ⟨v,w',hr,this.1,this.2,h3⟩
 ·refine .inr ⟨hr,hc.mono fun e w' he=>?_⟩
  obtain ⟨v,e1,h1,h2,h3⟩:=he
  have:=h t w' X v h1
  exact ⟨v,e1,this.1,this.2,h3⟩
structure RP.ok (p:RP):Prop where
 x:p.x < P25
 y:p.y < P25
 z:p.z < P25
theorem mP (n:Nat):n%P25 < P25:=Nat.mod_lt _ (by decide)
set_option maxRecDepth 4000
abbrev gI_DPa:Cg:=g_DPa 
theorem gok_DPa:CfOk prog gI_DPa.c:=⟨gam_nil,fun _ _ h=>by cases h⟩
theorem ok_Parts:CallOk prog nF54 sParts:=by
 refine afunc_okE (g:=gI_DPa) (fu:=fun _=>0) mixed gok_DPa hF54 (by kernel_rfl) ?_
 intro args t ht
 obtain ⟨p,rfl,hp,rfl⟩:=runP1_ok (F:=fun p=>p) ht
 exact DPa_ev ..
theorem run_Parts {p:Pt} (h:pOk p):rParts [eP p]=some p:=run_P1 (fun p=>p) h
abbrev gI_DOf:Cg:=g_DOf 
theorem gok_DOf:CfOk prog gI_DOf.c:=⟨gam_nil,fun _ _ h=>by cases h⟩
theorem ok_COf:CallOk prog nF48 sCOf:=by
 refine afunc_okE (g:=gI_DOf) (fu:=fun _=>0) mixed gok_DOf hF48 (by kernel_rfl) ?_
 intro args t ht
 obtain ⟨x,y,z,w,rfl,_,_,_,_,rfl⟩:=runF4_ok (F:=fun x y z t=>(⟨x,y,z,t⟩:Pt)) ht
 exact DOf_ev ..
theorem run_COf {x y z t:Fe} (h1:fOk x) (h2:fOk y) (h3:fOk z) (h4:fOk t):rCOf [eF x,eF y,eF z,eF t]=some ⟨x,y,z,t⟩:=run_F4 (fun x y z t=>(⟨x,y,z,t⟩:Pt)) h1 h2 h3 h4
end
end Go.Eng
