import Derived.Test.YteipjabipehbpaaGreatZD3
namespace Go.Eng
noncomputable section
open Go Go.Proofs
set_option linter.all false
abbrev cON:Nat:=54469307008909316920995813868745141605393597292927456921205312896311721017578
abbrev cAN:Nat:=25063068953384623474111414158702152701244531502492656460079210482610430750235
abbrev cMN:Nat:=1159843021668779879193775521855586647937357759715417654439879720876111806838
abbrev cDN:Nat:=40440834346308536858101042469323190826248399146238708352240133220865137265952
def sEPt:Summ:={ T:=Pt,run:=runP1 fun p=>p,enc:=eP }
def rEPt:List AV->Option Pt:=sEPt.run
def u1E (p:Pt):Fe:=mulF (addF p.z p.y) (subF p.z p.y)
def u2E (p:Pt):Fe:=mulF p.x p.y
def invE (p:Pt):Fe:=(ratF (fe 1) (mulF (u1E p) (mulF (u2E p) (u2E p)))).1
def ziE (p:Pt):Fe:=mulF (mulF (mulF (invE p) (u1E p)) (mulF (invE p) (u2E p))) p.t
def rotE (p:Pt):Bool:=oddF (mulF p.t (ziE p))
def xE (p:Pt):Fe:=cond (rotE p) (mulF p.y iF) p.x
def yE (p:Pt):Fe:=cond (rotE p) (mulF p.x iF) p.y
def denE (p:Pt):Fe:=cond (rotE p) (mulF (mulF (invE p) (u1E p)) (fe cON)) (mulF (invE p) (u2E p))
def y2E (p:Pt):Fe:=cond (oddF (mulF (xE p) (ziE p))) (subF f0 (yE p)) (yE p)
def bytesF (p:Pt):Fe:=absF (mulF (denE p) (subF p.z (y2E p)))
def sEBytes:Summ:={ T:=List Int,run:=runP1 fun p=>lo 32 (fv (bytesF p)%P25),enc:=eB32 }
def rEBytes:List AV->Option (List Int):=sEBytes.run
def samE (p q:Pt):Bool:=samF (mulF p.x q.y) (mulF p.y q.x) || samF (mulF p.y q.y) (mulF p.x q.x)
def sESam:Summ:={ T:=Bool,run:=runP2 samE,enc:=fun t=>.bool t }
def rESam:List AV->Option Bool:=sESam.run
def sENone:Summ:={ T:=Bool,run:=runP1 fun p=>samE p neutP,enc:=fun t=>.bool t }
def rENone:List AV->Option Bool:=sENone.run
def rH (t:Fe):Fe:=mulF iF (mulF t t)
def vH (t:Fe):Fe:=mulF (subF (subF f0 (fe 1)) (mulF (rH t) dF)) (addF (rH t) dF)
def uH (t:Fe):Fe:=mulF (addF (rH t) (fe 1)) (fe cMN)
def sqH (t:Fe):Bool:=(ratF (uH t) (vH t)).2
def sH (t:Fe):Fe:=cond (sqH t) (ratF (uH t) (vH t)).1 (subF f0 (absF (mulF (ratF (uH t) (vH t)).1 t)))
def cH (t:Fe):Fe:=cond (sqH t) (subF f0 (fe 1)) (rH t)
def nH (t:Fe):Fe:=subF (mulF (mulF (cH t) (subF (rH t) (fe 1))) (fe cDN)) (vH t)
def w0H (t:Fe):Fe:=mulF (addF (sH t) (sH t)) (vH t)
def w1H (t:Fe):Fe:=mulF (nH t) (fe cAN)
def w2H (t:Fe):Fe:=subF (fe 1) (mulF (sH t) (sH t))
def w3H (t:Fe):Fe:=addF (fe 1) (mulF (sH t) (sH t))
def halfF (t:Fe):Pt:=⟨mulF (w0H t) (w3H t),mulF (w2H t) (w1H t),mulF (w1H t) (w3H t),mulF (w0H t) (w2H t)⟩
def sEHalf:Summ:={ T:=Pt,run:=runB1 fun a=>halfF (looF a),enc:=eP }
def rEHalf:List AV->Option Pt:=sEHalf.run
def g_RiO:Cg:=⟨⟨gam [],[],noE⟩,[]⟩
theorem RiO_ev (fu:Nat) (p:Pt):afunc prog fF47 g_RiO fu [eP p]=some (AV.agg (.ints .u64 [(↑p.x.a:Int),(↑p.x.b:Int),(↑p.x.c:Int),(↑p.x.d:Int),(↑p.x.e:Int),(↑p.y.a:Int),(↑p.y.b:Int),(↑p.y.c:Int),(↑p.y.d:Int),(↑p.y.e:Int),(↑p.z.a:Int),(↑p.z.b:Int),(↑p.z.c:Int),(↑p.z.d:Int),(↑p.z.e:Int),(↑p.t.a:Int),(↑p.t.b:Int),(↑p.t.c:Int),(↑p.t.d:Int),(↑p.t.e:Int)]) 20):=by kernel_rfl
section
variable (T0:Type) (R0:List AV->Option T0) (f0a:T0->List Int) (T1:Type) (R1:List AV->Option T1) (f1a:T1->List Int)
def g_RiB:Cg:=⟨⟨gam [(nF72,⟨R0,fun t=>AV.agg (.ints .u64 (f0a t)) 20⟩),(nF47,⟨R1,fun t=>AV.agg (.ints .u64 (f1a t)) 20⟩)],[],noE⟩,[]⟩
theorem RiB_ev (fu:Nat):afunc prog fF22 (g_RiB T0 R0 f0a T1 R1 f1a) fu []=(R0 []).bind fun t=>(R1 [.agg (.ints .u64 (f0a t)) 20]).bind fun t=>some (AV.agg (.ints .u64 (f1a t)) 20):=by kernel_rfl
end
section
variable (T0:Type) (R0:List AV->Option T0) (f0a:T0->List Int) (T1:Type) (R1:List AV->Option T1) (f1a:T1->List Int)
def g_RiI:Cg:=⟨⟨gam [(nF98,⟨R0,fun t=>AV.agg (.ints .u64 (f0a t)) 20⟩),(nF47,⟨R1,fun t=>AV.agg (.ints .u64 (f1a t)) 20⟩)],[],noE⟩,[]⟩
theorem RiI_ev (fu:Nat):afunc prog fF52 (g_RiI T0 R0 f0a T1 R1 f1a) fu []=(R0 []).bind fun t=>(R1 [.agg (.ints .u64 (f0a t)) 20]).bind fun t=>some (AV.agg (.ints .u64 (f1a t)) 20):=by kernel_rfl
end
section
variable (T0:Type) (R0:List AV->Option T0) (f0a f0b f0c f0d f0e:T0->Int)
def g_RiN:Cg:=⟨⟨gam [(nF84,⟨R0,fun t=>AV.agg (.ints .u64 [(f0a t),(f0b t),(f0c t),(f0d t),(f0e t)]) 5⟩)],[],noE⟩,[]⟩
theorem RiN_ev (fu:Nat) (s:Str):afunc prog fF42 (g_RiN T0 R0 f0a f0b f0c f0d f0e) fu [.str s]=(R0 [.str s]).bind fun t=>some (AV.agg (.ints .u64 [f0a t,f0b t,f0c t,f0d t,f0e t]) 5):=by kernel_rfl
end
section
variable (T0:Type) (R0:List AV->Option T0) (f0a:T0->List Int) (T1:Type) (R1:List AV->Option T1) (f1a:T1->List Int)
def g_RiA:Cg:=⟨⟨gam [(nF60,⟨R0,fun t=>AV.agg (.ints .u64 (f0a t)) 20⟩),(nF47,⟨R1,fun t=>AV.agg (.ints .u64 (f1a t)) 20⟩)],[],noE⟩,[]⟩
theorem RiA_ev (fu:Nat) (p q:Pt):afunc prog fF16 (g_RiA T0 R0 f0a T1 R1 f1a) fu [eP p,eP q]=(R0 [.agg (.ints .u64 [(↑p.x.a:Int),(↑p.x.b:Int),(↑p.x.c:Int),(↑p.x.d:Int),(↑p.x.e:Int),(↑p.y.a:Int),(↑p.y.b:Int),(↑p.y.c:Int),(↑p.y.d:Int),(↑p.y.e:Int),(↑p.z.a:Int),(↑p.z.b:Int),(↑p.z.c:Int),(↑p.z.d:Int),(↑p.z.e:Int),(↑p.t.a:Int),(↑p.t.b:Int),(↑p.t.c:Int),(↑p.t.d:Int),(↑p.t.e:Int)]) 20,.agg (.ints .u64 [(↑q.x.a:Int),(↑q.x.b:Int),(↑q.x.c:Int),(↑q.x.d:Int),(↑q.x.e:Int),(↑q.y.a:Int),(↑q.y.b:Int),(↑q.y.c:Int),(↑q.y.d:Int),(↑q.y.e:Int),(↑q.z.a:Int),(↑q.z.b:Int),(↑q.z.c:Int),(↑q.z.d:Int),(↑q.z.e:Int),(↑q.t.a:Int),(↑q.t.b:Int),(↑q.t.c:Int),(↑q.t.d:Int),(↑q.t.e:Int)]) 20]).bind fun t=>(R1 [.agg (.ints .u64 (f0a t)) 20]).bind fun t=>some (AV.agg (.ints .u64 (f1a t)) 20):=by kernel_rfl
end
section
variable (T0:Type) (R0:List AV->Option T0) (f0a:T0->List Int) (T1:Type) (R1:List AV->Option T1) (f1a:T1->List Int)
def g_RiT:Cg:=⟨⟨gam [(nF73,⟨R0,fun t=>AV.agg (.ints .u64 (f0a t)) 20⟩),(nF47,⟨R1,fun t=>AV.agg (.ints .u64 (f1a t)) 20⟩)],[],noE⟩,[]⟩
theorem RiT_ev (fu:Nat) (p:Pt) (a:List Int):afunc prog fF23 (g_RiT T0 R0 f0a T1 R1 f1a) fu [eP p,W8 a]=(R0 [.agg (.ints .u64 [(↑p.x.a:Int),(↑p.x.b:Int),(↑p.x.c:Int),(↑p.x.d:Int),(↑p.x.e:Int),(↑p.y.a:Int),(↑p.y.b:Int),(↑p.y.c:Int),(↑p.y.d:Int),(↑p.y.e:Int),(↑p.z.a:Int),(↑p.z.b:Int),(↑p.z.c:Int),(↑p.z.d:Int),(↑p.z.e:Int),(↑p.t.a:Int),(↑p.t.b:Int),(↑p.t.c:Int),(↑p.t.d:Int),(↑p.t.e:Int)]) 20,.agg (.ints .u64 a) 8]).bind fun t=>(R1 [.agg (.ints .u64 (f0a t)) 20]).bind fun t=>some (AV.agg (.ints .u64 (f1a t)) 20):=by kernel_rfl
end
section
variable (T0:Type) (R0:List AV->Option T0) (f0a f0b f0c f0d:T0->List Int) (T1:Type) (R1:List AV->Option T1) (f1a f1b f1c f1d f1e:T1->Int) (T2:Type) (R2:List AV->Option T2) (f2a:T2->Bool)
def g_RiS:Cg:=⟨⟨gam [(nF54,⟨R0,fun t=>AV.tup [.s (.pl (.agg (.ints .u64 (f0a t)) 5)),.s (.pl (.agg (.ints .u64 (f0b t)) 5)),.s (.pl (.agg (.ints .u64 (f0c t)) 5)),.s (.pl (.agg (.ints .u64 (f0d t)) 5))]⟩),(nF39,⟨R1,fun t=>AV.agg (.ints .u64 [(f1a t),(f1b t),(f1c t),(f1d t),(f1e t)]) 5⟩),(nF90,⟨R2,fun t=>AV.bool (f2a t)⟩)],[],noE⟩,[]⟩
theorem RiS_ev (fu:Nat) (p q:Pt):afunc prog fF51 (g_RiS T0 R0 f0a f0b f0c f0d T1 R1 f1a f1b f1c f1d f1e T2 R2 f2a) fu [eP p,eP q]=(R0 [.agg (.ints .u64 [(↑p.x.a:Int),(↑p.x.b:Int),(↑p.x.c:Int),(↑p.x.d:Int),(↑p.x.e:Int),(↑p.y.a:Int),(↑p.y.b:Int),(↑p.y.c:Int),(↑p.y.d:Int),(↑p.y.e:Int),(↑p.z.a:Int),(↑p.z.b:Int),(↑p.z.c:Int),(↑p.z.d:Int),(↑p.z.e:Int),(↑p.t.a:Int),(↑p.t.b:Int),(↑p.t.c:Int),(↑p.t.d:Int),(↑p.t.e:Int)]) 20]).bind fun t=>(R0 [.agg (.ints .u64 [(↑q.x.a:Int),(↑q.x.b:Int),(↑q.x.c:Int),(↑q.x.d:Int),(↑q.x.e:Int),(↑q.y.a:Int),(↑q.y.b:Int),(↑q.y.c:Int),(↑q.y.d:Int),(↑q.y.e:Int),(↑q.z.a:Int),(↑q.z.b:Int),(↑q.z.c:Int),(↑q.z.d:Int),(↑q.z.e:Int),(↑q.t.a:Int),(↑q.t.b:Int),(↑q.t.c:Int),(↑q.t.d:Int),(↑q.t.e:Int)]) 20]).bind fun t_1=>(R1 [.agg (.ints .u64 (f0a t)) 5,.agg (.ints .u64 (f0b t_1)) 5]).bind fun t_2=>(R1 [.agg (.ints .u64 (f0b t)) 5,.agg (.ints .u64 (f0a t_1)) 5]).bind fun t_3=>(R2 [.agg (.ints .u64 [f1a t_2,f1b t_2,f1c t_2,f1d t_2,f1e t_2]) 5,.agg (.ints .u64 [f1a t_3,f1b t_3,f1c t_3,f1d t_3,f1e t_3]) 5]).bind fun t_4=>bif f2a t_4 then some (AV.bool true) else (R1 [.agg (.ints .u64 (f0b t)) 5,.agg (.ints .u64 (f0b t_1)) 5]).bind fun t_5=>(R1 [.agg (.ints .u64 (f0a t)) 5,.agg (.ints .u64 (f0a t_1)) 5]).bind fun t=>(R2 [.agg (.ints .u64 [f1a t_5,f1b t_5,f1c t_5,f1d t_5,f1e t_5]) 5,.agg (.ints .u64 [f1a t,f1b t,f1c t,f1d t,f1e t]) 5]).bind fun t=>some (AV.bool (f2a t)):=by kernel_rfl
end
section
variable (T0:Type) (R0:List AV->Option T0) (f0a:T0->List Int) (T1:Type) (R1:List AV->Option T1) (f1a:T1->Bool)
def g_RiZ:Cg:=⟨⟨gam [(nF52,⟨R0,fun t=>AV.agg (.ints .u64 (f0a t)) 20⟩),(nF51,⟨R1,fun t=>AV.bool (f1a t)⟩)],[],noE⟩,[]⟩
theorem RiZ_ev (fu:Nat) (p:Pt):afunc prog fF11 (g_RiZ T0 R0 f0a T1 R1 f1a) fu [eP p]=(R0 []).bind fun t=>(R1 [.agg (.ints .u64 [(↑p.x.a:Int),(↑p.x.b:Int),(↑p.x.c:Int),(↑p.x.d:Int),(↑p.x.e:Int),(↑p.y.a:Int),(↑p.y.b:Int),(↑p.y.c:Int),(↑p.y.d:Int),(↑p.y.e:Int),(↑p.z.a:Int),(↑p.z.b:Int),(↑p.z.c:Int),(↑p.z.d:Int),(↑p.z.e:Int),(↑p.t.a:Int),(↑p.t.b:Int),(↑p.t.c:Int),(↑p.t.d:Int),(↑p.t.e:Int)]) 20,.agg (.ints .u64 (f0a t)) 20]).bind fun t=>some (AV.bool (f1a t)):=by kernel_rfl
end
section
variable (T0:Type) (R0:List AV->Option T0) (f0a f0b f0c f0d:T0->List Int) (T1:Type) (R1:List AV->Option T1) (f1a f1b f1c f1d f1e:T1->Int) (T2:Type) (R2:List AV->Option T2) (f2a f2b f2c f2d f2e:T2->Int) (T3:Type) (R3:List AV->Option T3) (f3a f3b f3c f3d f3e:T3->Int) (T4:Type) (R4:List AV->Option T4) (f4a f4b f4c f4d f4e:T4->Int) (T5:Type) (R5:List AV->Option T5) (f5a f5b f5c f5d f5e:T5->Int) (T6:Type) (R6:List AV->Option T6) (f6a f6b f6c f6d f6e:T6->Int) (f6f:T6->Bool) (T7:Type) (R7:List AV->Option T7) (f7a:T7->Bool) (T8:Type) (R8:List AV->Option T8) (T9:Type) (R9:List AV->Option T9) (f9a f9b f9c f9d f9e:T9->Int) (T10:Type) (R10:List AV->Option T10) (f10a f10b f10c f10d f10e:T10->Int) (T11:Type) (R11:List AV->Option T11) (f11a f11b f11c f11d f11e:T11->Int) (T12:Type) (R12:List AV->Option T12) (f12a:T12->List Int)
def g_RiY:Cg:=⟨⟨gam [(nF54,⟨R0,fun t=>AV.tup [.s (.pl (.agg (.ints .u64 (f0a t)) 5)),.s (.pl (.agg (.ints .u64 (f0b t)) 5)),.s (.pl (.agg (.ints .u64 (f0c t)) 5)),.s (.pl (.agg (.ints .u64 (f0d t)) 5))]⟩),(nF41,⟨R1,fun t=>AV.agg (.ints .u64 [(f1a t),(f1b t),(f1c t),(f1d t),(f1e t)]) 5⟩),(nF44,⟨R2,fun t=>AV.agg (.ints .u64 [(f2a t),(f2b t),(f2c t),(f2d t),(f2e t)]) 5⟩),(nF39,⟨R3,fun t=>AV.agg (.ints .u64 [(f3a t),(f3b t),(f3c t),(f3d t),(f3e t)]) 5⟩),(nF35,⟨R4,fun t=>AV.agg (.ints .u64 [(f4a t),(f4b t),(f4c t),(f4d t),(f4e t)]) 5⟩),(nF40,⟨R5,fun t=>AV.agg (.ints .u64 [(f5a t),(f5b t),(f5c t),(f5d t),(f5e t)]) 5⟩),(nF45,⟨R6,fun t=>AV.tup [.s (.pl (.agg (.ints .u64 [(f6a t),(f6b t),(f6c t),(f6d t),(f6e t)]) 5)),.s (.pl (.bool (f6f t)))]⟩),(nF55,⟨R7,fun t=>AV.bool (f7a t)⟩),(nF38,⟨R8,fun t=>eF iF⟩),(nF42,⟨R9,fun t=>AV.agg (.ints .u64 [(f9a t),(f9b t),(f9c t),(f9d t),(f9e t)]) 5⟩),(nF43,⟨R10,fun t=>AV.agg (.ints .u64 [(f10a t),(f10b t),(f10c t),(f10d t),(f10e t)]) 5⟩),(nF46,⟨R11,fun t=>AV.agg (.ints .u64 [(f11a t),(f11b t),(f11c t),(f11d t),(f11e t)]) 5⟩),(nF56,⟨R12,fun t=>AV.agg (.ints .u8 (f12a t)) 32⟩)],[],noE⟩,[]⟩
theorem RiY_ev (fu:Nat) (p:Pt):afunc prog fF13 (g_RiY T0 R0 f0a f0b f0c f0d T1 R1 f1a f1b f1c f1d f1e T2 R2 f2a f2b f2c f2d f2e T3 R3 f3a f3b f3c f3d f3e T4 R4 f4a f4b f4c f4d f4e T5 R5 f5a f5b f5c f5d f5e T6 R6 f6a f6b f6c f6d f6e f6f T7 R7 f7a T8 R8 T9 R9 f9a f9b f9c f9d f9e T10 R10 f10a f10b f10c f10d f10e T11 R11 f11a f11b f11c f11d f11e T12 R12 f12a) fu [eP p]=(R0 [.agg (.ints .u64 [(↑p.x.a:Int),(↑p.x.b:Int),(↑p.x.c:Int),(↑p.x.d:Int),(↑p.x.e:Int),(↑p.y.a:Int),(↑p.y.b:Int),(↑p.y.c:Int),(↑p.y.d:Int),(↑p.y.e:Int),(↑p.z.a:Int),(↑p.z.b:Int),(↑p.z.c:Int),(↑p.z.d:Int),(↑p.z.e:Int),(↑p.t.a:Int),(↑p.t.b:Int),(↑p.t.c:Int),(↑p.t.d:Int),(↑p.t.e:Int)]) 20]).bind fun t=>(R1 [.agg (.ints .u64 (f0c t)) 5,.agg (.ints .u64 (f0b t)) 5]).bind fun t_1=>(R2 [.agg (.ints .u64 (f0c t)) 5,.agg (.ints .u64 (f0b t)) 5]).bind fun t_2=>(R3 [.agg (.ints .u64 [f1a t_1,f1b t_1,f1c t_1,f1d t_1,f1e t_1]) 5,.agg (.ints .u64 [f2a t_2,f2b t_2,f2c t_2,f2d t_2,f2e t_2]) 5]).bind fun t_3=>(R3 [.agg (.ints .u64 (f0a t)) 5,.agg (.ints .u64 (f0b t)) 5]).bind fun t_4=>(R4 [.int .u64 (1:Int)]).bind fun t_5=>(R5 [.agg (.ints .u64 [f3a t_4,f3b t_4,f3c t_4,f3d t_4,f3e t_4]) 5]).bind fun t_6=>(R3 [.agg (.ints .u64 [f3a t_3,f3b t_3,f3c t_3,f3d t_3,f3e t_3]) 5,.agg (.ints .u64 [f5a t_6,f5b t_6,f5c t_6,f5d t_6,f5e t_6]) 5]).bind fun t_7=>(R6 [.agg (.ints .u64 [f4a t_5,f4b t_5,f4c t_5,f4d t_5,f4e t_5]) 5,.agg (.ints .u64 [f3a t_7,f3b t_7,f3c t_7,f3d t_7,f3e t_7]) 5]).bind fun t_8=>(R3 [.agg (.ints .u64 [f6a t_8,f6b t_8,f6c t_8,f6d t_8,f6e t_8]) 5,.agg (.ints .u64 [f3a t_3,f3b t_3,f3c t_3,f3d t_3,f3e t_3]) 5]).bind fun t_9=>(R3 [.agg (.ints .u64 [f6a t_8,f6b t_8,f6c t_8,f6d t_8,f6e t_8]) 5,.agg (.ints .u64 [f3a t_4,f3b t_4,f3c t_4,f3d t_4,f3e t_4]) 5]).bind fun t_10=>(R3 [.agg (.ints .u64 [f3a t_9,f3b t_9,f3c t_9,f3d t_9,f3e t_9]) 5,.agg (.ints .u64 [f3a t_10,f3b t_10,f3c t_10,f3d t_10,f3e t_10]) 5]).bind fun t_11=>(R3 [.agg (.ints .u64 [f3a t_11,f3b t_11,f3c t_11,f3d t_11,f3e t_11]) 5,.agg (.ints .u64 (f0d t)) 5]).bind fun t_12=>(R3 [.agg (.ints .u64 (f0d t)) 5,.agg (.ints .u64 [f3a t_12,f3b t_12,f3c t_12,f3d t_12,f3e t_12]) 5]).bind fun t_13=>(R7 [.agg (.ints .u64 [f3a t_13,f3b t_13,f3c t_13,f3d t_13,f3e t_13]) 5]).bind fun t_14=>bif f7a t_14 then (R8 []).bind fun t_15=>(R3 [.agg (.ints .u64 (f0b t)) 5,.agg (.ints .u64 [(1718705420411056:Int),234908883556509,2233514472574048,2117202627021982,765476049583133]) 5]).bind fun t_16=>(R3 [.agg (.ints .u64 (f0a t)) 5,.agg (.ints .u64 [(1718705420411056:Int),234908883556509,2233514472574048,2117202627021982,765476049583133]) 5]).bind fun t_17=>(R9 [.str ([(53:UInt8),52,52,54,57,51,48,55,48,48,56,57,48,57,51,49,54,57,50,48,57,57,53,56,49,51,56,54,56,55,52,53,49,52,49,54,48,53].append [(51:UInt8),57,51,53,57,55,50,57,50,57,50,55,52,53,54,57,50,49,50,48,53,51,49,50,56,57,54,51,49,49,55,50,49,48,49,55,53,55,56])]).bind fun t_18=>(R3 [.agg (.ints .u64 [f3a t_9,f3b t_9,f3c t_9,f3d t_9,f3e t_9]) 5,.agg (.ints .u64 [f9a t_18,f9b t_18,f9c t_18,f9d t_18,f9e t_18]) 5]).bind fun t_19=>(R3 [.agg (.ints .u64 [f3a t_16,f3b t_16,f3c t_16,f3d t_16,f3e t_16]) 5,.agg (.ints .u64 [f3a t_12,f3b t_12,f3c t_12,f3d t_12,f3e t_12]) 5]).bind fun t_20=>(R7 [.agg (.ints .u64 [f3a t_20,f3b t_20,f3c t_20,f3d t_20,f3e t_20]) 5]).bind fun t_21=>bif f7a t_21 then (R10 [.agg (.ints .u64 [f3a t_17,f3b t_17,f3c t_17,f3d t_17,f3e t_17]) 5]).bind fun t_22=>(R2 [.agg (.ints .u64 (f0c t)) 5,.agg (.ints .u64 [f10a t_22,f10b t_22,f10c t_22,f10d t_22,f10e t_22]) 5]).bind fun t=>(R3 [.agg (.ints .u64 [f3a t_19,f3b t_19,f3c t_19,f3d t_19,f3e t_19]) 5,.agg (.ints .u64 [f2a t,f2b t,f2c t,f2d t,f2e t]) 5]).bind fun t=>(R11 [.agg (.ints .u64 [f3a t,f3b t,f3c t,f3d t,f3e t]) 5]).bind fun t=>(R12 [.agg (.ints .u64 [f11a t,f11b t,f11c t,f11d t,f11e t]) 5]).bind fun t=>some (AV.agg (.ints .u8 (f12a t)) 32) else (R2 [.agg (.ints .u64 (f0c t)) 5,.agg (.ints .u64 [f3a t_17,f3b t_17,f3c t_17,f3d t_17,f3e t_17]) 5]).bind fun t=>(R3 [.agg (.ints .u64 [f3a t_19,f3b t_19,f3c t_19,f3d t_19,f3e t_19]) 5,.agg (.ints .u64 [f2a t,f2b t,f2c t,f2d t,f2e t]) 5]).bind fun t=>(R11 [.agg (.ints .u64 [f3a t,f3b t,f3c t,f3d t,f3e t]) 5]).bind fun t=>(R12 [.agg (.ints .u64 [f11a t,f11b t,f11c t,f11d t,f11e t]) 5]).bind fun t=>some (AV.agg (.ints .u8 (f12a t)) 32) else (R3 [.agg (.ints .u64 (f0a t)) 5,.agg (.ints .u64 [f3a t_12,f3b t_12,f3c t_12,f3d t_12,f3e t_12]) 5]).bind fun t_15=>(R7 [.agg (.ints .u64 [f3a t_15,f3b t_15,f3c t_15,f3d t_15,f3e t_15]) 5]).bind fun t_16=>bif f7a t_16 then (R10 [.agg (.ints .u64 (f0b t)) 5]).bind fun t_17=>(R2 [.agg (.ints .u64 (f0c t)) 5,.agg (.ints .u64 [f10a t_17,f10b t_17,f10c t_17,f10d t_17,f10e t_17]) 5]).bind fun t=>(R3 [.agg (.ints .u64 [f3a t_10,f3b t_10,f3c t_10,f3d t_10,f3e t_10]) 5,.agg (.ints .u64 [f2a t,f2b t,f2c t,f2d t,f2e t]) 5]).bind fun t=>(R11 [.agg (.ints .u64 [f3a t,f3b t,f3c t,f3d t,f3e t]) 5]).bind fun t=>(R12 [.agg (.ints .u64 [f11a t,f11b t,f11c t,f11d t,f11e t]) 5]).bind fun t=>some (AV.agg (.ints .u8 (f12a t)) 32) else (R2 [.agg (.ints .u64 (f0c t)) 5,.agg (.ints .u64 (f0b t)) 5]).bind fun t=>(R3 [.agg (.ints .u64 [f3a t_10,f3b t_10,f3c t_10,f3d t_10,f3e t_10]) 5,.agg (.ints .u64 [f2a t,f2b t,f2c t,f2d t,f2e t]) 5]).bind fun t=>(R11 [.agg (.ints .u64 [f3a t,f3b t,f3c t,f3d t,f3e t]) 5]).bind fun t=>(R12 [.agg (.ints .u64 [f11a t,f11b t,f11c t,f11d t,f11e t]) 5]).bind fun t=>some (AV.agg (.ints .u8 (f12a t)) 32):=by kernel_rfl
end
section
variable (T0:Type) (R0:List AV->Option T0) (f0a f0b f0c f0d f0e:T0->Int) (T1:Type) (R1:List AV->Option T1) (T2:Type) (R2:List AV->Option T2) (f2a f2b f2c f2d f2e:T2->Int) (T3:Type) (R3:List AV->Option T3) (T4:Type) (R4:List AV->Option T4) (f4a f4b f4c f4d f4e:T4->Int) (T5:Type) (R5:List AV->Option T5) (f5a f5b f5c f5d f5e:T5->Int) (T6:Type) (R6:List AV->Option T6) (f6a f6b f6c f6d f6e:T6->Int) (T7:Type) (R7:List AV->Option T7) (f7a f7b f7c f7d f7e:T7->Int) (T8:Type) (R8:List AV->Option T8) (f8a f8b f8c f8d f8e:T8->Int) (T9:Type) (R9:List AV->Option T9) (f9a f9b f9c f9d f9e:T9->Int) (T10:Type) (R10:List AV->Option T10) (f10a f10b f10c f10d f10e:T10->Int) (f10f:T10->Bool) (T11:Type) (R11:List AV->Option T11) (f11a f11b f11c f11d f11e:T11->Int) (T12:Type) (R12:List AV->Option T12) (f12a:T12->List Int) (T13:Type) (R13:List AV->Option T13) (f13a:T13->List Int)
def g_RiH:Cg:=⟨⟨gam [(nF35,⟨R0,fun t=>AV.agg (.ints .u64 [(f0a t),(f0b t),(f0c t),(f0d t),(f0e t)]) 5⟩),(nF36,⟨R1,fun t=>AV.agg (.ints .u64 ([929955233495203,466365720129213,1662059464998953,2033849074728123,1442794654840575])) 5⟩),(nF37,⟨R2,fun t=>AV.agg (.ints .u64 [(f2a t),(f2b t),(f2c t),(f2d t),(f2e t)]) 5⟩),(nF38,⟨R3,fun t=>eF iF⟩),(nF40,⟨R4,fun t=>AV.agg (.ints .u64 [(f4a t),(f4b t),(f4c t),(f4d t),(f4e t)]) 5⟩),(nF39,⟨R5,fun t=>AV.agg (.ints .u64 [(f5a t),(f5b t),(f5c t),(f5d t),(f5e t)]) 5⟩),(nF41,⟨R6,fun t=>AV.agg (.ints .u64 [(f6a t),(f6b t),(f6c t),(f6d t),(f6e t)]) 5⟩),(nF42,⟨R7,fun t=>AV.agg (.ints .u64 [(f7a t),(f7b t),(f7c t),(f7d t),(f7e t)]) 5⟩),(nF43,⟨R8,fun t=>AV.agg (.ints .u64 [(f8a t),(f8b t),(f8c t),(f8d t),(f8e t)]) 5⟩),(nF44,⟨R9,fun t=>AV.agg (.ints .u64 [(f9a t),(f9b t),(f9c t),(f9d t),(f9e t)]) 5⟩),(nF45,⟨R10,fun t=>AV.tup [.s (.pl (.agg (.ints .u64 [(f10a t),(f10b t),(f10c t),(f10d t),(f10e t)]) 5)),.s (.pl (.bool (f10f t)))]⟩),(nF46,⟨R11,fun t=>AV.agg (.ints .u64 [(f11a t),(f11b t),(f11c t),(f11d t),(f11e t)]) 5⟩),(nF48,⟨R12,fun t=>AV.agg (.ints .u64 (f12a t)) 20⟩),(nF47,⟨R13,fun t=>AV.agg (.ints .u64 (f13a t)) 20⟩)],[],noE⟩,[]⟩
theorem RiH_ev (fu:Nat) (a:List Int):afunc prog fF8 (g_RiH T0 R0 f0a f0b f0c f0d f0e T1 R1 T2 R2 f2a f2b f2c f2d f2e T3 R3 T4 R4 f4a f4b f4c f4d f4e T5 R5 f5a f5b f5c f5d f5e T6 R6 f6a f6b f6c f6d f6e T7 R7 f7a f7b f7c f7d f7e T8 R8 f8a f8b f8c f8d f8e T9 R9 f9a f9b f9c f9d f9e T10 R10 f10a f10b f10c f10d f10e f10f T11 R11 f11a f11b f11c f11d f11e T12 R12 f12a T13 R13 f13a) fu [.agg (.ints .u8 a) 32]=(R0 [.int .u64 (1:Int)]).bind fun t=>(R1 []).bind fun t_1=>(R2 [.agg (.ints .u8 a) 32]).bind fun t_2=>(R3 []).bind fun t_3=>(R4 [.agg (.ints .u64 [f2a t_2,f2b t_2,f2c t_2,f2d t_2,f2e t_2]) 5]).bind fun t_4=>(R5 [.agg (.ints .u64 [(1718705420411056:Int),234908883556509,2233514472574048,2117202627021982,765476049583133]) 5,.agg (.ints .u64 [f4a t_4,f4b t_4,f4c t_4,f4d t_4,f4e t_4]) 5]).bind fun t_5=>(R6 [.agg (.ints .u64 [f5a t_5,f5b t_5,f5c t_5,f5d t_5,f5e t_5]) 5,.agg (.ints .u64 [f0a t,f0b t,f0c t,f0d t,f0e t]) 5]).bind fun t_6=>(R7 [.str ([(49:UInt8),49,53,57,56,52,51,48,50,49,54,54,56,55,55,57,56,55,57,49,57,51,55,55,53,53,50,49,56,53,53,53,56,54,54,52,55,57].append [(51:UInt8),55,51,53,55,55,53,57,55,49,53,52,49,55,54,53,52,52,51,57,56,55,57,55,50,48,56,55,54,49,49,49,56,48,54,56,51,56])]).bind fun t_7=>(R5 [.agg (.ints .u64 [f6a t_6,f6b t_6,f6c t_6,f6d t_6,f6e t_6]) 5,.agg (.ints .u64 [f7a t_7,f7b t_7,f7c t_7,f7d t_7,f7e t_7]) 5]).bind fun t_8=>(R8 [.agg (.ints .u64 [f0a t,f0b t,f0c t,f0d t,f0e t]) 5]).bind fun t_9=>(R5 [.agg (.ints .u64 [f5a t_5,f5b t_5,f5c t_5,f5d t_5,f5e t_5]) 5,.agg (.ints .u64 [(929955233495203:Int),466365720129213,1662059464998953,2033849074728123,1442794654840575]) 5]).bind fun t_10=>(R9 [.agg (.ints .u64 [f8a t_9,f8b t_9,f8c t_9,f8d t_9,f8e t_9]) 5,.agg (.ints .u64 [f5a t_10,f5b t_10,f5c t_10,f5d t_10,f5e t_10]) 5]).bind fun t_11=>(R6 [.agg (.ints .u64 [f5a t_5,f5b t_5,f5c t_5,f5d t_5,f5e t_5]) 5,.agg (.ints .u64 [(929955233495203:Int),466365720129213,1662059464998953,2033849074728123,1442794654840575]) 5]).bind fun t_12=>(R5 [.agg (.ints .u64 [f9a t_11,f9b t_11,f9c t_11,f9d t_11,f9e t_11]) 5,.agg (.ints .u64 [f6a t_12,f6b t_12,f6c t_12,f6d t_12,f6e t_12]) 5]).bind fun t_13=>(R10 [.agg (.ints .u64 [f5a t_8,f5b t_8,f5c t_8,f5d t_8,f5e t_8]) 5,.agg (.ints .u64 [f5a t_13,f5b t_13,f5c t_13,f5d t_13,f5e t_13]) 5]).bind fun t_14=>(R8 [.agg (.ints .u64 [f0a t,f0b t,f0c t,f0d t,f0e t]) 5]).bind fun t_15=>bif !f10f t_14 then (R5 [.agg (.ints .u64 [f10a t_14,f10b t_14,f10c t_14,f10d t_14,f10e t_14]) 5,.agg (.ints .u64 [f2a t_2,f2b t_2,f2c t_2,f2d t_2,f2e t_2]) 5]).bind fun t_16=>(R11 [.agg (.ints .u64 [f5a t_16,f5b t_16,f5c t_16,f5d t_16,f5e t_16]) 5]).bind fun t_17=>(R8 [.agg (.ints .u64 [f11a t_17,f11b t_17,f11c t_17,f11d t_17,f11e t_17]) 5]).bind fun t_18=>(R9 [.agg (.ints .u64 [f5a t_5,f5b t_5,f5c t_5,f5d t_5,f5e t_5]) 5,.agg (.ints .u64 [f0a t,f0b t,f0c t,f0d t,f0e t]) 5]).bind fun t_19=>(R5 [.agg (.ints .u64 [f5a t_5,f5b t_5,f5c t_5,f5d t_5,f5e t_5]) 5,.agg (.ints .u64 [f9a t_19,f9b t_19,f9c t_19,f9d t_19,f9e t_19]) 5]).bind fun t_20=>(R7 [.str ([(52:UInt8),48,52,52,48,56,51,52,51,52,54,51,48,56,53,51,54,56,53,56,49,48,49,48,52,50,52,54,57,51,50,51,49,57,48,56,50,54].append [(50:UInt8),52,56,51,57,57,49,52,54,50,51,56,55,48,56,51,53,50,50,52,48,49,51,51,50,50,48,56,54,53,49,51,55,50,54,53,57,53,50])]).bind fun t_21=>(R5 [.agg (.ints .u64 [f5a t_20,f5b t_20,f5c t_20,f5d t_20,f5e t_20]) 5,.agg (.ints .u64 [f7a t_21,f7b t_21,f7c t_21,f7d t_21,f7e t_21]) 5]).bind fun t_22=>(R9 [.agg (.ints .u64 [f5a t_22,f5b t_22,f5c t_22,f5d t_22,f5e t_22]) 5,.agg (.ints .u64 [f5a t_13,f5b t_13,f5c t_13,f5d t_13,f5e t_13]) 5]).bind fun t_23=>(R4 [.agg (.ints .u64 [f8a t_18,f8b t_18,f8c t_18,f8d t_18,f8e t_18]) 5]).bind fun t_24=>(R6 [.agg (.ints .u64 [f8a t_18,f8b t_18,f8c t_18,f8d t_18,f8e t_18]) 5,.agg (.ints .u64 [f8a t_18,f8b t_18,f8c t_18,f8d t_18,f8e t_18]) 5]).bind fun t_25=>(R5 [.agg (.ints .u64 [f6a t_25,f6b t_25,f6c t_25,f6d t_25,f6e t_25]) 5,.agg (.ints .u64 [f5a t_13,f5b t_13,f5c t_13,f5d t_13,f5e t_13]) 5]).bind fun t_26=>(R7 [.str ([(50:UInt8),53,48,54,51,48,54,56,57,53,51,51,56,52,54,50,51,52,55,52,49,49,49,52,49,52,49,53,56,55,48,50,49,53,50,55,48,49].append [(50:UInt8),52,52,53,51,49,53,48,50,52,57,50,54,53,54,52,54,48,48,55,57,50,49,48,52,56,50,54,49,48,52,51,48,55,53,48,50,51,53])]).bind fun t_27=>(R5 [.agg (.ints .u64 [f9a t_23,f9b t_23,f9c t_23,f9d t_23,f9e t_23]) 5,.agg (.ints .u64 [f7a t_27,f7b t_27,f7c t_27,f7d t_27,f7e t_27]) 5]).bind fun t_28=>(R9 [.agg (.ints .u64 [f0a t,f0b t,f0c t,f0d t,f0e t]) 5,.agg (.ints .u64 [f4a t_24,f4b t_24,f4c t_24,f4d t_24,f4e t_24]) 5]).bind fun t_29=>(R6 [.agg (.ints .u64 [f0a t,f0b t,f0c t,f0d t,f0e t]) 5,.agg (.ints .u64 [f4a t_24,f4b t_24,f4c t_24,f4d t_24,f4e t_24]) 5]).bind fun t=>(R5 [.agg (.ints .u64 [f5a t_26,f5b t_26,f5c t_26,f5d t_26,f5e t_26]) 5,.agg (.ints .u64 [f6a t,f6b t,f6c t,f6d t,f6e t]) 5]).bind fun t_30=>(R5 [.agg (.ints .u64 [f9a t_29,f9b t_29,f9c t_29,f9d t_29,f9e t_29]) 5,.agg (.ints .u64 [f5a t_28,f5b t_28,f5c t_28,f5d t_28,f5e t_28]) 5]).bind fun t_31=>(R5 [.agg (.ints .u64 [f5a t_28,f5b t_28,f5c t_28,f5d t_28,f5e t_28]) 5,.agg (.ints .u64 [f6a t,f6b t,f6c t,f6d t,f6e t]) 5]).bind fun t=>(R5 [.agg (.ints .u64 [f5a t_26,f5b t_26,f5c t_26,f5d t_26,f5e t_26]) 5,.agg (.ints .u64 [f9a t_29,f9b t_29,f9c t_29,f9d t_29,f9e t_29]) 5]).bind fun t_32=>(R12 [.agg (.ints .u64 [f5a t_30,f5b t_30,f5c t_30,f5d t_30,f5e t_30]) 5,.agg (.ints .u64 [f5a t_31,f5b t_31,f5c t_31,f5d t_31,f5e t_31]) 5,.agg (.ints .u64 [f5a t,f5b t,f5c t,f5d t,f5e t]) 5,.agg (.ints .u64 [f5a t_32,f5b t_32,f5c t_32,f5d t_32,f5e t_32]) 5]).bind fun t=>(R13 [.agg (.ints .u64 (f12a t)) 20]).bind fun t=>some (AV.agg (.ints .u64 (f13a t)) 20) else (R9 [.agg (.ints .u64 [f5a t_5,f5b t_5,f5c t_5,f5d t_5,f5e t_5]) 5,.agg (.ints .u64 [f0a t,f0b t,f0c t,f0d t,f0e t]) 5]).bind fun t_16=>(R5 [.agg (.ints .u64 [f8a t_15,f8b t_15,f8c t_15,f8d t_15,f8e t_15]) 5,.agg (.ints .u64 [f9a t_16,f9b t_16,f9c t_16,f9d t_16,f9e t_16]) 5]).bind fun t_17=>(R7 [.str ([(52:UInt8),48,52,52,48,56,51,52,51,52,54,51,48,56,53,51,54,56,53,56,49,48,49,48,52,50,52,54,57,51,50,51,49,57,48,56,50,54].append [(50:UInt8),52,56,51,57,57,49,52,54,50,51,56,55,48,56,51,53,50,50,52,48,49,51,51,50,50,48,56,54,53,49,51,55,50,54,53,57,53,50])]).bind fun t_18=>(R5 [.agg (.ints .u64 [f5a t_17,f5b t_17,f5c t_17,f5d t_17,f5e t_17]) 5,.agg (.ints .u64 [f7a t_18,f7b t_18,f7c t_18,f7d t_18,f7e t_18]) 5]).bind fun t_19=>(R9 [.agg (.ints .u64 [f5a t_19,f5b t_19,f5c t_19,f5d t_19,f5e t_19]) 5,.agg (.ints .u64 [f5a t_13,f5b t_13,f5c t_13,f5d t_13,f5e t_13]) 5]).bind fun t_20=>(R4 [.agg (.ints .u64 [f10a t_14,f10b t_14,f10c t_14,f10d t_14,f10e t_14]) 5]).bind fun t_21=>(R6 [.agg (.ints .u64 [f10a t_14,f10b t_14,f10c t_14,f10d t_14,f10e t_14]) 5,.agg (.ints .u64 [f10a t_14,f10b t_14,f10c t_14,f10d t_14,f10e t_14]) 5]).bind fun t_22=>(R5 [.agg (.ints .u64 [f6a t_22,f6b t_22,f6c t_22,f6d t_22,f6e t_22]) 5,.agg (.ints .u64 [f5a t_13,f5b t_13,f5c t_13,f5d t_13,f5e t_13]) 5]).bind fun t_23=>(R7 [.str ([(50:UInt8),53,48,54,51,48,54,56,57,53,51,51,56,52,54,50,51,52,55,52,49,49,49,52,49,52,49,53,56,55,48,50,49,53,50,55,48,49].append [(50:UInt8),52,52,53,51,49,53,48,50,52,57,50,54,53,54,52,54,48,48,55,57,50,49,48,52,56,50,54,49,48,52,51,48,55,53,48,50,51,53])]).bind fun t_24=>(R5 [.agg (.ints .u64 [f9a t_20,f9b t_20,f9c t_20,f9d t_20,f9e t_20]) 5,.agg (.ints .u64 [f7a t_24,f7b t_24,f7c t_24,f7d t_24,f7e t_24]) 5]).bind fun t_25=>(R9 [.agg (.ints .u64 [f0a t,f0b t,f0c t,f0d t,f0e t]) 5,.agg (.ints .u64 [f4a t_21,f4b t_21,f4c t_21,f4d t_21,f4e t_21]) 5]).bind fun t_26=>(R6 [.agg (.ints .u64 [f0a t,f0b t,f0c t,f0d t,f0e t]) 5,.agg (.ints .u64 [f4a t_21,f4b t_21,f4c t_21,f4d t_21,f4e t_21]) 5]).bind fun t=>(R5 [.agg (.ints .u64 [f5a t_23,f5b t_23,f5c t_23,f5d t_23,f5e t_23]) 5,.agg (.ints .u64 [f6a t,f6b t,f6c t,f6d t,f6e t]) 5]).bind fun t_27=>(R5 [.agg (.ints .u64 [f9a t_26,f9b t_26,f9c t_26,f9d t_26,f9e t_26]) 5,.agg (.ints .u64 [f5a t_25,f5b t_25,f5c t_25,f5d t_25,f5e t_25]) 5]).bind fun t_28=>(R5 [.agg (.ints .u64 [f5a t_25,f5b t_25,f5c t_25,f5d t_25,f5e t_25]) 5,.agg (.ints .u64 [f6a t,f6b t,f6c t,f6d t,f6e t]) 5]).bind fun t=>(R5 [.agg (.ints .u64 [f5a t_23,f5b t_23,f5c t_23,f5d t_23,f5e t_23]) 5,.agg (.ints .u64 [f9a t_26,f9b t_26,f9c t_26,f9d t_26,f9e t_26]) 5]).bind fun t_29=>(R12 [.agg (.ints .u64 [f5a t_27,f5b t_27,f5c t_27,f5d t_27,f5e t_27]) 5,.agg (.ints .u64 [f5a t_28,f5b t_28,f5c t_28,f5d t_28,f5e t_28]) 5,.agg (.ints .u64 [f5a t,f5b t,f5c t,f5d t,f5e t]) 5,.agg (.ints .u64 [f5a t_29,f5b t_29,f5c t_29,f5d t_29,f5e t_29]) 5]).bind fun t=>(R13 [.agg (.ints .u64 (f12a t)) 20]).bind fun t=>some (AV.agg (.ints .u64 (f13a t)) 20):=by kernel_rfl
end
set_option maxRecDepth 4000
abbrev gI_RiO:Cg:=g_RiO 
theorem gok_RiO:CfOk prog gI_RiO.c:=⟨gam_nil,fun _ _ h=>by cases h⟩
theorem ok_EPt:CallOk prog nF47 sEPt:=by
 refine afunc_okE (g:=gI_RiO) (fu:=fun _=>0) mixed gok_RiO hF47 (by kernel_rfl) ?_
 intro args t ht
 obtain ⟨p,rfl,hp,rfl⟩:=runP1_ok (F:=fun p=>p) ht
 exact RiO_ev ..
theorem run_EPt {p:Pt} (h:pOk p):rEPt [eP p]=some p:=run_P1 (fun p=>p) h
abbrev gI_RiB:Cg:=g_RiB (Pt) rBase (fun t=>[↑t.x.a,↑t.x.b,↑t.x.c,↑t.x.d,↑t.x.e,↑t.y.a,↑t.y.b,↑t.y.c,↑t.y.d,↑t.y.e,↑t.z.a,↑t.z.b,↑t.z.c,↑t.z.d,↑t.z.e,↑t.t.a,↑t.t.b,↑t.t.c,↑t.t.d,↑t.t.e]) (Pt) rEPt (fun t=>[↑t.x.a,↑t.x.b,↑t.x.c,↑t.x.d,↑t.x.e,↑t.y.a,↑t.y.b,↑t.y.c,↑t.y.d,↑t.y.e,↑t.z.a,↑t.z.b,↑t.z.c,↑t.z.d,↑t.z.e,↑t.t.a,↑t.t.b,↑t.t.c,↑t.t.d,↑t.t.e])
theorem gok_RiB:CfOk prog gI_RiB.c:=⟨gam_cons ok_Base <| gam_cons ok_EPt <| gam_nil,fun _ _ h=>by cases h⟩
theorem ok_EBase:CallOk prog nF22 sBase:=by
 refine afunc_okE (g:=gI_RiB) (fu:=fun _=>0) mixed gok_RiB hF22 (by kernel_rfl) ?_
 intro args t ht
 unfold sBase run0 at ht
 simp only at ht
 split at ht
 ·have ht:=Option.some.inj ht
  subst ht
  have o:=run_Base
  have e:=run_EPt base_ok
  generalize baseP=Bp at *
  refine (RiB_ev ..).trans ?_
  refine bstep o ?_
  refine bstep e ?_
  rfl
 ·cases ht
abbrev gI_RiI:Cg:=g_RiI (Pt) rNeut (fun t=>[↑t.x.a,↑t.x.b,↑t.x.c,↑t.x.d,↑t.x.e,↑t.y.a,↑t.y.b,↑t.y.c,↑t.y.d,↑t.y.e,↑t.z.a,↑t.z.b,↑t.z.c,↑t.z.d,↑t.z.e,↑t.t.a,↑t.t.b,↑t.t.c,↑t.t.d,↑t.t.e]) (Pt) rEPt (fun t=>[↑t.x.a,↑t.x.b,↑t.x.c,↑t.x.d,↑t.x.e,↑t.y.a,↑t.y.b,↑t.y.c,↑t.y.d,↑t.y.e,↑t.z.a,↑t.z.b,↑t.z.c,↑t.z.d,↑t.z.e,↑t.t.a,↑t.t.b,↑t.t.c,↑t.t.d,↑t.t.e])
theorem gok_RiI:CfOk prog gI_RiI.c:=⟨gam_cons ok_Neut <| gam_cons ok_EPt <| gam_nil,fun _ _ h=>by cases h⟩
theorem ok_EId:CallOk prog nF52 sNeut:=by
 refine afunc_okE (g:=gI_RiI) (fu:=fun _=>0) mixed gok_RiI hF52 (by kernel_rfl) ?_
 intro args t ht
 unfold sNeut run0 at ht
 simp only at ht
 split at ht
 ·have ht:=Option.some.inj ht
  subst ht
  have o:=run_Neut
  have e:=run_EPt neut_ok
  generalize neutP=Bp at *
  refine (RiI_ev ..).trans ?_
  refine bstep o ?_
  refine bstep e ?_
  rfl
 ·cases ht
abbrev gI_RiN:Cg:=g_RiN (Fe) rFDec (fun t=>↑t.a) (fun t=>↑t.b) (fun t=>↑t.c) (fun t=>↑t.d) (fun t=>↑t.e)
theorem gok_RiN:CfOk prog gI_RiN.c:=⟨gam_cons ok_FDec <| gam_nil,fun _ _ h=>by cases h⟩
theorem ok_ENum:CallOk prog nF42 sFDec:=by
 refine afunc_okE (g:=gI_RiN) (fu:=fun _=>0) mixed gok_RiN hF42 (by kernel_rfl) ?_
 intro args t ht
 unfold sFDec at ht
 simp only at ht
 split at ht
 ·rename_i s
  obtain ⟨h1,h2⟩:=ctrueS ht
  subst h2
  refine (RiN_ev ..).trans ?_
  refine bstep (run_FDec (of_decide_eq_true h1)) ?_
  rfl
 ·cases ht
abbrev gI_RiA:Cg:=g_RiA (Pt) rPAdd (fun t=>[↑t.x.a,↑t.x.b,↑t.x.c,↑t.x.d,↑t.x.e,↑t.y.a,↑t.y.b,↑t.y.c,↑t.y.d,↑t.y.e,↑t.z.a,↑t.z.b,↑t.z.c,↑t.z.d,↑t.z.e,↑t.t.a,↑t.t.b,↑t.t.c,↑t.t.d,↑t.t.e]) (Pt) rEPt (fun t=>[↑t.x.a,↑t.x.b,↑t.x.c,↑t.x.d,↑t.x.e,↑t.y.a,↑t.y.b,↑t.y.c,↑t.y.d,↑t.y.e,↑t.z.a,↑t.z.b,↑t.z.c,↑t.z.d,↑t.z.e,↑t.t.a,↑t.t.b,↑t.t.c,↑t.t.d,↑t.t.e])
theorem gok_RiA:CfOk prog gI_RiA.c:=⟨gam_cons ok_PAdd <| gam_cons ok_EPt <| gam_nil,fun _ _ h=>by cases h⟩
theorem ok_EAdd:CallOk prog nF16 sPAdd:=by
 refine afunc_okE (g:=gI_RiA) (fu:=fun _=>0) mixed gok_RiA hF16 (by kernel_rfl) ?_
 intro args t ht
 obtain ⟨p,q,rfl,hp,hq,rfl⟩:=runP2_ok (F:=fun p q=>addP p q d2F) ht
 refine (RiA_ev ..).trans ?_
 refine bstep (run_PAdd hp hq) ?_
 refine bstep (run_EPt (addP_ok hp hq d2_ok)) ?_
 rfl
abbrev gI_RiT:Cg:=g_RiT (Pt) rTimes (fun t=>[↑t.x.a,↑t.x.b,↑t.x.c,↑t.x.d,↑t.x.e,↑t.y.a,↑t.y.b,↑t.y.c,↑t.y.d,↑t.y.e,↑t.z.a,↑t.z.b,↑t.z.c,↑t.z.d,↑t.z.e,↑t.t.a,↑t.t.b,↑t.t.c,↑t.t.d,↑t.t.e]) (Pt) rEPt (fun t=>[↑t.x.a,↑t.x.b,↑t.x.c,↑t.x.d,↑t.x.e,↑t.y.a,↑t.y.b,↑t.y.c,↑t.y.d,↑t.y.e,↑t.z.a,↑t.z.b,↑t.z.c,↑t.z.d,↑t.z.e,↑t.t.a,↑t.t.b,↑t.t.c,↑t.t.d,↑t.t.e])
theorem gok_RiT:CfOk prog gI_RiT.c:=⟨gam_cons ok_Times <| gam_cons ok_EPt <| gam_nil,fun _ _ h=>by cases h⟩
theorem ok_ETimes:CallOk prog nF23 sTimes:=by
 refine afunc_okE (g:=gI_RiT) (fu:=fun _=>0) mixed gok_RiT hF23 (by kernel_rfl) ?_
 intro args t ht
 obtain ⟨p,a,rfl,hp,ha,rfl⟩:=runPS_ok (F:=fun p a=>timesP p (bitsDn (val a) 253)) ht
 refine (RiT_ev ..).trans ?_
 refine bstep (run_Times hp ha) ?_
 refine bstep (run_EPt (timesP_ok hp _)) ?_
 rfl
abbrev gI_RiS:Cg:=g_RiS (Pt) rParts (fun t=>[↑t.x.a,↑t.x.b,↑t.x.c,↑t.x.d,↑t.x.e]) (fun t=>[↑t.y.a,↑t.y.b,↑t.y.c,↑t.y.d,↑t.y.e]) (fun t=>[↑t.z.a,↑t.z.b,↑t.z.c,↑t.z.d,↑t.z.e]) (fun t=>[↑t.t.a,↑t.t.b,↑t.t.c,↑t.t.d,↑t.t.e]) (Fe) rFMul (fun t=>↑t.a) (fun t=>↑t.b) (fun t=>↑t.c) (fun t=>↑t.d) (fun t=>↑t.e) (Bool) rSam (fun t=>t)
theorem gok_RiS:CfOk prog gI_RiS.c:=⟨gam_cons ok_Parts <| gam_cons ok_FMul <| gam_cons ok_Sam <| gam_nil,fun _ _ h=>by cases h⟩
theorem ok_ESam:CallOk prog nF51 sESam:=by
 refine afunc_okE (g:=gI_RiS) (fu:=fun _=>0) mixed gok_RiS hF51 (by kernel_rfl) ?_
 intro args t ht
 obtain ⟨p,q,rfl,hp,hq,rfl⟩:=runP2_ok (F:=samE) ht
 refine (RiS_ev ..).trans ?_
 refine bstep (run_Parts hp) ?_
 refine bstep (run_Parts hq) ?_
 refine bstep (run_FMul hp.1 hq.2.1) ?_
 refine bstep (run_FMul hp.2.1 hq.1) ?_
 refine bstep (run_Sam (mul_ok hp.1 hq.2.1) (mul_ok hp.2.1 hq.1)) ?_
 show _=some (AV.bool (samE p q))
 unfold samE
 cases samF (mulF p.x q.y) (mulF p.y q.x)
 ·refine bstep (run_FMul hp.2.1 hq.2.1) ?_
  refine bstep (run_FMul hp.1 hq.1) ?_
  refine bstep (run_Sam (mul_ok hp.2.1 hq.2.1) (mul_ok hp.1 hq.1)) ?_
  rfl
 ·rfl
theorem run_ESam {p q:Pt} (h:pOk p) (k:pOk q):rESam [eP p,eP q]=some (samE p q):=run_P2 samE h k
abbrev gI_RiZ:Cg:=g_RiZ (Pt) rNeut (fun t=>[↑t.x.a,↑t.x.b,↑t.x.c,↑t.x.d,↑t.x.e,↑t.y.a,↑t.y.b,↑t.y.c,↑t.y.d,↑t.y.e,↑t.z.a,↑t.z.b,↑t.z.c,↑t.z.d,↑t.z.e,↑t.t.a,↑t.t.b,↑t.t.c,↑t.t.d,↑t.t.e]) (Bool) rESam (fun t=>t)
theorem gok_RiZ:CfOk prog gI_RiZ.c:=⟨gam_cons ok_EId <| gam_cons ok_ESam <| gam_nil,fun _ _ h=>by cases h⟩
theorem ok_ENone:CallOk prog nF11 sENone:=by
 refine afunc_okE (g:=gI_RiZ) (fu:=fun _=>0) mixed gok_RiZ hF11 (by kernel_rfl) ?_
 intro args t ht
 obtain ⟨p,rfl,hp,rfl⟩:=runP1_ok (F:=fun p=>samE p neutP) ht
 have o:=run_Neut
 have e:=run_ESam hp neut_ok
 generalize neutP=Np at *
 refine (RiZ_ev ..).trans ?_
 refine bstep o ?_
 refine bstep e ?_
 rfl
theorem run_ENone {p:Pt} (h:pOk p):rENone [eP p]=some (samE p neutP):=run_P1 (fun p=>samE p neutP) h
theorem cO_dec:fe ((decE (([53,52,52,54,57,51,48,55,48,48,56,57,48,57,51,49,54,57,50,48,57,57,53,56,49,51,56,54,56,55,52,53,49,52,49,54,48,53]:List UInt8).append [51,57,51,53,57,55,50,57,50,57,50,55,52,53,54,57,50,49,50,48,53,51,49,50,56,57,54,51,49,49,55,50,49,48,49,55,53,55,56])).1%P25)=fe cON:=by kernel_rfl
theorem run_cO:rFDec [AV.str (([53,52,52,54,57,51,48,55,48,48,56,57,48,57,51,49,54,57,50,48,57,57,53,56,49,51,56,54,56,55,52,53,49,52,49,54,48,53]:List UInt8).append [51,57,51,53,57,55,50,57,50,57,50,55,52,53,54,57,50,49,50,48,53,51,49,50,56,57,54,51,49,49,55,50,49,48,49,55,53,55,56])]=some (fe cON):=by
 rw [run_FDec (by decide +kernel),cO_dec]
theorem mul_i {x:Fe} (hx:fOk x):rFMul [eF x,AV.agg (.ints .u64 [1718705420411056,234908883556509,2233514472574048,2117202627021982,765476049583133]) 5]=some (mulF x iF):=by
 rw [<-eF_iF]; exact run_FMul hx iF_ok
theorem rat_okE {u v:Fe} (hu:fOk u) (hv:fOk v):fOk (ratF u v).1:=by
 have hR:=ratR_ok hu hv
 unfold ratF
 have hQ:fOk (mulF (ratR u v) iF):=mul_ok hR iF_ok
 generalize (samF (mulF v (mulF (ratR u v) (ratR u v))) (subF f0 u) || samF (mulF v (mulF (ratR u v) (ratR u v))) (mulF (subF f0 u) iF))=b
 show fOk (absF _)
 unfold absF
 have hc:fOk (cond b (mulF (ratR u v) iF) (ratR u v)):=by
  cases b
  ·exact hR
  ·exact hQ
 cases oddF (cond b (mulF (ratR u v) iF) (ratR u v))
 ·exact hc
 ·exact sub_ok f0_ok
theorem abs_okE {z:Fe} (hz:fOk z):fOk (absF z):=by
 unfold absF
 cases oddF z
 ·exact hz
 ·exact sub_ok f0_ok
section
variable {p:Pt} (hp:pOk p)
include hp
theorem u1E_ok:fOk (u1E p):=mul_ok (add_ok hp.2.2.1 hp.2.1) (sub_ok hp.2.2.1)
theorem u2E_ok:fOk (u2E p):=mul_ok hp.1 hp.2.1
theorem invE_ok:fOk (invE p):=rat_okE (fe_ok 1) (mul_ok (u1E_ok hp) (mul_ok (u2E_ok hp) (u2E_ok hp)))
theorem ziE_ok:fOk (ziE p):=mul_ok (mul_ok (mul_ok (invE_ok hp) (u1E_ok hp)) (mul_ok (invE_ok hp) (u2E_ok hp))) hp.2.2.2
theorem xE_ok:fOk (xE p):=by
 unfold xE
 cases rotE p
 ·exact hp.1
 ·exact mul_ok hp.2.1 iF_ok
theorem yE_ok:fOk (yE p):=by
 unfold yE
 cases rotE p
 ·exact hp.2.1
 ·exact mul_ok hp.1 iF_ok
theorem denE_ok:fOk (denE p):=by
 unfold denE
 cases rotE p
 ·exact mul_ok (invE_ok hp) (u2E_ok hp)
 ·exact mul_ok (mul_ok (invE_ok hp) (u1E_ok hp)) (fe_ok cON)
theorem y2E_ok:fOk (y2E p):=by
 unfold y2E
 cases oddF (mulF (xE p) (ziE p))
 ·exact yE_ok hp
 ·exact sub_ok f0_ok
end
theorem by_end {p:Pt} (hp:pOk p):rFSub [eF p.z,eF (y2E p)]=some (subF p.z (y2E p)) /\ rFMul [eF (denE p),eF (subF p.z (y2E p))]=some (mulF (denE p) (subF p.z (y2E p))) /\ rFAbs [eF (mulF (denE p) (subF p.z (y2E p)))]=some (bytesF p) /\ rFBytes [eF (bytesF p)]=some (lo 32 (fv (bytesF p)%P25)):=by
 have h1:fOk (subF p.z (y2E p)):=sub_ok hp.2.2.1
 have h2:=mul_ok (denE_ok hp) h1
 exact ⟨run_FSub hp.2.2.1 (y2E_ok hp),run_FMul (denE_ok hp) h1,run_FAbs h2,run_FBytes (abs_okE h2)⟩
abbrev gI_RiY:Cg:=g_RiY (Pt) rParts (fun t=>[↑t.x.a,↑t.x.b,↑t.x.c,↑t.x.d,↑t.x.e]) (fun t=>[↑t.y.a,↑t.y.b,↑t.y.c,↑t.y.d,↑t.y.e]) (fun t=>[↑t.z.a,↑t.z.b,↑t.z.c,↑t.z.d,↑t.z.e]) (fun t=>[↑t.t.a,↑t.t.b,↑t.t.c,↑t.t.d,↑t.t.e]) (Fe) rFAdd (fun t=>↑t.a) (fun t=>↑t.b) (fun t=>↑t.c) (fun t=>↑t.d) (fun t=>↑t.e) (Fe) rFSub (fun t=>↑t.a) (fun t=>↑t.b) (fun t=>↑t.c) (fun t=>↑t.d) (fun t=>↑t.e) (Fe) rFMul (fun t=>↑t.a) (fun t=>↑t.b) (fun t=>↑t.c) (fun t=>↑t.d) (fun t=>↑t.e) (Fe) rFOf (fun t=>↑t.a) (fun t=>↑t.b) (fun t=>↑t.c) (fun t=>↑t.d) (fun t=>↑t.e) (Fe) rFSq (fun t=>↑t.a) (fun t=>↑t.b) (fun t=>↑t.c) (fun t=>↑t.d) (fun t=>↑t.e) (Fe × Bool) rFRat (fun t=>↑t.fst.a) (fun t=>↑t.fst.b) (fun t=>↑t.fst.c) (fun t=>↑t.fst.d) (fun t=>↑t.fst.e) (fun t=>t.snd) (Bool) rOdd (fun t=>t) (Unit) rFI (Fe) rFDec (fun t=>↑t.a) (fun t=>↑t.b) (fun t=>↑t.c) (fun t=>↑t.d) (fun t=>↑t.e) (Fe) rFNeg (fun t=>↑t.a) (fun t=>↑t.b) (fun t=>↑t.c) (fun t=>↑t.d) (fun t=>↑t.e) (Fe) rFAbs (fun t=>↑t.a) (fun t=>↑t.b) (fun t=>↑t.c) (fun t=>↑t.d) (fun t=>↑t.e) (List Int) rFBytes (fun t=>t)
theorem gok_RiY:CfOk prog gI_RiY.c:=⟨gam_cons ok_Parts <| gam_cons ok_FAdd <| gam_cons ok_FSub <| gam_cons ok_FMul <| gam_cons ok_FOf <| gam_cons ok_FSq <| gam_cons ok_FRat <| gam_cons ok_Odd <| gam_cons ok_FI <| gam_cons ok_ENum <| gam_cons ok_FNeg <| gam_cons ok_FAbs <| gam_cons ok_FBytes <| gam_nil,fun _ _ h=>by cases h⟩
theorem ok_EBytes:CallOk prog nF13 sEBytes:=by
 refine afunc_okE (g:=gI_RiY) (fu:=fun _=>0) mixed gok_RiY hF13 (by kernel_rfl) ?_
 intro args t ht
 obtain ⟨p,rfl,hp,rfl⟩:=runP1_ok (F:=fun p=>lo 32 (fv (bytesF p)%P25)) ht
 obtain ⟨h1,h2,h3,h4⟩:=hp
 have hp:pOk p:=⟨h1,h2,h3,h4⟩
 have k1:=u1E_ok hp
 have k2:=u2E_ok hp
 have kI:=invE_ok hp
 have kz:=ziE_ok hp
 have e3:rFMul [eF (addF p.z p.y),eF (subF p.z p.y)]=some (u1E p):=run_FMul (add_ok h3 h2) (sub_ok h3)
 have e4:rFMul [eF p.x,eF p.y]=some (u2E p):=run_FMul h1 h2
 have e7:=run_FMul k1 (mul_ok k2 k2)
 have e8:=run_FRat (fe_ok 1) (mul_ok k1 (mul_ok k2 k2))
 have hI:(ratF (fe 1) (mulF (u1E p) (mulF (u2E p) (u2E p)))).1=invE p:=rfl
 have e9:=run_FMul kI k1
 have e10:=run_FMul kI k2
 have e11:=run_FMul (mul_ok kI k1) (mul_ok kI k2)
 have e12:rFMul [eF (mulF (mulF (invE p) (u1E p)) (mulF (invE p) (u2E p))),eF p.t]=some (ziE p):=run_FMul (mul_ok (mul_ok kI k1) (mul_ok kI k2)) h4
 have e13:=run_FMul h4 kz
 have e14:rOdd [eF (mulF p.t (ziE p))]=some (rotE p):=run_Odd (mul_ok h4 kz)
 have e15:=run_FMul (xE_ok hp) kz
 have e16:=run_Odd (mul_ok (xE_ok hp) kz)
 have e17:=run_FNeg (yE_ok hp)
 obtain ⟨b1,b2,b3,b4⟩:=by_end hp
 have hx:xE p=cond (rotE p) (mulF p.y iF) p.x:=rfl
 have hy:yE p=cond (rotE p) (mulF p.x iF) p.y:=rfl
 have hd:denE p=cond (rotE p) (mulF (mulF (invE p) (u1E p)) (fe cON)) (mulF (invE p) (u2E p)):=rfl
 have hy2:y2E p=cond (oddF (mulF (xE p) (ziE p))) (subF f0 (yE p)) (yE p):=rfl
 have m1:=mul_i h2
 have m2:=mul_i h1
 have m3:=run_FMul (mul_ok kI k1) (fe_ok cON)
 refine (RiY_ev ..).trans ?_
 refine bstep (run_Parts hp) ?_
 refine bstep (run_FAdd h3 h2) ?_
 refine bstep (run_FSub h3 h2) ?_
 refine bstep e3 ?_
 refine bstep e4 ?_
 refine bstep (run_FOf (n:=1) (by decide)) ?_
 refine bstep (run_FSq k2) ?_
 refine bstep e7 ?_
 refine bstep e8 ?_
 generalize ratF (fe 1) (mulF (u1E p) (mulF (u2E p) (u2E p)))=R at *
 dsimp only
 rw [hI]
 refine bstep e9 ?_
 refine bstep e10 ?_
 refine bstep e11 ?_
 refine bstep e12 ?_
 refine bstep e13 ?_
 refine bstep e14 ?_
 generalize denE p=de at *
 generalize xE p=xx at *
 generalize yE p=yy at *
 generalize y2E p=y2 at *
 generalize bytesF p=by' at *
 show _=some (eB32 (lo 32 (fv by'%P25)))
 generalize lo 32 (fv by'%P25)=out at *
 generalize hr:rotE p=rot at *
 cases rot
 ·rw [cond_false] at hx hy hd
  rw [cond_false]
  subst hx hy hd
  refine bstep e15 ?_
  refine bstep e16 ?_
  cases hn:oddF (mulF p.x (ziE p))
  ·rw [hn,cond_false] at hy2
   subst hy2
   rw [cond_false]
   refine bstep b1 ?_
   refine bstep b2 ?_
   refine bstep b3 ?_
   refine bstep b4 ?_
   rfl
  ·rw [hn,cond_true] at hy2
   subst hy2
   rw [cond_true]
   refine bstep e17 ?_
   refine bstep b1 ?_
   refine bstep b2 ?_
   refine bstep b3 ?_
   refine bstep b4 ?_
   rfl
 ·rw [cond_true] at hx hy hd
  rw [cond_true]
  subst hx hy hd
  refine bstep (show rFI []=some () from rfl) ?_
  refine bstep m1 ?_
  refine bstep m2 ?_
  refine bstep run_cO ?_
  refine bstep m3 ?_
  refine bstep e15 ?_
  refine bstep e16 ?_
  cases hn:oddF (mulF (mulF p.y iF) (ziE p))
  ·rw [hn,cond_false] at hy2
   subst hy2
   rw [cond_false]
   refine bstep b1 ?_
   refine bstep b2 ?_
   refine bstep b3 ?_
   refine bstep b4 ?_
   rfl
  ·rw [hn,cond_true] at hy2
   subst hy2
   rw [cond_true]
   refine bstep e17 ?_
   refine bstep b1 ?_
   refine bstep b2 ?_
   refine bstep b3 ?_
   refine bstep b4 ?_
   rfl
theorem run_EBytes {p:Pt} (h:pOk p):rEBytes [eP p]=some (lo 32 (fv (bytesF p)%P25)):=run_P1 (fun p=>lo 32 (fv (bytesF p)%P25)) h
set_option maxRecDepth 4000
theorem run_FDecS {s:Str} {n:Nat} (h1:rFDec [.str s]=some (fe ((decE s).1%P25))) (h:Nat.beq ((decE s).1%P25) n=true):rFDec [.str s]=some (fe n):=by
 rw [h1,Nat.eq_of_beq_eq_true h]
theorem i_mul {x:Fe} (hx:fOk x):rFMul [AV.agg (.ints .u64 [1718705420411056,234908883556509,2233514472574048,2117202627021982,765476049583133]) 5,eF x]=some (mulF iF x):=by
 rw [<-eF_iF]; exact run_FMul iF_ok hx
theorem mul_d {x:Fe} (hx:fOk x):rFMul [eF x,AV.agg (.ints .u64 [929955233495203,466365720129213,1662059464998953,2033849074728123,1442794654840575]) 5]=some (mulF x dF):=by
 rw [<-eF_dF]; exact run_FMul hx dF_ok
theorem add_d {x:Fe} (hx:fOk x):rFAdd [eF x,AV.agg (.ints .u64 [929955233495203,466365720129213,1662059464998953,2033849074728123,1442794654840575]) 5]=some (addF x dF):=by
 rw [<-eF_dF]; exact run_FAdd hx dF_ok
theorem fOk_cond {b:Bool} {x y:Fe} (hx:fOk x) (hy:fOk y):fOk (cond b x y):=by
 cases b
 ·exact hy
 ·exact hx
theorem looF_ok (a:List Int):fOk (looF a):=fe_ok _
abbrev gI_RiH:Cg:=g_RiH (Fe) rFOf (fun t=>↑t.a) (fun t=>↑t.b) (fun t=>↑t.c) (fun t=>↑t.d) (fun t=>↑t.e) (PUnit) rCD (Fe) rLoose (fun t=>↑t.a) (fun t=>↑t.b) (fun t=>↑t.c) (fun t=>↑t.d) (fun t=>↑t.e) (Unit) rFI (Fe) rFSq (fun t=>↑t.a) (fun t=>↑t.b) (fun t=>↑t.c) (fun t=>↑t.d) (fun t=>↑t.e) (Fe) rFMul (fun t=>↑t.a) (fun t=>↑t.b) (fun t=>↑t.c) (fun t=>↑t.d) (fun t=>↑t.e) (Fe) rFAdd (fun t=>↑t.a) (fun t=>↑t.b) (fun t=>↑t.c) (fun t=>↑t.d) (fun t=>↑t.e) (Fe) rFDec (fun t=>↑t.a) (fun t=>↑t.b) (fun t=>↑t.c) (fun t=>↑t.d) (fun t=>↑t.e) (Fe) rFNeg (fun t=>↑t.a) (fun t=>↑t.b) (fun t=>↑t.c) (fun t=>↑t.d) (fun t=>↑t.e) (Fe) rFSub (fun t=>↑t.a) (fun t=>↑t.b) (fun t=>↑t.c) (fun t=>↑t.d) (fun t=>↑t.e) (Fe × Bool) rFRat (fun t=>↑t.fst.a) (fun t=>↑t.fst.b) (fun t=>↑t.fst.c) (fun t=>↑t.fst.d) (fun t=>↑t.fst.e) (fun t=>t.snd) (Fe) rFAbs (fun t=>↑t.a) (fun t=>↑t.b) (fun t=>↑t.c) (fun t=>↑t.d) (fun t=>↑t.e) (Pt) rCOf (fun t=>[↑t.x.a,↑t.x.b,↑t.x.c,↑t.x.d,↑t.x.e,↑t.y.a,↑t.y.b,↑t.y.c,↑t.y.d,↑t.y.e,↑t.z.a,↑t.z.b,↑t.z.c,↑t.z.d,↑t.z.e,↑t.t.a,↑t.t.b,↑t.t.c,↑t.t.d,↑t.t.e]) (Pt) rEPt (fun t=>[↑t.x.a,↑t.x.b,↑t.x.c,↑t.x.d,↑t.x.e,↑t.y.a,↑t.y.b,↑t.y.c,↑t.y.d,↑t.y.e,↑t.z.a,↑t.z.b,↑t.z.c,↑t.z.d,↑t.z.e,↑t.t.a,↑t.t.b,↑t.t.c,↑t.t.d,↑t.t.e])
theorem gok_RiH:CfOk prog gI_RiH.c:=⟨gam_cons ok_FOf <| gam_cons ok_CD <| gam_cons ok_Loose <| gam_cons ok_FI <| gam_cons ok_FSq <| gam_cons ok_FMul <| gam_cons ok_FAdd <| gam_cons ok_ENum <| gam_cons ok_FNeg <| gam_cons ok_FSub <| gam_cons ok_FRat <| gam_cons ok_FAbs <| gam_cons ok_COf <| gam_cons ok_EPt <| gam_nil,fun _ _ h=>by cases h⟩
theorem ok_EHalf:CallOk prog nF8 sEHalf:=by
 refine afunc_okE (g:=gI_RiH) (fu:=fun _=>0) mixed gok_RiH hF8 (by kernel_rfl) ?_
 intro args t ht
 obtain ⟨a,rfl,ha,rfl⟩:=runB1_ok (F:=fun a=>halfF (looF a)) ht
 have o1:fOk (fe 1):=fe_ok 1
 have e2:=run_Loose ha
 have tt:=looF_ok a
 generalize looF a=t at *
 have hr:fOk (rH t):=mul_ok iF_ok (mul_ok tt tt)
 have e5:rFMul [AV.agg (.ints .u64 [1718705420411056,234908883556509,2233514472574048,2117202627021982,765476049583133]) 5,eF (mulF t t)]=some (rH t):=i_mul (mul_ok tt tt)
 have hv:fOk (vH t):=mul_ok (sub_ok (sub_ok f0_ok)) (add_ok hr dF_ok)
 have hu:fOk (uH t):=mul_ok (add_ok hr o1) (fe_ok _)
 have e8:rFMul [eF (addF (rH t) (fe 1)),eF (fe cMN)]=some (uH t):=run_FMul (add_ok hr o1) (fe_ok _)
 have e13:rFMul [eF (subF (subF f0 (fe 1)) (mulF (rH t) dF)),eF (addF (rH t) dF)]=some (vH t):=run_FMul (sub_ok (sub_ok f0_ok)) (add_ok hr dF_ok)
 have e14:=run_FRat hu hv
 have hs0:fOk (ratF (uH t) (vH t)).1:=rat_okE hu hv
 have hs:fOk (sH t):=fOk_cond hs0 (sub_ok f0_ok)
 have hc:fOk (cH t):=fOk_cond (sub_ok f0_ok) hr
 have ds:sH t=cond (sqH t) (ratF (uH t) (vH t)).1 (subF f0 (absF (mulF (ratF (uH t) (vH t)).1 t))):=rfl
 have dc:cH t=cond (sqH t) (subF f0 (fe 1)) (rH t):=rfl
 have db:sqH t=(ratF (uH t) (vH t)).2:=rfl
 have hn1:fOk (subF (rH t) (fe 1)):=sub_ok hr
 have f19:=run_FSub hr o1
 have f20:=run_FMul hc hn1
 have f22:=run_FMul (mul_ok hc hn1) (fe_ok cDN)
 have f23:rFSub [eF (mulF (mulF (cH t) (subF (rH t) (fe 1))) (fe cDN)),eF (vH t)]=some (nH t):=run_FSub (mul_ok (mul_ok hc hn1) (fe_ok cDN)) hv
 have hn:fOk (nH t):=sub_ok (mul_ok (mul_ok hc hn1) (fe_ok cDN))
 have f24:=run_FSq hs
 have f25:=run_FAdd hs hs
 have f26:rFMul [eF (addF (sH t) (sH t)),eF (vH t)]=some (w0H t):=run_FMul (add_ok hs hs) hv
 have f28:rFMul [eF (nH t),eF (fe cAN)]=some (w1H t):=run_FMul hn (fe_ok cAN)
 have f29:rFSub [eF (fe 1),eF (mulF (sH t) (sH t))]=some (w2H t):=run_FSub o1 (mul_ok hs hs)
 have f30:rFAdd [eF (fe 1),eF (mulF (sH t) (sH t))]=some (w3H t):=run_FAdd o1 (mul_ok hs hs)
 have k0:fOk (w0H t):=mul_ok (add_ok hs hs) hv
 have k1:fOk (w1H t):=mul_ok hn (fe_ok cAN)
 have k2:fOk (w2H t):=sub_ok o1
 have k3:fOk (w3H t):=add_ok o1 (mul_ok hs hs)
 have f31:=run_FMul k0 k3
 have f32:=run_FMul k2 k1
 have f33:=run_FMul k1 k3
 have f34:=run_FMul k0 k2
 have f35:rCOf [eF (mulF (w0H t) (w3H t)),eF (mulF (w2H t) (w1H t)),eF (mulF (w1H t) (w3H t)),eF (mulF (w0H t) (w2H t))]=some (halfF t):=run_COf (mul_ok k0 k3) (mul_ok k2 k1) (mul_ok k1 k3) (mul_ok k0 k2)
 have f36:=run_EPt (p:=halfF t) ⟨mul_ok k0 k3,mul_ok k2 k1,mul_ok k1 k3,mul_ok k0 k2⟩
 refine (RiH_ev ..).trans ?_
 refine bstep (run_FOf (n:=1) (by decide)) ?_
 refine bstep (show rCD []=some () from rfl) ?_
 refine bstep e2 ?_
 refine bstep (show rFI []=some () from rfl) ?_
 refine bstep (run_FSq tt) ?_
 refine bstep e5 ?_
 refine bstep (run_FAdd hr o1) ?_
 refine bstep (run_FDecS (n:=cMN) (run_FDec (by decide +kernel)) (by decide +kernel)) ?_
 refine bstep e8 ?_
 refine bstep (run_FNeg o1) ?_
 refine bstep (mul_d hr) ?_
 refine bstep (run_FSub (sub_ok f0_ok) (mul_ok hr dF_ok)) ?_
 refine bstep (add_d hr) ?_
 refine bstep e13 ?_
 refine bstep e14 ?_
 generalize ratF (uH t) (vH t)=R at *
 refine bstep (run_FNeg o1) ?_
 dsimp only
 rw [<-db]
 show _=some (eP (halfF t))
 generalize halfF t=H at *
 generalize nH t=n at *
 generalize w0H t=w0 at *
 generalize w1H t=w1 at *
 generalize w2H t=w2 at *
 generalize w3H t=w3 at *
 generalize vH t=v at *
 generalize sH t=s at *
 generalize cH t=c at *
 generalize rH t=r at *
 generalize sqH t=sq at *
 cases sq
 ·rw [cond_false] at ds dc
  rw [Bool.not_false,cond_true]
  have e16:=run_FMul hs0 tt
  have e17:=run_FAbs (mul_ok hs0 tt)
  have e18:=run_FNeg (abs_okE (mul_ok hs0 tt))
  subst ds dc
  refine bstep e16 ?_
  refine bstep e17 ?_
  refine bstep e18 ?_
  refine bstep f19 ?_
  refine bstep f20 ?_
  refine bstep (run_FDecS (n:=cDN) (run_FDec (by decide +kernel)) (by decide +kernel)) ?_
  refine bstep f22 ?_
  refine bstep f23 ?_
  refine bstep f24 ?_
  refine bstep f25 ?_
  refine bstep f26 ?_
  refine bstep (run_FDecS (n:=cAN) (run_FDec (by decide +kernel)) (by decide +kernel)) ?_
  refine bstep f28 ?_
  refine bstep f29 ?_
  refine bstep f30 ?_
  refine bstep f31 ?_
  refine bstep f32 ?_
  refine bstep f33 ?_
  refine bstep f34 ?_
  refine bstep f35 ?_
  refine bstep f36 ?_
  rfl
 ·rw [cond_true] at ds dc
  rw [Bool.not_true,cond_false]
  subst ds dc
  refine bstep f19 ?_
  refine bstep f20 ?_
  refine bstep (run_FDecS (n:=cDN) (run_FDec (by decide +kernel)) (by decide +kernel)) ?_
  refine bstep f22 ?_
  refine bstep f23 ?_
  refine bstep f24 ?_
  refine bstep f25 ?_
  refine bstep f26 ?_
  refine bstep (run_FDecS (n:=cAN) (run_FDec (by decide +kernel)) (by decide +kernel)) ?_
  refine bstep f28 ?_
  refine bstep f29 ?_
  refine bstep f30 ?_
  refine bstep f31 ?_
  refine bstep f32 ?_
  refine bstep f33 ?_
  refine bstep f34 ?_
  refine bstep f35 ?_
  refine bstep f36 ?_
  rfl
theorem run_EHalf {a:List Int} (h:ok32 a=true):rEHalf [eB32 a]=some (halfF (looF a)):=run_B1 (fun a=>halfF (looF a)) h
end
end Go.Eng
