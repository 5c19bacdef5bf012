import Derived.Test.YtdcaobkcdgojgaaZC1
namespace Go.Eng
open Go.IntKind (u64 i64 u8)
noncomputable section
open Go Go.Proofs
set_option linter.all false
def verF (h:Str):Nat->Str->List Str->Int × Int
 | i,a,[]=>((i:Int),cond (decide (a=h)) 0 27)
 | i,a,t :: r=>cond (decide ((parE t).2=0)) (cond (decide ((parE t).1.seq=i)) (verF h (i+1) (linkF a t) r) ((i:Int),19)) ((i:Int),(parE t).2)
def okVer (l:List Str) (n:Nat):Bool:=decide (l.length=n /\ n <= 1000000 /\ ∀ t ∈ l,t.length <= 1000000)
def sVerL:Summ where
 T:=Int × Int
 run:=fun
  | [.c (.s (.pl (.str s))),.c (.s (.dat (.strs l) n 1))]=>cond (okVer l n) (some (verF s 0 (List.replicate 64 0) l)) none
  | _=>none
 enc:=fun t=>.tup [.s (.pl (.int .i64 t.1)),.s (.pl (.int .i64 t.2))]
def rVerL:List AV->Option (Int × Int):=sVerL.run
set_option maxRecDepth 4000
theorem link_len (a t:Str):(linkF a t).length=64:=hS_len _
theorem ver_loop (h:Str) (l:List Str) (n:Nat) (hn:l.length=n) (hb:n <= 1000000) (hl:∀ t ∈ l,t.length <= 1000000) (fu:Nat):∀ (d m i:Nat) (a:Str),a.length=64->i+d=n->d < m ->
  lpA prog gI_CVe fu CVe_b1 (CVe_k1 _ rFirst _ rParE (fun t=>(t.fst.seq:Int)) (fun t=>(t.fst.tick:Int)) (fun t=>t.fst.kind) (fun t=>t.fst.name) (fun t=>t.fst.note) (fun t=>t.snd) _ rLink (fun t=>t) fu) m (some (CVe_s1 h l n a l n (n:Int) (i:Int)))=some (sVerL.enc (verF h i a (l.drop i))):=by
 intro d
 induction d with
 | zero=>
  intro m i a ha hi hm
  obtain ⟨m,rfl⟩:=Nat.exists_eq_succ_of_ne_zero (by omega:m ≠ 0)
  rw [lpA_succ,CVe_r1,decide_eq_false (by omega),cond_false,kOut_some,CVe_c1e0,List.drop_eq_nil_of_le (by omega)]
  have e:i=n:=by omega
  subst e
  show _=some (sVerL.enc ((i:Int),cond (decide (a=h)) 0 27))
  cases decide (a=h) <;> rfl
 | succ d ih=>
  intro m i a ha hi hm
  obtain ⟨m,rfl⟩:=Nat.exists_eq_succ_of_ne_zero (by omega:m ≠ 0)
  have hd:l.drop i=l.getD i [] :: l.drop (i+1):=by
   rw [List.drop_eq_getElem_cons (by omega),List.getD_eq_getElem?_getD,List.getElem?_eq_getElem (by omega)]; rfl
  have ht:(l.getD i []).length <= 1000000:=by
   rw [List.getD_eq_getElem?_getD,List.getElem?_eq_getElem (by omega)]
   exact hl _ (List.getElem_mem _)
  rw [hd,lpA_succ,CVe_r1,decide_eq_true (by omega),cond_true,decide_eq_true (by omega),cond_true,Int.toNat_natCast]
  generalize l.getD i []=t at *
  have hq:=(parE_lt t).1
  have p1:=run_ParE (s:=t) (by omega)
  have h':=ih m (i+1) (linkF a t) (link_len a t) (by omega) (by omega)
  have p2:=run_Link (s:=a) (t:=t) (by omega) (by omega)
  have hv:verF h i a (t :: l.drop (i+1))=cond (decide ((parE t).2=0)) (cond (decide ((parE t).1.seq=i)) (verF h (i+1) (linkF a t) (l.drop (i+1))) ((i:Int),19)) ((i:Int),(parE t).2):=rfl
  rw [p1,Option.bind_some]
  generalize parE t=P at *
  obtain ⟨e,f⟩:=P
  dsimp only at *
  by_cases c:f=0
  ·rw [decide_eq_true c,cond_true] at hv
   rw [decide_eq_true c,Bool.not_true,cond_false,wu64 (by omega) (by omega)]
   by_cases c2:e.seq=i
   ·rw [decide_eq_true c2,cond_true] at hv
    rw [decide_eq_true (by omega),Bool.not_true,cond_false,p2,Option.bind_some,wi64 (by omega) (by omega),hv]
    exact h'
   ·rw [decide_eq_false c2,cond_false] at hv
    rw [decide_eq_false (by omega),Bool.not_false,cond_true,kOut_some,CVe_c1r,hv]; rfl
  ·rw [decide_eq_false c,cond_false] at hv
   rw [decide_eq_false c,Bool.not_false,cond_true,kOut_some,CVe_c1r,hv]; rfl
theorem ok_VerL:CallOk prog nF8 sVerL:=by
 refine afunc_okE (g:=gI_CVe) (fu:=fun args=>match args with | [_,.c (.s (.dat _ n _))]=>n+1 | _=>0) mixed gok_CVe hF8 (by kernel_rfl) ?_
 intro args t ht
 unfold sVerL at ht
 simp only at ht
 split at ht
 ·rename_i s l n
  obtain ⟨h1,h2⟩:=ctrueS ht
  obtain ⟨hn,hb,hl⟩:=of_decide_eq_true h1
  subst h2
  refine (CVe_ev ..).trans ?_
  rw [show rFirst []=some () from rfl,Option.bind_some]
  exact ver_loop s l n hn hb hl (n+1) n (n+1) 0 _ (by simp) (by omega) (by omega)
 ·cases ht
theorem run_VerL {s:Str} {l:List Str} {n:Nat} (h1:l.length=n) (h2:n <= 1000000) (h3:∀ t ∈ l,t.length <= 1000000):rVerL [.str s,.s (.dat (.strs l) n 1)]=some (verF s 0 (List.replicate 64 0) l):=by
 show cond (okVer l n) (some (verF s 0 (List.replicate 64 0) l)) none=_
 have:okVer l n=true:=decide_eq_true ⟨h1,h2,h3⟩
 rw [this]; rfl
theorem val_num:∀ (k n:Nat),valF 0 (numF k n)=n%256 ^ k:=by
 intro k
 induction k with
 | zero=>intro n; show 0=n%1; omega
 | succ k ih=>
  intro n
  rw [numF,valF_snoc,ih,b8_toNat _ (Nat.mod_lt _ (by decide)),Nat.pow_succ,Nat.mul_comm (256 ^ k) 256,Nat.mod_mul]
  omega
theorem val_num8 {n:Nat} (h:n < 18446744073709551616):valF 0 (numF 8 n)=n:=by
 rw [val_num]
 exact Nat.mod_eq_of_lt (by simpa using h)
theorem text_par {e:En} (h:(textE e).2=0) (h1:e.seq < 18446744073709551616) (h2:e.tick < 18446744073709551616):parE (textE e).1=(e,0):=by
 have h0:textE e=((textE e).1,0):=by rw [<-h]
 generalize (textE e).1=u at *
 clear h
 have hx:=h0
 unfold textE at hx
 split at hx
 ·simp at hx
 split at hx
 ·simp at hx
 rename_i c1 c2
 have hu:u=(numF 8 e.seq++numF 8 e.tick++[b8 e.kind])++(pre2 e.name.length++(e.name++(pre2 e.note.length++e.note))):=by
  have:=congrArg Prod.fst hx
  simp only [cntL,List.append_nil,List.append_assoc] at this
  simp only [List.append_assoc]
  exact this.symm
 obtain ⟨k1,k2⟩:=dec_cut (A:=numF 8 e.seq++numF 8 e.tick++[b8 e.kind]) (s:=e.name) (t:=e.note) (by simp [numF_len]) (by omega) (by omega)
 rw [<-hu] at k1
 generalize hR:pre2 e.name.length++(e.name++(pre2 e.note.length++e.note))=R at hu
 have g1:numF 8 e.seq++numF 8 e.tick++[b8 e.kind]++R=numF 8 e.seq++(numF 8 e.tick++(b8 e.kind :: R)):=by simp
 have t1:u.take 8=numF 8 e.seq:=by rw [hu,g1,List.take_left' (numF_len _ _)]
 have t0:u.drop 8=numF 8 e.tick++(b8 e.kind :: R):=by rw [hu,g1,List.drop_left' (numF_len _ _)]
 have t2:(u.drop 8).take 8=numF 8 e.tick:=by rw [t0,List.take_left' (numF_len _ _)]
 have t3:u.getD 16 0=b8 e.kind:=by
  have:u.getD 16 0=(u.drop 16).getD 0 0:=by
   rw [List.getD_eq_getElem?_getD,List.getD_eq_getElem?_getD,List.getElem?_drop]
  rw [this,show u.drop 16=(u.drop 8).drop 8 by rw [List.drop_drop],t0,List.drop_left' (numF_len _ _)]; rfl
 have lu:17 <= u.length:=by rw [hu]; simp only [List.length_append,numF_len,List.length_cons,List.length_nil]; omega
 have ek:((b8 e.kind).toNat:Int)=e.kind:=by
  have h3:e.kind=((e.kind.toNat:Nat):Int):=by omega
  rw [h3,b8_toNat _ (by omega)]
 unfold parE
 rw [if_neg (by omega)]
 simp only [k1,k2,t1,t2,t3,val_num8 h1,val_num8 h2,ek]
 obtain ⟨sq,tk,kd,nm,nt⟩:=e
 rw [if_pos ⟨trivial,trivial,trivial,h0⟩]
theorem ver_good (h:Str):∀ (l:List Str) (i:Nat) (a:Str),(∀ j,j < l.length->∃ e,parE (l.getD j [])=(e,0) /\ e.seq=i+j) ->
  verF h i a l=(((i+l.length:Nat):Int),cond (decide (l.foldl linkF a=h)) 0 27):=by
 intro l
 induction l with
 | nil=>intro i a _; rfl
 | cons t r ih=>
  intro i a hg
  obtain ⟨e,he,hs⟩:=hg 0 (by simp)
  have he:parE t=(e,0):=he
  have h':=ih (i+1) (linkF a t) (fun j hj=>by
   obtain ⟨e',q1,q2⟩:=hg (j+1) (by simp only [List.length_cons]; omega)
   exact ⟨e',q1,by omega⟩)
  rw [verF,he,decide_eq_true rfl,decide_eq_true (show (e,(0:Int)).1.seq=i by simpa using hs),cond_true,cond_true,h',List.length_cons,List.foldl_cons]
  congr 2
  omega
section
variable (T0:Type) (R0:List AV->Option T0) (T1:Type) (R1:List AV->Option T1) (f1a:T1->Int) (f1b:T1->Str) (f1c f1d f1e:T1->Int) (f1f f1g:T1->Str) (f1h:T1->Int) (T2:Type) (R2:List AV->Option T2) (f2a:T2->Str) (f2b:T2->Int) (T3:Type) (R3:List AV->Option T3) (f3a:T3->List UInt8) (T4:Type) (R4:List AV->Option T4) (f4a f4b:T4->Int) (T5:Type) (R5:List AV->Option T5) (f5a:T5->Int)
def g_CFr:Cg:=⟨⟨gam [(nF4,⟨R0,fun t=>AV.bool (true)⟩),(nF5,⟨R1,fun t=>AV.tup [.mix [.pl (.int .u64 (f1a t)),.pl (.str (f1b t))],.mix [.pl (.int .u64 (f1c t)),.pl (.int .u64 (f1d t)),.pl (.int .i64 (f1e t)),.pl (.str (f1f t)),.pl (.str (f1g t))],.s (.pl (.int .i64 (f1h t)))]⟩),(nF6,⟨R2,fun t=>AV.tup [.s (.pl (.str (f2a t))),.s (.pl (.int .i64 (f2b t)))]⟩),(nF7,⟨R3,fun t=>AV.str (f3a t)⟩),(nF8,⟨R4,fun t=>AV.tup [.s (.pl (.int .i64 (f4a t))),.s (.pl (.int .i64 (f4b t)))]⟩),(nF9,⟨R5,fun t=>AV.int .u64 (f5a t)⟩)],[4,5],noE⟩,[(9,[3,4,5,22,23,24],[2,3,4,5]),(19,[3,4,68,69,70],[2,3,4])]⟩
def CFr_s1 (n4 n5:Nat) (x22_0 x22_1:List Int) (x22_2 x22_3:List Str) (n22:Nat) (v23 v24 v_0_0:Int) (s_0_1:List UInt8) (m_1:Nat) (x_1:List Str) (m_2:Nat) (x_2:List Str):St:={ tm:=[(3,.s (.ptr 0 0 2)),(4,.s (.own 1 n4 1)),(5,.s (.own 2 n5 1)),(22,.c (CV.cdat [.ints .u64 x22_0,.ints .i64 x22_1,.strs x22_2,.strs x22_3] n22)),(23,.int .i64 v23),(24,.int .i64 v24)],hp:=[(0,{ ty:=26,n:=2,row:=Row.mix [.pl (.int .u64 v_0_0),.pl (.str s_0_1)] }),(1,{ ty:=9,n:=m_1,row:=Row.t (.strs x_1) }),(2,{ ty:=9,n:=m_2,row:=Row.t (.strs x_2) })],nx:=3,sz:=99 }
def CFr_b1:Code:=bodyL (codeAt [1,1,1,1,1,0,1,2] (codeF f_opalinelaw19_ChainFront))
def CFr_k1 (fu:Nat):=kAt prog (g_CFr T0 R0 T1 R1 f1a f1b f1c f1d f1e f1f f1g f1h T2 R2 f2a f2b T3 R3 f3a T4 R4 f4a f4b T5 R5 f5a) fu [1,1,1,1,1,0,1,2] (codeF f_opalinelaw19_ChainFront) (kFin prog f_opalinelaw19_ChainFront)
abbrev CFr_L1 (fu:Nat) (n4 n5:Nat) (x22_0 x22_1:List Int) (x22_2 x22_3:List Str) (n22:Nat) (v23 v24 v_0_0:Int) (s_0_1:List UInt8) (m_1:Nat) (x_1:List Str) (m_2:Nat) (x_2:List Str):=lpA prog (g_CFr T0 R0 T1 R1 f1a f1b f1c f1d f1e f1f f1g f1h T2 R2 f2a f2b T3 R3 f3a T4 R4 f4a f4b T5 R5 f5a) fu CFr_b1 (CFr_k1 T0 R0 T1 R1 f1a f1b f1c f1d f1e f1f f1g f1h T2 R2 f2a f2b T3 R3 f3a T4 R4 f4a f4b T5 R5 f5a fu ) fu (some (CFr_s1 n4 n5 x22_0 x22_1 x22_2 x22_3 n22 v23 v24 v_0_0 s_0_1 m_1 x_1 m_2 x_2))
theorem CFr_ev (fu:Nat) (tk k:List Int) (s t:List Str) (n:Nat):afunc prog f_opalinelaw19_ChainFront (g_CFr T0 R0 T1 R1 f1a f1b f1c f1d f1e f1f f1g f1h T2 R2 f2a f2b T3 R3 f3a T4 R4 f4a f4b T5 R5 f5a) fu [.c (CV.cdat [.ints .u64 tk,.ints .i64 k,.strs s,.strs t] n)]=(R0 []).bind fun t_1=>bif decide ((15:Int) < (↑n:Int)) then some (AV.bool true) else CFr_L1 T0 R0 T1 R1 f1a f1b f1c f1d f1e f1f f1g f1h T2 R2 f2a f2b T3 R3 f3a T4 R4 f4a f4b T5 R5 f5a fu 0 0 tk k s t n (↑n:Int) (0:Int) (0:Int) [] 0 [] 0 []:=by kernel_rfl
def CFr_o1r (b2:Bool) (n4 n5:Nat) (v_0_0:Int) (s_0_1:List UInt8) (m_1:Nat) (x_1:List Str) (m_2:Nat) (x_2:List Str):St:={ tm:=[(2,.bool b2),(3,.s (.ptr 0 0 2)),(4,.s (.own 1 n4 1)),(5,.s (.own 2 n5 1))],hp:=[(0,{ ty:=26,n:=2,row:=Row.mix [.pl (.int .u64 v_0_0),.pl (.str s_0_1)] }),(1,{ ty:=9,n:=m_1,row:=Row.t (.strs x_1) }),(2,{ ty:=9,n:=m_2,row:=Row.t (.strs x_2) })],nx:=3,sz:=99 }
def CFr_o1e0 (n4 n5:Nat) (v_0_0:Int) (s_0_1:List UInt8) (m_1:Nat) (x_1:List Str) (m_2:Nat) (x_2:List Str):St:={ tm:=[(2,.s SV.junk),(3,.s (.ptr 0 0 2)),(4,.s (.own 1 n4 1)),(5,.s (.own 2 n5 1))],hp:=[(0,{ ty:=26,n:=2,row:=Row.mix [.pl (.int .u64 v_0_0),.pl (.str s_0_1)] }),(1,{ ty:=9,n:=m_1,row:=Row.t (.strs x_1) }),(2,{ ty:=9,n:=m_2,row:=Row.t (.strs x_2) })],nx:=3,sz:=99 }
theorem CFr_r1 {β:Type} (fu:Nat) (G:Option St->Option β) (H:Ex->Option St->Option β) (n4 n5:Nat) (x22_0 x22_1:List Int) (x22_2 x22_3:List Str) (n22:Nat) (v23 v24 v_0_0:Int) (s_0_1:List UInt8) (m_1:Nat) (x_1:List Str) (m_2:Nat) (x_2:List Str):lpR prog (g_CFr T0 R0 T1 R1 f1a f1b f1c f1d f1e f1f f1g f1h T2 R2 f2a f2b T3 R3 f3a T4 R4 f4a f4b T5 R5 f5a) fu CFr_b1 G H (CFr_s1 n4 n5 x22_0 x22_1 x22_2 x22_3 n22 v23 v24 v_0_0 s_0_1 m_1 x_1 m_2 x_2)=bif decide (v24 < v23) then bif decide ((0:Int) <= v24 /\ v24 < (↑n22:Int)) then bif decide ((300:Int) < if (↑(List.length (x22_3.getD v24.toNat [])):Int) > (↑(List.length (x22_2.getD v24.toNat [])):Int) then (↑(List.length (x22_3.getD v24.toNat [])):Int) else (↑(List.length (x22_2.getD v24.toNat [])):Int)) then H Ex.ret (some (CFr_o1r true n4 n5 v_0_0 s_0_1 m_1 x_1 m_2 x_2)) else (R1 [.c (.mix [.pl (.int .u64 v_0_0),.pl (.str s_0_1)]),.int .u64 (x22_0.getD v24.toNat (0:Int)),.int .i64 (x22_1.getD v24.toNat (0:Int)),.str (x22_2.getD v24.toNat []),.str (x22_3.getD v24.toNat [])]).bind fun t=>bif decide (f1h t=(0:Int)) then (R2 [.c (.mix [.pl (.int .u64 (f1c t)),.pl (.int .u64 (f1d t)),.pl (.int .i64 (f1e t)),.pl (.str (f1f t)),.pl (.str (f1g t))])]).bind fun t_1=>bif decide (n4+1 <= 1099511627776) then (R3 [.c (.mix [.pl (.int .u64 (f1a t)),.pl (.str (f1b t))])]).bind fun t_2=>bif decide (n5+1 <= 1099511627776) then G (some (CFr_s1 (n4+1) (n5+1) x22_0 x22_1 x22_2 x22_3 n22 v23 (i64.wrap (v24+(1:Int))) (f1a t) (f1b t) ((n4+1)*1) (x_1++[f2a t_1]) ((n5+1)*1) (x_2++[f3a t_2]))) else none else none else G (some (CFr_s1 n4 n5 x22_0 x22_1 x22_2 x22_3 n22 v23 (i64.wrap (v24+(1:Int))) v_0_0 s_0_1 m_1 x_1 m_2 x_2)) else none else H (Ex.exit 0) (some (CFr_o1e0 n4 n5 v_0_0 s_0_1 m_1 x_1 m_2 x_2)):=by kernel_rfl
theorem CFr_c1r (fu:Nat) (b2:Bool) (n4 n5:Nat) (v_0_0:Int) (s_0_1:List UInt8) (m_1:Nat) (x_1:List Str) (m_2:Nat) (x_2:List Str):CFr_k1 T0 R0 T1 R1 f1a f1b f1c f1d f1e f1f f1g f1h T2 R2 f2a f2b T3 R3 f3a T4 R4 f4a f4b T5 R5 f5a fu  Ex.ret (CFr_o1r b2 n4 n5 v_0_0 s_0_1 m_1 x_1 m_2 x_2)=some (AV.bool b2):=by kernel_rfl
def CFr_s2 (n4 n68:Nat) (v69 v70 v_0_0:Int) (s_0_1:List UInt8) (m_1:Nat) (x_1:List Str) (m_2:Nat) (x_2:List Str):St:={ tm:=[(3,.s (.ptr 0 0 2)),(4,.s (.own 1 n4 1)),(68,.s (.own 2 n68 1)),(69,.int .i64 v69),(70,.int .i64 v70)],hp:=[(0,{ ty:=26,n:=2,row:=Row.mix [.pl (.int .u64 v_0_0),.pl (.str s_0_1)] }),(1,{ ty:=9,n:=m_1,row:=Row.t (.strs x_1) }),(2,{ ty:=9,n:=m_2,row:=Row.t (.strs x_2) })],nx:=3,sz:=99 }
def CFr_b2:Code:=bodyL (codeAt [1,1,1,1,1,1,0,1,2] (codeF f_opalinelaw19_ChainFront))
def CFr_k2 (fu:Nat):=kAt prog (g_CFr T0 R0 T1 R1 f1a f1b f1c f1d f1e f1f f1g f1h T2 R2 f2a f2b T3 R3 f3a T4 R4 f4a f4b T5 R5 f5a) fu [1,1,1,1,1,1,0,1,2] (codeF f_opalinelaw19_ChainFront) (kFin prog f_opalinelaw19_ChainFront)
abbrev CFr_L2 (fu:Nat) (n4 n68:Nat) (v69 v70 v_0_0:Int) (s_0_1:List UInt8) (m_1:Nat) (x_1:List Str) (m_2:Nat) (x_2:List Str):=lpA prog (g_CFr T0 R0 T1 R1 f1a f1b f1c f1d f1e f1f f1g f1h T2 R2 f2a f2b T3 R3 f3a T4 R4 f4a f4b T5 R5 f5a) fu CFr_b2 (CFr_k2 T0 R0 T1 R1 f1a f1b f1c f1d f1e f1f f1g f1h T2 R2 f2a f2b T3 R3 f3a T4 R4 f4a f4b T5 R5 f5a fu ) fu (some (CFr_s2 n4 n68 v69 v70 v_0_0 s_0_1 m_1 x_1 m_2 x_2))
theorem CFr_c1e0 (fu:Nat) (n4 n5:Nat) (v_0_0:Int) (s_0_1:List UInt8) (m_1:Nat) (x_1:List Str) (m_2:Nat) (x_2:List Str):CFr_k1 T0 R0 T1 R1 f1a f1b f1c f1d f1e f1f f1g f1h T2 R2 f2a f2b T3 R3 f3a T4 R4 f4a f4b T5 R5 f5a fu  (Ex.exit 0) (CFr_o1e0 n4 n5 v_0_0 s_0_1 m_1 x_1 m_2 x_2)=CFr_L2 T0 R0 T1 R1 f1a f1b f1c f1d f1e f1f f1g f1h T2 R2 f2a f2b T3 R3 f3a T4 R4 f4a f4b T5 R5 f5a fu n4 n5 (↑n5:Int) (0:Int) v_0_0 s_0_1 m_1 x_1 m_2 x_2:=by kernel_rfl
def CFr_o2r (b2:Bool) (n4:Nat) (v_0_0:Int) (s_0_1:List UInt8) (m_1:Nat) (x_1:List Str):St:={ tm:=[(2,.bool b2),(3,.s (.ptr 0 0 2)),(4,.s (.own 1 n4 1))],hp:=[(0,{ ty:=26,n:=2,row:=Row.mix [.pl (.int .u64 v_0_0),.pl (.str s_0_1)] }),(1,{ ty:=9,n:=m_1,row:=Row.t (.strs x_1) })],nx:=2,sz:=99 }
def CFr_o2e2 (n4:Nat) (v_0_0:Int) (s_0_1:List UInt8) (m_1:Nat) (x_1:List Str):St:={ tm:=[(2,.s SV.junk),(3,.s (.ptr 0 0 2)),(4,.s (.own 1 n4 1))],hp:=[(0,{ ty:=26,n:=2,row:=Row.mix [.pl (.int .u64 v_0_0),.pl (.str s_0_1)] }),(1,{ ty:=9,n:=m_1,row:=Row.t (.strs x_1) })],nx:=2,sz:=99 }
theorem CFr_r2 {β:Type} (fu:Nat) (G:Option St->Option β) (H:Ex->Option St->Option β) (n4 n68:Nat) (v69 v70 v_0_0:Int) (s_0_1:List UInt8) (m_1:Nat) (x_1:List Str) (m_2:Nat) (x_2:List Str):lpR prog (g_CFr T0 R0 T1 R1 f1a f1b f1c f1d f1e f1f f1g f1h T2 R2 f2a f2b T3 R3 f3a T4 R4 f4a f4b T5 R5 f5a) fu CFr_b2 G H (CFr_s2 n4 n68 v69 v70 v_0_0 s_0_1 m_1 x_1 m_2 x_2)=bif decide (v70 < v69) then bif decide ((0:Int) <= v70 /\ v70 < (↑n68:Int)) then bif decide ((0:Int) <= (0:Int) /\ (0:Int) <= i64.wrap (v70+(1:Int)) /\ i64.wrap (v70+(1:Int)) <= (↑n4:Int)) then (R4 [.str (x_2.getD v70.toNat []),.s (.dat (.strs (List.take ((i64.wrap (v70+(1:Int)) - (0:Int)).toNat*1) (List.drop 0 x_1))) (i64.wrap (v70+(1:Int)) - (0:Int)).toNat 1)]).bind fun t=>bif !decide (f4a t=i64.wrap (v70+(1:Int))) || !decide (f4b t=(0:Int)) then H Ex.ret (some (CFr_o2r false n4 v_0_0 s_0_1 m_1 x_1)) else G (some (CFr_s2 n4 n68 v69 (i64.wrap (v70+(1:Int))) v_0_0 s_0_1 m_1 x_1 m_2 x_2)) else none else none else H (Ex.exit 2) (some (CFr_o2e2 n4 v_0_0 s_0_1 m_1 x_1)):=by kernel_rfl
theorem CFr_c2e2 (fu:Nat) (n4:Nat) (v_0_0:Int) (s_0_1:List UInt8) (m_1:Nat) (x_1:List Str):CFr_k2 T0 R0 T1 R1 f1a f1b f1c f1d f1e f1f f1g f1h T2 R2 f2a f2b T3 R3 f3a T4 R4 f4a f4b T5 R5 f5a fu  (Ex.exit 2) (CFr_o2e2 n4 v_0_0 s_0_1 m_1 x_1)=(R5 [.c (.mix [.pl (.int .u64 v_0_0),.pl (.str s_0_1)])]).bind fun t=>some (AV.bool (decide (f5a t=u64.wrap (↑n4:Int)))):=by kernel_rfl
end
set_option maxRecDepth 4000
abbrev z64:Str:=List.replicate 64 0
structure ChI (c:Nat) (h:Str) (l hs:List Str):Prop where
 len:l.length=c
 len2:hs.length=c
 head:headF c h=l.foldl linkF z64
 each:∀ j,j < c->hs.getD j []=(l.take (j+1)).foldl linkF z64 /\ ∃ e,parE (l.getD j [])=(e,0) /\ e.seq=j
 sz:∀ t ∈ l,t.length <= 1000000
 hl:h.length <= 64
theorem ChI.nil:ChI 0 [] [] []:=⟨rfl,rfl,rfl,fun j hj=>by omega,fun t ht=>(by cases ht),by decide⟩
theorem getD_snoc {α:Type} (l:List α) (x d:α) (j:Nat):(l++[x]).getD j d=if j < l.length then l.getD j d else if j=l.length then x else d:=by
 rw [List.getD_eq_getElem?_getD,List.getD_eq_getElem?_getD]
 split
 ·rw [List.getElem?_append_left (by omega)]
 ·rw [List.getElem?_append_right (by omega)]
  split
  ·rename_i e; subst e; rw [Nat.sub_self]; rfl
  ·rw [List.getElem?_eq_none (by simp only [List.length_cons,List.length_nil]; omega)]; rfl
theorem ChI.snoc {c:Nat} {h:Str} {l hs:List Str} (I:ChI c h l hs) {e:En} (he:e.seq=c) (ht:e.tick < 18446744073709551616) (hc:c < 1000) (ok:(textE e).2=0) :
  ChI (c+1) (linkF (headF c h) (textE e).1) (l++[(textE e).1]) (hs++[headF (c+1) (linkF (headF c h) (textE e).1)]):=by
 have hp:=text_par ok (by omega) ht
 have hl:=text_len e
 generalize (textE e).1=u at *
 have hn:headF (c+1) (linkF (headF c h) u)=linkF (headF c h) u:=by rw [headF,if_neg (by omega)]
 have hf:linkF (headF c h) u=(l++[u]).foldl linkF z64:=by rw [List.foldl_append,I.head]; rfl
 refine ⟨by rw [List.length_append,I.len]; rfl,by rw [List.length_append,I.len2]; rfl,hn.trans hf,fun j hj=>?_,fun t hm=>?_,Nat.le_of_eq (link_len _ _)⟩
 ·rw [getD_snoc,getD_snoc,I.len2,I.len]
  by_cases c1:j < c
  ·rw [if_pos c1,if_pos c1,List.take_append_of_le_length (by rw [I.len]; omega)]
   exact I.each j c1
  ·have ej:j=c:=by omega
   rw [if_neg c1,if_neg c1,if_pos ej,if_pos ej,ej,List.take_of_length_le (by rw [List.length_append,I.len]; exact Nat.le_refl _),hn]
   exact ⟨hf,e,hp,he⟩
 ·rcases List.mem_append.1 hm with hm | hm
  ·exact I.sz t hm
  ·rw [List.mem_singleton.1 hm]; omega
theorem run_AddC {c tk:Nat} {h:Str} {k:Int} {s t:Str} (hc:c < 18446744073709551616) (ht:tk < 18446744073709551616) (hh:h.length <= 1099511627) :
  rAddC [.c (.mix [.pl (.int .u64 (c:Int)),.pl (.str h)]),.int .u64 (tk:Int),.int .i64 k,.str s,.str t]=some (addC c h ⟨c,tk,k,s,t⟩):=by
 simp only [rAddC,sAddC,Int.toNat_natCast]
 have h1:in64 (c:Int)=true:=decide_eq_true (by omega)
 have h2:in64 (tk:Int)=true:=decide_eq_true (by omega)
 rw [h1,h2,decide_eq_true hh]; rfl
abbrev gI_CFr:Cg:=g_CFr (PUnit) rTrue (Nat × Str × En × Int) rAddC (fun t=>↑t.fst) (fun t=>t.snd.fst) (fun t=>↑t.snd.snd.fst.seq) (fun t=>↑t.snd.snd.fst.tick) (fun t=>t.snd.snd.fst.kind) (fun t=>t.snd.snd.fst.name) (fun t=>t.snd.snd.fst.note) (fun t=>t.snd.snd.snd) (Str × Int) rTextE (fun t=>t.fst) (fun t=>t.snd) (List UInt8) rHead (fun t=>t) (Int × Int) rVerL (fun t=>t.fst) (fun t=>t.snd) (Int) rLen1 (fun t=>t)
theorem gok_CFr:CfOk prog gI_CFr.c:=⟨gam_cons ok_awake19 <| gam_cons ok_AddC <| gam_cons ok_TextE <| gam_cons ok_Head <| gam_cons ok_VerL <| gam_cons ok_Len1 <| gam_nil,fun _ _ h=>by cases h⟩
theorem cf_loop2 {c:Nat} {h:Str} {l hs:List Str} (I:ChI c h l hs) (hc:c < 1000) (fu:Nat):∀ (d n i:Nat),i+d=c->d < n ->
  lpA prog gI_CFr fu CFr_b2 (CFr_k2 _ rTrue _ rAddC (fun t=>↑t.fst) (fun t=>t.snd.fst) (fun t=>↑t.snd.snd.fst.seq) (fun t=>↑t.snd.snd.fst.tick) (fun t=>t.snd.snd.fst.kind) (fun t=>t.snd.snd.fst.name) (fun t=>t.snd.snd.fst.note) (fun t=>t.snd.snd.snd) _ rTextE (fun t=>t.fst) (fun t=>t.snd) _ rHead (fun t=>t) _ rVerL (fun t=>t.fst) (fun t=>t.snd) _ rLen1 (fun t=>t) fu) n
   (some (CFr_s2 c c (c:Int) (i:Int) (c:Int) h c l c hs))=some (.bool true):=by
 intro d
 induction d with
 | zero=>
  intro n i hi hn
  obtain ⟨n,rfl⟩:=Nat.exists_eq_succ_of_ne_zero (by omega:n ≠ 0)
  rw [lpA_succ,CFr_r2,decide_eq_false (by omega),cond_false,kOut_some,CFr_c2e2,show rLen1 [AV.c (CV.mix [SV.pl (Pl.int u64 (c:Int)),SV.pl (Pl.str h)])]=some (c:Int) from rfl,Option.bind_some,wu64 (by omega) (by omega),decide_eq_true rfl]
 | succ d ih=>
  intro n i hi hn
  obtain ⟨n,rfl⟩:=Nat.exists_eq_succ_of_ne_zero (by omega:n ≠ 0)
  have h':=ih n (i+1) (by omega) (by omega)
  obtain ⟨e1,_⟩:=I.each i (by omega)
  have ll:=I.len
  have hv:=run_VerL (s:=hs.getD i []) (l:=l.take (i+1)) (n:=i+1) (by rw [List.length_take]; omega) (by omega) (fun t ht=>I.sz t (List.mem_of_mem_take ht))
  have hg:=ver_good (hs.getD i []) (l.take (i+1)) 0 z64 (fun j hj=>by
   rw [List.length_take] at hj
   obtain ⟨e,q1,q2⟩:=(I.each j (by omega)).2
   refine ⟨e,?_,by omega⟩
   rw [List.getD_eq_getElem?_getD,List.getElem?_take_of_lt (by omega),<-List.getD_eq_getElem?_getD]
   exact q1)
  rw [<-e1,decide_eq_true rfl,cond_true,List.length_take,Nat.min_eq_left (by omega),Nat.zero_add] at hg
  rw [hg] at hv
  have w1:i64.wrap ((i:Int)+1)=((i+1:Nat):Int):=by rw [wi64 (by omega) (by omega)]; omega
  rw [lpA_succ,CFr_r2,decide_eq_true (by omega),cond_true,decide_eq_true (by omega),cond_true,w1,decide_eq_true (by omega),cond_true,Int.toNat_natCast,show (((i+1:Nat):Int) - 0).toNat=i+1 by omega,Nat.mul_one,List.drop_zero,hv,Option.bind_some]
  dsimp only
  rw [decide_eq_true rfl,decide_eq_true rfl]
  exact h'
theorem cf_loop (tk k:List Int) (s t:List Str) (N:Nat) (hN:N < 1000) (htk:∀ i,∃ m:Nat,tk.getD i 0=(m:Int) /\ m < 18446744073709551616) (fu:Nat) (hfu:N < fu):∀ (d n i c:Nat) (h:Str) (l hs:List Str),i+d=N->d < n->ChI c h l hs->c <= i ->
  lpA prog gI_CFr fu CFr_b1 (CFr_k1 _ rTrue _ rAddC (fun t=>↑t.fst) (fun t=>t.snd.fst) (fun t=>↑t.snd.snd.fst.seq) (fun t=>↑t.snd.snd.fst.tick) (fun t=>t.snd.snd.fst.kind) (fun t=>t.snd.snd.fst.name) (fun t=>t.snd.snd.fst.note) (fun t=>t.snd.snd.snd) _ rTextE (fun t=>t.fst) (fun t=>t.snd) _ rHead (fun t=>t) _ rVerL (fun t=>t.fst) (fun t=>t.snd) _ rLen1 (fun t=>t) fu) n
   (some (CFr_s1 c c tk k s t N (N:Int) (i:Int) (c:Int) h c l c hs))=some (.bool true):=by
 intro d
 induction d with
 | zero=>
  intro n i c h l hs hi hn I hc
  obtain ⟨n,rfl⟩:=Nat.exists_eq_succ_of_ne_zero (by omega:n ≠ 0)
  rw [lpA_succ,CFr_r1,decide_eq_false (by omega),cond_false,kOut_some,CFr_c1e0]
  exact cf_loop2 I (by omega) fu c fu 0 (by omega) (by omega)
 | succ d ih=>
  intro n i c h l hs hi hn I hc
  obtain ⟨n,rfl⟩:=Nat.exists_eq_succ_of_ne_zero (by omega:n ≠ 0)
  rw [lpA_succ,CFr_r1,decide_eq_true (by omega),cond_true,decide_eq_true (by omega),cond_true,Int.toNat_natCast]
  obtain ⟨m,em,hm⟩:=htk i
  rw [em]
  generalize k.getD i 0=kd
  generalize s.getD i []=nm
  generalize t.getD i []=nt
  by_cases c1:(300:Int) < (if ((nt.length:Nat):Int) > ((nm.length:Nat):Int) then ((nt.length:Nat):Int) else ((nm.length:Nat):Int))
  ·rw [decide_eq_true c1,cond_true,kOut_some,CFr_c1r]
  ·have w1:i64.wrap ((i:Int)+1)=((i+1:Nat):Int):=by rw [wi64 (by omega) (by omega)]; omega
   have hh:=I.hl
   have ra:=run_AddC (c:=c) (tk:=m) (h:=h) (k:=kd) (s:=nm) (t:=nt) (by omega) hm (by omega)
   rw [decide_eq_false c1,cond_false,ra,Option.bind_some,w1]
   by_cases ok:(textE ⟨c,m,kd,nm,nt⟩).2=0
   ·have ea:addC c h ⟨c,m,kd,nm,nt⟩=(c+1,linkF (headF c h) (textE ⟨c,m,kd,nm,nt⟩).1,⟨c,m,kd,nm,nt⟩,0):=by rw [addC,if_pos ok,Nat.mod_eq_of_lt (by omega)]
    have rt:=run_TextE (e:=⟨c,m,kd,nm,nt⟩) (by show c < _; omega) hm
    simp only [eEn] at rt
    have I':=I.snoc (e:=⟨c,m,kd,nm,nt⟩) rfl hm (by omega) ok
    have h':=ih n (i+1) (c+1) _ _ _ (by omega) (by omega) I' (by omega)
    have rh:=run_Head (n:=c+1) (h:=linkF (headF c h) (textE ⟨c,m,kd,nm,nt⟩).1) (by omega)
    rw [ea]
    dsimp only
    rw [decide_eq_true rfl,cond_true,rt,Option.bind_some,decide_eq_true (by omega),cond_true,rh,Option.bind_some,cond_true,Nat.mul_one]
    exact h'
   ·have ea:addC c h ⟨c,m,kd,nm,nt⟩=(0,[],en0,(textE ⟨c,m,kd,nm,nt⟩).2):=by rw [addC,if_neg ok]
    rw [ea]
    dsimp only
    rw [decide_eq_false ok,cond_false]
    exact ih n (i+1) c h l hs (by omega) (by omega) I (by omega)
def okTk (tk:List Int):Bool:=tk.all fun x=>decide (0 <= x /\ x < 18446744073709551616)
theorem okTk_get {tk:List Int} (h:okTk tk=true) (i:Nat):∃ m:Nat,tk.getD i 0=(m:Int) /\ m < 18446744073709551616:=by
 have:0 <= tk.getD i 0 /\ tk.getD i 0 < 18446744073709551616:=by
  rw [List.getD_eq_getElem?_getD]
  cases e:tk[i]? with
  | none=>exact ⟨by decide,by decide⟩
  | some x=>exact of_decide_eq_true (List.all_eq_true.1 h x (List.mem_of_getElem? e))
 obtain ⟨m,hm⟩:=Int.eq_ofNat_of_zero_le this.1
 exact ⟨m,hm,by omega⟩
def sLCF:Summ where
 T:=Unit
 run:=fun
  | [.c (.cdat [.ints .u64 tk,.ints .i64 k,.strs s,.strs t] n)]=>cond (okTk tk) (some ()) none
  | _=>none
 enc:=fun _=>.bool true
theorem ok_LCF:CallOk prog n_opalinelaw19_ChainFront sLCF:=by
 refine afunc_okE (g:=gI_CFr) (fu:=fun _=>17) mixed gok_CFr h_opalinelaw19_ChainFront (by kernel_rfl) ?_
 intro args t ht
 unfold sLCF at ht
 simp only at ht
 split at ht
 ·rename_i tk k s t n
  obtain ⟨h1,_⟩:=ctrueS ht
  refine (CFr_ev ..).trans ?_
  show _=some (AV.bool true)
  rw [show rTrue []=some () from rfl,Option.bind_some]
  by_cases c:15 < n
  ·rw [decide_eq_true (by omega),cond_true]
  ·rw [decide_eq_false (by omega),cond_false]
   exact cf_loop tk k s t n (by omega) (okTk_get h1) 17 (by omega) n 17 0 0 [] [] [] (by omega) (by omega) ChI.nil (by omega)
 ·cases ht
end
end Go.Eng
