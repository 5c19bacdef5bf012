import Derived.BigCall
import Derived.Test.YteipjabipehbpaaGreatZR2
import Derived.Test.YteipjabipehbpaaGreatZS0
namespace Go.Eng
open Go.IntKind (u64 i64 u8)
noncomputable section
open Go Go.Proofs
set_option linter.all false
def rr (x n:Nat):Nat:=x / 2 ^ n ||| x*2 ^ (64 - n)%18446744073709551616
def sRotL:Summ where
 T:=Nat
 run:=fun
  | [.c (.s (.pl (.int .u64 x))),.c (.s (.pl (.int .i64 k)))]=>cond (in64 x && decide (-63 <= k /\ k <= -1)) (some (rr x.toNat (-k).toNat)) none
  | _=>none
 enc:=fun t=>.int .u64 (t:Int)
def rRotL:List AV->Option Nat:=sRotL.run
def sTurn:Summ where
 T:=Nat
 run:=fun
  | [.c (.s (.pl (.int .u64 x))),.c (.s (.pl (.int .i64 k)))]=>cond (in64 x && decide (1 <= k /\ k <= 63)) (some (rr x.toNat k.toNat)) none
  | _=>none
 enc:=fun t=>.int .u64 (t:Int)
def rTurn:List AV->Option Nat:=sTurn.run
def kN:List Nat:=[4794697086780616226,8158064640168781261,13096744586834688815,16840607885511220156,
 4131703408338449720,6480981068601479193,10538285296894168987,12329834152419229976,
 15566598209576043074,1334009975649890238,2608012711638119052,6128411473006802146,
 8268148722764581231,9286055187155687089,11230858885718282805,13951009754708518548,
 16472876342353939154,17275323862435702243,1135362057144423861,2597628984639134821,
 3308224258029322869,5365058923640841347,6679025012923562964,8573033837759648693,
 10970295158949994411,12119686244451234320,12683024718118986047,13788192230050041572,
 14330467153632333762,15395433587784984357,489312712824947311,1452737877330783856,
 2861767655752347644,3322285676063803686,5560940570517711597,5996557281743188959,
 7280758554555802590,8532644243296465576,9350256976987008742,10552545826968843579,
 11727347734174303076,12113106623233404929,14000437183269869457,14369950271660146224,
 15101387698204529176,15463397548674623760,17586052441742319658,1182934255886127544,
 1847814050463011016,2177327727835720531,2830643537854262169,3796741975233480872,
 4115178125766777443,5681478168544905931,6601373596472566643,7507060721942968483,
 8399075790359081724,8693463985226723168,9568029438360202098,10144078919501101548,
 10430055236837252648,11840083180663258601,13761210420658862357,14299343276471374635,
 14566680578165727644,15097957966210449927,16922976911328602910,17689382322260857208,
 500013540394364858,748580250866718886,1242879168328830382,1977374033974150939,
 2944078676154940804,3659926193048069267,4368137639120453308,4836135668995329356,
 5532061633213252278,6448918945643986474,6902733635092675308,7801388544844847127]
def hN:List Nat:=[7640891576956012808,13503953896175478587,4354685564936845355,11912009170470909681,
 5840696475078001361,11170449401992604703,2270897969802886507,6620516959819538809]
def up (l:List Nat):List Int:=l.map fun (n:Nat)=>(n:Int)
def dn (l:List Int):List Nat:=l.map Int.toNat
def sKeys:Summ where
 T:=Unit
 run:=fun
  | []=>some ()
  | _=>none
 enc:=fun _=>.agg (.ints .u64 (up kN)) 80
def rKeys:List AV->Option Unit:=sKeys.run
def sK:Summ where
 T:=Unit
 run:=fun
  | []=>some ()
  | _=>none
 enc:=fun _=>.s (.dat (.ints .u64 (up kN)) 80 1)
def rK:List AV->Option Unit:=sK.run
def sBegun:Summ where
 T:=Unit
 run:=fun
  | []=>some ()
  | _=>none
 enc:=fun _=>.agg (.ints .u64 (up hN)) 8
def rBegun:List AV->Option Unit:=sBegun.run
def W64 (n:Nat):Nat:=n%18446744073709551616
def g0 (x:Nat):Nat:=rr x 1 ^^^ rr x 8 ^^^ x / 128
def g1 (x:Nat):Nat:=rr x 19 ^^^ rr x 61 ^^^ x / 64
def e0 (x:Nat):Nat:=rr x 28 ^^^ rr x 34 ^^^ rr x 39
def e1 (x:Nat):Nat:=rr x 14 ^^^ rr x 18 ^^^ rr x 41
def wd (s:Str) (i:Nat):Nat->Nat
 | 0=>0
 | k+1=>wd s i k*256+(s.getD (8*i+k) 0).toNat
def blk (s:Str) (i:Nat):List Nat:=(List.range i).map (fun i=>wd s i 8)++List.replicate (80 - i) 0
def schStep (x:List Nat) (i:Nat):List Nat:=x.set i (W64 (x.getD (i - 16) 0+g0 (x.getD (i - 15) 0)+x.getD (i - 7) 0+g1 (x.getD (i - 2) 0)))
def sched (x:List Nat):Nat->List Nat
 | 0=>x
 | d+1=>schStep (sched x d) (16+d)
def spread (s:Str):List Nat:=sched (blk s 16) 64
def rnd (t:List Nat) (k w:Nat):List Nat :=
 let a:=t.getD 0 0
 let e:=t.getD 4 0
 let x:=W64 (t.getD 7 0+e1 e+((e &&& t.getD 5 0) ^^^ ((18446744073709551615 - e) &&& t.getD 6 0))+k+w)
 let y:=W64 (e0 a+((a &&& t.getD 1 0) ^^^ (a &&& t.getD 2 0) ^^^ (t.getD 1 0 &&& t.getD 2 0)))
 [W64 (x+y),t.getD 0 0,t.getD 1 0,t.getD 2 0,W64 (t.getD 3 0+x),t.getD 4 0,t.getD 5 0,t.getD 6 0]
def rnds (w:List Nat) (t:List Nat):Nat->List Nat
 | 0=>t
 | i+1=>rnd (rnds w t i) (kN.getD i 0) (w.getD i 0)
def mixN (s t:List Nat):Nat->List Nat
 | 0=>s
 | i+1=>(mixN s t i).set i (W64 ((mixN s t i).getD i 0+t.getD i 0))
def nextN (s:List Nat) (b:Str):List Nat:=mixN s (rnds (spread b) s 80) 8
def sSpread:Summ where
 T:=List Nat
 run:=fun
  | [.c (.s (.pl (.str s)))]=>cond (Nat.beq s.length 128) (some (spread s)) none
  | _=>none
 enc:=fun t=>.agg (.ints .u64 (up t)) 80
def rSpread:List AV->Option (List Nat):=sSpread.run
abbrev P80 (k:List Int):AV:=.s (.rptr (.ints .u64 k) 0 80)
def ok8W (l:List Int):Bool:=Nat.beq l.length 8 && okL l
def sNext:Summ where
 T:=List Nat
 run:=fun
  | [.c (.s (.pl (.agg (.ints .u64 h) 8))),.c (.s (.rptr (.ints .u64 k) 0 80)),.c (.s (.pl (.str b)))]=>cond (ok8W h && decide (k=up kN) && Nat.beq b.length 128) (some (nextN (dn h) b)) none
  | _=>none
 enc:=fun t=>.agg (.ints .u64 (up t)) 8
def rNext:List AV->Option (List Nat):=sNext.run
def padN (t:Str):Str:=t++([128]++Lib.repeatL [0] ((247 - t.length%128)%128))
def be (n:Nat):Nat->Str
 | 0=>[]
 | k+1=>be n k++[b8 ((n / 2 ^ (8*(7 - k))%256:Nat):Int)]
def full (t:Str):Str:=padN t++be (t.length*8) 8
def blocks (h:List Nat):Nat->Str->List Nat
 | 0,_=>h
 | k+1,s=>blocks (nextN h (s.take 128)) k (s.drop 128)
def outB (h:List Nat) (k:Nat):List Nat:=(List.range k).map fun i=>h.getD (i / 8) 0 / 2 ^ (56 - 8*(i%8))%256
def sumB (t:Str):List Nat:=outB (blocks hN ((full t).length / 128) (full t)) 64
def okSum (ss:List Str) (n:Nat):Bool:=Nat.beq n ss.length && Nat.ble ss.length 1048576 && Nat.ble (Lib.join ss []).length 1099511627776
def sSum:Summ where
 T:=List Nat
 run:=fun
  | [.c (.s (.dat (.strs ss) n 1))]=>cond (okSum ss n) (some (sumB (Lib.join ss []))) none
  | _=>none
 enc:=fun t=>.agg (.ints .u8 (up t)) 64
def rSum:List AV->Option (List Nat):=sSum.run
def g_ShRL:Cg:=⟨⟨gam [],[],noE⟩,[]⟩
theorem ShRL_ev (fu:Nat) (x k:Int):afunc prog fF174 g_ShRL fu [.int .u64 x,.int .i64 k]=bif decide (u64.wrap ((64:Int) - bAnd .u64 (u64.wrap k) (63:Int)) < (0:Int)) then none else some (AV.int .u64 (bOr .u64 (bShl .u64 x (bAnd .u64 (u64.wrap k) (63:Int))) (bShr .u64 x (u64.wrap ((64:Int) - bAnd .u64 (u64.wrap k) (63:Int)))))):=by kernel_rfl
section
variable (T0:Type) (R0:List AV->Option T0) (f0a:T0->Int)
def g_ShTU:Cg:=⟨⟨gam [(nF174,⟨R0,fun t=>AV.int .u64 (f0a t)⟩)],[],noE⟩,[]⟩
theorem ShTU_ev (fu:Nat) (x k:Int):afunc prog fF159 (g_ShTU T0 R0 f0a) fu [.int .u64 x,.int .i64 k]=(R0 [.int .u64 x,.int .i64 (i64.wrap ((0:Int) - k))]).bind fun t=>some (AV.int .u64 (f0a t)):=by kernel_rfl
end
def g_ShRT:Cg:=⟨⟨gam [],[],noE⟩,[]⟩
theorem ShRT_ev (fu:Nat) (x k:Int):afunc prog fF140 g_ShRT fu [.int .u64 x,.int .i64 k]=bif decide (k < (0:Int)) then none else bif decide (i64.wrap ((64:Int) - k) < (0:Int)) then none else some (AV.int .u64 (bOr .u64 (bShr .u64 x k) (bShl .u64 x (i64.wrap ((64:Int) - k))))):=by kernel_rfl
def g_ShBG:Cg:=⟨⟨gam [],[],noE⟩,[]⟩
theorem ShBG_ev (fu:Nat):afunc prog fF133 g_ShBG fu []=some (AV.agg (.ints .u64 ([(7640891576956012808:Int)]++([(13503953896175478587:Int)]++([(4354685564936845355:Int)]++([(11912009170470909681:Int)]++([(5840696475078001361:Int)]++([(11170449401992604703:Int)]++([(2270897969802886507:Int)]++[(6620516959819538809:Int)])))))))) 8):=by kernel_rfl
def g_ShKY:Cg:=⟨⟨gam [],[],noE⟩,[]⟩
theorem ShKY_ev (fu:Nat):afunc prog fF134 g_ShKY fu []=some (AV.agg (.ints .u64 ([(4794697086780616226:Int)]++([(8158064640168781261:Int)]++([(13096744586834688815:Int)]++([(16840607885511220156:Int)]++([(4131703408338449720:Int)]++([(6480981068601479193:Int)]++([(10538285296894168987:Int)]++([(12329834152419229976:Int)]++([(15566598209576043074:Int)]++([(1334009975649890238:Int)]++([(2608012711638119052:Int)]++([(6128411473006802146:Int)]++([(8268148722764581231:Int)]++([(9286055187155687089:Int)]++([(11230858885718282805:Int)]++([(13951009754708518548:Int)]++([(16472876342353939154:Int)]++([(17275323862435702243:Int)]++([(1135362057144423861:Int)]++([(2597628984639134821:Int)]++([(3308224258029322869:Int)]++([(5365058923640841347:Int)]++([(6679025012923562964:Int)]++([(8573033837759648693:Int)]++([(10970295158949994411:Int)]++([(12119686244451234320:Int)]++([(12683024718118986047:Int)]++([(13788192230050041572:Int)]++([(14330467153632333762:Int)]++([(15395433587784984357:Int)]++([(489312712824947311:Int)]++([(1452737877330783856:Int)]++([(2861767655752347644:Int)]++([(3322285676063803686:Int)]++([(5560940570517711597:Int)]++([(5996557281743188959:Int)]++([(7280758554555802590:Int)]++([(8532644243296465576:Int)]++([(9350256976987008742:Int)]++([(10552545826968843579:Int)]++([(11727347734174303076:Int)]++([(12113106623233404929:Int)]++([(14000437183269869457:Int)]++([(14369950271660146224:Int)]++([(15101387698204529176:Int)]++([(15463397548674623760:Int)]++([(17586052441742319658:Int)]++([(1182934255886127544:Int)]++([(1847814050463011016:Int)]++([(2177327727835720531:Int)]++([(2830643537854262169:Int)]++([(3796741975233480872:Int)]++([(4115178125766777443:Int)]++([(5681478168544905931:Int)]++([(6601373596472566643:Int)]++([(7507060721942968483:Int)]++([(8399075790359081724:Int)]++([(8693463985226723168:Int)]++([(9568029438360202098:Int)]++([(10144078919501101548:Int)]++([(10430055236837252648:Int)]++([(11840083180663258601:Int)]++([(13761210420658862357:Int)]++([(14299343276471374635:Int)]++([(14566680578165727644:Int)]++([(15097957966210449927:Int)]++([(16922976911328602910:Int)]++([(17689382322260857208:Int)]++([(500013540394364858:Int)]++([(748580250866718886:Int)]++([(1242879168328830382:Int)]++([(1977374033974150939:Int)]++([(2944078676154940804:Int)]++([(3659926193048069267:Int)]++([(4368137639120453308:Int)]++([(4836135668995329356:Int)]++([(5532061633213252278:Int)]++([(6448918945643986474:Int)]++([(6902733635092675308:Int)]++[(7801388544844847127:Int)])))))))))))))))))))))))))))))))))))))))))))))))))))))))))))))))))))))))))))))))) 80):=by kernel_rfl
def g_ShKK:Cg:=⟨⟨gam [],[],noE⟩,[]⟩
theorem ShKK_ev (fu:Nat):afunc prog fF139 g_ShKK fu []=some (AV.s (.dat (.ints .u64 ([(4794697086780616226:Int)]++([(8158064640168781261:Int)]++([(13096744586834688815:Int)]++([(16840607885511220156:Int)]++([(4131703408338449720:Int)]++([(6480981068601479193:Int)]++([(10538285296894168987:Int)]++([(12329834152419229976:Int)]++([(15566598209576043074:Int)]++([(1334009975649890238:Int)]++([(2608012711638119052:Int)]++([(6128411473006802146:Int)]++([(8268148722764581231:Int)]++([(9286055187155687089:Int)]++([(11230858885718282805:Int)]++([(13951009754708518548:Int)]++([(16472876342353939154:Int)]++([(17275323862435702243:Int)]++([(1135362057144423861:Int)]++([(2597628984639134821:Int)]++([(3308224258029322869:Int)]++([(5365058923640841347:Int)]++([(6679025012923562964:Int)]++([(8573033837759648693:Int)]++([(10970295158949994411:Int)]++([(12119686244451234320:Int)]++([(12683024718118986047:Int)]++([(13788192230050041572:Int)]++([(14330467153632333762:Int)]++([(15395433587784984357:Int)]++([(489312712824947311:Int)]++([(1452737877330783856:Int)]++([(2861767655752347644:Int)]++([(3322285676063803686:Int)]++([(5560940570517711597:Int)]++([(5996557281743188959:Int)]++([(7280758554555802590:Int)]++([(8532644243296465576:Int)]++([(9350256976987008742:Int)]++([(10552545826968843579:Int)]++([(11727347734174303076:Int)]++([(12113106623233404929:Int)]++([(14000437183269869457:Int)]++([(14369950271660146224:Int)]++([(15101387698204529176:Int)]++([(15463397548674623760:Int)]++([(17586052441742319658:Int)]++([(1182934255886127544:Int)]++([(1847814050463011016:Int)]++([(2177327727835720531:Int)]++([(2830643537854262169:Int)]++([(3796741975233480872:Int)]++([(4115178125766777443:Int)]++([(5681478168544905931:Int)]++([(6601373596472566643:Int)]++([(7507060721942968483:Int)]++([(8399075790359081724:Int)]++([(8693463985226723168:Int)]++([(9568029438360202098:Int)]++([(10144078919501101548:Int)]++([(10430055236837252648:Int)]++([(11840083180663258601:Int)]++([(13761210420658862357:Int)]++([(14299343276471374635:Int)]++([(14566680578165727644:Int)]++([(15097957966210449927:Int)]++([(16922976911328602910:Int)]++([(17689382322260857208:Int)]++([(500013540394364858:Int)]++([(748580250866718886:Int)]++([(1242879168328830382:Int)]++([(1977374033974150939:Int)]++([(2944078676154940804:Int)]++([(3659926193048069267:Int)]++([(4368137639120453308:Int)]++([(4836135668995329356:Int)]++([(5532061633213252278:Int)]++([(6448918945643986474:Int)]++([(6902733635092675308:Int)]++[(7801388544844847127:Int)])))))))))))))))))))))))))))))))))))))))))))))))))))))))))))))))))))))))))))))))) 80 1)):=by kernel_rfl
section
variable (T0:Type) (R0:List AV->Option T0) (f0a:T0->Int)
def g_ShSP:Cg:=⟨⟨gam [(nF159,⟨R0,fun t=>AV.int .u64 (f0a t)⟩)],[],noE⟩,[(4,[0,2,3,9],[2,3]),(7,[0,2,3,4,9,12],[0,2,3,9]),(13,[2,3,6],[2,3])]⟩
def ShSP_s1 (s0:Str) (v9:Int) (x_0 x_1:List Int):St:={ tm:=[(0,.str s0),(2,.s (.ptr 0 0 80)),(3,.s (.ptr 1 0 80)),(9,.int .i64 v9)],hp:=[(0,{ ty:=154,n:=80,row:=Row.t (.ints .u64 x_0) }),(1,{ ty:=154,n:=80,row:=Row.t (.ints .u64 x_1) })],nx:=2,sz:=73 }
def ShSP_b1:Code:=bodyL (codeAt [1,1,0,1,2] (codeF fF158))
def ShSP_k1 (fu:Nat):=kAt prog (g_ShSP T0 R0 f0a) fu [1,1,0,1,2] (codeF fF158) (kFin prog fF158)
abbrev ShSP_L1 (fu:Nat) (s0:Str) (v9:Int) (x_0 x_1:List Int):=lpA prog (g_ShSP T0 R0 f0a) fu ShSP_b1 (ShSP_k1 T0 R0 f0a fu ) fu (some (ShSP_s1 s0 v9 x_0 x_1))
theorem ShSP_ev (fu:Nat) (s:Str):afunc prog fF158 (g_ShSP T0 R0 f0a) fu [.str s]=ShSP_L1 T0 R0 f0a fu s (0:Int) [(0:Int),0,0,0,0,0,0,0,0,0,0,0,0,0,0,0,0,0,0,0,0,0,0,0,0,0,0,0,0,0,0,0,0,0,0,0,0,0,0,0,0,0,0,0,0,0,0,0,0,0,0,0,0,0,0,0,0,0,0,0,0,0,0,0,0,0,0,0,0,0,0,0,0,0,0,0,0,0,0,0] [(0:Int),0,0,0,0,0,0,0,0,0,0,0,0,0,0,0,0,0,0,0,0,0,0,0,0,0,0,0,0,0,0,0,0,0,0,0,0,0,0,0,0,0,0,0,0,0,0,0,0,0,0,0,0,0,0,0,0,0,0,0,0,0,0,0,0,0,0,0,0,0,0,0,0,0,0,0,0,0,0,0]:=by kernel_rfl
def ShSP_s2 (s0:Str) (v4 v9 v12:Int) (x_0 x_1:List Int):St:={ tm:=[(0,.str s0),(2,.s (.ptr 0 0 80)),(3,.s (.ptr 1 0 80)),(4,.int .i64 v4),(9,.int .i64 v9),(12,.int .i64 v12)],hp:=[(0,{ ty:=154,n:=80,row:=Row.t (.ints .u64 x_0) }),(1,{ ty:=154,n:=80,row:=Row.t (.ints .u64 x_1) })],nx:=2,sz:=73 }
def ShSP_b2:Code:=bodyL (codeAt [1,1,0,1,2,6,1,1,0,2,1,1,2] (codeF fF158))
def ShSP_k2 {β:Type} (fu:Nat) (G:Option St->Option β) (H:Ex->Option St->Option β):=kAt prog (g_ShSP T0 R0 f0a) fu [1,1,0,2,1,1,2] ShSP_b1 (kRound (g_ShSP T0 R0 f0a) ShSP_b1 G H)
abbrev ShSP_L2 {β:Type} (fu:Nat) (G:Option St->Option β) (H:Ex->Option St->Option β) (s0:Str) (v4 v9 v12:Int) (x_0 x_1:List Int):=lpA prog (g_ShSP T0 R0 f0a) fu ShSP_b2 (ShSP_k2 T0 R0 f0a fu G H) fu (some (ShSP_s2 s0 v4 v9 v12 x_0 x_1))
def ShSP_o1e0 (x_0 x_1:List Int):St:={ tm:=[(2,.s (.ptr 0 0 80)),(3,.s (.ptr 1 0 80))],hp:=[(0,{ ty:=154,n:=80,row:=Row.t (.ints .u64 x_0) }),(1,{ ty:=154,n:=80,row:=Row.t (.ints .u64 x_1) })],nx:=2,sz:=73 }
theorem ShSP_r1 {β:Type} (fu:Nat) (G:Option St->Option β) (H:Ex->Option St->Option β) (s0:Str) (v9:Int) (x_0 x_1:List Int):lpR prog (g_ShSP T0 R0 f0a) fu ShSP_b1 G H (ShSP_s1 s0 v9 x_0 x_1)=bif decide (v9 < (16:Int)) then ShSP_L2 T0 R0 f0a fu G H s0 v9 v9 (0:Int) x_0 x_1 else H (Ex.exit 0) (some (ShSP_o1e0 x_0 x_1)):=by kernel_rfl
def ShSP_o2e2 (s0:Str) (v9:Int) (x_0 x_1:List Int):St:={ tm:=[(0,.str s0),(2,.s (.ptr 0 0 80)),(3,.s (.ptr 1 0 80)),(9,.int .i64 v9)],hp:=[(0,{ ty:=154,n:=80,row:=Row.t (.ints .u64 x_0) }),(1,{ ty:=154,n:=80,row:=Row.t (.ints .u64 x_1) })],nx:=2,sz:=73 }
theorem ShSP_r2 {β:Type} (fu:Nat) (G:Option St->Option β) (H:Ex->Option St->Option β) (s0:Str) (v4 v9 v12:Int) (x_0 x_1:List Int):lpR prog (g_ShSP T0 R0 f0a) fu ShSP_b2 G H (ShSP_s2 s0 v4 v9 v12 x_0 x_1)=bif decide (v12 < (8:Int)) then bif decide ((0:Int) <= v4 /\ v4 < (80:Int)) then bif decide ((0:Int) <= i64.wrap (i64.wrap ((8:Int)*v4)+v12) /\ i64.wrap (i64.wrap ((8:Int)*v4)+v12) < (↑(List.length s0):Int)) then bif decide ((0:Int) <= v4 /\ v4 < (80:Int)) then G (some (ShSP_s2 s0 v4 v9 (i64.wrap (v12+(1:Int))) x_0 (x_1.set (0+v4.toNat) (bOr .u64 (bShl .u64 (x_1.getD (0+v4.toNat) (0:Int)) (8:Int)) (u64.wrap (↑(List.getD s0 (i64.wrap (i64.wrap ((8:Int)*v4)+v12)).toNat (0:UInt8)).toNat:Int)))))) else none else none else none else H (Ex.exit 2) (some (ShSP_o2e2 s0 v9 x_0 x_1)):=by kernel_rfl
def ShSP_s3 (v6:Int) (x_0 x_1:List Int):St:={ tm:=[(2,.s (.ptr 0 0 80)),(3,.s (.ptr 1 0 80)),(6,.int .i64 v6)],hp:=[(0,{ ty:=154,n:=80,row:=Row.t (.ints .u64 x_0) }),(1,{ ty:=154,n:=80,row:=Row.t (.ints .u64 x_1) })],nx:=2,sz:=73 }
def ShSP_b3:Code:=bodyL (codeAt [1,1,1,0,1,2] (codeF fF158))
def ShSP_k3 (fu:Nat):=kAt prog (g_ShSP T0 R0 f0a) fu [1,1,1,0,1,2] (codeF fF158) (kFin prog fF158)
abbrev ShSP_L3 (fu:Nat) (v6:Int) (x_0 x_1:List Int):=lpA prog (g_ShSP T0 R0 f0a) fu ShSP_b3 (ShSP_k3 T0 R0 f0a fu ) fu (some (ShSP_s3 v6 x_0 x_1))
theorem ShSP_c1e0 (fu:Nat) (x_0 x_1:List Int):ShSP_k1 T0 R0 f0a fu  (Ex.exit 0) (ShSP_o1e0 x_0 x_1)=ShSP_L3 T0 R0 f0a fu (16:Int) x_0 x_1:=by kernel_rfl
theorem ShSP_c2e2 {β:Type} (fu:Nat) (G:Option St->Option β) (H:Ex->Option St->Option β) (s0:Str) (v9:Int) (x_0 x_1:List Int):ShSP_k2 T0 R0 f0a fu G H (Ex.exit 2) (ShSP_o2e2 s0 v9 x_0 x_1)=G (some (ShSP_s1 s0 (i64.wrap (v9+(1:Int))) x_0 x_1)):=by kernel_rfl
def ShSP_o3e4 (x_0 x_1:List Int):St:={ tm:=[(2,.s (.ptr 0 0 80)),(3,.s (.ptr 1 0 80))],hp:=[(0,{ ty:=154,n:=80,row:=Row.t (.ints .u64 x_0) }),(1,{ ty:=154,n:=80,row:=Row.t (.ints .u64 x_1) })],nx:=2,sz:=73 }
theorem ShSP_r3 {β:Type} (fu:Nat) (G:Option St->Option β) (H:Ex->Option St->Option β) (v6:Int) (x_0 x_1:List Int):lpR prog (g_ShSP T0 R0 f0a) fu ShSP_b3 G H (ShSP_s3 v6 x_0 x_1)=bif decide (v6 < (80:Int)) then bif decide ((0:Int) <= i64.wrap (v6 - (15:Int)) /\ i64.wrap (v6 - (15:Int)) < (80:Int)) then bif decide ((0:Int) <= i64.wrap (v6 - (2:Int)) /\ i64.wrap (v6 - (2:Int)) < (80:Int)) then bif decide ((0:Int) <= i64.wrap (v6 - (16:Int)) /\ i64.wrap (v6 - (16:Int)) < (80:Int)) then (R0 [.int .u64 (x_1.getD (0+(i64.wrap (v6 - (15:Int))).toNat) (0:Int)),.int .i64 (1:Int)]).bind fun t=>(R0 [.int .u64 (x_1.getD (0+(i64.wrap (v6 - (15:Int))).toNat) (0:Int)),.int .i64 (8:Int)]).bind fun t_1=>bif decide ((0:Int) <= i64.wrap (v6 - (7:Int)) /\ i64.wrap (v6 - (7:Int)) < (80:Int)) then (R0 [.int .u64 (x_1.getD (0+(i64.wrap (v6 - (2:Int))).toNat) (0:Int)),.int .i64 (19:Int)]).bind fun t_2=>(R0 [.int .u64 (x_1.getD (0+(i64.wrap (v6 - (2:Int))).toNat) (0:Int)),.int .i64 (61:Int)]).bind fun t_3=>bif decide ((0:Int) <= v6 /\ v6 < (80:Int)) then G (some (ShSP_s3 (i64.wrap (v6+(1:Int))) x_0 (x_1.set (0+v6.toNat) (u64.wrap (u64.wrap (u64.wrap (x_1.getD (0+(i64.wrap (v6 - (16:Int))).toNat) (0:Int)+bXor .u64 (bXor .u64 (f0a t) (f0a t_1)) (bShr .u64 (x_1.getD (0+(i64.wrap (v6 - (15:Int))).toNat) (0:Int)) (7:Int)))+x_1.getD (0+(i64.wrap (v6 - (7:Int))).toNat) (0:Int))+bXor .u64 (bXor .u64 (f0a t_2) (f0a t_3)) (bShr .u64 (x_1.getD (0+(i64.wrap (v6 - (2:Int))).toNat) (0:Int)) (6:Int))))))) else none else none else none else none else none else H (Ex.exit 4) (some (ShSP_o3e4 x_0 x_1)):=by kernel_rfl
theorem ShSP_c3e4 (fu:Nat) (x_0 x_1:List Int):ShSP_k3 T0 R0 f0a fu  (Ex.exit 4) (ShSP_o3e4 x_0 x_1)=some (AV.agg (.ints .u64 x_1) 80):=by kernel_rfl
end
section
variable (T0:Type) (R0:List AV->Option T0) (f0a:T0->List Int) (T1:Type) (R1:List AV->Option T1) (f1a:T1->Int)
def g_ShNX:Cg:=⟨⟨gam [(nF158,⟨R0,fun t=>AV.agg (.ints .u64 (f0a t)) 80⟩),(nF159,⟨R1,fun t=>AV.int .u64 (f1a t)⟩)],[],noE⟩,[(5,[1,3,6,7,8,18],[3,6,8]),(13,[3,6,8,102],[3,6])]⟩
def ShNX_s1 (x1:List Int) (v18:Int) (x_0 x_1 x_2 x_3:List Int):St:={ tm:=[(1,.s (.rptr (.ints .u64 x1) 0 80)),(3,.s (.ptr 0 0 8)),(6,.s (.ptr 1 0 8)),(7,.s (.ptr 2 0 80)),(8,.s (.ptr 3 0 8)),(18,.int .i64 v18)],hp:=[(0,{ ty:=152,n:=8,row:=Row.t (.ints .u64 x_0) }),(1,{ ty:=152,n:=8,row:=Row.t (.ints .u64 x_1) }),(2,{ ty:=154,n:=80,row:=Row.t (.ints .u64 x_2) }),(3,{ ty:=152,n:=8,row:=Row.t (.ints .u64 x_3) })],nx:=4,sz:=115 }
def ShNX_b1:Code:=bodyL (codeAt [1,1,1,0,1,2] (codeF fF135))
def ShNX_k1 (fu:Nat):=kAt prog (g_ShNX T0 R0 f0a T1 R1 f1a) fu [1,1,1,0,1,2] (codeF fF135) (kFin prog fF135)
abbrev ShNX_L1 (fu:Nat) (x1:List Int) (v18:Int) (x_0 x_1 x_2 x_3:List Int):=lpA prog (g_ShNX T0 R0 f0a T1 R1 f1a) fu ShNX_b1 (ShNX_k1 T0 R0 f0a T1 R1 f1a fu ) fu (some (ShNX_s1 x1 v18 x_0 x_1 x_2 x_3))
theorem ShNX_ev (fu:Nat) (h k:List Int) (b:Str):afunc prog fF135 (g_ShNX T0 R0 f0a T1 R1 f1a) fu [W8 h,P80 k,.str b]=(R0 [.str b]).bind fun t=>ShNX_L1 T0 R0 f0a T1 R1 f1a fu k (0:Int) h [(0:Int),0,0,0,0,0,0,0] (f0a t) h:=by kernel_rfl
def ShNX_o1e0 (x_0 x_1 x_2:List Int):St:={ tm:=[(3,.s (.ptr 0 0 8)),(6,.s (.ptr 1 0 8)),(8,.s (.ptr 2 0 8))],hp:=[(0,{ ty:=152,n:=8,row:=Row.t (.ints .u64 x_0) }),(1,{ ty:=152,n:=8,row:=Row.t (.ints .u64 x_1) }),(2,{ ty:=152,n:=8,row:=Row.t (.ints .u64 x_2) })],nx:=3,sz:=115 }
theorem ShNX_r1 {β:Type} (fu:Nat) (G:Option St->Option β) (H:Ex->Option St->Option β) (x1:List Int) (v18:Int) (x_0 x_1 x_2 x_3:List Int):lpR prog (g_ShNX T0 R0 f0a T1 R1 f1a) fu ShNX_b1 G H (ShNX_s1 x1 v18 x_0 x_1 x_2 x_3)=bif decide (v18 < (80:Int)) then (R1 [.int .u64 (x_3.getD 4 (0:Int)),.int .i64 (14:Int)]).bind fun t=>(R1 [.int .u64 (x_3.getD 4 (0:Int)),.int .i64 (18:Int)]).bind fun t_1=>(R1 [.int .u64 (x_3.getD 4 (0:Int)),.int .i64 (41:Int)]).bind fun t_2=>bif decide ((0:Int) <= v18 /\ v18 < (80:Int)) then bif decide ((0:Int) <= v18 /\ v18 < (80:Int)) then (R1 [.int .u64 (x_3.getD 0 (0:Int)),.int .i64 (28:Int)]).bind fun t_3=>(R1 [.int .u64 (x_3.getD 0 (0:Int)),.int .i64 (34:Int)]).bind fun t_4=>(R1 [.int .u64 (x_3.getD 0 (0:Int)),.int .i64 (39:Int)]).bind fun t_5=>G (some (ShNX_s1 x1 (i64.wrap (v18+(1:Int))) x_0 x_1 x_2 ([u64.wrap (u64.wrap (u64.wrap (u64.wrap (u64.wrap (x_3.getD 7 (0:Int)+bXor .u64 (bXor .u64 (f1a t) (f1a t_1)) (f1a t_2))+bXor .u64 (bAnd .u64 (x_3.getD 4 (0:Int)) (x_3.getD 5 (0:Int))) (bAnd .u64 (bXor .u64 (18446744073709551615:Int) (x_3.getD 4 (0:Int))) (x_3.getD 6 (0:Int))))+x1.getD (0+v18.toNat) (0:Int))+x_2.getD (0+v18.toNat) (0:Int))+u64.wrap (bXor .u64 (bXor .u64 (f1a t_3) (f1a t_4)) (f1a t_5)+bXor .u64 (bXor .u64 (bAnd .u64 (x_3.getD 0 (0:Int)) (x_3.getD 1 (0:Int))) (bAnd .u64 (x_3.getD 0 (0:Int)) (x_3.getD 2 (0:Int)))) (bAnd .u64 (x_3.getD 1 (0:Int)) (x_3.getD 2 (0:Int)))))]++([x_3.getD 0 (0:Int)]++([x_3.getD 1 (0:Int)]++([x_3.getD 2 (0:Int)]++([u64.wrap (x_3.getD 3 (0:Int)+u64.wrap (u64.wrap (u64.wrap (u64.wrap (x_3.getD 7 (0:Int)+bXor .u64 (bXor .u64 (f1a t) (f1a t_1)) (f1a t_2))+bXor .u64 (bAnd .u64 (x_3.getD 4 (0:Int)) (x_3.getD 5 (0:Int))) (bAnd .u64 (bXor .u64 (18446744073709551615:Int) (x_3.getD 4 (0:Int))) (x_3.getD 6 (0:Int))))+x1.getD (0+v18.toNat) (0:Int))+x_2.getD (0+v18.toNat) (0:Int)))]++([x_3.getD 4 (0:Int)]++([x_3.getD 5 (0:Int)]++[x_3.getD 6 (0:Int)]))))))))) else none else none else H (Ex.exit 0) (some (ShNX_o1e0 x_0 x_1 x_3)):=by kernel_rfl
def ShNX_s2 (v102:Int) (x_0 x_1 x_2:List Int):St:={ tm:=[(3,.s (.ptr 0 0 8)),(6,.s (.ptr 1 0 8)),(8,.s (.ptr 2 0 8)),(102,.int .i64 v102)],hp:=[(0,{ ty:=152,n:=8,row:=Row.t (.ints .u64 x_0) }),(1,{ ty:=152,n:=8,row:=Row.t (.ints .u64 x_1) }),(2,{ ty:=152,n:=8,row:=Row.t (.ints .u64 x_2) })],nx:=3,sz:=115 }
def ShNX_b2:Code:=bodyL (codeAt [1,1,1,1,0,1,2] (codeF fF135))
def ShNX_k2 (fu:Nat):=kAt prog (g_ShNX T0 R0 f0a T1 R1 f1a) fu [1,1,1,1,0,1,2] (codeF fF135) (kFin prog fF135)
abbrev ShNX_L2 (fu:Nat) (v102:Int) (x_0 x_1 x_2:List Int):=lpA prog (g_ShNX T0 R0 f0a T1 R1 f1a) fu ShNX_b2 (ShNX_k2 T0 R0 f0a T1 R1 f1a fu ) fu (some (ShNX_s2 v102 x_0 x_1 x_2))
theorem ShNX_c1e0 (fu:Nat) (x_0 x_1 x_2:List Int):ShNX_k1 T0 R0 f0a T1 R1 f1a fu  (Ex.exit 0) (ShNX_o1e0 x_0 x_1 x_2)=ShNX_L2 T0 R0 f0a T1 R1 f1a fu (0:Int) x_0 x_1 x_2:=by kernel_rfl
def ShNX_o2e2 (x_0 x_1:List Int):St:={ tm:=[(3,.s (.ptr 0 0 8)),(6,.s (.ptr 1 0 8))],hp:=[(0,{ ty:=152,n:=8,row:=Row.t (.ints .u64 x_0) }),(1,{ ty:=152,n:=8,row:=Row.t (.ints .u64 x_1) })],nx:=2,sz:=115 }
theorem ShNX_r2 {β:Type} (fu:Nat) (G:Option St->Option β) (H:Ex->Option St->Option β) (v102:Int) (x_0 x_1 x_2:List Int):lpR prog (g_ShNX T0 R0 f0a T1 R1 f1a) fu ShNX_b2 G H (ShNX_s2 v102 x_0 x_1 x_2)=bif decide (v102 < (8:Int)) then bif decide ((0:Int) <= v102 /\ v102 < (8:Int)) then bif decide ((0:Int) <= v102 /\ v102 < (8:Int)) then bif decide ((0:Int) <= v102 /\ v102 < (8:Int)) then G (some (ShNX_s2 (i64.wrap (v102+(1:Int))) (x_0.set (0+v102.toNat) (u64.wrap (x_0.getD (0+v102.toNat) (0:Int)+x_2.getD (0+v102.toNat) (0:Int)))) x_1 x_2)) else none else none else none else H (Ex.exit 2) (some (ShNX_o2e2 x_0 x_1)):=by kernel_rfl
theorem ShNX_c2e2 (fu:Nat) (x_0 x_1:List Int):ShNX_k2 T0 R0 f0a T1 R1 f1a fu  (Ex.exit 2) (ShNX_o2e2 x_0 x_1)=some (AV.agg (.ints .u64 x_0) 8):=by kernel_rfl
end
abbrev gI_ShRL:Cg:=g_ShRL 
theorem gok_ShRL:CfOk prog gI_ShRL.c:=⟨gam_nil,fun _ _ h=>by cases h⟩
abbrev gI_ShRT:Cg:=g_ShRT 
theorem gok_ShRT:CfOk prog gI_ShRT.c:=⟨gam_nil,fun _ _ h=>by cases h⟩
abbrev gI_ShBG:Cg:=g_ShBG 
theorem gok_ShBG:CfOk prog gI_ShBG.c:=⟨gam_nil,fun _ _ h=>by cases h⟩
abbrev gI_ShKY:Cg:=g_ShKY 
theorem gok_ShKY:CfOk prog gI_ShKY.c:=⟨gam_nil,fun _ _ h=>by cases h⟩
abbrev gI_ShKK:Cg:=g_ShKK 
theorem gok_ShKK:CfOk prog gI_ShKK.c:=⟨gam_nil,fun _ _ h=>by cases h⟩
theorem xor64 (x y:Nat) (hx:x < 18446744073709551616) (hy:y < 18446744073709551616):bXor .u64 (x:Int) (y:Int)=((x ^^^ y:Nat):Int):=by
 unfold bXor
 have e:(BitVec.ofInt (IntKind.bits .u64) (x:Int) ^^^ BitVec.ofInt (IntKind.bits .u64) (y:Int)).toNat=x ^^^ y:=by
  show (BitVec.ofInt 64 (x:Int) ^^^ BitVec.ofInt 64 (y:Int)).toNat=x ^^^ y
  rw [BitVec.toNat_xor,bv64 x hx,bv64 y hy]
 rw [e,wu64n,Nat.mod_eq_of_lt]
 exact Nat.xor_lt_two_pow (n:=64) hx hy
theorem and63 (x:Nat) (hx:x < 18446744073709551616):bAnd .u64 (x:Int) 63=((x%64:Nat):Int):=by
 rw [show (63:Int)=((63:Nat):Int) from rfl,and64 x _ hx (by omega)]
 rw [show (63:Nat)=2 ^ 6 - 1 from rfl,Nat.and_two_pow_sub_one_eq_mod]
theorem wneg64 (m:Nat) (h0:1 <= m) (h1:m <= 63):u64.wrap (-(m:Int))=((18446744073709551616 - m:Nat):Int):=by
 simp [IntKind.wrap,IntKind.bits,IntKind.signed]; omega
theorem rr_lt {x:Nat} (n:Nat) (hx:x < 18446744073709551616):rr x n < 18446744073709551616 :=
 Nat.or_lt_two_pow (n:=64) (Nat.lt_of_le_of_lt (Nat.div_le_self _ _) hx) (Nat.mod_lt _ (by decide))
theorem in64_nat {x:Nat} (hx:x < 18446744073709551616):in64 (x:Int)=true:=decide_eq_true ⟨by omega,by omega⟩
theorem rotL_ok {args:List AV} {t:Nat} (h:sRotL.run args=some t):∃ x m:Nat,args=[.int .u64 (x:Int),.int .i64 (-(m:Int))] /\ x < 18446744073709551616 /\ 1 <= m /\ m <= 63 /\ t=rr x m:=by
 unfold sRotL at h
 simp only at h
 split at h
 ·rename_i x k
  obtain ⟨h1,h2⟩:=ctrue h
  simp only [Bool.and_eq_true,in64,decide_eq_true_eq] at h1
  obtain ⟨n,rfl⟩:=Int.eq_ofNat_of_zero_le h1.1.1
  obtain ⟨m,hm⟩:=Int.eq_ofNat_of_zero_le (by omega:0 <= -k)
  have:k=-(m:Int):=by omega
  subst this
  refine ⟨n,m,rfl,by omega,by omega,by omega,?_⟩
  cases h2
  rw [Int.toNat_natCast,Int.neg_neg,Int.toNat_natCast]
 ·cases h
theorem turn_ok {args:List AV} {t:Nat} (h:sTurn.run args=some t):∃ x m:Nat,args=[.int .u64 (x:Int),.int .i64 (m:Int)] /\ x < 18446744073709551616 /\ 1 <= m /\ m <= 63 /\ t=rr x m:=by
 unfold sTurn at h
 simp only at h
 split at h
 ·rename_i x k
  obtain ⟨h1,h2⟩:=ctrue h
  simp only [Bool.and_eq_true,in64,decide_eq_true_eq] at h1
  obtain ⟨n,rfl⟩:=Int.eq_ofNat_of_zero_le h1.1.1
  obtain ⟨m,rfl⟩:=Int.eq_ofNat_of_zero_le (by omega:0 <= k)
  refine ⟨n,m,rfl,by omega,by omega,by omega,?_⟩
  cases h2
  rw [Int.toNat_natCast,Int.toNat_natCast]
 ·cases h
theorem run_RotL (x m:Nat) (hx:x < 18446744073709551616) (h0:1 <= m) (h1:m <= 63):rRotL [.int .u64 (x:Int),.int .i64 (-(m:Int))]=some (rr x m):=by
 have h2:decide (-63 <= -(m:Int) /\ -(m:Int) <= -1)=true:=decide_eq_true (by omega)
 simp only [rRotL,sRotL,in64_nat hx,h2,Bool.and_self,cond_true,Int.neg_neg,Int.toNat_natCast]
theorem run_Turn (x m:Nat) (hx:x < 18446744073709551616) (h0:1 <= m) (h1:m <= 63):rTurn [.int .u64 (x:Int),.int .i64 (m:Int)]=some (rr x m):=by
 have h2:decide (1 <= (m:Int) /\ (m:Int) <= 63)=true:=decide_eq_true (by omega)
 simp only [rTurn,sTurn,in64_nat hx,h2,Bool.and_self,cond_true,Int.toNat_natCast]
theorem ok_RotL:CallOk prog nF174 sRotL:=by
 refine afunc_okE (g:=gI_ShRL) (fu:=fun _=>0) mixed gok_ShRL hF174 (by kernel_rfl) ?_
 intro args t ht
 obtain ⟨x,m,rfl,hx,h0,h1,rfl⟩:=rotL_ok ht
 refine (ShRL_ev ..).trans ?_
 rw [wneg64 m h0 h1,and63 _ (by omega),show (18446744073709551616 - m)%64=64 - m by omega,show (64:Int) - ((64 - m:Nat):Int)=((m:Nat):Int) by omega,wu64n,Nat.mod_eq_of_lt (by omega:m < 18446744073709551616),decide_eq_false (by omega),cond_false,
  shl64 _ _ (by omega),shr64 _ _ (by omega),or64 _ _ (Nat.mod_lt _ (by decide)) (Nat.lt_of_le_of_lt (Nat.div_le_self _ _) hx),Nat.or_comm]; rfl
abbrev gI_ShTU:Cg:=g_ShTU (Nat) rRotL (fun t=>↑t)
theorem gok_ShTU:CfOk prog gI_ShTU.c:=⟨gam_cons ok_RotL <| gam_nil,fun _ _ h=>by cases h⟩
theorem ok_Turn:CallOk prog nF159 sTurn:=by
 refine afunc_okE (g:=gI_ShTU) (fu:=fun _=>0) mixed gok_ShTU hF159 (by kernel_rfl) ?_
 intro args t ht
 obtain ⟨x,m,rfl,hx,h0,h1,rfl⟩:=turn_ok ht
 refine (ShTU_ev ..).trans ?_
 rw [Int.zero_sub,wi64 (by omega) (by omega),run_RotL x m hx h0 h1,Option.bind_some]; rfl
theorem ok_Rotr:CallOk prog nF140 sTurn:=by
 refine afunc_okE (g:=gI_ShRT) (fu:=fun _=>0) mixed gok_ShRT hF140 (by kernel_rfl) ?_
 intro args t ht
 obtain ⟨x,m,rfl,hx,h0,h1,rfl⟩:=turn_ok ht
 refine (ShRT_ev ..).trans ?_
 rw [show (64:Int) - (m:Int)=((64 - m:Nat):Int) by omega,wi64 (by omega) (by omega),decide_eq_false (by omega),cond_false,decide_eq_false (by omega),cond_false,
  shl64 _ _ (by omega),shr64 _ _ (by omega),or64 _ _ (Nat.lt_of_le_of_lt (Nat.div_le_self _ _) hx) (Nat.mod_lt _ (by decide))]; rfl
theorem ok_Begun:CallOk prog nF133 sBegun:=by
 refine afunc_okE (g:=gI_ShBG) (fu:=fun _=>0) mixed gok_ShBG hF133 (by kernel_rfl) ?_
 intro args t ht
 match args,ht with
 | [],_=>exact (ShBG_ev _).trans (by kernel_rfl)
theorem ok_Keys:CallOk prog nF134 sKeys:=by
 refine afunc_okE (g:=gI_ShKY) (fu:=fun _=>0) mixed gok_ShKY hF134 (by kernel_rfl) ?_
 intro args t ht
 match args,ht with
 | [],_=>exact (ShKY_ev _).trans (by kernel_rfl)
theorem ok_K:CallOk prog nF139 sK:=by
 refine afunc_okE (g:=gI_ShKK) (fu:=fun _=>0) mixed gok_ShKK hF139 (by kernel_rfl) ?_
 intro args t ht
 match args,ht with
 | [],_=>exact (ShKK_ev _).trans (by kernel_rfl)
abbrev gI_ShSP:Cg:=g_ShSP (Nat) rTurn (fun t=>↑t)
theorem gok_ShSP:CfOk prog gI_ShSP.c:=⟨gam_cons ok_Turn <| gam_nil,fun _ _ h=>by cases h⟩
theorem up_getD (l:List Nat) (i:Nat):(up l).getD i 0=((l.getD i 0:Nat):Int):=by
 unfold up
 rw [List.getD_eq_getElem?_getD,List.getD_eq_getElem?_getD,List.getElem?_map]
 cases l[i]? <;> rfl
theorem up_set (l:List Nat) (i n:Nat):(up l).set i (n:Int)=up (l.set i n):=by
 unfold up
 rw [List.map_set]
theorem up_len (l:List Nat):(up l).length=l.length:=List.length_map _
def okW (l:List Nat):Prop:=∀ i,l.getD i 0 < 18446744073709551616
theorem getD_set (l:List Nat) (i j n:Nat):(l.set i n).getD j 0=if i=j /\ i < l.length then n else l.getD j 0:=by
 rw [List.getD_eq_getElem?_getD,List.getD_eq_getElem?_getD,List.getElem?_set]
 by_cases h:i=j
 ·subst h
  by_cases h2:i < l.length
  ·rw [if_pos rfl,if_pos h2,if_pos ⟨rfl,h2⟩]; rfl
  ·rw [if_pos rfl,if_neg h2,if_neg (fun c=>h2 c.2),List.getElem?_eq_none (by omega)]
 ·rw [if_neg h,if_neg (fun c=>h c.1)]
theorem okW_set {l:List Nat} (h:okW l) (i:Nat) {n:Nat} (hn:n < 18446744073709551616):okW (l.set i n):=by
 intro j
 rw [getD_set]
 split
 ·exact hn
 ·exact h j
theorem W64_lt (n:Nat):W64 n < 18446744073709551616:=Nat.mod_lt _ (by decide)
theorem wd_lt (s:Str) (i:Nat):∀ k,wd s i k < 256 ^ k:=by
 intro k
 induction k with
 | zero=>exact Nat.one_pos
 | succ k ih=>
  have hb:=(s.getD (8*i+k) 0).toNat_lt
  show wd s i k*256+(s.getD (8*i+k) 0).toNat < 256 ^ (k+1)
  rw [Nat.pow_succ]
  omega
theorem blk_len (s:Str) (i:Nat) (h:i <= 80):(blk s i).length=80:=by
 rw [blk,List.length_append,List.length_map,List.length_range,List.length_replicate]; omega
theorem blk_getD (s:Str) (i j:Nat):(blk s i).getD j 0=if j < i then wd s j 8 else 0:=by
 rw [blk,List.getD_eq_getElem?_getD]
 by_cases h:j < i
 ·rw [if_pos h,List.getElem?_append_left (by simp; exact h),List.getElem?_map,List.getElem?_range h]; rfl
 ·rw [if_neg h,List.getElem?_append_right (by simp; omega),List.getElem?_replicate]
  split <;> rfl
theorem ext_getD {a b:List Nat} (hl:a.length=b.length) (h:∀ i,a.getD i 0=b.getD i 0):a=b:=by
 refine List.ext_getElem hl fun i h1 h2=>?_
 have:=h i
 rw [List.getD_eq_getElem?_getD,List.getD_eq_getElem?_getD,List.getElem?_eq_getElem h1,List.getElem?_eq_getElem h2] at this
 exact this
theorem blk_begin (s:Str) (i:Nat) (h:i < 80):blk s i=(blk s i).set i (wd s i 0):=by
 refine ext_getD (by rw [List.length_set]) fun j=>?_
 rw [getD_set]
 split
 ·rename_i c
  rw [blk_getD,if_neg (by omega)]; rfl
 ·rfl
theorem blk_end (s:Str) (i:Nat) (h:i < 80):(blk s i).set i (wd s i 8)=blk s (i+1):=by
 refine ext_getD (by rw [List.length_set,blk_len _ _ (by omega),blk_len _ _ (by omega)]) fun j=>?_
 rw [getD_set,blk_getD,blk_getD,blk_len _ _ (by omega)]
 by_cases c:i=j
 ·subst c; rw [if_pos ⟨rfl,h⟩,if_pos (by omega)]
 ·rw [if_neg (fun e=>c e.1)]
  by_cases c2:j < i
  ·rw [if_pos c2,if_pos (by omega)]
  ·rw [if_neg c2,if_neg (by omega)]
theorem blk_ok (s:Str) (i:Nat):okW (blk s i):=by
 intro j
 rw [blk_getD]
 split
 ·exact Nat.lt_of_lt_of_le (wd_lt s j 8) (by decide)
 ·decide
theorem wd_step (s:Str) (i k:Nat) (hk:k < 8):bOr .u64 (bShl .u64 ((wd s i k:Nat):Int) 8) (u64.wrap (((s.getD (8*i+k) 0).toNat:Nat):Int))=((wd s i (k+1):Nat):Int):=by
 have hb:=(s.getD (8*i+k) 0).toNat_lt
 have h1:=wd_lt s i k
 have h2:(256:Nat) ^ k <= 256 ^ 7:=Nat.pow_le_pow_right (by decide) (by omega)
 have h3:wd s i k*2 ^ 8 < 18446744073709551616:=by omega
 rw [show (8:Int)=((8:Nat):Int) from rfl,shl64 _ _ (by decide),Nat.mod_eq_of_lt h3,wu64n,Nat.mod_eq_of_lt (by omega:(s.getD (8*i+k) 0).toNat < 18446744073709551616),or64 _ _ h3 (by omega),Nat.mul_comm,
  <-Nat.two_pow_add_eq_or_of_lt (i:=8) (by omega) (wd s i k),Nat.mul_comm]; rfl
theorem sp_inner {β:Type} (s:Str) (hs:s.length=128) (i:Nat) (hi:i < 16) (fu:Nat) (y:List Int) (G:Option St->Option β) (H:Ex->Option St->Option β):∀ (d n k:Nat),k+d=8->d < n ->
  lpA prog gI_ShSP fu ShSP_b2 (ShSP_k2 _ rTurn (fun t=>(t:Int)) fu G H) n (some (ShSP_s2 s (i:Int) (i:Int) (k:Int) y (up ((blk s i).set i (wd s i k)))))=G (some (ShSP_s1 s ((i+1:Nat):Int) y (up (blk s (i+1))))):=by
 intro d
 induction d with
 | zero=>
  intro n k hk hn
  obtain ⟨n,rfl⟩:=Nat.exists_eq_succ_of_ne_zero (by omega:n ≠ 0)
  have:k=8:=by omega
  subst this
  rw [lpA_succ,ShSP_r2,decide_eq_false (by decide),cond_false,kOut_some,ShSP_c2e2,wi64 (by omega) (by omega),blk_end s i (by omega)]; rfl
 | succ d ih=>
  intro n k hk hn
  obtain ⟨n,rfl⟩:=Nat.exists_eq_succ_of_ne_zero (by omega:n ≠ 0)
  have h:=ih n (k+1) (by omega) (by omega)
  have hix:i64.wrap (i64.wrap ((8:Int)*(i:Int))+(k:Int))=((8*i+k:Nat):Int):=by
   rw [wi64 (n:=8*(i:Int)) (by omega) (by omega),wi64 (by omega) (by omega)]; omega
  rw [lpA_succ,ShSP_r2,decide_eq_true (by omega),cond_true,decide_eq_true (by omega),cond_true,hix,decide_eq_true (by omega),cond_true,cond_true,Int.toNat_natCast,Int.toNat_natCast,Nat.zero_add,up_getD,getD_set,if_pos ⟨rfl,by rw [blk_len _ _ (by omega)]; omega⟩,
   wd_step s i k (by omega),up_set,List.set_set,wi64 (by omega) (by omega)]
  exact h
theorem sp_outer (s:Str) (hs:s.length=128) (fu:Nat) (hfu:8 < fu) (y:List Int):∀ (d n i:Nat),i+d=16->d < n ->
  lpA prog gI_ShSP fu ShSP_b1 (ShSP_k1 _ rTurn (fun t=>(t:Int)) fu) n (some (ShSP_s1 s (i:Int) y (up (blk s i))))=ShSP_L3 _ rTurn (fun t=>(t:Int)) fu 16 y (up (blk s 16)):=by
 intro d
 induction d with
 | zero=>
  intro n i hi hn
  obtain ⟨n,rfl⟩:=Nat.exists_eq_succ_of_ne_zero (by omega:n ≠ 0)
  have:i=16:=by omega
  subst this
  rw [lpA_succ,ShSP_r1,decide_eq_false (by decide),cond_false,kOut_some,ShSP_c1e0]
 | succ d ih=>
  intro n i hi hn
  obtain ⟨n,rfl⟩:=Nat.exists_eq_succ_of_ne_zero (by omega:n ≠ 0)
  rw [lpA_succ,ShSP_r1,decide_eq_true (by omega),cond_true]
  have h:=sp_inner s hs i (by omega) fu y (lpA prog gI_ShSP fu ShSP_b1 (ShSP_k1 _ rTurn (fun t=>(t:Int)) fu) n) (kOut (ShSP_k1 _ rTurn (fun t=>(t:Int)) fu)) 8 fu 0 (by omega) hfu
  rw [<-blk_begin s i (by omega)] at h
  refine Eq.trans h ?_
  exact ih n (i+1) (by omega) (by omega)
theorem sched_ok {x:List Nat} (h:okW x):∀ d,okW (sched x d):=by
 intro d
 induction d with
 | zero=>exact h
 | succ d ih=>exact okW_set ih _ (W64_lt _)
theorem div_lt64 {x:Nat} (n:Nat) (h:x < 18446744073709551616):x / n < 18446744073709551616:=Nat.lt_of_le_of_lt (Nat.div_le_self _ _) h
theorem xor_lt64 {x y:Nat} (hx:x < 18446744073709551616) (hy:y < 18446744073709551616):x ^^^ y < 18446744073709551616:=Nat.xor_lt_two_pow (n:=64) hx hy
theorem sp_sched (x0:List Nat) (hx0:okW x0) (hl:x0.length=80) (fu:Nat) (y:List Int):∀ (e n d:Nat),d+e=64->e < n ->
  lpA prog gI_ShSP fu ShSP_b3 (ShSP_k3 _ rTurn (fun t=>(t:Int)) fu) n (some (ShSP_s3 ((16+d:Nat):Int) y (up (sched x0 d))))=some (.agg (.ints .u64 (up (sched x0 64))) 80):=by
 intro e
 induction e with
 | zero=>
  intro n d hd hn
  obtain ⟨n,rfl⟩:=Nat.exists_eq_succ_of_ne_zero (by omega:n ≠ 0)
  have:d=64:=by omega
  subst this
  rw [lpA_succ,ShSP_r3,decide_eq_false (by decide),cond_false,kOut_some,ShSP_c3e4]
 | succ e ih=>
  intro n d hd hn
  obtain ⟨n,rfl⟩:=Nat.exists_eq_succ_of_ne_zero (by omega:n ≠ 0)
  have h:=ih n (d+1) (by omega) (by omega)
  have ok:=sched_ok hx0 d
  have w:∀ k:Nat,k <= 16->i64.wrap (((16+d:Nat):Int) - ((k:Nat):Int))=((16+d - k:Nat):Int):=fun k hk=>by rw [wi64 (by omega) (by omega)]; omega
  have w15:=w 15 (by omega)
  have w2:=w 2 (by omega)
  have w16:=w 16 (by omega)
  have w7:=w 7 (by omega)
  simp only [Int.cast_ofNat_Int] at w15 w2 w16 w7
  rw [lpA_succ,ShSP_r3,decide_eq_true (by omega),cond_true,w15,w2,w16,w7,decide_eq_true (by omega),cond_true,decide_eq_true (by omega),cond_true,decide_eq_true (by omega),cond_true]
  simp only [Int.toNat_natCast,Nat.zero_add,up_getD]
  have t1:=run_Turn _ 1 (ok (16+d - 15)) (by decide) (by decide)
  have t8:=run_Turn _ 8 (ok (16+d - 15)) (by decide) (by decide)
  have t19:=run_Turn _ 19 (ok (16+d - 2)) (by decide) (by decide)
  have t61:=run_Turn _ 61 (ok (16+d - 2)) (by decide) (by decide)
  simp only [Int.cast_ofNat_Int] at t1 t8 t19 t61
  rw [t1,Option.bind_some,t8,Option.bind_some,decide_eq_true (by omega),cond_true,t19,Option.bind_some,t61,Option.bind_some,decide_eq_true (by omega),cond_true]
  have a15:=ok (16+d - 15)
  have a2:=ok (16+d - 2)
  have x0':bXor .u64 (bXor .u64 ((rr ((sched x0 d).getD (16+d - 15) 0) 1:Nat):Int) ((rr ((sched x0 d).getD (16+d - 15) 0) 8:Nat):Int)) (bShr .u64 (((sched x0 d).getD (16+d - 15) 0:Nat):Int) 7)=((g0 ((sched x0 d).getD (16+d - 15) 0):Nat):Int):=by
   rw [show (7:Int)=((7:Nat):Int) from rfl,shr64 _ _ (by decide),xor64 _ _ (rr_lt _ a15) (rr_lt _ a15),xor64 _ _ (xor_lt64 (rr_lt _ a15) (rr_lt _ a15)) (div_lt64 _ a15)]; rfl
  have x1':bXor .u64 (bXor .u64 ((rr ((sched x0 d).getD (16+d - 2) 0) 19:Nat):Int) ((rr ((sched x0 d).getD (16+d - 2) 0) 61:Nat):Int)) (bShr .u64 (((sched x0 d).getD (16+d - 2) 0:Nat):Int) 6)=((g1 ((sched x0 d).getD (16+d - 2) 0):Nat):Int):=by
   rw [show (6:Int)=((6:Nat):Int) from rfl,shr64 _ _ (by decide),xor64 _ _ (rr_lt _ a2) (rr_lt _ a2),xor64 _ _ (xor_lt64 (rr_lt _ a2) (rr_lt _ a2)) (div_lt64 _ a2)]; rfl
  have sm:∀ a b c e:Nat,u64.wrap (u64.wrap (u64.wrap ((a:Int)+(b:Int))+(c:Int))+(e:Int))=((W64 (a+b+c+e):Nat):Int):=fun a b c e=>by
   rw [<-Int.natCast_add,wu64n,<-Int.natCast_add,wu64n,<-Int.natCast_add,wu64n,W64]
   have:((((a+b)%18446744073709551616+c)%18446744073709551616)+e)%18446744073709551616=(a+b+c+e)%18446744073709551616:=by omega
   rw [this]
  rw [x0',x1',sm,up_set,wi64 (by omega) (by omega)]
  exact h
abbrev zeros80:List Int:=[0,0,0,0,0,0,0,0,0,0,0,0,0,0,0,0,0,0,0,0,0,0,0,0,0,0,0,0,0,0,0,0,0,0,0,0,0,0,0,0,0,0,0,0,0,0,0,0,0,0,0,0,0,0,0,0,0,0,0,0,0,0,0,0,0,0,0,0,0,0,0,0,0,0,0,0,0,0,0,0]
theorem blk_zero (s:Str):up (blk s 0)=zeros80:=rfl
theorem sp_all (s:Str) (hs:s.length=128):ShSP_L1 _ rTurn (fun t=>(t:Int)) 65 s 0 zeros80 zeros80=some (.agg (.ints .u64 (up (spread s))) 80):=by
 have h:=sp_outer s hs 65 (by decide) zeros80 16 65 0 (by omega) (by decide)
 rw [blk_zero] at h
 exact Eq.trans h (sp_sched (blk s 16) (blk_ok s 16) (blk_len s 16 (by decide)) 65 _ 64 65 0 (by omega) (by decide))
theorem ok_Spread:CallOk prog nF158 sSpread:=by
 refine afunc_okE (g:=gI_ShSP) (fu:=fun _=>65) mixed gok_ShSP hF158 (by kernel_rfl) ?_
 intro args t ht
 unfold sSpread at ht
 simp only at ht
 split at ht
 ·rename_i s
  obtain ⟨h1,h2⟩:=ctrueS ht
  have h1:=Nat.eq_of_beq_eq_true h1
  subst h2
  exact (ShSP_ev ..).trans (sp_all s h1)
 ·cases ht
abbrev gI_ShNX:Cg:=g_ShNX (List Nat) rSpread (fun t=>up t) (Nat) rTurn (fun t=>↑t)
theorem gok_ShNX:CfOk prog gI_ShNX.c:=⟨gam_cons ok_Spread <| gam_cons ok_Turn <| gam_nil,fun _ _ h=>by cases h⟩
theorem and_lt64 {x:Nat} (y:Nat) (hx:x < 18446744073709551616):x &&& y < 18446744073709551616:=Nat.lt_of_le_of_lt Nat.and_le_left hx
theorem not64 (x:Nat) (hx:x < 18446744073709551616):bXor .u64 18446744073709551615 (x:Int)=((18446744073709551615 - x:Nat):Int):=by
 rw [show (18446744073709551615:Int)=((18446744073709551615:Nat):Int) from rfl,xor64 _ _ (by decide) hx]
 have:18446744073709551615 ^^^ x=18446744073709551615 - x:=by
  have h:=congrArg BitVec.toNat (BitVec.not_def (x:=BitVec.ofNat 64 x))
  rw [BitVec.toNat_not,BitVec.toNat_xor,BitVec.toNat_allOnes,BitVec.toNat_ofNat,Nat.mod_eq_of_lt hx] at h
  exact h.symm
 rw [this]
theorem nx_x (t:List Nat) (ht:okW t) (k w:Nat) :
  u64.wrap (u64.wrap (u64.wrap (u64.wrap (((t.getD 7 0:Nat):Int)+bXor .u64 (bXor .u64 ((rr (t.getD 4 0) 14:Nat):Int) ((rr (t.getD 4 0) 18:Nat):Int)) ((rr (t.getD 4 0) 41:Nat):Int)) +
   bXor .u64 (bAnd .u64 ((t.getD 4 0:Nat):Int) ((t.getD 5 0:Nat):Int)) (bAnd .u64 (bXor .u64 18446744073709551615 ((t.getD 4 0:Nat):Int)) ((t.getD 6 0:Nat):Int)))+(k:Int))+(w:Int)) =
  ((W64 (t.getD 7 0+e1 (t.getD 4 0)+((t.getD 4 0 &&& t.getD 5 0) ^^^ ((18446744073709551615 - t.getD 4 0) &&& t.getD 6 0))+k+w):Nat):Int):=by
 have h4:=ht 4
 have h5:=ht 5
 have h6:=ht 6
 have hn:18446744073709551615 - t.getD 4 0 < 18446744073709551616:=by omega
 rw [xor64 _ _ (rr_lt _ h4) (rr_lt _ h4),xor64 _ _ (xor_lt64 (rr_lt _ h4) (rr_lt _ h4)) (rr_lt _ h4),not64 _ h4,and64 _ _ h4 h5,and64 _ _ hn h6,xor64 _ _ (and_lt64 _ h4) (and_lt64 _ hn)]
 rw [show rr (t.getD 4 0) 14 ^^^ rr (t.getD 4 0) 18 ^^^ rr (t.getD 4 0) 41=e1 (t.getD 4 0) from rfl]
 generalize e1 (t.getD 4 0)=a
 generalize (t.getD 4 0 &&& t.getD 5 0) ^^^ ((18446744073709551615 - t.getD 4 0) &&& t.getD 6 0)=b
 generalize t.getD 7 0=c
 rw [<-Int.natCast_add,wu64n,<-Int.natCast_add,wu64n,<-Int.natCast_add,wu64n,<-Int.natCast_add,wu64n,W64]
 have:((((c+a)%18446744073709551616+b)%18446744073709551616+k)%18446744073709551616+w)%18446744073709551616=(c+a+b+k+w)%18446744073709551616:=by omega
 rw [this]
theorem nx_y (t:List Nat) (ht:okW t) :
  u64.wrap (bXor .u64 (bXor .u64 ((rr (t.getD 0 0) 28:Nat):Int) ((rr (t.getD 0 0) 34:Nat):Int)) ((rr (t.getD 0 0) 39:Nat):Int) +
   bXor .u64 (bXor .u64 (bAnd .u64 ((t.getD 0 0:Nat):Int) ((t.getD 1 0:Nat):Int)) (bAnd .u64 ((t.getD 0 0:Nat):Int) ((t.getD 2 0:Nat):Int))) (bAnd .u64 ((t.getD 1 0:Nat):Int) ((t.getD 2 0:Nat):Int))) =
  ((W64 (e0 (t.getD 0 0)+((t.getD 0 0 &&& t.getD 1 0) ^^^ (t.getD 0 0 &&& t.getD 2 0) ^^^ (t.getD 1 0 &&& t.getD 2 0))):Nat):Int):=by
 have h0:=ht 0
 have h1:=ht 1
 have h2:=ht 2
 rw [xor64 _ _ (rr_lt _ h0) (rr_lt _ h0),xor64 _ _ (xor_lt64 (rr_lt _ h0) (rr_lt _ h0)) (rr_lt _ h0),and64 _ _ h0 h1,and64 _ _ h0 h2,and64 _ _ h1 h2,xor64 _ _ (and_lt64 _ h0) (and_lt64 _ h0),xor64 _ _ (xor_lt64 (and_lt64 _ h0) (and_lt64 _ h0)) (and_lt64 _ h1),
  <-Int.natCast_add,wu64n]; rfl
theorem okW_rnd {t:List Nat} (ht:okW t) (k w:Nat):okW (rnd t k w):=by
 intro i
 match i with
 | 0=>exact W64_lt _
 | 1=>exact ht 0
 | 2=>exact ht 1
 | 3=>exact ht 2
 | 4=>exact W64_lt _
 | 5=>exact ht 4
 | 6=>exact ht 5
 | 7=>exact ht 6
 | n+8=>exact (by decide:0 < 18446744073709551616)
theorem okW_rnds (w:List Nat) {t:List Nat} (ht:okW t):∀ i,okW (rnds w t i):=by
 intro i
 induction i with
 | zero=>exact ht
 | succ i ih=>exact okW_rnd ih _ _
theorem run_Spread {b:Str} (h:b.length=128):rSpread [.str b]=some (spread b):=by
 have:Nat.beq b.length 128=true:=by rw [h]; rfl
 show cond (Nat.beq b.length 128) (some (spread b)) none=_
 rw [this]; rfl
theorem nx_loop1 (s:List Nat) (hs:okW s) (w:List Nat) (y:List Int) (fu:Nat):∀ (d n i:Nat),i+d=80->d < n ->
  lpA prog gI_ShNX fu ShNX_b1 (ShNX_k1 _ rSpread (fun t=>up t) _ rTurn (fun t=>(t:Int)) fu) n (some (ShNX_s1 (up kN) (i:Int) (up s) y (up w) (up (rnds w s i))))=ShNX_L2 _ rSpread (fun t=>up t) _ rTurn (fun t=>(t:Int)) fu 0 (up s) y (up (rnds w s 80)):=by
 intro d
 induction d with
 | zero=>
  intro n i hi hn
  obtain ⟨n,rfl⟩:=Nat.exists_eq_succ_of_ne_zero (by omega:n ≠ 0)
  have:i=80:=by omega
  subst this
  rw [lpA_succ,ShNX_r1,decide_eq_false (by decide),cond_false,kOut_some,ShNX_c1e0]
 | succ d ih=>
  intro n i hi hn
  obtain ⟨n,rfl⟩:=Nat.exists_eq_succ_of_ne_zero (by omega:n ≠ 0)
  have h:=ih n (i+1) (by omega) (by omega)
  have ok:=okW_rnds w hs i
  have ok':=okW_rnds w hs (i+1)
  rw [show rnds w s (i+1)=rnd (rnds w s i) (kN.getD i 0) (w.getD i 0) from rfl] at h
  rw [lpA_succ,ShNX_r1,decide_eq_true (by omega),cond_true]
  generalize rnds w s i=t at ok h ⊢
  have t14:=run_Turn _ 14 (ok 4) (by decide) (by decide)
  have t18:=run_Turn _ 18 (ok 4) (by decide) (by decide)
  have t41:=run_Turn _ 41 (ok 4) (by decide) (by decide)
  have t28:=run_Turn _ 28 (ok 0) (by decide) (by decide)
  have t34:=run_Turn _ 34 (ok 0) (by decide) (by decide)
  have t39:=run_Turn _ 39 (ok 0) (by decide) (by decide)
  simp only [Int.cast_ofNat_Int] at t14 t18 t41 t28 t34 t39
  simp only [Int.toNat_natCast,Nat.zero_add,up_getD]
  rw [t14,Option.bind_some,t18,Option.bind_some,t41,Option.bind_some,decide_eq_true (by omega),cond_true,cond_true,t28,Option.bind_some,t34,Option.bind_some,t39,Option.bind_some,nx_x t ok,nx_y t ok,wi64 (by omega) (by omega)]
  have sm:∀ a b:Nat,u64.wrap ((a:Int)+(b:Int))=((W64 (a+b):Nat):Int):=fun a b=>by rw [<-Int.natCast_add,wu64n]; rfl
  rw [sm,sm]
  exact h
theorem nx_loop2 (s t:List Nat) (y:List Int) (fu:Nat):∀ (d n i:Nat),i+d=8->d < n ->
  lpA prog gI_ShNX fu ShNX_b2 (ShNX_k2 _ rSpread (fun t=>up t) _ rTurn (fun t=>(t:Int)) fu) n (some (ShNX_s2 (i:Int) (up (mixN s t i)) y (up t)))=some (.agg (.ints .u64 (up (mixN s t 8))) 8):=by
 intro d
 induction d with
 | zero=>
  intro n i hi hn
  obtain ⟨n,rfl⟩:=Nat.exists_eq_succ_of_ne_zero (by omega:n ≠ 0)
  have:i=8:=by omega
  subst this
  rw [lpA_succ,ShNX_r2,decide_eq_false (by decide),cond_false,kOut_some,ShNX_c2e2]
 | succ d ih=>
  intro n i hi hn
  obtain ⟨n,rfl⟩:=Nat.exists_eq_succ_of_ne_zero (by omega:n ≠ 0)
  have h:=ih n (i+1) (by omega) (by omega)
  have sm:∀ a b:Nat,u64.wrap ((a:Int)+(b:Int))=((W64 (a+b):Nat):Int):=fun a b=>by rw [<-Int.natCast_add,wu64n]; rfl
  rw [lpA_succ,ShNX_r2,decide_eq_true (by omega),cond_true,decide_eq_true (by omega),cond_true,cond_true,cond_true,Int.toNat_natCast,Nat.zero_add,up_getD,up_getD,sm,up_set,wi64 (by omega) (by omega)]
  exact h
theorem dn_up {l:List Int} (h:okL l=true):up (dn l)=l /\ okW (dn l):=by
 induction l with
 | nil=>exact ⟨rfl,fun i=>by show ([]:List Nat).getD i 0 < _; simp⟩
 | cons x r ih=>
  simp only [okL,Bool.and_eq_true,decide_eq_true_eq] at h
  obtain ⟨h1,h2⟩:=ih h.2
  refine ⟨?_,fun i=>?_⟩
  ·show ((x.toNat:Nat):Int) :: up (dn r)=x :: r
   rw [h1,Int.toNat_of_nonneg (by omega)]
  ·match i with
   | 0=>show x.toNat < _; omega
   | i+1=>exact h2 i
theorem ok_Next:CallOk prog nF135 sNext:=by
 refine afunc_okE (g:=gI_ShNX) (fu:=fun _=>81) mixed gok_ShNX hF135 (by kernel_rfl) ?_
 intro args t ht
 unfold sNext at ht
 simp only at ht
 split at ht
 ·rename_i h k b
  obtain ⟨h1,h2⟩:=ctrueS ht
  subst h2
  simp only [Bool.and_eq_true,decide_eq_true_eq] at h1
  obtain ⟨⟨h1,rfl⟩,h3⟩:=h1
  have h3:=Nat.eq_of_beq_eq_true h3
  simp only [ok8W,Bool.and_eq_true] at h1
  obtain ⟨e,ok⟩:=dn_up h1.2
  refine (ShNX_ev ..).trans ?_
  rw [run_Spread h3,Option.bind_some]
  have a:=nx_loop1 (dn h) ok (spread b) zero8 81 80 81 0 (by omega) (by decide)
  have c:=nx_loop2 (dn h) (rnds (spread b) (dn h) 80) zero8 81 8 81 0 (by omega) (by decide)
  rw [show rnds (spread b) (dn h) 0=dn h from rfl,e] at a
  rw [show mixN (dn h) (rnds (spread b) (dn h) 80) 0=dn h from rfl,e] at c
  exact Eq.trans a c
 ·cases ht
open Go Go.Proofs Go.RowKit
def hexD:Str:=[48,49,50,51,52,53,54,55,56,57,97,98,99,100,101,102]
def hexS:Str->Str
 | []=>[]
 | c :: r=>hexD.getD (c.toNat / 16) 0 :: hexD.getD (c.toNat%16) 0 :: hexS r
theorem hexS_app:∀ a b:Str,hexS (a++b)=hexS a++hexS b:=by
 intro a
 induction a with
 | nil=>intro b; rfl
 | cons c r ih=>intro b; simp only [List.cons_append,hexS,ih]
theorem hexS_len:∀ a:Str,(hexS a).length=2*a.length:=by
 intro a
 induction a with
 | nil=>rfl
 | cons c r ih=>simp only [hexS,List.length_cons,ih]; omega
theorem hexget (i:Nat) (h:i < 16):(⟨#[48,49,50,51,52,53,54,55,56,57,97,98,99,100,101,102]⟩:ByteArray)[i]'h=hexD.getD i 0:=by
 have:∀ i:Fin 16,(⟨#[48,49,50,51,52,53,54,55,56,57,97,98,99,100,101,102]⟩:ByteArray)[i.1]'i.2=hexD.getD i.1 0:=by decide
 exact this ⟨i,h⟩
set_option maxHeartbeats 4000000 in
set_option maxRecDepth 1000000 in
theorem hex_walk (s:ByteArray) (w:World) (hs:s.size <= 35184372088832) :
  Calls Tryz.prog 162 #[.string s] w fun e w'=>e=.returned (.string ⟨(hexS s.data.toList).toArray⟩) /\ Below w.heap.size w w':=by
 go_enter Tryz.func162,Tryz.ntmps162
 go_wp2
 go_loopw [7] (fun v wr=>∃ k:Nat,k <= s.size /\ v=.int .i64 k /\ Lib.IsBuilderF 170 5 w.heap.size w.heap.size (Lib.byteCells (hexS (s.data.toList.take k))) wr /\ Below w.heap.size w wr) (fun v _=>s.size - (Lib.intOf v).toNat)
 case atStart=>
  exact ⟨0,Nat.zero_le _,rfl,Lib.IsBuilderF.of (Lib.fresh_isBuilder 170 5 w),(Below.refl _ w).alloc (Nat.le_refl _) _⟩
 case round=>
  obtain ⟨k,hk,rfl,hI,hbw⟩:=hrel
  have hbs:w.heap.size <= wr.heap.size:=hbw.size
  have hl:=hexS_len (s.data.toList.take k)
  have hsl:s.data.toList.length=s.size:=Array.length_toList
  have hkl:(s.data.toList.take k).length=k:=by rw [List.length_take,hsl]; omega
  by_cases hp:k < s.size
  ·have hc:=(s[k]'hp).toNat_lt
   go_wp2_with (go_at_call 175; refine (Any.Builder_WriteByte_k Tryz.lay167 Tryz.X167 w.heap.size w.heap.size _ _ wr hI (by rw [Lib.byteCells_length]; omega) hbs).mono ?_)
   rintro e W1 ⟨rfl,h1,b1,k1⟩
   have hb1:w.heap.size <= W1.heap.size:=(hbw.trans b1).size
   go_wp2_with (go_at_call 175; refine (Any.Builder_WriteByte_k Tryz.lay167 Tryz.X167 w.heap.size w.heap.size _ _ W1 (Or.inr h1) (by rw [List.length_append,Lib.byteCells_length]; simp; omega) hb1).mono ?_)
   rintro e W2 ⟨rfl,h2,b2,k2⟩
   have hb2:Below w.heap.size w W2:=(hbw.trans b1).trans b2
   go_wp2
   go_roundw
   case rel=>
    have ht:s.data.toList.take (k+1)=s.data.toList.take k++[s[k]'hp]:=by
     rw [List.take_add_one,List.getElem?_eq_getElem (by omega)]; rfl
    refine ⟨k+1,hp,by simp,Or.inr ?_,hb2⟩
    rw [ht,hexS_app,Lib.byteCells_append]
    rw [hexget _ (by omega),hexget _ (by omega),List.append_assoc] at h2
    exact h2
   case measure=>simp only [Lib.intOf]; omega
  ·go_wp2_with (go_at_call 155; refine (Any.Builder_String_any_k Tryz.lay169 Tryz.X169 w.heap.size w.heap.size _ wr hI hbs).mono ?_)
   rintro e W1 ⟨rfl,_,b1,_⟩
   go_wp2
   go_ret
   have:k=s.size:=by omega
   subst this
   rw [List.take_of_length_le (by omega)]
   exact ⟨rfl,hbw.trans b1⟩
def sHex:Summ where
 T:=Str
 run:=fun
  | [.c (.s (.pl (.str s)))]=>cond (Nat.ble s.length 1099511627776) (some (hexS s)) none
  | _=>none
 enc:=fun t=>.str t
def rHex:List AV->Option Str:=sHex.run
theorem avrs1 {w:World} {ρ:Plc} {x:AV} {vs:List Value} (h:AVRs w ρ [x] vs):∃ u,vs=[u] /\ AVR w ρ x u:=by
 match vs,h with
 | [u],h=>exact ⟨u,rfl,h.1⟩
theorem ok_Hex:CallOk prog nF162 sHex:=by
 intro args t ht w X vs hX hav
 unfold sHex at ht
 simp only at ht
 split at ht
 case h_2=>cases ht
 rename_i s
 obtain ⟨h1,h2⟩:=ctrueS ht
 subst h2
 rw [Nat.ble_eq] at h1
 obtain ⟨u,rfl,hu⟩:=avrs1 hav
 have hu:u=.string ⟨s.toArray⟩:=hu.1
 subst hu
 refine fat_of_calls hF162 (by kernel_rfl) (c:=codeF fF162) (by kernel_rfl) ?_
 have:=hex_walk ⟨s.toArray⟩ w (by show s.length <= _; omega)
 exact this.mono fun e w' ⟨he,hb⟩=>⟨_,he,avr_str _ _ _,rfl,hb⟩
theorem run_Hex {s:Str} (h:s.length <= 1099511627776):rHex [.str s]=some (hexS s):=by
 show cond (Nat.ble s.length 1099511627776) (some (hexS s)) none=_
 rw [show Nat.ble s.length 1099511627776=true by rw [Nat.ble_eq]; exact h]; rfl
end
end Go.Eng
