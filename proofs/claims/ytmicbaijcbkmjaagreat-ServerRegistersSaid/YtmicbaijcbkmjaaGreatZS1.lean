import Derived.BigCall
import Derived.Test.YtmicbaijcbkmjaaGreatZR2
import Derived.Test.YtmicbaijcbkmjaaGreatZS0
namespace Go.Eng
open Go.IntKind (u64 i64 u8)
noncomputable section
open Go Go.Proofs
set_option linter.all false
def rr (x n:Nat):Nat:=x / 2 ^ n ||| x*2 ^ (64 - n)%18446744073709551616
def QJ:Summ where
 T:=Nat
 run:=λ
  | [.c (.s (.pl (.int .u64 x))),.c (.s (.pl (.int .i64 k)))]=>cond (hO x && decide (-63 <= k /\ k <= -1)) (some (rr x.toNat (-k).toNat)) none
  | _=>none
 enc:=λ t=>.int .u64 (t:Int)
def aCA:FA Nat:=QJ.run
def K0:Summ where
 T:=Nat
 run:=λ
  | [.c (.s (.pl (.int .u64 x))),.c (.s (.pl (.int .i64 k)))]=>cond (hO x && decide (1 <= k /\ k <= 63)) (some (rr x.toNat k.toNat)) none
  | _=>none
 enc:=λ t=>.int .u64 (t:Int)
def fD:FA Nat:=K0.run
def kN:List Nat:=[4794697086780616226,8158064640168781261,13096744586834688815,16840607885511220156,
 4131703408338449720,6480981068601479193,10538285296894168987,12329834152419229976,
 15566598209576043074,1334009975649890238,2608012711638119052,6128411473006802146,
 8268148722764581231,9286055187155687089,11230858885718282805,13951009754708518548,
 16472876342353939154,17275323862435702243,1135362057144423861,2597628984639134821,
 3308224258029322869,5365058923640841347,6679025012923562964,8573033837759648693,
 10970295158949994411,12119686244451234320,12683024718118986047,13788192230050041572,
 14330467153632333762,15395433587784984357,489312712824947311,1452737877330783856,
 2861767655752347644,3322285676063803686,5560940570517711597,5996557281743188959,
 7280758554555802590,8532644243296465576,9350256976987008742,10552545826968843579,
 11727347734174303076,12113106623233404929,14000437183269869457,14369950271660146224,
 15101387698204529176,15463397548674623760,17586052441742319658,1182934255886127544,
 1847814050463011016,2177327727835720531,2830643537854262169,3796741975233480872,
 4115178125766777443,5681478168544905931,6601373596472566643,7507060721942968483,
 8399075790359081724,8693463985226723168,9568029438360202098,10144078919501101548,
 10430055236837252648,11840083180663258601,13761210420658862357,14299343276471374635,
 14566680578165727644,15097957966210449927,16922976911328602910,17689382322260857208,
 500013540394364858,748580250866718886,1242879168328830382,1977374033974150939,
 2944078676154940804,3659926193048069267,4368137639120453308,4836135668995329356,
 5532061633213252278,6448918945643986474,6902733635092675308,7801388544844847127]
def hN:List Nat:=[7640891576956012808,13503953896175478587,4354685564936845355,11912009170470909681,
 5840696475078001361,11170449401992604703,2270897969802886507,6620516959819538809]
def up (l:List Nat):List Int:=l.map λ (n:Nat)=>(n:Int)
def dn (l:List Int):List Nat:=l.map Int.toNat
def aOB:Summ where
 T:=Unit
 run:=λ
  | []=>some ()
  | _=>none
 enc:=λ _=>.agg (.ints .u64 (up kN)) 80
def II:FA Unit:=aOB.run
def sK:Summ where
 T:=Unit
 run:=λ
  | []=>some ()
  | _=>none
 enc:=λ _=>.s (.dat (.ints .u64 (up kN)) 80 1)
def rK:FA Unit:=sK.run
def aCB:Summ where
 T:=Unit
 run:=λ
  | []=>some ()
  | _=>none
 enc:=λ _=>.agg (.ints .u64 (up hN)) 8
def CZ:FA Unit:=aCB.run
def DV (n:Nat):Nat:=n%18446744073709551616
def g0 (x:Nat):Nat:=rr x 1 ^^^ rr x 8 ^^^ x / 128
def g1 (x:Nat):Nat:=rr x 19 ^^^ rr x 61 ^^^ x / 64
def e0 (x:Nat):Nat:=rr x 28 ^^^ rr x 34 ^^^ rr x 39
def e1 (x:Nat):Nat:=rr x 14 ^^^ rr x 18 ^^^ rr x 41
def wd (s:Str) (i:Nat):Nat->Nat
 | 0=>0
 | k+1=>wd s i k*256+(s.getD (8*i+k) 0).toNat
def blk (s:Str) (i:Nat):List Nat:=(List.range i).map (λ i=>wd s i 8)++List.replicate (80 - i) 0
def A4 (x:List Nat) (i:Nat):List Nat:=x.set i (DV (x.getD (i - 16) 0+g0 (x.getD (i - 15) 0)+x.getD (i - 7) 0+g1 (x.getD (i - 2) 0)))
def cP (x:List Nat):Nat->List Nat
 | 0=>x
 | d+1=>A4 (cP x d) (16+d)
def xN (s:Str):List Nat:=cP (blk s 16) 64
def rnd (t:List Nat) (k w:Nat):List Nat :=
 let a:=t.getD 0 0;let e:=t.getD 4 0;let x:=DV (t.getD 7 0+e1 e+((e &&& t.getD 5 0) ^^^ ((18446744073709551615 - e) &&& t.getD 6 0))+k+w);let y:=DV (e0 a+((a &&& t.getD 1 0) ^^^ (a &&& t.getD 2 0) ^^^ (t.getD 1 0 &&& t.getD 2 0)))
 [DV (x+y),t.getD 0 0,t.getD 1 0,t.getD 2 0,DV (t.getD 3 0+x),t.getD 4 0,t.getD 5 0,t.getD 6 0]
def wA (w:List Nat) (t:List Nat):Nat->List Nat
 | 0=>t
 | i+1=>rnd (wA w t i) (kN.getD i 0) (w.getD i 0)
def E5 (s t:List Nat):Nat->List Nat
 | 0=>s
 | i+1=>(E5 s t i).set i (DV ((E5 s t i).getD i 0+t.getD i 0))
def zY (s:List Nat) (b:Str):List Nat:=E5 s (wA (xN b) s 80) 8
def Mq:Summ where
 T:=List Nat
 run:=λ
  | [.c (.s (.pl (.str s)))]=>cond (Nat.beq s.length 128) (some (xN s)) none
  | _=>none
 enc:=λ t=>.agg (.ints .u64 (up t)) 80
def DW:FA (List Nat):=Mq.run
abbrev P80 (k:List Int):AV:=.s (.rptr (.ints .u64 k) 0 80)
def aCC (l:List Int):Bool:=Nat.beq l.length 8 && qR l
def aCD:Summ where
 T:=List Nat
 run:=λ
  | [.c (.s (.pl (.agg (.ints .u64 h) 8))),.c (.s (.rptr (.ints .u64 k) 0 80)),.c (.s (.pl (.str b)))]=>cond (aCC h && decide (k=up kN) && Nat.beq b.length 128) (some (zY (dn h) b)) none
  | _=>none
 enc:=λ t=>.agg (.ints .u64 (up t)) 8
def IJ:FA (List Nat):=aCD.run
def DX (t:Str):Str:=t++([128]++Lib.repeatL [0] ((247 - t.length%128)%128))
def be (n:Nat):Nat->Str
 | 0=>[]
 | k+1=>be n k++[b8 ((n / 2 ^ (8*(7 - k))%256:Nat):Int)]
def full (t:Str):Str:=DX t++be (t.length*8) 8
def zZ (h:List Nat):Nat->Str->List Nat
 | 0,_=>h
 | k+1,s=>zZ (zY h (s.take 128)) k (s.drop 128)
def Ca (h:List Nat) (k:Nat):List Nat:=(List.range k).map λ i=>h.getD (i / 8) 0 / 2 ^ (56 - 8*(i%8))%256
def Mr (t:Str):List Nat:=Ca (zZ hN ((full t).length / 128) (full t)) 64
def B9 (ss:List Str) (n:Nat):Bool:=Nat.beq n ss.length && Nat.ble ss.length 1048576 && Nat.ble (Lib.join ss []).length 1099511627776
def aCE:Summ where
 T:=List Nat
 run:=λ
  | [.c (.s (.dat (.strs ss) n 1))]=>cond (B9 ss n) (some (Mr (Lib.join ss []))) none
  | _=>none
 enc:=λ t=>.agg (.ints .u8 (up t)) 64
def aJW:FA (List Nat):=aCE.run
def aCF:Cg:=⟨⟨dD [],[],dS⟩,[]⟩
theorem aJX (fu:Nat) (x k:Int):bB prog Tryz.f223 aCF fu [.int .u64 x,.int .i64 k]=bif decide (u64.wrap (64 - d8 .u64 (u64.wrap k) 63) < 0) then none else some (AV.int .u64 (Dx .u64 (j8 .u64 x (d8 .u64 (u64.wrap k) 63)) (eK .u64 x (u64.wrap (64 - d8 .u64 (u64.wrap k) 63))))):=by kernel_rfl
section
variable (T0:Type) (R0:FA T0) (aG:T0->Int)
def aCG:Cg:=⟨⟨dD [(223,⟨R0,λ t=>AV.int .u64 (aG t)⟩)],[],dS⟩,[]⟩
theorem aJY (fu:Nat) (x k:Int):bB prog Tryz.f214 (aCG T0 R0 aG) fu [.int .u64 x,.int .i64 k]=(R0 [.int .u64 x,.int .i64 (i64.wrap (0 - k))]).bind λ t=>some (AV.int .u64 (aG t)):=by kernel_rfl
end
def aCH:Cg:=⟨⟨dD [],[],dS⟩,[]⟩
theorem aJZ (fu:Nat) (x k:Int):bB prog Tryz.f239 aCH fu [.int .u64 x,.int .i64 k]=bif decide (k < 0) then none else bif decide (i64.wrap (64 - k) < 0) then none else some (AV.int .u64 (Dx .u64 (eK .u64 x k) (j8 .u64 x (i64.wrap (64 - k))))):=by kernel_rfl
def aCI:Cg:=⟨⟨dD [],[],dS⟩,[]⟩
theorem aJ0 (fu:Nat):bB prog Tryz.f199 aCI fu []=some (AV.agg (.ints .u64 ([7640891576956012808]++([13503953896175478587]++([4354685564936845355]++([11912009170470909681]++([5840696475078001361]++([11170449401992604703]++([2270897969802886507]++[6620516959819538809])))))))) 8):=by kernel_rfl
def aCJ:Cg:=⟨⟨dD [],[],dS⟩,[]⟩
theorem aJ1 (fu:Nat):bB prog Tryz.f200 aCJ fu []=some (AV.agg (.ints .u64 ([4794697086780616226]++([8158064640168781261]++([13096744586834688815]++([16840607885511220156]++([4131703408338449720]++([6480981068601479193]++([10538285296894168987]++([12329834152419229976]++([15566598209576043074]++([1334009975649890238]++([2608012711638119052]++([6128411473006802146]++([8268148722764581231]++([9286055187155687089]++([11230858885718282805]++([13951009754708518548]++([16472876342353939154]++([17275323862435702243]++([1135362057144423861]++([2597628984639134821]++([3308224258029322869]++([5365058923640841347]++([6679025012923562964]++([8573033837759648693]++([10970295158949994411]++([12119686244451234320]++([12683024718118986047]++([13788192230050041572]++([14330467153632333762]++([15395433587784984357]++([489312712824947311]++([1452737877330783856]++([2861767655752347644]++([3322285676063803686]++([5560940570517711597]++([5996557281743188959]++([7280758554555802590]++([8532644243296465576]++([9350256976987008742]++([10552545826968843579]++([11727347734174303076]++([12113106623233404929]++([14000437183269869457]++([14369950271660146224]++([15101387698204529176]++([15463397548674623760]++([17586052441742319658]++([1182934255886127544]++([1847814050463011016]++([2177327727835720531]++([2830643537854262169]++([3796741975233480872]++([4115178125766777443]++([5681478168544905931]++([6601373596472566643]++([7507060721942968483]++([8399075790359081724]++([8693463985226723168]++([9568029438360202098]++([10144078919501101548]++([10430055236837252648]++([11840083180663258601]++([13761210420658862357]++([14299343276471374635]++([14566680578165727644]++([15097957966210449927]++([16922976911328602910]++([17689382322260857208]++([500013540394364858]++([748580250866718886]++([1242879168328830382]++([1977374033974150939]++([2944078676154940804]++([3659926193048069267]++([4368137639120453308]++([4836135668995329356]++([5532061633213252278]++([6448918945643986474]++([6902733635092675308]++[7801388544844847127])))))))))))))))))))))))))))))))))))))))))))))))))))))))))))))))))))))))))))))))) 80):=by kernel_rfl
def aCK:Cg:=⟨⟨dD [],[],dS⟩,[]⟩
theorem aJ2 (fu:Nat):bB prog Tryz.f238 aCK fu []=some (AV.s (.dat (.ints .u64 ([4794697086780616226]++([8158064640168781261]++([13096744586834688815]++([16840607885511220156]++([4131703408338449720]++([6480981068601479193]++([10538285296894168987]++([12329834152419229976]++([15566598209576043074]++([1334009975649890238]++([2608012711638119052]++([6128411473006802146]++([8268148722764581231]++([9286055187155687089]++([11230858885718282805]++([13951009754708518548]++([16472876342353939154]++([17275323862435702243]++([1135362057144423861]++([2597628984639134821]++([3308224258029322869]++([5365058923640841347]++([6679025012923562964]++([8573033837759648693]++([10970295158949994411]++([12119686244451234320]++([12683024718118986047]++([13788192230050041572]++([14330467153632333762]++([15395433587784984357]++([489312712824947311]++([1452737877330783856]++([2861767655752347644]++([3322285676063803686]++([5560940570517711597]++([5996557281743188959]++([7280758554555802590]++([8532644243296465576]++([9350256976987008742]++([10552545826968843579]++([11727347734174303076]++([12113106623233404929]++([14000437183269869457]++([14369950271660146224]++([15101387698204529176]++([15463397548674623760]++([17586052441742319658]++([1182934255886127544]++([1847814050463011016]++([2177327727835720531]++([2830643537854262169]++([3796741975233480872]++([4115178125766777443]++([5681478168544905931]++([6601373596472566643]++([7507060721942968483]++([8399075790359081724]++([8693463985226723168]++([9568029438360202098]++([10144078919501101548]++([10430055236837252648]++([11840083180663258601]++([13761210420658862357]++([14299343276471374635]++([14566680578165727644]++([15097957966210449927]++([16922976911328602910]++([17689382322260857208]++([500013540394364858]++([748580250866718886]++([1242879168328830382]++([1977374033974150939]++([2944078676154940804]++([3659926193048069267]++([4368137639120453308]++([4836135668995329356]++([5532061633213252278]++([6448918945643986474]++([6902733635092675308]++[7801388544844847127])))))))))))))))))))))))))))))))))))))))))))))))))))))))))))))))))))))))))))))))) 80 1)):=by kernel_rfl
section
variable (T0:Type) (R0:FA T0) (aG:T0->Int)
def qP:Cg:=⟨⟨dD [(214,⟨R0,λ t=>AV.int .u64 (aG t)⟩)],[],dS⟩,[(4,[0,2,3,9],[2,3]),(7,[0,2,3,4,9,12],[0,2,3,9]),(13,[2,3,6],[2,3])]⟩
def DY (s0:Str) (v9:Int) (aQ bA:List Int):St:={ tm:=[(0,.str s0),(2,.s (.ptr 0 0 80)),(3,.s (.ptr 1 0 80)),(9,.int .i64 v9)],hp:=[(0,{ ty:=227,n:=80,row:=Row.t (.ints .u64 aQ) }),(1,{ ty:=227,n:=80,row:=Row.t (.ints .u64 bA) })],nx:=2,sz:=73 }
def A5:Code:=cM (bN [1,1,0,1,2] (bD Tryz.f213))
def DZ (fu:Nat):=lO prog (qP T0 R0 aG) fu [1,1,0,1,2] (bD Tryz.f213) (fQ prog Tryz.f213)
abbrev Vt (fu:Nat) (s0:Str) (v9:Int) (aQ bA:List Int):=eS prog (qP T0 R0 aG) fu A5 (DZ T0 R0 aG fu ) fu (some (DY s0 v9 aQ bA))
theorem aJ3 (fu:Nat) (s:Str):bB prog Tryz.f213 (qP T0 R0 aG) fu [.str s]=Vt T0 R0 aG fu s 0 [0,0,0,0,0,0,0,0,0,0,0,0,0,0,0,0,0,0,0,0,0,0,0,0,0,0,0,0,0,0,0,0,0,0,0,0,0,0,0,0,0,0,0,0,0,0,0,0,0,0,0,0,0,0,0,0,0,0,0,0,0,0,0,0,0,0,0,0,0,0,0,0,0,0,0,0,0,0,0,0] [0,0,0,0,0,0,0,0,0,0,0,0,0,0,0,0,0,0,0,0,0,0,0,0,0,0,0,0,0,0,0,0,0,0,0,0,0,0,0,0,0,0,0,0,0,0,0,0,0,0,0,0,0,0,0,0,0,0,0,0,0,0,0,0,0,0,0,0,0,0,0,0,0,0,0,0,0,0,0,0]:=by kernel_rfl
def G8 (s0:Str) (v4 v9 gU:Int) (aQ bA:List Int):St:={ tm:=[(0,.str s0),(2,.s (.ptr 0 0 80)),(3,.s (.ptr 1 0 80)),(4,.int .i64 v4),(9,.int .i64 v9),(12,.int .i64 gU)],hp:=[(0,{ ty:=227,n:=80,row:=Row.t (.ints .u64 aQ) }),(1,{ ty:=227,n:=80,row:=Row.t (.ints .u64 bA) })],nx:=2,sz:=73 }
def Ms:Code:=cM (bN [1,1,0,1,2,6,1,1,0,2,1,1,2] (bD Tryz.f213))
def Mt {β:Type} (fu:Nat) (G:FG β) (H:FH β):=lO prog (qP T0 R0 aG) fu [1,1,0,2,1,1,2] A5 (uZ (qP T0 R0 aG) A5 G H)
abbrev aJ4 {β:Type} (fu:Nat) (G:FG β) (H:FH β) (s0:Str) (v4 v9 gU:Int) (aQ bA:List Int):=eS prog (qP T0 R0 aG) fu Ms (Mt T0 R0 aG fu G H) fu (some (G8 s0 v4 v9 gU aQ bA))
def K1 (aQ bA:List Int):St:={ tm:=[(2,.s (.ptr 0 0 80)),(3,.s (.ptr 1 0 80))],hp:=[(0,{ ty:=227,n:=80,row:=Row.t (.ints .u64 aQ) }),(1,{ ty:=227,n:=80,row:=Row.t (.ints .u64 bA) })],nx:=2,sz:=73 }
theorem Vu {β:Type} (fu:Nat) (G:FG β) (H:FH β) (s0:Str) (v9:Int) (aQ bA:List Int):fI prog (qP T0 R0 aG) fu A5 G H (DY s0 v9 aQ bA)=bif decide (v9 < 16) then aJ4 T0 R0 aG fu G H s0 v9 v9 0 aQ bA else H (Ex.exit 0) (some (K1 aQ bA)):=by kernel_rfl
def K2 (s0:Str) (v9:Int) (aQ bA:List Int):St:={ tm:=[(0,.str s0),(2,.s (.ptr 0 0 80)),(3,.s (.ptr 1 0 80)),(9,.int .i64 v9)],hp:=[(0,{ ty:=227,n:=80,row:=Row.t (.ints .u64 aQ) }),(1,{ ty:=227,n:=80,row:=Row.t (.ints .u64 bA) })],nx:=2,sz:=73 }
theorem Vv {β:Type} (fu:Nat) (G:FG β) (H:FH β) (s0:Str) (v4 v9 gU:Int) (aQ bA:List Int):fI prog (qP T0 R0 aG) fu Ms G H (G8 s0 v4 v9 gU aQ bA)=bif decide (gU < 8) then bif decide (0 <= v4 /\ v4 < 80) then bif decide (0 <= i64.wrap (i64.wrap (8*v4)+gU) /\ i64.wrap (i64.wrap (8*v4)+gU) < (↑(List.length s0):Int)) then bif decide (0 <= v4 /\ v4 < 80) then G (some (G8 s0 v4 v9 (i64.wrap (gU+1)) aQ (bA.set (0+v4.toNat) (Dx .u64 (j8 .u64 (bA.getD (0+v4.toNat) 0) 8) (u64.wrap (↑(List.getD s0 (i64.wrap (i64.wrap (8*v4)+gU)).toNat (0:UInt8)).toNat:Int)))))) else none else none else none else H (Ex.exit 2) (some (K2 s0 v9 aQ bA)):=by kernel_rfl
def G9 (v6:Int) (aQ bA:List Int):St:={ tm:=[(2,.s (.ptr 0 0 80)),(3,.s (.ptr 1 0 80)),(6,.int .i64 v6)],hp:=[(0,{ ty:=227,n:=80,row:=Row.t (.ints .u64 aQ) }),(1,{ ty:=227,n:=80,row:=Row.t (.ints .u64 bA) })],nx:=2,sz:=73 }
def Mu:Code:=cM (bN [1,1,1,0,1,2] (bD Tryz.f213))
def Mv (fu:Nat):=lO prog (qP T0 R0 aG) fu [1,1,1,0,1,2] (bD Tryz.f213) (fQ prog Tryz.f213)
abbrev Vw (fu:Nat) (v6:Int) (aQ bA:List Int):=eS prog (qP T0 R0 aG) fu Mu (Mv T0 R0 aG fu ) fu (some (G9 v6 aQ bA))
theorem Y5 (fu:Nat) (aQ bA:List Int):DZ T0 R0 aG fu  (Ex.exit 0) (K1 aQ bA)=Vw T0 R0 aG fu 16 aQ bA:=by kernel_rfl
theorem Y6 {β:Type} (fu:Nat) (G:FG β) (H:FH β) (s0:Str) (v9:Int) (aQ bA:List Int):Mt T0 R0 aG fu G H (Ex.exit 2) (K2 s0 v9 aQ bA)=G (some (DY s0 (i64.wrap (v9+1)) aQ bA)):=by kernel_rfl
def K3 (aQ bA:List Int):St:={ tm:=[(2,.s (.ptr 0 0 80)),(3,.s (.ptr 1 0 80))],hp:=[(0,{ ty:=227,n:=80,row:=Row.t (.ints .u64 aQ) }),(1,{ ty:=227,n:=80,row:=Row.t (.ints .u64 bA) })],nx:=2,sz:=73 }
theorem Vx {β:Type} (fu:Nat) (G:FG β) (H:FH β) (v6:Int) (aQ bA:List Int):fI prog (qP T0 R0 aG) fu Mu G H (G9 v6 aQ bA)=bif decide (v6 < 80) then bif decide (0 <= i64.wrap (v6 - 15) /\ i64.wrap (v6 - 15) < 80) then bif decide (0 <= i64.wrap (v6 - 2) /\ i64.wrap (v6 - 2) < 80) then bif decide (0 <= i64.wrap (v6 - 16) /\ i64.wrap (v6 - 16) < 80) then (R0 [.int .u64 (bA.getD (0+(i64.wrap (v6 - 15)).toNat) 0),.int .i64 1]).bind λ t=>(R0 [.int .u64 (bA.getD (0+(i64.wrap (v6 - 15)).toNat) 0),.int .i64 8]).bind λ dH=>bif decide (0 <= i64.wrap (v6 - 7) /\ i64.wrap (v6 - 7) < 80) then (R0 [.int .u64 (bA.getD (0+(i64.wrap (v6 - 2)).toNat) 0),.int .i64 19]).bind λ eU=>(R0 [.int .u64 (bA.getD (0+(i64.wrap (v6 - 2)).toNat) 0),.int .i64 61]).bind λ gF=>bif decide (0 <= v6 /\ v6 < 80) then G (some (G9 (i64.wrap (v6+1)) aQ (bA.set (0+v6.toNat) (u64.wrap (u64.wrap (u64.wrap (bA.getD (0+(i64.wrap (v6 - 16)).toNat) 0+fL .u64 (fL .u64 (aG t) (aG dH)) (eK .u64 (bA.getD (0+(i64.wrap (v6 - 15)).toNat) 0) 7))+bA.getD (0+(i64.wrap (v6 - 7)).toNat) 0)+fL .u64 (fL .u64 (aG eU) (aG gF)) (eK .u64 (bA.getD (0+(i64.wrap (v6 - 2)).toNat) 0) 6)))))) else none else none else none else none else none else H (Ex.exit 4) (some (K3 aQ bA)):=by kernel_rfl
theorem Y7 (fu:Nat) (aQ bA:List Int):Mv T0 R0 aG fu  (Ex.exit 4) (K3 aQ bA)=some (AV.agg (.ints .u64 bA) 80):=by kernel_rfl
end
section
variable (T0:Type) (R0:FA T0) (aG:T0->List Int) (T1:Type) (R1:FA T1) (aN:T1->Int)
def z6:Cg:=⟨⟨dD [(213,⟨R0,λ t=>AV.agg (.ints .u64 (aG t)) 80⟩),(214,⟨R1,λ t=>AV.int .u64 (aN t)⟩)],[],dS⟩,[(5,[1,3,6,7,8,18],[3,6,8]),(13,[3,6,8,102],[3,6])]⟩
def HA (x1:List Int) (xA:Int) (aQ bA cT gI:List Int):St:={ tm:=[(1,.s (.rptr (.ints .u64 x1) 0 80)),(3,.s (.ptr 0 0 8)),(6,.s (.ptr 1 0 8)),(7,.s (.ptr 2 0 80)),(8,.s (.ptr 3 0 8)),(18,.int .i64 xA)],hp:=[(0,{ ty:=225,n:=8,row:=Row.t (.ints .u64 aQ) }),(1,{ ty:=225,n:=8,row:=Row.t (.ints .u64 bA) }),(2,{ ty:=227,n:=80,row:=Row.t (.ints .u64 cT) }),(3,{ ty:=225,n:=8,row:=Row.t (.ints .u64 gI) })],nx:=4,sz:=115 }
def Mw:Code:=cM (bN [1,1,1,0,1,2] (bD Tryz.f201))
def Mx (fu:Nat):=lO prog (z6 T0 R0 aG T1 R1 aN) fu [1,1,1,0,1,2] (bD Tryz.f201) (fQ prog Tryz.f201)
abbrev aJ5 (fu:Nat) (x1:List Int) (xA:Int) (aQ bA cT gI:List Int):=eS prog (z6 T0 R0 aG T1 R1 aN) fu Mw (Mx T0 R0 aG T1 R1 aN fu ) fu (some (HA x1 xA aQ bA cT gI))
theorem aJ6 (fu:Nat) (h k:List Int) (b:Str):bB prog Tryz.f201 (z6 T0 R0 aG T1 R1 aN) fu [W8 h,P80 k,.str b]=(R0 [.str b]).bind λ t=>aJ5 T0 R0 aG T1 R1 aN fu k 0 h [0,0,0,0,0,0,0,0] (aG t) h:=by kernel_rfl
def K4 (aQ bA cT:List Int):St:={ tm:=[(3,.s (.ptr 0 0 8)),(6,.s (.ptr 1 0 8)),(8,.s (.ptr 2 0 8))],hp:=[(0,{ ty:=225,n:=8,row:=Row.t (.ints .u64 aQ) }),(1,{ ty:=225,n:=8,row:=Row.t (.ints .u64 bA) }),(2,{ ty:=225,n:=8,row:=Row.t (.ints .u64 cT) })],nx:=3,sz:=115 }
theorem Vy {β:Type} (fu:Nat) (G:FG β) (H:FH β) (x1:List Int) (xA:Int) (aQ bA cT gI:List Int):fI prog (z6 T0 R0 aG T1 R1 aN) fu Mw G H (HA x1 xA aQ bA cT gI)=bif decide (xA < 80) then (R1 [.int .u64 (gI.getD 4 0),.int .i64 14]).bind λ t=>(R1 [.int .u64 (gI.getD 4 0),.int .i64 18]).bind λ dH=>(R1 [.int .u64 (gI.getD 4 0),.int .i64 41]).bind λ eU=>bif decide (0 <= xA /\ xA < 80) then bif decide (0 <= xA /\ xA < 80) then (R1 [.int .u64 (gI.getD 0 0),.int .i64 28]).bind λ gF=>(R1 [.int .u64 (gI.getD 0 0),.int .i64 34]).bind λ gT=>(R1 [.int .u64 (gI.getD 0 0),.int .i64 39]).bind λ gJ=>G (some (HA x1 (i64.wrap (xA+1)) aQ bA cT ([u64.wrap (u64.wrap (u64.wrap (u64.wrap (u64.wrap (gI.getD 7 0+fL .u64 (fL .u64 (aN t) (aN dH)) (aN eU))+fL .u64 (d8 .u64 (gI.getD 4 0) (gI.getD 5 0)) (d8 .u64 (fL .u64 18446744073709551615 (gI.getD 4 0)) (gI.getD 6 0)))+x1.getD (0+xA.toNat) 0)+cT.getD (0+xA.toNat) 0)+u64.wrap (fL .u64 (fL .u64 (aN gF) (aN gT)) (aN gJ)+fL .u64 (fL .u64 (d8 .u64 (gI.getD 0 0) (gI.getD 1 0)) (d8 .u64 (gI.getD 0 0) (gI.getD 2 0))) (d8 .u64 (gI.getD 1 0) (gI.getD 2 0))))]++([gI.getD 0 0]++([gI.getD 1 0]++([gI.getD 2 0]++([u64.wrap (gI.getD 3 0+u64.wrap (u64.wrap (u64.wrap (u64.wrap (gI.getD 7 0+fL .u64 (fL .u64 (aN t) (aN dH)) (aN eU))+fL .u64 (d8 .u64 (gI.getD 4 0) (gI.getD 5 0)) (d8 .u64 (fL .u64 18446744073709551615 (gI.getD 4 0)) (gI.getD 6 0)))+x1.getD (0+xA.toNat) 0)+cT.getD (0+xA.toNat) 0))]++([gI.getD 4 0]++([gI.getD 5 0]++[gI.getD 6 0]))))))))) else none else none else H (Ex.exit 0) (some (K4 aQ bA gI)):=by kernel_rfl
def HB (B1:Int) (aQ bA cT:List Int):St:={ tm:=[(3,.s (.ptr 0 0 8)),(6,.s (.ptr 1 0 8)),(8,.s (.ptr 2 0 8)),(102,.int .i64 B1)],hp:=[(0,{ ty:=225,n:=8,row:=Row.t (.ints .u64 aQ) }),(1,{ ty:=225,n:=8,row:=Row.t (.ints .u64 bA) }),(2,{ ty:=225,n:=8,row:=Row.t (.ints .u64 cT) })],nx:=3,sz:=115 }
def My:Code:=cM (bN [1,1,1,1,0,1,2] (bD Tryz.f201))
def Mz (fu:Nat):=lO prog (z6 T0 R0 aG T1 R1 aN) fu [1,1,1,1,0,1,2] (bD Tryz.f201) (fQ prog Tryz.f201)
abbrev Vz (fu:Nat) (B1:Int) (aQ bA cT:List Int):=eS prog (z6 T0 R0 aG T1 R1 aN) fu My (Mz T0 R0 aG T1 R1 aN fu ) fu (some (HB B1 aQ bA cT))
theorem Y8 (fu:Nat) (aQ bA cT:List Int):Mx T0 R0 aG T1 R1 aN fu  (Ex.exit 0) (K4 aQ bA cT)=Vz T0 R0 aG T1 R1 aN fu 0 aQ bA cT:=by kernel_rfl
def K5 (aQ bA:List Int):St:={ tm:=[(3,.s (.ptr 0 0 8)),(6,.s (.ptr 1 0 8))],hp:=[(0,{ ty:=225,n:=8,row:=Row.t (.ints .u64 aQ) }),(1,{ ty:=225,n:=8,row:=Row.t (.ints .u64 bA) })],nx:=2,sz:=115 }
theorem V0 {β:Type} (fu:Nat) (G:FG β) (H:FH β) (B1:Int) (aQ bA cT:List Int):fI prog (z6 T0 R0 aG T1 R1 aN) fu My G H (HB B1 aQ bA cT)=bif decide (B1 < 8) then bif decide (0 <= B1 /\ B1 < 8) then bif decide (0 <= B1 /\ B1 < 8) then bif decide (0 <= B1 /\ B1 < 8) then G (some (HB (i64.wrap (B1+1)) (aQ.set (0+B1.toNat) (u64.wrap (aQ.getD (0+B1.toNat) 0+cT.getD (0+B1.toNat) 0))) bA cT)) else none else none else none else H (Ex.exit 2) (some (K5 aQ bA)):=by kernel_rfl
theorem Y9 (fu:Nat) (aQ bA:List Int):Mz T0 R0 aG T1 R1 aN fu  (Ex.exit 2) (K5 aQ bA)=some (AV.agg (.ints .u64 aQ) 8):=by kernel_rfl
end
abbrev aJ7:Cg:=aCF 
theorem aCL:CfOk prog aJ7.c:=gk <| aK
abbrev aJ8:Cg:=aCH 
theorem aCM:CfOk prog aJ8.c:=gk <| aK
abbrev aJ9:Cg:=aCI 
theorem aCN:CfOk prog aJ9.c:=gk <| aK
abbrev aKa:Cg:=aCJ 
theorem aCO:CfOk prog aKa.c:=gk <| aK
abbrev aKb:Cg:=aCK 
theorem aCP:CfOk prog aKb.c:=gk <| aK
theorem rM (x y:Nat) (hx:x < 18446744073709551616) (hy:y < 18446744073709551616):fL .u64 (x:Int) (y:Int)=((x ^^^ y:Nat):Int):=by
 unfold fL;have e:(BitVec.ofInt (IntKind.bits .u64) (x:Int) ^^^ BitVec.ofInt (IntKind.bits .u64) (y:Int)).toNat=x ^^^ y:=by
  show (BitVec.ofInt 64 (x:Int) ^^^ BitVec.ofInt 64 (y:Int)).toNat=x ^^^ y;rw [BitVec.toNat_xor,ZT x hx,ZT y hy]
 rw [e,fN,aV];exact PV (n:=64) hx hy
theorem aXx (x:Nat) (hx:x < 18446744073709551616):d8 .u64 (x:Int) 63=((x%64:Nat):Int):=by
 rw [show (63:Int)=((63:Nat):Int) from rfl,Dp x _ hx (by omega)];rw [show (63:Nat)=2 ^ 6 - 1 from rfl,PR]
theorem aSV (m:Nat) (h0:1 <= m) (h1:m <= 63):u64.wrap (-(m:Int))=((18446744073709551616 - m:Nat):Int):=by
 simp [IntKind.wrap,IntKind.bits,IntKind.signed]; omega
theorem jA {x:Nat} (n:Nat) (hx:x < 18446744073709551616):rr x n < 18446744073709551616 :=
 Hp (n:=64) (iI (pQ _ _) hx) (bK _ (by decide))
theorem QK {x:Nat} (hx:x < 18446744073709551616):hO (x:Int)=true:=aE ⟨by omega,by omega⟩
theorem aKc {args:List AV} {t:Nat} (h:QJ.run args=some t):∃ x m:Nat,args=[.int .u64 (x:Int),.int .i64 (-(m:Int))] /\ x < 18446744073709551616 /\ 1 <= m /\ m <= 63 /\ t=rr x m:=by
 unfold QJ at h;simp only at h;split at h
 ·rename_i x k;obtain ⟨h1,h2⟩:=aY h;simp only [aX,hO,bG] at h1;obtain ⟨n,rfl⟩:=b9 h1.1.1;obtain ⟨m,hm⟩:=b9 (by omega:0 <= -k);have:k=-(m:Int):=by omega
  subst this;refine ⟨n,m,rfl,by omega,by omega,by omega,?_⟩;cases h2;rw [bE,Ap,bE]
 ·cases h
theorem V1 {args:List AV} {t:Nat} (h:K0.run args=some t):∃ x m:Nat,args=[.int .u64 (x:Int),.int .i64 (m:Int)] /\ x < 18446744073709551616 /\ 1 <= m /\ m <= 63 /\ t=rr x m:=by
 unfold K0 at h;simp only at h;split at h
 ·rename_i x k;obtain ⟨h1,h2⟩:=aY h;simp only [aX,hO,bG] at h1;obtain ⟨n,rfl⟩:=b9 h1.1.1;obtain ⟨m,rfl⟩:=b9 (by omega:0 <= k);refine ⟨n,m,rfl,by omega,by omega,by omega,?_⟩;cases h2;rw [bE,bE]
 ·cases h
theorem aCQ (x m:Nat) (hx:x < 18446744073709551616) (h0:1 <= m) (h1:m <= 63):aCA [.int .u64 (x:Int),.int .i64 (-(m:Int))]=some (rr x m):=by
 have h2:decide (-63 <= -(m:Int) /\ -(m:Int) <= -1)=true:=aE (by omega);simp only [aCA,QJ,QK hx,h2,Fm,aB,Ap,bE]
theorem eY (x m:Nat) (hx:x < 18446744073709551616) (h0:1 <= m) (h1:m <= 63):fD [.int .u64 (x:Int),.int .i64 (m:Int)]=some (rr x m):=by
 have h2:decide (1 <= (m:Int) /\ (m:Int) <= 63)=true:=aE (by omega);simp only [fD,K0,QK hx,h2,Fm,aB,bE]
theorem aKd:CallOk prog 223 QJ:=by
 refine i4 aCL Tryz.func223 ?_;intro args t ht;obtain ⟨x,m,rfl,hx,h0,h1,rfl⟩:=aKc ht;refine (aJX ..).trans ?_;rw [aSV m h0 h1,aXx _ (by omega),show (18446744073709551616 - m)%64=64 - m by omega,show (64:Int) - ((64 - m:Nat):Int)=((m:Nat):Int) by omega,fN,aV (by omega:m < 18446744073709551616),aH (by omega),aD,
  Do _ _ (by omega),mX _ _ (by omega),NR _ _ (bK _ (by decide)) (iI (pQ _ _) hx),Nat.or_comm]; rfl
abbrev aKe:Cg:=aCG (Nat) aCA (λ t=>↑t)
theorem aCR:CfOk prog aKe.c:=gk <| aA aKd <| aK
theorem V2:CallOk prog 214 K0:=by
 refine i4 aCR Tryz.func214 ?_;intro args t ht;obtain ⟨x,m,rfl,hx,h0,h1,rfl⟩:=V1 ht;refine (aJY ..).trans ?_;rw [Int.zero_sub,bY (by omega) (by omega),aCQ x m hx h0 h1,aC]; rfl
theorem aKf:CallOk prog 239 K0:=by
 refine i4 aCM Tryz.func239 ?_;intro args t ht;obtain ⟨x,m,rfl,hx,h0,h1,rfl⟩:=V1 ht;refine (aJZ ..).trans ?_;rw [show (64:Int) - (m:Int)=((64 - m:Nat):Int) by omega,bY (by omega) (by omega),aH (by omega),aD,aH (by omega),aD,
  Do _ _ (by omega),mX _ _ (by omega),NR _ _ (iI (pQ _ _) hx) (bK _ (by decide))]; rfl
theorem aCS:CallOk prog 199 aCB:=by
 refine i4 aCN Tryz.func199 ?_;intro args t ht
 match args,ht with
 | [],_=>exact (aJ0 _).trans (by kernel_rfl)
theorem aKg:CallOk prog 200 aOB:=by
 refine i4 aCO Tryz.func200 ?_;intro args t ht
 match args,ht with
 | [],_=>exact (aJ1 _).trans (by kernel_rfl)
theorem aZ5:CallOk prog 238 sK:=by
 refine i4 aCP Tryz.func238 ?_;intro args t ht
 match args,ht with
 | [],_=>exact (aJ2 _).trans (by kernel_rfl)
abbrev Da:Cg:=qP (Nat) fD (λ t=>↑t)
theorem aCT:CfOk prog Da.c:=gk <| aA V2 <| aK
theorem lX (l:List Nat) (i:Nat):(up l).getD i 0=((l.getD i 0:Nat):Int):=by
 unfold up;rw [fU,fU,kV];cases l[i]? <;> rfl
theorem E6 (l:List Nat) (i n:Nat):(up l).set i (n:Int)=up (l.set i n):=by
 unfold up;rw [List.map_set]
theorem E7 (l:List Nat):(up l).length=l.length:=iA _
def Db (l:List Nat):Prop:=∀ i,l.getD i 0 < 18446744073709551616
theorem z7 (l:List Nat) (i j n:Nat):(l.set i n).getD j 0=if i=j /\ i < l.length then n else l.getD j 0:=by
 rw [fU,fU,VK];by_cases h:i=j
 ·subst h;by_cases h2:i < l.length
  ·rw [aT rfl,aT h2,aT ⟨rfl,h2⟩]; rfl
  ·rw [aT rfl,aW h2,aW (λ c=>h2 c.2),At (by omega)]
 ·rw [aW h,aW (λ c=>h c.1)]
theorem V3 {l:List Nat} (h:Db l) (i:Nat) {n:Nat} (hn:n < 18446744073709551616):Db (l.set i n):=by
 intro j;rw [z7];split
 ·exact hn
 ·exact h j
theorem M0 (n:Nat):DV n < 18446744073709551616:=bK _ (by decide)
theorem aCU (s:Str) (i:Nat):∀ k,wd s i k < 256 ^ k:=by
 intro k
 induction k with
 | zero=>exact Nat.one_pos
 | succ k ih=>
  have hb:=(s.getD (8*i+k) 0).toNat_lt;show wd s i k*256+(s.getD (8*i+k) 0).toNat < 256 ^ (k+1);rw [bM];omega
theorem xO (s:Str) (i:Nat) (h:i <= 80):(blk s i).length=80:=by
 rw [blk,i9,iA,List.length_range,List.length_replicate]; omega
theorem Dc (s:Str) (i j:Nat):(blk s i).getD j 0=if j < i then wd s j 8 else 0:=by
 rw [blk,fU];by_cases h:j < i
 ·rw [aT h,yO (by simp; exact h),kV,VJ h]; rfl
 ·rw [aW h,yP (by simp; omega),List.getElem?_replicate];split <;> rfl
theorem QL {a b:List Nat} (hl:a.length=b.length) (h:∀ i,a.getD i 0=b.getD i 0):a=b:=by
 refine PI hl λ i h1 h2=>?_;have:=h i;rw [fU,fU,oD h1,oD h2] at this;exact this
theorem K6 (s:Str) (i:Nat) (h:i < 80):blk s i=(blk s i).set i (wd s i 0):=by
 refine QL (by rw [Fx]) λ j=>?_;rw [z7];split
 ·rename_i c;rw [Dc,aW (by omega)]; rfl
 ·rfl
theorem V4 (s:Str) (i:Nat) (h:i < 80):(blk s i).set i (wd s i 8)=blk s (i+1):=by
 refine QL (by rw [Fx,xO _ _ (by omega),xO _ _ (by omega)]) λ j=>?_;rw [z7,Dc,Dc,xO _ _ (by omega)];by_cases c:i=j
 ·subst c; rw [aT ⟨rfl,h⟩,aT (by omega)]
 ·rw [aW (λ e=>c e.1)];by_cases c2:j < i
  ·rw [aT c2,aT (by omega)]
  ·rw [aW c2,aW (by omega)]
theorem aCV (s:Str) (i:Nat):Db (blk s i):=by
 intro j;rw [Dc];split
 ·exact cU (aCU s j 8) (by decide)
 ·decide
theorem aKh (s:Str) (i k:Nat) (hk:k < 8):Dx .u64 (j8 .u64 ((wd s i k:Nat):Int) 8) (u64.wrap (((s.getD (8*i+k) 0).toNat:Nat):Int))=((wd s i (k+1):Nat):Int):=by
 have hb:=(s.getD (8*i+k) 0).toNat_lt;have h1:=aCU s i k;have h2:(256:Nat) ^ k <= 256 ^ 7:=iK (by decide) (by omega);have h3:wd s i k*2 ^ 8 < 18446744073709551616:=by omega
 rw [show (8:Int)=((8:Nat):Int) from rfl,Do _ _ (by decide),aV h3,fN,aV (by omega:(s.getD (8*i+k) 0).toNat < 18446744073709551616),NR _ _ h3 (by omega),cG,
  <-yV (i:=8) (by omega) (wd s i k),cG]; rfl
theorem aCW {β:Type} (s:Str) (hs:s.length=128) (i:Nat) (hi:i < 16) (fu:Nat) (y:List Int) (G:FG β) (H:FH β):∀ (d n k:Nat),k+d=8->d < n ->
  eS prog Da fu Ms (Mt _ fD (λ t=>(t:Int)) fu G H) n (some (G8 s (i:Int) (i:Int) (k:Int) y (up ((blk s i).set i (wd s i k)))))=G (some (DY s ((i+1:Nat):Int) y (up (blk s (i+1))))):=by
 intro d
 induction d with
 | zero=>
  intro n k hk hn;obtain ⟨n,rfl⟩:=aP (by omega:n ≠ 0);have:k=8:=by omega
  subst this;rw [aF,Vv,aH (by decide),aD,aR,Y6,bY (by omega) (by omega),V4 s i (by omega)]; rfl
 | succ d ih=>
  intro n k hk hn;obtain ⟨n,rfl⟩:=aP (by omega:n ≠ 0);have h:=ih n (k+1) (by omega) (by omega);have hix:i64.wrap (i64.wrap ((8:Int)*(i:Int))+(k:Int))=((8*i+k:Nat):Int):=by
   rw [bY (n:=8*(i:Int)) (by omega) (by omega),bY (by omega) (by omega)]; omega
  rw [aF,Vv,aE (by omega),aB,aE (by omega),aB,hix,aE (by omega),aB,aB,bE,bE,bS,lX,z7,aT ⟨rfl,by rw [xO _ _ (by omega)]; omega⟩,
   aKh s i k (by omega),E6,List.set_set,bY (by omega) (by omega)]
  exact h
theorem aCX (s:Str) (hs:s.length=128) (fu:Nat) (hfu:8 < fu) (y:List Int):∀ (d n i:Nat),i+d=16->d < n ->
  eS prog Da fu A5 (DZ _ fD (λ t=>(t:Int)) fu) n (some (DY s (i:Int) y (up (blk s i))))=Vw _ fD (λ t=>(t:Int)) fu 16 y (up (blk s 16)):=by
 intro d
 induction d with
 | zero=>
  intro n i hi hn;obtain ⟨n,rfl⟩:=aP (by omega:n ≠ 0);have:i=16:=by omega
  subst this;rw [aF,Vu,aH (by decide),aD,aR,Y5]
 | succ d ih=>
  intro n i hi hn;obtain ⟨n,rfl⟩:=aP (by omega:n ≠ 0);rw [aF,Vu,aE (by omega),aB];have h:=aCW s hs i (by omega) fu y (eS prog Da fu A5 (DZ _ fD (λ t=>(t:Int)) fu) n) (zL (DZ _ fD (λ t=>(t:Int)) fu)) 8 fu 0 (by omega) hfu;rw [<-K6 s i (by omega)] at h;refine iR h ?_;exact ih n (i+1) (by omega) (by omega)
theorem ZA (x:List Nat):∀ d,(cP x d).length=x.length:=by
 intro d
 induction d with
 | zero=>rfl
 | succ d ih=>rw [cP,A4,Fx,ih]
theorem QM {x:List Nat} (h:Db x):∀ d,Db (cP x d):=by
 intro d
 induction d with
 | zero=>exact h
 | succ d ih=>exact V3 ih _ (M0 _)
theorem Dd {x:Nat} (n:Nat) (h:x < 18446744073709551616):x / n < 18446744073709551616:=iI (pQ _ _) h
theorem sY {x y:Nat} (hx:x < 18446744073709551616) (hy:y < 18446744073709551616):x ^^^ y < 18446744073709551616:=PV (n:=64) hx hy
theorem aCY (x0:List Nat) (hx0:Db x0) (hl:x0.length=80) (fu:Nat) (y:List Int):∀ (e n d:Nat),d+e=64->e < n ->
  eS prog Da fu Mu (Mv _ fD (λ t=>(t:Int)) fu) n (some (G9 ((16+d:Nat):Int) y (up (cP x0 d))))=some (.agg (.ints .u64 (up (cP x0 64))) 80):=by
 intro e
 induction e with
 | zero=>
  intro n d hd hn;obtain ⟨n,rfl⟩:=aP (by omega:n ≠ 0);have:d=64:=by omega
  subst this;rw [aF,Vx,aH (by decide),aD,aR,Y7]
 | succ e ih=>
  intro n d hd hn;obtain ⟨n,rfl⟩:=aP (by omega:n ≠ 0);have h:=ih n (d+1) (by omega) (by omega);have ok:=QM hx0 d;have w:∀ k:Nat,k <= 16->i64.wrap (((16+d:Nat):Int) - ((k:Nat):Int))=((16+d - k:Nat):Int):=λ k hk=>by rw [bY (by omega) (by omega)]; omega
  have w15:=w 15 (by omega);have w2:=w 2 (by omega);have w16:=w 16 (by omega);have w7:=w 7 (by omega);simp only [Fq] at w15 w2 w16 w7;rw [aF,Vx,aE (by omega),aB,w15,w2,w16,w7,aE (by omega),aB,aE (by omega),aB,aE (by omega),aB];simp only [bE,bS,lX];have t1:=eY _ 1 (ok (16+d - 15)) (by decide) (by decide);have t8:=eY _ 8 (ok (16+d - 15)) (by decide) (by decide);have t19:=eY _ 19 (ok (16+d - 2)) (by decide) (by decide);have t61:=eY _ 61 (ok (16+d - 2)) (by decide) (by decide);simp only [Fq] at t1 t8 t19 t61;rw [t1,aC,t8,aC,aE (by omega),aB,t19,aC,t61,aC,aE (by omega),aB];have a15:=ok (16+d - 15);have a2:=ok (16+d - 2);have x0':fL .u64 (fL .u64 ((rr ((cP x0 d).getD (16+d - 15) 0) 1:Nat):Int) ((rr ((cP x0 d).getD (16+d - 15) 0) 8:Nat):Int)) (eK .u64 (((cP x0 d).getD (16+d - 15) 0:Nat):Int) 7)=((g0 ((cP x0 d).getD (16+d - 15) 0):Nat):Int):=by
   rw [show (7:Int)=((7:Nat):Int) from rfl,mX _ _ (by decide),rM _ _ (jA _ a15) (jA _ a15),rM _ _ (sY (jA _ a15) (jA _ a15)) (Dd _ a15)]; rfl
  have x1':fL .u64 (fL .u64 ((rr ((cP x0 d).getD (16+d - 2) 0) 19:Nat):Int) ((rr ((cP x0 d).getD (16+d - 2) 0) 61:Nat):Int)) (eK .u64 (((cP x0 d).getD (16+d - 2) 0:Nat):Int) 6)=((g1 ((cP x0 d).getD (16+d - 2) 0):Nat):Int):=by
   rw [show (6:Int)=((6:Nat):Int) from rfl,mX _ _ (by decide),rM _ _ (jA _ a2) (jA _ a2),rM _ _ (sY (jA _ a2) (jA _ a2)) (Dd _ a2)]; rfl
  have sm:∀ a b c e:Nat,u64.wrap (u64.wrap (u64.wrap ((a:Int)+(b:Int))+(c:Int))+(e:Int))=((DV (a+b+c+e):Nat):Int):=λ a b c e=>by
   rw [<-fZ,fN,<-fZ,fN,<-fZ,fN,DV];have:((((a+b)%18446744073709551616+c)%18446744073709551616)+e)%18446744073709551616=(a+b+c+e)%18446744073709551616:=by omega
   rw [this]
  rw [x0',x1',sm,E6,bY (by omega) (by omega)];exact h
abbrev HC:List Int:=[0,0,0,0,0,0,0,0,0,0,0,0,0,0,0,0,0,0,0,0,0,0,0,0,0,0,0,0,0,0,0,0,0,0,0,0,0,0,0,0,0,0,0,0,0,0,0,0,0,0,0,0,0,0,0,0,0,0,0,0,0,0,0,0,0,0,0,0,0,0,0,0,0,0,0,0,0,0,0,0]
theorem aCZ (s:Str):up (blk s 0)=HC:=rfl
theorem aSW (s:Str) (hs:s.length=128):Vt _ fD (λ t=>(t:Int)) 65 s 0 HC HC=some (.agg (.ints .u64 (up (xN s))) 80):=by
 have h:=aCX s hs 65 (by decide) HC 16 65 0 (by omega) (by decide);rw [aCZ] at h;exact iR h (aCY (blk s 16) (aCV s 16) (xO s 16 (by decide)) 65 _ 64 65 0 (by omega) (by decide))
theorem ZB:CallOk prog 213 Mq:=by
 refine aZ (fu:=λ _=>65) aCT Tryz.func213 ?_;intro args t ht;unfold Mq at ht;simp only at ht;split at ht
 ·rename_i s;obtain ⟨h1,h2⟩:=cC ht;have h1:=aS h1;subst h2;exact (aJ3 ..).trans (aSW s h1)
 ·cases ht
abbrev M1:Cg:=z6 (List Nat) DW (λ t=>up t) (Nat) fD (λ t=>↑t)
theorem aC0:CfOk prog M1.c:=gk <| aA ZB <| aA V2 <| aK
theorem sZ {x:Nat} (y:Nat) (hx:x < 18446744073709551616):x &&& y < 18446744073709551616:=iI Nat.and_le_left hx
theorem aOC (x:Nat) (hx:x < 18446744073709551616):fL .u64 18446744073709551615 (x:Int)=((18446744073709551615 - x:Nat):Int):=by
 rw [show (18446744073709551615:Int)=((18446744073709551615:Nat):Int) from rfl,rM _ _ (by decide) hx];have:18446744073709551615 ^^^ x=18446744073709551615 - x:=by
  have h:=dQ BitVec.toNat (BitVec.not_def (x:=BitVec.ofNat 64 x));rw [BitVec.toNat_not,BitVec.toNat_xor,BitVec.toNat_allOnes,Sh,aV hx] at h;exact h.symm
 rw [this]
theorem aXy (t:List Nat) (ht:Db t) (k w:Nat) :
  u64.wrap (u64.wrap (u64.wrap (u64.wrap (((t.getD 7 0:Nat):Int)+fL .u64 (fL .u64 ((rr (t.getD 4 0) 14:Nat):Int) ((rr (t.getD 4 0) 18:Nat):Int)) ((rr (t.getD 4 0) 41:Nat):Int)) +
   fL .u64 (d8 .u64 ((t.getD 4 0:Nat):Int) ((t.getD 5 0:Nat):Int)) (d8 .u64 (fL .u64 18446744073709551615 ((t.getD 4 0:Nat):Int)) ((t.getD 6 0:Nat):Int)))+(k:Int))+(w:Int)) =
  ((DV (t.getD 7 0+e1 (t.getD 4 0)+((t.getD 4 0 &&& t.getD 5 0) ^^^ ((18446744073709551615 - t.getD 4 0) &&& t.getD 6 0))+k+w):Nat):Int):=by
 have h4:=ht 4;have h5:=ht 5;have h6:=ht 6;have hn:18446744073709551615 - t.getD 4 0 < 18446744073709551616:=by omega
 rw [rM _ _ (jA _ h4) (jA _ h4),rM _ _ (sY (jA _ h4) (jA _ h4)) (jA _ h4),aOC _ h4,Dp _ _ h4 h5,Dp _ _ hn h6,rM _ _ (sZ _ h4) (sZ _ hn)];rw [show rr (t.getD 4 0) 14 ^^^ rr (t.getD 4 0) 18 ^^^ rr (t.getD 4 0) 41=e1 (t.getD 4 0) from rfl];generalize e1 (t.getD 4 0)=a;generalize (t.getD 4 0 &&& t.getD 5 0) ^^^ ((18446744073709551615 - t.getD 4 0) &&& t.getD 6 0)=b;generalize t.getD 7 0=c;rw [<-fZ,fN,<-fZ,fN,<-fZ,fN,<-fZ,fN,DV];have:((((c+a)%18446744073709551616+b)%18446744073709551616+k)%18446744073709551616+w)%18446744073709551616=(c+a+b+k+w)%18446744073709551616:=by omega
 rw [this]
theorem aXz (t:List Nat) (ht:Db t) :
  u64.wrap (fL .u64 (fL .u64 ((rr (t.getD 0 0) 28:Nat):Int) ((rr (t.getD 0 0) 34:Nat):Int)) ((rr (t.getD 0 0) 39:Nat):Int) +
   fL .u64 (fL .u64 (d8 .u64 ((t.getD 0 0:Nat):Int) ((t.getD 1 0:Nat):Int)) (d8 .u64 ((t.getD 0 0:Nat):Int) ((t.getD 2 0:Nat):Int))) (d8 .u64 ((t.getD 1 0:Nat):Int) ((t.getD 2 0:Nat):Int))) =
  ((DV (e0 (t.getD 0 0)+((t.getD 0 0 &&& t.getD 1 0) ^^^ (t.getD 0 0 &&& t.getD 2 0) ^^^ (t.getD 1 0 &&& t.getD 2 0))):Nat):Int):=by
 have h0:=ht 0;have h1:=ht 1;have h2:=ht 2;rw [rM _ _ (jA _ h0) (jA _ h0),rM _ _ (sY (jA _ h0) (jA _ h0)) (jA _ h0),Dp _ _ h0 h1,Dp _ _ h0 h2,Dp _ _ h1 h2,rM _ _ (sZ _ h0) (sZ _ h0),rM _ _ (sY (sZ _ h0) (sZ _ h0)) (sZ _ h1),
  <-fZ,fN]; rfl
theorem aKi {t:List Nat} (ht:Db t) (k w:Nat):Db (rnd t k w):=by
 intro i
 match i with
 | 0=>exact M0 _
 | 1=>exact ht 0
 | 2=>exact ht 1
 | 3=>exact ht 2
 | 4=>exact M0 _
 | 5=>exact ht 4
 | 6=>exact ht 5
 | 7=>exact ht 6
 | n+8=>exact (by decide:0 < 18446744073709551616)
theorem IK (w:List Nat) {t:List Nat} (ht:Db t):∀ i,Db (wA w t i):=by
 intro i
 induction i with
 | zero=>exact ht
 | succ i ih=>exact aKi ih _ _
theorem TR {b:Str} (h:b.length=128):DW [.str b]=some (xN b):=by
 have:Nat.beq b.length 128=true:=by rw [h]; rfl
 show cond (Nat.beq b.length 128) (some (xN b)) none=_;rw [this]; rfl
theorem aC1 (s:List Nat) (hs:Db s) (w:List Nat) (y:List Int) (fu:Nat):∀ (d n i:Nat),i+d=80->d < n ->
  eS prog M1 fu Mw (Mx _ DW (λ t=>up t) _ fD (λ t=>(t:Int)) fu) n (some (HA (up kN) (i:Int) (up s) y (up w) (up (wA w s i))))=Vz _ DW (λ t=>up t) _ fD (λ t=>(t:Int)) fu 0 (up s) y (up (wA w s 80)):=by
 intro d
 induction d with
 | zero=>
  intro n i hi hn;obtain ⟨n,rfl⟩:=aP (by omega:n ≠ 0);have:i=80:=by omega
  subst this;rw [aF,Vy,aH (by decide),aD,aR,Y8]
 | succ d ih=>
  intro n i hi hn;obtain ⟨n,rfl⟩:=aP (by omega:n ≠ 0);have h:=ih n (i+1) (by omega) (by omega);have ok:=IK w hs i;have ok':=IK w hs (i+1);rw [show wA w s (i+1)=rnd (wA w s i) (kN.getD i 0) (w.getD i 0) from rfl] at h;rw [aF,Vy,aE (by omega),aB];generalize wA w s i=t at ok h ⊢;have t14:=eY _ 14 (ok 4) (by decide) (by decide);have t18:=eY _ 18 (ok 4) (by decide) (by decide);have t41:=eY _ 41 (ok 4) (by decide) (by decide);have t28:=eY _ 28 (ok 0) (by decide) (by decide);have t34:=eY _ 34 (ok 0) (by decide) (by decide);have t39:=eY _ 39 (ok 0) (by decide) (by decide);simp only [Fq] at t14 t18 t41 t28 t34 t39;simp only [bE,bS,lX];rw [t14,aC,t18,aC,t41,aC,aE (by omega),aB,aB,t28,aC,t34,aC,t39,aC,aXy t ok,aXz t ok,bY (by omega) (by omega)];have sm:∀ a b:Nat,u64.wrap ((a:Int)+(b:Int))=((DV (a+b):Nat):Int):=λ a b=>by rw [<-fZ,fN]; rfl
  rw [sm,sm];exact h
theorem aC2 (s t:List Nat) (y:List Int) (fu:Nat):∀ (d n i:Nat),i+d=8->d < n ->
  eS prog M1 fu My (Mz _ DW (λ t=>up t) _ fD (λ t=>(t:Int)) fu) n (some (HB (i:Int) (up (E5 s t i)) y (up t)))=some (.agg (.ints .u64 (up (E5 s t 8))) 8):=by
 intro d
 induction d with
 | zero=>
  intro n i hi hn;obtain ⟨n,rfl⟩:=aP (by omega:n ≠ 0);have:i=8:=by omega
  subst this;rw [aF,V0,aH (by decide),aD,aR,Y9]
 | succ d ih=>
  intro n i hi hn;obtain ⟨n,rfl⟩:=aP (by omega:n ≠ 0);have h:=ih n (i+1) (by omega) (by omega);have sm:∀ a b:Nat,u64.wrap ((a:Int)+(b:Int))=((DV (a+b):Nat):Int):=λ a b=>by rw [<-fZ,fN]; rfl
  rw [aF,V0,aE (by omega),aB,aE (by omega),aB,aB,aB,bE,bS,lX,lX,sm,E6,bY (by omega) (by omega)];exact h
theorem aXA {l:List Int} (h:qR l=true):up (dn l)=l /\ Db (dn l):=by
 induction l with
 | nil=>exact ⟨rfl,λ i=>by show ([]:List Nat).getD i 0 < _; simp⟩
 | cons x r ih=>
  simp only [qR,aX,bG] at h;obtain ⟨h1,h2⟩:=ih h.2;refine ⟨?_,λ i=>?_⟩
  ·show ((x.toNat:Nat):Int) :: up (dn r)=x :: r;rw [h1,Int.toNat_of_nonneg (by omega)]
  ·match i with
   | 0=>show x.toNat < _; omega
   | i+1=>exact h2 i
theorem aKj:CallOk prog 201 aCD:=by
 refine aZ (fu:=λ _=>81) aC0 Tryz.func201 ?_;intro args t ht;unfold aCD at ht;simp only at ht;split at ht
 ·rename_i h k b;obtain ⟨h1,h2⟩:=cC ht;subst h2;simp only [aX,bG] at h1;obtain ⟨⟨h1,rfl⟩,h3⟩:=h1;have h3:=aS h3;simp only [aCC,aX] at h1;obtain ⟨e,ok⟩:=aXA h1.2;refine (aJ6 ..).trans ?_;rw [TR h3,aC];have a:=aC1 (dn h) ok (xN b) gH 81 80 81 0 (by omega) (by decide);have c:=aC2 (dn h) (wA (xN b) (dn h) 80) gH 81 8 81 0 (by omega) (by decide);rw [show wA (xN b) (dn h) 0=dn h from rfl,e] at a;rw [show E5 (dn h) (wA (xN b) (dn h) 80) 0=dn h from rfl,e] at c;exact iR a c
 ·cases ht
open Go Go.Proofs Go.RowKit
def aKk:Str:=[48,49,50,51,52,53,54,55,56,57,97,98,99,100,101,102]
def KN:Str->Str
 | []=>[]
 | c :: r=>aKk.getD (c.toNat / 16) 0 :: aKk.getD (c.toNat%16) 0 :: KN r
theorem aC3:∀ a b:Str,KN (a++b)=KN a++KN b:=by
 intro a
 induction a with
 | nil=>intro b; rfl
 | cons c r ih=>intro b; simp only [Fr,KN,ih]
theorem aC4:∀ a:Str,(KN a).length=2*a.length:=by
 intro a
 induction a with
 | nil=>rfl
 | cons c r ih=>simp only [KN,fF,ih]; omega
theorem aC5 (i:Nat) (h:i < 16):(⟨#[48,49,50,51,52,53,54,55,56,57,97,98,99,100,101,102]⟩:ByteArray)[i]'h=aKk.getD i 0:=by
 have:∀ i:Fin 16,(⟨#[48,49,50,51,52,53,54,55,56,57,97,98,99,100,101,102]⟩:ByteArray)[i.1]'i.2=aKk.getD i.1 0:=by decide
 exact this ⟨i,h⟩
set_option maxHeartbeats 4000000 in
set_option maxRecDepth 1000000 in
theorem aC6 (s:ByteArray) (w:World) (hs:s.size <= 35184372088832) :
  Calls Tryz.prog 216 #[.string s] w λ e w'=>e=.returned (.string ⟨(KN s.data.toList).toArray⟩) /\ Below w.heap.size w w':=by
 go_enter Tryz.func216,Tryz.ntmps216
 go_wp2
 go_loopw [7] (λ v wr=>∃ k:Nat,k <= s.size /\ v=.int .i64 k /\ Lib.IsBuilderF 146 5 w.heap.size w.heap.size (Lib.byteCells (KN (s.data.toList.take k))) wr /\ Below w.heap.size w wr) (λ v _=>s.size - (Lib.intOf v).toNat)
 case atStart=>
  exact ⟨0,pW _,rfl,Lib.IsBuilderF.of (Lib.fresh_isBuilder 146 5 w),(Below.refl _ w).alloc (bV _) _⟩
 case round=>
  obtain ⟨k,hk,rfl,hI,hbw⟩:=hrel;have hbs:w.heap.size <= wr.heap.size:=hbw.size;have hl:=aC4 (s.data.toList.take k);have hsl:s.data.toList.length=s.size:=Sg;have hkl:(s.data.toList.take k).length=k:=by rw [dV,hsl]; omega
  by_cases hp:k < s.size
  ·have hc:=(s[k]'hp).toNat_lt
   go_wp2_with (go_at_call 224; refine (Any.Builder_WriteByte_k Tryz.lay167 Tryz.X167 w.heap.size w.heap.size _ _ wr hI (by rw [Lib.byteCells_length]; omega) hbs).mono ?_)
   rintro e W1 ⟨rfl,h1,b1,k1⟩;have hb1:w.heap.size <= W1.heap.size:=(hbw.trans b1).size
   go_wp2_with (go_at_call 224; refine (Any.Builder_WriteByte_k Tryz.lay167 Tryz.X167 w.heap.size w.heap.size _ _ W1 (Or.inr h1) (by rw [i9,Lib.byteCells_length]; simp; omega) hb1).mono ?_)
   rintro e W2 ⟨rfl,h2,b2,k2⟩;have hb2:Below w.heap.size w W2:=(hbw.trans b1).trans b2
   go_wp2
   go_roundw
   case rel=>
    have ht:s.data.toList.take (k+1)=s.data.toList.take k++[s[k]'hp]:=by
     rw [Hl,oD (by omega)]; rfl
    refine ⟨k+1,hp,by simp,Or.inr ?_,hb2⟩;rw [ht,aC3,Lib.byteCells_append];rw [aC5 _ (by omega),aC5 _ (by omega),lN] at h2;exact h2
   case measure=>simp only [Lib.intOf]; omega
  ·go_wp2_with (go_at_call 116; refine (Any.Builder_String_any_k Tryz.lay169 Tryz.X169 w.heap.size w.heap.size _ wr hI hbs).mono ?_)
   rintro e W1 ⟨rfl,_,b1,_⟩
   go_wp2
   go_ret
   have:k=s.size:=by omega
   subst this;rw [fB (by omega)];exact ⟨rfl,hbw.trans b1⟩
def aSX:Summ where
 T:=Str
 run:=λ
  | [.c (.s (.pl (.str s)))]=>cond (Nat.ble s.length 1099511627776) (some (KN s)) none
  | _=>none
 enc:=λ t=>.str t
theorem aXB {w:World} {ρ:Plc} {x:AV} {vs:List Value} (h:AVRs w ρ [x] vs):∃ u,vs=[u] /\ AVR w ρ x u:=by
 match vs,h with
 | [u],h=>exact ⟨u,rfl,h.1⟩
theorem aSY:CallOk prog 216 aSX:=by
 intro args t ht w X vs hX hav;unfold aSX at ht;simp only at ht;split at ht
 case h_2=>cases ht
 rename_i s;obtain ⟨h1,h2⟩:=cC ht;subst h2;rw [lC] at h1;obtain ⟨u,rfl,hu⟩:=aXB hav;have hu:u=.string ⟨s.toArray⟩:=hu.1;subst hu;refine rU Tryz.func216 (by kernel_rfl) (c:=bD Tryz.f216) (by kernel_rfl) ?_;have:=aC6 ⟨s.toArray⟩ w (by show s.length <= _; omega);exact this.mono λ e w' ⟨he,hb⟩=>⟨_,he,G4 _ _ _,rfl,hb⟩
end
end Go.Eng
