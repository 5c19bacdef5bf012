import Derived.BigCall
import Derived.Test.YthiilbllojllcaaGreatZR2
import Derived.Test.YthiilbllojllcaaGreatZS0
namespace Go.Eng
open Go.IntKind (u64 i64 u8)
noncomputable section
open Go Go.Proofs
set_option linter.all false
def rr (x n:Nat):Nat:=x / 2 ^ n ||| x*2 ^ (64 - n)%18446744073709551616
def V5:Summ where
 T:=Nat
 run:=λ
  | [.c (.s (.pl (.int .u64 x))),.c (.s (.pl (.int .i64 k)))]=>cond (iV x && decide (-63 <= k /\ k <= -1)) (some (rr x.toNat (-k).toNat)) none
  | _=>none
 enc:=λ t=>.int .u64 (t:Int)
def aL7:FA Nat:=V5.run
def O6:Summ where
 T:=Nat
 run:=λ
  | [.c (.s (.pl (.int .u64 x))),.c (.s (.pl (.int .i64 k)))]=>cond (iV x && decide (1 <= k /\ k <= 63)) (some (rr x.toNat k.toNat)) none
  | _=>none
 enc:=λ t=>.int .u64 (t:Int)
def fZ:FA Nat:=O6.run
def kN:List Nat:=[4794697086780616226,8158064640168781261,13096744586834688815,16840607885511220156,
 4131703408338449720,6480981068601479193,10538285296894168987,12329834152419229976,
 15566598209576043074,1334009975649890238,2608012711638119052,6128411473006802146,
 8268148722764581231,9286055187155687089,11230858885718282805,13951009754708518548,
 16472876342353939154,17275323862435702243,1135362057144423861,2597628984639134821,
 3308224258029322869,5365058923640841347,6679025012923562964,8573033837759648693,
 10970295158949994411,12119686244451234320,12683024718118986047,13788192230050041572,
 14330467153632333762,15395433587784984357,489312712824947311,1452737877330783856,
 2861767655752347644,3322285676063803686,5560940570517711597,5996557281743188959,
 7280758554555802590,8532644243296465576,9350256976987008742,10552545826968843579,
 11727347734174303076,12113106623233404929,14000437183269869457,14369950271660146224,
 15101387698204529176,15463397548674623760,17586052441742319658,1182934255886127544,
 1847814050463011016,2177327727835720531,2830643537854262169,3796741975233480872,
 4115178125766777443,5681478168544905931,6601373596472566643,7507060721942968483,
 8399075790359081724,8693463985226723168,9568029438360202098,10144078919501101548,
 10430055236837252648,11840083180663258601,13761210420658862357,14299343276471374635,
 14566680578165727644,15097957966210449927,16922976911328602910,17689382322260857208,
 500013540394364858,748580250866718886,1242879168328830382,1977374033974150939,
 2944078676154940804,3659926193048069267,4368137639120453308,4836135668995329356,
 5532061633213252278,6448918945643986474,6902733635092675308,7801388544844847127]
def hN:List Nat:=[7640891576956012808,13503953896175478587,4354685564936845355,11912009170470909681,
 5840696475078001361,11170449401992604703,2270897969802886507,6620516959819538809]
def up (l:List Nat):List Int:=l.map λ (n:Nat)=>(n:Int)
def dn (l:List Int):List Nat:=l.map Int.toNat
def aX1:Summ where
 T:=Unit
 run:=λ
  | []=>some ()
  | _=>none
 enc:=λ _=>.agg (.ints .u64 (up kN)) 80
def Mc:FA Unit:=aX1.run
def sK:Summ where
 T:=Unit
 run:=λ
  | []=>some ()
  | _=>none
 enc:=λ _=>.s (.dat (.ints .u64 (up kN)) 80 1)
def rK:FA Unit:=sK.run
def aL8:Summ where
 T:=Unit
 run:=λ
  | []=>some ()
  | _=>none
 enc:=λ _=>.agg (.ints .u64 (up hN)) 8
def Ei:FA Unit:=aL8.run
def TK (n:Nat):Nat:=n%18446744073709551616
def g0 (x:Nat):Nat:=rr x 1 ^^^ rr x 8 ^^^ x / 128
def g1 (x:Nat):Nat:=rr x 19 ^^^ rr x 61 ^^^ x / 64
def e0 (x:Nat):Nat:=rr x 28 ^^^ rr x 34 ^^^ rr x 39
def e1 (x:Nat):Nat:=rr x 14 ^^^ rr x 18 ^^^ rr x 41
def wd (s:Str) (i:Nat):Nat->Nat
 | 0=>0
 | k+1=>wd s i k*256+(s.getD (8*i+k) 0).toNat
def blk (s:Str) (i:Nat):List Nat:=(List.range i).map (λ i=>wd s i 8)++List.replicate (80 - i) 0
def aTm (x:List Nat) (i:Nat):List Nat:=x.set i (TK (x.getD (i - 16) 0+g0 (x.getD (i - 15) 0)+x.getD (i - 7) 0+g1 (x.getD (i - 2) 0)))
def lM (x:List Nat):Nat->List Nat
 | 0=>x
 | d+1=>aTm (lM x d) (16+d)
def Ac (s:Str):List Nat:=lM (blk s 16) 64
def rnd (t:List Nat) (k w:Nat):List Nat :=
 let a:=t.getD 0 0;let e:=t.getD 4 0;let x:=TK (t.getD 7 0+e1 e+((e &&& t.getD 5 0) ^^^ ((18446744073709551615 - e) &&& t.getD 6 0))+k+w);let y:=TK (e0 a+((a &&& t.getD 1 0) ^^^ (a &&& t.getD 2 0) ^^^ (t.getD 1 0 &&& t.getD 2 0)))
 [TK (x+y),t.getD 0 0,t.getD 1 0,t.getD 2 0,TK (t.getD 3 0+x),t.getD 4 0,t.getD 5 0,t.getD 6 0]
def CM (w:List Nat) (t:List Nat):Nat->List Nat
 | 0=>t
 | i+1=>rnd (CM w t i) (kN.getD i 0) (w.getD i 0)
def Md (s t:List Nat):Nat->List Nat
 | 0=>s
 | i+1=>(Md s t i).set i (TK ((Md s t i).getD i 0+t.getD i 0))
def Gd (s:List Nat) (b:Str):List Nat:=Md s (CM (Ac b) s 80) 8
def SH:Summ where
 T:=List Nat
 run:=λ
  | [.c (.s (.pl (.str s)))]=>cond (Nat.beq s.length 128) (some (Ac s)) none
  | _=>none
 enc:=λ t=>.agg (.ints .u64 (up t)) 80
def Ge:FA (List Nat):=SH.run
abbrev P80 (k:List Int):AV:=.s (.rptr (.ints .u64 k) 0 80)
def aL9 (l:List Int):Bool:=Nat.beq l.length 8 && tU l
def aMa:Summ where
 T:=List Nat
 run:=λ
  | [.c (.s (.pl (.agg (.ints .u64 h) 8))),.c (.s (.rptr (.ints .u64 k) 0 80)),.c (.s (.pl (.str b)))]=>cond (aL9 h && decide (k=up kN) && Nat.beq b.length 128) (some (Gd (dn h) b)) none
  | _=>none
 enc:=λ t=>.agg (.ints .u64 (up t)) 8
def Me:FA (List Nat):=aMa.run
def Gf (t:Str):Str:=t++([128]++Lib.repeatL [0] ((247 - t.length%128)%128))
def be (n:Nat):Nat->Str
 | 0=>[]
 | k+1=>be n k++[b8 ((n / 2 ^ (8*(7 - k))%256:Nat):Int)]
def full (t:Str):Str:=Gf t++be (t.length*8) 8
def Ej (h:List Nat):Nat->Str->List Nat
 | 0,_=>h
 | k+1,s=>Ej (Gd h (s.take 128)) k (s.drop 128)
def Gg (h:List Nat) (k:Nat):List Nat:=(List.range k).map λ i=>h.getD (i / 8) 0 / 2 ^ (56 - 8*(i%8))%256
def Gh (t:Str):List Nat:=Gg (Ej hN ((full t).length / 128) (full t)) 64
def nZ (ss:List Str) (n:Nat):Bool:=Nat.beq n ss.length && Nat.ble ss.length 1048576 && Nat.ble (Lib.join ss []).length 1099511627776
def bEO:Summ where
 T:=List Nat
 run:=λ
  | [.c (.s (.dat (.strs ss) n 1))]=>cond (nZ ss n) (some (Gh (Lib.join ss []))) none
  | _=>none
 enc:=λ t=>.agg (.ints .u8 (up t)) 64
def SI:FA (List Nat):=bEO.run
def aMb:Cg:=⟨⟨cV [],[],cX⟩,[]⟩
theorem aTn (fu:Nat) (x k:Int):aS prog Tryz.f187 aMb fu [.int .u64 x,.int .i64 k]=bif decide (u64.wrap (64 - fH .u64 (u64.wrap k) 63) < 0) then none else some (AV.int .u64 (Fv .u64 (mE .u64 x (fH .u64 (u64.wrap k) 63)) (eJ .u64 x (u64.wrap (64 - fH .u64 (u64.wrap k) 63))))):=by kernel_rfl
section
variable (T0:Type) (R0:FA T0) (aG:T0->Int)
def aMc:Cg:=⟨⟨cV [(187,⟨R0,λ t=>AV.int .u64 (aG t)⟩)],[],cX⟩,[]⟩
theorem aTo (fu:Nat) (x k:Int):aS prog Tryz.f161 (aMc T0 R0 aG) fu [.int .u64 x,.int .i64 k]=(R0 [.int .u64 x,.int .i64 (i64.wrap (0 - k))]).bind λ t=>some (AV.int .u64 (aG t)):=by kernel_rfl
end
def aMd:Cg:=⟨⟨cV [],[],cX⟩,[]⟩
theorem aTp (fu:Nat) (x k:Int):aS prog Tryz.f206 aMd fu [.int .u64 x,.int .i64 k]=bif decide (k < 0) then none else bif decide (i64.wrap (64 - k) < 0) then none else some (AV.int .u64 (Fv .u64 (eJ .u64 x k) (mE .u64 x (i64.wrap (64 - k))))):=by kernel_rfl
def aMe:Cg:=⟨⟨cV [],[],cX⟩,[]⟩
theorem aTq (fu:Nat):aS prog Tryz.f120 aMe fu []=some (AV.agg (.ints .u64 ([7640891576956012808]++([13503953896175478587]++([4354685564936845355]++([11912009170470909681]++([5840696475078001361]++([11170449401992604703]++([2270897969802886507]++[6620516959819538809])))))))) 8):=by kernel_rfl
def aMf:Cg:=⟨⟨cV [],[],cX⟩,[]⟩
theorem aTr (fu:Nat):aS prog Tryz.f121 aMf fu []=some (AV.agg (.ints .u64 ([4794697086780616226]++([8158064640168781261]++([13096744586834688815]++([16840607885511220156]++([4131703408338449720]++([6480981068601479193]++([10538285296894168987]++([12329834152419229976]++([15566598209576043074]++([1334009975649890238]++([2608012711638119052]++([6128411473006802146]++([8268148722764581231]++([9286055187155687089]++([11230858885718282805]++([13951009754708518548]++([16472876342353939154]++([17275323862435702243]++([1135362057144423861]++([2597628984639134821]++([3308224258029322869]++([5365058923640841347]++([6679025012923562964]++([8573033837759648693]++([10970295158949994411]++([12119686244451234320]++([12683024718118986047]++([13788192230050041572]++([14330467153632333762]++([15395433587784984357]++([489312712824947311]++([1452737877330783856]++([2861767655752347644]++([3322285676063803686]++([5560940570517711597]++([5996557281743188959]++([7280758554555802590]++([8532644243296465576]++([9350256976987008742]++([10552545826968843579]++([11727347734174303076]++([12113106623233404929]++([14000437183269869457]++([14369950271660146224]++([15101387698204529176]++([15463397548674623760]++([17586052441742319658]++([1182934255886127544]++([1847814050463011016]++([2177327727835720531]++([2830643537854262169]++([3796741975233480872]++([4115178125766777443]++([5681478168544905931]++([6601373596472566643]++([7507060721942968483]++([8399075790359081724]++([8693463985226723168]++([9568029438360202098]++([10144078919501101548]++([10430055236837252648]++([11840083180663258601]++([13761210420658862357]++([14299343276471374635]++([14566680578165727644]++([15097957966210449927]++([16922976911328602910]++([17689382322260857208]++([500013540394364858]++([748580250866718886]++([1242879168328830382]++([1977374033974150939]++([2944078676154940804]++([3659926193048069267]++([4368137639120453308]++([4836135668995329356]++([5532061633213252278]++([6448918945643986474]++([6902733635092675308]++[7801388544844847127])))))))))))))))))))))))))))))))))))))))))))))))))))))))))))))))))))))))))))))))) 80):=by kernel_rfl
def aMg:Cg:=⟨⟨cV [],[],cX⟩,[]⟩
theorem aTs (fu:Nat):aS prog Tryz.f205 aMg fu []=some (AV.s (.dat (.ints .u64 ([4794697086780616226]++([8158064640168781261]++([13096744586834688815]++([16840607885511220156]++([4131703408338449720]++([6480981068601479193]++([10538285296894168987]++([12329834152419229976]++([15566598209576043074]++([1334009975649890238]++([2608012711638119052]++([6128411473006802146]++([8268148722764581231]++([9286055187155687089]++([11230858885718282805]++([13951009754708518548]++([16472876342353939154]++([17275323862435702243]++([1135362057144423861]++([2597628984639134821]++([3308224258029322869]++([5365058923640841347]++([6679025012923562964]++([8573033837759648693]++([10970295158949994411]++([12119686244451234320]++([12683024718118986047]++([13788192230050041572]++([14330467153632333762]++([15395433587784984357]++([489312712824947311]++([1452737877330783856]++([2861767655752347644]++([3322285676063803686]++([5560940570517711597]++([5996557281743188959]++([7280758554555802590]++([8532644243296465576]++([9350256976987008742]++([10552545826968843579]++([11727347734174303076]++([12113106623233404929]++([14000437183269869457]++([14369950271660146224]++([15101387698204529176]++([15463397548674623760]++([17586052441742319658]++([1182934255886127544]++([1847814050463011016]++([2177327727835720531]++([2830643537854262169]++([3796741975233480872]++([4115178125766777443]++([5681478168544905931]++([6601373596472566643]++([7507060721942968483]++([8399075790359081724]++([8693463985226723168]++([9568029438360202098]++([10144078919501101548]++([10430055236837252648]++([11840083180663258601]++([13761210420658862357]++([14299343276471374635]++([14566680578165727644]++([15097957966210449927]++([16922976911328602910]++([17689382322260857208]++([500013540394364858]++([748580250866718886]++([1242879168328830382]++([1977374033974150939]++([2944078676154940804]++([3659926193048069267]++([4368137639120453308]++([4836135668995329356]++([5532061633213252278]++([6448918945643986474]++([6902733635092675308]++[7801388544844847127])))))))))))))))))))))))))))))))))))))))))))))))))))))))))))))))))))))))))))))))) 80 1)):=by kernel_rfl
section
variable (T0:Type) (R0:FA T0) (aG:T0->Int)
def tS:Cg:=⟨⟨cV [(161,⟨R0,λ t=>AV.int .u64 (aG t)⟩)],[],cX⟩,[(4,[0,2,3,9],[2,3]),(7,[0,2,3,4,9,12],[0,2,3,9]),(13,[2,3,6],[2,3])]⟩
def Gi (s0:Str) (v9:Int) (aQ bC:List Int):St:={ tm:=[(0,.str s0),(2,.s (.ptr 0 0 80)),(3,.s (.ptr 1 0 80)),(9,.int .i64 v9)],hp:=[(0,{ ty:=149,n:=80,row:=Row.t (.ints .u64 aQ) }),(1,{ ty:=149,n:=80,row:=Row.t (.ints .u64 bC) })],nx:=2,sz:=73 }
def DB:Code:=cN (bN [1,1,0,1,2] (bB Tryz.f160))
def Gj (fu:Nat):=mD prog (tS T0 R0 aG) fu [1,1,0,1,2] (bB Tryz.f160) (gI prog Tryz.f160)
abbrev aCH (fu:Nat) (s0:Str) (v9:Int) (aQ bC:List Int):=eV prog (tS T0 R0 aG) fu DB (Gj T0 R0 aG fu ) fu (some (Gi s0 v9 aQ bC))
theorem aTt (fu:Nat) (s:Str):aS prog Tryz.f160 (tS T0 R0 aG) fu [.str s]=aCH T0 R0 aG fu s 0 [0,0,0,0,0,0,0,0,0,0,0,0,0,0,0,0,0,0,0,0,0,0,0,0,0,0,0,0,0,0,0,0,0,0,0,0,0,0,0,0,0,0,0,0,0,0,0,0,0,0,0,0,0,0,0,0,0,0,0,0,0,0,0,0,0,0,0,0,0,0,0,0,0,0,0,0,0,0,0,0] [0,0,0,0,0,0,0,0,0,0,0,0,0,0,0,0,0,0,0,0,0,0,0,0,0,0,0,0,0,0,0,0,0,0,0,0,0,0,0,0,0,0,0,0,0,0,0,0,0,0,0,0,0,0,0,0,0,0,0,0,0,0,0,0,0,0,0,0,0,0,0,0,0,0,0,0,0,0,0,0]:=by kernel_rfl
def Ju (s0:Str) (v4 v9 jH:Int) (aQ bC:List Int):St:={ tm:=[(0,.str s0),(2,.s (.ptr 0 0 80)),(3,.s (.ptr 1 0 80)),(4,.int .i64 v4),(9,.int .i64 v9),(12,.int .i64 jH)],hp:=[(0,{ ty:=149,n:=80,row:=Row.t (.ints .u64 aQ) }),(1,{ ty:=149,n:=80,row:=Row.t (.ints .u64 bC) })],nx:=2,sz:=73 }
def SJ:Code:=cN (bN [1,1,0,1,2,6,1,1,0,2,1,1,2] (bB Tryz.f160))
def SK {β:Type} (fu:Nat) (G:FG β) (H:FH β):=mD prog (tS T0 R0 aG) fu [1,1,0,2,1,1,2] DB (wD (tS T0 R0 aG) DB G H)
abbrev aTu {β:Type} (fu:Nat) (G:FG β) (H:FH β) (s0:Str) (v4 v9 jH:Int) (aQ bC:List Int):=eV prog (tS T0 R0 aG) fu SJ (SK T0 R0 aG fu G H) fu (some (Ju s0 v4 v9 jH aQ bC))
def O7 (aQ bC:List Int):St:={ tm:=[(2,.s (.ptr 0 0 80)),(3,.s (.ptr 1 0 80))],hp:=[(0,{ ty:=149,n:=80,row:=Row.t (.ints .u64 aQ) }),(1,{ ty:=149,n:=80,row:=Row.t (.ints .u64 bC) })],nx:=2,sz:=73 }
theorem aCI {β:Type} (fu:Nat) (G:FG β) (H:FH β) (s0:Str) (v9:Int) (aQ bC:List Int):fV prog (tS T0 R0 aG) fu DB G H (Gi s0 v9 aQ bC)=bif decide (v9 < 16) then aTu T0 R0 aG fu G H s0 v9 v9 0 aQ bC else H (Ex.exit 0) (some (O7 aQ bC)):=by kernel_rfl
def O8 (s0:Str) (v9:Int) (aQ bC:List Int):St:={ tm:=[(0,.str s0),(2,.s (.ptr 0 0 80)),(3,.s (.ptr 1 0 80)),(9,.int .i64 v9)],hp:=[(0,{ ty:=149,n:=80,row:=Row.t (.ints .u64 aQ) }),(1,{ ty:=149,n:=80,row:=Row.t (.ints .u64 bC) })],nx:=2,sz:=73 }
theorem aCJ {β:Type} (fu:Nat) (G:FG β) (H:FH β) (s0:Str) (v4 v9 jH:Int) (aQ bC:List Int):fV prog (tS T0 R0 aG) fu SJ G H (Ju s0 v4 v9 jH aQ bC)=bif decide (jH < 8) then bif decide (0 <= v4 /\ v4 < 80) then bif decide (0 <= i64.wrap (i64.wrap (8*v4)+jH) /\ i64.wrap (i64.wrap (8*v4)+jH) < (↑(List.length s0):Int)) then bif decide (0 <= v4 /\ v4 < 80) then G (some (Ju s0 v4 v9 (i64.wrap (jH+1)) aQ (bC.set (0+v4.toNat) (Fv .u64 (mE .u64 (bC.getD (0+v4.toNat) 0) 8) (u64.wrap (↑(List.getD s0 (i64.wrap (i64.wrap (8*v4)+jH)).toNat (0:UInt8)).toNat:Int)))))) else none else none else none else H (Ex.exit 2) (some (O8 s0 v9 aQ bC)):=by kernel_rfl
def Jv (v6:Int) (aQ bC:List Int):St:={ tm:=[(2,.s (.ptr 0 0 80)),(3,.s (.ptr 1 0 80)),(6,.int .i64 v6)],hp:=[(0,{ ty:=149,n:=80,row:=Row.t (.ints .u64 aQ) }),(1,{ ty:=149,n:=80,row:=Row.t (.ints .u64 bC) })],nx:=2,sz:=73 }
def SL:Code:=cN (bN [1,1,1,0,1,2] (bB Tryz.f160))
def SM (fu:Nat):=mD prog (tS T0 R0 aG) fu [1,1,1,0,1,2] (bB Tryz.f160) (gI prog Tryz.f160)
abbrev aCK (fu:Nat) (v6:Int) (aQ bC:List Int):=eV prog (tS T0 R0 aG) fu SL (SM T0 R0 aG fu ) fu (some (Jv v6 aQ bC))
theorem aFH (fu:Nat) (aQ bC:List Int):Gj T0 R0 aG fu  (Ex.exit 0) (O7 aQ bC)=aCK T0 R0 aG fu 16 aQ bC:=by kernel_rfl
theorem aFI {β:Type} (fu:Nat) (G:FG β) (H:FH β) (s0:Str) (v9:Int) (aQ bC:List Int):SK T0 R0 aG fu G H (Ex.exit 2) (O8 s0 v9 aQ bC)=G (some (Gi s0 (i64.wrap (v9+1)) aQ bC)):=by kernel_rfl
def O9 (aQ bC:List Int):St:={ tm:=[(2,.s (.ptr 0 0 80)),(3,.s (.ptr 1 0 80))],hp:=[(0,{ ty:=149,n:=80,row:=Row.t (.ints .u64 aQ) }),(1,{ ty:=149,n:=80,row:=Row.t (.ints .u64 bC) })],nx:=2,sz:=73 }
theorem aCL {β:Type} (fu:Nat) (G:FG β) (H:FH β) (v6:Int) (aQ bC:List Int):fV prog (tS T0 R0 aG) fu SL G H (Jv v6 aQ bC)=bif decide (v6 < 80) then bif decide (0 <= i64.wrap (v6 - 15) /\ i64.wrap (v6 - 15) < 80) then bif decide (0 <= i64.wrap (v6 - 2) /\ i64.wrap (v6 - 2) < 80) then bif decide (0 <= i64.wrap (v6 - 16) /\ i64.wrap (v6 - 16) < 80) then (R0 [.int .u64 (bC.getD (0+(i64.wrap (v6 - 15)).toNat) 0),.int .i64 1]).bind λ t=>(R0 [.int .u64 (bC.getD (0+(i64.wrap (v6 - 15)).toNat) 0),.int .i64 8]).bind λ bY=>bif decide (0 <= i64.wrap (v6 - 7) /\ i64.wrap (v6 - 7) < 80) then (R0 [.int .u64 (bC.getD (0+(i64.wrap (v6 - 2)).toNat) 0),.int .i64 19]).bind λ cJ=>(R0 [.int .u64 (bC.getD (0+(i64.wrap (v6 - 2)).toNat) 0),.int .i64 61]).bind λ fF=>bif decide (0 <= v6 /\ v6 < 80) then G (some (Jv (i64.wrap (v6+1)) aQ (bC.set (0+v6.toNat) (u64.wrap (u64.wrap (u64.wrap (bC.getD (0+(i64.wrap (v6 - 16)).toNat) 0+gG .u64 (gG .u64 (aG t) (aG bY)) (eJ .u64 (bC.getD (0+(i64.wrap (v6 - 15)).toNat) 0) 7))+bC.getD (0+(i64.wrap (v6 - 7)).toNat) 0)+gG .u64 (gG .u64 (aG cJ) (aG fF)) (eJ .u64 (bC.getD (0+(i64.wrap (v6 - 2)).toNat) 0) 6)))))) else none else none else none else none else none else H (Ex.exit 4) (some (O9 aQ bC)):=by kernel_rfl
theorem aFJ (fu:Nat) (aQ bC:List Int):SM T0 R0 aG fu  (Ex.exit 4) (O9 aQ bC)=some (AV.agg (.ints .u64 bC) 80):=by kernel_rfl
end
section
variable (T0:Type) (R0:FA T0) (aG:T0->List Int) (T1:Type) (R1:FA T1) (aM:T1->Int)
def CN:Cg:=⟨⟨cV [(160,⟨R0,λ t=>AV.agg (.ints .u64 (aG t)) 80⟩),(161,⟨R1,λ t=>AV.int .u64 (aM t)⟩)],[],cX⟩,[(5,[1,3,6,7,8,18],[3,6,8]),(13,[3,6,8,102],[3,6])]⟩
def Jw (x1:List Int) (zZ:Int) (aQ bC dE gX:List Int):St:={ tm:=[(1,.s (.rptr (.ints .u64 x1) 0 80)),(3,.s (.ptr 0 0 8)),(6,.s (.ptr 1 0 8)),(7,.s (.ptr 2 0 80)),(8,.s (.ptr 3 0 8)),(18,.int .i64 zZ)],hp:=[(0,{ ty:=147,n:=8,row:=Row.t (.ints .u64 aQ) }),(1,{ ty:=147,n:=8,row:=Row.t (.ints .u64 bC) }),(2,{ ty:=149,n:=80,row:=Row.t (.ints .u64 dE) }),(3,{ ty:=147,n:=8,row:=Row.t (.ints .u64 gX) })],nx:=4,sz:=115 }
def SN:Code:=cN (bN [1,1,1,0,1,2] (bB Tryz.f122))
def SO (fu:Nat):=mD prog (CN T0 R0 aG T1 R1 aM) fu [1,1,1,0,1,2] (bB Tryz.f122) (gI prog Tryz.f122)
abbrev aTv (fu:Nat) (x1:List Int) (zZ:Int) (aQ bC dE gX:List Int):=eV prog (CN T0 R0 aG T1 R1 aM) fu SN (SO T0 R0 aG T1 R1 aM fu ) fu (some (Jw x1 zZ aQ bC dE gX))
theorem aTw (fu:Nat) (h k:List Int) (b:Str):aS prog Tryz.f122 (CN T0 R0 aG T1 R1 aM) fu [W8 h,P80 k,.str b]=(R0 [.str b]).bind λ t=>aTv T0 R0 aG T1 R1 aM fu k 0 h [0,0,0,0,0,0,0,0] (aG t) h:=by kernel_rfl
def PA (aQ bC dE:List Int):St:={ tm:=[(3,.s (.ptr 0 0 8)),(6,.s (.ptr 1 0 8)),(8,.s (.ptr 2 0 8))],hp:=[(0,{ ty:=147,n:=8,row:=Row.t (.ints .u64 aQ) }),(1,{ ty:=147,n:=8,row:=Row.t (.ints .u64 bC) }),(2,{ ty:=147,n:=8,row:=Row.t (.ints .u64 dE) })],nx:=3,sz:=115 }
theorem aCM {β:Type} (fu:Nat) (G:FG β) (H:FH β) (x1:List Int) (zZ:Int) (aQ bC dE gX:List Int):fV prog (CN T0 R0 aG T1 R1 aM) fu SN G H (Jw x1 zZ aQ bC dE gX)=bif decide (zZ < 80) then (R1 [.int .u64 (gX.getD 4 0),.int .i64 14]).bind λ t=>(R1 [.int .u64 (gX.getD 4 0),.int .i64 18]).bind λ bY=>(R1 [.int .u64 (gX.getD 4 0),.int .i64 41]).bind λ cJ=>bif decide (0 <= zZ /\ zZ < 80) then bif decide (0 <= zZ /\ zZ < 80) then (R1 [.int .u64 (gX.getD 0 0),.int .i64 28]).bind λ fF=>(R1 [.int .u64 (gX.getD 0 0),.int .i64 34]).bind λ gA=>(R1 [.int .u64 (gX.getD 0 0),.int .i64 39]).bind λ gC=>G (some (Jw x1 (i64.wrap (zZ+1)) aQ bC dE ([u64.wrap (u64.wrap (u64.wrap (u64.wrap (u64.wrap (gX.getD 7 0+gG .u64 (gG .u64 (aM t) (aM bY)) (aM cJ))+gG .u64 (fH .u64 (gX.getD 4 0) (gX.getD 5 0)) (fH .u64 (gG .u64 18446744073709551615 (gX.getD 4 0)) (gX.getD 6 0)))+x1.getD (0+zZ.toNat) 0)+dE.getD (0+zZ.toNat) 0)+u64.wrap (gG .u64 (gG .u64 (aM fF) (aM gA)) (aM gC)+gG .u64 (gG .u64 (fH .u64 (gX.getD 0 0) (gX.getD 1 0)) (fH .u64 (gX.getD 0 0) (gX.getD 2 0))) (fH .u64 (gX.getD 1 0) (gX.getD 2 0))))]++([gX.getD 0 0]++([gX.getD 1 0]++([gX.getD 2 0]++([u64.wrap (gX.getD 3 0+u64.wrap (u64.wrap (u64.wrap (u64.wrap (gX.getD 7 0+gG .u64 (gG .u64 (aM t) (aM bY)) (aM cJ))+gG .u64 (fH .u64 (gX.getD 4 0) (gX.getD 5 0)) (fH .u64 (gG .u64 18446744073709551615 (gX.getD 4 0)) (gX.getD 6 0)))+x1.getD (0+zZ.toNat) 0)+dE.getD (0+zZ.toNat) 0))]++([gX.getD 4 0]++([gX.getD 5 0]++[gX.getD 6 0]))))))))) else none else none else H (Ex.exit 0) (some (PA aQ bC gX)):=by kernel_rfl
def Jy (Do:Int) (aQ bC dE:List Int):St:={ tm:=[(3,.s (.ptr 0 0 8)),(6,.s (.ptr 1 0 8)),(8,.s (.ptr 2 0 8)),(102,.int .i64 Do)],hp:=[(0,{ ty:=147,n:=8,row:=Row.t (.ints .u64 aQ) }),(1,{ ty:=147,n:=8,row:=Row.t (.ints .u64 bC) }),(2,{ ty:=147,n:=8,row:=Row.t (.ints .u64 dE) })],nx:=3,sz:=115 }
def SP:Code:=cN (bN [1,1,1,1,0,1,2] (bB Tryz.f122))
def SQ (fu:Nat):=mD prog (CN T0 R0 aG T1 R1 aM) fu [1,1,1,1,0,1,2] (bB Tryz.f122) (gI prog Tryz.f122)
abbrev aCN (fu:Nat) (Do:Int) (aQ bC dE:List Int):=eV prog (CN T0 R0 aG T1 R1 aM) fu SP (SQ T0 R0 aG T1 R1 aM fu ) fu (some (Jy Do aQ bC dE))
theorem aFK (fu:Nat) (aQ bC dE:List Int):SO T0 R0 aG T1 R1 aM fu  (Ex.exit 0) (PA aQ bC dE)=aCN T0 R0 aG T1 R1 aM fu 0 aQ bC dE:=by kernel_rfl
def PB (aQ bC:List Int):St:={ tm:=[(3,.s (.ptr 0 0 8)),(6,.s (.ptr 1 0 8))],hp:=[(0,{ ty:=147,n:=8,row:=Row.t (.ints .u64 aQ) }),(1,{ ty:=147,n:=8,row:=Row.t (.ints .u64 bC) })],nx:=2,sz:=115 }
theorem aCO {β:Type} (fu:Nat) (G:FG β) (H:FH β) (Do:Int) (aQ bC dE:List Int):fV prog (CN T0 R0 aG T1 R1 aM) fu SP G H (Jy Do aQ bC dE)=bif decide (Do < 8) then bif decide (0 <= Do /\ Do < 8) then bif decide (0 <= Do /\ Do < 8) then bif decide (0 <= Do /\ Do < 8) then G (some (Jy (i64.wrap (Do+1)) (aQ.set (0+Do.toNat) (u64.wrap (aQ.getD (0+Do.toNat) 0+dE.getD (0+Do.toNat) 0))) bC dE)) else none else none else none else H (Ex.exit 2) (some (PB aQ bC)):=by kernel_rfl
theorem aFL (fu:Nat) (aQ bC:List Int):SQ T0 R0 aG T1 R1 aM fu  (Ex.exit 2) (PB aQ bC)=some (AV.agg (.ints .u64 aQ) 8):=by kernel_rfl
end
abbrev aTx:Cg:=aMb 
theorem aMh:CfOk prog aTx.c:=gk <| aH
abbrev aTy:Cg:=aMd 
theorem aMi:CfOk prog aTy.c:=gk <| aH
abbrev aTz:Cg:=aMe 
theorem aMj:CfOk prog aTz.c:=gk <| aH
abbrev aTA:Cg:=aMf 
theorem aMk:CfOk prog aTA.c:=gk <| aH
abbrev aTB:Cg:=aMg 
theorem aMl:CfOk prog aTB.c:=gk <| aH
theorem uG (x y:Nat) (hx:x < 18446744073709551616) (hy:y < 18446744073709551616):gG .u64 (x:Int) (y:Int)=((x ^^^ y:Nat):Int):=by
 unfold gG;have e:(BitVec.ofInt (IntKind.bits .u64) (x:Int) ^^^ BitVec.ofInt (IntKind.bits .u64) (y:Int)).toNat=x ^^^ y:=by
  show (BitVec.ofInt 64 (x:Int) ^^^ BitVec.ofInt 64 (y:Int)).toNat=x ^^^ y;rw [BitVec.toNat_xor,aF4 x hx,aF4 y hy]
 rw [e,gP,aY];exact TH (n:=64) hx hy
theorem bHG (x:Nat) (hx:x < 18446744073709551616):fH .u64 (x:Int) 63=((x%64:Nat):Int):=by
 rw [show (63:Int)=((63:Nat):Int) from rfl,Gx x _ hx (by omega)];rw [show (63:Nat)=2 ^ 6 - 1 from rfl,TE]
theorem bEP (m:Nat) (h0:1 <= m) (h1:m <= 63):u64.wrap (-(m:Int))=((18446744073709551616 - m:Nat):Int):=by
 simp [IntKind.wrap,IntKind.bits,IntKind.signed]; omega
theorem kT {x:Nat} (n:Nat) (hx:x < 18446744073709551616):rr x n < 18446744073709551616 :=
 KN (n:=64) (jS (sO _ _) hx) (bH _ (by decide))
theorem V6 {x:Nat} (hx:x < 18446744073709551616):iV (x:Int)=true:=aD ⟨by omega,by omega⟩
theorem aTC {args:List AV} {t:Nat} (h:V5.run args=some t):∃ x m:Nat,args=[.int .u64 (x:Int),.int .i64 (-(m:Int))] /\ x < 18446744073709551616 /\ 1 <= m /\ m <= 63 /\ t=rr x m:=by
 unfold V5 at h;simp only at h;split at h
 ·rename_i x k;obtain ⟨h1,h2⟩:=bA h;simp only [aW,iV,bJ] at h1;obtain ⟨n,rfl⟩:=bZ h1.1.1;obtain ⟨m,hm⟩:=bZ (by omega:0 <= -k);have:k=-(m:Int):=by omega
  subst this;refine ⟨n,m,rfl,by omega,by omega,by omega,?_⟩;cases h2;rw [bD,Ca,bD]
 ·cases h
theorem aCP {args:List AV} {t:Nat} (h:O6.run args=some t):∃ x m:Nat,args=[.int .u64 (x:Int),.int .i64 (m:Int)] /\ x < 18446744073709551616 /\ 1 <= m /\ m <= 63 /\ t=rr x m:=by
 unfold O6 at h;simp only at h;split at h
 ·rename_i x k;obtain ⟨h1,h2⟩:=bA h;simp only [aW,iV,bJ] at h1;obtain ⟨n,rfl⟩:=bZ h1.1.1;obtain ⟨m,rfl⟩:=bZ (by omega:0 <= k);refine ⟨n,m,rfl,by omega,by omega,by omega,?_⟩;cases h2;rw [bD,bD]
 ·cases h
theorem aMm (x m:Nat) (hx:x < 18446744073709551616) (h0:1 <= m) (h1:m <= 63):aL7 [.int .u64 (x:Int),.int .i64 (-(m:Int))]=some (rr x m):=by
 have h2:decide (-63 <= -(m:Int) /\ -(m:Int) <= -1)=true:=aD (by omega);simp only [aL7,V5,V6 hx,h2,CY,aB,Ca,bD]
theorem fU (x m:Nat) (hx:x < 18446744073709551616) (h0:1 <= m) (h1:m <= 63):fZ [.int .u64 (x:Int),.int .i64 (m:Int)]=some (rr x m):=by
 have h2:decide (1 <= (m:Int) /\ (m:Int) <= 63)=true:=aD (by omega);simp only [fZ,O6,V6 hx,h2,CY,aB,bD]
theorem aTD:CallOk prog 187 V5:=by
 refine fO aMh Tryz.func187 ?_;intro args t ht;obtain ⟨x,m,rfl,hx,h0,h1,rfl⟩:=aTC ht;refine (aTn ..).trans ?_;rw [bEP m h0 h1,bHG _ (by omega),show (18446744073709551616 - m)%64=64 - m by omega,show (64:Int) - ((64 - m:Nat):Int)=((m:Nat):Int) by omega,gP,aY (by omega:m < 18446744073709551616),aJ (by omega),aE,
  Gw _ _ (by omega),pF _ _ (by omega),Sn _ _ (bH _ (by decide)) (jS (sO _ _) hx),Nat.or_comm]; rfl
abbrev aTE:Cg:=aMc (Nat) aL7 (λ t=>↑t)
theorem aMn:CfOk prog aTE.c:=gk <| aA aTD <| aH
theorem aCQ:CallOk prog 161 O6:=by
 refine fO aMn Tryz.func161 ?_;intro args t ht;obtain ⟨x,m,rfl,hx,h0,h1,rfl⟩:=aCP ht;refine (aTo ..).trans ?_;rw [Int.zero_sub,bW (by omega) (by omega),aMm x m hx h0 h1,aC]; rfl
theorem aTF:CallOk prog 206 O6:=by
 refine fO aMi Tryz.func206 ?_;intro args t ht;obtain ⟨x,m,rfl,hx,h0,h1,rfl⟩:=aCP ht;refine (aTp ..).trans ?_;rw [show (64:Int) - (m:Int)=((64 - m:Nat):Int) by omega,bW (by omega) (by omega),aJ (by omega),aE,aJ (by omega),aE,
  Gw _ _ (by omega),pF _ _ (by omega),Sn _ _ (jS (sO _ _) hx) (bH _ (by decide))]; rfl
theorem aMo:CallOk prog 120 aL8:=by
 refine fO aMj Tryz.func120 ?_;intro args t ht
 match args,ht with
 | [],_=>exact (aTq _).trans (by kernel_rfl)
theorem aTG:CallOk prog 121 aX1:=by
 refine fO aMk Tryz.func121 ?_;intro args t ht
 match args,ht with
 | [],_=>exact (aTr _).trans (by kernel_rfl)
theorem bJU:CallOk prog 205 sK:=by
 refine fO aMl Tryz.func205 ?_;intro args t ht
 match args,ht with
 | [],_=>exact (aTs _).trans (by kernel_rfl)
abbrev Gk:Cg:=tS (Nat) fZ (λ t=>↑t)
theorem aMp:CfOk prog Gk.c:=gk <| aA aCQ <| aH
theorem oG (l:List Nat) (i:Nat):(up l).getD i 0=((l.getD i 0:Nat):Int):=by
 unfold up;rw [jM,jM,nO];cases l[i]? <;> rfl
theorem H3 (l:List Nat) (i n:Nat):(up l).set i (n:Int)=up (l.set i n):=by
 unfold up;rw [List.map_set]
theorem Ad (l:List Nat):(up l).length=l.length:=eZ _
def Gl (l:List Nat):Prop:=∀ i,l.getD i 0 < 18446744073709551616
theorem CO (l:List Nat) (i j n:Nat):(l.set i n).getD j 0=if i=j /\ i < l.length then n else l.getD j 0:=by
 rw [jM,jM,Zt];by_cases h:i=j
 ·subst h;by_cases h2:i < l.length
  ·rw [aX rfl,aX h2,aX ⟨rfl,h2⟩]; rfl
  ·rw [aX rfl,aV h2,aV (λ c=>h2 c.2),Ch (by omega)]
 ·rw [aV h,aV (λ c=>h c.1)]
theorem aCR {l:List Nat} (h:Gl l) (i:Nat) {n:Nat} (hn:n < 18446744073709551616):Gl (l.set i n):=by
 intro j;rw [CO];split
 ·exact hn
 ·exact h j
theorem SR (n:Nat):TK n < 18446744073709551616:=bH _ (by decide)
theorem aMq (s:Str) (i:Nat):∀ k,wd s i k < 256 ^ k:=by
 intro k
 induction k with
 | zero=>exact Nat.one_pos
 | succ k ih=>
  have hb:=(s.getD (8*i+k) 0).toNat_lt;show wd s i k*256+(s.getD (8*i+k) 0).toNat < 256 ^ (k+1);rw [bM];omega
theorem DC (s:Str) (i:Nat) (h:i <= 80):(blk s i).length=80:=by
 rw [blk,cD,eZ,List.length_range,IE]; omega
theorem Gm (s:Str) (i j:Nat):(blk s i).getD j 0=if j < i then wd s j 8 else 0:=by
 rw [blk,jM];by_cases h:j < i
 ·rw [aX h,Ce (by simp; exact h),nO,List.getElem?_range h]; rfl
 ·rw [aV h,Ap (by simp; omega),List.getElem?_replicate];split <;> rfl
theorem V7 {a b:List Nat} (hl:a.length=b.length) (h:∀ i,a.getD i 0=b.getD i 0):a=b:=by
 refine TA hl λ i h1 h2=>?_;have:=h i;rw [jM,jM,jZ h1,jZ h2] at this;exact this
theorem PC (s:Str) (i:Nat) (h:i < 80):blk s i=(blk s i).set i (wd s i 0):=by
 refine V7 (by rw [NE]) λ j=>?_;rw [CO];split
 ·rename_i c;rw [Gm,aV (by omega)]; rfl
 ·rfl
theorem aCS (s:Str) (i:Nat) (h:i < 80):(blk s i).set i (wd s i 8)=blk s (i+1):=by
 refine V7 (by rw [NE,DC _ _ (by omega),DC _ _ (by omega)]) λ j=>?_;rw [CO,Gm,Gm,DC _ _ (by omega)];by_cases c:i=j
 ·subst c; rw [aX ⟨rfl,h⟩,aX (by omega)]
 ·rw [aV (λ e=>c e.1)];by_cases c2:j < i
  ·rw [aX c2,aX (by omega)]
  ·rw [aV c2,aV (by omega)]
theorem aMr (s:Str) (i:Nat):Gl (blk s i):=by
 intro j;rw [Gm];split
 ·exact dD (aMq s j 8) (by decide)
 ·decide
theorem aTH (s:Str) (i k:Nat) (hk:k < 8):Fv .u64 (mE .u64 ((wd s i k:Nat):Int) 8) (u64.wrap (((s.getD (8*i+k) 0).toNat:Nat):Int))=((wd s i (k+1):Nat):Int):=by
 have hb:=(s.getD (8*i+k) 0).toNat_lt;have h1:=aMq s i k;have h2:(256:Nat) ^ k <= 256 ^ 7:=kM (by decide) (by omega);have h3:wd s i k*2 ^ 8 < 18446744073709551616:=by omega
 rw [show (8:Int)=((8:Nat):Int) from rfl,Gw _ _ (by decide),aY h3,gP,aY (by omega:(s.getD (8*i+k) 0).toNat < 18446744073709551616),Sn _ _ h3 (by omega),bV,
  <-Au (i:=8) (by omega) (wd s i k),bV]; rfl
theorem aMs {β:Type} (s:Str) (hs:s.length=128) (i:Nat) (hi:i < 16) (fu:Nat) (y:List Int) (G:FG β) (H:FH β):∀ (d n k:Nat),k+d=8->d < n ->
  eV prog Gk fu SJ (SK _ fZ (λ t=>(t:Int)) fu G H) n (some (Ju s (i:Int) (i:Int) (k:Int) y (up ((blk s i).set i (wd s i k)))))=G (some (Gi s ((i+1:Nat):Int) y (up (blk s (i+1))))):=by
 intro d
 induction d with
 | zero=>
  intro n k hk hn;obtain ⟨n,rfl⟩:=aP (by omega:n ≠ 0);have:k=8:=by omega
  subst this;rw [aF,aCJ,aJ (by decide),aE,aR,aFI,bW (by omega) (by omega),aCS s i (by omega)]; rfl
 | succ d ih=>
  intro n k hk hn;obtain ⟨n,rfl⟩:=aP (by omega:n ≠ 0);have h:=ih n (k+1) (by omega) (by omega);have hix:i64.wrap (i64.wrap ((8:Int)*(i:Int))+(k:Int))=((8*i+k:Nat):Int):=by
   rw [bW (n:=8*(i:Int)) (by omega) (by omega),bW (by omega) (by omega)]; omega
  rw [aF,aCJ,aD (by omega),aB,aD (by omega),aB,hix,aD (by omega),aB,aB,bD,bD,bT,oG,CO,aX ⟨rfl,by rw [DC _ _ (by omega)]; omega⟩,
   aTH s i k (by omega),H3,List.set_set,bW (by omega) (by omega)]
  exact h
theorem aMt (s:Str) (hs:s.length=128) (fu:Nat) (hfu:8 < fu) (y:List Int):∀ (d n i:Nat),i+d=16->d < n ->
  eV prog Gk fu DB (Gj _ fZ (λ t=>(t:Int)) fu) n (some (Gi s (i:Int) y (up (blk s i))))=aCK _ fZ (λ t=>(t:Int)) fu 16 y (up (blk s 16)):=by
 intro d
 induction d with
 | zero=>
  intro n i hi hn;obtain ⟨n,rfl⟩:=aP (by omega:n ≠ 0);have:i=16:=by omega
  subst this;rw [aF,aCI,aJ (by decide),aE,aR,aFH]
 | succ d ih=>
  intro n i hi hn;obtain ⟨n,rfl⟩:=aP (by omega:n ≠ 0);rw [aF,aCI,aD (by omega),aB];have h:=aMs s hs i (by omega) fu y (eV prog Gk fu DB (Gj _ fZ (λ t=>(t:Int)) fu) n) (Db (Gj _ fZ (λ t=>(t:Int)) fu)) 8 fu 0 (by omega) hfu;rw [<-PC s i (by omega)] at h;refine iW h ?_;exact ih n (i+1) (by omega) (by omega)
theorem V8 {x:List Nat} (h:Gl x):∀ d,Gl (lM x d):=by
 intro d
 induction d with
 | zero=>exact h
 | succ d ih=>exact aCR ih _ (SR _)
theorem Gn {x:Nat} (n:Nat) (h:x < 18446744073709551616):x / n < 18446744073709551616:=jS (sO _ _) h
theorem wN {x y:Nat} (hx:x < 18446744073709551616) (hy:y < 18446744073709551616):x ^^^ y < 18446744073709551616:=TH (n:=64) hx hy
theorem aMu (x0:List Nat) (hx0:Gl x0) (hl:x0.length=80) (fu:Nat) (y:List Int):∀ (e n d:Nat),d+e=64->e < n ->
  eV prog Gk fu SL (SM _ fZ (λ t=>(t:Int)) fu) n (some (Jv ((16+d:Nat):Int) y (up (lM x0 d))))=some (.agg (.ints .u64 (up (lM x0 64))) 80):=by
 intro e
 induction e with
 | zero=>
  intro n d hd hn;obtain ⟨n,rfl⟩:=aP (by omega:n ≠ 0);have:d=64:=by omega
  subst this;rw [aF,aCL,aJ (by decide),aE,aR,aFJ]
 | succ e ih=>
  intro n d hd hn;obtain ⟨n,rfl⟩:=aP (by omega:n ≠ 0);have h:=ih n (d+1) (by omega) (by omega);have ok:=V8 hx0 d;have w:∀ k:Nat,k <= 16->i64.wrap (((16+d:Nat):Int) - ((k:Nat):Int))=((16+d - k:Nat):Int):=λ k hk=>by rw [bW (by omega) (by omega)]; omega
  have w15:=w 15 (by omega);have w2:=w 2 (by omega);have w16:=w 16 (by omega);have w7:=w 7 (by omega);simp only [IC] at w15 w2 w16 w7;rw [aF,aCL,aD (by omega),aB,w15,w2,w16,w7,aD (by omega),aB,aD (by omega),aB,aD (by omega),aB];simp only [bD,bT,oG];have t1:=fU _ 1 (ok (16+d - 15)) (by decide) (by decide);have t8:=fU _ 8 (ok (16+d - 15)) (by decide) (by decide);have t19:=fU _ 19 (ok (16+d - 2)) (by decide) (by decide);have t61:=fU _ 61 (ok (16+d - 2)) (by decide) (by decide);simp only [IC] at t1 t8 t19 t61;rw [t1,aC,t8,aC,aD (by omega),aB,t19,aC,t61,aC,aD (by omega),aB];have a15:=ok (16+d - 15);have a2:=ok (16+d - 2);have x0':gG .u64 (gG .u64 ((rr ((lM x0 d).getD (16+d - 15) 0) 1:Nat):Int) ((rr ((lM x0 d).getD (16+d - 15) 0) 8:Nat):Int)) (eJ .u64 (((lM x0 d).getD (16+d - 15) 0:Nat):Int) 7)=((g0 ((lM x0 d).getD (16+d - 15) 0):Nat):Int):=by
   rw [show (7:Int)=((7:Nat):Int) from rfl,pF _ _ (by decide),uG _ _ (kT _ a15) (kT _ a15),uG _ _ (wN (kT _ a15) (kT _ a15)) (Gn _ a15)]; rfl
  have x1':gG .u64 (gG .u64 ((rr ((lM x0 d).getD (16+d - 2) 0) 19:Nat):Int) ((rr ((lM x0 d).getD (16+d - 2) 0) 61:Nat):Int)) (eJ .u64 (((lM x0 d).getD (16+d - 2) 0:Nat):Int) 6)=((g1 ((lM x0 d).getD (16+d - 2) 0):Nat):Int):=by
   rw [show (6:Int)=((6:Nat):Int) from rfl,pF _ _ (by decide),uG _ _ (kT _ a2) (kT _ a2),uG _ _ (wN (kT _ a2) (kT _ a2)) (Gn _ a2)]; rfl
  have sm:∀ a b c e:Nat,u64.wrap (u64.wrap (u64.wrap ((a:Int)+(b:Int))+(c:Int))+(e:Int))=((TK (a+b+c+e):Nat):Int):=λ a b c e=>by
   rw [<-iE,gP,<-iE,gP,<-iE,gP,TK];have:((((a+b)%18446744073709551616+c)%18446744073709551616)+e)%18446744073709551616=(a+b+c+e)%18446744073709551616:=by omega
   rw [this]
  rw [x0',x1',sm,H3,bW (by omega) (by omega)];exact h
abbrev Jz:List Int:=[0,0,0,0,0,0,0,0,0,0,0,0,0,0,0,0,0,0,0,0,0,0,0,0,0,0,0,0,0,0,0,0,0,0,0,0,0,0,0,0,0,0,0,0,0,0,0,0,0,0,0,0,0,0,0,0,0,0,0,0,0,0,0,0,0,0,0,0,0,0,0,0,0,0,0,0,0,0,0,0]
theorem aMv (s:Str):up (blk s 0)=Jz:=rfl
theorem bEQ (s:Str) (hs:s.length=128):aCH _ fZ (λ t=>(t:Int)) 65 s 0 Jz Jz=some (.agg (.ints .u64 (up (Ac s))) 80):=by
 have h:=aMt s hs 65 (by decide) Jz 16 65 0 (by omega) (by decide);rw [aMv] at h;exact iW h (aMu (blk s 16) (aMr s 16) (DC s 16 (by decide)) 65 _ 64 65 0 (by omega) (by decide))
theorem aFM:CallOk prog 160 SH:=by
 refine aZ (fu:=λ _=>65) aMp Tryz.func160 ?_;intro args t ht;unfold SH at ht;simp only at ht;split at ht
 ·rename_i s;obtain ⟨h1,h2⟩:=bO ht;have h1:=aT h1;subst h2;exact (aTt ..).trans (bEQ s h1)
 ·cases ht
abbrev SS:Cg:=CN (List Nat) Ge (λ t=>up t) (Nat) fZ (λ t=>↑t)
theorem aMw:CfOk prog SS.c:=gk <| aA aFM <| aA aCQ <| aH
theorem wO {x:Nat} (y:Nat) (hx:x < 18446744073709551616):x &&& y < 18446744073709551616:=jS Nat.and_le_left hx
theorem aX2 (x:Nat) (hx:x < 18446744073709551616):gG .u64 18446744073709551615 (x:Int)=((18446744073709551615 - x:Nat):Int):=by
 rw [show (18446744073709551615:Int)=((18446744073709551615:Nat):Int) from rfl,uG _ _ (by decide) hx];have:18446744073709551615 ^^^ x=18446744073709551615 - x:=by
  have h:=dW BitVec.toNat (BitVec.not_def (x:=BitVec.ofNat 64 x));rw [BitVec.toNat_not,BitVec.toNat_xor,BitVec.toNat_allOnes,Wm,aY hx] at h;exact h.symm
 rw [this]
theorem bHH (t:List Nat) (ht:Gl t) (k w:Nat) :
  u64.wrap (u64.wrap (u64.wrap (u64.wrap (((t.getD 7 0:Nat):Int)+gG .u64 (gG .u64 ((rr (t.getD 4 0) 14:Nat):Int) ((rr (t.getD 4 0) 18:Nat):Int)) ((rr (t.getD 4 0) 41:Nat):Int)) +
   gG .u64 (fH .u64 ((t.getD 4 0:Nat):Int) ((t.getD 5 0:Nat):Int)) (fH .u64 (gG .u64 18446744073709551615 ((t.getD 4 0:Nat):Int)) ((t.getD 6 0:Nat):Int)))+(k:Int))+(w:Int)) =
  ((TK (t.getD 7 0+e1 (t.getD 4 0)+((t.getD 4 0 &&& t.getD 5 0) ^^^ ((18446744073709551615 - t.getD 4 0) &&& t.getD 6 0))+k+w):Nat):Int):=by
 have h4:=ht 4;have h5:=ht 5;have h6:=ht 6;have hn:18446744073709551615 - t.getD 4 0 < 18446744073709551616:=by omega
 rw [uG _ _ (kT _ h4) (kT _ h4),uG _ _ (wN (kT _ h4) (kT _ h4)) (kT _ h4),aX2 _ h4,Gx _ _ h4 h5,Gx _ _ hn h6,uG _ _ (wO _ h4) (wO _ hn)];rw [show rr (t.getD 4 0) 14 ^^^ rr (t.getD 4 0) 18 ^^^ rr (t.getD 4 0) 41=e1 (t.getD 4 0) from rfl];generalize e1 (t.getD 4 0)=a;generalize (t.getD 4 0 &&& t.getD 5 0) ^^^ ((18446744073709551615 - t.getD 4 0) &&& t.getD 6 0)=b;generalize t.getD 7 0=c;rw [<-iE,gP,<-iE,gP,<-iE,gP,<-iE,gP,TK];have:((((c+a)%18446744073709551616+b)%18446744073709551616+k)%18446744073709551616+w)%18446744073709551616=(c+a+b+k+w)%18446744073709551616:=by omega
 rw [this]
theorem bHI (t:List Nat) (ht:Gl t) :
  u64.wrap (gG .u64 (gG .u64 ((rr (t.getD 0 0) 28:Nat):Int) ((rr (t.getD 0 0) 34:Nat):Int)) ((rr (t.getD 0 0) 39:Nat):Int) +
   gG .u64 (gG .u64 (fH .u64 ((t.getD 0 0:Nat):Int) ((t.getD 1 0:Nat):Int)) (fH .u64 ((t.getD 0 0:Nat):Int) ((t.getD 2 0:Nat):Int))) (fH .u64 ((t.getD 1 0:Nat):Int) ((t.getD 2 0:Nat):Int))) =
  ((TK (e0 (t.getD 0 0)+((t.getD 0 0 &&& t.getD 1 0) ^^^ (t.getD 0 0 &&& t.getD 2 0) ^^^ (t.getD 1 0 &&& t.getD 2 0))):Nat):Int):=by
 have h0:=ht 0;have h1:=ht 1;have h2:=ht 2;rw [uG _ _ (kT _ h0) (kT _ h0),uG _ _ (wN (kT _ h0) (kT _ h0)) (kT _ h0),Gx _ _ h0 h1,Gx _ _ h0 h2,Gx _ _ h1 h2,uG _ _ (wO _ h0) (wO _ h0),uG _ _ (wN (wO _ h0) (wO _ h0)) (wO _ h1),
  <-iE,gP]; rfl
theorem aTI {t:List Nat} (ht:Gl t) (k w:Nat):Gl (rnd t k w):=by
 intro i
 match i with
 | 0=>exact SR _
 | 1=>exact ht 0
 | 2=>exact ht 1
 | 3=>exact ht 2
 | 4=>exact SR _
 | 5=>exact ht 4
 | 6=>exact ht 5
 | 7=>exact ht 6
 | n+8=>exact (by decide:0 < 18446744073709551616)
theorem Mf (w:List Nat) {t:List Nat} (ht:Gl t):∀ i,Gl (CM w t i):=by
 intro i
 induction i with
 | zero=>exact ht
 | succ i ih=>exact aTI ih _ _
theorem ZL {b:Str} (h:b.length=128):Ge [.str b]=some (Ac b):=by
 have:Nat.beq b.length 128=true:=by rw [h]; rfl
 show cond (Nat.beq b.length 128) (some (Ac b)) none=_;rw [this]; rfl
theorem aMx (s:List Nat) (hs:Gl s) (w:List Nat) (y:List Int) (fu:Nat):∀ (d n i:Nat),i+d=80->d < n ->
  eV prog SS fu SN (SO _ Ge (λ t=>up t) _ fZ (λ t=>(t:Int)) fu) n (some (Jw (up kN) (i:Int) (up s) y (up w) (up (CM w s i))))=aCN _ Ge (λ t=>up t) _ fZ (λ t=>(t:Int)) fu 0 (up s) y (up (CM w s 80)):=by
 intro d
 induction d with
 | zero=>
  intro n i hi hn;obtain ⟨n,rfl⟩:=aP (by omega:n ≠ 0);have:i=80:=by omega
  subst this;rw [aF,aCM,aJ (by decide),aE,aR,aFK]
 | succ d ih=>
  intro n i hi hn;obtain ⟨n,rfl⟩:=aP (by omega:n ≠ 0);have h:=ih n (i+1) (by omega) (by omega);have ok:=Mf w hs i;have ok':=Mf w hs (i+1);rw [show CM w s (i+1)=rnd (CM w s i) (kN.getD i 0) (w.getD i 0) from rfl] at h;rw [aF,aCM,aD (by omega),aB];generalize CM w s i=t at ok h ⊢;have t14:=fU _ 14 (ok 4) (by decide) (by decide);have t18:=fU _ 18 (ok 4) (by decide) (by decide);have t41:=fU _ 41 (ok 4) (by decide) (by decide);have t28:=fU _ 28 (ok 0) (by decide) (by decide);have t34:=fU _ 34 (ok 0) (by decide) (by decide);have t39:=fU _ 39 (ok 0) (by decide) (by decide);simp only [IC] at t14 t18 t41 t28 t34 t39;simp only [bD,bT,oG];rw [t14,aC,t18,aC,t41,aC,aD (by omega),aB,aB,t28,aC,t34,aC,t39,aC,bHH t ok,bHI t ok,bW (by omega) (by omega)];have sm:∀ a b:Nat,u64.wrap ((a:Int)+(b:Int))=((TK (a+b):Nat):Int):=λ a b=>by rw [<-iE,gP]; rfl
  rw [sm,sm];exact h
theorem aMy (s t:List Nat) (y:List Int) (fu:Nat):∀ (d n i:Nat),i+d=8->d < n ->
  eV prog SS fu SP (SQ _ Ge (λ t=>up t) _ fZ (λ t=>(t:Int)) fu) n (some (Jy (i:Int) (up (Md s t i)) y (up t)))=some (.agg (.ints .u64 (up (Md s t 8))) 8):=by
 intro d
 induction d with
 | zero=>
  intro n i hi hn;obtain ⟨n,rfl⟩:=aP (by omega:n ≠ 0);have:i=8:=by omega
  subst this;rw [aF,aCO,aJ (by decide),aE,aR,aFL]
 | succ d ih=>
  intro n i hi hn;obtain ⟨n,rfl⟩:=aP (by omega:n ≠ 0);have h:=ih n (i+1) (by omega) (by omega);have sm:∀ a b:Nat,u64.wrap ((a:Int)+(b:Int))=((TK (a+b):Nat):Int):=λ a b=>by rw [<-iE,gP]; rfl
  rw [aF,aCO,aD (by omega),aB,aD (by omega),aB,aB,aB,bD,bT,oG,oG,sm,H3,bW (by omega) (by omega)];exact h
theorem bHJ {l:List Int} (h:tU l=true):up (dn l)=l /\ Gl (dn l):=by
 induction l with
 | nil=>exact ⟨rfl,λ i=>by show ([]:List Nat).getD i 0 < _; simp⟩
 | cons x r ih=>
  simp only [tU,aW,bJ] at h;obtain ⟨h1,h2⟩:=ih h.2;refine ⟨?_,λ i=>?_⟩
  ·show ((x.toNat:Nat):Int) :: up (dn r)=x :: r;rw [h1,Int.toNat_of_nonneg (by omega)]
  ·match i with
   | 0=>show x.toNat < _; omega
   | i+1=>exact h2 i
theorem aTJ:CallOk prog 122 aMa:=by
 refine aZ (fu:=λ _=>81) aMw Tryz.func122 ?_;intro args t ht;unfold aMa at ht;simp only at ht;split at ht
 ·rename_i h k b;obtain ⟨h1,h2⟩:=bO ht;subst h2;simp only [aW,bJ] at h1;obtain ⟨⟨h1,rfl⟩,h3⟩:=h1;have h3:=aT h3;simp only [aL9,aW] at h1;obtain ⟨e,ok⟩:=bHJ h1.2;refine (aTw ..).trans ?_;rw [ZL h3,aC];have a:=aMx (dn h) ok (Ac b) iT 81 80 81 0 (by omega) (by decide);have c:=aMy (dn h) (CM (Ac b) (dn h) 80) iT 81 8 81 0 (by omega) (by decide);rw [show CM (Ac b) (dn h) 0=dn h from rfl,e] at a;rw [show Md (dn h) (CM (Ac b) (dn h) 80) 0=dn h from rfl,e] at c;exact iW a c
 ·cases ht
open Go Go.Proofs Go.RowKit
def Mg:Str:=[48,49,50,51,52,53,54,55,56,57,97,98,99,100,101,102]
def tT:Str->Str
 | []=>[]
 | c :: r=>Mg.getD (c.toNat / 16) 0 :: Mg.getD (c.toNat%16) 0 :: tT r
theorem V9:∀ a b:Str,tT (a++b)=tT a++tT b:=by
 intro a
 induction a with
 | nil=>intro b; rfl
 | cons c r ih=>intro b; simp only [Cc,tT,ih]
theorem WA:∀ a:Str,(tT a).length=2*a.length:=by
 intro a
 induction a with
 | nil=>rfl
 | cons c r ih=>simp only [tT,fY,ih]; omega
theorem aMz (i:Nat) (h:i < 16):(⟨#[48,49,50,51,52,53,54,55,56,57,97,98,99,100,101,102]⟩:ByteArray)[i]'h=Mg.getD i 0:=by
 have:∀ i:Fin 16,(⟨#[48,49,50,51,52,53,54,55,56,57,97,98,99,100,101,102]⟩:ByteArray)[i.1]'i.2=Mg.getD i.1 0:=by decide
 exact this ⟨i,h⟩
set_option maxHeartbeats 4000000 in
set_option maxRecDepth 1000000 in
theorem aMA (s:ByteArray) (w:World) (hs:s.size <= 35184372088832) :
  Calls Tryz.prog 142 #[.string s] w λ e w'=>e=.returned (.string ⟨(tT s.data.toList).toArray⟩) /\ Below w.heap.size w w':=by
 go_enter Tryz.func142,Tryz.ntmps142
 go_wp2
 go_loopw [7] (λ v wr=>∃ k:Nat,k <= s.size /\ v=.int .i64 k /\ Lib.IsBuilderF 175 5 w.heap.size w.heap.size (Lib.byteCells (tT (s.data.toList.take k))) wr /\ Below w.heap.size w wr) (λ v _=>s.size - (Lib.intOf v).toNat)
 case atStart=>
  exact ⟨0,oI _,rfl,Lib.IsBuilderF.of (Lib.fresh_isBuilder 175 5 w),(Below.refl _ w).alloc (bX _) _⟩
 case round=>
  obtain ⟨k,hk,rfl,hI,hbw⟩:=hrel;have hbs:w.heap.size <= wr.heap.size:=hbw.size;have hl:=WA (s.data.toList.take k);have hsl:s.data.toList.length=s.size:=Wl;have hkl:(s.data.toList.take k).length=k:=by rw [dH,hsl]; omega
  by_cases hp:k < s.size
  ·have hc:=(s[k]'hp).toNat_lt
   go_wp2_with (go_at_call 172; refine (Any.Builder_WriteByte_k Tryz.lay167 Tryz.X167 w.heap.size w.heap.size _ _ wr hI (by rw [Lib.byteCells_length]; omega) hbs).mono ?_)
   rintro e W1 ⟨rfl,h1,b1,k1⟩;have hb1:w.heap.size <= W1.heap.size:=(hbw.trans b1).size
   go_wp2_with (go_at_call 172; refine (Any.Builder_WriteByte_k Tryz.lay167 Tryz.X167 w.heap.size w.heap.size _ _ W1 (Or.inr h1) (by rw [cD,Lib.byteCells_length]; simp; omega) hb1).mono ?_)
   rintro e W2 ⟨rfl,h2,b2,k2⟩;have hb2:Below w.heap.size w W2:=(hbw.trans b1).trans b2
   go_wp2
   go_roundw
   case rel=>
    have ht:s.data.toList.take (k+1)=s.data.toList.take k++[s[k]'hp]:=by
     rw [x9,jZ (by omega)]; rfl
    refine ⟨k+1,hp,by simp,Or.inr ?_,hb2⟩;rw [ht,V9,Lib.byteCells_append];rw [aMz _ (by omega),aMz _ (by omega),iO] at h2;exact h2
   case measure=>simp only [Lib.intOf]; omega
  ·go_wp2_with (go_at_call 157; refine (Any.Builder_String_any_k Tryz.lay169 Tryz.X169 w.heap.size w.heap.size _ wr hI hbs).mono ?_)
   rintro e W1 ⟨rfl,_,b1,_⟩
   go_wp2
   go_ret
   have:k=s.size:=by omega
   subst this;rw [d9 (by omega)];exact ⟨rfl,hbw.trans b1⟩
def bER:Summ where
 T:=Str
 run:=λ
  | [.c (.s (.pl (.str s)))]=>cond (Nat.ble s.length 1099511627776) (some (tT s)) none
  | _=>none
 enc:=λ t=>.str t
def bHK:FA Str:=bER.run
theorem bHL {w:World} {ρ:Plc} {x:AV} {vs:List Value} (h:AVRs w ρ [x] vs):∃ u,vs=[u] /\ AVR w ρ x u:=by
 match vs,h with
 | [u],h=>exact ⟨u,rfl,h.1⟩
theorem bES:CallOk prog 142 bER:=by
 intro args t ht w X vs hX hav;unfold bER at ht;simp only at ht;split at ht
 case h_2=>cases ht
 rename_i s;obtain ⟨h1,h2⟩:=bO ht;subst h2;rw [dJ] at h1;obtain ⟨u,rfl,hu⟩:=bHL hav;have hu:u=.string ⟨s.toArray⟩:=hu.1;subst hu;refine uJ Tryz.func142 (by kernel_rfl) (c:=bB Tryz.f142) (by kernel_rfl) ?_;have:=aMA ⟨s.toArray⟩ w (by show s.length <= _; omega);exact this.mono λ e w' ⟨he,hb⟩=>⟨_,he,JV _ _ _,rfl,hb⟩
theorem aTK {s:Str} (h:s.length <= 1099511627776):bHK [.str s]=some (tT s):=by
 show cond (Nat.ble s.length 1099511627776) (some (tT s)) none=_;rw [show Nat.ble s.length 1099511627776=true by rw [dJ]; exact h]; rfl
end
end Go.Eng
