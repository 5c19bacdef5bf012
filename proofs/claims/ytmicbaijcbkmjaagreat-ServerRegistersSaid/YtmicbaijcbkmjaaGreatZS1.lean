import Derived.BigCall
import Derived.Test.YtmicbaijcbkmjaaGreatZR2
import Derived.Test.YtmicbaijcbkmjaaGreatZS0
namespace Go.Eng
open Go.IntKind (u64 i64 u8)
noncomputable section
open Go Go.Proofs
set_option linter.all false
def rr (x n:Nat):Nat:=x / 2 ^ n ||| x*2 ^ (64 - n)%18446744073709551616
def RR:Summ where
 T:=Nat
 run:=λ
  | [.c (.s (.pl (.int .u64 x))),.c (.s (.pl (.int .i64 k)))]=>cond (hO x && decide (-63 <= k /\ k <= -1)) (some (rr x.toNat (-k).toNat)) none
  | _=>none
 enc:=λ t=>.int .u64 (t:Int)
def aFI:FA Nat:=RR.run
def LZ:Summ where
 T:=Nat
 run:=λ
  | [.c (.s (.pl (.int .u64 x))),.c (.s (.pl (.int .i64 k)))]=>cond (hO x && decide (1 <= k /\ k <= 63)) (some (rr x.toNat k.toNat)) none
  | _=>none
 enc:=λ t=>.int .u64 (t:Int)
def fD:FA Nat:=LZ.run
def kN:List Nat:=[4794697086780616226,8158064640168781261,13096744586834688815,16840607885511220156,
 4131703408338449720,6480981068601479193,10538285296894168987,12329834152419229976,
 15566598209576043074,1334009975649890238,2608012711638119052,6128411473006802146,
 8268148722764581231,9286055187155687089,11230858885718282805,13951009754708518548,
 16472876342353939154,17275323862435702243,1135362057144423861,2597628984639134821,
 3308224258029322869,5365058923640841347,6679025012923562964,8573033837759648693,
 10970295158949994411,12119686244451234320,12683024718118986047,13788192230050041572,
 14330467153632333762,15395433587784984357,489312712824947311,1452737877330783856,
 2861767655752347644,3322285676063803686,5560940570517711597,5996557281743188959,
 7280758554555802590,8532644243296465576,9350256976987008742,10552545826968843579,
 11727347734174303076,12113106623233404929,14000437183269869457,14369950271660146224,
 15101387698204529176,15463397548674623760,17586052441742319658,1182934255886127544,
 1847814050463011016,2177327727835720531,2830643537854262169,3796741975233480872,
 4115178125766777443,5681478168544905931,6601373596472566643,7507060721942968483,
 8399075790359081724,8693463985226723168,9568029438360202098,10144078919501101548,
 10430055236837252648,11840083180663258601,13761210420658862357,14299343276471374635,
 14566680578165727644,15097957966210449927,16922976911328602910,17689382322260857208,
 500013540394364858,748580250866718886,1242879168328830382,1977374033974150939,
 2944078676154940804,3659926193048069267,4368137639120453308,4836135668995329356,
 5532061633213252278,6448918945643986474,6902733635092675308,7801388544844847127]
def hN:List Nat:=[7640891576956012808,13503953896175478587,4354685564936845355,11912009170470909681,
 5840696475078001361,11170449401992604703,2270897969802886507,6620516959819538809]
def up (l:List Nat):List Int:=l.map λ (n:Nat)=>(n:Int)
def dn (l:List Int):List Nat:=l.map Int.toNat
def aPq:Summ where
 T:=Unit
 run:=λ
  | []=>some ()
  | _=>none
 enc:=λ _=>.agg (.ints .u64 (up kN)) 80
def JW:FA Unit:=aPq.run
def sK:Summ where
 T:=Unit
 run:=λ
  | []=>some ()
  | _=>none
 enc:=λ _=>.s (.dat (.ints .u64 (up kN)) 80 1)
def rK:FA Unit:=sK.run
def aFJ:Summ where
 T:=Unit
 run:=λ
  | []=>some ()
  | _=>none
 enc:=λ _=>.agg (.ints .u64 (up hN)) 8
def Ck:FA Unit:=aFJ.run
def D7 (n:Nat):Nat:=n%18446744073709551616
def g0 (x:Nat):Nat:=rr x 1 ^^^ rr x 8 ^^^ x / 128
def g1 (x:Nat):Nat:=rr x 19 ^^^ rr x 61 ^^^ x / 64
def e0 (x:Nat):Nat:=rr x 28 ^^^ rr x 34 ^^^ rr x 39
def e1 (x:Nat):Nat:=rr x 14 ^^^ rr x 18 ^^^ rr x 41
def wd (s:Str) (i:Nat):Nat->Nat
 | 0=>0
 | k+1=>wd s i k*256+(s.getD (8*i+k) 0).toNat
def blk (s:Str) (i:Nat):List Nat:=(List.range i).map (λ i=>wd s i 8)++List.replicate (80 - i) 0
def BB (x:List Nat) (i:Nat):List Nat:=x.set i (D7 (x.getD (i - 16) 0+g0 (x.getD (i - 15) 0)+x.getD (i - 7) 0+g1 (x.getD (i - 2) 0)))
def cP (x:List Nat):Nat->List Nat
 | 0=>x
 | d+1=>BB (cP x d) (16+d)
def yA (s:Str):List Nat:=cP (blk s 16) 64
def rnd (t:List Nat) (k w:Nat):List Nat :=
 let a:=t.getD 0 0;let e:=t.getD 4 0;let x:=D7 (t.getD 7 0+e1 e+((e &&& t.getD 5 0) ^^^ ((18446744073709551615 - e) &&& t.getD 6 0))+k+w);let y:=D7 (e0 a+((a &&& t.getD 1 0) ^^^ (a &&& t.getD 2 0) ^^^ (t.getD 1 0 &&& t.getD 2 0)))
 [D7 (x+y),t.getD 0 0,t.getD 1 0,t.getD 2 0,D7 (t.getD 3 0+x),t.getD 4 0,t.getD 5 0,t.getD 6 0]
def wQ (w:List Nat) (t:List Nat):Nat->List Nat
 | 0=>t
 | i+1=>rnd (wQ w t i) (kN.getD i 0) (w.getD i 0)
def FO (s t:List Nat):Nat->List Nat
 | 0=>s
 | i+1=>(FO s t i).set i (D7 ((FO s t i).getD i 0+t.getD i 0))
def AW (s:List Nat) (b:Str):List Nat:=FO s (wQ (yA b) s 80) 8
def OK:Summ where
 T:=List Nat
 run:=λ
  | [.c (.s (.pl (.str s)))]=>cond (Nat.beq s.length 128) (some (yA s)) none
  | _=>none
 enc:=λ t=>.agg (.ints .u64 (up t)) 80
def D8:FA (List Nat):=OK.run
abbrev P80 (k:List Int):AV:=.s (.rptr (.ints .u64 k) 0 80)
def aFK (l:List Int):Bool:=Nat.beq l.length 8 && qN l
def aFL:Summ where
 T:=List Nat
 run:=λ
  | [.c (.s (.pl (.agg (.ints .u64 h) 8))),.c (.s (.rptr (.ints .u64 k) 0 80)),.c (.s (.pl (.str b)))]=>cond (aFK h && decide (k=up kN) && Nat.beq b.length 128) (some (AW (dn h) b)) none
  | _=>none
 enc:=λ t=>.agg (.ints .u64 (up t)) 8
def JX:FA (List Nat):=aFL.run
def D9 (t:Str):Str:=t++([128]++Lib.repeatL [0] ((247 - t.length%128)%128))
def be (n:Nat):Nat->Str
 | 0=>[]
 | k+1=>be n k++[b8 ((n / 2 ^ (8*(7 - k))%256:Nat):Int)]
def full (t:Str):Str:=D9 t++be (t.length*8) 8
def AX (h:List Nat):Nat->Str->List Nat
 | 0,_=>h
 | k+1,s=>AX (AW h (s.take 128)) k (s.drop 128)
def Cl (h:List Nat) (k:Nat):List Nat:=(List.range k).map λ i=>h.getD (i / 8) 0 / 2 ^ (56 - 8*(i%8))%256
def OL (t:Str):List Nat:=Cl (AX hN ((full t).length / 128) (full t)) 64
def CK (ss:List Str) (n:Nat):Bool:=Nat.beq n ss.length && Nat.ble ss.length 1048576 && Nat.ble (Lib.join ss []).length 1099511627776
def aFM:Summ where
 T:=List Nat
 run:=λ
  | [.c (.s (.dat (.strs ss) n 1))]=>cond (CK ss n) (some (OL (Lib.join ss []))) none
  | _=>none
 enc:=λ t=>.agg (.ints .u8 (up t)) 64
def aLV:FA (List Nat):=aFM.run
def aFN:Cg:=⟨⟨dE [],[],dR⟩,[]⟩
theorem aLW (fu:Nat) (x k:Int):bB prog Tryz.f223 aFN fu [.int .u64 x,.int .i64 k]=bif decide (u64.wrap (64 - d8 .u64 (u64.wrap k) 63) < 0) then none else some (AV.int .u64 (Du .u64 (j9 .u64 x (d8 .u64 (u64.wrap k) 63)) (eK .u64 x (u64.wrap (64 - d8 .u64 (u64.wrap k) 63))))):=by kernel_rfl
section
variable (T0:Type) (R0:FA T0) (aG:T0->Int)
def aFO:Cg:=⟨⟨dE [(223,⟨R0,λ t=>AV.int .u64 (aG t)⟩)],[],dR⟩,[]⟩
theorem aLX (fu:Nat) (x k:Int):bB prog Tryz.f214 (aFO T0 R0 aG) fu [.int .u64 x,.int .i64 k]=(R0 [.int .u64 x,.int .i64 (i64.wrap (0 - k))]).bind λ t=>some (AV.int .u64 (aG t)):=by kernel_rfl
end
def aFP:Cg:=⟨⟨dE [],[],dR⟩,[]⟩
theorem aLY (fu:Nat) (x k:Int):bB prog Tryz.f239 aFP fu [.int .u64 x,.int .i64 k]=bif decide (k < 0) then none else bif decide (i64.wrap (64 - k) < 0) then none else some (AV.int .u64 (Du .u64 (eK .u64 x k) (j9 .u64 x (i64.wrap (64 - k))))):=by kernel_rfl
def aFQ:Cg:=⟨⟨dE [],[],dR⟩,[]⟩
theorem aLZ (fu:Nat):bB prog Tryz.f199 aFQ fu []=some (AV.agg (.ints .u64 ([7640891576956012808]++([13503953896175478587]++([4354685564936845355]++([11912009170470909681]++([5840696475078001361]++([11170449401992604703]++([2270897969802886507]++[6620516959819538809])))))))) 8):=by kernel_rfl
def aFR:Cg:=⟨⟨dE [],[],dR⟩,[]⟩
theorem aL0 (fu:Nat):bB prog Tryz.f200 aFR fu []=some (AV.agg (.ints .u64 ([4794697086780616226]++([8158064640168781261]++([13096744586834688815]++([16840607885511220156]++([4131703408338449720]++([6480981068601479193]++([10538285296894168987]++([12329834152419229976]++([15566598209576043074]++([1334009975649890238]++([2608012711638119052]++([6128411473006802146]++([8268148722764581231]++([9286055187155687089]++([11230858885718282805]++([13951009754708518548]++([16472876342353939154]++([17275323862435702243]++([1135362057144423861]++([2597628984639134821]++([3308224258029322869]++([5365058923640841347]++([6679025012923562964]++([8573033837759648693]++([10970295158949994411]++([12119686244451234320]++([12683024718118986047]++([13788192230050041572]++([14330467153632333762]++([15395433587784984357]++([489312712824947311]++([1452737877330783856]++([2861767655752347644]++([3322285676063803686]++([5560940570517711597]++([5996557281743188959]++([7280758554555802590]++([8532644243296465576]++([9350256976987008742]++([10552545826968843579]++([11727347734174303076]++([12113106623233404929]++([14000437183269869457]++([14369950271660146224]++([15101387698204529176]++([15463397548674623760]++([17586052441742319658]++([1182934255886127544]++([1847814050463011016]++([2177327727835720531]++([2830643537854262169]++([3796741975233480872]++([4115178125766777443]++([5681478168544905931]++([6601373596472566643]++([7507060721942968483]++([8399075790359081724]++([8693463985226723168]++([9568029438360202098]++([10144078919501101548]++([10430055236837252648]++([11840083180663258601]++([13761210420658862357]++([14299343276471374635]++([14566680578165727644]++([15097957966210449927]++([16922976911328602910]++([17689382322260857208]++([500013540394364858]++([748580250866718886]++([1242879168328830382]++([1977374033974150939]++([2944078676154940804]++([3659926193048069267]++([4368137639120453308]++([4836135668995329356]++([5532061633213252278]++([6448918945643986474]++([6902733635092675308]++[7801388544844847127])))))))))))))))))))))))))))))))))))))))))))))))))))))))))))))))))))))))))))))))) 80):=by kernel_rfl
def aFS:Cg:=⟨⟨dE [],[],dR⟩,[]⟩
theorem aL1 (fu:Nat):bB prog Tryz.f238 aFS fu []=some (AV.s (.dat (.ints .u64 ([4794697086780616226]++([8158064640168781261]++([13096744586834688815]++([16840607885511220156]++([4131703408338449720]++([6480981068601479193]++([10538285296894168987]++([12329834152419229976]++([15566598209576043074]++([1334009975649890238]++([2608012711638119052]++([6128411473006802146]++([8268148722764581231]++([9286055187155687089]++([11230858885718282805]++([13951009754708518548]++([16472876342353939154]++([17275323862435702243]++([1135362057144423861]++([2597628984639134821]++([3308224258029322869]++([5365058923640841347]++([6679025012923562964]++([8573033837759648693]++([10970295158949994411]++([12119686244451234320]++([12683024718118986047]++([13788192230050041572]++([14330467153632333762]++([15395433587784984357]++([489312712824947311]++([1452737877330783856]++([2861767655752347644]++([3322285676063803686]++([5560940570517711597]++([5996557281743188959]++([7280758554555802590]++([8532644243296465576]++([9350256976987008742]++([10552545826968843579]++([11727347734174303076]++([12113106623233404929]++([14000437183269869457]++([14369950271660146224]++([15101387698204529176]++([15463397548674623760]++([17586052441742319658]++([1182934255886127544]++([1847814050463011016]++([2177327727835720531]++([2830643537854262169]++([3796741975233480872]++([4115178125766777443]++([5681478168544905931]++([6601373596472566643]++([7507060721942968483]++([8399075790359081724]++([8693463985226723168]++([9568029438360202098]++([10144078919501101548]++([10430055236837252648]++([11840083180663258601]++([13761210420658862357]++([14299343276471374635]++([14566680578165727644]++([15097957966210449927]++([16922976911328602910]++([17689382322260857208]++([500013540394364858]++([748580250866718886]++([1242879168328830382]++([1977374033974150939]++([2944078676154940804]++([3659926193048069267]++([4368137639120453308]++([4836135668995329356]++([5532061633213252278]++([6448918945643986474]++([6902733635092675308]++[7801388544844847127])))))))))))))))))))))))))))))))))))))))))))))))))))))))))))))))))))))))))))))))) 80 1)):=by kernel_rfl
section
variable (T0:Type) (R0:FA T0) (aG:T0->Int)
def qY:Cg:=⟨⟨dE [(214,⟨R0,λ t=>AV.int .u64 (aG t)⟩)],[],dR⟩,[(4,[0,2,3,9],[2,3]),(7,[0,2,3,4,9,12],[0,2,3,9]),(13,[2,3,6],[2,3])]⟩
def EA (s0:Str) (v9:Int) (aQ bA:List Int):St:={ tm:=[(0,.str s0),(2,.s (.ptr 0 0 80)),(3,.s (.ptr 1 0 80)),(9,.int .i64 v9)],hp:=[(0,{ ty:=227,n:=80,row:=Row.t (.ints .u64 aQ) }),(1,{ ty:=227,n:=80,row:=Row.t (.ints .u64 bA) })],nx:=2,sz:=73 }
def BC:Code:=cM (bN [1,1,0,1,2] (bD Tryz.f213))
def EB (fu:Nat):=lP prog (qY T0 R0 aG) fu [1,1,0,1,2] (bD Tryz.f213) (fT prog Tryz.f213)
abbrev XU (fu:Nat) (s0:Str) (v9:Int) (aQ bA:List Int):=eS prog (qY T0 R0 aG) fu BC (EB T0 R0 aG fu ) fu (some (EA s0 v9 aQ bA))
theorem aL2 (fu:Nat) (s:Str):bB prog Tryz.f213 (qY T0 R0 aG) fu [.str s]=XU T0 R0 aG fu s 0 [0,0,0,0,0,0,0,0,0,0,0,0,0,0,0,0,0,0,0,0,0,0,0,0,0,0,0,0,0,0,0,0,0,0,0,0,0,0,0,0,0,0,0,0,0,0,0,0,0,0,0,0,0,0,0,0,0,0,0,0,0,0,0,0,0,0,0,0,0,0,0,0,0,0,0,0,0,0,0,0] [0,0,0,0,0,0,0,0,0,0,0,0,0,0,0,0,0,0,0,0,0,0,0,0,0,0,0,0,0,0,0,0,0,0,0,0,0,0,0,0,0,0,0,0,0,0,0,0,0,0,0,0,0,0,0,0,0,0,0,0,0,0,0,0,0,0,0,0,0,0,0,0,0,0,0,0,0,0,0,0]:=by kernel_rfl
def HS (s0:Str) (v4 v9 gU:Int) (aQ bA:List Int):St:={ tm:=[(0,.str s0),(2,.s (.ptr 0 0 80)),(3,.s (.ptr 1 0 80)),(4,.int .i64 v4),(9,.int .i64 v9),(12,.int .i64 gU)],hp:=[(0,{ ty:=227,n:=80,row:=Row.t (.ints .u64 aQ) }),(1,{ ty:=227,n:=80,row:=Row.t (.ints .u64 bA) })],nx:=2,sz:=73 }
def OM:Code:=cM (bN [1,1,0,1,2,6,1,1,0,2,1,1,2] (bD Tryz.f213))
def ON {β:Type} (fu:Nat) (G:FG β) (H:FH β):=lP prog (qY T0 R0 aG) fu [1,1,0,2,1,1,2] BC (vE (qY T0 R0 aG) BC G H)
abbrev aL3 {β:Type} (fu:Nat) (G:FG β) (H:FH β) (s0:Str) (v4 v9 gU:Int) (aQ bA:List Int):=eS prog (qY T0 R0 aG) fu OM (ON T0 R0 aG fu G H) fu (some (HS s0 v4 v9 gU aQ bA))
def La (aQ bA:List Int):St:={ tm:=[(2,.s (.ptr 0 0 80)),(3,.s (.ptr 1 0 80))],hp:=[(0,{ ty:=227,n:=80,row:=Row.t (.ints .u64 aQ) }),(1,{ ty:=227,n:=80,row:=Row.t (.ints .u64 bA) })],nx:=2,sz:=73 }
theorem XV {β:Type} (fu:Nat) (G:FG β) (H:FH β) (s0:Str) (v9:Int) (aQ bA:List Int):fI prog (qY T0 R0 aG) fu BC G H (EA s0 v9 aQ bA)=bif decide (v9 < 16) then aL3 T0 R0 aG fu G H s0 v9 v9 0 aQ bA else H (Ex.exit 0) (some (La aQ bA)):=by kernel_rfl
def Lb (s0:Str) (v9:Int) (aQ bA:List Int):St:={ tm:=[(0,.str s0),(2,.s (.ptr 0 0 80)),(3,.s (.ptr 1 0 80)),(9,.int .i64 v9)],hp:=[(0,{ ty:=227,n:=80,row:=Row.t (.ints .u64 aQ) }),(1,{ ty:=227,n:=80,row:=Row.t (.ints .u64 bA) })],nx:=2,sz:=73 }
theorem XW {β:Type} (fu:Nat) (G:FG β) (H:FH β) (s0:Str) (v4 v9 gU:Int) (aQ bA:List Int):fI prog (qY T0 R0 aG) fu OM G H (HS s0 v4 v9 gU aQ bA)=bif decide (gU < 8) then bif decide (0 <= v4 /\ v4 < 80) then bif decide (0 <= i64.wrap (i64.wrap (8*v4)+gU) /\ i64.wrap (i64.wrap (8*v4)+gU) < (↑(List.length s0):Int)) then bif decide (0 <= v4 /\ v4 < 80) then G (some (HS s0 v4 v9 (i64.wrap (gU+1)) aQ (bA.set (0+v4.toNat) (Du .u64 (j9 .u64 (bA.getD (0+v4.toNat) 0) 8) (u64.wrap (↑(List.getD s0 (i64.wrap (i64.wrap (8*v4)+gU)).toNat (0:UInt8)).toNat:Int)))))) else none else none else none else H (Ex.exit 2) (some (Lb s0 v9 aQ bA)):=by kernel_rfl
def HT (v6:Int) (aQ bA:List Int):St:={ tm:=[(2,.s (.ptr 0 0 80)),(3,.s (.ptr 1 0 80)),(6,.int .i64 v6)],hp:=[(0,{ ty:=227,n:=80,row:=Row.t (.ints .u64 aQ) }),(1,{ ty:=227,n:=80,row:=Row.t (.ints .u64 bA) })],nx:=2,sz:=73 }
def OO:Code:=cM (bN [1,1,1,0,1,2] (bD Tryz.f213))
def OP (fu:Nat):=lP prog (qY T0 R0 aG) fu [1,1,1,0,1,2] (bD Tryz.f213) (fT prog Tryz.f213)
abbrev XX (fu:Nat) (v6:Int) (aQ bA:List Int):=eS prog (qY T0 R0 aG) fu OO (OP T0 R0 aG fu ) fu (some (HT v6 aQ bA))
theorem aAk (fu:Nat) (aQ bA:List Int):EB T0 R0 aG fu  (Ex.exit 0) (La aQ bA)=XX T0 R0 aG fu 16 aQ bA:=by kernel_rfl
theorem aAl {β:Type} (fu:Nat) (G:FG β) (H:FH β) (s0:Str) (v9:Int) (aQ bA:List Int):ON T0 R0 aG fu G H (Ex.exit 2) (Lb s0 v9 aQ bA)=G (some (EA s0 (i64.wrap (v9+1)) aQ bA)):=by kernel_rfl
def Lc (aQ bA:List Int):St:={ tm:=[(2,.s (.ptr 0 0 80)),(3,.s (.ptr 1 0 80))],hp:=[(0,{ ty:=227,n:=80,row:=Row.t (.ints .u64 aQ) }),(1,{ ty:=227,n:=80,row:=Row.t (.ints .u64 bA) })],nx:=2,sz:=73 }
theorem XY {β:Type} (fu:Nat) (G:FG β) (H:FH β) (v6:Int) (aQ bA:List Int):fI prog (qY T0 R0 aG) fu OO G H (HT v6 aQ bA)=bif decide (v6 < 80) then bif decide (0 <= i64.wrap (v6 - 15) /\ i64.wrap (v6 - 15) < 80) then bif decide (0 <= i64.wrap (v6 - 2) /\ i64.wrap (v6 - 2) < 80) then bif decide (0 <= i64.wrap (v6 - 16) /\ i64.wrap (v6 - 16) < 80) then (R0 [.int .u64 (bA.getD (0+(i64.wrap (v6 - 15)).toNat) 0),.int .i64 1]).bind λ t=>(R0 [.int .u64 (bA.getD (0+(i64.wrap (v6 - 15)).toNat) 0),.int .i64 8]).bind λ dH=>bif decide (0 <= i64.wrap (v6 - 7) /\ i64.wrap (v6 - 7) < 80) then (R0 [.int .u64 (bA.getD (0+(i64.wrap (v6 - 2)).toNat) 0),.int .i64 19]).bind λ eU=>(R0 [.int .u64 (bA.getD (0+(i64.wrap (v6 - 2)).toNat) 0),.int .i64 61]).bind λ gE=>bif decide (0 <= v6 /\ v6 < 80) then G (some (HT (i64.wrap (v6+1)) aQ (bA.set (0+v6.toNat) (u64.wrap (u64.wrap (u64.wrap (bA.getD (0+(i64.wrap (v6 - 16)).toNat) 0+fL .u64 (fL .u64 (aG t) (aG dH)) (eK .u64 (bA.getD (0+(i64.wrap (v6 - 15)).toNat) 0) 7))+bA.getD (0+(i64.wrap (v6 - 7)).toNat) 0)+fL .u64 (fL .u64 (aG eU) (aG gE)) (eK .u64 (bA.getD (0+(i64.wrap (v6 - 2)).toNat) 0) 6)))))) else none else none else none else none else none else H (Ex.exit 4) (some (Lc aQ bA)):=by kernel_rfl
theorem aAm (fu:Nat) (aQ bA:List Int):OP T0 R0 aG fu  (Ex.exit 4) (Lc aQ bA)=some (AV.agg (.ints .u64 bA) 80):=by kernel_rfl
end
section
variable (T0:Type) (R0:FA T0) (aG:T0->List Int) (T1:Type) (R1:FA T1) (aN:T1->Int)
def AY:Cg:=⟨⟨dE [(213,⟨R0,λ t=>AV.agg (.ints .u64 (aG t)) 80⟩),(214,⟨R1,λ t=>AV.int .u64 (aN t)⟩)],[],dR⟩,[(5,[1,3,6,7,8,18],[3,6,8]),(13,[3,6,8,102],[3,6])]⟩
def HU (x1:List Int) (xB:Int) (aQ bA cT gI:List Int):St:={ tm:=[(1,.s (.rptr (.ints .u64 x1) 0 80)),(3,.s (.ptr 0 0 8)),(6,.s (.ptr 1 0 8)),(7,.s (.ptr 2 0 80)),(8,.s (.ptr 3 0 8)),(18,.int .i64 xB)],hp:=[(0,{ ty:=225,n:=8,row:=Row.t (.ints .u64 aQ) }),(1,{ ty:=225,n:=8,row:=Row.t (.ints .u64 bA) }),(2,{ ty:=227,n:=80,row:=Row.t (.ints .u64 cT) }),(3,{ ty:=225,n:=8,row:=Row.t (.ints .u64 gI) })],nx:=4,sz:=115 }
def OQ:Code:=cM (bN [1,1,1,0,1,2] (bD Tryz.f201))
def OR (fu:Nat):=lP prog (AY T0 R0 aG T1 R1 aN) fu [1,1,1,0,1,2] (bD Tryz.f201) (fT prog Tryz.f201)
abbrev aL4 (fu:Nat) (x1:List Int) (xB:Int) (aQ bA cT gI:List Int):=eS prog (AY T0 R0 aG T1 R1 aN) fu OQ (OR T0 R0 aG T1 R1 aN fu ) fu (some (HU x1 xB aQ bA cT gI))
theorem aL5 (fu:Nat) (h k:List Int) (b:Str):bB prog Tryz.f201 (AY T0 R0 aG T1 R1 aN) fu [W8 h,P80 k,.str b]=(R0 [.str b]).bind λ t=>aL4 T0 R0 aG T1 R1 aN fu k 0 h [0,0,0,0,0,0,0,0] (aG t) h:=by kernel_rfl
def Ld (aQ bA cT:List Int):St:={ tm:=[(3,.s (.ptr 0 0 8)),(6,.s (.ptr 1 0 8)),(8,.s (.ptr 2 0 8))],hp:=[(0,{ ty:=225,n:=8,row:=Row.t (.ints .u64 aQ) }),(1,{ ty:=225,n:=8,row:=Row.t (.ints .u64 bA) }),(2,{ ty:=225,n:=8,row:=Row.t (.ints .u64 cT) })],nx:=3,sz:=115 }
theorem XZ {β:Type} (fu:Nat) (G:FG β) (H:FH β) (x1:List Int) (xB:Int) (aQ bA cT gI:List Int):fI prog (AY T0 R0 aG T1 R1 aN) fu OQ G H (HU x1 xB aQ bA cT gI)=bif decide (xB < 80) then (R1 [.int .u64 (gI.getD 4 0),.int .i64 14]).bind λ t=>(R1 [.int .u64 (gI.getD 4 0),.int .i64 18]).bind λ dH=>(R1 [.int .u64 (gI.getD 4 0),.int .i64 41]).bind λ eU=>bif decide (0 <= xB /\ xB < 80) then bif decide (0 <= xB /\ xB < 80) then (R1 [.int .u64 (gI.getD 0 0),.int .i64 28]).bind λ gE=>(R1 [.int .u64 (gI.getD 0 0),.int .i64 34]).bind λ gT=>(R1 [.int .u64 (gI.getD 0 0),.int .i64 39]).bind λ gJ=>G (some (HU x1 (i64.wrap (xB+1)) aQ bA cT ([u64.wrap (u64.wrap (u64.wrap (u64.wrap (u64.wrap (gI.getD 7 0+fL .u64 (fL .u64 (aN t) (aN dH)) (aN eU))+fL .u64 (d8 .u64 (gI.getD 4 0) (gI.getD 5 0)) (d8 .u64 (fL .u64 18446744073709551615 (gI.getD 4 0)) (gI.getD 6 0)))+x1.getD (0+xB.toNat) 0)+cT.getD (0+xB.toNat) 0)+u64.wrap (fL .u64 (fL .u64 (aN gE) (aN gT)) (aN gJ)+fL .u64 (fL .u64 (d8 .u64 (gI.getD 0 0) (gI.getD 1 0)) (d8 .u64 (gI.getD 0 0) (gI.getD 2 0))) (d8 .u64 (gI.getD 1 0) (gI.getD 2 0))))]++([gI.getD 0 0]++([gI.getD 1 0]++([gI.getD 2 0]++([u64.wrap (gI.getD 3 0+u64.wrap (u64.wrap (u64.wrap (u64.wrap (gI.getD 7 0+fL .u64 (fL .u64 (aN t) (aN dH)) (aN eU))+fL .u64 (d8 .u64 (gI.getD 4 0) (gI.getD 5 0)) (d8 .u64 (fL .u64 18446744073709551615 (gI.getD 4 0)) (gI.getD 6 0)))+x1.getD (0+xB.toNat) 0)+cT.getD (0+xB.toNat) 0))]++([gI.getD 4 0]++([gI.getD 5 0]++[gI.getD 6 0]))))))))) else none else none else H (Ex.exit 0) (some (Ld aQ bA gI)):=by kernel_rfl
def HV (B2:Int) (aQ bA cT:List Int):St:={ tm:=[(3,.s (.ptr 0 0 8)),(6,.s (.ptr 1 0 8)),(8,.s (.ptr 2 0 8)),(102,.int .i64 B2)],hp:=[(0,{ ty:=225,n:=8,row:=Row.t (.ints .u64 aQ) }),(1,{ ty:=225,n:=8,row:=Row.t (.ints .u64 bA) }),(2,{ ty:=225,n:=8,row:=Row.t (.ints .u64 cT) })],nx:=3,sz:=115 }
def OS:Code:=cM (bN [1,1,1,1,0,1,2] (bD Tryz.f201))
def OT (fu:Nat):=lP prog (AY T0 R0 aG T1 R1 aN) fu [1,1,1,1,0,1,2] (bD Tryz.f201) (fT prog Tryz.f201)
abbrev Xa (fu:Nat) (B2:Int) (aQ bA cT:List Int):=eS prog (AY T0 R0 aG T1 R1 aN) fu OS (OT T0 R0 aG T1 R1 aN fu ) fu (some (HV B2 aQ bA cT))
theorem aAn (fu:Nat) (aQ bA cT:List Int):OR T0 R0 aG T1 R1 aN fu  (Ex.exit 0) (Ld aQ bA cT)=Xa T0 R0 aG T1 R1 aN fu 0 aQ bA cT:=by kernel_rfl
def Le (aQ bA:List Int):St:={ tm:=[(3,.s (.ptr 0 0 8)),(6,.s (.ptr 1 0 8))],hp:=[(0,{ ty:=225,n:=8,row:=Row.t (.ints .u64 aQ) }),(1,{ ty:=225,n:=8,row:=Row.t (.ints .u64 bA) })],nx:=2,sz:=115 }
theorem Xb {β:Type} (fu:Nat) (G:FG β) (H:FH β) (B2:Int) (aQ bA cT:List Int):fI prog (AY T0 R0 aG T1 R1 aN) fu OS G H (HV B2 aQ bA cT)=bif decide (B2 < 8) then bif decide (0 <= B2 /\ B2 < 8) then bif decide (0 <= B2 /\ B2 < 8) then bif decide (0 <= B2 /\ B2 < 8) then G (some (HV (i64.wrap (B2+1)) (aQ.set (0+B2.toNat) (u64.wrap (aQ.getD (0+B2.toNat) 0+cT.getD (0+B2.toNat) 0))) bA cT)) else none else none else none else H (Ex.exit 2) (some (Le aQ bA)):=by kernel_rfl
theorem aAo (fu:Nat) (aQ bA:List Int):OT T0 R0 aG T1 R1 aN fu  (Ex.exit 2) (Le aQ bA)=some (AV.agg (.ints .u64 aQ) 8):=by kernel_rfl
end
abbrev aL6:Cg:=aFN 
theorem aFT:CfOk prog aL6.c:=gk <| aK
abbrev aL7:Cg:=aFP 
theorem aFU:CfOk prog aL7.c:=gk <| aK
abbrev aL8:Cg:=aFQ 
theorem aFV:CfOk prog aL8.c:=gk <| aK
abbrev aL9:Cg:=aFR 
theorem aFW:CfOk prog aL9.c:=gk <| aK
abbrev aMa:Cg:=aFS 
theorem aFX:CfOk prog aMa.c:=gk <| aK
theorem rN (x y:Nat) (hx:x < 18446744073709551616) (hy:y < 18446744073709551616):fL .u64 (x:Int) (y:Int)=((x ^^^ y:Nat):Int):=by
 unfold fL;have e:(BitVec.ofInt (IntKind.bits .u64) (x:Int) ^^^ BitVec.ofInt (IntKind.bits .u64) (y:Int)).toNat=x ^^^ y:=by
  show (BitVec.ofInt 64 (x:Int) ^^^ BitVec.ofInt 64 (y:Int)).toNat=x ^^^ y;rw [BitVec.toNat_xor,Zo x hx,Zo y hy]
 rw [e,fM,aV];exact PV (n:=64) hx hy
theorem aYI (x:Nat) (hx:x < 18446744073709551616):d8 .u64 (x:Int) 63=((x%64:Nat):Int):=by
 rw [show (63:Int)=((63:Nat):Int) from rfl,Dd x _ hx (by omega)];rw [show (63:Nat)=2 ^ 6 - 1 from rfl,PR]
theorem aVs (m:Nat) (h0:1 <= m) (h1:m <= 63):u64.wrap (-(m:Int))=((18446744073709551616 - m:Nat):Int):=by
 simp [IntKind.wrap,IntKind.bits,IntKind.signed]; omega
theorem jB {x:Nat} (n:Nat) (hx:x < 18446744073709551616):rr x n < 18446744073709551616 :=
 Hp (n:=64) (iI (pQ _ _) hx) (bK _ (by decide))
theorem RS {x:Nat} (hx:x < 18446744073709551616):hO (x:Int)=true:=aE ⟨by omega,by omega⟩
theorem aMb {args:List AV} {t:Nat} (h:RR.run args=some t):∃ x m:Nat,args=[.int .u64 (x:Int),.int .i64 (-(m:Int))] /\ x < 18446744073709551616 /\ 1 <= m /\ m <= 63 /\ t=rr x m:=by
 unfold RR at h;simp only at h;split at h
 ·rename_i x k;obtain ⟨h1,h2⟩:=aY h;simp only [aX,hO,bG] at h1;obtain ⟨n,rfl⟩:=b9 h1.1.1;obtain ⟨m,hm⟩:=b9 (by omega:0 <= -k);have:k=-(m:Int):=by omega
  subst this;refine ⟨n,m,rfl,by omega,by omega,by omega,?_⟩;cases h2;rw [bE,Ap,bE]
 ·cases h
theorem Xc {args:List AV} {t:Nat} (h:LZ.run args=some t):∃ x m:Nat,args=[.int .u64 (x:Int),.int .i64 (m:Int)] /\ x < 18446744073709551616 /\ 1 <= m /\ m <= 63 /\ t=rr x m:=by
 unfold LZ at h;simp only at h;split at h
 ·rename_i x k;obtain ⟨h1,h2⟩:=aY h;simp only [aX,hO,bG] at h1;obtain ⟨n,rfl⟩:=b9 h1.1.1;obtain ⟨m,rfl⟩:=b9 (by omega:0 <= k);refine ⟨n,m,rfl,by omega,by omega,by omega,?_⟩;cases h2;rw [bE,bE]
 ·cases h
theorem aFY (x m:Nat) (hx:x < 18446744073709551616) (h0:1 <= m) (h1:m <= 63):aFI [.int .u64 (x:Int),.int .i64 (-(m:Int))]=some (rr x m):=by
 have h2:decide (-63 <= -(m:Int) /\ -(m:Int) <= -1)=true:=aE (by omega);simp only [aFI,RR,RS hx,h2,Fm,aB,Ap,bE]
theorem eZ (x m:Nat) (hx:x < 18446744073709551616) (h0:1 <= m) (h1:m <= 63):fD [.int .u64 (x:Int),.int .i64 (m:Int)]=some (rr x m):=by
 have h2:decide (1 <= (m:Int) /\ (m:Int) <= 63)=true:=aE (by omega);simp only [fD,LZ,RS hx,h2,Fm,aB,bE]
theorem aMc:CallOk prog 223 RR:=by
 refine i7 aFT Tryz.func223 ?_;intro args t ht;obtain ⟨x,m,rfl,hx,h0,h1,rfl⟩:=aMb ht;refine (aLW ..).trans ?_;rw [aVs m h0 h1,aYI _ (by omega),show (18446744073709551616 - m)%64=64 - m by omega,show (64:Int) - ((64 - m:Nat):Int)=((m:Nat):Int) by omega,fM,aV (by omega:m < 18446744073709551616),aH (by omega),aD,
  Dc _ _ (by omega),mV _ _ (by omega),NZ _ _ (bK _ (by decide)) (iI (pQ _ _) hx),Nat.or_comm]; rfl
abbrev aMd:Cg:=aFO (Nat) aFI (λ t=>↑t)
theorem aFZ:CfOk prog aMd.c:=gk <| aA aMc <| aK
theorem Xd:CallOk prog 214 LZ:=by
 refine i7 aFZ Tryz.func214 ?_;intro args t ht;obtain ⟨x,m,rfl,hx,h0,h1,rfl⟩:=Xc ht;refine (aLX ..).trans ?_;rw [Int.zero_sub,bY (by omega) (by omega),aFY x m hx h0 h1,aC]; rfl
theorem aMe:CallOk prog 239 LZ:=by
 refine i7 aFU Tryz.func239 ?_;intro args t ht;obtain ⟨x,m,rfl,hx,h0,h1,rfl⟩:=Xc ht;refine (aLY ..).trans ?_;rw [show (64:Int) - (m:Int)=((64 - m:Nat):Int) by omega,bY (by omega) (by omega),aH (by omega),aD,aH (by omega),aD,
  Dc _ _ (by omega),mV _ _ (by omega),NZ _ _ (iI (pQ _ _) hx) (bK _ (by decide))]; rfl
theorem aF0:CallOk prog 199 aFJ:=by
 refine i7 aFV Tryz.func199 ?_;intro args t ht
 match args,ht with
 | [],_=>exact (aLZ _).trans (by kernel_rfl)
theorem aMf:CallOk prog 200 aPq:=by
 refine i7 aFW Tryz.func200 ?_;intro args t ht
 match args,ht with
 | [],_=>exact (aL0 _).trans (by kernel_rfl)
theorem bAj:CallOk prog 238 sK:=by
 refine i7 aFX Tryz.func238 ?_;intro args t ht
 match args,ht with
 | [],_=>exact (aL1 _).trans (by kernel_rfl)
abbrev EC:Cg:=qY (Nat) fD (λ t=>↑t)
theorem aF1:CfOk prog EC.c:=gk <| aA Xd <| aK
theorem mA (l:List Nat) (i:Nat):(up l).getD i 0=((l.getD i 0:Nat):Int):=by
 unfold up;rw [fU,fU,kV];cases l[i]? <;> rfl
theorem FP (l:List Nat) (i n:Nat):(up l).set i (n:Int)=up (l.set i n):=by
 unfold up;rw [List.map_set]
theorem FQ (l:List Nat):(up l).length=l.length:=iA _
def ED (l:List Nat):Prop:=∀ i,l.getD i 0 < 18446744073709551616
theorem AZ (l:List Nat) (i j n:Nat):(l.set i n).getD j 0=if i=j /\ i < l.length then n else l.getD j 0:=by
 rw [fU,fU,VK];by_cases h:i=j
 ·subst h;by_cases h2:i < l.length
  ·rw [aT rfl,aT h2,aT ⟨rfl,h2⟩]; rfl
  ·rw [aT rfl,aW h2,aW (λ c=>h2 c.2),At (by omega)]
 ·rw [aW h,aW (λ c=>h c.1)]
theorem Xe {l:List Nat} (h:ED l) (i:Nat) {n:Nat} (hn:n < 18446744073709551616):ED (l.set i n):=by
 intro j;rw [AZ];split
 ·exact hn
 ·exact h j
theorem OU (n:Nat):D7 n < 18446744073709551616:=bK _ (by decide)
theorem aF2 (s:Str) (i:Nat):∀ k,wd s i k < 256 ^ k:=by
 intro k
 induction k with
 | zero=>exact Nat.one_pos
 | succ k ih=>
  have hb:=(s.getD (8*i+k) 0).toNat_lt;show wd s i k*256+(s.getD (8*i+k) 0).toNat < 256 ^ (k+1);rw [bM];omega
theorem yB (s:Str) (i:Nat) (h:i <= 80):(blk s i).length=80:=by
 rw [blk,i9,iA,List.length_range,List.length_replicate]; omega
theorem EE (s:Str) (i j:Nat):(blk s i).getD j 0=if j < i then wd s j 8 else 0:=by
 rw [blk,fU];by_cases h:j < i
 ·rw [aT h,yO (by simp; exact h),kV,VJ h]; rfl
 ·rw [aW h,yP (by simp; omega),List.getElem?_replicate];split <;> rfl
theorem RT {a b:List Nat} (hl:a.length=b.length) (h:∀ i,a.getD i 0=b.getD i 0):a=b:=by
 refine PI hl λ i h1 h2=>?_;have:=h i;rw [fU,fU,oD h1,oD h2] at this;exact this
theorem Lf (s:Str) (i:Nat) (h:i < 80):blk s i=(blk s i).set i (wd s i 0):=by
 refine RT (by rw [Fx]) λ j=>?_;rw [AZ];split
 ·rename_i c;rw [EE,aW (by omega)]; rfl
 ·rfl
theorem Xf (s:Str) (i:Nat) (h:i < 80):(blk s i).set i (wd s i 8)=blk s (i+1):=by
 refine RT (by rw [Fx,yB _ _ (by omega),yB _ _ (by omega)]) λ j=>?_;rw [AZ,EE,EE,yB _ _ (by omega)];by_cases c:i=j
 ·subst c; rw [aT ⟨rfl,h⟩,aT (by omega)]
 ·rw [aW (λ e=>c e.1)];by_cases c2:j < i
  ·rw [aT c2,aT (by omega)]
  ·rw [aW c2,aW (by omega)]
theorem aF3 (s:Str) (i:Nat):ED (blk s i):=by
 intro j;rw [EE];split
 ·exact cU (aF2 s j 8) (by decide)
 ·decide
theorem aMg (s:Str) (i k:Nat) (hk:k < 8):Du .u64 (j9 .u64 ((wd s i k:Nat):Int) 8) (u64.wrap (((s.getD (8*i+k) 0).toNat:Nat):Int))=((wd s i (k+1):Nat):Int):=by
 have hb:=(s.getD (8*i+k) 0).toNat_lt;have h1:=aF2 s i k;have h2:(256:Nat) ^ k <= 256 ^ 7:=iK (by decide) (by omega);have h3:wd s i k*2 ^ 8 < 18446744073709551616:=by omega
 rw [show (8:Int)=((8:Nat):Int) from rfl,Dc _ _ (by decide),aV h3,fM,aV (by omega:(s.getD (8*i+k) 0).toNat < 18446744073709551616),NZ _ _ h3 (by omega),cG,
  <-yV (i:=8) (by omega) (wd s i k),cG]; rfl
theorem aF4 {β:Type} (s:Str) (hs:s.length=128) (i:Nat) (hi:i < 16) (fu:Nat) (y:List Int) (G:FG β) (H:FH β):∀ (d n k:Nat),k+d=8->d < n ->
  eS prog EC fu OM (ON _ fD (λ t=>(t:Int)) fu G H) n (some (HS s (i:Int) (i:Int) (k:Int) y (up ((blk s i).set i (wd s i k)))))=G (some (EA s ((i+1:Nat):Int) y (up (blk s (i+1))))):=by
 intro d
 induction d with
 | zero=>
  intro n k hk hn;obtain ⟨n,rfl⟩:=aP (by omega:n ≠ 0);have:k=8:=by omega
  subst this;rw [aF,XW,aH (by decide),aD,aR,aAl,bY (by omega) (by omega),Xf s i (by omega)]; rfl
 | succ d ih=>
  intro n k hk hn;obtain ⟨n,rfl⟩:=aP (by omega:n ≠ 0);have h:=ih n (k+1) (by omega) (by omega);have hix:i64.wrap (i64.wrap ((8:Int)*(i:Int))+(k:Int))=((8*i+k:Nat):Int):=by
   rw [bY (n:=8*(i:Int)) (by omega) (by omega),bY (by omega) (by omega)]; omega
  rw [aF,XW,aE (by omega),aB,aE (by omega),aB,hix,aE (by omega),aB,aB,bE,bE,bS,mA,AZ,aT ⟨rfl,by rw [yB _ _ (by omega)]; omega⟩,
   aMg s i k (by omega),FP,List.set_set,bY (by omega) (by omega)]
  exact h
theorem aF5 (s:Str) (hs:s.length=128) (fu:Nat) (hfu:8 < fu) (y:List Int):∀ (d n i:Nat),i+d=16->d < n ->
  eS prog EC fu BC (EB _ fD (λ t=>(t:Int)) fu) n (some (EA s (i:Int) y (up (blk s i))))=XX _ fD (λ t=>(t:Int)) fu 16 y (up (blk s 16)):=by
 intro d
 induction d with
 | zero=>
  intro n i hi hn;obtain ⟨n,rfl⟩:=aP (by omega:n ≠ 0);have:i=16:=by omega
  subst this;rw [aF,XV,aH (by decide),aD,aR,aAk]
 | succ d ih=>
  intro n i hi hn;obtain ⟨n,rfl⟩:=aP (by omega:n ≠ 0);rw [aF,XV,aE (by omega),aB];have h:=aF4 s hs i (by omega) fu y (eS prog EC fu BC (EB _ fD (λ t=>(t:Int)) fu) n) (Ak (EB _ fD (λ t=>(t:Int)) fu)) 8 fu 0 (by omega) hfu;rw [<-Lf s i (by omega)] at h;refine iR h ?_;exact ih n (i+1) (by omega) (by omega)
theorem aAp (x:List Nat):∀ d,(cP x d).length=x.length:=by
 intro d
 induction d with
 | zero=>rfl
 | succ d ih=>rw [cP,BB,Fx,ih]
theorem RU {x:List Nat} (h:ED x):∀ d,ED (cP x d):=by
 intro d
 induction d with
 | zero=>exact h
 | succ d ih=>exact Xe ih _ (OU _)
theorem EF {x:Nat} (n:Nat) (h:x < 18446744073709551616):x / n < 18446744073709551616:=iI (pQ _ _) h
theorem tI {x y:Nat} (hx:x < 18446744073709551616) (hy:y < 18446744073709551616):x ^^^ y < 18446744073709551616:=PV (n:=64) hx hy
theorem aF6 (x0:List Nat) (hx0:ED x0) (hl:x0.length=80) (fu:Nat) (y:List Int):∀ (e n d:Nat),d+e=64->e < n ->
  eS prog EC fu OO (OP _ fD (λ t=>(t:Int)) fu) n (some (HT ((16+d:Nat):Int) y (up (cP x0 d))))=some (.agg (.ints .u64 (up (cP x0 64))) 80):=by
 intro e
 induction e with
 | zero=>
  intro n d hd hn;obtain ⟨n,rfl⟩:=aP (by omega:n ≠ 0);have:d=64:=by omega
  subst this;rw [aF,XY,aH (by decide),aD,aR,aAm]
 | succ e ih=>
  intro n d hd hn;obtain ⟨n,rfl⟩:=aP (by omega:n ≠ 0);have h:=ih n (d+1) (by omega) (by omega);have ok:=RU hx0 d;have w:∀ k:Nat,k <= 16->i64.wrap (((16+d:Nat):Int) - ((k:Nat):Int))=((16+d - k:Nat):Int):=λ k hk=>by rw [bY (by omega) (by omega)]; omega
  have w15:=w 15 (by omega);have w2:=w 2 (by omega);have w16:=w 16 (by omega);have w7:=w 7 (by omega);simp only [Fq] at w15 w2 w16 w7;rw [aF,XY,aE (by omega),aB,w15,w2,w16,w7,aE (by omega),aB,aE (by omega),aB,aE (by omega),aB];simp only [bE,bS,mA];have t1:=eZ _ 1 (ok (16+d - 15)) (by decide) (by decide);have t8:=eZ _ 8 (ok (16+d - 15)) (by decide) (by decide);have t19:=eZ _ 19 (ok (16+d - 2)) (by decide) (by decide);have t61:=eZ _ 61 (ok (16+d - 2)) (by decide) (by decide);simp only [Fq] at t1 t8 t19 t61;rw [t1,aC,t8,aC,aE (by omega),aB,t19,aC,t61,aC,aE (by omega),aB];have a15:=ok (16+d - 15);have a2:=ok (16+d - 2);have x0':fL .u64 (fL .u64 ((rr ((cP x0 d).getD (16+d - 15) 0) 1:Nat):Int) ((rr ((cP x0 d).getD (16+d - 15) 0) 8:Nat):Int)) (eK .u64 (((cP x0 d).getD (16+d - 15) 0:Nat):Int) 7)=((g0 ((cP x0 d).getD (16+d - 15) 0):Nat):Int):=by
   rw [show (7:Int)=((7:Nat):Int) from rfl,mV _ _ (by decide),rN _ _ (jB _ a15) (jB _ a15),rN _ _ (tI (jB _ a15) (jB _ a15)) (EF _ a15)]; rfl
  have x1':fL .u64 (fL .u64 ((rr ((cP x0 d).getD (16+d - 2) 0) 19:Nat):Int) ((rr ((cP x0 d).getD (16+d - 2) 0) 61:Nat):Int)) (eK .u64 (((cP x0 d).getD (16+d - 2) 0:Nat):Int) 6)=((g1 ((cP x0 d).getD (16+d - 2) 0):Nat):Int):=by
   rw [show (6:Int)=((6:Nat):Int) from rfl,mV _ _ (by decide),rN _ _ (jB _ a2) (jB _ a2),rN _ _ (tI (jB _ a2) (jB _ a2)) (EF _ a2)]; rfl
  have sm:∀ a b c e:Nat,u64.wrap (u64.wrap (u64.wrap ((a:Int)+(b:Int))+(c:Int))+(e:Int))=((D7 (a+b+c+e):Nat):Int):=λ a b c e=>by
   rw [<-fZ,fM,<-fZ,fM,<-fZ,fM,D7];have:((((a+b)%18446744073709551616+c)%18446744073709551616)+e)%18446744073709551616=(a+b+c+e)%18446744073709551616:=by omega
   rw [this]
  rw [x0',x1',sm,FP,bY (by omega) (by omega)];exact h
abbrev HW:List Int:=[0,0,0,0,0,0,0,0,0,0,0,0,0,0,0,0,0,0,0,0,0,0,0,0,0,0,0,0,0,0,0,0,0,0,0,0,0,0,0,0,0,0,0,0,0,0,0,0,0,0,0,0,0,0,0,0,0,0,0,0,0,0,0,0,0,0,0,0,0,0,0,0,0,0,0,0,0,0,0,0]
theorem aF7 (s:Str):up (blk s 0)=HW:=rfl
theorem aVt (s:Str) (hs:s.length=128):XU _ fD (λ t=>(t:Int)) 65 s 0 HW HW=some (.agg (.ints .u64 (up (yA s))) 80):=by
 have h:=aF5 s hs 65 (by decide) HW 16 65 0 (by omega) (by decide);rw [aF7] at h;exact iR h (aF6 (blk s 16) (aF3 s 16) (yB s 16 (by decide)) 65 _ 64 65 0 (by omega) (by decide))
theorem aAq:CallOk prog 213 OK:=by
 refine aZ (fu:=λ _=>65) aF1 Tryz.func213 ?_;intro args t ht;unfold OK at ht;simp only at ht;split at ht
 ·rename_i s;obtain ⟨h1,h2⟩:=cC ht;have h1:=aS h1;subst h2;exact (aL2 ..).trans (aVt s h1)
 ·cases ht
abbrev OV:Cg:=AY (List Nat) D8 (λ t=>up t) (Nat) fD (λ t=>↑t)
theorem aF8:CfOk prog OV.c:=gk <| aA aAq <| aA Xd <| aK
theorem tJ {x:Nat} (y:Nat) (hx:x < 18446744073709551616):x &&& y < 18446744073709551616:=iI Nat.and_le_left hx
theorem aPr (x:Nat) (hx:x < 18446744073709551616):fL .u64 18446744073709551615 (x:Int)=((18446744073709551615 - x:Nat):Int):=by
 rw [show (18446744073709551615:Int)=((18446744073709551615:Nat):Int) from rfl,rN _ _ (by decide) hx];have:18446744073709551615 ^^^ x=18446744073709551615 - x:=by
  have h:=dQ BitVec.toNat (BitVec.not_def (x:=BitVec.ofNat 64 x));rw [BitVec.toNat_not,BitVec.toNat_xor,BitVec.toNat_allOnes,Sh,aV hx] at h;exact h.symm
 rw [this]
theorem aYJ (t:List Nat) (ht:ED t) (k w:Nat) :
  u64.wrap (u64.wrap (u64.wrap (u64.wrap (((t.getD 7 0:Nat):Int)+fL .u64 (fL .u64 ((rr (t.getD 4 0) 14:Nat):Int) ((rr (t.getD 4 0) 18:Nat):Int)) ((rr (t.getD 4 0) 41:Nat):Int)) +
   fL .u64 (d8 .u64 ((t.getD 4 0:Nat):Int) ((t.getD 5 0:Nat):Int)) (d8 .u64 (fL .u64 18446744073709551615 ((t.getD 4 0:Nat):Int)) ((t.getD 6 0:Nat):Int)))+(k:Int))+(w:Int)) =
  ((D7 (t.getD 7 0+e1 (t.getD 4 0)+((t.getD 4 0 &&& t.getD 5 0) ^^^ ((18446744073709551615 - t.getD 4 0) &&& t.getD 6 0))+k+w):Nat):Int):=by
 have h4:=ht 4;have h5:=ht 5;have h6:=ht 6;have hn:18446744073709551615 - t.getD 4 0 < 18446744073709551616:=by omega
 rw [rN _ _ (jB _ h4) (jB _ h4),rN _ _ (tI (jB _ h4) (jB _ h4)) (jB _ h4),aPr _ h4,Dd _ _ h4 h5,Dd _ _ hn h6,rN _ _ (tJ _ h4) (tJ _ hn)];rw [show rr (t.getD 4 0) 14 ^^^ rr (t.getD 4 0) 18 ^^^ rr (t.getD 4 0) 41=e1 (t.getD 4 0) from rfl];generalize e1 (t.getD 4 0)=a;generalize (t.getD 4 0 &&& t.getD 5 0) ^^^ ((18446744073709551615 - t.getD 4 0) &&& t.getD 6 0)=b;generalize t.getD 7 0=c;rw [<-fZ,fM,<-fZ,fM,<-fZ,fM,<-fZ,fM,D7];have:((((c+a)%18446744073709551616+b)%18446744073709551616+k)%18446744073709551616+w)%18446744073709551616=(c+a+b+k+w)%18446744073709551616:=by omega
 rw [this]
theorem aYK (t:List Nat) (ht:ED t) :
  u64.wrap (fL .u64 (fL .u64 ((rr (t.getD 0 0) 28:Nat):Int) ((rr (t.getD 0 0) 34:Nat):Int)) ((rr (t.getD 0 0) 39:Nat):Int) +
   fL .u64 (fL .u64 (d8 .u64 ((t.getD 0 0:Nat):Int) ((t.getD 1 0:Nat):Int)) (d8 .u64 ((t.getD 0 0:Nat):Int) ((t.getD 2 0:Nat):Int))) (d8 .u64 ((t.getD 1 0:Nat):Int) ((t.getD 2 0:Nat):Int))) =
  ((D7 (e0 (t.getD 0 0)+((t.getD 0 0 &&& t.getD 1 0) ^^^ (t.getD 0 0 &&& t.getD 2 0) ^^^ (t.getD 1 0 &&& t.getD 2 0))):Nat):Int):=by
 have h0:=ht 0;have h1:=ht 1;have h2:=ht 2;rw [rN _ _ (jB _ h0) (jB _ h0),rN _ _ (tI (jB _ h0) (jB _ h0)) (jB _ h0),Dd _ _ h0 h1,Dd _ _ h0 h2,Dd _ _ h1 h2,rN _ _ (tJ _ h0) (tJ _ h0),rN _ _ (tI (tJ _ h0) (tJ _ h0)) (tJ _ h1),
  <-fZ,fM]; rfl
theorem aMh {t:List Nat} (ht:ED t) (k w:Nat):ED (rnd t k w):=by
 intro i
 match i with
 | 0=>exact OU _
 | 1=>exact ht 0
 | 2=>exact ht 1
 | 3=>exact ht 2
 | 4=>exact OU _
 | 5=>exact ht 4
 | 6=>exact ht 5
 | 7=>exact ht 6
 | n+8=>exact (by decide:0 < 18446744073709551616)
theorem JY (w:List Nat) {t:List Nat} (ht:ED t):∀ i,ED (wQ w t i):=by
 intro i
 induction i with
 | zero=>exact ht
 | succ i ih=>exact aMh ih _ _
theorem Ug {b:Str} (h:b.length=128):D8 [.str b]=some (yA b):=by
 have:Nat.beq b.length 128=true:=by rw [h]; rfl
 show cond (Nat.beq b.length 128) (some (yA b)) none=_;rw [this]; rfl
theorem aF9 (s:List Nat) (hs:ED s) (w:List Nat) (y:List Int) (fu:Nat):∀ (d n i:Nat),i+d=80->d < n ->
  eS prog OV fu OQ (OR _ D8 (λ t=>up t) _ fD (λ t=>(t:Int)) fu) n (some (HU (up kN) (i:Int) (up s) y (up w) (up (wQ w s i))))=Xa _ D8 (λ t=>up t) _ fD (λ t=>(t:Int)) fu 0 (up s) y (up (wQ w s 80)):=by
 intro d
 induction d with
 | zero=>
  intro n i hi hn;obtain ⟨n,rfl⟩:=aP (by omega:n ≠ 0);have:i=80:=by omega
  subst this;rw [aF,XZ,aH (by decide),aD,aR,aAn]
 | succ d ih=>
  intro n i hi hn;obtain ⟨n,rfl⟩:=aP (by omega:n ≠ 0);have h:=ih n (i+1) (by omega) (by omega);have ok:=JY w hs i;have ok':=JY w hs (i+1);rw [show wQ w s (i+1)=rnd (wQ w s i) (kN.getD i 0) (w.getD i 0) from rfl] at h;rw [aF,XZ,aE (by omega),aB];generalize wQ w s i=t at ok h ⊢;have t14:=eZ _ 14 (ok 4) (by decide) (by decide);have t18:=eZ _ 18 (ok 4) (by decide) (by decide);have t41:=eZ _ 41 (ok 4) (by decide) (by decide);have t28:=eZ _ 28 (ok 0) (by decide) (by decide);have t34:=eZ _ 34 (ok 0) (by decide) (by decide);have t39:=eZ _ 39 (ok 0) (by decide) (by decide);simp only [Fq] at t14 t18 t41 t28 t34 t39;simp only [bE,bS,mA];rw [t14,aC,t18,aC,t41,aC,aE (by omega),aB,aB,t28,aC,t34,aC,t39,aC,aYJ t ok,aYK t ok,bY (by omega) (by omega)];have sm:∀ a b:Nat,u64.wrap ((a:Int)+(b:Int))=((D7 (a+b):Nat):Int):=λ a b=>by rw [<-fZ,fM]; rfl
  rw [sm,sm];exact h
theorem aGa (s t:List Nat) (y:List Int) (fu:Nat):∀ (d n i:Nat),i+d=8->d < n ->
  eS prog OV fu OS (OT _ D8 (λ t=>up t) _ fD (λ t=>(t:Int)) fu) n (some (HV (i:Int) (up (FO s t i)) y (up t)))=some (.agg (.ints .u64 (up (FO s t 8))) 8):=by
 intro d
 induction d with
 | zero=>
  intro n i hi hn;obtain ⟨n,rfl⟩:=aP (by omega:n ≠ 0);have:i=8:=by omega
  subst this;rw [aF,Xb,aH (by decide),aD,aR,aAo]
 | succ d ih=>
  intro n i hi hn;obtain ⟨n,rfl⟩:=aP (by omega:n ≠ 0);have h:=ih n (i+1) (by omega) (by omega);have sm:∀ a b:Nat,u64.wrap ((a:Int)+(b:Int))=((D7 (a+b):Nat):Int):=λ a b=>by rw [<-fZ,fM]; rfl
  rw [aF,Xb,aE (by omega),aB,aE (by omega),aB,aB,aB,bE,bS,mA,mA,sm,FP,bY (by omega) (by omega)];exact h
theorem aYL {l:List Int} (h:qN l=true):up (dn l)=l /\ ED (dn l):=by
 induction l with
 | nil=>exact ⟨rfl,λ i=>by show ([]:List Nat).getD i 0 < _; simp⟩
 | cons x r ih=>
  simp only [qN,aX,bG] at h;obtain ⟨h1,h2⟩:=ih h.2;refine ⟨?_,λ i=>?_⟩
  ·show ((x.toNat:Nat):Int) :: up (dn r)=x :: r;rw [h1,Int.toNat_of_nonneg (by omega)]
  ·match i with
   | 0=>show x.toNat < _; omega
   | i+1=>exact h2 i
theorem aMi:CallOk prog 201 aFL:=by
 refine aZ (fu:=λ _=>81) aF8 Tryz.func201 ?_;intro args t ht;unfold aFL at ht;simp only at ht;split at ht
 ·rename_i h k b;obtain ⟨h1,h2⟩:=cC ht;subst h2;simp only [aX,bG] at h1;obtain ⟨⟨h1,rfl⟩,h3⟩:=h1;have h3:=aS h3;simp only [aFK,aX] at h1;obtain ⟨e,ok⟩:=aYL h1.2;refine (aL5 ..).trans ?_;rw [Ug h3,aC];have a:=aF9 (dn h) ok (yA b) gG 81 80 81 0 (by omega) (by decide);have c:=aGa (dn h) (wQ (yA b) (dn h) 80) gG 81 8 81 0 (by omega) (by decide);rw [show wQ (yA b) (dn h) 0=dn h from rfl,e] at a;rw [show FO (dn h) (wQ (yA b) (dn h) 80) 0=dn h from rfl,e] at c;exact iR a c
 ·cases ht
open Go Go.Proofs Go.RowKit
def aMj:Str:=[48,49,50,51,52,53,54,55,56,57,97,98,99,100,101,102]
def KT:Str->Str
 | []=>[]
 | c :: r=>aMj.getD (c.toNat / 16) 0 :: aMj.getD (c.toNat%16) 0 :: KT r
theorem aGb:∀ a b:Str,KT (a++b)=KT a++KT b:=by
 intro a
 induction a with
 | nil=>intro b; rfl
 | cons c r ih=>intro b; simp only [Fr,KT,ih]
theorem aGc:∀ a:Str,(KT a).length=2*a.length:=by
 intro a
 induction a with
 | nil=>rfl
 | cons c r ih=>simp only [KT,fF,ih]; omega
theorem aGd (i:Nat) (h:i < 16):(⟨#[48,49,50,51,52,53,54,55,56,57,97,98,99,100,101,102]⟩:ByteArray)[i]'h=aMj.getD i 0:=by
 have:∀ i:Fin 16,(⟨#[48,49,50,51,52,53,54,55,56,57,97,98,99,100,101,102]⟩:ByteArray)[i.1]'i.2=aMj.getD i.1 0:=by decide
 exact this ⟨i,h⟩
set_option maxHeartbeats 4000000 in
set_option maxRecDepth 1000000 in
theorem aGe (s:ByteArray) (w:World) (hs:s.size <= 35184372088832) :
  Calls Tryz.prog 216 #[.string s] w λ e w'=>e=.returned (.string ⟨(KT s.data.toList).toArray⟩) /\ Below w.heap.size w w':=by
 go_enter Tryz.func216,Tryz.ntmps216
 go_wp2
 go_loopw [7] (λ v wr=>∃ k:Nat,k <= s.size /\ v=.int .i64 k /\ Lib.IsBuilderF 146 5 w.heap.size w.heap.size (Lib.byteCells (KT (s.data.toList.take k))) wr /\ Below w.heap.size w wr) (λ v _=>s.size - (Lib.intOf v).toNat)
 case atStart=>
  exact ⟨0,pW _,rfl,Lib.IsBuilderF.of (Lib.fresh_isBuilder 146 5 w),(Below.refl _ w).alloc (bV _) _⟩
 case round=>
  obtain ⟨k,hk,rfl,hI,hbw⟩:=hrel;have hbs:w.heap.size <= wr.heap.size:=hbw.size;have hl:=aGc (s.data.toList.take k);have hsl:s.data.toList.length=s.size:=Sg;have hkl:(s.data.toList.take k).length=k:=by rw [dV,hsl]; omega
  by_cases hp:k < s.size
  ·have hc:=(s[k]'hp).toNat_lt
   go_wp2_with (go_at_call 224; refine (Any.Builder_WriteByte_k Tryz.lay167 Tryz.X167 w.heap.size w.heap.size _ _ wr hI (by rw [Lib.byteCells_length]; omega) hbs).mono ?_)
   rintro e W1 ⟨rfl,h1,b1,k1⟩;have hb1:w.heap.size <= W1.heap.size:=(hbw.trans b1).size
   go_wp2_with (go_at_call 224; refine (Any.Builder_WriteByte_k Tryz.lay167 Tryz.X167 w.heap.size w.heap.size _ _ W1 (Or.inr h1) (by rw [i9,Lib.byteCells_length]; simp; omega) hb1).mono ?_)
   rintro e W2 ⟨rfl,h2,b2,k2⟩;have hb2:Below w.heap.size w W2:=(hbw.trans b1).trans b2
   go_wp2
   go_roundw
   case rel=>
    have ht:s.data.toList.take (k+1)=s.data.toList.take k++[s[k]'hp]:=by
     rw [Hl,oD (by omega)]; rfl
    refine ⟨k+1,hp,by simp,Or.inr ?_,hb2⟩;rw [ht,aGb,Lib.byteCells_append];rw [aGd _ (by omega),aGd _ (by omega),lN] at h2;exact h2
   case measure=>simp only [Lib.intOf]; omega
  ·go_wp2_with (go_at_call 116; refine (Any.Builder_String_any_k Tryz.lay169 Tryz.X169 w.heap.size w.heap.size _ wr hI hbs).mono ?_)
   rintro e W1 ⟨rfl,_,b1,_⟩
   go_wp2
   go_ret
   have:k=s.size:=by omega
   subst this;rw [fB (by omega)];exact ⟨rfl,hbw.trans b1⟩
def aVu:Summ where
 T:=Str
 run:=λ
  | [.c (.s (.pl (.str s)))]=>cond (Nat.ble s.length 1099511627776) (some (KT s)) none
  | _=>none
 enc:=λ t=>.str t
theorem aYM {w:World} {ρ:Plc} {x:AV} {vs:List Value} (h:AVRs w ρ [x] vs):∃ u,vs=[u] /\ AVR w ρ x u:=by
 match vs,h with
 | [u],h=>exact ⟨u,rfl,h.1⟩
theorem aVv:CallOk prog 216 aVu:=by
 intro args t ht w X vs hX hav;unfold aVu at ht;simp only at ht;split at ht
 case h_2=>cases ht
 rename_i s;obtain ⟨h1,h2⟩:=cC ht;subst h2;rw [lC] at h1;obtain ⟨u,rfl,hu⟩:=aYM hav;have hu:u=.string ⟨s.toArray⟩:=hu.1;subst hu;refine sD Tryz.func216 (by kernel_rfl) (c:=bD Tryz.f216) (by kernel_rfl) ?_;have:=aGe ⟨s.toArray⟩ w (by show s.length <= _; omega);exact this.mono λ e w' ⟨he,hb⟩=>⟨_,he,He _ _ _,rfl,hb⟩
end
end Go.Eng
