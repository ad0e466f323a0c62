import Derived.Lib.ValidU
import Derived.Test.YtkickcbphbgldaaGreatDoorGkS
set_option linter.unusedVariables false
set_option linter.unusedSimpArgs false
set_option linter.unusedSectionVars false

section
namespace Go.Gk
end Go.Gk
end

section
namespace Go.Gk
def F.FK:List UInt64:=[14680500436340154072,7105036623409894663,10473403895298186519,1526699215303891257,7436329637833083697,10282925794625328401,15784041429090275239,5167115440072839076]
def F.FI:List UInt64:=[7640891576956012808,13503953896175478587,4354685564936845355,11912009170470909681,5840696475078001361,11170449401992604703,2270897969802886507,6620516959819538809]
def F.BL:List UInt32:=[1779033703,3144134277,1013904242,2773480762,1359893119,2600822924,528734635,1541459225]
def F.BJ:List UInt64:=[14680500436340154072,7105036623409894663,10473403895298186519,1526699215303891257,7436329637833083697,10282925794625328401,15784041429090275239,5167115440072839076]
def F.BN:List UInt64:=[7640891576956012808,13503953896175478587,4354685564936845355,11912009170470909681,5840696475078001361,11170449401992604703,2270897969802886507,6620516959819538809]
def F.FJ:List UInt32:=[1779033703,3144134277,1013904242,2773480762,1359893119,2600822924,528734635,1541459225]
def F.Fy:List UInt32:=[1116352408,1899447441,3049323471,3921009573,961987163,1508970993,2453635748,2870763221,3624381080,310598401,607225278,1426881987,1925078388,2162078206,2614888103,3248222580,3835390401,4022224774,264347078,604807628,770255983,1249150122,1555081692,1996064986,2554220882,2821834349,2952996808,3210313671,3336571891,3584528711,113926993,338241895,666307205,773529912,1294757372,1396182291,1695183700,1986661051,2177026350,2456956037,2730485921,2820302411,3259730800,3345764771,3516065817,3600352804,4094571909,275423344,430227734,506948616,659060556,883997877,958139571,1322822218,1537002063,1747873779,1955562222,2024104815,2227730452,2361852424,2428436474,2756734187,3204031479,3329325298]
def F.Fv:List UInt64:=[4794697086780616226,8158064640168781261,13096744586834688815,16840607885511220156,4131703408338449720,6480981068601479193,10538285296894168987,12329834152419229976,15566598209576043074,1334009975649890238,2608012711638119052,6128411473006802146,8268148722764581231,9286055187155687089,11230858885718282805,13951009754708518548,16472876342353939154,17275323862435702243,1135362057144423861,2597628984639134821,3308224258029322869,5365058923640841347,6679025012923562964,8573033837759648693,10970295158949994411,12119686244451234320,12683024718118986047,13788192230050041572,14330467153632333762,15395433587784984357,489312712824947311,1452737877330783856,2861767655752347644,3322285676063803686,5560940570517711597,5996557281743188959,7280758554555802590,8532644243296465576,9350256976987008742,10552545826968843579,11727347734174303076,12113106623233404929,14000437183269869457,14369950271660146224,15101387698204529176,15463397548674623760,17586052441742319658,1182934255886127544,1847814050463011016,2177327727835720531,2830643537854262169,3796741975233480872,4115178125766777443,5681478168544905931,6601373596472566643,7507060721942968483,8399075790359081724,8693463985226723168,9568029438360202098,10144078919501101548,10430055236837252648,11840083180663258601,13761210420658862357,14299343276471374635,14566680578165727644,15097957966210449927,16922976911328602910,17689382322260857208,500013540394364858,748580250866718886,1242879168328830382,1977374033974150939,2944078676154940804,3659926193048069267,4368137639120453308,4836135668995329356,5532061633213252278,6448918945643986474,6902733635092675308,7801388544844847127]
def F.Cs:List UInt32:=[1116352408,1899447441,3049323471,3921009573,961987163,1508970993,2453635748,2870763221,3624381080,310598401,607225278,1426881987,1925078388,2162078206,2614888103,3248222580,3835390401,4022224774,264347078,604807628,770255983,1249150122,1555081692,1996064986,2554220882,2821834349,2952996808,3210313671,3336571891,3584528711,113926993,338241895,666307205,773529912,1294757372,1396182291,1695183700,1986661051,2177026350,2456956037,2730485921,2820302411,3259730800,3345764771,3516065817,3600352804,4094571909,275423344,430227734,506948616,659060556,883997877,958139571,1322822218,1537002063,1747873779,1955562222,2024104815,2227730452,2361852424,2428436474,2756734187,3204031479,3329325298]
def F.Cl:List UInt64:=[4794697086780616226,8158064640168781261,13096744586834688815,16840607885511220156,4131703408338449720,6480981068601479193,10538285296894168987,12329834152419229976,15566598209576043074,1334009975649890238,2608012711638119052,6128411473006802146,8268148722764581231,9286055187155687089,11230858885718282805,13951009754708518548,16472876342353939154,17275323862435702243,1135362057144423861,2597628984639134821,3308224258029322869,5365058923640841347,6679025012923562964,8573033837759648693,10970295158949994411,12119686244451234320,12683024718118986047,13788192230050041572,14330467153632333762,15395433587784984357,489312712824947311,1452737877330783856,2861767655752347644,3322285676063803686,5560940570517711597,5996557281743188959,7280758554555802590,8532644243296465576,9350256976987008742,10552545826968843579,11727347734174303076,12113106623233404929,14000437183269869457,14369950271660146224,15101387698204529176,15463397548674623760,17586052441742319658,1182934255886127544,1847814050463011016,2177327727835720531,2830643537854262169,3796741975233480872,4115178125766777443,5681478168544905931,6601373596472566643,7507060721942968483,8399075790359081724,8693463985226723168,9568029438360202098,10144078919501101548,10430055236837252648,11840083180663258601,13761210420658862357,14299343276471374635,14566680578165727644,15097957966210449927,16922976911328602910,17689382322260857208,500013540394364858,748580250866718886,1242879168328830382,1977374033974150939,2944078676154940804,3659926193048069267,4368137639120453308,4836135668995329356,5532061633213252278,6448918945643986474,6902733635092675308,7801388544844847127]
end Go.Gk
end

section
namespace Go.Gk
noncomputable def F.By (a0:UInt32) (a1:Int):Option (UInt32):=
 some ((ce a0 (((UInt64.ofInt a1) &&& 31).toNat)) ||| (bz a0 ((32 - ((UInt64.ofInt a1) &&& 31)).toNat)))
noncomputable def F.Bw (a0:UInt64) (a1:Int):Option (UInt64):=
 some ((bm a0 (((UInt64.ofInt a1) &&& 63).toNat)) ||| (aP a0 ((64 - ((UInt64.ofInt a1) &&& 63)).toNat)))
noncomputable def F.DW :UInt32×Int→Option (Int)
 | (x_6,x_7)=>
  an (aK ([0,1,2,2,3,3,3,3,4,4,4,4,4,4,4,4,5,5,5,5,5,5,5,5,5,5,5,5,5,5,5,5,6,6,6,6,6,6,6,6,6,6,6,6,6,6,6,6,6,6,6,6,6,6,6,6,6,6,6,6,6,6,6,6,7,7,7,7,7,7,7,7,7,7,7,7,7,7,7,7,7,7,7,7,7,7,7,7,7,7,7,7,7,7,7,7,7,7,7,7,7,7,7,7,7,7,7,7,7,7,7,7,7,7,7,7,7,7,7,7,7,7,7,7,7,7,7,7,8,8,8,8,8,8,8,8,8,8,8,8,8,8,8,8,8,8,8,8,8,8,8,8,8,8,8,8,8,8,8,8,8,8,8,8,8,8,8,8,8,8,8,8,8,8,8,8,8,8,8,8,8,8,8,8,8,8,8,8,8,8,8,8,8,8,8,8,8,8,8,8,8,8,8,8,8,8,8,8,8,8,8,8,8,8,8,8,8,8,8,8,8,8,8,8,8,8,8,8,8,8,8,8,8,8,8,8,8,8,8,8,8,8,8,8,8,8,8,8,8,8,8,8,8,8,8,8]:List UInt8) (x_6.toUInt8.toNat:Int)) fun x_9=>
  bp (wI (x_7+(x_9.toNat:Int))) fun x_10=>
  some x_10
noncomputable def F.En :UInt32×Int→Option (Int)
 | (x_2,x_3)=>
  if (decide ((256:UInt32)≤x_2))=true then
  (
   F.DW (bz x_2 8,wI (x_3+8))
  ) else (
   F.DW (x_2,x_3)
  )
noncomputable def F.DF (a0:UInt32):Option (Int):=
 if (decide ((65536:UInt32)≤a0))=true then
 (
  F.En (bz a0 16,16)
 ) else (
  F.En (a0,0)
 )
noncomputable def F.EE (a0:UInt32):Option (Int):=
 an (F.DF a0) fun x_1=>
 some (wI (32 - x_1))
noncomputable def F.FF (a0:UInt32) (a1:UInt32) (a2:UInt32):Option (UInt32×UInt32):=
 bp (bz (((~~~ a0) &&& a1) ||| ((~~~ (a0 ^^^ a1)) &&& ((a0 - a1) - a2))) 31) fun x_1=>
 some ((a0 - a1) - a2,x_1)
noncomputable def F.EG (a0:UInt32) (a1:UInt32) (a2:UInt32):Bool→Option (UInt32×UInt32)
 | x_2=>
  if x_2=true then
  (
   none
  ) else (
   bp ((bm a0.toUInt64 32) ||| a1.toUInt64) fun x_4=>
   grd (¬a2.toUInt64=0) <|
   grd (¬a2.toUInt64=0) <|
   bp ((x_4 / a2.toUInt64).toUInt32) fun x_7=>
   bp ((x_4%a2.toUInt64).toUInt32) fun x_8=>
   some (x_7,x_8)
  )
noncomputable def F.EY (a0:UInt32) (a1:UInt32) (a2:UInt32):Option (UInt32×UInt32):=
 if (a2 != 0)=true then
 (
  F.EG a0 a1 a2 (decide (a2≤a0))
 ) else (
  F.EG a0 a1 a2 false
 )
end Go.Gk
end

section
namespace Go.Gk
noncomputable def F.Ez (a0:List UInt32) (x_2:Int):Bool→Option ((Int)⊕(List UInt32))
 | x_8=>
  if x_8=true then
  (
   bJ (wI (x_2 - 1))
  ) else (
   bD (
    grd (0≤(x_2:Int)∧(x_2:Int).toNat≤a0.length) <|
    some (a0.take ((x_2:Int).toNat))
   )
  )
noncomputable def F.Fk (a0:List UInt32):Int→Option ((Int)⊕(List UInt32))
 | x_2=>
  if (decide ((0:Int)<x_2))=true then
  (
   an (aK a0 (wI (x_2 - 1):Int)) fun x_7=>
   F.Ez a0 x_2 (x_7 == 0)
  ) else (
   F.Ez a0 x_2 false
  )
noncomputable def F.BA (a0:List UInt32):Option (List UInt32):=
 loop (F.Fk a0) (a0.length:Int)
noncomputable def F.BS (a0:UInt64):Option (List UInt32):=
 an (F.BA ([a0.toUInt32,(aP a0 32).toUInt32]:List UInt32)) fun x_3=>
 some x_3
noncomputable def F.CH (a0:List UInt32) (a1:List UInt32) (x_7:Int):UInt64×Int×List UInt32→Option ((UInt64×Int×List UInt32)⊕((Int×List UInt32)⊕(List UInt32)))
 | (x_12,x_13,x_14)=>
  if (decide (x_13<(a1.length:Int)))=true then
  (
   an (aK a0 (x_7:Int)) fun x_18=>
   an (aK a1 (x_13:Int)) fun x_19=>
   an (aK x_14 (wI (x_7+x_13):Int)) fun x_20=>
   bp (x_12+((x_18.toUInt64*x_19.toUInt64)+x_20.toUInt64)) fun x_21=>
   an (aK x_14 (wI (x_7+x_13):Int)) fun x_22=>
   bp (x_14.set (wI (x_7+x_13):Int).toNat x_21.toUInt32) fun x_23=>
   bJ (aP x_21 32,wI (x_13+1),x_23)
  ) else (
   bD (
    an (aK x_14 (wI (x_7+(a1.length:Int)):Int)) fun x_24=>
    bp (x_14.set (wI (x_7+(a1.length:Int)):Int).toNat x_12.toUInt32) fun x_25=>
    bJ (wI (x_7+1),x_25)
   )
  )
noncomputable def F.CM (a0:List UInt32) (a1:List UInt32):Int×List UInt32→Option ((Int×List UInt32)⊕(List UInt32))
 | (x_7,x_8)=>
  if (decide (x_7<(a0.length:Int)))=true then
  (
   loop (F.CH a0 a1 x_7) (0,0,x_8)
  ) else (
   bD (
    an (F.BA x_8) fun x_28=>
    some x_28
   )
  )
noncomputable def F.CI (a0:List UInt32) (a1:List UInt32):Bool→Option (List UInt32)
 | x_2=>
  if x_2=true then
  (
   some []
  ) else (
   an (mkO 4 (wI ((a0.length:Int)+(a1.length:Int)):Int) (wI ((a0.length:Int)+(a1.length:Int)):Int) (0:UInt32)) fun x_4=>
   loop (F.CM a0 a1) (0,x_4)
  )
noncomputable def F.DJ (a0:List UInt32) (a1:List UInt32):Option (List UInt32):=
 if ((a0.length:Int) == 0)=true then
 (
  F.CI a0 a1 true
 ) else (
  F.CI a0 a1 ((a1.length:Int) == 0)
 )
noncomputable def F.Eb (x_13:Int) (x_14:List UInt32):UInt64→Option ((UInt64×Int×List UInt32)⊕(List UInt32))
 | x_22=>
  an (aK x_14 (x_13:Int)) fun x_24=>
  bp (x_14.set (x_13:Int).toNat x_22.toUInt32) fun x_25=>
  bJ (aP x_22 32,wI (x_13+1),x_25)
noncomputable def F.Db (x_2:List UInt32) (x_5:List UInt32):UInt64×Int×List UInt32→Option ((UInt64×Int×List UInt32)⊕(List UInt32))
 | (x_12,x_13,x_14)=>
  if (decide (x_13<(x_2.length:Int)))=true then
  (
   an (aK x_2 (x_13:Int)) fun x_18=>
   if (decide (x_13<(x_5.length:Int)))=true then
   (
    an (aK x_5 (x_13:Int)) fun x_19=>
    bp ((x_12+x_18.toUInt64)+x_19.toUInt64) fun x_20=>
    F.Eb x_13 x_14 x_20
   ) else (
    F.Eb x_13 x_14 (x_12+x_18.toUInt64)
   )
  ) else (
   bD (
    an (aK x_14 ((x_2.length:Int):Int)) fun x_26=>
    bp (x_14.set ((x_2.length:Int):Int).toNat x_12.toUInt32) fun x_27=>
    an (F.BA x_27) fun x_28=>
    some x_28
   )
  )
noncomputable def F.Ea :List UInt32×List UInt32→Option (List UInt32)
 | (x_2,x_5)=>
  an (mkO 4 (wI ((x_2.length:Int)+1):Int) (wI ((x_2.length:Int)+1):Int) (0:UInt32)) fun x_9=>
  loop (F.Db x_2 x_5) (0,0,x_9)
noncomputable def F.Di (a0:List UInt32) (a1:List UInt32):Option (List UInt32):=
 if (decide ((a0.length:Int)<(a1.length:Int)))=true then
 (
  F.Ea (a1,a0)
 ) else (
  F.Ea (a0,a1)
 )
noncomputable def F.EV (a2:List UInt32):Bool→Option (Bool×List UInt32)
 | x_5=>
  some (x_5,a2)
noncomputable def F.Bz (a0_0:Bool) (a0_1:List UInt32) (a1:Bool) (a2:List UInt32):Option (Bool×List UInt32):=
 if a1=true then
 (
  F.EV a2 (decide ((0:Int)<(a2.length:Int)))
 ) else (
  F.EV a2 false
 )
noncomputable def F.Ci (x_39:Int) (x_45:List UInt32) (x_48:Int):Int→Option ((List UInt32×Int)⊕(Bool×Bool×List UInt32))
 | x_68=>
  if (decide (x_39≤x_68))=true then
  (
   bD (
    none
   )
  ) else (
   an (F.BS (UInt64.ofInt x_39)) fun x_70=>
   an (F.DJ x_45 x_70) fun x_73=>
   an (F.BS (UInt64.ofInt x_68)) fun x_76=>
   an (F.Di x_73 x_76) fun x_79=>
   bJ (x_79,wI (x_48+1))
  )
noncomputable def F.Fx (x_52:UInt8) (x_39:Int) (x_45:List UInt32) (x_48:Int):Bool→Option ((List UInt32×Int)⊕(Bool×Bool×List UInt32))
 | x_62=>
  if x_62=true then
  (
   bp (wI (((x_52 - 65).toNat:Int)+10)) fun x_64=>
   F.Ci x_39 x_45 x_48 x_64
  ) else (
   F.Ci x_39 x_45 x_48 99
  )
noncomputable def F.EW (x_52:UInt8) (x_39:Int) (x_45:List UInt32) (x_48:Int):Bool→Option ((List UInt32×Int)⊕(Bool×Bool×List UInt32))
 | x_58=>
  if x_58=true then
  (
   bp (wI (((x_52 - 97).toNat:Int)+10)) fun x_60=>
   F.Ci x_39 x_45 x_48 x_60
  ) else (
   if (decide ((65:UInt8)≤x_52))=true then
   (
    F.Fx x_52 x_39 x_45 x_48 (decide (x_52≤90))
   ) else (
    F.Fx x_52 x_39 x_45 x_48 false
   )
  )
noncomputable def F.Fi (x_52:UInt8) (x_39:Int) (x_45:List UInt32) (x_48:Int):Bool→Option ((List UInt32×Int)⊕(Bool×Bool×List UInt32))
 | x_54=>
  if x_54=true then
  (
   bp (((x_52 - 48).toNat:Int)) fun x_56=>
   F.Ci x_39 x_45 x_48 x_56
  ) else (
   if (decide ((97:UInt8)≤x_52))=true then
   (
    F.EW x_52 x_39 x_45 x_48 (decide (x_52≤122))
   ) else (
    F.EW x_52 x_39 x_45 x_48 false
   )
  )
noncomputable def F.C7 (a0_0:Bool) (a0_1:List UInt32) (x_13:Bool) (x_38:List UInt8) (x_39:Int):List UInt32×Int→Option ((List UInt32×Int)⊕(Bool×Bool×List UInt32))
 | (x_45,x_48)=>
  if (decide (x_48<(x_38.length:Int)))=true then
  (
   an (aK x_38 (x_48:Int)) fun x_52=>
   if (decide ((48:UInt8)≤x_52))=true then
   (
    F.Fi x_52 x_39 x_45 x_48 (decide (x_52≤57))
   ) else (
    F.Fi x_52 x_39 x_45 x_48 false
   )
  ) else (
   bD (
    an (F.Bz a0_0 a0_1 x_13 x_45) fun x_83=>
    some (true,x_83.1,x_83.2)
   )
  )
noncomputable def F.Ew (a0_0:Bool) (a0_1:List UInt32) (x_13:Bool) (x_38:List UInt8) (x_39:Int):Bool→Option (Bool×Bool×List UInt32)
 | x_43=>
  if x_43=true then
  (
   none
  ) else (
   loop (F.C7 a0_0 a0_1 x_13 x_38 x_39) ([],0)
  )
noncomputable def F.Dk (a0_0:Bool) (a0_1:List UInt32) (x_13:Bool):List UInt8×Int→Option (Bool×Bool×List UInt32)
 | (x_38,x_39)=>
  if ((x_38.length:Int) == 0)=true then
  (
   F.Ew a0_0 a0_1 x_13 x_38 x_39 true
  ) else (
   if (decide (x_39<2))=true then
   (
    F.Ew a0_0 a0_1 x_13 x_38 x_39 true
   ) else (
    F.Ew a0_0 a0_1 x_13 x_38 x_39 (decide ((36:Int)<x_39))
   )
  )
noncomputable def F.Ev (x_12:List UInt8) (a0_0:Bool) (a0_1:List UInt32) (x_13:Bool):Int→Option (Bool×Bool×List UInt32)
 | x_32=>
  if (x_32 != 10)=true then
  (
   an (drO x_12 (2:Int)) fun x_34=>
   F.Dk a0_0 a0_1 x_13 (x_34,x_32)
  ) else (
   F.Dk a0_0 a0_1 x_13 (x_12,x_32)
  )
noncomputable def F.Fs (x_12:List UInt8) (a0_0:Bool) (a0_1:List UInt32) (x_13:Bool):Bool→Option (Bool×Bool×List UInt32)
 | x_27=>
  if x_27=true then
  (
   F.Ev x_12 a0_0 a0_1 x_13 8
  ) else (
   F.Ev x_12 a0_0 a0_1 x_13 10
  )
noncomputable def F.FC (x_19:UInt8) (x_12:List UInt8) (a0_0:Bool) (a0_1:List UInt32) (x_13:Bool):Bool→Option (Bool×Bool×List UInt32)
 | x_24=>
  if x_24=true then
  (
   F.Ev x_12 a0_0 a0_1 x_13 2
  ) else (
   if (x_19 == 111)=true then
   (
    F.Fs x_12 a0_0 a0_1 x_13 (x_19 == 111)
   ) else (
    F.Fs x_12 a0_0 a0_1 x_13 (x_19 == 79)
   )
  )
noncomputable def F.Fu (x_19:UInt8) (x_12:List UInt8) (a0_0:Bool) (a0_1:List UInt32) (x_13:Bool):Bool→Option (Bool×Bool×List UInt32)
 | x_21=>
  if x_21=true then
  (
   F.Ev x_12 a0_0 a0_1 x_13 16
  ) else (
   if (x_19 == 98)=true then
   (
    F.FC x_19 x_12 a0_0 a0_1 x_13 (x_19 == 98)
   ) else (
    F.FC x_19 x_12 a0_0 a0_1 x_13 (x_19 == 66)
   )
  )
noncomputable def F.Fq (x_12:List UInt8) (a0_0:Bool) (a0_1:List UInt32) (x_13:Bool):Bool→Option (Bool×Bool×List UInt32)
 | x_17=>
  if x_17=true then
  (
   an (aK x_12 (1:Int)) fun x_19=>
   if (x_19 == 120)=true then
   (
    F.Fu x_19 x_12 a0_0 a0_1 x_13 (x_19 == 120)
   ) else (
    F.Fu x_19 x_12 a0_0 a0_1 x_13 (x_19 == 88)
   )
  ) else (
   F.Dk a0_0 a0_1 x_13 (x_12,10)
  )
noncomputable def F.EI (a2:Int) (a0_0:Bool) (a0_1:List UInt32):List UInt8×Bool→Option (Bool×Bool×List UInt32)
 | (x_12,x_13)=>
  if (a2 == 0)=true then
  (
   if (decide ((2:Int)<(x_12.length:Int)))=true then
   (
    an (aK x_12 (0:Int)) fun x_16=>
    F.Fq x_12 a0_0 a0_1 x_13 (x_16 == 48)
   ) else (
    F.Fq x_12 a0_0 a0_1 x_13 false
   )
  ) else (
   F.Dk a0_0 a0_1 x_13 (x_12,a2)
  )
noncomputable def F.D9 (a1:List UInt8) (a2:Int) (a0_0:Bool) (a0_1:List UInt32):Bool→Option (Bool×Bool×List UInt32)
 | x_7=>
  if x_7=true then
  (
   an (aK a1 (0:Int)) fun x_9=>
   an (drO a1 (1:Int)) fun x_10=>
   F.EI a2 a0_0 a0_1 (x_10,x_9 == 45)
  ) else (
   F.EI a2 a0_0 a0_1 (a1,false)
  )
noncomputable def F.Fd (a0_0:Bool) (a0_1:List UInt32) (a1:List UInt8) (a2:Int):Option (Bool×Bool×List UInt32):=
 if (decide ((0:Int)<(a1.length:Int)))=true then
 (
  an (aK a1 (0:Int)) fun x_4=>
  if (x_4 == 45)=true then
  (
   F.D9 a1 a2 a0_0 a0_1 true
  ) else (
   an (aK a1 (0:Int)) fun x_6=>
   F.D9 a1 a2 a0_0 a0_1 (x_6 == 43)
  )
 ) else (
  F.D9 a1 a2 a0_0 a0_1 false
 )
noncomputable def F.BC (a0_0:Bool) (a0_1:List UInt32):Option (Int):=
 if ((a0_1.length:Int) == 0)=true then
 (
  some 0
 ) else (
  if a0_0=true then
  (
   some (-1)
  ) else (
   some 1
  )
 )
noncomputable def F.Dr (a0_0:Bool) (a0_1:List UInt32) (a1_0:Bool) (a1_1:List UInt32) (a2_0:Bool) (a2_1:List UInt32):Option (Bool×List UInt32):=
 an (F.DJ a1_1 a2_1) fun x_3=>
 an (F.Bz a0_0 a0_1 (a1_0 != a2_0) x_3) fun x_6=>
 some (x_6.1,x_6.2)
noncomputable def F.Cq (a0:List UInt32):Option (List UInt32):=
 an (apO 4 [] a0) fun x_1=>
 some x_1
noncomputable def F.Cc (a0_0:Bool) (a0_1:List UInt32) (a1_0:Bool) (a1_1:List UInt32):Option (Bool×List UInt32):=
 an (F.Cq a1_1) fun x_3=>
 an (F.Bz a0_0 a0_1 a1_0 x_3) fun x_6=>
 some (x_6.1,x_6.2)
noncomputable def F.B6 (a0:List UInt32) (a1:List UInt32):Int→Option ((Int)⊕(Int))
 | x_3=>
  if (decide ((0:Int)≤x_3))=true then
  (
   an (aK a0 (x_3:Int)) fun x_7=>
   an (aK a1 (x_3:Int)) fun x_8=>
   if (x_7 != x_8)=true then
   (
    an (aK a0 (x_3:Int)) fun x_9=>
    an (aK a1 (x_3:Int)) fun x_10=>
    if (decide (x_9<x_10))=true then
    (
     bD (
      some (-1)
     )
    ) else (
     bD (
      some 1
     )
    )
   ) else (
    bJ (wI (x_3 - 1))
   )
  ) else (
   bD (
    some 0
   )
  )
noncomputable def F.CW (a0:List UInt32) (a1:List UInt32):Option (Int):=
 if ((a0.length:Int) != (a1.length:Int))=true then
 (
  if (decide ((a0.length:Int)<(a1.length:Int)))=true then
  (
   some (-1)
  ) else (
   some 1
  )
 ) else (
  bp (wI ((a0.length:Int) - 1)) fun x_2=>
  loop (F.B6 a0 a1) x_2
 )
noncomputable def F.FB :UInt64→Option (UInt64)
 | x_8=>
  some x_8
noncomputable def F.FA (a0:List UInt32):UInt64→Option (UInt64)
 | x_3=>
  if (decide ((1:Int)<(a0.length:Int)))=true then
  (
   an (aK a0 (1:Int)) fun x_5=>
   bp (x_3 ||| (bm x_5.toUInt64 32)) fun x_6=>
   F.FB x_6
  ) else (
   F.FB x_3
  )
noncomputable def F.DD (a0:List UInt32):Option (UInt64):=
 if (decide ((0:Int)<(a0.length:Int)))=true then
 (
  an (aK a0 (0:Int)) fun x_1=>
  F.FA a0 x_1.toUInt64
 ) else (
  F.FA a0 0
 )
noncomputable def F.CP (a0:List UInt32) (a1:UInt32):UInt64×Int×List UInt32→Option ((UInt64×Int×List UInt32)⊕(List UInt32×UInt32))
 | (x_5,x_6,x_7)=>
  if (decide ((0:Int)≤x_6))=true then
  (
   an (aK a0 (x_6:Int)) fun x_11=>
   bp ((bm x_5 32) ||| x_11.toUInt64) fun x_12=>
   grd (¬a1.toUInt64=0) <|
   an (aK x_7 (x_6:Int)) fun x_14=>
   bp (x_7.set (x_6:Int).toNat ((x_12 / a1.toUInt64).toUInt32)) fun x_15=>
   grd (¬a1.toUInt64=0) <|
   bJ (x_12%a1.toUInt64,wI (x_6 - 1),x_15)
  ) else (
   bD (
    an (F.BA x_7) fun x_17=>
    some (x_17,x_5.toUInt32)
   )
  )
noncomputable def F.Fj (a0:List UInt32) (a1:UInt32):Option (List UInt32×UInt32):=
 an (mkO 4 ((a0.length:Int):Int) ((a0.length:Int):Int) (0:UInt32)) fun x_1=>
 bp (wI ((a0.length:Int) - 1)) fun x_4=>
 loop (F.CP a0 a1) (0,x_4,x_1)
noncomputable def F.CD (a0:List UInt32):Int×UInt32→Option ((Int×UInt32)⊕(Int))
 | (x_2,x_3)=>
  if (x_3 != 0)=true then
  (
   bJ (wI (x_2+1),bz x_3 1)
  ) else (
   bD (
    some (wI ((wI ((wI ((a0.length:Int) - 1))*32))+x_2))
   )
  )
noncomputable def F.C5 (a0:List UInt32):Option (Int):=
 if ((a0.length:Int) == 0)=true then
 (
  some 0
 ) else (
  an (aK a0 (wI ((a0.length:Int) - 1):Int)) fun x_1=>
  loop (F.CD a0) (0,x_1)
 )
noncomputable def F.Ek (a0:List UInt32) (a1:UInt64) (x_1:Int):Int×List UInt32→Option ((Int×List UInt32)⊕(List UInt32))
 | (x_5,x_6)=>
  if (decide (x_5<(a0.length:Int)))=true then
  (
   an (aK a0 (x_5:Int)) fun x_10=>
   bp (bm x_10.toUInt64 ((a1%32).toNat)) fun x_11=>
   an (aK x_6 (wI (x_5+x_1):Int)) fun x_12=>
   an (aK x_6 (wI (x_5+x_1):Int)) fun x_13=>
   bp (x_6.set (wI (x_5+x_1):Int).toNat (x_12 ||| x_11.toUInt32)) fun x_14=>
   an (aK x_14 (wI ((wI (x_5+x_1))+1):Int)) fun x_15=>
   an (aK x_14 (wI ((wI (x_5+x_1))+1):Int)) fun x_16=>
   bp (x_14.set (wI ((wI (x_5+x_1))+1):Int).toNat (x_15 ||| ((aP x_11 32).toUInt32))) fun x_17=>
   bJ (wI (x_5+1),x_17)
  ) else (
   bD (
    an (F.BA x_6) fun x_18=>
    some x_18
   )
  )
noncomputable def F.CZ (a0:List UInt32) (a1:UInt64):Option (List UInt32):=
 if ((a0.length:Int) == 0)=true then
 (
  some []
 ) else (
  bp (wI ((a1 / 32).toNat:Int)) fun x_1=>
  an (mkO 4 (wI ((wI ((a0.length:Int)+x_1))+1):Int) (wI ((wI ((a0.length:Int)+x_1))+1):Int) (0:UInt32)) fun x_2=>
  loop (F.Ek a0 a1 x_1) (0,x_2)
 )
noncomputable def F.D8 (a1:UInt64) (x_5:Int) (x_6:List UInt32):UInt64→Option ((Int×List UInt32)⊕(List UInt32))
 | x_14=>
  an (aK x_6 (x_5:Int)) fun x_16=>
  bp (x_6.set (x_5:Int).toNat ((aP x_14 ((a1%32).toNat)).toUInt32)) fun x_17=>
  bJ (wI (x_5+1),x_17)
noncomputable def F.Ef (a0:List UInt32) (x_1:Int) (a1:UInt64):Int×List UInt32→Option ((Int×List UInt32)⊕(List UInt32))
 | (x_5,x_6)=>
  if (decide (x_5<(x_6.length:Int)))=true then
  (
   an (aK a0 (wI (x_5+x_1):Int)) fun x_10=>
   if (decide ((wI ((wI (x_5+x_1))+1))<(a0.length:Int)))=true then
   (
    an (aK a0 (wI ((wI (x_5+x_1))+1):Int)) fun x_11=>
    bp (x_10.toUInt64 ||| (bm x_11.toUInt64 32)) fun x_12=>
    F.D8 a1 x_5 x_6 x_12
   ) else (
    F.D8 a1 x_5 x_6 x_10.toUInt64
   )
  ) else (
   bD (
    an (F.BA x_6) fun x_18=>
    some x_18
   )
  )
noncomputable def F.EO (a0:List UInt32) (a1:UInt64):Option (List UInt32):=
 bp (wI ((a1 / 32).toNat:Int)) fun x_1=>
 if (decide ((a0.length:Int)≤x_1))=true then
 (
  some []
 ) else (
  an (mkO 4 (wI ((a0.length:Int) - x_1):Int) (wI ((a0.length:Int) - x_1):Int) (0:UInt32)) fun x_2=>
  loop (F.Ef a0 x_1 a1) (0,x_2)
 )
noncomputable def F.B9 (x_42:Int) (x_44:List UInt32):UInt64×List UInt32→Option ((Int×List UInt32×List UInt32)⊕(List UInt32×List UInt32))
 | (x_101,x_102)=>
  an (aK x_44 (x_42:Int)) fun x_104=>
  bp (x_44.set (x_42:Int).toNat x_101.toUInt32) fun x_105=>
  bJ (wI (x_42 - 1),x_102,x_105)
noncomputable def F.Cf (x_26:List UInt32) (x_42:Int) (x_65:UInt64) (x_44:List UInt32):UInt64×Int×List UInt32→Option ((UInt64×Int×List UInt32)⊕((Int×List UInt32×List UInt32)⊕(List UInt32×List UInt32)))
 | (x_84,x_85,x_86)=>
  if (decide (x_85<(x_26.length:Int)))=true then
  (
   an (aK x_86 (wI (x_85+x_42):Int)) fun x_90=>
   an (aK x_26 (x_85:Int)) fun x_91=>
   bp (x_84+(x_90.toUInt64+x_91.toUInt64)) fun x_92=>
   an (aK x_86 (wI (x_85+x_42):Int)) fun x_93=>
   bp (x_86.set (wI (x_85+x_42):Int).toNat x_92.toUInt32) fun x_94=>
   bJ (aP x_92 32,wI (x_85+1),x_94)
  ) else (
   bD (
    an (aK x_86 (wI (x_42+(x_26.length:Int)):Int)) fun x_95=>
    an (aK x_86 (wI (x_42+(x_26.length:Int)):Int)) fun x_96=>
    bp (x_86.set (wI (x_42+(x_26.length:Int)):Int).toNat (x_95+x_84.toUInt32)) fun x_97=>
    F.B9 x_42 x_44 (x_65 - 1,x_97)
   )
  )
noncomputable def F.Du (x_26:List UInt32) (x_42:Int) (x_65:UInt64) (x_44:List UInt32):UInt64×UInt64×Int×List UInt32→Option ((UInt64×UInt64×Int×List UInt32)⊕((Int×List UInt32×List UInt32)⊕(List UInt32×List UInt32)))
 | (x_67,x_68,x_69,x_70)=>
  if (decide (x_69<(x_26.length:Int)))=true then
  (
   an (aK x_26 (x_69:Int)) fun x_74=>
   bp (x_67+(x_65*x_74.toUInt64)) fun x_75=>
   an (aK x_70 (wI (x_69+x_42):Int)) fun x_76=>
   bp ((x_76.toUInt64 - x_75.toUInt32.toUInt64) - x_68) fun x_77=>
   an (aK x_70 (wI (x_69+x_42):Int)) fun x_78=>
   bp (x_70.set (wI (x_69+x_42):Int).toNat x_77.toUInt32) fun x_79=>
   bJ (aP x_75 32,aP x_77 63,wI (x_69+1),x_79)
  ) else (
   bD (
    an (aK x_70 (wI (x_42+(x_26.length:Int)):Int)) fun x_80=>
    bp ((x_80.toUInt64 - x_67) - x_68) fun x_81=>
    an (aK x_70 (wI (x_42+(x_26.length:Int)):Int)) fun x_82=>
    bp (x_70.set (wI (x_42+(x_26.length:Int)):Int).toNat x_81.toUInt32) fun x_83=>
    if ((aP x_81 63) != 0)=true then
    (
     loop (F.Cf x_26 x_42 x_65 x_44) (0,0,x_83)
    ) else (
     F.B9 x_42 x_44 (x_65,x_83)
    )
   )
  )
noncomputable def F.C9 (x_43:List UInt32) (x_26:List UInt32) (x_42:Int) (x_44:List UInt32):UInt64→Option ((Int×List UInt32×List UInt32)⊕(List UInt32×List UInt32))
 | x_65=>
  loop (F.Du x_26 x_42 x_65 x_44) (0,0,0,x_43)
noncomputable def F.BU (x_40:UInt32) (x_53:UInt64) (x_54:UInt64) (x_43:List UInt32) (x_26:List UInt32) (x_42:Int) (x_44:List UInt32):Bool→Option ((UInt64×UInt64)⊕((Int×List UInt32×List UInt32)⊕(List UInt32×List UInt32)))
 | x_60=>
  if x_60=true then
  (
   if (decide ((4294967295:UInt64)<(x_54+x_40.toUInt64)))=true then
   (
    bD (
     F.C9 x_43 x_26 x_42 x_44 (x_53 - 1)
    )
   ) else (
    bJ (x_53 - 1,x_54+x_40.toUInt64)
   )
  ) else (
   bD (
    F.C9 x_43 x_26 x_42 x_44 x_53
   )
  )
noncomputable def F.CT (x_26:List UInt32) (x_41:UInt32) (x_42:Int) (x_43:List UInt32) (x_40:UInt32) (x_44:List UInt32):UInt64×UInt64→Option ((UInt64×UInt64)⊕((Int×List UInt32×List UInt32)⊕(List UInt32×List UInt32)))
 | (x_53,x_54)=>
  if (decide ((4294967295:UInt64)<x_53))=true then
  (
   F.BU x_40 x_53 x_54 x_43 x_26 x_42 x_44 true
  ) else (
   an (aK x_43 (wI ((wI (x_42+(x_26.length:Int))) - 2):Int)) fun x_59=>
   F.BU x_40 x_53 x_54 x_43 x_26 x_42 x_44 (decide (((bm x_54 32) ||| x_59.toUInt64)<(x_53*x_41.toUInt64)))
  )
noncomputable def F.Dl (x_25:UInt64) (x_26:List UInt32) (x_40:UInt32) (x_41:UInt32):Int×List UInt32×List UInt32→Option ((Int×List UInt32×List UInt32)⊕(List UInt32×List UInt32))
 | (x_42,x_43,x_44)=>
  if (decide ((0:Int)≤x_42))=true then
  (
   an (aK x_43 (wI (x_42+(x_26.length:Int)):Int)) fun x_48=>
   an (aK x_43 (wI ((wI (x_42+(x_26.length:Int))) - 1):Int)) fun x_49=>
   bp ((bm x_48.toUInt64 32) ||| x_49.toUInt64) fun x_50=>
   grd (¬x_40.toUInt64=0) <|
   grd (¬x_40.toUInt64=0) <|
   loop (F.CT x_26 x_41 x_42 x_43 x_40 x_44) (x_50 / x_40.toUInt64,x_50%x_40.toUInt64)
  ) else (
   bD (
    an (F.BA x_44) fun x_108=>
    an (F.BA x_43) fun x_111=>
    an (F.EO x_111 x_25) fun x_114=>
    some (x_108,x_114)
   )
  )
noncomputable def F.CL (a0:List UInt32) (a1:List UInt32):Option (List UInt32×List UInt32):=
 if ((a1.length:Int) == 0)=true then
 (
  some ([],[])
 ) else (
  an (F.CW a0 a1) fun x_1=>
  if (decide (x_1<0))=true then
  (
   an (F.Cq a0) fun x_2=>
   some ([],x_2)
  ) else (
   if (decide ((a0.length:Int)≤2))=true then
   (
    an (F.DD a0) fun x_5=>
    an (F.DD a1) fun x_6=>
    grd (¬x_6=0) <|
    an (F.BS (x_5 / x_6)) fun x_8=>
    grd (¬x_6=0) <|
    an (F.BS (x_5%x_6)) fun x_12=>
    some (x_8,x_12)
   ) else (
    if ((a1.length:Int) == 1)=true then
    (
     an (aK a1 (0:Int)) fun x_15=>
     an (F.Fj a0 x_15) fun x_16=>
     an (F.BA ([x_16.2]:List UInt32)) fun x_21=>
     some (x_16.1,x_21)
    ) else (
     an (F.C5 a1) fun x_24=>
     bp (UInt64.ofInt (wI ((wI (32 - (Int.tmod (wI (x_24 - 1)) 32))) - 1))) fun x_25=>
     an (F.CZ a1 x_25) fun x_26=>
     an (mkO 4 (wI ((a0.length:Int)+2):Int) (wI ((a0.length:Int)+2):Int) (0:UInt32)) fun x_29=>
     an (F.CZ a0 x_25) fun x_32=>
     bp (cpL x_29 x_32 0 x_29.length) fun x_35=>
     bp (wI ((wI ((x_35.length:Int) - (x_26.length:Int))) - 1)) fun x_36=>
     an (mkO 4 (wI (x_36+1):Int) (wI (x_36+1):Int) (0:UInt32)) fun x_37=>
     an (aK x_26 (wI ((x_26.length:Int) - 1):Int)) fun x_40=>
     an (aK x_26 (wI ((x_26.length:Int) - 2):Int)) fun x_41=>
     loop (F.Dl x_25 x_26 x_40 x_41) (x_36,x_35,x_37)
    )
   )
  )
 )
noncomputable def F.CQ (a0_0:Bool) (a0_1:List UInt32) (a1_0:Bool) (a1_1:List UInt32) (a2_0:Bool) (a2_1:List UInt32) (a3_0:Bool) (a3_1:List UInt32):Option (Bool×List UInt32×Bool×List UInt32):=
 an (F.CL a1_1 a2_1) fun x_5=>
 an (F.Bz a0_0 a0_1 (a1_0 != a2_0) x_5.1) fun x_10=>
 an (F.Bz a3_0 a3_1 a1_0 x_5.2) fun x_13=>
 some (x_10.1,x_10.2,x_13.1,x_13.2)
noncomputable def F.FG (a0_0:Bool) (a0_1:List UInt32) (a2_0:Bool) (a2_1:List UInt32) (a3_0:Bool) (a3_1:List UInt32):Option (Bool×List UInt32×Bool×List UInt32):=
 an (F.CL a3_1 a2_1) fun x_5=>
 an (F.Bz a0_0 a0_1 (a3_0 != a2_0) x_5.1) fun x_10=>
 an (F.Bz a3_0 a3_1 a3_0 x_5.2) fun x_13=>
 some (x_10.1,x_10.2,x_13.1,x_13.2)
noncomputable def F.FH (a0_0:Bool) (a0_1:List UInt32) (a2_0:Bool) (a2_1:List UInt32) (a3_0:Bool) (a3_1:List UInt32):Option (Bool×List UInt32×Bool×List UInt32):=
 an (F.CL a0_1 a2_1) fun x_5=>
 an (F.Bz a0_0 a0_1 (a0_0 != a2_0) x_5.1) fun x_10=>
 an (F.Bz a3_0 a3_1 a0_0 x_5.2) fun x_13=>
 some (x_10.1,x_10.2,x_13.1,x_13.2)
noncomputable def F.DT (a0_0:Bool) (a0_1:List UInt32) (a1:Int):UInt64→Option (Bool×List UInt32)
 | x_4=>
  an (F.BS x_4) fun x_6=>
  an (F.Bz a0_0 a0_1 (decide (a1<0)) x_6) fun x_9=>
  some (x_9.1,x_9.2)
noncomputable def F.CK (a0_0:Bool) (a0_1:List UInt32) (a1:Int):Option (Bool×List UInt32):=
 if (decide (a1<0))=true then
 (
  F.DT a0_0 a0_1 a1 (0 - (UInt64.ofInt a1))
 ) else (
  F.DT a0_0 a0_1 a1 (UInt64.ofInt a1)
 )
noncomputable def F.BE (a0:Int):Option (Bool×List UInt32):=
 an (F.CK false [] a0) fun x_4=>
 some (x_4.1,x_4.2)
noncomputable def F.DB (x_5:Int) (x_6:List UInt32):UInt64→Option ((UInt64×Int×List UInt32)⊕(List UInt32))
 | x_14=>
  an (aK x_6 (x_5:Int)) fun x_16=>
  bp (x_6.set (x_5:Int).toNat x_14.toUInt32) fun x_17=>
  bJ (aP x_14 63,wI (x_5+1),x_17)
noncomputable def F.DR (a0:List UInt32) (a1:List UInt32):UInt64×Int×List UInt32→Option ((UInt64×Int×List UInt32)⊕(List UInt32))
 | (x_4,x_5,x_6)=>
  if (decide (x_5<(a0.length:Int)))=true then
  (
   an (aK a0 (x_5:Int)) fun x_10=>
   if (decide (x_5<(a1.length:Int)))=true then
   (
    an (aK a1 (x_5:Int)) fun x_11=>
    bp ((x_10.toUInt64 - x_4) - x_11.toUInt64) fun x_12=>
    F.DB x_5 x_6 x_12
   ) else (
    F.DB x_5 x_6 (x_10.toUInt64 - x_4)
   )
  ) else (
   bD (
    an (F.BA x_6) fun x_18=>
    some x_18
   )
  )
noncomputable def F.CV (a0:List UInt32) (a1:List UInt32):Option (List UInt32):=
 an (mkO 4 ((a0.length:Int):Int) ((a0.length:Int):Int) (0:UInt32)) fun x_1=>
 loop (F.DR a0 a1) (0,0,x_1)
noncomputable def F.BO (a0:Bool) (a1:List UInt32) (a2:Bool) (a3:List UInt32):Option (Bool×List UInt32):=
 if (a0 == a2)=true then
 (
  an (F.Di a1 a3) fun x_1=>
  some (a0,x_1)
 ) else (
  an (F.CW a1 a3) fun x_4=>
  if (decide ((0:Int)≤x_4))=true then
  (
   an (F.CV a1 a3) fun x_5=>
   some (a0,x_5)
  ) else (
   an (F.CV a3 a1) fun x_8=>
   some (a2,x_8)
  )
 )
noncomputable def F.DK (a0_0:Bool) (a0_1:List UInt32) (a1_0:Bool) (a1_1:List UInt32) (a2_0:Bool) (a2_1:List UInt32):Option (Bool×List UInt32):=
 an (F.BO a1_0 a1_1 a2_0 a2_1) fun x_3=>
 an (F.Bz a0_0 a0_1 x_3.1 x_3.2) fun x_6=>
 some (x_6.1,x_6.2)
noncomputable def F.BX (a0_0:Bool) (a0_1:List UInt32) (a2_0:Bool) (a2_1:List UInt32):Option (Bool×List UInt32):=
 an (F.BO a0_0 a0_1 a2_0 a2_1) fun x_3=>
 an (F.Bz a0_0 a0_1 x_3.1 x_3.2) fun x_6=>
 some (x_6.1,x_6.2)
noncomputable def F.Eg (a0_0:Bool) (a0_1:List UInt32) (a1_0:Bool) (a1_1:List UInt32) (a2_0:Bool) (a2_1:List UInt32):Option (Bool×List UInt32):=
 an (F.BO a1_0 a1_1 (!a2_0) a2_1) fun x_3=>
 an (F.Bz a0_0 a0_1 x_3.1 x_3.2) fun x_6=>
 some (x_6.1,x_6.2)
noncomputable def F.Ck (a0_0:Bool) (a0_1:List UInt32) (a2_0:Bool) (a2_1:List UInt32):Option (Bool×List UInt32):=
 an (F.BO a0_0 a0_1 (!a2_0) a2_1) fun x_3=>
 an (F.Bz a0_0 a0_1 x_3.1 x_3.2) fun x_6=>
 some (x_6.1,x_6.2)
noncomputable def F.ES (a0_0:Bool) (a0_1:List UInt32) (a1_0:Bool) (a1_1:List UInt32):Option (Bool×List UInt32):=
 an (F.BO a1_0 a1_1 (!a0_0) a0_1) fun x_3=>
 an (F.Bz a0_0 a0_1 x_3.1 x_3.2) fun x_6=>
 some (x_6.1,x_6.2)
noncomputable def F.EH :Bool×List UInt32×Bool×List UInt32→Option (Bool×List UInt32×Bool×List UInt32)
 | (x_40,x_41,x_44,x_45)=>
  some (x_40,x_41,x_44,x_45)
noncomputable def F.DY (a0_0:Bool) (a0_1:List UInt32) (a1_0:Bool) (a1_1:List UInt32) (a2_0:Bool) (a2_1:List UInt32) (a3_0:Bool) (a3_1:List UInt32):Option (Bool×List UInt32×Bool×List UInt32):=
 an (F.Cc false [] a2_0 a2_1) fun x_8=>
 an (F.CQ a0_0 a0_1 a1_0 a1_1 a2_0 a2_1 a3_0 a3_1) fun x_11=>
 if x_11.2.2.1=true then
 (
  if x_8.1=true then
  (
   an (F.BE 1) fun x_16=>
   an (F.BX x_11.1 x_11.2.1 x_16.1 x_16.2) fun x_21=>
   an (F.Ck x_11.2.2.1 x_11.2.2.2 x_8.1 x_8.2) fun x_24=>
   F.EH (x_21.1,x_21.2,x_24.1,x_24.2)
  ) else (
   an (F.BE 1) fun x_27=>
   an (F.Ck x_11.1 x_11.2.1 x_27.1 x_27.2) fun x_32=>
   an (F.BX x_11.2.2.1 x_11.2.2.2 x_8.1 x_8.2) fun x_35=>
   F.EH (x_32.1,x_32.2,x_35.1,x_35.2)
  )
 ) else (
  F.EH (x_11.1,x_11.2.1,x_11.2.2.1,x_11.2.2.2)
 )
noncomputable def F.EN :Bool×List UInt32×Bool×List UInt32→Option (Bool×List UInt32×Bool×List UInt32)
 | (x_40,x_41,x_44,x_45)=>
  some (x_40,x_41,x_44,x_45)
noncomputable def F.Fp (a0_0:Bool) (a0_1:List UInt32) (a2_0:Bool) (a2_1:List UInt32) (a3_0:Bool) (a3_1:List UInt32):Option (Bool×List UInt32×Bool×List UInt32):=
 an (F.Cc false [] a2_0 a2_1) fun x_8=>
 an (F.FG a0_0 a0_1 a2_0 a2_1 a3_0 a3_1) fun x_11=>
 if x_11.2.2.1=true then
 (
  if x_8.1=true then
  (
   an (F.BE 1) fun x_16=>
   an (F.BX x_11.1 x_11.2.1 x_16.1 x_16.2) fun x_21=>
   an (F.Ck x_11.2.2.1 x_11.2.2.2 x_8.1 x_8.2) fun x_24=>
   F.EN (x_21.1,x_21.2,x_24.1,x_24.2)
  ) else (
   an (F.BE 1) fun x_27=>
   an (F.Ck x_11.1 x_11.2.1 x_27.1 x_27.2) fun x_32=>
   an (F.BX x_11.2.2.1 x_11.2.2.2 x_8.1 x_8.2) fun x_35=>
   F.EN (x_32.1,x_32.2,x_35.1,x_35.2)
  )
 ) else (
  F.EN (x_11.1,x_11.2.1,x_11.2.2.1,x_11.2.2.2)
 )
noncomputable def F.DX (a0_0:Bool) (a0_1:List UInt32) (a1_0:Bool) (a1_1:List UInt32) (a2_0:Bool) (a2_1:List UInt32):Option (Bool×List UInt32):=
 an (F.DY false [] a1_0 a1_1 a2_0 a2_1 a0_0 a0_1) fun x_6=>
 some (x_6.2.2.1,x_6.2.2.2)
noncomputable def F.Fg (a0_0:Bool) (a0_1:List UInt32) (a2_0:Bool) (a2_1:List UInt32):Option (Bool×List UInt32):=
 an (F.Fp false [] a2_0 a2_1 a0_0 a0_1) fun x_6=>
 some (x_6.2.2.1,x_6.2.2.2)
noncomputable def F.Dx (a0_0:Bool) (a0_1:List UInt32) (a1:List UInt8):List UInt32×Int→Option ((List UInt32×Int)⊕(Bool×List UInt32))
 | (x_3,x_6)=>
  if (decide (x_6<(a1.length:Int)))=true then
  (
   an (F.CZ x_3 8) fun x_10=>
   an (aK a1 (x_6:Int)) fun x_13=>
   an (F.BS x_13.toUInt64) fun x_14=>
   an (F.Di x_10 x_14) fun x_17=>
   bJ (x_17,wI (x_6+1))
  ) else (
   bD (
    an (F.Bz a0_0 a0_1 false x_3) fun x_20=>
    some (x_20.1,x_20.2)
   )
  )
noncomputable def F.C4 (a0_0:Bool) (a0_1:List UInt32) (a1:List UInt8):Option (Bool×List UInt32):=
 loop (F.Dx a0_0 a0_1 a1) ([],0)
noncomputable def F.B7 (a0_0:Bool) (a0_1:List UInt32) (a1_0:Bool) (a1_1:List UInt32):Option (Int):=
 if (a0_0 != a1_0)=true then
 (
  if a0_0=true then
  (
   some (-1)
  ) else (
   some 1
  )
 ) else (
  an (F.CW a0_1 a1_1) fun x_2=>
  if a0_0=true then
  (
   some (wI (0 - x_2))
  ) else (
   some x_2
  )
 )
noncomputable def F.DO (a0_1:List UInt32) (x_2:Int):Int×List UInt8→Option ((Int×List UInt8)⊕(List UInt8))
 | (x_6,x_7)=>
  if (decide (x_6<x_2))=true then
  (
   an (aK a0_1 (wI (Int.tdiv x_6 4):Int)) fun x_11=>
   an (aK x_7 (wI ((wI (x_2 - 1)) - x_6):Int)) fun x_12=>
   bp (x_7.set (wI ((wI (x_2 - 1)) - x_6):Int).toNat ((bz x_11 ((8*((UInt64.ofInt x_6)%4)).toNat)).toUInt8)) fun x_13=>
   bJ (wI (x_6+1),x_13)
  ) else (
   bD (
    some x_7
   )
  )
noncomputable def F.DQ (a0_0:Bool) (a0_1:List UInt32):Option (List UInt8):=
 an (F.C5 a0_1) fun x_1=>
 bp (wI (Int.tdiv (wI (x_1+7)) 8)) fun x_2=>
 an (mkO 1 (x_2:Int) (x_2:Int) (0:UInt8)) fun x_3=>
 loop (F.DO a0_1 x_2) (0,x_3)
noncomputable def F.B5 (a0_0:Bool) (a0_1:List UInt32) (a1_0:Bool) (a1_1:List UInt32):Option (Bool×List UInt32):=
 an (F.Cq a1_1) fun x_3=>
 an (F.Bz a0_0 a0_1 false x_3) fun x_6=>
 some (x_6.1,x_6.2)
noncomputable def F.DV (a0_0:Bool) (a0_1:List UInt32):Option (Int):=
 an (F.C5 a0_1) fun x_1=>
 some x_1
noncomputable def F.Fb (a0:List UInt32) (a1:Int):Bool→Option (UInt64)
 | x_2=>
  if x_2=true then
  (
   some 0
  ) else (
   an (aK a0 (wI (Int.tdiv a1 32):Int)) fun x_4=>
   some (((bz x_4 (((UInt64.ofInt a1)%32).toNat)).toUInt64) &&& 1)
  )
noncomputable def F.Er (a0:List UInt32) (a1:Int):Option (UInt64):=
 if (decide (a1<0))=true then
 (
  F.Fb a0 a1 true
 ) else (
  F.Fb a0 a1 (decide ((a0.length:Int)≤(wI (Int.tdiv a1 32))))
 )
noncomputable def F.Dy (a0_0:Bool) (a0_1:List UInt32) (a1:Int):Option (UInt64):=
 if (decide (a1<0))=true then
 (
  some 0
 ) else (
  if (!a0_0)=true then
  (
   an (F.Er a0_1 a1) fun x_1=>
   some x_1
  ) else (
   an (F.CV a0_1 ([1]:List UInt32)) fun x_4=>
   an (F.Er x_4 a1) fun x_7=>
   some (x_7 ^^^ 1)
  )
 )
noncomputable def F.E2 (a0_0:Bool) (a0_1:List UInt32) (a2_0:Bool) (a2_1:List UInt32):Option (Bool×List UInt32):=
 an (F.FH a0_0 a0_1 a2_0 a2_1 false []) fun x_6=>
 some (x_6.1,x_6.2.1)
noncomputable def F.Ft (x_19:Bool) (x_20:List UInt32):Bool×List UInt32→Option (Bool×List UInt32×Bool×List UInt32)
 | (x_33,x_34)=>
  some (x_19,x_20,x_33,x_34)
noncomputable def F.Fo (a1_0:Bool) (a1_1:List UInt32) (a3_0:Bool) (a3_1:List UInt32):Bool×List UInt32→Option (Bool×List UInt32×Bool×List UInt32)
 | (x_19,x_20)=>
  an (F.CK a1_0 a1_1 0) fun x_24=>
  if ((a3_1.length:Int) != 0)=true then
  (
   an (F.CK x_24.1 x_24.2 1) fun x_27=>
   F.Ft x_19 x_20 (a3_0,x_27.2)
  ) else (
   F.Ft x_19 x_20 (x_24.1,x_24.2)
  )
noncomputable def F.D5 (a0_0:Bool) (a0_1:List UInt32) (a1_0:Bool) (a1_1:List UInt32) (a3_0:Bool) (a3_1:List UInt32) (a4_0:Bool) (a4_1:List UInt32):Bool×List UInt32×Bool×List UInt32×Bool×List UInt32×Bool×List UInt32→Option ((Bool×List UInt32×Bool×List UInt32×Bool×List UInt32×Bool×List UInt32)⊕(Bool×List UInt32×Bool×List UInt32))
 | (x_65,x_66,x_69,x_70,x_73,x_74,x_77,x_78)=>
  if (decide ((0:Int)<(x_70.length:Int)))=true then
  (
   an (F.CQ false [] x_65 x_66 x_69 x_70 false []) fun x_89=>
   an (F.Dr false [] x_89.1 x_89.2.1 x_77 x_78) fun x_99=>
   an (F.Eg false [] x_73 x_74 x_99.1 x_99.2) fun x_103=>
   bJ (x_69,x_70,x_89.2.2.1,x_89.2.2.2,x_77,x_78,x_103.1,x_103.2)
  ) else (
   bD (
    if a3_0=true then
    (
     none
    ) else (
     an (F.Dr false [] a3_0 a3_1 x_73 x_74) fun x_111=>
     an (F.ES x_111.1 x_111.2 x_65 x_66) fun x_114=>
     an (F.E2 x_114.1 x_114.2 a4_0 a4_1) fun x_117=>
     an (F.Cc a1_0 a1_1 x_73 x_74) fun x_120=>
     an (F.Cc a0_0 a0_1 x_65 x_66) fun x_123=>
     some (x_123.1,x_123.2,x_120.1,x_120.2)
    )
   )
  )
noncomputable def F.ET (a0_0:Bool) (a0_1:List UInt32) (a3_0:Bool) (a3_1:List UInt32) (a4_0:Bool) (a4_1:List UInt32) (a1_0:Bool) (a1_1:List UInt32):Bool→Option (Bool×List UInt32×Bool×List UInt32)
 | x_8=>
  if x_8=true then
  (
   if ((a3_1.length:Int) == 0)=true then
   (
    an (F.B5 a0_0 a0_1 a4_0 a4_1) fun x_10=>
    F.Fo a1_0 a1_1 a3_0 a3_1 (x_10.1,x_10.2)
   ) else (
    an (F.B5 a0_0 a0_1 a3_0 a3_1) fun x_13=>
    F.Fo a1_0 a1_1 a3_0 a3_1 (x_13.1,x_13.2)
   )
  ) else (
   an (F.B5 false [] a3_0 a3_1) fun x_41=>
   an (F.B5 false [] a4_0 a4_1) fun x_47=>
   an (F.BE 1) fun x_50=>
   an (F.BE 0) fun x_55=>
   loop (F.D5 a0_0 a0_1 a1_0 a1_1 a3_0 a3_1 a4_0 a4_1) (x_41.1,x_41.2,x_47.1,x_47.2,x_50.1,x_50.2,x_55.1,x_55.2)
  )
noncomputable def F.Fl (a0_0:Bool) (a0_1:List UInt32) (a1_0:Bool) (a1_1:List UInt32) (a3_0:Bool) (a3_1:List UInt32) (a4_0:Bool) (a4_1:List UInt32):Option (Bool×List UInt32×Bool×List UInt32):=
 if ((a3_1.length:Int) == 0)=true then
 (
  F.ET a0_0 a0_1 a3_0 a3_1 a4_0 a4_1 a1_0 a1_1 true
 ) else (
  F.ET a0_0 a0_1 a3_0 a3_1 a4_0 a4_1 a1_0 a1_1 ((a4_1.length:Int) == 0)
 )
noncomputable def F.D3 (a0_0:Bool) (a0_1:List UInt32) (a1_0:Bool) (a1_1:List UInt32) (a2_0:Bool) (a2_1:List UInt32):Option (Bool×List UInt32):=
 an (F.B5 false [] a2_0 a2_1) fun x_6=>
 an (F.DX false [] a1_0 a1_1 x_6.1 x_6.2) fun x_12=>
 an (F.Fl false [] false [] x_12.1 x_12.2 x_6.1 x_6.2) fun x_21=>
 an (F.BE 1) fun x_26=>
 an (F.B7 x_21.1 x_21.2.1 x_26.1 x_26.2) fun x_31=>
 if (x_31 != 0)=true then
 (
  none
 ) else (
  an (F.DX a0_0 a0_1 x_21.2.2.1 x_21.2.2.2 x_6.1 x_6.2) fun x_32=>
  some (x_32.1,x_32.2)
 )
end Go.Gk
end

section
namespace Go.Gk
noncomputable def F.Ca (a0:List UInt32) (x_1:Nat):Bool→Option ((Nat)⊕(Nat))
 | x_8=>
  if x_8=true then
  (
   grd (0≤(wI (((a0.take x_1).length:Int) - 1):Int)∧(wI (((a0.take x_1).length:Int) - 1):Int).toNat≤a0.length) <|
   bJ ((wI (((a0.take x_1).length:Int) - 1):Int).toNat)
  ) else (
   bD (
    grd (0≤(((a0.take x_1).length:Int):Int)∧(((a0.take x_1).length:Int):Int).toNat≤(a0.take x_1).length∧(((a0.take x_1).length:Int):Int)=((a0.take x_1).length:Int)) <|
    some ((((a0.take x_1).length:Int):Int).toNat)
   )
  )
noncomputable def F.Eo (a0:List UInt32):Nat→Option ((Nat)⊕(Nat))
 | x_1=>
  if (decide ((0:Int)<((a0.take x_1).length:Int)))=true then
  (
   an (aK (a0.take x_1) (wI (((a0.take x_1).length:Int) - 1):Int)) fun x_7=>
   F.Ca a0 x_1 (x_7 == 0)
  ) else (
   F.Ca a0 x_1 false
  )
noncomputable def F.BF (a0:List UInt32):Option (Nat):=
 loop (F.Eo a0) a0.length
noncomputable def F.DP (a0:List UInt8):Int×List UInt32→Option ((Int×List UInt32)⊕(List UInt32))
 | (x_4,x_5)=>
  if (decide (x_4<(a0.length:Int)))=true then
  (
   an (aK a0 (x_4:Int)) fun x_9=>
   bp (wI ((wI ((a0.length:Int) - 1)) - x_4)) fun x_10=>
   an (aK x_5 (wI (Int.tdiv x_10 4):Int)) fun x_11=>
   grd (0≤(wI (8*(Int.tmod x_10 4)))) <|
   an (aK x_5 (wI (Int.tdiv x_10 4):Int)) fun x_13=>
   bp (x_5.set (wI (Int.tdiv x_10 4):Int).toNat (x_11 ||| (ce x_9.toUInt32 (((wI (8*(Int.tmod x_10 4)))).toNat)))) fun x_14=>
   bJ (wI (x_4+1),x_14)
  ) else (
   bD (
    an (F.BF x_5) fun x_15=>
    some (x_5.take x_15)
   )
  )
noncomputable def F.BI (a0:List UInt8):Option (List UInt32):=
 an (mkO 4 (wI (Int.tdiv (wI ((a0.length:Int)+3)) 4):Int) (wI (Int.tdiv (wI ((a0.length:Int)+3)) 4):Int) (0:UInt32)) fun x_1=>
 loop (F.DP a0) (0,x_1)
noncomputable def F.BB (a0:List UInt32):Option (Nat):=
 an (F.BF a0) fun x_1=>
 some x_1
noncomputable def F.BG (a0:List UInt32):Option (Int):=
 an (F.BB a0) fun x_1=>
 if (((a0.take x_1).length:Int) == 0)=true then
 (
  some 0
 ) else (
  an (aK (a0.take x_1) (wI (((a0.take x_1).length:Int) - 1):Int)) fun x_3=>
  an (F.DF x_3) fun x_4=>
  some (wI ((wI (32*(wI (((a0.take x_1).length:Int) - 1))))+x_4))
 )
noncomputable def F.D7 (x_2:Int):List UInt8→Option ((Int×List UInt8)⊕(List UInt8))
 | x_15=>
  bJ (wI (x_2+1),x_15)
noncomputable def F.DI (a0:List UInt8) (a1:List UInt32):Int×List UInt8→Option ((Int×List UInt8)⊕(List UInt8))
 | (x_2,x_3)=>
  if (decide (x_2<(a0.length:Int)))=true then
  (
   bp (wI ((wI ((x_3.length:Int) - 1)) - x_2)) fun x_7=>
   an (aK x_3 (x_2:Int)) fun x_8=>
   bp (x_3.set (x_2:Int).toNat 0) fun x_9=>
   if (decide ((wI (Int.tdiv x_7 4))<(a1.length:Int)))=true then
   (
    an (aK a1 (wI (Int.tdiv x_7 4):Int)) fun x_10=>
    grd (0≤(wI (8*(Int.tmod x_7 4)))) <|
    an (aK x_9 (x_2:Int)) fun x_12=>
    bp (x_9.set (x_2:Int).toNat ((bz x_10 (((wI (8*(Int.tmod x_7 4)))).toNat)).toUInt8)) fun x_13=>
    F.D7 x_2 x_13
   ) else (
    F.D7 x_2 x_9
   )
  ) else (
   bD (
    some x_3
   )
  )
noncomputable def F.Dz (a0:List UInt8) (a1:List UInt32):Option (List UInt8):=
 loop (F.DI a0 a1) (0,a0)
noncomputable def F.EF (a0:List UInt32):Option (List UInt8):=
 an (F.BG a0) fun x_1=>
 bp (wI (Int.tdiv (wI (x_1+7)) 8)) fun x_2=>
 an (mkO 1 (x_2:Int) (x_2:Int) (0:UInt8)) fun x_3=>
 an (F.BB a0) fun x_6=>
 an (F.Dz x_3 (a0.take x_6)) fun x_8=>
 some x_8
noncomputable def F.CU (a0:List UInt32) (a1:List UInt32) (x_1:Nat) (x_3:Nat):Int→Option ((Int)⊕(Int))
 | x_6=>
  if (decide ((0:Int)≤x_6))=true then
  (
   an (aK (a0.take x_1) (x_6:Int)) fun x_10=>
   an (aK (a1.take x_3) (x_6:Int)) fun x_11=>
   if (decide (x_10<x_11))=true then
   (
    bD (
     some (-1)
    )
   ) else (
    an (aK (a0.take x_1) (x_6:Int)) fun x_12=>
    an (aK (a1.take x_3) (x_6:Int)) fun x_13=>
    if (decide (x_13<x_12))=true then
    (
     bD (
      some 1
     )
    ) else (
     bJ (wI (x_6 - 1))
    )
   )
  ) else (
   bD (
    some 0
   )
  )
noncomputable def F.BK (a0:List UInt32) (a1:List UInt32):Option (Int):=
 an (F.BB a0) fun x_1=>
 an (F.BB a1) fun x_3=>
 if (decide (((a0.take x_1).length:Int)<((a1.take x_3).length:Int)))=true then
 (
  some (-1)
 ) else (
  if (decide (((a1.take x_3).length:Int)<((a0.take x_1).length:Int)))=true then
  (
   some 1
  ) else (
   bp (wI (((a0.take x_1).length:Int) - 1)) fun x_5=>
   loop (F.CU a0 a1 x_1 x_3) x_5
  )
 )
noncomputable def F.Dw (x_17:Int) (x_18:List UInt32):UInt64→Option ((UInt64×Int×List UInt32)⊕(List UInt32))
 | x_26=>
  an (aK x_18 (x_17:Int)) fun x_28=>
  bp (x_18.set (x_17:Int).toNat x_26.toUInt32) fun x_29=>
  bJ (aP x_26 32,wI (x_17+1),x_29)
noncomputable def F.Dm (x_6:List UInt32) (x_9:List UInt32):UInt64×Int×List UInt32→Option ((UInt64×Int×List UInt32)⊕(List UInt32))
 | (x_16,x_17,x_18)=>
  if (decide (x_17<(x_6.length:Int)))=true then
  (
   an (aK x_6 (x_17:Int)) fun x_22=>
   if (decide (x_17<(x_9.length:Int)))=true then
   (
    an (aK x_9 (x_17:Int)) fun x_23=>
    bp ((x_16+x_22.toUInt64)+x_23.toUInt64) fun x_24=>
    F.Dw x_17 x_18 x_24
   ) else (
    F.Dw x_17 x_18 (x_16+x_22.toUInt64)
   )
  ) else (
   bD (
    an (aK x_18 ((x_6.length:Int):Int)) fun x_30=>
    bp (x_18.set ((x_6.length:Int):Int).toNat x_16.toUInt32) fun x_31=>
    an (F.BF x_31) fun x_32=>
    some (x_31.take x_32)
   )
  )
noncomputable def F.El :List UInt32×List UInt32→Option (List UInt32)
 | (x_6,x_9)=>
  an (mkO 4 (wI ((x_6.length:Int)+1):Int) (wI ((x_6.length:Int)+1):Int) (0:UInt32)) fun x_13=>
  loop (F.Dm x_6 x_9) (0,0,x_13)
noncomputable def F.DL (a0:List UInt32) (a1:List UInt32):Option (List UInt32):=
 an (F.BB a0) fun x_1=>
 an (F.BB a1) fun x_3=>
 if (decide (((a0.take x_1).length:Int)<((a1.take x_3).length:Int)))=true then
 (
  F.El (a1.take x_3,a0.take x_1)
 ) else (
  F.El (a0.take x_1,a1.take x_3)
 )
noncomputable def F.EL (a0:UInt64):Option (List UInt32):=
 an (F.BF ([a0.toUInt32,(aP a0 32).toUInt32]:List UInt32)) fun x_3=>
 some (([a0.toUInt32,(aP a0 32).toUInt32]:List UInt32).take x_3)
noncomputable def F.FD :UInt64→Option (UInt64)
 | x_22=>
  some x_22
noncomputable def F.Cb (a1:List UInt32) (x_8:UInt64) (x_9:UInt64):Bool→Option ((UInt64×UInt64)⊕(UInt64))
 | x_16=>
  if x_16=true then
  (
   an (aK a1 (wI ((a1.length:Int) - 1):Int)) fun x_18=>
   if (decide ((4294967296:UInt64)≤(x_9+x_18.toUInt64)))=true then
   (
    bD (
     F.FD (x_8 - 1)
    )
   ) else (
    bJ (x_8 - 1,x_9+x_18.toUInt64)
   )
  ) else (
   bD (
    F.FD x_8
   )
  )
noncomputable def F.BW (a0:List UInt32) (a1:List UInt32):UInt64×UInt64→Option ((UInt64×UInt64)⊕(UInt64))
 | (x_8,x_9)=>
  if (decide ((4294967296:UInt64)≤x_8))=true then
  (
   F.Cb a1 x_8 x_9 true
  ) else (
   an (aK a1 (wI ((a1.length:Int) - 2):Int)) fun x_14=>
   an (aK a0 (wI ((a1.length:Int) - 2):Int)) fun x_15=>
   F.Cb a1 x_8 x_9 (decide (((bm x_9 32) ||| x_15.toUInt64)<(x_8*x_14.toUInt64)))
  )
noncomputable def F.E8 (a0:List UInt32) (a1:List UInt32):Option (UInt64):=
 an (aK a0 ((a1.length:Int):Int)) fun x_1=>
 an (aK a0 (wI ((a1.length:Int) - 1):Int)) fun x_2=>
 bp ((bm x_1.toUInt64 32) ||| x_2.toUInt64) fun x_3=>
 an (aK a1 (wI ((a1.length:Int) - 1):Int)) fun x_4=>
 grd (¬x_4.toUInt64=0) <|
 an (aK a1 (wI ((a1.length:Int) - 1):Int)) fun x_6=>
 grd (¬x_6.toUInt64=0) <|
 loop (F.BW a0 a1) (x_3 / x_4.toUInt64,x_3%x_6.toUInt64)
noncomputable def F.B0 (a0:List UInt32) (a1:List UInt32):Int→Option ((Int)⊕(Bool))
 | x_2=>
  if (decide ((0:Int)≤x_2))=true then
  (
   an (aK a0 (x_2:Int)) fun x_6=>
   an (aK a1 (x_2:Int)) fun x_7=>
   if (x_6 != x_7)=true then
   (
    an (aK a0 (x_2:Int)) fun x_8=>
    an (aK a1 (x_2:Int)) fun x_9=>
    bD (
     some (decide (x_8<x_9))
    )
   ) else (
    bJ (wI (x_2 - 1))
   )
  ) else (
   bD (
    some false
   )
  )
noncomputable def F.C3 (a0:List UInt32) (a1:List UInt32):Option (Bool):=
 bp (wI ((a0.length:Int) - 1)) fun x_1=>
 loop (F.B0 a0 a1) x_1
noncomputable def F.Cg (a1:List UInt32) (x_3:Nat) (x_8:Int) (x_13:UInt32):UInt64×Int×List UInt32→Option ((UInt64×Int×List UInt32)⊕((Int×List UInt32)⊕(List UInt32)))
 | (x_14,x_15,x_16)=>
  if (decide (x_15<((a1.take x_3).length:Int)))=true then
  (
   an (aK (a1.take x_3) (x_15:Int)) fun x_20=>
   an (aK x_16 (wI (x_8+x_15):Int)) fun x_21=>
   bp (x_14+((x_13.toUInt64*x_20.toUInt64)+x_21.toUInt64)) fun x_22=>
   an (aK x_16 (wI (x_8+x_15):Int)) fun x_23=>
   bp (x_16.set (wI (x_8+x_15):Int).toNat x_22.toUInt32) fun x_24=>
   bJ (aP x_22 32,wI (x_15+1),x_24)
  ) else (
   bD (
    an (aK x_16 (wI (x_8+((a1.take x_3).length:Int)):Int)) fun x_25=>
    bp (x_16.set (wI (x_8+((a1.take x_3).length:Int)):Int).toNat x_14.toUInt32) fun x_26=>
    bJ (wI (x_8+1),x_26)
   )
  )
noncomputable def F.Dd (a0:List UInt32) (x_1:Nat) (a1:List UInt32) (x_3:Nat):Int×List UInt32→Option ((Int×List UInt32)⊕(List UInt32))
 | (x_8,x_9)=>
  if (decide (x_8<((a0.take x_1).length:Int)))=true then
  (
   an (aK (a0.take x_1) (x_8:Int)) fun x_13=>
   loop (F.Cg a1 x_3 x_8 x_13) (0,0,x_9)
  ) else (
   bD (
    an (F.BF x_9) fun x_29=>
    some (x_9.take x_29)
   )
  )
noncomputable def F.Fe (a0:List UInt32) (a1:List UInt32):Option (List UInt32):=
 an (F.BB a0) fun x_1=>
 an (F.BB a1) fun x_3=>
 an (mkO 4 (wI (((a0.take x_1).length:Int)+((a1.take x_3).length:Int)):Int) (wI (((a0.take x_1).length:Int)+((a1.take x_3).length:Int)):Int) (0:UInt32)) fun x_5=>
 loop (F.Dd a0 x_1 a1 x_3) (0,x_5)
noncomputable def F.Ei (lo0:Nat) (hi0:Nat) (a2:Int) (x_2:UInt32) (x_3:Int) (x_4:List UInt32):UInt32→Option ((UInt32×Int×List UInt32)⊕(List UInt32))
 | x_10=>
  grd (0≤a2) <|
  an (aK ((x_4.drop lo0).take (hi0 - lo0)) (x_3:Int)) fun x_13=>
  bp (x_4.set (lo0+(x_3:Int).toNat) ((ce x_10 ((a2).toNat)) ||| x_2)) fun x_14=>
  grd (0≤a2) <|
  bp ((aP (bm x_10.toUInt64 ((a2).toNat)) 32).toUInt32) fun x_16=>
  bJ (x_16,wI (x_3+1),x_14)
noncomputable def F.Dh (lo0:Nat) (hi0:Nat) (a0:List UInt32) (a1:List UInt32) (a2:Int):UInt32×Int×List UInt32→Option ((UInt32×Int×List UInt32)⊕(List UInt32))
 | (x_2,x_3,x_4)=>
  if (decide (x_3<(((a0.drop lo0).take (hi0 - lo0)).length:Int)))=true then
  (
   if (decide (x_3<(a1.length:Int)))=true then
   (
    an (aK a1 (x_3:Int)) fun x_8=>
    F.Ei lo0 hi0 a2 x_2 x_3 x_4 x_8
   ) else (
    F.Ei lo0 hi0 a2 x_2 x_3 x_4 0
   )
  ) else (
   bD (
    some x_4
   )
  )
noncomputable def F.DU (a0:List UInt32) (lo0:Nat) (hi0:Nat) (a1:List UInt32) (a2:Int):Option (List UInt32):=
 loop (F.Dh lo0 hi0 a0 a1 a2) (0,0,a0)
noncomputable def F.Em (lo0:Nat) (hi0:Nat) (x_2:UInt32) (x_3:Int) (x_4:List UInt32):UInt32→Option ((UInt32×Int×List UInt32)⊕(UInt32×List UInt32))
 | x_10=>
  an (aK ((x_4.drop lo0).take (hi0 - lo0)) (x_3:Int)) fun x_12=>
  an (F.FF x_12 x_10 x_2) fun x_13=>
  an (aK ((x_4.drop lo0).take (hi0 - lo0)) (x_3:Int)) fun x_14=>
  bp (x_4.set (lo0+(x_3:Int).toNat) x_13.1) fun x_15=>
  bJ (x_13.2,wI (x_3+1),x_15)
noncomputable def F.CY (lo0:Nat) (hi0:Nat) (a0:List UInt32) (a1:List UInt32):UInt32×Int×List UInt32→Option ((UInt32×Int×List UInt32)⊕(UInt32×List UInt32))
 | (x_2,x_3,x_4)=>
  if (decide (x_3<(((a0.drop lo0).take (hi0 - lo0)).length:Int)))=true then
  (
   if (decide (x_3<(a1.length:Int)))=true then
   (
    an (aK a1 (x_3:Int)) fun x_8=>
    F.Em lo0 hi0 x_2 x_3 x_4 x_8
   ) else (
    F.Em lo0 hi0 x_2 x_3 x_4 0
   )
  ) else (
   bD (
    some (x_2,x_4)
   )
  )
noncomputable def F.CA (a0:List UInt32) (lo0:Nat) (hi0:Nat) (a1:List UInt32):Option (UInt32×List UInt32):=
 loop (F.CY lo0 hi0 a0 a1) (0,0,a0)
noncomputable def F.Ed (a1:Int) (x_2:Int) (x_3:List UInt32):UInt64→Option ((Int×List UInt32)⊕(List UInt32))
 | x_11=>
  grd (0≤a1) <|
  an (aK x_3 (x_2:Int)) fun x_14=>
  bp (x_3.set (x_2:Int).toNat ((aP x_11 ((a1).toNat)).toUInt32)) fun x_15=>
  bJ (wI (x_2+1),x_15)
noncomputable def F.CS (a0:List UInt32) (a1:Int):Int×List UInt32→Option ((Int×List UInt32)⊕(List UInt32))
 | (x_2,x_3)=>
  if (decide (x_2<(a0.length:Int)))=true then
  (
   an (aK x_3 (x_2:Int)) fun x_7=>
   if (decide ((wI (x_2+1))<(x_3.length:Int)))=true then
   (
    an (aK x_3 (wI (x_2+1):Int)) fun x_8=>
    bp (x_7.toUInt64 ||| (bm x_8.toUInt64 32)) fun x_9=>
    F.Ed a1 x_2 x_3 x_9
   ) else (
    F.Ed a1 x_2 x_3 x_7.toUInt64
   )
  ) else (
   bD (
    some x_3
   )
  )
noncomputable def F.EJ (a0:List UInt32) (a1:Int):Option (List UInt32):=
 loop (F.CS a0 a1) (0,a0)
noncomputable def F.B2 (a0:List UInt32) (a1:List UInt32):Option (List UInt32×Bool):=
 an (F.BK a0 a1) fun x_1=>
 if (decide (x_1<0))=true then
 (
  some ([],false)
 ) else (
  an (F.BB a0) fun x_2=>
  an (F.BB a1) fun x_4=>
  an (mkO 4 (((a0.take x_2).length:Int):Int) (((a0.take x_2).length:Int):Int) (0:UInt32)) fun x_6=>
  bp (cpL x_6 (a0.take x_2) 0 x_6.length) fun x_9=>
  an (F.CA x_9 0 x_9.length (a1.take x_4)) fun x_10=>
  an (F.BF x_10.2) fun x_11=>
  some (x_10.2.take x_11,true)
 )
noncomputable def F.Dc (a0:List UInt32) (a1:UInt32):UInt32×Int×List UInt32→Option ((UInt32×Int×List UInt32)⊕(List UInt32×UInt32))
 | (x_5,x_6,x_7)=>
  if (decide ((0:Int)≤x_6))=true then
  (
   an (aK a0 (x_6:Int)) fun x_11=>
   an (F.EY x_5 x_11 a1) fun x_12=>
   an (aK x_7 (x_6:Int)) fun x_13=>
   bp (x_7.set (x_6:Int).toNat x_12.1) fun x_14=>
   bJ (x_12.2,wI (x_6 - 1),x_14)
  ) else (
   bD (
    some (x_7,x_5)
   )
  )
noncomputable def F.EC (a0:List UInt32) (a1:UInt32):Option (List UInt32×UInt32):=
 an (mkO 4 ((a0.length:Int):Int) ((a0.length:Int):Int) (0:UInt32)) fun x_1=>
 bp (wI ((a0.length:Int) - 1)) fun x_4=>
 loop (F.Dc a0 a1) (0,x_4,x_1)
noncomputable def F.Cm (x_6:List UInt32) (x_18:Int) (x_19:List UInt32) (x_20:List UInt32) (x_27:UInt64):UInt64×Int×List UInt32→Option ((UInt64×Int×List UInt32)⊕((UInt64×List UInt32)⊕((Int×List UInt32×List UInt32×List UInt32)⊕(List UInt32×(List UInt32×Nat)))))
 | (x_32,x_33,x_34)=>
  if (decide (x_33<(x_6.length:Int)))=true then
  (
   an (aK x_6 (x_33:Int)) fun x_38=>
   bp (x_32+(x_27*x_38.toUInt64)) fun x_39=>
   an (aK x_34 (x_33:Int)) fun x_40=>
   bp (x_34.set (x_33:Int).toNat x_39.toUInt32) fun x_41=>
   bJ (aP x_39 32,wI (x_33+1),x_41)
  ) else (
   bD (
    an (aK x_34 ((x_6.length:Int):Int)) fun x_42=>
    bp (x_34.set ((x_6.length:Int):Int).toNat x_32.toUInt32) fun x_43=>
    an (slO x_19 (x_18:Int) (wI ((wI (x_18+(x_6.length:Int)))+1):Int)) fun x_44=>
    an (F.C3 x_44 x_43) fun x_45=>
    if (!x_45)=true then
    (
     bD (
      an (slO x_19 (x_18:Int) (wI ((wI (x_18+(x_6.length:Int)))+1):Int)) fun x_46=>
      an (F.CA x_19 ((x_18:Int).toNat) ((wI ((wI (x_18+(x_6.length:Int)))+1):Int).toNat) x_43) fun x_47=>
      an (aK x_20 (x_18:Int)) fun x_48=>
      bp (x_20.set (x_18:Int).toNat x_27.toUInt32) fun x_49=>
      bJ (wI (x_18 - 1),x_47.2,x_49,x_43)
     )
    ) else (
     bJ (x_27 - 1,x_43)
    )
   )
  )
noncomputable def F.Dt (x_6:List UInt32) (x_18:Int) (x_19:List UInt32) (x_20:List UInt32):UInt64×List UInt32→Option ((UInt64×List UInt32)⊕((Int×List UInt32×List UInt32×List UInt32)⊕(List UInt32×(List UInt32×Nat))))
 | (x_27,x_28)=>
  loop (F.Cm x_6 x_18 x_19 x_20 x_27) (0,0,x_28)
noncomputable def F.Ds (x_2:Int) (x_6:List UInt32):Int×List UInt32×List UInt32×List UInt32→Option ((Int×List UInt32×List UInt32×List UInt32)⊕(List UInt32×(List UInt32×Nat)))
 | (x_18,x_19,x_20,x_21)=>
  if (decide ((0:Int)≤x_18))=true then
  (
   an (slO x_19 (x_18:Int) (wI ((wI (x_18+(x_6.length:Int)))+1):Int)) fun x_25=>
   an (F.E8 x_25 x_6) fun x_26=>
   loop (F.Dt x_6 x_18 x_19 x_20) (x_26,x_21)
  ) else (
   bD (
    an (F.EJ x_19 x_2) fun x_54=>
    grd (0≤((x_6.length:Int):Int)∧((x_6.length:Int):Int).toNat≤x_54.length) <|
    some (x_20,(x_54,((x_6.length:Int):Int).toNat))
   )
  )
noncomputable def F.EK (a0:List UInt32) (a1:List UInt32):Option (List UInt32×(List UInt32×Nat)):=
 an (aK a1 (wI ((a1.length:Int) - 1):Int)) fun x_1=>
 an (F.EE x_1) fun x_2=>
 an (mkO 4 ((a1.length:Int):Int) ((a1.length:Int):Int) (0:UInt32)) fun x_3=>
 an (F.DU x_3 0 x_3.length a1 x_2) fun x_6=>
 an (mkO 4 (wI ((a0.length:Int)+1):Int) (wI ((a0.length:Int)+1):Int) (0:UInt32)) fun x_7=>
 an (F.DU x_7 0 x_7.length a0 x_2) fun x_10=>
 an (mkO 4 (wI ((wI ((a0.length:Int) - (x_6.length:Int)))+1):Int) (wI ((wI ((a0.length:Int) - (x_6.length:Int)))+1):Int) (0:UInt32)) fun x_11=>
 an (mkO 4 (wI ((x_6.length:Int)+1):Int) (wI ((x_6.length:Int)+1):Int) (0:UInt32)) fun x_14=>
 bp (wI ((x_11.length:Int) - 1)) fun x_17=>
 loop (F.Ds x_2 x_6) (x_17,x_10,x_11,x_14)
noncomputable def F.De (a0:List UInt32) (a1:List UInt32):Option (List UInt32×List UInt32×Int):=
 an (F.BB a0) fun x_1=>
 an (F.BB a1) fun x_3=>
 if (((a1.take x_3).length:Int) == 0)=true then
 (
  some ([],[],60)
 ) else (
  an (F.BK a0 a1) fun x_5=>
  if (decide (x_5<0))=true then
  (
   an (apO 4 [] (a0.take x_1)) fun x_6=>
   some ([],x_6,0)
  ) else (
   if (((a1.take x_3).length:Int) == 1)=true then
   (
    an (aK (a1.take x_3) (0:Int)) fun x_9=>
    an (F.EC (a0.take x_1) x_9) fun x_10=>
    an (F.BF x_10.1) fun x_13=>
    an (F.EL x_10.2.toUInt64) fun x_15=>
    some (x_10.1.take x_13,x_15,0)
   ) else (
    an (F.EK (a0.take x_1) (a1.take x_3)) fun x_18=>
    an (F.BF x_18.1) fun x_24=>
    an (F.BF (x_18.2.1.take x_18.2.2)) fun x_26=>
    some (x_18.1.take x_24,(x_18.2.1.take x_18.2.2).take x_26,0)
   )
  )
 )
noncomputable def F.CC (a0:List UInt32) (a1:Int):Option (Bool):=
 if (decide ((0:Int)≤a1))=true then
 (
  if (decide ((wI (Int.tdiv a1 32))<(a0.length:Int)))=true then
  (
   an (aK a0 (wI (Int.tdiv a1 32):Int)) fun x_3=>
   grd (0≤(Int.tmod a1 32)) <|
   some (((bz x_3 (((Int.tmod a1 32)).toNat)) &&& 1) == 1)
  ) else (
   some false
  )
 ) else (
  some false
 )
noncomputable def F.Co (a0:List UInt32) (a1:Int):Option (List UInt32):=
 an (F.BB a0) fun x_1=>
 if (decide (((a0.take x_1).length:Int)≤(wI (Int.tdiv (max a1 0) 32))))=true then
 (
  some []
 ) else (
  an (drO (a0.take x_1) (wI (Int.tdiv (max a1 0) 32):Int)) fun x_3=>
  an (apO 4 [] x_3) fun x_4=>
  an (F.EJ x_4 (Int.tmod (max a1 0) 32)) fun x_7=>
  an (F.BF x_7) fun x_8=>
  some (x_7.take x_8)
 )
noncomputable def F.Ee (a0:List UInt32) (a1:Int):Bool→Option (List UInt8×Bool)
 | x_4=>
  if x_4=true then
  (
   some ([],false)
  ) else (
   an (mkO 1 (a1:Int) (a1:Int) (0:UInt8)) fun x_6=>
   an (F.BB a0) fun x_9=>
   an (F.Dz x_6 (a0.take x_9)) fun x_11=>
   some (x_11,true)
  )
noncomputable def F.Et (a0:List UInt32) (a1:Int):Option (List UInt8×Bool):=
 if (decide (a1<0))=true then
 (
  F.Ee a0 a1 true
 ) else (
  if (decide ((16384:Int)<a1))=true then
  (
   F.Ee a0 a1 true
  ) else (
   an (F.BG a0) fun x_3=>
   F.Ee a0 a1 (decide (a1<(wI (Int.tdiv (wI (x_3+7)) 8))))
  )
 )
end Go.Gk
end

section
namespace Go.Gk
noncomputable def F.Bx (a0:List UInt8):Option (Bool×List UInt32):=
 an (F.Fd false [] a0 16) fun x_4=>
 some (x_4.2.1,x_4.2.2)
noncomputable def F.BT (a0_0_0:Bool) (a0_0_1:List UInt32) (a0_1_0:Bool) (a0_1_1:List UInt32) (a0_2_0:Bool) (a0_2_1:List UInt32) (a0_3_0:Bool) (a0_3_1:List UInt32) (a0_4_0:Bool) (a0_4_1:List UInt32) (a0_5:Int) (a1_0:Bool) (a1_1:List UInt32):Option (Bool×List UInt32):=
 an (F.Fg a1_0 a1_1 a0_0_0 a0_0_1) fun x_3=>
 some (x_3.1,x_3.2)
noncomputable def F.Bv (a0_0_0:Bool) (a0_0_1:List UInt32) (a0_1_0:Bool) (a0_1_1:List UInt32) (a0_2_0:Bool) (a0_2_1:List UInt32) (a0_3_0:Bool) (a0_3_1:List UInt32) (a0_4_0:Bool) (a0_4_1:List UInt32) (a0_5:Int) (a1_0:Bool) (a1_1:List UInt32) (a2_0:Bool) (a2_1:List UInt32):Option (Bool×List UInt32):=
 an (F.Dr false [] a1_0 a1_1 a2_0 a2_1) fun x_4=>
 an (F.BT a0_0_0 a0_0_1 a0_1_0 a0_1_1 a0_2_0 a0_2_1 a0_3_0 a0_3_1 a0_4_0 a0_4_1 a0_5 x_4.1 x_4.2) fun x_7=>
 some (x_7.1,x_7.2)
noncomputable def F.BH (a0_0_0:Bool) (a0_0_1:List UInt32) (a0_1_0:Bool) (a0_1_1:List UInt32) (a0_2_0:Bool) (a0_2_1:List UInt32) (a0_3_0:Bool) (a0_3_1:List UInt32) (a0_4_0:Bool) (a0_4_1:List UInt32) (a0_5:Int) (a1:Int) (a2_0:Bool) (a2_1:List UInt32):Option (Bool×List UInt32):=
 an (F.BE a1) fun x_1=>
 an (F.Bv a0_0_0 a0_0_1 a0_1_0 a0_1_1 a0_2_0 a0_2_1 a0_3_0 a0_3_1 a0_4_0 a0_4_1 a0_5 x_1.1 x_1.2 a2_0 a2_1) fun x_6=>
 some (x_6.1,x_6.2)
noncomputable def F.BD (a0_0_0:Bool) (a0_0_1:List UInt32) (a0_1_0:Bool) (a0_1_1:List UInt32) (a0_2_0:Bool) (a0_2_1:List UInt32) (a0_3_0:Bool) (a0_3_1:List UInt32) (a0_4_0:Bool) (a0_4_1:List UInt32) (a0_5:Int) (a1_0:Bool) (a1_1:List UInt32) (a2_0:Bool) (a2_1:List UInt32):Option (Bool×List UInt32):=
 an (F.Eg false [] a1_0 a1_1 a2_0 a2_1) fun x_4=>
 an (F.BT a0_0_0 a0_0_1 a0_1_0 a0_1_1 a0_2_0 a0_2_1 a0_3_0 a0_3_1 a0_4_0 a0_4_1 a0_5 x_4.1 x_4.2) fun x_7=>
 some (x_7.1,x_7.2)
noncomputable def F.BQ :Option (Bool×List UInt32×Bool×List UInt32×Bool×List UInt32):=
 some (false,[],false,[],false,[])
noncomputable def F.Dp (a0_0_0:Bool) (a0_0_1:List UInt32) (a0_1_0:Bool) (a0_1_1:List UInt32) (a0_2_0:Bool) (a0_2_1:List UInt32) (a0_3_0:Bool) (a0_3_1:List UInt32) (a0_4_0:Bool) (a0_4_1:List UInt32) (a0_5:Int) (a1_0:Bool) (a1_1:List UInt32) (a2_0:Bool) (a2_1:List UInt32):Option (Bool):=
 an (F.Bv a0_0_0 a0_0_1 a0_1_0 a0_1_1 a0_2_0 a0_2_1 a0_3_0 a0_3_1 a0_4_0 a0_4_1 a0_5 a1_0 a1_1 a1_0 a1_1) fun x_1=>
 an (F.Bv a0_0_0 a0_0_1 a0_1_0 a0_1_1 a0_2_0 a0_2_1 a0_3_0 a0_3_1 a0_4_0 a0_4_1 a0_5 a1_0 a1_1 x_1.1 x_1.2) fun x_6=>
 an (F.BH a0_0_0 a0_0_1 a0_1_0 a0_1_1 a0_2_0 a0_2_1 a0_3_0 a0_3_1 a0_4_0 a0_4_1 a0_5 3 a1_0 a1_1) fun x_11=>
 an (F.BD a0_0_0 a0_0_1 a0_1_0 a0_1_1 a0_2_0 a0_2_1 a0_3_0 a0_3_1 a0_4_0 a0_4_1 a0_5 x_6.1 x_6.2 x_11.1 x_11.2) fun x_16=>
 an (F.BX x_16.1 x_16.2 a0_1_0 a0_1_1) fun x_21=>
 an (F.BT a0_0_0 a0_0_1 a0_1_0 a0_1_1 a0_2_0 a0_2_1 a0_3_0 a0_3_1 a0_4_0 a0_4_1 a0_5 x_21.1 x_21.2) fun x_24=>
 an (F.B7 a1_0 a1_1 a0_0_0 a0_0_1) fun x_27=>
 if (decide (x_27<0))=true then
 (
  an (F.B7 a2_0 a2_1 a0_0_0 a0_0_1) fun x_29=>
  if (decide (x_29<0))=true then
  (
   an (F.Bv a0_0_0 a0_0_1 a0_1_0 a0_1_1 a0_2_0 a0_2_1 a0_3_0 a0_3_1 a0_4_0 a0_4_1 a0_5 a2_0 a2_1 a2_0 a2_1) fun x_31=>
   an (F.B7 x_31.1 x_31.2 x_24.1 x_24.2) fun x_36=>
   some (x_36 == 0)
  ) else (
   some false
  )
 ) else (
  some false
 )
noncomputable def F.BM (a0_0:Bool) (a0_1:List UInt32):Option (List UInt32):=
 an (F.DQ a0_0 a0_1) fun x_1=>
 an (F.BI x_1) fun x_4=>
 some x_4
noncomputable def F.CN (a0:List UInt32):Option (Bool×List UInt32):=
 an (F.EF a0) fun x_3=>
 an (F.C4 false [] x_3) fun x_7=>
 some (x_7.1,x_7.2)
noncomputable def F.DZ (a0_0_0:Bool) (a0_0_1:List UInt32) (a0_1_0:Bool) (a0_1_1:List UInt32) (a0_2_0:Bool) (a0_2_1:List UInt32) (a0_3_0:Bool) (a0_3_1:List UInt32) (a0_4_0:Bool) (a0_4_1:List UInt32) (a0_5:Int) (a1_0:List UInt32) (a1_1:List UInt32) (a1_2:Bool):Option (Bool×List UInt32×Bool×List UInt32×Bool×List UInt32×Bool):=
 an (F.CN a1_0) fun x_5=>
 an (F.CN a1_1) fun x_10=>
 if a1_2=true then
 (
  an (F.BQ ) fun x_15=>
  an (F.BC x_5.1 x_5.2) fun x_28=>
  if (x_28 == 0)=true then
  (
   an (F.BC x_10.1 x_10.2) fun x_30=>
   some (x_15.1,x_15.2.1,x_15.2.2.1,x_15.2.2.2.1,x_15.2.2.2.2.1,x_15.2.2.2.2.2,x_30 == 0)
  ) else (
   some (x_15.1,x_15.2.1,x_15.2.2.1,x_15.2.2.2.1,x_15.2.2.2.2.1,x_15.2.2.2.2.2,false)
  )
 ) else (
  an (F.BE 1) fun x_31=>
  an (F.Dp a0_0_0 a0_0_1 a0_1_0 a0_1_1 a0_2_0 a0_2_1 a0_3_0 a0_3_1 a0_4_0 a0_4_1 a0_5 x_5.1 x_5.2 x_10.1 x_10.2) fun x_36=>
  some (x_5.1,x_5.2,x_10.1,x_10.2,x_31.1,x_31.2,x_36)
 )
noncomputable def F.B8 (a0:List UInt32):Option (Bool×List UInt32×Bool):=
 an (F.CN a0) fun x_1=>
 an (F.BG a0) fun x_6=>
 some (x_1.1,x_1.2,decide (x_6≤1024))
noncomputable def F.E9 :Option (Bool×List UInt32×Bool×List UInt32×Bool×List UInt32×Bool×List UInt32×Bool×List UInt32×Int):=
 an (F.Bx [102,102,102,102,102,102,102,102,48,48,48,48,48,48,48,49,48,48,48,48,48,48,48,48,48,48,48,48,48,48,48,48,48,48,48,48,48,48,48,48,102,102,102,102,102,102,102,102,102,102,102,102,102,102,102,102,102,102,102,102,102,102,102,102]) fun x_1=>
 an (F.Bx [53,97,99,54,51,53,100,56,97,97,51,97,57,51,101,55,98,51,101,98,98,100,53,53,55,54,57,56,56,54,98,99,54,53,49,100,48,54,98,48,99,99,53,51,98,48,102,54,51,98,99,101,51,99,51,101,50,55,100,50,54,48,52,98]) fun x_6=>
 an (F.Bx [102,102,102,102,102,102,102,102,48,48,48,48,48,48,48,48,102,102,102,102,102,102,102,102,102,102,102,102,102,102,102,102,98,99,101,54,102,97,97,100,97,55,49,55,57,101,56,52,102,51,98,57,99,97,99,50,102,99,54,51,50,53,53,49]) fun x_11=>
 an (F.Bx [54,98,49,55,100,49,102,50,101,49,50,99,52,50,52,55,102,56,98,99,101,54,101,53,54,51,97,52,52,48,102,50,55,55,48,51,55,100,56,49,50,100,101,98,51,51,97,48,102,52,97,49,51,57,52,53,100,56,57,56,99,50,57,54]) fun x_16=>
 an (F.Bx [52,102,101,51,52,50,101,50,102,101,49,97,55,102,57,98,56,101,101,55,101,98,52,97,55,99,48,102,57,101,49,54,50,98,99,101,51,51,53,55,54,98,51,49,53,101,99,101,99,98,98,54,52,48,54,56,51,55,98,102,53,49,102,53]) fun x_21=>
 some (x_1.1,x_1.2,x_6.1,x_6.2,x_11.1,x_11.2,x_16.1,x_16.2,x_21.1,x_21.2,32)
noncomputable def F.Fc :Option (Bool×List UInt32×Bool×List UInt32×Bool×List UInt32×Bool×List UInt32×Bool×List UInt32×Int):=
 an (F.Bx [102,102,102,102,102,102,102,102,102,102,102,102,102,102,102,102,102,102,102,102,102,102,102,102,102,102,102,102,102,102,102,102,102,102,102,102,102,102,102,102,102,102,102,102,102,102,102,102,102,102,102,102,102,102,102,102,102,102,102,102,102,102,102,101,102,102,102,102,102,102,102,102,48,48,48,48,48,48,48,48,48,48,48,48,48,48,48,48,102,102,102,102,102,102,102,102]) fun x_1=>
 an (F.Bx [98,51,51,49,50,102,97,55,101,50,51,101,101,55,101,52,57,56,56,101,48,53,54,98,101,51,102,56,50,100,49,57,49,56,49,100,57,99,54,101,102,101,56,49,52,49,49,50,48,51,49,52,48,56,56,102,53,48,49,51,56,55,53,97,99,54,53,54,51,57,56,100,56,97,50,101,100,49,57,100,50,97,56,53,99,56,101,100,100,51,101,99,50,97,101,102]) fun x_6=>
 an (F.Bx [102,102,102,102,102,102,102,102,102,102,102,102,102,102,102,102,102,102,102,102,102,102,102,102,102,102,102,102,102,102,102,102,102,102,102,102,102,102,102,102,102,102,102,102,102,102,102,102,99,55,54,51,52,100,56,49,102,52,51,55,50,100,100,102,53,56,49,97,48,100,98,50,52,56,98,48,97,55,55,97,101,99,101,99,49,57,54,97,99,99,99,53,50,57,55,51]) fun x_11=>
 an (F.Bx [97,97,56,55,99,97,50,50,98,101,56,98,48,53,51,55,56,101,98,49,99,55,49,101,102,51,50,48,97,100,55,52,54,101,49,100,51,98,54,50,56,98,97,55,57,98,57,56,53,57,102,55,52,49,101,48,56,50,53,52,50,97,51,56,53,53,48,50,102,50,53,100,98,102,53,53,50,57,54,99,51,97,53,52,53,101,51,56,55,50,55,54,48,97,98,55]) fun x_16=>
 an (F.Bx [51,54,49,55,100,101,52,97,57,54,50,54,50,99,54,102,53,100,57,101,57,56,98,102,57,50,57,50,100,99,50,57,102,56,102,52,49,100,98,100,50,56,57,97,49,52,55,99,101,57,100,97,51,49,49,51,98,53,102,48,98,56,99,48,48,97,54,48,98,49,99,101,49,100,55,101,56,49,57,100,55,97,52,51,49,100,55,99,57,48,101,97,48,101,53,102]) fun x_21=>
 some (x_1.1,x_1.2,x_6.1,x_6.2,x_11.1,x_11.2,x_16.1,x_16.2,x_21.1,x_21.2,48)
noncomputable def F.BZ (a0:Int):Option (Option (Bool×List UInt32×Bool×List UInt32×Bool×List UInt32×Bool×List UInt32×Bool×List UInt32×Int)):=
 if (a0 == 1)=true then
 (
  an (F.E9 ) fun x_1=>
  some (some (x_1.1,x_1.2.1,x_1.2.2.1,x_1.2.2.2.1,x_1.2.2.2.2.1,x_1.2.2.2.2.2.1,x_1.2.2.2.2.2.2.1,x_1.2.2.2.2.2.2.2.1,x_1.2.2.2.2.2.2.2.2.1,x_1.2.2.2.2.2.2.2.2.2.1,x_1.2.2.2.2.2.2.2.2.2.2))
 ) else (
  if (a0 == 2)=true then
  (
   an (F.Fc ) fun x_7=>
   some (some (x_7.1,x_7.2.1,x_7.2.2.1,x_7.2.2.2.1,x_7.2.2.2.2.1,x_7.2.2.2.2.2.1,x_7.2.2.2.2.2.2.1,x_7.2.2.2.2.2.2.2.1,x_7.2.2.2.2.2.2.2.2.1,x_7.2.2.2.2.2.2.2.2.2.1,x_7.2.2.2.2.2.2.2.2.2.2))
  ) else (
   some none
  )
 )
noncomputable def F.Do (a1:List UInt8) (a2:List UInt8):Bool→Option (List UInt32×List UInt32×Bool×Int)
 | x_30=>
  if x_30=true then
  (
   some ([],[],false,93)
  ) else (
   an (F.BI a1) fun x_32=>
   an (F.BI a2) fun x_35=>
   some (x_32,x_35,false,0)
  )
noncomputable def F.E6 (a0:Int) (a1:List UInt8) (a2:List UInt8):Option (List UInt32×List UInt32×Bool×Int):=
 an (F.BZ a0) fun x_3=>
 fQ x_3 (
  some ([],[],false,93)
 ) (fun x_6=>
  if ((a1.length:Int) != x_6.2.2.2.2.2.2.2.2.2.2)=true then
  (
   F.Do a1 a2 true
  ) else (
   if ((a2.length:Int) != x_6.2.2.2.2.2.2.2.2.2.2)=true then
   (
    F.Do a1 a2 true
   ) else (
    an (F.C4 false [] a1) fun x_16=>
    an (F.C4 false [] a2) fun x_22=>
    an (F.Dp x_6.1 x_6.2.1 x_6.2.2.1 x_6.2.2.2.1 x_6.2.2.2.2.1 x_6.2.2.2.2.2.1 x_6.2.2.2.2.2.2.1 x_6.2.2.2.2.2.2.2.1 x_6.2.2.2.2.2.2.2.2.1 x_6.2.2.2.2.2.2.2.2.2.1 x_6.2.2.2.2.2.2.2.2.2.2 x_16.1 x_16.2 x_22.1 x_22.2) fun x_25=>
    F.Do a1 a2 (!x_25)
   )
  )
 )
noncomputable def F.Ct (a0:Int):Option (List UInt32):=
 an (F.BZ a0) fun x_1=>
 fQ x_1 (
  some []
 ) (fun x_4=>
  an (F.BM x_4.2.2.2.2.1 x_4.2.2.2.2.2.1) fun x_9=>
  some x_9
 )
noncomputable def F.CJ (a0:Int) (a1_0:List UInt32) (a1_1:List UInt32) (a1_2:Bool):Option (Option (Bool×List UInt32×Bool×List UInt32×Bool×List UInt32×Bool×List UInt32×Bool×List UInt32×Int×Bool×List UInt32×Bool×List UInt32×Bool×List UInt32)×Bool):=
 an (F.BZ a0) fun x_5=>
 fQ x_5 (
  some (none,false)
 ) (fun x_8=>
  an (F.DZ x_8.1 x_8.2.1 x_8.2.2.1 x_8.2.2.2.1 x_8.2.2.2.2.1 x_8.2.2.2.2.2.1 x_8.2.2.2.2.2.2.1 x_8.2.2.2.2.2.2.2.1 x_8.2.2.2.2.2.2.2.2.1 x_8.2.2.2.2.2.2.2.2.2.1 x_8.2.2.2.2.2.2.2.2.2.2 a1_0 a1_1 a1_2) fun x_13=>
  some (some (x_8.1,x_8.2.1,x_8.2.2.1,x_8.2.2.2.1,x_8.2.2.2.2.1,x_8.2.2.2.2.2.1,x_8.2.2.2.2.2.2.1,x_8.2.2.2.2.2.2.2.1,x_8.2.2.2.2.2.2.2.2.1,x_8.2.2.2.2.2.2.2.2.2.1,x_8.2.2.2.2.2.2.2.2.2.2,x_13.1,x_13.2.1,x_13.2.2.1,x_13.2.2.2.1,x_13.2.2.2.2.1,x_13.2.2.2.2.2.1),x_13.2.2.2.2.2.2)
 )
noncomputable def F.Ch (a0:Int):Option (Int):=
 an (F.BZ a0) fun x_1=>
 fQ x_1 (
  some 0
 ) (fun x_4=>
  some x_4.2.2.2.2.2.2.2.2.2.2
 )
noncomputable def F.Eu (a0:Int):Option (List UInt32×List UInt32×Bool):=
 an (F.BZ a0) fun x_3=>
 fQ x_3 (
  some ([],[],false)
 ) (fun x_6=>
  an (F.BM x_6.2.2.2.2.2.2.1 x_6.2.2.2.2.2.2.2.1) fun x_11=>
  an (F.BM x_6.2.2.2.2.2.2.2.2.1 x_6.2.2.2.2.2.2.2.2.2.1) fun x_15=>
  some (x_11,x_15,false)
 )
noncomputable def F.E3 (a0:Int) (a1_0:List UInt32) (a1_1:List UInt32) (a1_2:Bool):Option (Bool):=
 an (F.CJ a0 a1_0 a1_1 a1_2) fun x_3=>
 fQ x_3.1 (
  some x_3.2
 ) (fun x_6=>
  some x_3.2
 )
noncomputable def F.Cr (a0_0:Bool) (a0_1:List UInt32) (a1:List UInt8):Option (List UInt8):=
 an (F.DQ a0_0 a0_1) fun x_2=>
 bp (List.replicate a1.length 0) fun x_5=>
 an (drO x_5 (wI ((x_5.length:Int) - (x_2.length:Int)):Int)) fun x_6=>
 bp (cpL x_5 x_2 ((wI ((x_5.length:Int) - (x_2.length:Int)):Int).toNat) x_5.length) fun x_7=>
 some x_7
noncomputable def F.Dg (x_6:Bool×List UInt32×Bool×List UInt32×Bool×List UInt32×Bool×List UInt32×Bool×List UInt32×Int×Bool×List UInt32×Bool×List UInt32×Bool×List UInt32):Bool→Option (List UInt8×List UInt8×Int)
 | x_20=>
  if x_20=true then
  (
   some ([],[],93)
  ) else (
   an (mkO 1 (x_6.2.2.2.2.2.2.2.2.2.2.1:Int) (x_6.2.2.2.2.2.2.2.2.2.2.1:Int) (0:UInt8)) fun x_22=>
   an (F.Cr x_6.2.2.2.2.2.2.2.2.2.2.2.1 x_6.2.2.2.2.2.2.2.2.2.2.2.2.1 x_22) fun x_25=>
   an (mkO 1 (x_6.2.2.2.2.2.2.2.2.2.2.1:Int) (x_6.2.2.2.2.2.2.2.2.2.2.1:Int) (0:UInt8)) fun x_28=>
   an (F.Cr x_6.2.2.2.2.2.2.2.2.2.2.2.2.2.1 x_6.2.2.2.2.2.2.2.2.2.2.2.2.2.2.1 x_28) fun x_31=>
   some (x_25,x_31,0)
  )
noncomputable def F.EB (a0:Int) (a1_0:List UInt32) (a1_1:List UInt32) (a1_2:Bool):Option (List UInt8×List UInt8×Int):=
 an (F.CJ a0 a1_0 a1_1 a1_2) fun x_3=>
 fQ x_3.1 (
  if (!x_3.2)=true then
  (
   some ([],[],93)
  ) else (
   none
  )
 ) (fun x_6=>
  if (!x_3.2)=true then
  (
   F.Dg x_6 true
  ) else (
   an (F.BC x_6.2.2.2.2.2.2.2.2.2.2.2.2.2.2.2.1 x_6.2.2.2.2.2.2.2.2.2.2.2.2.2.2.2.2) fun x_17=>
   F.Dg x_6 (x_17 == 0)
  )
 )
noncomputable def F.CO (a0_0_0:Bool) (a0_0_1:List UInt32) (a0_1_0:Bool) (a0_1_1:List UInt32) (a0_2_0:Bool) (a0_2_1:List UInt32) (a0_3_0:Bool) (a0_3_1:List UInt32) (a0_4_0:Bool) (a0_4_1:List UInt32) (a0_5:Int) (a1_0_0:Bool) (a1_0_1:List UInt32) (a1_1_0:Bool) (a1_1_1:List UInt32) (a1_2_0:Bool) (a1_2_1:List UInt32):Option (Bool×List UInt32×Bool×List UInt32×Bool×List UInt32):=
 an (F.BC a1_2_0 a1_2_1) fun x_5=>
 if (x_5 == 0)=true then
 (
  some (a1_0_0,a1_0_1,a1_1_0,a1_1_1,a1_2_0,a1_2_1)
 ) else (
  an (F.Bv a0_0_0 a0_0_1 a0_1_0 a0_1_1 a0_2_0 a0_2_1 a0_3_0 a0_3_1 a0_4_0 a0_4_1 a0_5 a1_2_0 a1_2_1 a1_2_0 a1_2_1) fun x_6=>
  an (F.Bv a0_0_0 a0_0_1 a0_1_0 a0_1_1 a0_2_0 a0_2_1 a0_3_0 a0_3_1 a0_4_0 a0_4_1 a0_5 a1_1_0 a1_1_1 a1_1_0 a1_1_1) fun x_11=>
  an (F.Bv a0_0_0 a0_0_1 a0_1_0 a0_1_1 a0_2_0 a0_2_1 a0_3_0 a0_3_1 a0_4_0 a0_4_1 a0_5 a1_0_0 a1_0_1 x_11.1 x_11.2) fun x_16=>
  an (F.BH a0_0_0 a0_0_1 a0_1_0 a0_1_1 a0_2_0 a0_2_1 a0_3_0 a0_3_1 a0_4_0 a0_4_1 a0_5 4 x_16.1 x_16.2) fun x_21=>
  an (F.BD a0_0_0 a0_0_1 a0_1_0 a0_1_1 a0_2_0 a0_2_1 a0_3_0 a0_3_1 a0_4_0 a0_4_1 a0_5 a1_0_0 a1_0_1 x_6.1 x_6.2) fun x_26=>
  an (F.DK false [] a1_0_0 a1_0_1 x_6.1 x_6.2) fun x_34=>
  an (F.BT a0_0_0 a0_0_1 a0_1_0 a0_1_1 a0_2_0 a0_2_1 a0_3_0 a0_3_1 a0_4_0 a0_4_1 a0_5 x_34.1 x_34.2) fun x_37=>
  an (F.Bv a0_0_0 a0_0_1 a0_1_0 a0_1_1 a0_2_0 a0_2_1 a0_3_0 a0_3_1 a0_4_0 a0_4_1 a0_5 x_26.1 x_26.2 x_37.1 x_37.2) fun x_40=>
  an (F.BH a0_0_0 a0_0_1 a0_1_0 a0_1_1 a0_2_0 a0_2_1 a0_3_0 a0_3_1 a0_4_0 a0_4_1 a0_5 3 x_40.1 x_40.2) fun x_45=>
  an (F.Bv a0_0_0 a0_0_1 a0_1_0 a0_1_1 a0_2_0 a0_2_1 a0_3_0 a0_3_1 a0_4_0 a0_4_1 a0_5 x_45.1 x_45.2 x_45.1 x_45.2) fun x_52=>
  an (F.BH a0_0_0 a0_0_1 a0_1_0 a0_1_1 a0_2_0 a0_2_1 a0_3_0 a0_3_1 a0_4_0 a0_4_1 a0_5 2 x_21.1 x_21.2) fun x_57=>
  an (F.BD a0_0_0 a0_0_1 a0_1_0 a0_1_1 a0_2_0 a0_2_1 a0_3_0 a0_3_1 a0_4_0 a0_4_1 a0_5 x_52.1 x_52.2 x_57.1 x_57.2) fun x_62=>
  an (F.BD a0_0_0 a0_0_1 a0_1_0 a0_1_1 a0_2_0 a0_2_1 a0_3_0 a0_3_1 a0_4_0 a0_4_1 a0_5 x_21.1 x_21.2 x_62.1 x_62.2) fun x_67=>
  an (F.Bv a0_0_0 a0_0_1 a0_1_0 a0_1_1 a0_2_0 a0_2_1 a0_3_0 a0_3_1 a0_4_0 a0_4_1 a0_5 x_45.1 x_45.2 x_67.1 x_67.2) fun x_72=>
  an (F.Bv a0_0_0 a0_0_1 a0_1_0 a0_1_1 a0_2_0 a0_2_1 a0_3_0 a0_3_1 a0_4_0 a0_4_1 a0_5 x_11.1 x_11.2 x_11.1 x_11.2) fun x_77=>
  an (F.BH a0_0_0 a0_0_1 a0_1_0 a0_1_1 a0_2_0 a0_2_1 a0_3_0 a0_3_1 a0_4_0 a0_4_1 a0_5 8 x_77.1 x_77.2) fun x_82=>
  an (F.BD a0_0_0 a0_0_1 a0_1_0 a0_1_1 a0_2_0 a0_2_1 a0_3_0 a0_3_1 a0_4_0 a0_4_1 a0_5 x_72.1 x_72.2 x_82.1 x_82.2) fun x_87=>
  an (F.Bv a0_0_0 a0_0_1 a0_1_0 a0_1_1 a0_2_0 a0_2_1 a0_3_0 a0_3_1 a0_4_0 a0_4_1 a0_5 a1_1_0 a1_1_1 a1_2_0 a1_2_1) fun x_92=>
  an (F.BH a0_0_0 a0_0_1 a0_1_0 a0_1_1 a0_2_0 a0_2_1 a0_3_0 a0_3_1 a0_4_0 a0_4_1 a0_5 2 x_92.1 x_92.2) fun x_97=>
  some (x_62.1,x_62.2,x_87.1,x_87.2,x_97.1,x_97.2)
 )
noncomputable def F.B1 (a0_0_0:Bool) (a0_0_1:List UInt32) (a0_1_0:Bool) (a0_1_1:List UInt32) (a0_2_0:Bool) (a0_2_1:List UInt32) (a0_3_0:Bool) (a0_3_1:List UInt32) (a0_4_0:Bool) (a0_4_1:List UInt32) (a0_5:Int) (a1_0_0:Bool) (a1_0_1:List UInt32) (a1_1_0:Bool) (a1_1_1:List UInt32) (a1_2_0:Bool) (a1_2_1:List UInt32) (a2_0_0:Bool) (a2_0_1:List UInt32) (a2_1_0:Bool) (a2_1_1:List UInt32) (a2_2_0:Bool) (a2_2_1:List UInt32):Option (Bool×List UInt32×Bool×List UInt32×Bool×List UInt32):=
 an (F.BC a1_2_0 a1_2_1) fun x_7=>
 if (x_7 == 0)=true then
 (
  some (a2_0_0,a2_0_1,a2_1_0,a2_1_1,a2_2_0,a2_2_1)
 ) else (
  an (F.BC a2_2_0 a2_2_1) fun x_8=>
  if (x_8 == 0)=true then
  (
   some (a1_0_0,a1_0_1,a1_1_0,a1_1_1,a1_2_0,a1_2_1)
  ) else (
   an (F.Bv a0_0_0 a0_0_1 a0_1_0 a0_1_1 a0_2_0 a0_2_1 a0_3_0 a0_3_1 a0_4_0 a0_4_1 a0_5 a1_2_0 a1_2_1 a1_2_0 a1_2_1) fun x_9=>
   an (F.Bv a0_0_0 a0_0_1 a0_1_0 a0_1_1 a0_2_0 a0_2_1 a0_3_0 a0_3_1 a0_4_0 a0_4_1 a0_5 a2_2_0 a2_2_1 a2_2_0 a2_2_1) fun x_14=>
   an (F.Bv a0_0_0 a0_0_1 a0_1_0 a0_1_1 a0_2_0 a0_2_1 a0_3_0 a0_3_1 a0_4_0 a0_4_1 a0_5 a1_0_0 a1_0_1 x_14.1 x_14.2) fun x_19=>
   an (F.Bv a0_0_0 a0_0_1 a0_1_0 a0_1_1 a0_2_0 a0_2_1 a0_3_0 a0_3_1 a0_4_0 a0_4_1 a0_5 a2_0_0 a2_0_1 x_9.1 x_9.2) fun x_24=>
   an (F.Bv a0_0_0 a0_0_1 a0_1_0 a0_1_1 a0_2_0 a0_2_1 a0_3_0 a0_3_1 a0_4_0 a0_4_1 a0_5 a2_2_0 a2_2_1 x_14.1 x_14.2) fun x_29=>
   an (F.Bv a0_0_0 a0_0_1 a0_1_0 a0_1_1 a0_2_0 a0_2_1 a0_3_0 a0_3_1 a0_4_0 a0_4_1 a0_5 a1_1_0 a1_1_1 x_29.1 x_29.2) fun x_34=>
   an (F.Bv a0_0_0 a0_0_1 a0_1_0 a0_1_1 a0_2_0 a0_2_1 a0_3_0 a0_3_1 a0_4_0 a0_4_1 a0_5 a1_2_0 a1_2_1 x_9.1 x_9.2) fun x_39=>
   an (F.Bv a0_0_0 a0_0_1 a0_1_0 a0_1_1 a0_2_0 a0_2_1 a0_3_0 a0_3_1 a0_4_0 a0_4_1 a0_5 a2_1_0 a2_1_1 x_39.1 x_39.2) fun x_44=>
   an (F.BD a0_0_0 a0_0_1 a0_1_0 a0_1_1 a0_2_0 a0_2_1 a0_3_0 a0_3_1 a0_4_0 a0_4_1 a0_5 x_24.1 x_24.2 x_19.1 x_19.2) fun x_49=>
   an (F.BD a0_0_0 a0_0_1 a0_1_0 a0_1_1 a0_2_0 a0_2_1 a0_3_0 a0_3_1 a0_4_0 a0_4_1 a0_5 x_44.1 x_44.2 x_34.1 x_34.2) fun x_54=>
   an (F.BC x_49.1 x_49.2) fun x_59=>
   if (x_59 == 0)=true then
   (
    an (F.BC x_54.1 x_54.2) fun x_60=>
    if (x_60 == 0)=true then
    (
     an (F.CO a0_0_0 a0_0_1 a0_1_0 a0_1_1 a0_2_0 a0_2_1 a0_3_0 a0_3_1 a0_4_0 a0_4_1 a0_5 a1_0_0 a1_0_1 a1_1_0 a1_1_1 a1_2_0 a1_2_1) fun x_61=>
     some (x_61.1,x_61.2.1,x_61.2.2.1,x_61.2.2.2.1,x_61.2.2.2.2.1,x_61.2.2.2.2.2)
    ) else (
     an (F.BQ ) fun x_67=>
     some (x_67.1,x_67.2.1,x_67.2.2.1,x_67.2.2.2.1,x_67.2.2.2.2.1,x_67.2.2.2.2.2)
    )
   ) else (
    an (F.Bv a0_0_0 a0_0_1 a0_1_0 a0_1_1 a0_2_0 a0_2_1 a0_3_0 a0_3_1 a0_4_0 a0_4_1 a0_5 x_49.1 x_49.2 x_49.1 x_49.2) fun x_81=>
    an (F.Bv a0_0_0 a0_0_1 a0_1_0 a0_1_1 a0_2_0 a0_2_1 a0_3_0 a0_3_1 a0_4_0 a0_4_1 a0_5 x_49.1 x_49.2 x_81.1 x_81.2) fun x_86=>
    an (F.Bv a0_0_0 a0_0_1 a0_1_0 a0_1_1 a0_2_0 a0_2_1 a0_3_0 a0_3_1 a0_4_0 a0_4_1 a0_5 x_19.1 x_19.2 x_81.1 x_81.2) fun x_91=>
    an (F.Bv a0_0_0 a0_0_1 a0_1_0 a0_1_1 a0_2_0 a0_2_1 a0_3_0 a0_3_1 a0_4_0 a0_4_1 a0_5 x_54.1 x_54.2 x_54.1 x_54.2) fun x_96=>
    an (F.BD a0_0_0 a0_0_1 a0_1_0 a0_1_1 a0_2_0 a0_2_1 a0_3_0 a0_3_1 a0_4_0 a0_4_1 a0_5 x_96.1 x_96.2 x_86.1 x_86.2) fun x_101=>
    an (F.BH a0_0_0 a0_0_1 a0_1_0 a0_1_1 a0_2_0 a0_2_1 a0_3_0 a0_3_1 a0_4_0 a0_4_1 a0_5 2 x_91.1 x_91.2) fun x_106=>
    an (F.BD a0_0_0 a0_0_1 a0_1_0 a0_1_1 a0_2_0 a0_2_1 a0_3_0 a0_3_1 a0_4_0 a0_4_1 a0_5 x_101.1 x_101.2 x_106.1 x_106.2) fun x_111=>
    an (F.BD a0_0_0 a0_0_1 a0_1_0 a0_1_1 a0_2_0 a0_2_1 a0_3_0 a0_3_1 a0_4_0 a0_4_1 a0_5 x_91.1 x_91.2 x_111.1 x_111.2) fun x_116=>
    an (F.Bv a0_0_0 a0_0_1 a0_1_0 a0_1_1 a0_2_0 a0_2_1 a0_3_0 a0_3_1 a0_4_0 a0_4_1 a0_5 x_54.1 x_54.2 x_116.1 x_116.2) fun x_121=>
    an (F.Bv a0_0_0 a0_0_1 a0_1_0 a0_1_1 a0_2_0 a0_2_1 a0_3_0 a0_3_1 a0_4_0 a0_4_1 a0_5 x_34.1 x_34.2 x_86.1 x_86.2) fun x_126=>
    an (F.BD a0_0_0 a0_0_1 a0_1_0 a0_1_1 a0_2_0 a0_2_1 a0_3_0 a0_3_1 a0_4_0 a0_4_1 a0_5 x_121.1 x_121.2 x_126.1 x_126.2) fun x_131=>
    an (F.Bv a0_0_0 a0_0_1 a0_1_0 a0_1_1 a0_2_0 a0_2_1 a0_3_0 a0_3_1 a0_4_0 a0_4_1 a0_5 a1_2_0 a1_2_1 a2_2_0 a2_2_1) fun x_136=>
    an (F.Bv a0_0_0 a0_0_1 a0_1_0 a0_1_1 a0_2_0 a0_2_1 a0_3_0 a0_3_1 a0_4_0 a0_4_1 a0_5 x_49.1 x_49.2 x_136.1 x_136.2) fun x_141=>
    some (x_111.1,x_111.2,x_131.1,x_131.2,x_141.1,x_141.2)
   )
  )
 )
noncomputable def F.Cz (a0_0_0:Bool) (a0_0_1:List UInt32) (a0_1_0:Bool) (a0_1_1:List UInt32) (a0_2_0:Bool) (a0_2_1:List UInt32) (a0_3_0:Bool) (a0_3_1:List UInt32) (a0_4_0:Bool) (a0_4_1:List UInt32) (a0_5:Int) (a1_0_0:Bool) (a1_0_1:List UInt32) (a1_1_0:Bool) (a1_1_1:List UInt32) (a1_2_0:Bool) (a1_2_1:List UInt32):Option (List UInt32×List UInt32×Bool):=
 an (F.BC a1_2_0 a1_2_1) fun x_5=>
 if (x_5 == 0)=true then
 (
  some ([],[],true)
 ) else (
  an (F.D3 false [] a1_2_0 a1_2_1 a0_0_0 a0_0_1) fun x_9=>
  an (F.Bv a0_0_0 a0_0_1 a0_1_0 a0_1_1 a0_2_0 a0_2_1 a0_3_0 a0_3_1 a0_4_0 a0_4_1 a0_5 x_9.1 x_9.2 x_9.1 x_9.2) fun x_12=>
  an (F.Bv a0_0_0 a0_0_1 a0_1_0 a0_1_1 a0_2_0 a0_2_1 a0_3_0 a0_3_1 a0_4_0 a0_4_1 a0_5 a1_0_0 a1_0_1 x_12.1 x_12.2) fun x_17=>
  an (F.BM x_17.1 x_17.2) fun x_22=>
  an (F.Bv a0_0_0 a0_0_1 a0_1_0 a0_1_1 a0_2_0 a0_2_1 a0_3_0 a0_3_1 a0_4_0 a0_4_1 a0_5 x_9.1 x_9.2 x_12.1 x_12.2) fun x_26=>
  an (F.Bv a0_0_0 a0_0_1 a0_1_0 a0_1_1 a0_2_0 a0_2_1 a0_3_0 a0_3_1 a0_4_0 a0_4_1 a0_5 a1_1_0 a1_1_1 x_26.1 x_26.2) fun x_31=>
  an (F.BM x_31.1 x_31.2) fun x_36=>
  some (x_22,x_36,false)
 )
noncomputable def F.EX :Bool×List UInt32×Bool×List UInt32×Bool×List UInt32→Option (Bool×List UInt32×Bool×List UInt32×Bool×List UInt32)
 | (x_23,x_24,x_27,x_28,x_31,x_32)=>
  some (x_23,x_24,x_27,x_28,x_31,x_32)
noncomputable def F.Cd (a0_0_0:Bool) (a0_0_1:List UInt32) (a0_1_0:Bool) (a0_1_1:List UInt32) (a0_2_0:Bool) (a0_2_1:List UInt32) (a0_3_0:Bool) (a0_3_1:List UInt32) (a0_4_0:Bool) (a0_4_1:List UInt32) (a0_5:Int) (a1_0_0:Bool) (a1_0_1:List UInt32) (a1_1_0:Bool) (a1_1_1:List UInt32) (a1_2_0:Bool) (a1_2_1:List UInt32) (a2:Bool) (a3_0_0:Bool) (a3_0_1:List UInt32) (a3_1_0:Bool) (a3_1_1:List UInt32) (a3_2_0:Bool) (a3_2_1:List UInt32):Option (Bool×List UInt32×Bool×List UInt32×Bool×List UInt32):=
 an (F.CO a0_0_0 a0_0_1 a0_1_0 a0_1_1 a0_2_0 a0_2_1 a0_3_0 a0_3_1 a0_4_0 a0_4_1 a0_5 a1_0_0 a1_0_1 a1_1_0 a1_1_1 a1_2_0 a1_2_1) fun x_7=>
 if a2=true then
 (
  an (F.B1 a0_0_0 a0_0_1 a0_1_0 a0_1_1 a0_2_0 a0_2_1 a0_3_0 a0_3_1 a0_4_0 a0_4_1 a0_5 x_7.1 x_7.2.1 x_7.2.2.1 x_7.2.2.2.1 x_7.2.2.2.2.1 x_7.2.2.2.2.2 a3_0_0 a3_0_1 a3_1_0 a3_1_1 a3_2_0 a3_2_1) fun x_13=>
  F.EX (x_13.1,x_13.2.1,x_13.2.2.1,x_13.2.2.2.1,x_13.2.2.2.2.1,x_13.2.2.2.2.2)
 ) else (
  F.EX (x_7.1,x_7.2.1,x_7.2.2.1,x_7.2.2.2.1,x_7.2.2.2.2.1,x_7.2.2.2.2.2)
 )
noncomputable def F.Fn :Bool→Option (List UInt32×List UInt32×Bool×Int)
 | x_32=>
  if x_32=true then
  (
   some ([],[],false,10)
  ) else (
   none
  )
noncomputable def F.BR (x_8:Bool×List UInt32×Bool×List UInt32×Bool×List UInt32×Bool×List UInt32×Bool×List UInt32×Int×Bool×List UInt32×Bool×List UInt32×Bool×List UInt32) (x_95:Int) (x_97:Bool) (x_98:List UInt32) (x_101:Bool) (x_102:List UInt32) (x_105:Bool) (x_106:List UInt32):Bool×List UInt32×Bool×List UInt32×Bool×List UInt32→Option ((Int×Bool×List UInt32×Bool×List UInt32×Bool×List UInt32)⊕(List UInt32×List UInt32×Bool×Int))
 | (x_142,x_143,x_146,x_147,x_150,x_151)=>
  an (F.Cd x_8.1 x_8.2.1 x_8.2.2.1 x_8.2.2.2.1 x_8.2.2.2.2.1 x_8.2.2.2.2.2.1 x_8.2.2.2.2.2.2.1 x_8.2.2.2.2.2.2.2.1 x_8.2.2.2.2.2.2.2.2.1 x_8.2.2.2.2.2.2.2.2.2.1 x_8.2.2.2.2.2.2.2.2.2.2.1 x_97 x_98 x_101 x_102 x_105 x_106 true x_142 x_143 x_146 x_147 x_150 x_151) fun x_154=>
  bJ (wI (x_95 - 1),x_154.1,x_154.2.1,x_154.2.2.1,x_154.2.2.2.1,x_154.2.2.2.2.1,x_154.2.2.2.2.2)
noncomputable def F.ER (x_8:Bool×List UInt32×Bool×List UInt32×Bool×List UInt32×Bool×List UInt32×Bool×List UInt32×Int×Bool×List UInt32×Bool×List UInt32×Bool×List UInt32) (x_57:Bool×List UInt32) (x_66:Bool×List UInt32×Bool×List UInt32×Bool×List UInt32) (x_114:UInt64) (x_95:Int) (x_97:Bool) (x_98:List UInt32) (x_101:Bool) (x_102:List UInt32) (x_105:Bool) (x_106:List UInt32):Bool×Bool→Option ((Int×Bool×List UInt32×Bool×List UInt32×Bool×List UInt32)⊕(List UInt32×List UInt32×Bool×Int))
 | (x_118,x_119)=>
  if x_119=true then
  (
   F.BR x_8 x_95 x_97 x_98 x_101 x_102 x_105 x_106 (x_66.1,x_66.2.1,x_66.2.2.1,x_66.2.2.2.1,x_66.2.2.2.2.1,x_66.2.2.2.2.2)
  ) else (
   if (x_114 == 1)=true then
   (
    F.BR x_8 x_95 x_97 x_98 x_101 x_102 x_105 x_106 (x_8.2.2.2.2.2.2.2.2.2.2.2.1,x_8.2.2.2.2.2.2.2.2.2.2.2.2.1,x_8.2.2.2.2.2.2.2.2.2.2.2.2.2.1,x_8.2.2.2.2.2.2.2.2.2.2.2.2.2.2.1,x_8.2.2.2.2.2.2.2.2.2.2.2.2.2.2.2.1,x_8.2.2.2.2.2.2.2.2.2.2.2.2.2.2.2.2)
   ) else (
    if (!x_118)=true then
    (
     an (F.BQ ) fun x_121=>
     F.BR x_8 x_95 x_97 x_98 x_101 x_102 x_105 x_106 (x_121.1,x_121.2.1,x_121.2.2.1,x_121.2.2.2.1,x_121.2.2.2.2.1,x_121.2.2.2.2.2)
    ) else (
     F.BR x_8 x_95 x_97 x_98 x_101 x_102 x_105 x_106 (x_8.2.2.2.2.2.2.1,x_8.2.2.2.2.2.2.2.1,x_8.2.2.2.2.2.2.2.2.1,x_8.2.2.2.2.2.2.2.2.2.1,x_57.1,x_57.2)
    )
   )
  )
noncomputable def F.C8 (x_8:Bool×List UInt32×Bool×List UInt32×Bool×List UInt32×Bool×List UInt32×Bool×List UInt32×Int×Bool×List UInt32×Bool×List UInt32×Bool×List UInt32) (x_38:Bool×List UInt32×Bool) (x_43:Bool×List UInt32×Bool) (x_57:Bool×List UInt32) (x_66:Bool×List UInt32×Bool×List UInt32×Bool×List UInt32):Int×Bool×List UInt32×Bool×List UInt32×Bool×List UInt32→Option ((Int×Bool×List UInt32×Bool×List UInt32×Bool×List UInt32)⊕(List UInt32×List UInt32×Bool×Int))
 | (x_95,x_97,x_98,x_101,x_102,x_105,x_106)=>
  if (decide ((0:Int)≤x_95))=true then
  (
   an (F.Dy x_38.1 x_38.2.1 x_95) fun x_113=>
   an (F.Dy x_43.1 x_43.2.1 x_95) fun x_114=>
   if (x_113 == 1)=true then
   (
    F.ER x_8 x_57 x_66 x_114 x_95 x_97 x_98 x_101 x_102 x_105 x_106 (true,x_114 == 1)
   ) else (
    F.ER x_8 x_57 x_66 x_114 x_95 x_97 x_98 x_101 x_102 x_105 x_106 (false,false)
   )
  ) else (
   bD (
    an (F.Cz x_8.1 x_8.2.1 x_8.2.2.1 x_8.2.2.2.1 x_8.2.2.2.2.1 x_8.2.2.2.2.2.1 x_8.2.2.2.2.2.2.1 x_8.2.2.2.2.2.2.2.1 x_8.2.2.2.2.2.2.2.2.1 x_8.2.2.2.2.2.2.2.2.2.1 x_8.2.2.2.2.2.2.2.2.2.2.1 x_97 x_98 x_101 x_102 x_105 x_106) fun x_162=>
    some (x_162.1,x_162.2.1,x_162.2.2,0)
   )
  )
noncomputable def F.Eh (x_8:Bool×List UInt32×Bool×List UInt32×Bool×List UInt32×Bool×List UInt32×Bool×List UInt32×Int×Bool×List UInt32×Bool×List UInt32×Bool×List UInt32) (x_38:Bool×List UInt32×Bool) (x_43:Bool×List UInt32×Bool):Bool→Option (List UInt32×List UInt32×Bool×Int)
 | x_55=>
  if x_55=true then
  (
   some ([],[],false,10)
  ) else (
   an (F.BE 1) fun x_57=>
   an (F.B1 x_8.1 x_8.2.1 x_8.2.2.1 x_8.2.2.2.1 x_8.2.2.2.2.1 x_8.2.2.2.2.2.1 x_8.2.2.2.2.2.2.1 x_8.2.2.2.2.2.2.2.1 x_8.2.2.2.2.2.2.2.2.1 x_8.2.2.2.2.2.2.2.2.2.1 x_8.2.2.2.2.2.2.2.2.2.2.1 x_8.2.2.2.2.2.2.1 x_8.2.2.2.2.2.2.2.1 x_8.2.2.2.2.2.2.2.2.1 x_8.2.2.2.2.2.2.2.2.2.1 x_57.1 x_57.2 x_8.2.2.2.2.2.2.2.2.2.2.2.1 x_8.2.2.2.2.2.2.2.2.2.2.2.2.1 x_8.2.2.2.2.2.2.2.2.2.2.2.2.2.1 x_8.2.2.2.2.2.2.2.2.2.2.2.2.2.2.1 x_8.2.2.2.2.2.2.2.2.2.2.2.2.2.2.2.1 x_8.2.2.2.2.2.2.2.2.2.2.2.2.2.2.2.2) fun x_66=>
   an (F.BQ ) fun x_74=>
   an (F.DV x_38.1 x_38.2.1) fun x_89=>
   an (F.DV x_43.1 x_43.2.1) fun x_90=>
   loop (F.C8 x_8 x_38 x_43 x_57 x_66) (wI ((max x_89 x_90) - 1),x_74.1,x_74.2.1,x_74.2.2.1,x_74.2.2.2.1,x_74.2.2.2.2.1,x_74.2.2.2.2.2)
  )
noncomputable def F.CR (a0:Int) (a1:List UInt32) (a2:List UInt32) (a3_0:List UInt32) (a3_1:List UInt32) (a3_2:Bool):Option (List UInt32×List UInt32×Bool×Int):=
 an (F.CJ a0 a3_0 a3_1 a3_2) fun x_5=>
 fQ x_5.1 (
  if (!x_5.2)=true then
  (
   some ([],[],false,93)
  ) else (
   an (F.B8 a1) fun x_15=>
   an (F.B8 a2) fun x_20=>
   if (!x_15.2.2)=true then
   (
    F.Fn true
   ) else (
    F.Fn (!x_20.2.2)
   )
  )
 ) (fun x_8=>
  if (!x_5.2)=true then
  (
   some ([],[],false,93)
  ) else (
   an (F.B8 a1) fun x_38=>
   an (F.B8 a2) fun x_43=>
   if (!x_38.2.2)=true then
   (
    F.Eh x_8 x_38 x_43 true
   ) else (
    F.Eh x_8 x_38 x_43 (!x_43.2.2)
   )
  )
 )
end Go.Gk
end

section
namespace Go.Gk
noncomputable def F.EA (a0:List UInt32):Option (Int):=
 an (F.BG a0) fun x_1=>
 some (wI (Int.tdiv (wI (x_1+31)) 32))
noncomputable def F.Cw (a0:List (List UInt32)):Int→Option ((Int)⊕(Int))
 | x_1=>
  if (decide (x_1<(a0.length:Int)))=true then
  (
   an (aK a0 (x_1:Int)) fun x_5=>
   an (F.EA x_5) fun x_7=>
   if (decide ((128:Int)<x_7))=true then
   (
    bD (
     some 10
    )
   ) else (
    bJ (wI (x_1+1))
   )
  ) else (
   bD (
    an (aK a0 (wI ((a0.length:Int) - 1):Int)) fun x_9=>
    an (F.BG x_9) fun x_11=>
    if (decide (x_11<2))=true then
    (
     some 60
    ) else (
     some 0
    )
   )
  )
noncomputable def F.Cj (a0:List (List UInt32)):Option (Int):=
 loop (F.Cw a0) 0
noncomputable def F.EZ :List UInt32→Option (List UInt32)
 | x_11=>
  some x_11
noncomputable def F.CF (a0:List UInt32) (a1:List UInt32) (a2:List UInt32):Option (List UInt32):=
 an (F.B2 a0 a1) fun x_1=>
 if (!x_1.2)=true then
 (
  an (F.DL a0 a2) fun x_4=>
  an (F.B2 x_4 a1) fun x_7=>
  F.EZ x_7.1
 ) else (
  F.EZ x_1.1
 )
noncomputable def F.B4 (a0:List UInt32) (a1:List UInt32):Option (List UInt32):=
 an (F.De a0 a1) fun x_1=>
 some x_1.2.1
noncomputable def F.ED (a0:List UInt32) (a1:List UInt32) (a2:List UInt32):Option (List UInt32×Int):=
 an (F.Cj [a0,a1,a2]) fun x_3=>
 if (x_3 != 0)=true then
 (
  some ([],x_3)
 ) else (
  an (F.B4 a0 a2) fun x_4=>
  an (F.B4 a1 a2) fun x_7=>
  an (F.CF x_4 x_7 a2) fun x_10=>
  some (x_10,0)
 )
noncomputable def F.Cy (a0:List UInt32) (a1:List UInt32) (a2:List UInt32):Option (List UInt32×Int):=
 an (F.Cj [a0,a1,a2]) fun x_3=>
 if (x_3 != 0)=true then
 (
  some ([],x_3)
 ) else (
  an (F.Fe a0 a1) fun x_4=>
  an (F.B4 x_4 a2) fun x_7=>
  some (x_7,0)
 )
noncomputable def F.Es (a0:List UInt32) (a1:List UInt32):Option (List UInt32):=
 an (F.CC a0 0) fun x_6=>
 if x_6=true then
 (
  an (F.DL a0 a1) fun x_7=>
  an (F.Co x_7 1) fun x_10=>
  some x_10
 ) else (
  an (F.Co a0 1) fun x_13=>
  some x_13
 )
noncomputable def F.DM (a1:List UInt32) (x_23:List UInt32) (x_25:List UInt32):List UInt32×List UInt32→Option ((List UInt32×List UInt32)⊕((List UInt32×List UInt32×List UInt32×List UInt32)⊕(List UInt32×List UInt32)))
 | (x_41,x_43)=>
  an (F.CC x_41 0) fun x_48=>
  if (!x_48)=true then
  (
   an (F.Co x_41 1) fun x_49=>
   an (F.Es x_43 a1) fun x_52=>
   bJ (x_49,x_52)
  ) else (
   bD (
    an (F.BK x_23 x_41) fun x_57=>
    if (decide ((0:Int)≤x_57))=true then
    (
     an (F.B2 x_23 x_41) fun x_58=>
     an (F.CF x_25 x_43 a1) fun x_61=>
     bJ (x_58.1,x_41,x_61,x_43)
    ) else (
     an (F.B2 x_41 x_23) fun x_66=>
     an (F.CF x_43 x_25 a1) fun x_69=>
     bJ (x_23,x_66.1,x_25,x_69)
    )
   )
  )
noncomputable def F.DE (a1:List UInt32) (x_11:List UInt32) (x_15:List UInt32):List UInt32×List UInt32→Option ((List UInt32×List UInt32)⊕((List UInt32×List UInt32×List UInt32×List UInt32)⊕(List UInt32×List UInt32)))
 | (x_23,x_25)=>
  an (F.CC x_23 0) fun x_30=>
  if (!x_30)=true then
  (
   an (F.Co x_23 1) fun x_31=>
   an (F.Es x_25 a1) fun x_34=>
   bJ (x_31,x_34)
  ) else (
   bD (
    loop (F.DM a1 x_23 x_25) (x_11,x_15)
   )
  )
noncomputable def F.Dv (a1:List UInt32):List UInt32×List UInt32×List UInt32×List UInt32→Option ((List UInt32×List UInt32×List UInt32×List UInt32)⊕(List UInt32×List UInt32))
 | (x_9,x_11,x_13,x_15)=>
  an (F.BG x_9) fun x_20=>
  if (decide ((0:Int)<x_20))=true then
  (
   loop (F.DE a1 x_11 x_15) (x_9,x_13)
  ) else (
   bD (
    some (x_11,x_15)
   )
  )
noncomputable def F.EU (a0:List UInt32) (a1:List UInt32):Option (List UInt32×List UInt32):=
 loop (F.Dv a1) (a0,a1,([1]:List UInt32),[])
noncomputable def F.CE (a0:List UInt32) (a1:List UInt32):Option (List UInt32×Int):=
 an (F.Cj [a0,a1]) fun x_3=>
 if (x_3 != 0)=true then
 (
  some ([],x_3)
 ) else (
  an (F.B4 a0 a1) fun x_4=>
  an (F.CC a1 0) fun x_7=>
  if x_7=true then
  (
   an (F.EU x_4 a1) fun x_8=>
   an (F.BK x_8.1 ([1]:List UInt32)) fun x_16=>
   if (x_16 != 0)=true then
   (
    some ([],61)
   ) else (
    an (F.B4 x_8.2 a1) fun x_17=>
    some (x_17,0)
   )
  ) else (
   none
  )
 )
end Go.Gk
end

section
namespace Go.Gk
noncomputable def F.BV (a0:Int):Option (Int):=
 if (a0 == 1)=true then
 (
  some 32
 ) else (
  if (a0 == 2)=true then
  (
   some 48
  ) else (
   if (a0 == 3)=true then
   (
    some 64
   ) else (
    some 0
   )
  )
 )
noncomputable def F.Fw :Bool→Option (Int)
 | x_2=>
  if x_2=true then
  (
   some 128
  ) else (
   some 0
  )
noncomputable def F.E5 (a0:Int):Option (Int):=
 if (a0 == 1)=true then
 (
  some 64
 ) else (
  if (a0 == 2)=true then
  (
   F.Fw (a0 == 2)
  ) else (
   F.Fw (a0 == 3)
  )
 )
noncomputable def F.E7 (a0:Int):List UInt32×List UInt64→Option (Option (Int×List UInt32×List UInt64×List UInt8×UInt64))
 | (x_6,x_8)=>
  some (some (a0,x_6,x_8,(List.replicate 128 0),0))
noncomputable def F.Fm (a0:Int):Option (Option (Int×List UInt32×List UInt64×List UInt8×UInt64)):=
 if (a0 == 1)=true then
 (
  F.E7 a0 (F.BL,(List.replicate 8 0))
 ) else (
  if (a0 == 2)=true then
  (
   F.E7 a0 ((List.replicate 8 0),F.BJ)
  ) else (
   if (a0 == 3)=true then
   (
    F.E7 a0 ((List.replicate 8 0),F.BN)
   ) else (
    some none
   )
  )
 )
noncomputable def F.DS (a0_0:Int) (a0_2:List UInt64) (a0_3:List UInt8) (a0_4:UInt64) (x_41:UInt32) (x_42:UInt32) (x_43:UInt32) (x_44:UInt32) (x_45:UInt32) (x_46:UInt32) (x_47:UInt32) (x_48:UInt32):Int×List UInt32→Option ((Int×List UInt32)⊕(Int×List UInt32×List UInt64×List UInt8×UInt64))
 | (x_63,x_64)=>
  if (decide (x_63<8))=true then
  (
   an (aK ([x_41,x_42,x_43,x_44,x_45,x_46,x_47,x_48]:List UInt32) (x_63:Int)) fun x_69=>
   an (aK x_64 (x_63:Int)) fun x_70=>
   an (aK x_64 (x_63:Int)) fun x_71=>
   bp (x_64.set (x_63:Int).toNat (x_70+x_69)) fun x_72=>
   bJ (wI (x_63+1),x_72)
  ) else (
   bD (
    some (a0_0,x_64,a0_2,a0_3,a0_4)
   )
  )
noncomputable def F.Ep (a0_1:List UInt32) (x_18:List UInt32) (a0_0:Int) (a0_2:List UInt64) (a0_3:List UInt8) (a0_4:UInt64):UInt32×UInt32×UInt32×UInt32×UInt32×UInt32×UInt32×UInt32×Int→Option ((UInt32×UInt32×UInt32×UInt32×UInt32×UInt32×UInt32×UInt32×Int)⊕(Int×List UInt32×List UInt64×List UInt8×UInt64))
 | (x_41,x_42,x_43,x_44,x_45,x_46,x_47,x_48,x_49)=>
  if (decide (x_49<64))=true then
  (
   an (F.By x_45 (-6)) fun x_53=>
   an (F.By x_45 (-11)) fun x_54=>
   an (F.By x_45 (-25)) fun x_55=>
   an (aK F.Cs (x_49:Int)) fun x_56=>
   an (aK x_18 (x_49:Int)) fun x_57=>
   bp ((((x_48+((x_53 ^^^ x_54) ^^^ x_55))+(x_47 ^^^ (x_45 &&& (x_46 ^^^ x_47))))+x_56)+x_57) fun x_58=>
   an (F.By x_41 (-2)) fun x_59=>
   an (F.By x_41 (-13)) fun x_60=>
   an (F.By x_41 (-22)) fun x_61=>
   bp (((x_59 ^^^ x_60) ^^^ x_61)+((x_41 &&& x_42) ||| (x_43 &&& (x_41 ||| x_42)))) fun x_62=>
   bJ (x_58+x_62,x_41,x_42,x_43,x_44+x_58,x_45,x_46,x_47,wI (x_49+1))
  ) else (
   bD (
    loop (F.DS a0_0 a0_2 a0_3 a0_4 x_41 x_42 x_43 x_44 x_45 x_46 x_47 x_48) (0,a0_1)
   )
  )
noncomputable def F.C6 (a0_1:List UInt32) (a0_0:Int) (a0_2:List UInt64) (a0_3:List UInt8) (a0_4:UInt64):Int×List UInt32→Option ((Int×List UInt32)⊕(Int×List UInt32×List UInt64×List UInt8×UInt64))
 | (x_17,x_18)=>
  if (decide (x_17<64))=true then
  (
   an (aK x_18 (wI (x_17 - 15):Int)) fun x_23=>
   an (aK x_18 (wI (x_17 - 2):Int)) fun x_24=>
   an (aK x_18 (wI (x_17 - 16):Int)) fun x_25=>
   an (aK x_18 (wI (x_17 - 7):Int)) fun x_26=>
   an (F.By x_23 (-7)) fun x_27=>
   an (F.By x_23 (-18)) fun x_28=>
   an (F.By x_24 (-17)) fun x_29=>
   an (F.By x_24 (-19)) fun x_30=>
   an (aK x_18 (x_17:Int)) fun x_31=>
   bp (x_18.set (x_17:Int).toNat (((x_25+x_26)+((x_27 ^^^ x_28) ^^^ (bz x_23 3)))+((x_29 ^^^ x_30) ^^^ (bz x_24 10)))) fun x_32=>
   bJ (wI (x_17+1),x_32)
  ) else (
   bD (
    an (aK a0_1 (0:Int)) fun x_33=>
    an (aK a0_1 (1:Int)) fun x_34=>
    an (aK a0_1 (2:Int)) fun x_35=>
    an (aK a0_1 (3:Int)) fun x_36=>
    an (aK a0_1 (4:Int)) fun x_37=>
    an (aK a0_1 (5:Int)) fun x_38=>
    an (aK a0_1 (6:Int)) fun x_39=>
    an (aK a0_1 (7:Int)) fun x_40=>
    loop (F.Ep a0_1 x_18 a0_0 a0_2 a0_3 a0_4) (x_33,x_34,x_35,x_36,x_37,x_38,x_39,x_40,0)
   )
  )
noncomputable def F.Fa (a0_3:List UInt8) (a0_1:List UInt32) (a0_0:Int) (a0_2:List UInt64) (a0_4:UInt64):Int×List UInt32→Option ((Int×List UInt32)⊕(Int×List UInt32×List UInt64×List UInt8×UInt64))
 | (x_4,x_5)=>
  if (decide (x_4<16))=true then
  (
   an (drO a0_3 (wI (4*x_4):Int)) fun x_10=>
   an (aK x_10 (0:Int)) fun x_11=>
   an (aK x_10 (1:Int)) fun x_12=>
   an (aK x_10 (2:Int)) fun x_13=>
   an (aK x_10 (3:Int)) fun x_14=>
   an (aK x_5 (x_4:Int)) fun x_15=>
   bp (x_5.set (x_4:Int).toNat ((((ce x_11.toUInt32 24) ||| (ce x_12.toUInt32 16)) ||| (ce x_13.toUInt32 8)) ||| x_14.toUInt32)) fun x_16=>
   bJ (wI (x_4+1),x_16)
  ) else (
   bD (
    loop (F.C6 a0_1 a0_0 a0_2 a0_3 a0_4) (16,x_5)
   )
  )
noncomputable def F.EM (a0_0:Int) (a0_1:List UInt32) (a0_2:List UInt64) (a0_3:List UInt8) (a0_4:UInt64):Option (Int×List UInt32×List UInt64×List UInt8×UInt64):=
 loop (F.Fa a0_3 a0_1 a0_0 a0_2 a0_4) (0,(List.replicate 64 0))
noncomputable def F.Ex (x_4:Int) (x_10:List UInt8):Int×List UInt64→Option ((Int×List UInt64)⊕((Int×List UInt64)⊕(Int×List UInt32×List UInt64×List UInt8×UInt64)))
 | (x_11,x_12)=>
  if (decide (x_11<(x_10.length:Int)))=true then
  (
   an (aK x_10 (x_11:Int)) fun x_17=>
   an (aK x_12 (x_4:Int)) fun x_18=>
   an (aK x_12 (x_4:Int)) fun x_19=>
   bp (x_12.set (x_4:Int).toNat ((bm x_18 8) ||| x_17.toUInt64)) fun x_20=>
   bJ (wI (x_11+1),x_20)
  ) else (
   bD (
    bJ (wI (x_4+1),x_12)
   )
  )
noncomputable def F.Ey (a0_0:Int) (a0_1:List UInt32) (a0_3:List UInt8) (a0_4:UInt64) (x_47:UInt64) (x_48:UInt64) (x_49:UInt64) (x_50:UInt64) (x_51:UInt64) (x_52:UInt64) (x_53:UInt64) (x_54:UInt64):Int×List UInt64→Option ((Int×List UInt64)⊕(Int×List UInt32×List UInt64×List UInt8×UInt64))
 | (x_69,x_70)=>
  if (decide (x_69<8))=true then
  (
   an (aK ([x_47,x_48,x_49,x_50,x_51,x_52,x_53,x_54]:List UInt64) (x_69:Int)) fun x_75=>
   an (aK x_70 (x_69:Int)) fun x_76=>
   an (aK x_70 (x_69:Int)) fun x_77=>
   bp (x_70.set (x_69:Int).toNat (x_76+x_75)) fun x_78=>
   bJ (wI (x_69+1),x_78)
  ) else (
   bD (
    some (a0_0,a0_1,x_70,a0_3,a0_4)
   )
  )
noncomputable def F.D6 (a0_2:List UInt64) (x_24:List UInt64) (a0_0:Int) (a0_1:List UInt32) (a0_3:List UInt8) (a0_4:UInt64):UInt64×UInt64×UInt64×UInt64×UInt64×UInt64×UInt64×UInt64×Int→Option ((UInt64×UInt64×UInt64×UInt64×UInt64×UInt64×UInt64×UInt64×Int)⊕(Int×List UInt32×List UInt64×List UInt8×UInt64))
 | (x_47,x_48,x_49,x_50,x_51,x_52,x_53,x_54,x_55)=>
  if (decide (x_55<80))=true then
  (
   an (F.Bw x_51 (-14)) fun x_59=>
   an (F.Bw x_51 (-18)) fun x_60=>
   an (F.Bw x_51 (-41)) fun x_61=>
   an (aK F.Cl (x_55:Int)) fun x_62=>
   an (aK x_24 (x_55:Int)) fun x_63=>
   bp ((((x_54+((x_59 ^^^ x_60) ^^^ x_61))+(x_53 ^^^ (x_51 &&& (x_52 ^^^ x_53))))+x_62)+x_63) fun x_64=>
   an (F.Bw x_47 (-28)) fun x_65=>
   an (F.Bw x_47 (-34)) fun x_66=>
   an (F.Bw x_47 (-39)) fun x_67=>
   bp (((x_65 ^^^ x_66) ^^^ x_67)+((x_47 &&& x_48) ||| (x_49 &&& (x_47 ||| x_48)))) fun x_68=>
   bJ (x_64+x_68,x_47,x_48,x_49,x_50+x_64,x_51,x_52,x_53,wI (x_55+1))
  ) else (
   bD (
    loop (F.Ey a0_0 a0_1 a0_3 a0_4 x_47 x_48 x_49 x_50 x_51 x_52 x_53 x_54) (0,a0_2)
   )
  )
noncomputable def F.Dq (a0_2:List UInt64) (a0_0:Int) (a0_1:List UInt32) (a0_3:List UInt8) (a0_4:UInt64):Int×List UInt64→Option ((Int×List UInt64)⊕(Int×List UInt32×List UInt64×List UInt8×UInt64))
 | (x_23,x_24)=>
  if (decide (x_23<80))=true then
  (
   an (aK x_24 (wI (x_23 - 15):Int)) fun x_29=>
   an (aK x_24 (wI (x_23 - 2):Int)) fun x_30=>
   an (aK x_24 (wI (x_23 - 16):Int)) fun x_31=>
   an (aK x_24 (wI (x_23 - 7):Int)) fun x_32=>
   an (F.Bw x_29 (-1)) fun x_33=>
   an (F.Bw x_29 (-8)) fun x_34=>
   an (F.Bw x_30 (-19)) fun x_35=>
   an (F.Bw x_30 (-61)) fun x_36=>
   an (aK x_24 (x_23:Int)) fun x_37=>
   bp (x_24.set (x_23:Int).toNat (((x_31+x_32)+((x_33 ^^^ x_34) ^^^ (aP x_29 7)))+((x_35 ^^^ x_36) ^^^ (aP x_30 6)))) fun x_38=>
   bJ (wI (x_23+1),x_38)
  ) else (
   bD (
    an (aK a0_2 (0:Int)) fun x_39=>
    an (aK a0_2 (1:Int)) fun x_40=>
    an (aK a0_2 (2:Int)) fun x_41=>
    an (aK a0_2 (3:Int)) fun x_42=>
    an (aK a0_2 (4:Int)) fun x_43=>
    an (aK a0_2 (5:Int)) fun x_44=>
    an (aK a0_2 (6:Int)) fun x_45=>
    an (aK a0_2 (7:Int)) fun x_46=>
    loop (F.D6 a0_2 x_24 a0_0 a0_1 a0_3 a0_4) (x_39,x_40,x_41,x_42,x_43,x_44,x_45,x_46,0)
   )
  )
noncomputable def F.EQ (a0_3:List UInt8) (a0_2:List UInt64) (a0_0:Int) (a0_1:List UInt32) (a0_4:UInt64):Int×List UInt64→Option ((Int×List UInt64)⊕(Int×List UInt32×List UInt64×List UInt8×UInt64))
 | (x_4,x_5)=>
  if (decide (x_4<16))=true then
  (
   an (slO a0_3 (wI (8*x_4):Int) (wI ((wI (8*x_4))+8):Int)) fun x_10=>
   loop (F.Ex x_4 x_10) (0,x_5)
  ) else (
   bD (
    loop (F.Dq a0_2 a0_0 a0_1 a0_3 a0_4) (16,x_5)
   )
  )
noncomputable def F.E0 (a0_0:Int) (a0_1:List UInt32) (a0_2:List UInt64) (a0_3:List UInt8) (a0_4:UInt64):Option (Int×List UInt32×List UInt64×List UInt8×UInt64):=
 loop (F.EQ a0_3 a0_2 a0_0 a0_1 a0_4) (0,(List.replicate 80 0))
noncomputable def F.DG (a0_0:Int) (a0_1:List UInt32) (a0_2:List UInt64) (a0_3:List UInt8) (a0_4:UInt64):Option (Int×List UInt32×List UInt64×List UInt8×UInt64):=
 if (a0_0 == 1)=true then
 (
  an (F.EM a0_0 a0_1 a0_2 a0_3 a0_4) fun x_2=>
  some (x_2.1,x_2.2.1,x_2.2.2.1,x_2.2.2.2.1,x_2.2.2.2.2)
 ) else (
  an (F.E0 a0_0 a0_1 a0_2 a0_3 a0_4) fun x_6=>
  some (x_6.1,x_6.2.1,x_6.2.2.1,x_6.2.2.2.1,x_6.2.2.2.2)
 )
noncomputable def F.Da (x_2:Int):List UInt8×Int×List UInt32×List UInt64×List UInt8×UInt64→Option ((List UInt8×Int×List UInt32×List UInt64×List UInt8×UInt64)⊕(Int×List UInt32×List UInt64×List UInt8×UInt64))
 | (x_3,x_6,x_7,x_9,x_11,x_13)=>
  if (decide ((0:Int)<(x_3.length:Int)))=true then
  (
   grd (¬(UInt64.ofInt x_2)=0) <|
   bp (wI ((x_13%(UInt64.ofInt x_2)).toNat:Int)) fun x_18=>
   an (slO x_11 (x_18:Int) (x_2:Int)) fun x_19=>
   bp (cpL x_11 x_3 ((x_18:Int).toNat) ((x_2:Int).toNat)) fun x_20=>
   bp (((min x_3.length ((x_2:Int).toNat - ((x_18:Int).toNat)):Nat):Int)) fun x_21=>
   an (drO x_3 (x_21:Int)) fun x_22=>
   if ((wI (x_18+x_21)) == x_2)=true then
   (
    an (F.DG x_6 x_7 x_9 x_20 (x_13+(UInt64.ofInt x_21))) fun x_23=>
    bJ (x_22,x_23.1,x_23.2.1,x_23.2.2.1,x_23.2.2.2.1,x_23.2.2.2.2)
   ) else (
    bJ (x_22,x_6,x_7,x_9,x_20,x_13+(UInt64.ofInt x_21))
   )
  ) else (
   bD (
    some (x_6,x_7,x_9,x_11,x_13)
   )
  )
noncomputable def F.CB (a0_0:Int) (a0_1:List UInt32) (a0_2:List UInt64) (a0_3:List UInt8) (a0_4:UInt64) (a1:List UInt8):Option (Int×List UInt32×List UInt64×List UInt8×UInt64):=
 an (F.E5 a0_0) fun x_2=>
 loop (F.Da x_2) (a1,a0_0,a0_1,a0_2,a0_3,a0_4)
noncomputable def F.CX (x_21:List UInt8) (x_24:Int):UInt8→Option ((List UInt8×Int)⊕(List UInt8×Int×List UInt32×List UInt64×List UInt8×UInt64))
 | x_32=>
  an (apO 1 x_21 [x_32]) fun x_36=>
  bJ (x_36,wI (x_24 - 1))
noncomputable def F.CG (a0_0:Int) (a0_1:List UInt32) (a0_2:List UInt64) (a0_3:List UInt8) (a0_4:UInt64) (x_39:Int×List UInt32×List UInt64×List UInt8×UInt64):List UInt8×Int→Option ((List UInt8×Int)⊕(List UInt8×Int×List UInt32×List UInt64×List UInt8×UInt64))
 | (x_43,x_46)=>
  if (decide (x_46<8))=true then
  (
   an (aK x_39.2.1 (x_46:Int)) fun x_50=>
   an (apO 1 x_43 [(bz x_50 24).toUInt8,(bz x_50 16).toUInt8,(bz x_50 8).toUInt8,x_50.toUInt8]) fun x_53=>
   bJ (x_53,wI (x_46+1))
  ) else (
   bD (
    some (x_43,a0_0,a0_1,a0_2,a0_3,a0_4)
   )
  )
noncomputable def F.D4 (x_61:Int) (x_65:UInt64):List UInt8×Int→Option ((List UInt8×Int)⊕((List UInt8×Int)⊕(List UInt8×Int×List UInt32×List UInt64×List UInt8×UInt64)))
 | (x_66,x_69)=>
  if (decide ((0:Int)≤x_69))=true then
  (
   grd (0≤x_69) <|
   an (apO 1 x_66 [(aP x_65 ((x_69).toNat)).toUInt8]) fun x_76=>
   bJ (x_76,wI (x_69 - 8))
  ) else (
   bD (
    bJ (x_66,wI (x_61+1))
   )
  )
noncomputable def F.Ce (a0_0:Int) (a0_1:List UInt32) (a0_2:List UInt64) (a0_3:List UInt8) (a0_4:UInt64) (x_39:Int×List UInt32×List UInt64×List UInt8×UInt64):List UInt8×Int→Option ((List UInt8×Int)⊕(List UInt8×Int×List UInt32×List UInt64×List UInt8×UInt64))
 | (x_58,x_61)=>
  if (decide (x_61<8))=true then
  (
   an (aK x_39.2.2.1 (x_61:Int)) fun x_65=>
   loop (F.D4 x_61 x_65) (x_58,56)
  ) else (
   bD (
    an (F.BV x_39.1) fun x_81=>
    an (F.BV x_39.1) fun x_82=>
    grd (0≤(x_81:Int)∧(x_81:Int).toNat≤x_58.length∧(x_82:Int)=x_81) <|
    some (x_58.take ((x_81:Int).toNat),a0_0,a0_1,a0_2,a0_3,a0_4)
   )
  )
noncomputable def F.Cn (a0_0:Int) (a0_1:List UInt32) (a0_2:List UInt64) (a0_3:List UInt8) (a0_4:UInt64):List UInt8×Int→Option ((List UInt8×Int)⊕(List UInt8×Int×List UInt32×List UInt64×List UInt8×UInt64))
 | (x_21,x_24)=>
  if (decide ((0:Int)≤x_24))=true then
  (
   if (decide (x_24<8))=true then
   (
    grd (0≤(wI (8*x_24))) <|
    bp ((aP (bm a0_4 3) (((wI (8*x_24))).toNat)).toUInt8) fun x_29=>
    F.CX x_21 x_24 x_29
   ) else (
    if (x_24 == 8)=true then
    (
     F.CX x_21 x_24 ((aP a0_4 61).toUInt8)
    ) else (
     F.CX x_21 x_24 0
    )
   )
  ) else (
   bD (
    an (F.CB a0_0 a0_1 a0_2 a0_3 a0_4 x_21) fun x_39=>
    if (x_39.1 == 1)=true then
    (
     loop (F.CG a0_0 a0_1 a0_2 a0_3 a0_4 x_39) ([],0)
    ) else (
     loop (F.Ce a0_0 a0_1 a0_2 a0_3 a0_4 x_39) ([],0)
    )
   )
  )
noncomputable def F.DN (a0_4:UInt64) (x_4:Int) (a0_0:Int) (a0_1:List UInt32) (a0_2:List UInt64) (a0_3:List UInt8):List UInt8→Option ((List UInt8)⊕(List UInt8×Int×List UInt32×List UInt64×List UInt8×UInt64))
 | x_7=>
  grd (¬(UInt64.ofInt x_4)=0) <|
  grd (¬x_4=0) <|
  if ((Int.tmod (wI ((wI ((a0_4%(UInt64.ofInt x_4)).toNat:Int))+(x_7.length:Int))) x_4) != (wI (x_4 - (wI (Int.tdiv x_4 8)))))=true then
  (
   an (apO 1 x_7 [0]) fun x_17=>
   bJ x_17
  ) else (
   bD (
    bp (wI ((wI (Int.tdiv x_4 8)) - 1)) fun x_20=>
    loop (F.Cn a0_0 a0_1 a0_2 a0_3 a0_4) (x_7,x_20)
   )
  )
noncomputable def F.E4 (a0_0:Int) (a0_1:List UInt32) (a0_2:List UInt64) (a0_3:List UInt8) (a0_4:UInt64):Option (List UInt8×Int×List UInt32×List UInt64×List UInt8×UInt64):=
 an (F.E5 a0_0) fun x_4=>
 loop (F.DN a0_4 x_4 a0_0 a0_1 a0_2 a0_3) [128]
noncomputable def F.Cp (a1:List (List UInt8)):Int×Int×List UInt32×List UInt64×List UInt8×UInt64→Option ((Int×Int×List UInt32×List UInt64×List UInt8×UInt64)⊕(List UInt8))
 | (x_12,x_13,x_14,x_16,x_18,x_20)=>
  if (decide (x_12<(a1.length:Int)))=true then
  (
   an (aK a1 (x_12:Int)) fun x_24=>
   an (F.CB x_13 x_14 x_16 x_18 x_20 x_24) fun x_26=>
   bJ (wI (x_12+1),x_26.1,x_26.2.1,x_26.2.2.1,x_26.2.2.2.1,x_26.2.2.2.2)
  ) else (
   bD (
    an (F.E4 x_13 x_14 x_16 x_18 x_20) fun x_30=>
    some x_30.1
   )
  )
noncomputable def F.DC (a0:Int) (a1:List (List UInt8)):Option (List UInt8):=
 an (F.Fm a0) fun x_1=>
 fQ x_1 (
  some []
 ) (fun x_6=>
  loop (F.Cp a1) (0,x_6.1,x_6.2.1,x_6.2.2.1,x_6.2.2.2.1,x_6.2.2.2.2)
 )
end Go.Gk
end

section
namespace Go.Gk
noncomputable def F.Cu (a0:List UInt32) (a1:List UInt32):Option (Bool):=
 an (F.BG a0) fun x_1=>
 if (decide ((0:Int)<x_1))=true then
 (
  an (F.BK a0 a1) fun x_3=>
  some (decide (x_3<0))
 ) else (
  some false
 )
noncomputable def F.Cx (a0_0:List UInt32) (a0_1:List UInt32) (a0_2:Bool) (a1:List UInt32) (a2:List UInt32):Option (Bool):=
 if a0_2=true then
 (
  some false
 ) else (
  an (F.De a0_0 a2) fun x_3=>
  an (F.BK x_3.2.1 a1) fun x_8=>
  some (x_8 == 0)
 )
noncomputable def F.DA (a0:Int) (a1:Int) (a2:List UInt8):Option (List UInt32):=
 an (F.DC a0 [a2]) fun x_3=>
 an (F.Ch a1) fun x_6=>
 grd (0≤(min (x_3.length:Int) x_6:Int)∧(min (x_3.length:Int) x_6:Int).toNat≤x_3.length) <|
 an (F.BI (x_3.take ((min (x_3.length:Int) x_6:Int).toNat))) fun x_8=>
 some x_8
noncomputable def F.Dn (a1:Int) (x_34:List UInt32×List UInt32×Bool×Int):Bool→Option (List UInt8×List UInt8×Int)
 | x_42=>
  if x_42=true then
  (
   some ([],[],91)
  ) else (
   an (F.EB a1 x_34.1 x_34.2.1 x_34.2.2.1) fun x_44=>
   some (x_44.1,x_44.2.1,x_44.2.2)
  )
noncomputable def F.Dj (a0:Int) (a1:Int) (a2:List UInt8) (a3:List UInt32) (a4:List UInt32) (a5_0:List UInt32) (a5_1:List UInt32) (a5_2:Bool) (x_9:List UInt32):Bool→Option (List UInt8×List UInt8×Int)
 | x_17=>
  if x_17=true then
  (
   some ([],[],91)
  ) else (
   an (F.CE a3 x_9) fun x_19=>
   an (F.Cy a4 x_19.1 x_9) fun x_22=>
   an (F.DA a0 a1 a2) fun x_25=>
   an (F.Cy x_25 x_19.1 x_9) fun x_28=>
   an (F.ED [] x_28.1 x_9) fun x_31=>
   an (F.CR a1 x_31.1 x_22.1 a5_0 a5_1 a5_2) fun x_34=>
   if (x_34.2.2.2 != 0)=true then
   (
    F.Dn a1 x_34 true
   ) else (
    F.Dn a1 x_34 x_34.2.2.1
   )
  )
noncomputable def F.EP (a1:Int) (a3:List UInt32) (a4:List UInt32) (a5_0:List UInt32) (a5_1:List UInt32) (a5_2:Bool) (a0:Int) (a2:List UInt8):Bool→Option (List UInt8×List UInt8×Int)
 | x_7=>
  if x_7=true then
  (
   some ([],[],93)
  ) else (
   an (F.Ct a1) fun x_9=>
   an (F.Cu a3 x_9) fun x_12=>
   if (!x_12)=true then
   (
    F.Dj a0 a1 a2 a3 a4 a5_0 a5_1 a5_2 x_9 true
   ) else (
    an (F.Cu a4 x_9) fun x_14=>
    if (!x_14)=true then
    (
     F.Dj a0 a1 a2 a3 a4 a5_0 a5_1 a5_2 x_9 true
    ) else (
     an (F.Cx a5_0 a5_1 a5_2 a3 x_9) fun x_16=>
     F.Dj a0 a1 a2 a3 a4 a5_0 a5_1 a5_2 x_9 (!x_16)
    )
   )
  )
noncomputable def F.Ff (a0:Int) (a1:Int) (a2:List UInt8) (a3:List UInt32) (a4:List UInt32) (a5_0:List UInt32) (a5_1:List UInt32) (a5_2:Bool):Option (List UInt8×List UInt8×Int):=
 an (F.BV a0) fun x_3=>
 if (x_3 == 0)=true then
 (
  some ([],[],111)
 ) else (
  an (F.Ch a1) fun x_4=>
  if (x_4 == 0)=true then
  (
   some ([],[],90)
  ) else (
   if a5_2=true then
   (
    F.EP a1 a3 a4 a5_0 a5_1 a5_2 a0 a2 true
   ) else (
    an (F.E3 a1 a5_0 a5_1 a5_2) fun x_6=>
    F.EP a1 a3 a4 a5_0 a5_1 a5_2 a0 a2 (!x_6)
   )
  )
 )
noncomputable def F.Fh :Bool→Option (Int)
 | x_47=>
  if x_47=true then
  (
   some 91
  ) else (
   some 0
  )
noncomputable def F.DH (a0:Int) (a1:Int) (a4:List UInt8) (x_2:List UInt32×List UInt32×Bool×Int) (x_10:List UInt32) (x_15:List UInt32) (x_18:List UInt32):Bool→Option (Int)
 | x_24=>
  if x_24=true then
  (
   some 91
  ) else (
   an (F.CE x_18 x_10) fun x_26=>
   an (F.DA a0 a1 a4) fun x_29=>
   an (F.Cy x_29 x_26.1 x_10) fun x_32=>
   an (F.Cy x_15 x_26.1 x_10) fun x_35=>
   an (F.CR a1 x_32.1 x_35.1 x_2.1 x_2.2.1 x_2.2.2.1) fun x_38=>
   if (x_38.2.2.2 != 0)=true then
   (
    F.Fh true
   ) else (
    an (F.Cx x_38.1 x_38.2.1 x_38.2.2.1 x_15 x_10) fun x_46=>
    F.Fh (!x_46)
   )
  )
noncomputable def F.BP (a0:Int) (a1:Int) (a2:List UInt8) (a3:List UInt8) (a4:List UInt8) (a5:List UInt8):Option (Int):=
 an (F.BV a0) fun x_1=>
 if (x_1 == 0)=true then
 (
  some 111
 ) else (
  an (F.E6 a1 a2 a3) fun x_2=>
  if (x_2.2.2.2 != 0)=true then
  (
   some 90
  ) else (
   an (F.Ch a1) fun x_9=>
   an (F.Ct a1) fun x_10=>
   if ((a5.length:Int) != (wI (2*x_9)))=true then
   (
    some 91
   ) else (
    grd (0≤(x_9:Int)∧(x_9:Int).toNat≤a5.length∧(x_9:Int)=x_9) <|
    an (slO a5 (x_9:Int) (wI (2*x_9):Int)) fun x_14=>
    an (F.BI (a5.take ((x_9:Int).toNat))) fun x_15=>
    an (F.BI x_14) fun x_18=>
    an (F.Cu x_15 x_10) fun x_21=>
    if (!x_21)=true then
    (
     F.DH a0 a1 a4 x_2 x_10 x_15 x_18 true
    ) else (
     an (F.Cu x_18 x_10) fun x_23=>
     F.DH a0 a1 a4 x_2 x_10 x_15 x_18 (!x_23)
    )
   )
  )
 )
end Go.Gk
end

section
namespace Go.Gk
end Go.Gk
end

section
namespace Go.Gk
end Go.Gk
end

section
namespace Go.Gk
end Go.Gk
end

section
namespace Go.Gk
end Go.Gk
end

section
namespace Go.Gk
end Go.Gk
end

section
namespace Go.Gk
noncomputable def F.Ej (a0:List UInt32) (a1:List UInt32) (a2:Int):Option (List UInt8×Bool):=
 an (F.Et a0 a2) fun x_1=>
 an (F.Et a1 a2) fun x_4=>
 an (apO 1 [] x_1.1) fun x_7=>
 an (apO 1 x_7 x_4.1) fun x_10=>
 if x_1.2=true then
 (
  some (x_10,x_4.2)
 ) else (
  some (x_10,false)
 )
noncomputable def F.B3 (x_20:List UInt8×List UInt8×Int) (x_27:List UInt8×Bool):Bool→Option (Bool)
 | x_34=>
  if x_34=true then
  (
   some false
  ) else (
   an (F.BP 1 1 x_20.1 x_20.2.1 [97,98,99] x_27.1) fun x_38=>
   if (x_38 == 0)=true then
   (
    an (F.BP 1 1 x_20.1 x_20.2.1 [97,98,100] x_27.1) fun x_42=>
    some (x_42 == 91)
   ) else (
    some false
   )
  )
noncomputable def F.E1 :Option (Bool):=
 an (F.Eu 1) fun x_1=>
 an (F.Ct 1) fun x_8=>
 an (F.De x_1.1 x_8) fun x_11=>
 an (F.Ff 1 1 [97,98,99] x_11.2.1 ([1]:List UInt32) x_1.1 x_1.2.1 x_1.2.2) fun x_20=>
 an (F.Ej x_11.2.1 ([1]:List UInt32) 32) fun x_27=>
 if (x_11.2.2 != 0)=true then
 (
  F.B3 x_20 x_27 true
 ) else (
  if (x_20.2.2 != 0)=true then
  (
   F.B3 x_20 x_27 true
  ) else (
   if (!x_27.2)=true then
   (
    F.B3 x_20 x_27 true
   ) else (
    if ((x_20.1.length:Int) != 32)=true then
    (
     F.B3 x_20 x_27 true
    ) else (
     F.B3 x_20 x_27 ((x_20.2.1.length:Int) != 32)
    )
   )
  )
 )
noncomputable def F.BY (a0:Int) (a1:Int) (a2:List UInt8) (a3:List UInt8) (a4:List UInt8) (a5:List UInt8) (x_2:Int) (x_3:List UInt32) (x_11:List UInt32) (x_15:List UInt32):Bool→Option (Bool)
 | x_25=>
  if x_25=true then
  (
   an (F.BP a0 a1 a2 a3 a4 a5) fun x_27=>
   some (x_27 != 0)
  ) else (
   an (F.B2 x_3 x_15) fun x_28=>
   an (F.Ej x_11 x_28.1 x_2) fun x_31=>
   an (F.BP a0 a1 a2 a3 a4 a5) fun x_34=>
   an (F.BP a0 a1 a2 a3 a4 x_31.1) fun x_35=>
   if x_28.2=true then
   (
    if x_31.2=true then
    (
     some (x_34 == x_35)
    ) else (
     some false
    )
   ) else (
    some false
   )
  )
noncomputable def F.Df (a0:Int) (a1:Int) (a2:List UInt8) (a3:List UInt8) (a4:List UInt8) (a5:List UInt8) (x_2:Int) (x_3:List UInt32):Bool→Option (Bool)
 | x_7=>
  if x_7=true then
  (
   an (F.BP a0 a1 a2 a3 a4 a5) fun x_9=>
   some (x_9 != 0)
  ) else (
   an (tkO a5 (x_2:Int)) fun x_10=>
   an (F.BI x_10) fun x_11=>
   an (drO a5 (x_2:Int)) fun x_14=>
   an (F.BI x_14) fun x_15=>
   an (F.BG x_11) fun x_18=>
   if (x_18 == 0)=true then
   (
    F.BY a0 a1 a2 a3 a4 a5 x_2 x_3 x_11 x_15 true
   ) else (
    an (F.BG x_15) fun x_20=>
    if (x_20 == 0)=true then
    (
     F.BY a0 a1 a2 a3 a4 a5 x_2 x_3 x_11 x_15 true
    ) else (
     an (F.BK x_11 x_3) fun x_22=>
     if (decide ((0:Int)≤x_22))=true then
     (
      F.BY a0 a1 a2 a3 a4 a5 x_2 x_3 x_11 x_15 true
     ) else (
      an (F.BK x_15 x_3) fun x_24=>
      F.BY a0 a1 a2 a3 a4 a5 x_2 x_3 x_11 x_15 (decide ((0:Int)≤x_24))
     )
    )
   )
  )
noncomputable def F.FE (a0:Int) (a1:Int) (a2:List UInt8) (a3:List UInt8) (a4:List UInt8) (a5:List UInt8):Option (Bool):=
 an (F.E1 ) fun x_1=>
 if (!x_1)=true then
 (
  some false
 ) else (
  an (F.Ch a1) fun x_2=>
  an (F.Ct a1) fun x_3=>
  if (x_2 == 0)=true then
  (
   F.Df a0 a1 a2 a3 a4 a5 x_2 x_3 true
  ) else (
   F.Df a0 a1 a2 a3 a4 a5 x_2 x_3 ((a5.length:Int) != (wI (2*x_2)))
  )
 )
end Go.Gk
end
