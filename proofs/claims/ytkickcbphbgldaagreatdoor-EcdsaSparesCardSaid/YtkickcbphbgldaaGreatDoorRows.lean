/-
  NARROWER THAN 'FOR EVERY INPUT', by the rows' own cells (each row's printed sentence says how): EcdsaVerifies: laid · EcdsaRecovers: laid · EcdsaTwins: laid · EcdsaCounts: laid · EcdsaSpares: laid · EcdsaComplete: laid · EcdsaEquation: laid.
  DERIVED. THE GIVEN ROWS OF THIS SEAT. 7 by the template 'for every input the law returns true; each argument reads behind the call as it read before'; 0 by the template 'total and deterministic' (their statements: YtkickcbphbgldaaGreatDoorTotals.lean).
  GIVEN WITH THE SEED: the statements are not yours to turn. If you find one false, say at which input.
  Laid BY PROGRAM, IN A SANDBOX (cutbox-rows.mjs): the forced cells as the released guide's own fill.sh prints them over the translation 96d63693793eba88… (all of the seat's roots in one cut). By AI agents, Wed Nov 11 2026. No macro, syntax, notation, axiom, sorry.
-/
import Derived.Test.YtkickcbphbgldaaGreatDoorChecked
import GoSem.Claim
import GoSem.ClaimJoined
import GoSem.ClaimMapViews
import Derived.JoinedTies
import Derived.KernelRfl
namespace Go.Proofs.YtkickcbphbgldaaGreatDoor
/- THE CELL 'sum', in the pinned program and in every row, IS THE sha256 OF THE DUMP (.gsa) THAT YtkickcbphbgldaaGreatDoorProg.lean LOADS. Nothing in Lean hashes anything: it is a label: what it is worth is what the hold of that sum in a sandbox is worth. -/
noncomputable def Tryz.pinned : Pinned := { name := "ytkickcbphbgldaagreatdoor", sum := "96d63693793eba8880bf9c20ea8254b41d44fca0e15d7ccb90c2995972abf5de", checked := Tryz.checked }
namespace Rows
def none {H : Type} : Left H := { results := [], args := [] }

/- WHAT THE LISTED PACKAGE-LEVEL VARIABLES READ AS WHEN THE CALL BEGINS. Each datum BY PROGRAM (the guide's laid-datum.mjs) off the statement by which the dump's own 'gosem.cut.vars' lays the variable. In a bare row this is a premise. The card (YtkickcbphbgldaaGreatDoorCards.lean) ties it to the program's text. -/
def laid_signet_sha_k256 {H : Type} : DataW H := .agg [.lit (.int .u32 1116352408), .lit (.int .u32 1899447441), .lit (.int .u32 3049323471), .lit (.int .u32 3921009573), .lit (.int .u32 961987163), .lit (.int .u32 1508970993), .lit (.int .u32 2453635748), .lit (.int .u32 2870763221), .lit (.int .u32 3624381080), .lit (.int .u32 310598401), .lit (.int .u32 607225278), .lit (.int .u32 1426881987), .lit (.int .u32 1925078388), .lit (.int .u32 2162078206), .lit (.int .u32 2614888103), .lit (.int .u32 3248222580), .lit (.int .u32 3835390401), .lit (.int .u32 4022224774), .lit (.int .u32 264347078), .lit (.int .u32 604807628), .lit (.int .u32 770255983), .lit (.int .u32 1249150122), .lit (.int .u32 1555081692), .lit (.int .u32 1996064986), .lit (.int .u32 2554220882), .lit (.int .u32 2821834349), .lit (.int .u32 2952996808), .lit (.int .u32 3210313671), .lit (.int .u32 3336571891), .lit (.int .u32 3584528711), .lit (.int .u32 113926993), .lit (.int .u32 338241895), .lit (.int .u32 666307205), .lit (.int .u32 773529912), .lit (.int .u32 1294757372), .lit (.int .u32 1396182291), .lit (.int .u32 1695183700), .lit (.int .u32 1986661051), .lit (.int .u32 2177026350), .lit (.int .u32 2456956037), .lit (.int .u32 2730485921), .lit (.int .u32 2820302411), .lit (.int .u32 3259730800), .lit (.int .u32 3345764771), .lit (.int .u32 3516065817), .lit (.int .u32 3600352804), .lit (.int .u32 4094571909), .lit (.int .u32 275423344), .lit (.int .u32 430227734), .lit (.int .u32 506948616), .lit (.int .u32 659060556), .lit (.int .u32 883997877), .lit (.int .u32 958139571), .lit (.int .u32 1322822218), .lit (.int .u32 1537002063), .lit (.int .u32 1747873779), .lit (.int .u32 1955562222), .lit (.int .u32 2024104815), .lit (.int .u32 2227730452), .lit (.int .u32 2361852424), .lit (.int .u32 2428436474), .lit (.int .u32 2756734187), .lit (.int .u32 3204031479), .lit (.int .u32 3329325298)]
def laid_signet_sha_k512 {H : Type} : DataW H := .agg [.lit (.int .u64 4794697086780616226), .lit (.int .u64 8158064640168781261), .lit (.int .u64 13096744586834688815), .lit (.int .u64 16840607885511220156), .lit (.int .u64 4131703408338449720), .lit (.int .u64 6480981068601479193), .lit (.int .u64 10538285296894168987), .lit (.int .u64 12329834152419229976), .lit (.int .u64 15566598209576043074), .lit (.int .u64 1334009975649890238), .lit (.int .u64 2608012711638119052), .lit (.int .u64 6128411473006802146), .lit (.int .u64 8268148722764581231), .lit (.int .u64 9286055187155687089), .lit (.int .u64 11230858885718282805), .lit (.int .u64 13951009754708518548), .lit (.int .u64 16472876342353939154), .lit (.int .u64 17275323862435702243), .lit (.int .u64 1135362057144423861), .lit (.int .u64 2597628984639134821), .lit (.int .u64 3308224258029322869), .lit (.int .u64 5365058923640841347), .lit (.int .u64 6679025012923562964), .lit (.int .u64 8573033837759648693), .lit (.int .u64 10970295158949994411), .lit (.int .u64 12119686244451234320), .lit (.int .u64 12683024718118986047), .lit (.int .u64 13788192230050041572), .lit (.int .u64 14330467153632333762), .lit (.int .u64 15395433587784984357), .lit (.int .u64 489312712824947311), .lit (.int .u64 1452737877330783856), .lit (.int .u64 2861767655752347644), .lit (.int .u64 3322285676063803686), .lit (.int .u64 5560940570517711597), .lit (.int .u64 5996557281743188959), .lit (.int .u64 7280758554555802590), .lit (.int .u64 8532644243296465576), .lit (.int .u64 9350256976987008742), .lit (.int .u64 10552545826968843579), .lit (.int .u64 11727347734174303076), .lit (.int .u64 12113106623233404929), .lit (.int .u64 14000437183269869457), .lit (.int .u64 14369950271660146224), .lit (.int .u64 15101387698204529176), .lit (.int .u64 15463397548674623760), .lit (.int .u64 17586052441742319658), .lit (.int .u64 1182934255886127544), .lit (.int .u64 1847814050463011016), .lit (.int .u64 2177327727835720531), .lit (.int .u64 2830643537854262169), .lit (.int .u64 3796741975233480872), .lit (.int .u64 4115178125766777443), .lit (.int .u64 5681478168544905931), .lit (.int .u64 6601373596472566643), .lit (.int .u64 7507060721942968483), .lit (.int .u64 8399075790359081724), .lit (.int .u64 8693463985226723168), .lit (.int .u64 9568029438360202098), .lit (.int .u64 10144078919501101548), .lit (.int .u64 10430055236837252648), .lit (.int .u64 11840083180663258601), .lit (.int .u64 13761210420658862357), .lit (.int .u64 14299343276471374635), .lit (.int .u64 14566680578165727644), .lit (.int .u64 15097957966210449927), .lit (.int .u64 16922976911328602910), .lit (.int .u64 17689382322260857208), .lit (.int .u64 500013540394364858), .lit (.int .u64 748580250866718886), .lit (.int .u64 1242879168328830382), .lit (.int .u64 1977374033974150939), .lit (.int .u64 2944078676154940804), .lit (.int .u64 3659926193048069267), .lit (.int .u64 4368137639120453308), .lit (.int .u64 4836135668995329356), .lit (.int .u64 5532061633213252278), .lit (.int .u64 6448918945643986474), .lit (.int .u64 6902733635092675308), .lit (.int .u64 7801388544844847127)]
def laid_signet_sha_start256 {H : Type} : DataW H := .agg [.lit (.int .u32 1779033703), .lit (.int .u32 3144134277), .lit (.int .u32 1013904242), .lit (.int .u32 2773480762), .lit (.int .u32 1359893119), .lit (.int .u32 2600822924), .lit (.int .u32 528734635), .lit (.int .u32 1541459225)]
def laid_signet_sha_start384 {H : Type} : DataW H := .agg [.lit (.int .u64 14680500436340154072), .lit (.int .u64 7105036623409894663), .lit (.int .u64 10473403895298186519), .lit (.int .u64 1526699215303891257), .lit (.int .u64 7436329637833083697), .lit (.int .u64 10282925794625328401), .lit (.int .u64 15784041429090275239), .lit (.int .u64 5167115440072839076)]
def laid_signet_sha_start512 {H : Type} : DataW H := .agg [.lit (.int .u64 7640891576956012808), .lit (.int .u64 13503953896175478587), .lit (.int .u64 4354685564936845355), .lit (.int .u64 11912009170470909681), .lit (.int .u64 5840696475078001361), .lit (.int .u64 11170449401992604703), .lit (.int .u64 2270897969802886507), .lit (.int .u64 6620516959819538809)]
def laid_signet_signetref4_k256 {H : Type} : DataW H := .agg [.lit (.int .u32 1116352408), .lit (.int .u32 1899447441), .lit (.int .u32 3049323471), .lit (.int .u32 3921009573), .lit (.int .u32 961987163), .lit (.int .u32 1508970993), .lit (.int .u32 2453635748), .lit (.int .u32 2870763221), .lit (.int .u32 3624381080), .lit (.int .u32 310598401), .lit (.int .u32 607225278), .lit (.int .u32 1426881987), .lit (.int .u32 1925078388), .lit (.int .u32 2162078206), .lit (.int .u32 2614888103), .lit (.int .u32 3248222580), .lit (.int .u32 3835390401), .lit (.int .u32 4022224774), .lit (.int .u32 264347078), .lit (.int .u32 604807628), .lit (.int .u32 770255983), .lit (.int .u32 1249150122), .lit (.int .u32 1555081692), .lit (.int .u32 1996064986), .lit (.int .u32 2554220882), .lit (.int .u32 2821834349), .lit (.int .u32 2952996808), .lit (.int .u32 3210313671), .lit (.int .u32 3336571891), .lit (.int .u32 3584528711), .lit (.int .u32 113926993), .lit (.int .u32 338241895), .lit (.int .u32 666307205), .lit (.int .u32 773529912), .lit (.int .u32 1294757372), .lit (.int .u32 1396182291), .lit (.int .u32 1695183700), .lit (.int .u32 1986661051), .lit (.int .u32 2177026350), .lit (.int .u32 2456956037), .lit (.int .u32 2730485921), .lit (.int .u32 2820302411), .lit (.int .u32 3259730800), .lit (.int .u32 3345764771), .lit (.int .u32 3516065817), .lit (.int .u32 3600352804), .lit (.int .u32 4094571909), .lit (.int .u32 275423344), .lit (.int .u32 430227734), .lit (.int .u32 506948616), .lit (.int .u32 659060556), .lit (.int .u32 883997877), .lit (.int .u32 958139571), .lit (.int .u32 1322822218), .lit (.int .u32 1537002063), .lit (.int .u32 1747873779), .lit (.int .u32 1955562222), .lit (.int .u32 2024104815), .lit (.int .u32 2227730452), .lit (.int .u32 2361852424), .lit (.int .u32 2428436474), .lit (.int .u32 2756734187), .lit (.int .u32 3204031479), .lit (.int .u32 3329325298)]
def laid_signet_signetref4_k512 {H : Type} : DataW H := .agg [.lit (.int .u64 4794697086780616226), .lit (.int .u64 8158064640168781261), .lit (.int .u64 13096744586834688815), .lit (.int .u64 16840607885511220156), .lit (.int .u64 4131703408338449720), .lit (.int .u64 6480981068601479193), .lit (.int .u64 10538285296894168987), .lit (.int .u64 12329834152419229976), .lit (.int .u64 15566598209576043074), .lit (.int .u64 1334009975649890238), .lit (.int .u64 2608012711638119052), .lit (.int .u64 6128411473006802146), .lit (.int .u64 8268148722764581231), .lit (.int .u64 9286055187155687089), .lit (.int .u64 11230858885718282805), .lit (.int .u64 13951009754708518548), .lit (.int .u64 16472876342353939154), .lit (.int .u64 17275323862435702243), .lit (.int .u64 1135362057144423861), .lit (.int .u64 2597628984639134821), .lit (.int .u64 3308224258029322869), .lit (.int .u64 5365058923640841347), .lit (.int .u64 6679025012923562964), .lit (.int .u64 8573033837759648693), .lit (.int .u64 10970295158949994411), .lit (.int .u64 12119686244451234320), .lit (.int .u64 12683024718118986047), .lit (.int .u64 13788192230050041572), .lit (.int .u64 14330467153632333762), .lit (.int .u64 15395433587784984357), .lit (.int .u64 489312712824947311), .lit (.int .u64 1452737877330783856), .lit (.int .u64 2861767655752347644), .lit (.int .u64 3322285676063803686), .lit (.int .u64 5560940570517711597), .lit (.int .u64 5996557281743188959), .lit (.int .u64 7280758554555802590), .lit (.int .u64 8532644243296465576), .lit (.int .u64 9350256976987008742), .lit (.int .u64 10552545826968843579), .lit (.int .u64 11727347734174303076), .lit (.int .u64 12113106623233404929), .lit (.int .u64 14000437183269869457), .lit (.int .u64 14369950271660146224), .lit (.int .u64 15101387698204529176), .lit (.int .u64 15463397548674623760), .lit (.int .u64 17586052441742319658), .lit (.int .u64 1182934255886127544), .lit (.int .u64 1847814050463011016), .lit (.int .u64 2177327727835720531), .lit (.int .u64 2830643537854262169), .lit (.int .u64 3796741975233480872), .lit (.int .u64 4115178125766777443), .lit (.int .u64 5681478168544905931), .lit (.int .u64 6601373596472566643), .lit (.int .u64 7507060721942968483), .lit (.int .u64 8399075790359081724), .lit (.int .u64 8693463985226723168), .lit (.int .u64 9568029438360202098), .lit (.int .u64 10144078919501101548), .lit (.int .u64 10430055236837252648), .lit (.int .u64 11840083180663258601), .lit (.int .u64 13761210420658862357), .lit (.int .u64 14299343276471374635), .lit (.int .u64 14566680578165727644), .lit (.int .u64 15097957966210449927), .lit (.int .u64 16922976911328602910), .lit (.int .u64 17689382322260857208), .lit (.int .u64 500013540394364858), .lit (.int .u64 748580250866718886), .lit (.int .u64 1242879168328830382), .lit (.int .u64 1977374033974150939), .lit (.int .u64 2944078676154940804), .lit (.int .u64 3659926193048069267), .lit (.int .u64 4368137639120453308), .lit (.int .u64 4836135668995329356), .lit (.int .u64 5532061633213252278), .lit (.int .u64 6448918945643986474), .lit (.int .u64 6902733635092675308), .lit (.int .u64 7801388544844847127)]
def laid_signet_signetref4_start256 {H : Type} : DataW H := .agg [.lit (.int .u32 1779033703), .lit (.int .u32 3144134277), .lit (.int .u32 1013904242), .lit (.int .u32 2773480762), .lit (.int .u32 1359893119), .lit (.int .u32 2600822924), .lit (.int .u32 528734635), .lit (.int .u32 1541459225)]
def laid_signet_signetref4_start384 {H : Type} : DataW H := .agg [.lit (.int .u64 14680500436340154072), .lit (.int .u64 7105036623409894663), .lit (.int .u64 10473403895298186519), .lit (.int .u64 1526699215303891257), .lit (.int .u64 7436329637833083697), .lit (.int .u64 10282925794625328401), .lit (.int .u64 15784041429090275239), .lit (.int .u64 5167115440072839076)]
def laid_signet_signetref4_start512 {H : Type} : DataW H := .agg [.lit (.int .u64 7640891576956012808), .lit (.int .u64 13503953896175478587), .lit (.int .u64 4354685564936845355), .lit (.int .u64 11912009170470909681), .lit (.int .u64 5840696475078001361), .lit (.int .u64 11170449401992604703), .lit (.int .u64 2270897969802886507), .lit (.int .u64 6620516959819538809)]

/-- 'signetlaw12.EcdsaVerifies': WHATEVER THE INPUT: true; the input reads as it did. -/
def ecdsaVerifiesSpec : ChangeSpec := { name := "ecdsaVerifies", fn := fun _ => fun
  | [d1, d2, d3, d4, d5, d6] => { results := [.lit (.bool true)], args := [d1, d2, d3, d4, d5, d6] }
  | _ => none }
def ecdsaVerifiesRow : OpenClaim := { program := "ytkickcbphbgldaagreatdoor", sum := "96d63693793eba8880bf9c20ea8254b41d44fca0e15d7ccb90c2995972abf5de", func := "signet/signetlaw12.EcdsaVerifies", spec := "ecdsaVerifies", unfollowed := true, recurses := true, named := ["math/bits.overflowError", "signet/sha.start256", "signet/sha.start384", "signet/sha.start512", "signet/sha.k256", "signet/sha.k512", "signet/signetref4.start384", "signet/signetref4.start512", "signet/signetref4.start256", "signet/signetref4.k256", "signet/signetref4.k512"], apart := false, laid := [("signet/sha.k256", laid_signet_sha_k256), ("signet/sha.k512", laid_signet_sha_k512), ("signet/sha.start256", laid_signet_sha_start256), ("signet/sha.start384", laid_signet_sha_start384), ("signet/sha.start512", laid_signet_sha_start512), ("signet/signetref4.k256", laid_signet_signetref4_k256), ("signet/signetref4.k512", laid_signet_signetref4_k512), ("signet/signetref4.start256", laid_signet_signetref4_start256), ("signet/signetref4.start384", laid_signet_signetref4_start384), ("signet/signetref4.start512", laid_signet_signetref4_start512)] }
def EcdsaVerifiesSaid : Prop := ecdsaVerifiesRow.holds Tryz.pinned (OpenSpec.ofChange ecdsaVerifiesSpec)

/-- ITS FALSE NEIGHBOUR: 'it returns false'. Refute it at one input. -/
def ecdsaVerifiesWrong : ChangeSpec := { name := "ecdsaVerifies", fn := fun _ => fun
  | [d1, d2, d3, d4, d5, d6] => { results := [.lit (.bool false)], args := [d1, d2, d3, d4, d5, d6] }
  | _ => none }
def EcdsaVerifiesWrongFalsely : Prop := ecdsaVerifiesRow.holds Tryz.pinned (OpenSpec.ofChange ecdsaVerifiesWrong)

/-- 'signetlaw12.EcdsaRecovers': WHATEVER THE INPUT: true; the input reads as it did. -/
def ecdsaRecoversSpec : ChangeSpec := { name := "ecdsaRecovers", fn := fun _ => fun
  | [d1, d2, d3, d4, d5, d6] => { results := [.lit (.bool true)], args := [d1, d2, d3, d4, d5, d6] }
  | _ => none }
def ecdsaRecoversRow : OpenClaim := { program := "ytkickcbphbgldaagreatdoor", sum := "96d63693793eba8880bf9c20ea8254b41d44fca0e15d7ccb90c2995972abf5de", func := "signet/signetlaw12.EcdsaRecovers", spec := "ecdsaRecovers", unfollowed := true, recurses := true, named := ["math/bits.overflowError", "signet/sha.start256", "signet/sha.start384", "signet/sha.start512", "signet/sha.k256", "signet/sha.k512", "signet/signetref4.start384", "signet/signetref4.start512", "signet/signetref4.start256", "signet/signetref4.k256", "signet/signetref4.k512"], apart := false, laid := [("signet/sha.k256", laid_signet_sha_k256), ("signet/sha.k512", laid_signet_sha_k512), ("signet/sha.start256", laid_signet_sha_start256), ("signet/sha.start384", laid_signet_sha_start384), ("signet/sha.start512", laid_signet_sha_start512), ("signet/signetref4.k256", laid_signet_signetref4_k256), ("signet/signetref4.k512", laid_signet_signetref4_k512), ("signet/signetref4.start256", laid_signet_signetref4_start256), ("signet/signetref4.start384", laid_signet_signetref4_start384), ("signet/signetref4.start512", laid_signet_signetref4_start512)] }
def EcdsaRecoversSaid : Prop := ecdsaRecoversRow.holds Tryz.pinned (OpenSpec.ofChange ecdsaRecoversSpec)

/-- ITS FALSE NEIGHBOUR: 'it returns false'. Refute it at one input. -/
def ecdsaRecoversWrong : ChangeSpec := { name := "ecdsaRecovers", fn := fun _ => fun
  | [d1, d2, d3, d4, d5, d6] => { results := [.lit (.bool false)], args := [d1, d2, d3, d4, d5, d6] }
  | _ => none }
def EcdsaRecoversWrongFalsely : Prop := ecdsaRecoversRow.holds Tryz.pinned (OpenSpec.ofChange ecdsaRecoversWrong)

/-- 'signetlaw12.EcdsaTwins': WHATEVER THE INPUT: true; the input reads as it did. -/
def ecdsaTwinsSpec : ChangeSpec := { name := "ecdsaTwins", fn := fun _ => fun
  | [d1, d2, d3, d4, d5, d6] => { results := [.lit (.bool true)], args := [d1, d2, d3, d4, d5, d6] }
  | _ => none }
def ecdsaTwinsRow : OpenClaim := { program := "ytkickcbphbgldaagreatdoor", sum := "96d63693793eba8880bf9c20ea8254b41d44fca0e15d7ccb90c2995972abf5de", func := "signet/signetlaw12.EcdsaTwins", spec := "ecdsaTwins", unfollowed := true, recurses := true, named := ["math/bits.overflowError", "signet/sha.start256", "signet/sha.start384", "signet/sha.start512", "signet/sha.k256", "signet/sha.k512"], apart := false, laid := [("signet/sha.k256", laid_signet_sha_k256), ("signet/sha.k512", laid_signet_sha_k512), ("signet/sha.start256", laid_signet_sha_start256), ("signet/sha.start384", laid_signet_sha_start384), ("signet/sha.start512", laid_signet_sha_start512)] }
def EcdsaTwinsSaid : Prop := ecdsaTwinsRow.holds Tryz.pinned (OpenSpec.ofChange ecdsaTwinsSpec)

/-- ITS FALSE NEIGHBOUR: 'it returns false'. Refute it at one input. -/
def ecdsaTwinsWrong : ChangeSpec := { name := "ecdsaTwins", fn := fun _ => fun
  | [d1, d2, d3, d4, d5, d6] => { results := [.lit (.bool false)], args := [d1, d2, d3, d4, d5, d6] }
  | _ => none }
def EcdsaTwinsWrongFalsely : Prop := ecdsaTwinsRow.holds Tryz.pinned (OpenSpec.ofChange ecdsaTwinsWrong)

/-- 'signetlaw12.EcdsaCounts': WHATEVER THE INPUT: true; the input reads as it did. -/
def ecdsaCountsSpec : ChangeSpec := { name := "ecdsaCounts", fn := fun _ => fun
  | [d1, d2, d3, d4, d5, d6, d7, d8] => { results := [.lit (.bool true)], args := [d1, d2, d3, d4, d5, d6, d7, d8] }
  | _ => none }
def ecdsaCountsRow : OpenClaim := { program := "ytkickcbphbgldaagreatdoor", sum := "96d63693793eba8880bf9c20ea8254b41d44fca0e15d7ccb90c2995972abf5de", func := "signet/signetlaw12.EcdsaCounts", spec := "ecdsaCounts", unfollowed := true, recurses := true, named := ["math/bits.overflowError", "signet/sha.start256", "signet/sha.start384", "signet/sha.start512", "signet/sha.k256", "signet/sha.k512"], apart := false, laid := [("signet/sha.k256", laid_signet_sha_k256), ("signet/sha.k512", laid_signet_sha_k512), ("signet/sha.start256", laid_signet_sha_start256), ("signet/sha.start384", laid_signet_sha_start384), ("signet/sha.start512", laid_signet_sha_start512)] }
def EcdsaCountsSaid : Prop := ecdsaCountsRow.holds Tryz.pinned (OpenSpec.ofChange ecdsaCountsSpec)

/-- ITS FALSE NEIGHBOUR: 'it returns false'. Refute it at one input. -/
def ecdsaCountsWrong : ChangeSpec := { name := "ecdsaCounts", fn := fun _ => fun
  | [d1, d2, d3, d4, d5, d6, d7, d8] => { results := [.lit (.bool false)], args := [d1, d2, d3, d4, d5, d6, d7, d8] }
  | _ => none }
def EcdsaCountsWrongFalsely : Prop := ecdsaCountsRow.holds Tryz.pinned (OpenSpec.ofChange ecdsaCountsWrong)

/-- 'signetlaw12.EcdsaSpares': WHATEVER THE INPUT: true; the input reads as it did. -/
def ecdsaSparesSpec : ChangeSpec := { name := "ecdsaSpares", fn := fun _ => fun
  | [d1, d2, d3, d4] => { results := [.lit (.bool true)], args := [d1, d2, d3, d4] }
  | _ => none }
def ecdsaSparesRow : OpenClaim := { program := "ytkickcbphbgldaagreatdoor", sum := "96d63693793eba8880bf9c20ea8254b41d44fca0e15d7ccb90c2995972abf5de", func := "signet/signetlaw12.EcdsaSpares", spec := "ecdsaSpares", unfollowed := true, recurses := true, named := ["math/bits.overflowError", "signet/sha.start256", "signet/sha.start384", "signet/sha.start512", "signet/sha.k256", "signet/sha.k512"], apart := false, laid := [("signet/sha.k256", laid_signet_sha_k256), ("signet/sha.k512", laid_signet_sha_k512), ("signet/sha.start256", laid_signet_sha_start256), ("signet/sha.start384", laid_signet_sha_start384), ("signet/sha.start512", laid_signet_sha_start512)] }
def EcdsaSparesSaid : Prop := ecdsaSparesRow.holds Tryz.pinned (OpenSpec.ofChange ecdsaSparesSpec)

/-- ITS FALSE NEIGHBOUR: 'it returns false'. Refute it at one input. -/
def ecdsaSparesWrong : ChangeSpec := { name := "ecdsaSpares", fn := fun _ => fun
  | [d1, d2, d3, d4] => { results := [.lit (.bool false)], args := [d1, d2, d3, d4] }
  | _ => none }
def EcdsaSparesWrongFalsely : Prop := ecdsaSparesRow.holds Tryz.pinned (OpenSpec.ofChange ecdsaSparesWrong)

/-- 'signetlaw12.EcdsaComplete': WHATEVER THE INPUT: true; the input reads as it did. -/
def ecdsaCompleteSpec : ChangeSpec := { name := "ecdsaComplete", fn := fun _ => fun
  | [d1, d2, d3, d4, d5, d6] => { results := [.lit (.bool true)], args := [d1, d2, d3, d4, d5, d6] }
  | _ => none }
def ecdsaCompleteRow : OpenClaim := { program := "ytkickcbphbgldaagreatdoor", sum := "96d63693793eba8880bf9c20ea8254b41d44fca0e15d7ccb90c2995972abf5de", func := "signet/signetlaw12.EcdsaComplete", spec := "ecdsaComplete", unfollowed := true, recurses := true, named := ["math/bits.overflowError", "signet/sha.start256", "signet/sha.start384", "signet/sha.start512", "signet/sha.k256", "signet/sha.k512"], apart := false, laid := [("signet/sha.k256", laid_signet_sha_k256), ("signet/sha.k512", laid_signet_sha_k512), ("signet/sha.start256", laid_signet_sha_start256), ("signet/sha.start384", laid_signet_sha_start384), ("signet/sha.start512", laid_signet_sha_start512)] }
def EcdsaCompleteSaid : Prop := ecdsaCompleteRow.holds Tryz.pinned (OpenSpec.ofChange ecdsaCompleteSpec)

/-- ITS FALSE NEIGHBOUR: 'it returns false'. Refute it at one input. -/
def ecdsaCompleteWrong : ChangeSpec := { name := "ecdsaComplete", fn := fun _ => fun
  | [d1, d2, d3, d4, d5, d6] => { results := [.lit (.bool false)], args := [d1, d2, d3, d4, d5, d6] }
  | _ => none }
def EcdsaCompleteWrongFalsely : Prop := ecdsaCompleteRow.holds Tryz.pinned (OpenSpec.ofChange ecdsaCompleteWrong)

/-- 'signetlaw12.EcdsaEquation': WHATEVER THE INPUT: true; the input reads as it did. -/
def ecdsaEquationSpec : ChangeSpec := { name := "ecdsaEquation", fn := fun _ => fun
  | [d1, d2, d3, d4, d5, d6] => { results := [.lit (.bool true)], args := [d1, d2, d3, d4, d5, d6] }
  | _ => none }
def ecdsaEquationRow : OpenClaim := { program := "ytkickcbphbgldaagreatdoor", sum := "96d63693793eba8880bf9c20ea8254b41d44fca0e15d7ccb90c2995972abf5de", func := "signet/signetlaw12.EcdsaEquation", spec := "ecdsaEquation", unfollowed := true, recurses := true, named := ["math/bits.overflowError", "signet/sha.start256", "signet/sha.start384", "signet/sha.start512", "signet/sha.k256", "signet/sha.k512"], apart := false, laid := [("signet/sha.k256", laid_signet_sha_k256), ("signet/sha.k512", laid_signet_sha_k512), ("signet/sha.start256", laid_signet_sha_start256), ("signet/sha.start384", laid_signet_sha_start384), ("signet/sha.start512", laid_signet_sha_start512)] }
def EcdsaEquationSaid : Prop := ecdsaEquationRow.holds Tryz.pinned (OpenSpec.ofChange ecdsaEquationSpec)

/-- ITS FALSE NEIGHBOUR: 'it returns false'. Refute it at one input. -/
def ecdsaEquationWrong : ChangeSpec := { name := "ecdsaEquation", fn := fun _ => fun
  | [d1, d2, d3, d4, d5, d6] => { results := [.lit (.bool false)], args := [d1, d2, d3, d4, d5, d6] }
  | _ => none }
def EcdsaEquationWrongFalsely : Prop := ecdsaEquationRow.holds Tryz.pinned (OpenSpec.ofChange ecdsaEquationWrong)

/- THE SECOND FORM. 'bulk': how many values and letters a reading holds, each counted each time it is reached (what is shared counts as often as it is met; a slice's spare places count too). A statement '..UptoSaid' is the law's where the arguments, and the package variables that the reading takes, are together of bulk at most 1048576: NARROWER than '..Said'. Prove '..Said' where nothing that the law and all that it calls make is longer than what came in: it says more and counts as full. Else prove '..UptoSaid'. A law counts once. -/
mutual
def uptoBulk {H : Type} : DataW H → Nat
  | .lit (.string bytes) => bytes.length + 1
  | .lit _ => 1
  | .nil => 1
  | .ptr d => uptoBulk d + 1
  | .slice elems spare => uptoBulkAll elems + uptoBulkAll spare + 1
  | .agg parts => uptoBulkAll parts + 1
  | .iface _ d => uptoBulk d + 1
  | .map entries => uptoBulkEntries entries + 1
  | .held _ => 1
def uptoBulkAll {H : Type} : List (DataW H) → Nat
  | [] => 0
  | d :: r => uptoBulk d + uptoBulkAll r
def uptoBulkEntries {H : Type} : List (Lit × DataW H) → Nat
  | [] => 0
  | x :: r => uptoBulkEntry x + uptoBulkEntries r
def uptoBulkEntry {H : Type} : Lit × DataW H → Nat
  | (.string bytes, d) => bytes.length + uptoBulk d + 1
  | (_, d) => uptoBulk d + 1
 end
def uptoSmall : (H : Type) → List (DataW H) → Bool := fun _ ds => decide (uptoBulkAll ds ≤ 1048576)
def OpenSpec.upto (s : _root_.Go.ChangeSpec) : _root_.Go.OpenSpec := { _root_.Go.OpenSpec.ofChange s with cond := some uptoSmall }

/-- 'signetlaw12.EcdsaVerifies', WHERE WHAT IT READS IS OF BULK AT MOST 1048576: true; the input reads as it did. -/
def ecdsaVerifiesUptoRow : OpenClaim := { program := "ytkickcbphbgldaagreatdoor", sum := "96d63693793eba8880bf9c20ea8254b41d44fca0e15d7ccb90c2995972abf5de", func := "signet/signetlaw12.EcdsaVerifies", spec := "ecdsaVerifies", unfollowed := true, recurses := true, named := ["math/bits.overflowError", "signet/sha.start256", "signet/sha.start384", "signet/sha.start512", "signet/sha.k256", "signet/sha.k512", "signet/signetref4.start384", "signet/signetref4.start512", "signet/signetref4.start256", "signet/signetref4.k256", "signet/signetref4.k512"], apart := false, laid := [("signet/sha.k256", laid_signet_sha_k256), ("signet/sha.k512", laid_signet_sha_k512), ("signet/sha.start256", laid_signet_sha_start256), ("signet/sha.start384", laid_signet_sha_start384), ("signet/sha.start512", laid_signet_sha_start512), ("signet/signetref4.k256", laid_signet_signetref4_k256), ("signet/signetref4.k512", laid_signet_signetref4_k512), ("signet/signetref4.start256", laid_signet_signetref4_start256), ("signet/signetref4.start384", laid_signet_signetref4_start384), ("signet/signetref4.start512", laid_signet_signetref4_start512)], narrowed := true }
def EcdsaVerifiesUptoSaid : Prop := ecdsaVerifiesUptoRow.holds Tryz.pinned (OpenSpec.upto ecdsaVerifiesSpec)

/-- 'signetlaw12.EcdsaRecovers', WHERE WHAT IT READS IS OF BULK AT MOST 1048576: true; the input reads as it did. -/
def ecdsaRecoversUptoRow : OpenClaim := { program := "ytkickcbphbgldaagreatdoor", sum := "96d63693793eba8880bf9c20ea8254b41d44fca0e15d7ccb90c2995972abf5de", func := "signet/signetlaw12.EcdsaRecovers", spec := "ecdsaRecovers", unfollowed := true, recurses := true, named := ["math/bits.overflowError", "signet/sha.start256", "signet/sha.start384", "signet/sha.start512", "signet/sha.k256", "signet/sha.k512", "signet/signetref4.start384", "signet/signetref4.start512", "signet/signetref4.start256", "signet/signetref4.k256", "signet/signetref4.k512"], apart := false, laid := [("signet/sha.k256", laid_signet_sha_k256), ("signet/sha.k512", laid_signet_sha_k512), ("signet/sha.start256", laid_signet_sha_start256), ("signet/sha.start384", laid_signet_sha_start384), ("signet/sha.start512", laid_signet_sha_start512), ("signet/signetref4.k256", laid_signet_signetref4_k256), ("signet/signetref4.k512", laid_signet_signetref4_k512), ("signet/signetref4.start256", laid_signet_signetref4_start256), ("signet/signetref4.start384", laid_signet_signetref4_start384), ("signet/signetref4.start512", laid_signet_signetref4_start512)], narrowed := true }
def EcdsaRecoversUptoSaid : Prop := ecdsaRecoversUptoRow.holds Tryz.pinned (OpenSpec.upto ecdsaRecoversSpec)

/-- 'signetlaw12.EcdsaTwins', WHERE WHAT IT READS IS OF BULK AT MOST 1048576: true; the input reads as it did. -/
def ecdsaTwinsUptoRow : OpenClaim := { program := "ytkickcbphbgldaagreatdoor", sum := "96d63693793eba8880bf9c20ea8254b41d44fca0e15d7ccb90c2995972abf5de", func := "signet/signetlaw12.EcdsaTwins", spec := "ecdsaTwins", unfollowed := true, recurses := true, named := ["math/bits.overflowError", "signet/sha.start256", "signet/sha.start384", "signet/sha.start512", "signet/sha.k256", "signet/sha.k512"], apart := false, laid := [("signet/sha.k256", laid_signet_sha_k256), ("signet/sha.k512", laid_signet_sha_k512), ("signet/sha.start256", laid_signet_sha_start256), ("signet/sha.start384", laid_signet_sha_start384), ("signet/sha.start512", laid_signet_sha_start512)], narrowed := true }
def EcdsaTwinsUptoSaid : Prop := ecdsaTwinsUptoRow.holds Tryz.pinned (OpenSpec.upto ecdsaTwinsSpec)

/-- 'signetlaw12.EcdsaCounts', WHERE WHAT IT READS IS OF BULK AT MOST 1048576: true; the input reads as it did. -/
def ecdsaCountsUptoRow : OpenClaim := { program := "ytkickcbphbgldaagreatdoor", sum := "96d63693793eba8880bf9c20ea8254b41d44fca0e15d7ccb90c2995972abf5de", func := "signet/signetlaw12.EcdsaCounts", spec := "ecdsaCounts", unfollowed := true, recurses := true, named := ["math/bits.overflowError", "signet/sha.start256", "signet/sha.start384", "signet/sha.start512", "signet/sha.k256", "signet/sha.k512"], apart := false, laid := [("signet/sha.k256", laid_signet_sha_k256), ("signet/sha.k512", laid_signet_sha_k512), ("signet/sha.start256", laid_signet_sha_start256), ("signet/sha.start384", laid_signet_sha_start384), ("signet/sha.start512", laid_signet_sha_start512)], narrowed := true }
def EcdsaCountsUptoSaid : Prop := ecdsaCountsUptoRow.holds Tryz.pinned (OpenSpec.upto ecdsaCountsSpec)

/-- 'signetlaw12.EcdsaSpares', WHERE WHAT IT READS IS OF BULK AT MOST 1048576: true; the input reads as it did. -/
def ecdsaSparesUptoRow : OpenClaim := { program := "ytkickcbphbgldaagreatdoor", sum := "96d63693793eba8880bf9c20ea8254b41d44fca0e15d7ccb90c2995972abf5de", func := "signet/signetlaw12.EcdsaSpares", spec := "ecdsaSpares", unfollowed := true, recurses := true, named := ["math/bits.overflowError", "signet/sha.start256", "signet/sha.start384", "signet/sha.start512", "signet/sha.k256", "signet/sha.k512"], apart := false, laid := [("signet/sha.k256", laid_signet_sha_k256), ("signet/sha.k512", laid_signet_sha_k512), ("signet/sha.start256", laid_signet_sha_start256), ("signet/sha.start384", laid_signet_sha_start384), ("signet/sha.start512", laid_signet_sha_start512)], narrowed := true }
def EcdsaSparesUptoSaid : Prop := ecdsaSparesUptoRow.holds Tryz.pinned (OpenSpec.upto ecdsaSparesSpec)

/-- 'signetlaw12.EcdsaComplete', WHERE WHAT IT READS IS OF BULK AT MOST 1048576: true; the input reads as it did. -/
def ecdsaCompleteUptoRow : OpenClaim := { program := "ytkickcbphbgldaagreatdoor", sum := "96d63693793eba8880bf9c20ea8254b41d44fca0e15d7ccb90c2995972abf5de", func := "signet/signetlaw12.EcdsaComplete", spec := "ecdsaComplete", unfollowed := true, recurses := true, named := ["math/bits.overflowError", "signet/sha.start256", "signet/sha.start384", "signet/sha.start512", "signet/sha.k256", "signet/sha.k512"], apart := false, laid := [("signet/sha.k256", laid_signet_sha_k256), ("signet/sha.k512", laid_signet_sha_k512), ("signet/sha.start256", laid_signet_sha_start256), ("signet/sha.start384", laid_signet_sha_start384), ("signet/sha.start512", laid_signet_sha_start512)], narrowed := true }
def EcdsaCompleteUptoSaid : Prop := ecdsaCompleteUptoRow.holds Tryz.pinned (OpenSpec.upto ecdsaCompleteSpec)

/-- 'signetlaw12.EcdsaEquation', WHERE WHAT IT READS IS OF BULK AT MOST 1048576: true; the input reads as it did. -/
def ecdsaEquationUptoRow : OpenClaim := { program := "ytkickcbphbgldaagreatdoor", sum := "96d63693793eba8880bf9c20ea8254b41d44fca0e15d7ccb90c2995972abf5de", func := "signet/signetlaw12.EcdsaEquation", spec := "ecdsaEquation", unfollowed := true, recurses := true, named := ["math/bits.overflowError", "signet/sha.start256", "signet/sha.start384", "signet/sha.start512", "signet/sha.k256", "signet/sha.k512"], apart := false, laid := [("signet/sha.k256", laid_signet_sha_k256), ("signet/sha.k512", laid_signet_sha_k512), ("signet/sha.start256", laid_signet_sha_start256), ("signet/sha.start384", laid_signet_sha_start384), ("signet/sha.start512", laid_signet_sha_start512)], narrowed := true }
def EcdsaEquationUptoSaid : Prop := ecdsaEquationUptoRow.holds Tryz.pinned (OpenSpec.upto ecdsaEquationSpec)

end Rows
end Go.Proofs.YtkickcbphbgldaaGreatDoor
