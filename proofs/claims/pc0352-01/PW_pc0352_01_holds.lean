import PyProof.Rows.All
import Wide.All
import OpenK.AllK
import Wide.FinOn
import Lean
import PySem.Challenge.RW_pc0352_01
set_option Elab.async false
set_option maxRecDepth 100000
set_option maxHeartbeats 8000000
section
open PySem PySem.W PyProof.Rows
namespace Mine
def small : Str := Str.ofString "a"
theorem small_eq : small = small := rfl
name_quick tw9508286670759235126 for small by small_eq
name_quick tw8075568018651887793 for small by small_eq
name_quick tw18315507643657518315 for small by small_eq
name_quick tw13193424258596409591 for small by small_eq
name_quick tw18312937565365389666 for small by small_eq
name_quick tw14979626087600564940 for small by small_eq
name_quick tw1505744604888327020 for small by small_eq
name_quick tw4242893501424385820 for small by small_eq
name_quick tw6476718242876238587 for small by small_eq
name_quick tw15105112419605019160 for small by small_eq
name_quick tw10836914690778327287 for small by small_eq
name_quick tw7969621273614311199 for small by small_eq
name_quick tw4525517667737911620 for small by small_eq
name_quick tw16317912014791525384 for small by small_eq
name_quick tw10939607955317197324 for small by small_eq
name_quick tw11863081143760314161 for small by small_eq
name_quick tw2502411970723609615 for small by small_eq
name_quick tw3856783459128436802 for small by small_eq
name_quick tw13642483538084851733 for small by small_eq
name_quick tw16643706677886111943 for small by small_eq
name_quick tw5518745428033880147 for small by small_eq
name_quick tw3386650904741475044 for small by small_eq
name_quick tw9339011207650244144 for small by small_eq
name_quick tw13809362725867891129 for small by small_eq
name_quick tw3619232141914619222 for small by small_eq
name_quick tw3470799630455053000 for small by small_eq
name_quick tw2951486255847992690 for small by small_eq
name_quick tw7585139358526817783 for small by small_eq
name_quick tw14391268981414578426 for small by small_eq
name_quick tw1523951592034530338 for small by small_eq
name_quick tw15663404670287596823 for small by small_eq
name_quick tw3442601649717412197 for small by small_eq
name_quick tw9300948228871686676 for small by small_eq
name_quick tw12734952128020822468 for small by small_eq
name_quick tw4407734736301137906 for small by small_eq
name_quick tw11306939235166856333 for small by small_eq
name_quick tw7788680626742099145 for small by small_eq
name_quick tw4552823106982906706 for small by small_eq
name_quick tw15806122291839087668 for small by small_eq
name_quick tw1574873078441994576 for small by small_eq
name_quick tw11939915149646268982 for small by small_eq
name_quick tw1092655722715705105 for small by small_eq
name_quick tw12825359941727978080 for small by small_eq
name_quick tw15560500314895047343 for small by small_eq
name_quick tw1184552218554016812 for small by small_eq
name_quick tw8642067239939848140 for small by small_eq
name_quick tw15034313371233782410 for small by small_eq
name_quick tw12268644228514654432 for small by small_eq
name_quick tw1419416864934026935 for small by small_eq
name_quick tw7094674258960923220 for small by small_eq
name_quick tw2447775223705975068 for small by small_eq
name_quick tw8047484207015712433 for small by small_eq
name_quick tw18340240734955500558 for small by small_eq
name_quick tw8253183596043897158 for small by small_eq
name_quick tw3436264866546951355 for small by small_eq
name_quick tw12172078356533094185 for small by small_eq
name_quick tw4071324889030633612 for small by small_eq
name_quick tw7035115661146626270 for small by small_eq
name_quick tw10317580896714288900 for small by small_eq
name_quick tw7401281599722004195 for small by small_eq
name_quick tw878741703135273975 for small by small_eq
name_quick tw11796506867022685745 for small by small_eq
name_quick tw15450981722951097364 for small by small_eq
name_quick tw3880421473898291048 for small by small_eq
name_quick tw18101931140130867144 for small by small_eq
name_quick tw4434333111790514575 for small by small_eq
name_quick tw136631920214876835 for small by small_eq
name_quick tw505943868828395459 for small by small_eq
name_quick tw4224760802259116069 for small by small_eq
name_quick tw11994158751524154303 for small by small_eq
name_quick tw17001327861769816259 for small by small_eq
name_quick tw15766043655864335149 for small by small_eq
name_quick tw8555734327229750603 for small by small_eq
name_quick tw16487347958798203451 for small by small_eq
name_quick tw16180582048198870337 for small by small_eq
name_quick tw17100903815162463580 for small by small_eq
name_quick tw7323676302269181137 for small by small_eq
name_quick tw5701610774189311196 for small by small_eq
name_quick tw9315938663221665524 for small by small_eq
name_quick tw15079194523842364033 for small by small_eq
name_quick tw17804436615005485693 for small by small_eq
name_quick tw16966814322356759819 for small by small_eq
name_quick tw6426273055680023932 for small by small_eq
name_quick tw9787463984185863102 for small by small_eq
name_quick tw7892128664451923741 for small by small_eq
name_quick tw11310463157757771331 for small by small_eq
name_quick tw1258717718454355964 for small by small_eq
name_quick tw2315820567201803617 for small by small_eq
name_quick tw16374537267813192141 for small by small_eq
name_quick tw17537794083376710389 for small by small_eq
name_quick tw9011979029575296479 for small by small_eq
name_quick tw1962928258387122110 for small by small_eq
name_quick tw470574548607681690 for small by small_eq
name_quick tw12832477231654346042 for small by small_eq
name_quick tw6714822604882049554 for small by small_eq
name_quick tw13145125596335152023 for small by small_eq
name_quick tw10010936943081839664 for small by small_eq
name_quick tw5135500740108067664 for small by small_eq
name_quick tw10029231156530900338 for small by small_eq
name_quick tw11543547407058413889 for small by small_eq
name_quick tw17111948838632640456 for small by small_eq
name_quick tw7286323032743288035 for small by small_eq
name_quick tw3916196269025109296 for small by small_eq
name_quick tw17164873540382356111 for small by small_eq
name_quick tw14326252917377295143 for small by small_eq
name_quick tw2611137233208623240 for small by small_eq
name_quick tw11853533878840232495 for small by small_eq
name_quick tw14224011070414065920 for small by small_eq
name_quick tw3698559305507148144 for small by small_eq
name_quick tw17672482021469178181 for small by small_eq
name_quick tw6967401301877209104 for small by small_eq
name_quick tw912392155897948271 for small by small_eq
name_quick tw16869277618539721502 for small by small_eq
name_quick tw14530364306720264245 for small by small_eq
name_quick tw11682084944484805031 for small by small_eq
name_quick tw313226197891681235 for small by small_eq
name_quick tw7581816359482902497 for small by small_eq
name_quick tw2968979199505139716 for small by small_eq
name_quick tw3766158894648301139 for small by small_eq
name_quick tw5032809538720368765 for small by small_eq
name_quick tw11625766737575182897 for small by small_eq
name_quick tw9529234661008812162 for small by small_eq
name_quick tw8450942572126056277 for small by small_eq
name_quick tw13776390136698705113 for small by small_eq
name_quick tw16643379632663270332 for small by small_eq
name_quick tw6550987210724342151 for small by small_eq
name_quick tw9305782018832362445 for small by small_eq
name_quick tw15742981410569661332 for small by small_eq
name_quick tw3636048126100218174 for small by small_eq
name_quick tw13981391230805400906 for small by small_eq
name_quick tw7098571738820278039 for small by small_eq
name_quick tw10323183001455561277 for small by small_eq
name_quick tw13512673800721320934 for small by small_eq
name_quick tw8119918657739134586 for small by small_eq
name_quick tw18220123701641295943 for small by small_eq
name_quick tw1829445100760108279 for small by small_eq
name_quick tw5902227825499142635 for small by small_eq
name_quick tw16874561944515371726 for small by small_eq
name_quick tw10887116778572429059 for small by small_eq
name_quick tw10424941004445345732 for small by small_eq
name_quick tw5721027456603625697 for small by small_eq
name_quick tw7581352650102555174 for small by small_eq
name_quick tw4075660801711882420 for small by small_eq
name_quick tw14311459727803291754 for small by small_eq
name_quick tw15168306246750427876 for small by small_eq
name_quick tw2460228577881660442 for small by small_eq
name_quick tw14537914154153760125 for small by small_eq
name_quick tw12237943961548833269 for small by small_eq
name_quick tw18211773271919218964 for small by small_eq
name_quick tw10919533547850550483 for small by small_eq
name_quick tw2354101950205528012 for small by small_eq
name_quick tw15278061642289888581 for small by small_eq
name_quick tw8206430501311747189 for small by small_eq
name_quick tw8727135674562949291 for small by small_eq
name_quick tw6004533443673955352 for small by small_eq
name_quick tw9458956999447867950 for small by small_eq
name_quick tw1414301608579184545 for small by small_eq
name_quick tw9467589175468403638 for small by small_eq
name_quick tw10007627690174824804 for small by small_eq
name_quick tw460243522976405022 for small by small_eq
name_quick tw9948023125614773506 for small by small_eq
name_quick tw15423634916342008072 for small by small_eq
name_quick tw8719427161674164953 for small by small_eq
name_quick tw16593013826814733010 for small by small_eq
name_quick tw5189142188285759775 for small by small_eq
name_quick tw1537898542681612871 for small by small_eq
name_quick tw6654550962395885724 for small by small_eq
name_quick tw3315324234476444515 for small by small_eq
name_quick tw17476080006546285661 for small by small_eq
name_quick tw8753696776887207221 for small by small_eq
name_quick tw14333388528381170442 for small by small_eq
name_quick tw5200128776193632040 for small by small_eq
name_quick tw392140993173905013 for small by small_eq
name_quick tw11270796479367742343 for small by small_eq
name_quick tw10833955939284561965 for small by small_eq
name_quick tw1291980286583624508 for small by small_eq
name_quick tw8693227569615203950 for small by small_eq
name_quick tw16817318245366136608 for small by small_eq
name_quick tw17517737089405305841 for small by small_eq
name_quick tw724751600484774222 for small by small_eq
name_quick tw17274371674624000324 for small by small_eq
name_quick tw3131671291697673992 for small by small_eq
name_quick tw1886563365779066154 for small by small_eq
name_quick tw13615603153576403970 for small by small_eq
name_quick tw11892598404827812706 for small by small_eq
name_quick tw8902219603052485911 for small by small_eq
name_quick tw7009043117176579089 for small by small_eq
name_quick tw16145008321745377990 for small by small_eq
name_quick tw6135381517318000843 for small by small_eq
name_quick tw1320183511955256522 for small by small_eq
name_quick tw1735497430108182060 for small by small_eq
name_quick tw17244072584429378644 for small by small_eq
name_quick tw13640514254501968386 for small by small_eq
name_quick tw3093977132361051618 for small by small_eq
name_quick tw7299303143086499733 for small by small_eq
name_quick tw7250012664060256230 for small by small_eq
name_quick tw6683783046931543321 for small by small_eq
name_quick tw5978237884098788730 for small by small_eq
name_quick tw13180171748994924942 for small by small_eq
name_quick tw17069979004554194336 for small by small_eq
name_quick tw18263319221461684349 for small by small_eq
name_quick tw11729385059970357855 for small by small_eq
name_quick tw7397068168572129948 for small by small_eq
name_quick tw2905824091091238844 for small by small_eq
name_quick tw7198390536060210744 for small by small_eq
name_quick tw15823609455315575823 for small by small_eq
name_quick tw10528696920762540405 for small by small_eq
name_quick tw8098380416015320538 for small by small_eq
name_quick tw12850107946570832962 for small by small_eq
name_quick tw12898947447245864913 for small by small_eq
name_quick tw17863021456227041891 for small by small_eq
name_quick tw17552769576498331613 for small by small_eq
name_quick tw16697116713213952808 for small by small_eq
name_quick tw16414604833108395602 for small by small_eq
name_quick tw15919542637913265678 for small by small_eq
name_quick tw13912434898499826684 for small by small_eq
name_quick tw8424611434330503625 for small by small_eq
name_quick tw17988542015724977305 for small by small_eq
name_quick tw9501820088010722379 for small by small_eq
name_quick tw8579058602437062094 for small by small_eq
name_quick tw282004115355043989 for small by small_eq
name_quick tw17730428716208468724 for small by small_eq
name_quick tw16350708796919097252 for small by small_eq
name_quick tw15263041282635125899 for small by small_eq
name_quick tw9376109419431680627 for small by small_eq
name_quick tw13215998728584607739 for small by small_eq
name_quick tw4527066259768149269 for small by small_eq
name_quick tw3577408171920636059 for small by small_eq
name_quick tw3362959441861295915 for small by small_eq
name_quick tw607167704815816724 for small by small_eq
name_quick tw8860024209350480642 for small by small_eq
name_quick tw4658958612460137192 for small by small_eq
name_quick tw7299951869573292228 for small by small_eq
name_quick tw16241802466949684156 for small by small_eq
name_quick tw12233582284571471492 for small by small_eq
name_quick tw17888162413812561239 for small by small_eq
name_quick tw14553827428707814869 for small by small_eq
name_quick tw11985326045990495214 for small by small_eq
name_quick tw2283851925072248500 for small by small_eq
name_quick tw11333186260410459676 for small by small_eq
name_quick tw16406328271908756883 for small by small_eq
name_quick tw3039592710220408265 for small by small_eq
name_quick tw6679490504615227074 for small by small_eq
name_quick tw6380047634161181297 for small by small_eq
name_quick tw8603108125212654177 for small by small_eq
name_quick tw9626621113073979434 for small by small_eq
name_quick tw4039474712603431140 for small by small_eq
name_quick tw2408619945344806742 for small by small_eq
name_quick tw16176465441171805009 for small by small_eq
name_quick tw18350330562280901221 for small by small_eq
name_quick tw8796240567053077481 for small by small_eq
name_quick tw6434265647005701932 for small by small_eq
name_quick tw5248340912204065574 for small by small_eq
name_quick tw2422670821966735624 for small by small_eq
name_quick tw16752143609539240740 for small by small_eq
name_quick tw14112274594779413971 for small by small_eq
name_quick tw11013792430000457035 for small by small_eq
name_quick tw5529568453561195837 for small by small_eq
name_quick tw4011157648589011858 for small by small_eq
name_quick tw2660918139993853925 for small by small_eq
name_quick tw2627984346626558326 for small by small_eq
name_quick tw16741492637210864865 for small by small_eq
name_quick tw16018607276475445134 for small by small_eq
name_quick tw14223099787259518943 for small by small_eq
name_quick tw1402947280878808549 for small by small_eq
name_quick tw117213463901210413 for small by small_eq
name_quick tw11462045893675790159 for small by small_eq
name_quick tw11186114360453789277 for small by small_eq
name_quick tw7275051467321613617 for small by small_eq
name_quick tw900395245841561262 for small by small_eq
name_quick tw8017206721242287953 for small by small_eq
name_quick tw6792406925840432001 for small by small_eq
name_quick tw6059929106960060952 for small by small_eq
name_quick tw5925582254088234700 for small by small_eq
name_quick tw3560238982266916124 for small by small_eq
name_quick tw3118938333895590913 for small by small_eq
name_quick tw16437185098154296904 for small by small_eq
name_quick tw1638017585896720355 for small by small_eq
name_quick tw16349804527192203551 for small by small_eq
name_quick tw15323854079317868165 for small by small_eq
name_quick tw14210447440969649564 for small by small_eq
name_quick tw13678640442995254988 for small by small_eq
name_quick tw13141144453892091621 for small by small_eq
name_quick tw12835720964997663042 for small by small_eq
name_quick tw6589095468515690095 for small by small_eq
name_quick tw608726401823008365 for small by small_eq
name_quick tw6122645084068987007 for small by small_eq
name_quick tw721709456127091705 for small by small_eq
name_quick tw18260038339965228139 for small by small_eq
name_quick tw13016732220969518872 for small by small_eq
name_quick tw11636919720809706868 for small by small_eq
name_quick tw10706342367453228570 for small by small_eq
name_quick tw4980102563643897964 for small by small_eq
name_quick tw5706481520468235054 for small by small_eq
name_quick tw5111356299099525756 for small by small_eq
name_quick tw2039238271031011813 for small by small_eq
name_quick tw16916688483869632129 for small by small_eq
name_quick tw13236226663087606529 for small by small_eq
name_quick tw11452132507678324671 for small by small_eq
name_quick tw13317431791736044220 for small by small_eq
name_quick tw6448080314894763839 for small by small_eq
name_quick tw2711585505577850959 for small by small_eq
name_quick tw17018628822417861297 for small by small_eq
name_quick tw4636218855388986860 for small by small_eq
name_quick tw5788112951639161676 for small by small_eq
name_quick tw3264259588550801142 for small by small_eq
name_quick tw10073347824450446311 for small by small_eq
name_quick tw9862997608875712007 for small by small_eq
name_quick tw8703263022893421829 for small by small_eq
name_quick tw4748654258956052638 for small by small_eq
name_quick tw4549333791460862111 for small by small_eq
name_quick tw4292500188555128830 for small by small_eq
name_quick tw4090926877573551719 for small by small_eq
name_quick tw3976722010076183465 for small by small_eq
name_quick tw3105397867545767578 for small by small_eq
name_quick tw15900120412870309639 for small by small_eq
name_quick tw14126943448341045398 for small by small_eq
name_quick tw14023627001141898710 for small by small_eq
open_top hd for PySem.Challenge.rw_pc0352_01
end Mine
end
noncomputable section
open PySem PySem.W PyProof.Rows
namespace Mine
abbrev iabs (n : Int) : Int := if n < 0 then -n else n
abbrev sz (n : Int) : Int := (Builtin.Int.intBits (if n < 0 then -n else n) : Nat)
abbrev sgn (n : Int) : Int := b2i (decide (0 < n)) - b2i (decide (n < 0))
abbrev zb (n : Int) : Int := (Builtin.Int.intBits (Builtin.bitAnd n (0 - n)) : Nat) - 1
abbrev sh (n k : Int) : Int := n.fdiv (2 ^ k.toNat)
abbrev sl (n k : Int) : Int := n * 2 ^ k.toNat
/-- a shift that the machine lets pass -/
abbrev shlOk (a n : Int) : Prop := 0 ≤ n ∧ n ≤ 4000 ∧ a.natAbs < 2 ^ 4000
/-- a product that the machine lets pass -/
abbrev mulOk (a b : Int) : Prop := a.natAbs < 2 ^ 4000 ∧ b.natAbs < 2 ^ 4000
/-- a divisor that the machine lets pass -/
abbrev divOk (b : Int) : Prop := b ≠ 0 ∧ b.natAbs < 2 ^ 4000
theorem divOk.ok {b : Int} (h : divOk b) (a : Int) : Builtin.divisionGoesByPylong a b = false := by
  obtain ⟨h0, h1⟩ := h
  unfold Builtin.divisionGoesByPylong
  have : b.natAbs.log2 < 4000 := (Nat.log2_lt (by omega)).mpr h1
  have e : (if (b == 0) = true then 0 else b.natAbs.log2 / 30 + 1) ≤ 300 := by split <;> omega
  dsimp only
  rw [decide_eq_false (Nat.not_lt.mpr e)]; rfl
abbrev min2 (a b : Int) : Int := if b < a then b else a
abbrev max2 (a b : Int) : Int := if b > a then b else a
noncomputable def min4 (a b c d : Int) : Int := min2 (min2 a b) (min2 c d)
noncomputable def max4 (a b c d : Int) : Int := max2 (max2 a b) (max2 c d)
noncomputable def leanF (m e : Int) : Option (Int × Int) :=
  if m = 0 then some (0, 0) else if 65536 < iabs (sz m + e) then none else if 0 ≤ zb m then some (sh m (zb m), e + zb m) else none
noncomputable def nearestF (n g : Int) : Int :=
  if sl 1 (g - 1) < Builtin.bitAnd n (sl 1 g - 1) then sh n g + 1
  else if Builtin.bitAnd n (sl 1 g - 1) = sl 1 (g - 1) then (if Builtin.bitAnd (sh n g) 1 = 1 then sh n g + 1 else sh n g) else sh n g
noncomputable def shroundF (p m e : Int) : Option (Int × Int) :=
  if sz m - p ≤ 0 then leanF m e else if shlOk 1 (sz m - p) then leanF (sgn m * nearestF (iabs m) (sz m - p)) (e + (sz m - p)) else none
noncomputable def stickyF (n : Int) (b : Bool) : Int := 2 * n + (if b = true then 1 else 0)
noncomputable def roundF (p top bottom : Int) : Option (Int × Int) :=
  if top = 0 then some (0, 0)
  else if 0 ≤ p + 2 + sz bottom - sz top then
    (if shlOk (iabs top) (p + 2 + sz bottom - sz top) then (if divOk bottom then
      shroundF p (sgn top * stickyF ((sl (iabs top) (p + 2 + sz bottom - sz top)).fdiv bottom) ((sl (iabs top) (p + 2 + sz bottom - sz top)).fmod bottom != 0)) (0 - (p + 2 + sz bottom - sz top) - 1) else none) else none)
  else (if shlOk bottom (0 - (p + 2 + sz bottom - sz top)) then (if divOk (sl bottom (0 - (p + 2 + sz bottom - sz top))) then
      shroundF p (sgn top * stickyF ((iabs top).fdiv (sl bottom (0 - (p + 2 + sz bottom - sz top)))) ((iabs top).fmod (sl bottom (0 - (p + 2 + sz bottom - sz top))) != 0)) (0 - (p + 2 + sz bottom - sz top) - 1) else none) else none)

noncomputable def fracF (m e : Int) : Option (Int × Int) :=
  if 0 ≤ e then (if shlOk m e then some (sl m e, 1) else none) else (if shlOk 1 (0 - e) then some (m, sl 1 (0 - e)) else none)

noncomputable def rootLoop : Nat → Int → Int → Int → Option Int
  | 0, _, _, _ => none
  | n + 1, num, found, better => if better < found then (if divOk better then rootLoop n num better ((better + num.fdiv better).fdiv 2) else none) else some found
noncomputable def rootF (num : Int) : Option Int :=
  if num = 0 then some 0 else
  if shlOk 1 (((Builtin.Int.intBits num : Nat) + 1 : Int).fdiv 2) then
    (if divOk (sl 1 (((Builtin.Int.intBits num : Nat) + 1 : Int).fdiv 2)) then
      rootLoop 1000 num (sl 1 (((Builtin.Int.intBits num : Nat) + 1 : Int).fdiv 2)) ((sl 1 (((Builtin.Int.intBits num : Nat) + 1 : Int).fdiv 2) + num.fdiv (sl 1 (((Builtin.Int.intBits num : Nat) + 1 : Int).fdiv 2))).fdiv 2) else none) else none
noncomputable def invLoop : Nat → Int → Int → Int → Int → Int → Int → Int → Option (Int × Int)
  | 0, _, _, _, _, _, _, _ => none
  | n + 1, num, sign, power, total, e, now, steps =>
    if 0 < power then (if divOk e then invLoop n num sign (power.fdiv (num * num)) (total + now * power.fdiv e) (e + 2) (now * sign) (steps + 1) else none)
    else some (total - (2 * steps + 4), total + (2 * steps + 4))
noncomputable def invF (work num sign : Int) : Option (Int × Int) := if shlOk 1 work then invLoop 1000 num sign ((sl 1 work).fdiv num) 0 1 1 0 else none
abbrev oftenP (a : Int × Int) (k : Int) : Int × Int := (min2 (a.1 * k) (a.2 * k), max2 (a.1 * k) (a.2 * k))
abbrev upo (n b : Int) : Int := 0 - (0 - n).fdiv b
abbrev partP (a : Int × Int) (b : Int) : Int × Int := (a.1.fdiv b, upo a.2 b)
abbrev moreP (a b : Int × Int) : Int × Int := (a.1 + b.1, a.2 + b.2)
abbrev lessP (a b : Int × Int) : Int × Int := (a.1 - b.2, a.2 - b.1)
abbrev contraP (a : Int × Int) : Int × Int := (0 - a.2, 0 - a.1)
noncomputable abbrev wideP (a : Int × Int) (k : Int) : Int × Int := (a.1 - k, a.2 + k)
noncomputable abbrev prodP (work : Int) (a b : Int × Int) : Int × Int := (sh (min4 (a.1 * b.1) (a.1 * b.2) (a.2 * b.1) (a.2 * b.2)) work, 0 - sh (0 - max4 (a.1 * b.1) (a.1 * b.2) (a.2 * b.1) (a.2 * b.2)) work)
noncomputable abbrev fboundP (work top bottom : Int) : Int × Int := ((sl top work).fdiv bottom, upo (sl top work) bottom)
abbrev greatP (a : Int × Int) : Int := max2 (iabs a.1) (iabs a.2)
abbrev prodOk (a b : Int × Int) : Prop := mulOk a.1 b.1 ∧ mulOk a.1 b.2 ∧ mulOk a.2 b.1 ∧ mulOk a.2 b.2
noncomputable def halfF (work : Int) : Option (Int × Int) := (invF work 5 (-1)).bind fun a => (invF work 239 (-1)).bind fun b => some (lessP (oftenP a 16) (oftenP b 4))
noncomputable def oddLoop : Nat → Int → Int → Int × Int → Int × Int → Int × Int → Int → Int → Option (Int × Int)
  | 0, _, _, _, _, _, _, _ => none
  | n + 1, work, sign, q, p, t, e, now =>
    if 1 < greatP p then (if prodOk p q then (if divOk (e + 2) then
      oddLoop n work sign q (prodP work p q) (moreP t (oftenP (partP (prodP work p q) (e + 2)) (now * sign))) (e + 2) (now * sign) else none) else none)
    else some (wideP t (2 * greatP p + 2))
noncomputable def oddF (work top bottom sign : Int) : Option (Int × Int) :=
  if shlOk top work then (if divOk bottom then (if prodOk (fboundP work top bottom) (fboundP work top bottom) then
    oddLoop 1000 work sign (prodP work (fboundP work top bottom) (fboundP work top bottom)) (fboundP work top bottom) (fboundP work top bottom) 1 1 else none) else none) else none
noncomputable def smallF (work top bottom : Int) : Option (Int × Int) :=
  if 7 * bottom < 10 * top then (halfF work).bind fun a => (oddF work (top - bottom) (top + bottom) (-1)).bind fun b => some (moreP (partP a 4) b)
  else if bottom < 4 * top then (oddF work (2 * top - bottom) (2 * bottom + top) (-1)).bind fun b => (invF work 2 (-1)).bind fun a => some (moreP a b)
  else oddF work top bottom (-1)
noncomputable def arcF0 (work top bottom : Int) : Option (Int × Int) :=
  if top ≤ bottom then smallF work top bottom else (halfF work).bind fun a => (smallF work bottom top).bind fun b => some (lessP (partP a 2) b)
noncomputable def arcF (work top bottom : Int) : Option (Int × Int) :=
  if top < 0 then (arcF0 work (0 - top) bottom).bind fun a => some (contraP a) else arcF0 work top bottom
noncomputable def withinF (work : Int) (a : Int × Int) : Option (Int × Int) :=
  if shlOk 1 work then (arcF work a.1 (sl 1 work)).bind fun x => (arcF work a.2 (sl 1 work)).bind fun y => some (x.1, y.2) else none
noncomputable def rbF (work top bottom : Int) : Option (Int × Int) :=
  if shlOk top (2 * work) then (if divOk bottom then (rootF ((sl top (2 * work)).fdiv bottom)).bind fun r => some (r, r + 1) else none) else none
noncomputable def quotF (work : Int) (a b : Int × Int) : Option (Int × Int) :=
  if shlOk a.1 work then (if shlOk a.2 work then (if divOk b.1 then (if divOk b.2 then
    some (min4 ((sl a.1 work).fdiv b.1) ((sl a.1 work).fdiv b.2) ((sl a.2 work).fdiv b.1) ((sl a.2 work).fdiv b.2), max4 (upo (sl a.1 work) b.1) (upo (sl a.1 work) b.2) (upo (sl a.2 work) b.1) (upo (sl a.2 work) b.2)) else none) else none) else none) else none
noncomputable def asinbF (work m e : Int) : Option (Option (Int × Int)) :=
  (fracF m e).bind fun f => if mulOk f.2 f.2 then (if mulOk f.1 f.1 then (rbF work (f.2 * f.2 - f.1 * f.1) (f.2 * f.2)).bind fun w =>
    if w.1 ≤ 0 then some none else if shlOk f.1 work then (if divOk f.2 then (quotF work (fboundP work f.1 f.2) w).bind fun q => (withinF work q).bind fun r => some (some r) else none) else none else none) else none
noncomputable def acosbF (work m e : Int) : Option (Int × Int) :=
  (fracF m e).bind fun f => (rbF work (f.2 - f.1) (f.2 + f.1)).bind fun w => (withinF work w).bind fun r => some (oftenP r 2)
/-- decided, over what its bounds give -/
noncomputable def decF (g : Int → Option (Option (Int × Int))) : Nat → Int → Int → Option (Int × Int)
  | 0, _, _ => none
  | n + 1, p, work => (g work).bind fun f => match f with
    | none => decF g n p (2 * work)
    | some b => if shlOk 1 work then (roundF p b.1 (sl 1 work)).bind fun x => (roundF p b.2 (sl 1 work)).bind fun y => if ((x.1 == y.1) && (x.2 == y.2)) = true then some x else decF g n p (2 * work) else none
noncomputable def Halt (P : Prop) : Prop := P
theorem Halt.out {P : Prop} (h : Halt P) : P := h
theorem News.sub {h₀ h : Heap} {L : Addr} {news news' : List (Addr × Obj)} (N : News h₀ L h news) (k : ∀ p ∈ news', p ∈ news) : News h₀ L h news' := fun p hp => N p (k p hp)

theorem bits_le {a : Int} {n : Nat} (h : a.natAbs < 2 ^ n) : Builtin.Int.intBits a ≤ n := by
  unfold Builtin.Int.intBits
  split
  · omega
  · rename_i hz
    have h0 : a.natAbs ≠ 0 := fun q => hz (by simp; omega)
    have := (Nat.log2_lt h0).mpr h
    omega
theorem shlOk.bits {a n : Int} (h : shlOk a n) : (Builtin.Int.intBits a : Int) + n ≤ 2 ^ 27 := by
  obtain ⟨h0, h1, h2⟩ := h
  have := bits_le h2
  have e : (2 : Int) ^ 27 = 134217728 := by decide
  rw [e]; omega
theorem mulOk.ok {a b : Int} (h : mulOk a b) : PySem.IntMulOk a b := by
  obtain ⟨h1, h2⟩ := h
  have b1 := bits_le h1
  have b2 := bits_le h2
  unfold PySem.IntMulOk
  have : Builtin.Int.intTooBig (Builtin.Int.intBits a + Builtin.Int.intBits b) = false := by
    unfold Builtin.Int.intTooBig
    have e : (PySem.bitsLine : Int) = 134217728 := by decide
    simp only [decide_eq_false_iff_not, gt_iff_lt, Int.not_lt, e]
    omega
  rw [this]; simp
theorem mulOk_small {a b : Int} (h : a.natAbs < 2 ^ 64) : PySem.IntMulOk a b := PySem.IntMulOk.of_left (bits_le h)
theorem mulOk_small' {a b : Int} (h : b.natAbs < 2 ^ 64) : PySem.IntMulOk a b := PySem.IntMulOk.of_right (bits_le h)
theorem sgn_small (n : Int) : (sgn n).natAbs < 2 ^ 64 := by
  unfold sgn b2i
  have e : (2 : Nat) ^ 64 = 18446744073709551616 := by decide
  rw [e]
  split <;> split <;> decide

section
variable {prog : Program} {w : World} {A : Around} {E : Value → Shared → Prop} {s : Shared} {Q : Value → Shared → Prop} {a b n : Int} {t u : Tok}
theorem shl_rule (hk : shlOk a n) (h : Q (.int (a * 2 ^ n.toNat) s.toks) { s with toks := s.toks + 1 }) : wpAny (model prog w) A (binaryOp .LShift (.int a t) (.int n u)) Q E s := lshift_int hk.1 hk.bits h
theorem mul_rule (hk : PySem.IntMulOk a b) (h : Q (.int (a * b) s.toks) { s with toks := s.toks + 1 }) : wpAny (model prog w) A (binaryOp .Mult (.int a t) (.int b u)) Q E s := mul_int h hk
theorem shr_rule (hk : 0 ≤ n) (h : Q (.int (a.fdiv (2 ^ n.toNat)) s.toks) { s with toks := s.toks + 1 }) : wpAny (model prog w) A (binaryOp .RShift (.int a t) (.int n u)) Q E s := rshift_int hk h
theorem div_rule (hb : divOk b) (h : Q (.int (a.fdiv b) s.toks) { s with toks := s.toks + 1 }) : wpAny (model prog w) A (binaryOp .FloorDiv (.int a t) (.int b u)) Q E s := floordiv_int hb.1 h (.inl (hb.ok a))
theorem divmod_rule {h₀ : Heap} {L : Addr} {m : Str → Option Value} {news : List (Addr × Obj)} (F : Fr h₀ L s.heap m) (N : News h₀ L s.heap news) (hb : divOk b)
    (h : ∀ D h', Fr h₀ L h' m → News h₀ L h' ((D, { cls := .type "tuple", data := .seq #[.int (a.fdiv b) s.toks, .int (a.fmod b) (s.toks + 1)] }) :: news) →
      Q (.ref D) { s with toks := s.toks + 1 + 1, heap := h' }) : wpAny (model prog w) A (call (.builtin "divmod") [.int a t, .int b u]) Q E s :=
  divmod_N F N hb.1 (fun h' => h _ h') (.inl (hb.ok a))
theorem mod_rule (hb : b ≠ 0) (h : Q (.int (a.fmod b) s.toks) { s with toks := s.toks + 1 }) : wpAny (model prog w) A (binaryOp .Mod (.int a t) (.int b u)) Q E s := mod_int' hb h
end

section
variable {prog : Program} {w : World} {A : Around} {E : Value → Shared → Prop} {s : Shared} {h₀ : Heap} {L D : Addr} {m : Str → Option Value} {news : List (Addr × Obj)} {Q : Value → Shared → Prop} {a b : Int} {t u : Tok}
theorem kept1 {o : Obj} {h' : Heap} (hk : ∀ b o', b ∉ [s.heap.objs.size] → (s.heap.push o).get? b = some o' → h'.get? b = some o') : ∀ b o, s.heap.get? b = some o → h'.get? b = some o :=
  fun b o e => hk b o (fun hb => absurd (Heap.lt_size e) ((List.mem_singleton.mp hb) ▸ Nat.lt_irrefl _)) (Heap.get?_push_of_some _ e)
theorem min_tup (hh : A.handled = none) (F : Fr h₀ L s.heap m) (N : News h₀ L s.heap news) (ht : IsTup s.heap D #[.int a t, .int b u])
    (h : ∀ t' h' tk, Fr h₀ L h' m → News h₀ L h' news → Q (.int (if b < a then b else a) t') { s with heap := h', toks := tk }) : wpAny (model prog w) A (call (.builtin "min") [.ref D]) Q E s := by
  have hT : s.heap.IsTuple D (intItems #[(a, t), (b, u)]) := by
    obtain ⟨o, h1, h2, n, h3⟩ := ht; exact ⟨o, h1, h2, n, by rw [h3]; simp [intItems]⟩
  have hlt : D < s.heap.objs.size := by obtain ⟨o, h1, _⟩ := ht; exact Heap.lt_size h1
  refine call_min_walk (wpAny_pyIter_tuple hT ?_)
  refine ⟨_, [_, D], [_], _, _, _, _, rfl, Walks.tuple (A := A.in1) hh _ D (Nat.ne_of_lt hlt) (intItems #[(a, t), (b, u)]), ⟨⟨_, Heap.get?_push_size _ rfl, rfl, rfl⟩, hT.push _⟩, fun c hc => ?_, by simp [intItems], CmpOf.ints_lt (numAt #[(a, t), (b, u)]) (fun _ _ => intItems_at), fun v h' tk hP hk => ?_⟩
  · rcases List.mem_cons.mp hc with rfl | hc
    · exact Heap.lt_size (Heap.get?_push_size _ rfl)
    · rw [List.mem_singleton.mp hc]; exact Nat.lt_of_lt_of_le hlt (by rw [Heap.size_push]; omega)
  · have k := kept1 hk
    have fin := fun t' => h t' h' tk (F.grownK k) (N.grown k)
    have e : (intItems #[(a, t), (b, u)]).size - 1 = 1 := by simp [intItems]
    rw [e] at hP
    by_cases c : b < a
    · have hb : argBest (fun i j => decide (numAt #[(a, t), (b, u)] i < numAt #[(a, t), (b, u)] j)) 1 = 1 := by
        simp [argBest, numAt, c]
      rw [hb] at hP
      have hv : v = .int b u := by simpa [intItems] using hP.symm
      subst hv
      simpa only [if_pos c] using fin u
    · have hb : argBest (fun i j => decide (numAt #[(a, t), (b, u)] i < numAt #[(a, t), (b, u)] j)) 1 = 0 := by
        simp [argBest, numAt, c]
      rw [hb] at hP
      have hv : v = .int a t := by simpa [intItems] using hP.symm
      subst hv
      simpa only [if_neg c] using fin t
theorem max_tup (hh : A.handled = none) (F : Fr h₀ L s.heap m) (N : News h₀ L s.heap news) (ht : IsTup s.heap D #[.int a t, .int b u])
    (h : ∀ t' h' tk, Fr h₀ L h' m → News h₀ L h' news → Q (.int (if b > a then b else a) t') { s with heap := h', toks := tk }) : wpAny (model prog w) A (call (.builtin "max") [.ref D]) Q E s := by
  have hT : s.heap.IsTuple D (intItems #[(a, t), (b, u)]) := by
    obtain ⟨o, h1, h2, n, h3⟩ := ht; exact ⟨o, h1, h2, n, by rw [h3]; simp [intItems]⟩
  have hlt : D < s.heap.objs.size := by obtain ⟨o, h1, _⟩ := ht; exact Heap.lt_size h1
  refine call_max_walk (wpAny_pyIter_tuple hT ?_)
  refine ⟨_, [_, D], [_], _, _, _, _, rfl, Walks.tuple (A := A.in1) hh _ D (Nat.ne_of_lt hlt) (intItems #[(a, t), (b, u)]), ⟨⟨_, Heap.get?_push_size _ rfl, rfl, rfl⟩, hT.push _⟩, fun c hc => ?_, by simp [intItems], CmpOf.ints_gt (numAt #[(a, t), (b, u)]) (fun _ _ => intItems_at), fun v h' tk hP hk => ?_⟩
  · rcases List.mem_cons.mp hc with rfl | hc
    · exact Heap.lt_size (Heap.get?_push_size _ rfl)
    · rw [List.mem_singleton.mp hc]; exact Nat.lt_of_lt_of_le hlt (by rw [Heap.size_push]; omega)
  · have k := kept1 hk
    have fin := fun t' => h t' h' tk (F.grownK k) (N.grown k)
    have e : (intItems #[(a, t), (b, u)]).size - 1 = 1 := by simp [intItems]
    rw [e] at hP
    by_cases c : b > a
    · have hb : argBest (fun i j => decide (numAt #[(a, t), (b, u)] i > numAt #[(a, t), (b, u)] j)) 1 = 1 := by
        simp [argBest, numAt]; omega
      rw [hb] at hP
      have hv : v = .int b u := by simpa [intItems] using hP.symm
      subst hv
      simpa only [if_pos c] using fin u
    · have hb : argBest (fun i j => decide (numAt #[(a, t), (b, u)] i > numAt #[(a, t), (b, u)] j)) 1 = 0 := by
        simp [argBest, numAt]; omega
      rw [hb] at hP
      have hv : v = .int a t := by simpa [intItems] using hP.symm
      subst hv
      simpa only [if_neg c] using fin t
theorem min_l4 {c d : Int} {x y : Tok} (hh : A.handled = none) (F : Fr h₀ L s.heap m) (N : News h₀ L s.heap news) (ht : s.heap.IsList D [.int a t, .int b u, .int c x, .int d y].toArray)
    (h : ∀ t' h' tk, Fr h₀ L h' m → News h₀ L h' news → Q (.int (min4 a b c d) t') { s with heap := h', toks := tk }) : wpAny (model prog w) A (call (.builtin "min") [.ref D]) Q E s := by
  refine min_list_N hh F N ht (.cons _ _ (.cons _ _ (.cons _ _ (.cons _ _ .nil)))) (by simp) fun h' M t' tk F' N' hm hle => ?_
  have e : M = min4 a b c d := by
    have h1 := hle a (by simp); have h2 := hle b (by simp); have h3 := hle c (by simp); have h4 := hle d (by simp)
    simp only [List.mem_cons, List.not_mem_nil, or_false] at hm
    simp only [min4, min2]
    (repeat' split) <;> omega
  exact e ▸ h t' h' tk F' N'
theorem max_l4 {c d : Int} {x y : Tok} (hh : A.handled = none) (F : Fr h₀ L s.heap m) (N : News h₀ L s.heap news) (ht : s.heap.IsList D [.int a t, .int b u, .int c x, .int d y].toArray)
    (h : ∀ t' h' tk, Fr h₀ L h' m → News h₀ L h' news → Q (.int (max4 a b c d) t') { s with heap := h', toks := tk }) : wpAny (model prog w) A (call (.builtin "max") [.ref D]) Q E s := by
  refine max_list_N hh F N ht (.cons _ _ (.cons _ _ (.cons _ _ (.cons _ _ .nil)))) (by simp) fun h' M t' tk F' N' hm hle => ?_
  have e : M = max4 a b c d := by
    have h1 := hle a (by simp); have h2 := hle b (by simp); have h3 := hle c (by simp); have h4 := hle d (by simp)
    simp only [List.mem_cons, List.not_mem_nil, or_false] at hm
    simp only [max4, max2]
    (repeat' split) <;> omega
  exact e ▸ h t' h' tk F' N'
end
end Mine
end
noncomputable section
open PySem PySem.W PyProof.Rows
namespace Mine
noncomputable def atanF (p m e : Int) : Option (Int × Int) :=
  if sgn m = 0 then some (m, e) else if 2 * (sz m + e) < 0 - p - 4 then some (m, e)
  else (fracF m e).bind fun f => decF (fun w => (arcF w f.1 f.2).map some) 20 p (2 * p + 12 + max2 0 (0 - (sz m + e)))
noncomputable def quarterF (sign work : Int) : Option (Option (Int × Int)) := (halfF work).map fun h => some (oftenP (partP h 2) sign)
noncomputable def asinbG (work m e : Int) : Option (Option (Int × Int)) :=
  (fracF m e).bind fun f => if mulOk f.2 f.2 then (if mulOk f.1 f.1 then (if shlOk f.1 work then (if divOk f.2 then
    (rbF work (f.2 * f.2 - f.1 * f.1) (f.2 * f.2)).bind fun w =>
      if w.1 ≤ 0 then some none else (quotF work (fboundP work f.1 f.2) w).bind fun q => (withinF work q).bind fun r => some (some r) else none) else none) else none) else none
noncomputable def asinF (p m e : Int) : Option (Int × Int) :=
  if sgn m = 0 then some (m, e) else if 2 * (sz m + e) < 0 - p - 4 then some (m, e)
  else if iabs m = 1 ∧ e = 0 then decF (quarterF (sgn m)) 20 p (2 * p + 12 + max2 0 (0 - (sz m + e)))
  else decF (fun w => asinbG w m e) 20 p (2 * p + 12 + max2 0 (0 - (sz m + e)))
noncomputable def acosF (p m e : Int) : Option (Int × Int) :=
  if m = 1 ∧ e = 0 then some (0, 0) else if m = -1 ∧ e = 0 then decF (fun w => (halfF w).map some) 20 p (2 * p + 12)
  else decF (fun w => (acosbF w m e).map some) 20 p (2 * p + 12)
noncomputable def ratioF (a b c d : Int) : Option (Int × Int) :=
  if 0 ≤ b - d then (if shlOk (a * sgn c) (b - d) then some (sl (a * sgn c) (b - d), iabs c) else none)
  else (if shlOk (iabs c) (0 - (b - d)) then some (a * sgn c, sl (iabs c) (0 - (b - d))) else none)
noncomputable def boundsF (top bottom turn work : Int) : Option (Option (Int × Int)) := (arcF work top bottom).bind fun a => (halfF work).bind fun b => some (some (moreP a (oftenP b turn)))
abbrev farF (f : Int × Int) : Int := max2 0 ((Builtin.Int.intBits f.2 : Nat) - (Builtin.Int.intBits (iabs f.1) : Nat))
noncomputable def atan2F (p a b c d : Int) : Option (Int × Int) :=
  if sgn c = 0 then (if sgn a = 0 then none else decF (quarterF (sgn a)) 20 p (p + 12))
  else if sgn a = 0 then (if 0 < sgn c then some (0, 0) else decF (fun w => (halfF w).map some) 20 p (p + 12))
  else if 0 < sgn c then (ratioF a b c d).bind fun f => if p + 4 < farF f then none else decF (boundsF f.1 f.2 0) 20 p (2 * p + 12 + farF f)
  else (ratioF a b c d).bind fun f => decF (boundsF f.1 f.2 (sgn a)) 20 p (2 * p + 12 + farF f)
abbrev midF (p m : Int) : Int := sl (iabs m) (p - sz m)
noncomputable def middlesF (p m e : Int) : Option (Int × Int × Int) :=
  if shlOk (iabs m) (p - sz m) then (if shlOk 1 (p - 1) then
    (if midF p m = sl 1 (p - 1) then
      (if 0 ≤ e - p + sz m - 2 then
        (if shlOk (4 * midF p m - 1) (e - p + sz m - 2) then (if shlOk (4 * midF p m + 2) (e - p + sz m - 2) then
          some (sl (4 * midF p m - 1) (e - p + sz m - 2), sl (4 * midF p m + 2) (e - p + sz m - 2), 1) else none) else none)
      else if shlOk 1 (0 - (e - p + sz m - 2)) then some (4 * midF p m - 1, 4 * midF p m + 2, sl 1 (0 - (e - p + sz m - 2))) else none)
    else
      (if 0 ≤ e - p + sz m - 2 then
        (if shlOk (4 * midF p m - 2) (e - p + sz m - 2) then (if shlOk (4 * midF p m + 2) (e - p + sz m - 2) then
          some (sl (4 * midF p m - 2) (e - p + sz m - 2), sl (4 * midF p m + 2) (e - p + sz m - 2), 1) else none) else none)
      else if shlOk 1 (0 - (e - p + sz m - 2)) then some (4 * midF p m - 2, 4 * midF p m + 2, sl 1 (0 - (e - p + sz m - 2))) else none)) else none) else none
/-- the four sums, the next one first -/
noncomputable def waveLoop : Nat → Int → Int → Int → Int → Int → Int → Int → Int → Option (Int × Int)
  | 0, _, _, _, _, a, b, c, d => some (a - c, d - b)
  | n + 1, top, bottom, count, term, a, b, c, d =>
    if mulOk term top then (if divOk (bottom * count) then waveLoop n top bottom (count + 1) ((term * top).fdiv (bottom * count)) b c d (a + (term * top).fdiv (bottom * count)) else none) else none
noncomputable def wavesF (top bottom : Int) : Option (Int × Int) := waveLoop 60 top bottom 1 (2 ^ 100) 0 0 0 (2 ^ 100)
noncomputable def endsF (p m e : Int) : Option ((Int × Int) × (Int × Int)) :=
  (middlesF p m e).bind fun q => (wavesF q.1 q.2.2).bind fun x => (wavesF q.2.1 q.2.2).bind fun y => some (x, y)
abbrev offI : Int := 1 * 2 ^ Int.toNat 20
noncomputable def isArcF (p m e top bottom : Int) : Bool :=
  if m ≤ 0 then false else match endsF p m e with
  | none => false
  | some ((high, wide), (other, broad)) =>
    if wide ≤ 0 then false else if mulOk (high - offI) bottom then (if mulOk (wide + offI) top then
      (if (wide + offI) * top < (high - offI) * bottom then false else if broad ≤ offI then true
       else if mulOk (other + offI) bottom then (if mulOk (broad - offI) top then decide ((broad - offI) * top ≤ (other + offI) * bottom) else false) else false) else false) else false
noncomputable def isSineF (p m e top bottom : Int) : Bool :=
  if m ≤ 0 then false else match endsF p m e with
  | none => false
  | some ((high, wide), (other, broad)) =>
    if wide ≤ 0 then false else if mulOk (high - offI) bottom then (if shlOk top 100 then
      (if sl top 100 < (high - offI) * bottom then false else if broad ≤ offI then true
       else if mulOk (other + offI) bottom then decide (sl top 100 ≤ (other + offI) * bottom) else false) else false) else false
noncomputable def isCosF (p m e top bottom : Int) : Bool :=
  if m ≤ 0 then false else match endsF p m e with
  | none => false
  | some ((high, wide), (other, broad)) =>
    if high ≤ 0 then false else if mulOk (wide + offI) bottom then (if shlOk top 100 then
      (if (wide + offI) * bottom < sl top 100 then false else if other ≤ offI then true
       else if mulOk (broad - offI) bottom then decide ((broad - offI) * bottom ≤ sl top 100) else false) else false) else false
end Mine
end
theorem Mine.offL0 : True := by
  w_top off
  trivial
noncomputable section
open PySem PySem.W PyProof.Rows PySem.Calls
set_option Elab.async false
set_option maxRecDepth 100000
set_option maxHeartbeats 8000000
namespace Mine

abbrev Pg : Program := PySem.Challenge.rw_pc0352_01.row.prog
theorem filled : PySem.Challenge.rw_pc0352_01 = PySem.Challenge.rw_pc0352_01 ∧ hd.heap_39 = hd.heap_39 := by
  k_fill
  exact ⟨rfl, rfl⟩

/-- the surroundings that a call may have at most -/
abbrev Ac (d : Nat) : Around := { handled := none, depth := d, frames := none, guards := none, units := 10 * d }
structure Room (A : Around) (n : Nat) : Prop where
  h : A.handled = none
  d : A.depth ≤ n
  u : A.units ≤ 10 * n

theorem ctx_weak {Γ : Ctx} {A : Around} {d : Nat} (R : Room A d) (h : Γ.In A) : Γ.In (Ac d) :=
  ⟨h.1.trans R.h, Nat.le_trans h.2.1 R.d, fun _ e => (nomatch e), fun _ e => (nomatch e), Nat.le_trans h.2.2.2.2 R.u⟩
theorem wp_weak {α : Type} {M : Model} {A : Around} {d : Nat} {t : Sem α} {Q : α → Shared → Prop} {E : Value → Shared → Prop} {s : Shared} (R : Room A d) (h : wpAny M (Ac d) t Q E s) : wpAny M A t Q E s :=
  fun Γ p hΓ => h Γ p (ctx_weak R hΓ)

/-- what every call may lean on -/
structure Base (w : World) (h : Heap) : Prop where
  K : (hd.heap_39 w.params).In h
  T : ∃ loose mean mg mb, Top topProg loose mean mg mb h
theorem Base.keeps {w : World} {h h' : Heap} (B : Base w h) (k : h.StaysIn h') : Base w h' :=
  ⟨Frag.In.keeps B.K k, let ⟨a, b, c, d, T⟩ := B.T; ⟨a, b, c, d, T.keeps k⟩⟩

/-- a def's end: the frame and the ledger stand, and what is wanted holds -/
def Fin (g : Heap) (Q : Value → Shared → Prop) (v : Value) (s' : Shared) : Prop :=
  ∃ L m news, Fr g L s'.heap m ∧ News g L s'.heap news ∧ (g.StaysIn s'.heap → Q v s')

section
variable {w : World} {A : Around} {E : Value → Shared → Prop} {s : Shared} {K : Frag} {p : Program} {loose : List Str} {mean : ExcName → Option Value} {mg mb : Str → Option Value} {Q : Value → Shared → Prop} {prog : Program}
theorem cd_weak {M : Model} {A : Around} {d : Nat} {c : Code} {R : Result → Shared → Prop} {s : Shared} (Rm : Room A d) (h : codeAny M (Ac d) c R s) : codeAny M A c R s :=
  fun Γ p hc hΓ => h Γ p hc ⟨hΓ.1.trans Rm.h, Nat.le_trans hΓ.2.1 Rm.d, fun _ e => (nomatch e), fun _ e => (nomatch e), Nat.le_trans hΓ.2.2.2.2 Rm.u⟩
theorem enterC {d : Nat} {R : Result → Shared → Prop} {h₀ : Heap} {news : List (Addr × Obj)} {name qual : Str} {params : Arguments} {body : List Stmt} {scope : Scope} {dV kV doc pm cdv ct oc : Value} {an od : Option Addr} {osl : Array (Option Value)} {f : Addr} {vs : List Value} {binds : List (Str × Value)}
    (Rm : Room A d) (hd : d < recursionLimit) (X : K.In s.heap) (T : Top p loose mean mg mb s.heap) (st : h₀.StaysIn s.heap) (size : h₀.objs.size ≤ s.heap.objs.size) (N : ∀ p ∈ news, s.heap.get? p.1 = some p.2 ∧ h₀.get? p.1 = none)
    (ho : K.lookup f = some ⟨oc, od, .func (fnOf name qual params body scope dV kV doc pm an cdv ct), osl⟩) (hcd : codeIn K cdv qual = true)
    (hbind : BindsTo s (fnOf name qual params body scope dV kV doc pm an cdv ct) ⟨vs, []⟩ binds) (hloc : ∀ y ∈ binds, scope.names.lookup y.1 = some .local)
    (h : ∀ L' h₁, Fr h₀ L' h₁ (fun y => binds.reverse.lookup y) → News h₀ L' h₁ news →
      wpAny (model prog w) ((Ac d).deeper (envOf qual scope L' f cdv)) (execs body (envOf qual scope L' f cdv))
        (fun fl s' => R (.ok (.ret (match fl with | .ret v => v | _ => .none))) s') (fun _ _ => False)
        { s with heap := h₁, toks := s.toks + binds.length })
    (hco : scope.isCoroutine = false) (hgen : scope.isGenerator = false) (hk : scope.kind = .function)
    (hcell : ∀ x ∈ scope.names, x.2 ≠ .cell) : codeAny (model prog w) A (.call (.ref f) ⟨vs, []⟩) R s := by
  refine cd_weak Rm ?_
  refine codeAny_call_def (fd := fnOf name qual params body scope dV kV doc pm an cdv ct) (body := body) (binds := binds) hd (X _ _ ho) rfl T.nolimit (codeRec_of X hcd) rfl hbind hcell hloc (fun h₁ hns hk₁ => ?_) hco hgen hk
  refine wpAny_mono (h s.heap.objs.size h₁ ⟨hns, fun b o e => hk₁ b o (st b o e), size⟩ (fun p hp => ⟨hk₁ _ _ (N p hp).1, Nat.ne_of_lt (Heap.lt_size (N p hp).1), (N p hp).2⟩)) (fun fl s' hl => hl) (fun _ _ x => x.elim)
theorem enterP {d : Nat} {name qual : Str} {params : Arguments} {body : List Stmt} {scope : Scope} {dV kV doc pm cdv ct oc : Value} {an od : Option Addr} {osl : Array (Option Value)} {f : Addr} {vs : List Value} {binds : List (Str × Value)}
    (R : Room A d) (hd : d < recursionLimit) (X : K.In s.heap) (T : Top p loose mean mg mb s.heap)
    (ho : K.lookup f = some ⟨oc, od, .func (fnOf name qual params body scope dV kV doc pm an cdv ct), osl⟩) (hcd : codeIn K cdv qual = true)
    (hbind : BindsTo s (fnOf name qual params body scope dV kV doc pm an cdv ct) ⟨vs, []⟩ binds) (hloc : ∀ y ∈ binds, scope.names.lookup y.1 = some .local)
    (h : ∀ L' h₁, Fr s.heap L' h₁ (fun y => binds.reverse.lookup y) → News s.heap L' h₁ [] →
      wpAny (model prog w) ((Ac d).deeper (envOf qual scope L' f cdv)) (execs body (envOf qual scope L' f cdv))
        (fun fl s' => Fin s.heap Q (match fl with | .ret v => v | _ => .none) s') (fun _ _ => False)
        { s with heap := h₁, toks := s.toks + binds.length })
    (hco : scope.isCoroutine = false) (hgen : scope.isGenerator = false) (hk : scope.kind = .function)
    (hcell : ∀ x ∈ scope.names, x.2 ≠ .cell) : wpAny (model prog w) A (call (.ref f) vs) Q E s := by
  refine wpAny_call ?_
  refine enterC (news := []) R hd X T (fun _ _ e => e) (Nat.le_refl _) (fun _ hp => nomatch hp) ho hcd hbind hloc (fun L' h₁ F N => ?_) hco hgen hk hcell
  refine wpAny_mono (h L' h₁ F N) (fun fl s' hl => ?_) (fun _ _ x => x)
  obtain ⟨L, m, news, F', N', k⟩ := hl
  exact k F'.keep
theorem fin {g : Heap} {L : Addr} {m : Str → Option Value} {news : List (Addr × Obj)} {v : Value} {s' : Shared} (F : Fr g L s'.heap m) (N : News g L s'.heap news) (k : g.StaysIn s'.heap → Q v s') : Fin g Q v s' := ⟨L, m, news, F, N, k⟩
end

theorem after {h₀ h h' : Heap} {L : Addr} {m : Str → Option Value} (F : Fr h₀ L h m) (k : h.StaysIn h') : Fr h₀ L h' m :=
  ⟨F.ns.keeps k, fun b o e => k b o (F.keep b o e), F.above⟩
theorem afterN {h₀ h h' : Heap} {L : Addr} {news : List (Addr × Obj)} (N : News h₀ L h news) (k : h.StaysIn h') : News h₀ L h' news :=
  fun p hp => ⟨k _ _ (N p hp).1, (N p hp).2⟩
theorem afterN1 {h₀ h h' : Heap} {L : Addr} {m : Str → Option Value} {news : List (Addr × Obj)} {r : Addr} {o : Obj} (F : Fr h₀ L h m) (N : News h₀ L h news) (k : h.StaysIn h') (hn : h.get? r = none) (ho : h'.get? r = some o) : News h₀ L h' ((r, o) :: news) := by
  intro p hp
  rcases List.mem_cons.mp hp with rfl | hp
  · refine ⟨ho, fun e => ?_, ?_⟩
    · obtain ⟨oL, _, _, hL, _⟩ := F.ns
      rw [show r = L from e] at hn; rw [hn] at hL; cases hL
    · cases q : h₀.get? r with
      | none => rfl
      | some x => rw [F.keep _ _ q] at hn; cases hn
  · exact afterN N k p hp

/-- a call of f with vs, at room d, in a state whose heap has pre, gives back what post says -/
def Says (w : World) (d : Nat) (f : Value) (vs : List Value) (s : Shared) (post : Heap → Value → Prop) : Prop :=
  ∀ (A : Around) (Q E : Value → Shared → Prop), Room A d → (∀ v h' tk, s.heap.StaysIn h' → post h' v → Q v { s with heap := h', toks := tk }) → wpAny (model Pg w) A (call f vs) Q E s

abbrev IsInt (n : Int) : Heap → Value → Prop := fun _ v => ∃ t, v = .int n t
abbrev IsBool (b : Bool) : Heap → Value → Prop := fun _ v => v = .bool b


local macro_rules | `(tactic| walk_at "mine enter") => `(tactic| (
  (case hd => decide)
  (case ho => k_is)
  (case hcd => k_is)
  (case hb => exact BindsTo.of_eq rfl)
  (case hl => exact locs rfl)
  (case c1 => exact rfl)
  (case c2 => exact rfl)
  (case c3 => exact rfl)
  (case c4 => decide)
  intro L' h₁ F N
  (try dsimp only)
  k_fold))


theorem c_size_of {w : World} {s : Shared} {n : Int} {t : Tok} (B : Base w s.heap) : Says w 890 (.ref 100) [.int n t] s (IsInt (Builtin.Int.intBits (if n < 0 then -n else n))) := by
  intro A Q E R h
  obtain ⟨X, loose, mean, mg, mb, T⟩ := B
  refine' enterP (binds := [("number", .int n t)]) R ?hd X T ?ho ?hcd ?hb ?hl ?_ ?c1 ?c2 ?c3 ?c4
  walk_at "mine enter"
  k_steps
  all_goals exact fin (by assumption) (by assumption) (fun st => h _ _ _ st ⟨_, rfl⟩)

/-- a Real at x, its dict at dx -/
def RealD (h : Heap) (x dx : Addr) (m e : Int) : Prop :=
  ∃ h1 k1 t1 h2 k2 t2 n, h.get? x = some (instObj 89 dx) ∧ h.get? dx = some (dictOf [⟨h1, .str "mantissa" k1, .int m t1⟩, ⟨h2, .str "exponent" k2, .int e t2⟩] n)
abbrev NewReal (h : Heap) (m e : Int) : Heap → Value → Prop := fun h' v => ∃ x dx, v = .ref x ∧ h.get? x = none ∧ h.get? dx = none ∧ RealD h' x dx m e
abbrev NewT2 (h : Heap) (a b : Int) : Heap → Value → Prop := fun h' v => ∃ r t1 t2 n, v = .ref r ∧ h.get? r = none ∧ h'.get? r = some { cls := .type "tuple", data := .seq #[.int a t1, .int b t2] n }
abbrev IsT2 (h : Heap) (r : Addr) (a b : Int) : Prop := ∃ t1 t2, IsTup h r #[.int a t1, .int b t2]
abbrev IsReal (h : Heap) (x : Addr) (m e : Int) : Prop := ∃ dx, RealD h x dx m e

section
variable {w : World} {A : Around} {E Q : Value → Shared → Prop} {s : Shared} {d : Nat} {f : Value} {vs : List Value} {h₀ : Heap} {L : Addr} {mm : Str → Option Value} {news : List (Addr × Obj)}
theorem useI {n : Int} (C : Says w d f vs s (IsInt n)) (R : Room A d) (F : Fr h₀ L s.heap mm) (N : News h₀ L s.heap news)
    (h : ∀ t h' tk', Fr h₀ L h' mm → News h₀ L h' news → Q (.int n t) { s with heap := h', toks := tk' }) : wpAny (model Pg w) A (call f vs) Q E s :=
  C A Q E R fun v h' tk k ⟨t, e⟩ => e ▸ h t h' tk (after F k) (afterN N k)
theorem useB {b : Bool} (C : Says w d f vs s (IsBool b)) (R : Room A d) (F : Fr h₀ L s.heap mm) (N : News h₀ L s.heap news)
    (h : ∀ h' tk', Fr h₀ L h' mm → News h₀ L h' news → Q (.bool b) { s with heap := h', toks := tk' }) : wpAny (model Pg w) A (call f vs) Q E s :=
  C A Q E R fun v h' tk k e => (show v = .bool b from e) ▸ h h' tk (after F k) (afterN N k)
theorem useT {a b : Int} (C : Says w d f vs s (NewT2 s.heap a b)) (R : Room A d) (F : Fr h₀ L s.heap mm) (N : News h₀ L s.heap news)
    (h : ∀ r t1 t2 n h' tk', Fr h₀ L h' mm → News h₀ L h' ((r, { cls := .type "tuple", data := .seq #[.int a t1, .int b t2] n }) :: news) → Q (.ref r) { s with heap := h', toks := tk' }) : wpAny (model Pg w) A (call f vs) Q E s :=
  C A Q E R fun v h' tk k ⟨r, t1, t2, n, e, hn, ho⟩ => e ▸ h r t1 t2 n h' tk (after F k) (afterN1 F N k hn ho)
theorem useR {m e : Int} (C : Says w d f vs s (NewReal s.heap m e)) (R : Room A d) (F : Fr h₀ L s.heap mm) (N : News h₀ L s.heap news)
    (h : ∀ x dx h1 k1 t1 h2 k2 t2 n h' tk', Fr h₀ L h' mm → News h₀ L h' ((x, instObj 89 dx) :: (dx, dictOf [⟨h1, .str "mantissa" k1, .int m t1⟩, ⟨h2, .str "exponent" k2, .int e t2⟩] n) :: news) → Q (.ref x) { s with heap := h', toks := tk' }) : wpAny (model Pg w) A (call f vs) Q E s :=
  C A Q E R fun v h' tk k ⟨x, dx, ev, hx, hdx, h1, k1, t1, h2, k2, t2, n, ox, od⟩ => ev ▸ h x dx h1 k1 t1 h2 k2 t2 n h' tk (after F k)
    (fun p hp => by
      rcases List.mem_cons.mp hp with rfl | hp
      · exact afterN1 F N k hx ox _ (.head _)
      · exact afterN1 F N k hdx od p hp)
theorem baseAt {loose : List Str} {mean : ExcName → Option Value} {mg mb : Str → Option Value} (X : (hd.heap_39 w.params).In h₀) (T : Top topProg loose mean mg mb h₀) (F : Fr h₀ L s.heap mm) : Base w s.heap :=
  ⟨Frag.In.keeps X F.keep, _, _, _, _, T.keeps F.keep⟩
theorem RealD.keeps {h h' : Heap} {x dx : Addr} {m e : Int} (x' : RealD h x dx m e) (k : h.StaysIn h') : RealD h' x dx m e :=
  let ⟨h1, k1, t1, h2, k2, t2, n, a, b⟩ := x'; ⟨h1, k1, t1, h2, k2, t2, n, k _ _ a, k _ _ b⟩
theorem instKeeps {x dx C : Addr} {od : Obj} (a : h₀.get? x = some (instObj C dx)) (b : h₀.get? dx = some od) (F : Fr h₀ L s.heap mm) : InstAt s.heap x (instObj C dx) C (some od) :=
  ⟨F.keep _ _ a, rfl, rfl, F.keep _ _ b⟩
theorem fin_I {n n' : Int} {t : Tok} {g : Heap} {L : Addr} {m : Str → Option Value} {news : List (Addr × Obj)} {Q : Value → Shared → Prop} {s s' : Shared}
    (F : Fr g L s'.heap m) (N : News g L s'.heap news) (e : n = n') (h : ∀ v h' tk, g.StaysIn h' → IsInt n' h' v → Q v { s with heap := h', toks := tk }) (hs : s' = { s with heap := s'.heap, toks := s'.toks } := by rfl) : Fin g Q (.int n t) s' :=
  ⟨L, m, news, F, N, fun st => hs ▸ e ▸ h _ _ _ st ⟨t, e ▸ rfl⟩⟩
theorem fin_B {n n' : Bool} {g : Heap} {L : Addr} {m : Str → Option Value} {news : List (Addr × Obj)} {Q : Value → Shared → Prop} {s s' : Shared}
    (F : Fr g L s'.heap m) (N : News g L s'.heap news) (e : n = n') (h : ∀ v h' tk, g.StaysIn h' → IsBool n' h' v → Q v { s with heap := h', toks := tk }) (hs : s' = { s with heap := s'.heap, toks := s'.toks } := by rfl) : Fin g Q (.bool n) s' :=
  ⟨L, m, news, F, N, fun st => hs ▸ e ▸ h _ _ _ st (e ▸ rfl)⟩
theorem fin_T {a b : Int} {r : Addr} {t1 t2 : Tok} {n : Nat} {h : Heap} {L : Addr} {m : Str → Option Value} {news : List (Addr × Obj)} {Q : Value → Shared → Prop} {s' : Shared}
    (F : Fr h L s'.heap m) (N : News h L s'.heap news) (hm : (r, ({ cls := .type "tuple", data := .seq #[.int a t1, .int b t2] n } : Obj)) ∈ news) (k : h.StaysIn s'.heap → NewT2 h a b s'.heap (.ref r) → Q (.ref r) s') : Fin h Q (.ref r) s' :=
  ⟨L, m, news, F, N, fun st => k st ⟨r, t1, t2, n, rfl, (N _ hm).2.2, (N _ hm).1⟩⟩
theorem fin_R {m e : Int} {x dx : Addr} {h1 h2 : Int} {k1 t1 k2 t2 : Tok} {n : Nat} {h : Heap} {L : Addr} {mm : Str → Option Value} {news : List (Addr × Obj)} {Q : Value → Shared → Prop} {s' : Shared}
    (F : Fr h L s'.heap mm) (N : News h L s'.heap news) (hm : (x, instObj 89 dx) ∈ news) (hd : (dx, dictOf [⟨h1, .str "mantissa" k1, .int m t1⟩, ⟨h2, .str "exponent" k2, .int e t2⟩] n) ∈ news)
    (k : h.StaysIn s'.heap → NewReal h m e s'.heap (.ref x) → Q (.ref x) s') : Fin h Q (.ref x) s' :=
  ⟨L, mm, news, F, N, fun st => k st ⟨x, dx, rfl, (N _ hm).2.2, (N _ hd).2.2, h1, k1, t1, h2, k2, t2, n, (N _ hm).1, (N _ hd).1⟩⟩
end

theorem c_Real {w : World} {s : Shared} {m e : Int} {t u : Tok} (B : Base w s.heap) : Says w 888 (.ref 89) [.int m t, .int e u] s (NewReal s.heap m e) := by
  intro A Q E R h
  obtain ⟨X, loose, mean, mg, mb, T⟩ := B
  obtain ⟨hh, g, dd, tt, os⟩ := s
  refine wp_weak R (wpAny_call ?_)
  have hk : hh.StaysIn ((hh.push emptyDict).push (instObj 89 hh.objs.size)) := fun b o e => Heap.get?_push_of_some _ (Heap.get?_push_of_some _ e)
  have hz : hh.objs.size ≤ ((hh.push emptyDict).push (instObj 89 hh.objs.size)).objs.size := by rw [Heap.size_push, Heap.size_push]; omega
  have gx : ((hh.push emptyDict).push (instObj 89 hh.objs.size)).get? (hh.objs.size + 1) = some (instObj 89 hh.objs.size) := by
    have := Heap.get?_push_size (hh.push emptyDict) (o := instObj 89 hh.objs.size) rfl
    rwa [Heap.size_push] at this
  have gd : ((hh.push emptyDict).push (instObj 89 hh.objs.size)).get? hh.objs.size = some emptyDict := Heap.get?_push_of_some _ (Heap.get?_push_size _ rfl)
  have fx : hh.get? (hh.objs.size + 1) = none := Heap.get?_none_of_le (Nat.le_succ _)
  have fd : hh.get? hh.objs.size = none := Heap.get?_none_of_le (Nat.le_refl _)
  have hinit : findIn (hd.heap_39 w.params) (.ref 89) "__init__" = some (some (.ref 86)) := by k_is
  have hisf : isFn (hd.heap_39 w.params) (.ref 86) = true := by k_is
  refine make_core (makes_of X (by k_is)) (looks_findIn X hinit) (fun self => bind_fn X self (beq_iff_eq.mp hisf)) (.inl rfl) ?_
  refine' enterC (d := 889) (h₀ := hh) (news := [(hh.objs.size + 1, instObj 89 hh.objs.size), (hh.objs.size, dictOf [] 0)]) (binds := [("self", .ref (hh.objs.size + 1)), ("mantissa", .int m t), ("exponent", .int e u)]) ⟨rfl, Nat.le_of_ble_eq_true rfl, Nat.le_of_ble_eq_true rfl⟩ ?hd (Frag.In.keeps X hk) (T.keeps hk) hk hz ?hN ?ho ?hcd ?hb ?hl ?_ ?c1 ?c2 ?c3 ?c4
  case hN =>
    intro p hp
    rcases List.mem_cons.mp hp with rfl | hp
    · exact ⟨gx, fx⟩
    · rw [List.mem_singleton.mp hp]; exact ⟨gd, fd⟩

  walk_at "mine enter"
  k_steps
  rename_i F' N'
  exact ⟨rfl, h _ _ _ (fun b o q => F'.keep _ _ q) ⟨_, _, rfl, (N' _ (.head _)).2.2, (N' _ (.tail _ (.head _))).2.2, _, _, _, _, _, _, _, (N' _ (.head _)).1, (N' _ (.tail _ (.head _))).1⟩⟩
end Mine
end
noncomputable section
open PySem PySem.W PyProof.Rows PySem.Calls
set_option Elab.async false
set_option maxRecDepth 100000
set_option maxHeartbeats 8000000
set_option linter.all false
set_option exponentiation.threshold 5000
namespace Mine

abbrev frM (l : List (Str × Value)) : Str → Option Value := fun y => List.lookup y l
/-- the code tables of the defs that make functions -/
abbrev tabL : List Addr := [401, 483, 380, 359, 366, 331, 476]
abbrev lamQ (n : Str) : Str := (n ++ ".<locals>.") ++ "<lambda>"
/-- where they are made: the table, the place, the name -/
abbrev lamPs : List (Addr × Pos × Str) := [
  (331, ⟨157, 36, 157, 78⟩, lamQ "atan_real"), (359, ⟨173, 11, 173, 64⟩, lamQ "quarter_of"), (366, ⟨181, 36, 181, 72⟩, lamQ "asin_real"), (380, ⟨192, 36, 192, 72⟩, lamQ "acos_real"),
  (401, ⟨217, 4, 218, 83⟩, "atan_two_real" ++ ".<locals>." ++ "bounds_at"),
  (476, ⟨289, 0, 289, 38⟩, lamQ "_law_are_arcs"), (476, ⟨297, 0, 297, 38⟩, lamQ "_law_are_arcs"), (476, ⟨283, 0, 283, 34⟩, lamQ "_law_are_arcs"), (476, ⟨284, 0, 284, 34⟩, lamQ "_law_are_arcs"),
  (476, ⟨293, 0, 293, 34⟩, lamQ "_law_are_arcs"), (476, ⟨294, 0, 294, 34⟩, lamQ "_law_are_arcs"), (476, ⟨303, 0, 303, 34⟩, lamQ "_law_are_arcs"), (483, ⟨307, 22, 307, 100⟩, lamQ "_law_is_point_right")]

structure TabOk (P : Addr) (ps : Array Value) (cr : Value → Str → Prop) : Prop where
  tri : TriplesOk ps.toList
  code : ∀ q ∈ lamPs, q.1 = P → ∀ v, codeAmong q.2.1 ps.toList = some v → cr v q.2.2
theorem TabOk.mono {P : Addr} {ps : Array Value} {cr cr' : Value → Str → Prop} (x : TabOk P ps cr) (k : ∀ v q, cr v q → cr' v q) : TabOk P ps cr' := ⟨x.tri, fun q h1 h2 v h3 => k _ _ (x.code q h1 h2 v h3)⟩
/-- every table stands, and its codes stand -/
def TabsAll (h : Heap) : Prop := ∀ P ∈ tabL, ∃ ps, h.get? P = some (tabObj ps) ∧ TabOk P ps h.CodeRec
/-- a code that the base or the ledger bears -/
def CrL (h₀ : Heap) (news : List (Addr × Obj)) (v : Value) (q : Str) : Prop := h₀.CodeRec v q ∨ ∃ c oc vs t, v = .ref c ∧ (c, oc) ∈ news ∧ oc.data = .fields vs ∧ vs[1]? = some (.str q t)
theorem CrL.mono {h₀ : Heap} {news news' : List (Addr × Obj)} {v : Value} {q : Str} (x : CrL h₀ news v q) (k : ∀ p ∈ news, p ∈ news') : CrL h₀ news' v q :=
  x.imp id fun ⟨c, oc, vs, t, a, b, r⟩ => ⟨c, oc, vs, t, a, k _ b, r⟩
theorem CrL.rec_ {h₀ h : Heap} {L : Addr} {m : Str → Option Value} {news : List (Addr × Obj)} {v : Value} {q : Str} (x : CrL h₀ news v q) (F : Fr h₀ L h m) (N : News h₀ L h news) : h.CodeRec v q := by
  rcases x with ⟨c, oc, vs, t, e, g, r⟩ | ⟨c, oc, vs, t, e, g, r⟩
  · exact ⟨c, oc, vs, t, e, F.keep _ _ g, r⟩
  · exact ⟨c, oc, vs, t, e, (N _ g).1, r⟩
abbrev tabs7 (tb : Addr → Array Value) : List (Addr × Obj) := tabL.map fun P => (P, tabObj (tb P))
/-- a code's record -/
def IsRec (o : Obj) : Prop := ∃ vs q t, o.data = .fields vs ∧ vs[1]? = some (.str q t)
theorem isRec_ne {h : Heap} {ps : Array Value} {b P : Addr} {o : Obj} (hr : IsRec o) (e : h.get? b = some o) (hP : h.get? P = some (tabObj ps)) (tri : TriplesOk ps.toList) : b ≠ P := by
  rintro rfl
  rw [e] at hP; cases hP
  obtain ⟨vs, q, t, hd, hv⟩ := hr
  cases hd
  have hv' : ps.toList[1]? = some (.str q t) := by rw [← hv]; simp
  generalize ps.toList = l at tri hv'
  fun_induction TriplesOk l with
  | case1 => cases hv'
  | case2 a t b u x rest ih => cases hv'
  | case3 l h1 h2 => exact tri.elim
/-- the ledger's end: the tables and the codes that were made -/
def TabsIn (h₀ : Heap) (rest : List (Addr × Obj)) : Prop := ∃ tb codes, rest = tabs7 tb ++ codes ∧ (∀ P ∈ tabL, TabOk P (tb P) (CrL h₀ codes)) ∧ ∀ p ∈ codes, IsRec p.2
def StaysBut (W : List Addr) (h h' : Heap) : Prop := ∀ b o, b ∉ W → h.get? b = some o → h'.get? b = some o
theorem StaysBut.trans {W : List Addr} {h h' h'' : Heap} (x : StaysBut W h h') (y : StaysBut W h' h'') : StaysBut W h h'' := fun b o n e => y b o n (x b o n e)

theorem tabsAll_of {h₀ h : Heap} {L : Addr} {m : Str → Option Value} {own rest : List (Addr × Obj)} (F : Fr h₀ L h m) (N : News h₀ L h (own ++ rest)) (T : TabsIn h₀ rest) : TabsAll h := by
  obtain ⟨tb, codes, rfl, ok, _⟩ := T
  intro P hP
  refine ⟨tb P, (N (P, tabObj (tb P)) (List.mem_append_right _ (List.mem_append_left _ (List.mem_map_of_mem hP)))).1, (ok P hP).mono fun v q x => ?_⟩
  exact CrL.rec_ x F (fun p hp => N p (List.mem_append_right _ (List.mem_append_right _ hp)))

/-- the codes that stand in no base, as a ledger -/
theorem codesAt {h₀ h : Heap} (keep : h₀.StaysIn h) (cr : List (Value × Str)) (hcr : ∀ x ∈ cr, h.CodeRec x.1 x.2) :
    ∃ codes, (∀ p ∈ codes, h.get? p.1 = some p.2 ∧ h₀.get? p.1 = none) ∧ (∀ x ∈ cr, CrL h₀ codes x.1 x.2) ∧ ∀ p ∈ codes, IsRec p.2 := by
  induction cr with
  | nil => exact ⟨[], (fun _ h => nomatch h), (fun _ h => nomatch h), fun _ h => nomatch h⟩
  | cons x r ih =>
    obtain ⟨codes, N, ok, ir⟩ := ih fun y hy => hcr y (.tail _ hy)
    obtain ⟨c, oc, vs, t, e, g, hd, hv⟩ := hcr x (.head _)
    cases q : h₀.get? c with
    | some o =>
      have := keep _ _ q
      rw [g] at this; cases this
      refine ⟨codes, N, fun y hy => ?_, ir⟩
      rcases List.mem_cons.mp hy with rfl | hy
      · exact .inl ⟨c, oc, vs, t, e, q, hd, hv⟩
      · exact ok y hy
    | none =>
      refine ⟨(c, oc) :: codes, fun p hp => ?_, fun y hy => ?_, fun p hp => by rcases List.mem_cons.mp hp with rfl | hp; exact ⟨vs, _, t, hd, hv⟩; exact ir p hp⟩
      · rcases List.mem_cons.mp hp with rfl | hp
        · exact ⟨g, q⟩
        · exact N p hp
      · rcases List.mem_cons.mp hy with rfl | hy
        · exact .inr ⟨c, oc, vs, t, e, .head _, hd, hv⟩
        · exact (ok y hy).mono fun p hp => .tail _ hp
/-- what the tables ask for -/
def asked (tb : Addr → Array Value) : List (Value × Str) := lamPs.filterMap fun q => (codeAmong q.2.1 (tb q.1).toList).map fun v => (v, q.2.2)
theorem restOf {h₀ h : Heap} (keep : h₀.StaysIn h) (T : TabsAll h) (hh : ∀ P ∈ tabL, h₀.get? P = none) : ∃ rest, (∀ p ∈ rest, h.get? p.1 = some p.2 ∧ h₀.get? p.1 = none ∧ ∀ es n, p.2.data ≠ .dict es n) ∧ TabsIn h₀ rest := by
  have ex : ∃ tb : Addr → Array Value, ∀ P ∈ tabL, h.get? P = some (tabObj (tb P)) ∧ TabOk P (tb P) h.CodeRec := by
    refine ⟨fun P => if hP : P ∈ tabL then (T P hP).choose else #[], fun P hP => ?_⟩
    simp only [dif_pos hP]
    exact (T P hP).choose_spec
  obtain ⟨tb, htb⟩ := ex
  have inL : ∀ q ∈ lamPs, q.1 ∈ tabL := by decide
  obtain ⟨codes, N, ok, ir⟩ := codesAt keep (asked tb) fun x hx => by
    obtain ⟨q, hq, hx⟩ := List.mem_filterMap.mp hx
    obtain ⟨v, hv, rfl⟩ := Option.map_eq_some_iff.mp hx
    exact (htb q.1 (inL q hq)).2.code q hq rfl v hv
  refine ⟨tabs7 tb ++ codes, fun p hp => ?_, tb, codes, rfl, fun P hP => ⟨(htb P hP).2.tri, fun q hq e v hv => ?_⟩, ir⟩
  · rcases List.mem_append.mp hp with hp | hp
    · obtain ⟨P, hP, rfl⟩ := List.mem_map.mp hp
      exact ⟨(htb P hP).1, hh P hP, fun es n q => by cases q⟩
    · obtain ⟨vs, q, t, hd, _⟩ := ir p hp
      exact ⟨(N p hp).1, (N p hp).2, fun es n q => by rw [hd] at q; cases q⟩
  · subst e
    exact ok _ (List.mem_filterMap.mpr ⟨q, hq, by rw [hv]; rfl⟩)
theorem tabsIn_of {h₀ h : Heap} {L : Addr} {m : Str → Option Value} (F : Fr h₀ L h m) (T : TabsAll h) (hh : ∀ P ∈ tabL, h₀.get? P = none) : ∃ rest, News h₀ L h rest ∧ TabsIn h₀ rest := by
  obtain ⟨rest, N, TI⟩ := restOf F.keep T hh
  refine ⟨rest, fun p hp => ⟨(N p hp).1, fun z => ?_, (N p hp).2.1⟩, TI⟩
  obtain ⟨oL, es, ep, hL, hLd, _⟩ := F.ns
  have g := (N p hp).1
  rw [z, hL] at g
  cases g
  exact (N p hp).2.2 _ _ hLd

theorem codeAmong_snoc_ne {pos pos' : Pos} {c : Value} (l : List Value) (h : TriplesOk l) (hn : ¬ (pos.line = pos'.line ∧ pos.col = pos'.col)) :
    codeAmong pos' (l ++ [rawInt pos.line, rawInt pos.col, c]) = codeAmong pos' l := by
  fun_induction TriplesOk l with
  | case1 =>
    simp only [List.nil_append, codeAmong, rawInt]
    rw [if_neg]
    simp only [Bool.and_eq_true, beq_iff_eq]
    intro q
    exact hn ⟨by omega, by omega⟩
  | case2 a t b u x rest ih =>
    simp only [List.cons_append, codeAmong]
    split
    · rfl
    · exact ih h
  | case3 l h1 h2 => exact h.elim

section
variable {M : Model} {A : Around} {E : Value → Shared → Prop} {s : Shared} {h₀ : Heap} {L a c P : Addr} {m mg mb : Str → Option Value} {cn : Str} {cs : Scope} {ccd : Value} {cl : List (Str × Addr)} {own rest : List (Addr × Obj)}
  {p : Program} {loose : List Str} {mean : ExcName → Option Value} {name qual : Str} {params : Arguments} {body : PySem.Expr} {scope : Scope} {pos : Pos} {firstLine : Nat} {clos : List (Str × Addr)}

/-- no code table -/
def NotTab (o : Obj) : Prop := o.cls ≠ .none ∨ ∀ vs, o.data ≠ .fields vs
theorem notTab_cell {o : Obj} {v : Option Value} (h : o.data = .cell v) : NotTab o := .inr fun vs q => by rw [h] at q; cases q
theorem notTab_type {o : Obj} {n : String} (h : o.cls = .type n) : NotTab o := .inl fun q => by rw [h] at q; cases q
theorem notTab_ref {o : Obj} {a : Addr} (h : o.cls = .ref a) : NotTab o := .inl fun q => by rw [h] at q; cases q
theorem notTab_ne {h : Heap} {h₀ : Heap} {news : List (Addr × Obj)} {ps : Array Value} {b : Addr} {o : Obj} (ht : NotTab o) (e : h.get? b = some o) (hP : h.get? P = some (tabObj ps)) : b ≠ P := by
  rintro rfl
  rw [e] at hP; cases hP
  rcases ht with q | q
  · exact q rfl
  · exact q _ rfl
/-- it is no code table -/
def Plain (o : Obj) : Prop := (NotTab o ∧ ∀ v, o.data ≠ .cell v) ∨ IsRec o
def Offtab (o : Obj) : Prop := NotTab o ∨ IsRec o
theorem Plain.off {o : Obj} (h : Plain o) : Offtab o := h.imp (fun x => x.1) id
theorem Plain.cell {o : Obj} (h : Plain o) (v : Option Value) : o.data ≠ .cell v := h.elim (fun x => x.2 v) fun ⟨_, _, _, e, _⟩ q => by rw [e] at q; cases q
theorem plain_ne {h : Heap} {ps : Array Value} {b : Addr} {o : Obj} (ht : Offtab o) (e : h.get? b = some o) (hP : h.get? P = some (tabObj ps)) (tri : TriplesOk ps.toList) : b ≠ P := ht.elim (fun t => notTab_ne (h₀ := h) (news := []) t e hP) fun r => isRec_ne r e hP tri
/-- a lambda is made -/
theorem lam_make (own : List (Addr × Obj)) {Q : Value → Shared → Prop} (F : Fr h₀ L s.heap m) (N : News h₀ L s.heap (own ++ rest)) (TI : TabsIn h₀ rest) (hown : ∀ q ∈ own, Offtab q.2) (T : Top p loose mean mg mb h₀) (C : CodeHd h₀ c P) (hcd : ccd = .ref c)
    (hP : P ∈ tabL) (hpos : (P, pos, qual) ∈ lamPs) (hcl : closureFor scope (envX cn cs L a ccd cl) = pure clos)
    (h : ∀ f c' ctv pm h' tk rest', Fr h₀ L h' m → News h₀ L h' ((f, kla_obj name qual params body scope clos pm c' ctv) :: (own ++ rest')) → TabsIn h₀ rest' → CrL h₀ rest' (.ref c') qual → Q (.ref f) { s with heap := h', toks := tk }) :
    wpAny M A (makeFunction name qual params (.expr body) scope (envX cn cs L a ccd cl) [] [] [] pos firstLine) Q E s := by
  obtain ⟨tb, codes, rfl, ok, ir⟩ := TI
  have hmem : (P, tabObj (tb P)) ∈ own ++ (tabs7 tb ++ codes) := List.mem_append_right _ (List.mem_append_left _ (List.mem_map_of_mem hP))
  have hm := N _ hmem
  have okP := ok P hP
  cases hf : codeAmong pos (tb P).toList with
  | some v =>
    have cr := okP.code _ hpos rfl v hf
    have hv : ∃ c', v = .ref c' := by
      rcases cr with ⟨c', _, _, _, e, _⟩ | ⟨c', _, _, _, e, _⟩ <;> exact ⟨c', e⟩
    obtain ⟨c', rfl⟩ := hv
    refine kla_hit F N T C hcd hmem okP.tri hf hcl fun f ctv h' tk F' N' _ => ?_
    exact h f c' ctv _ h' tk _ F' N' ⟨tb, codes, rfl, ok, ir⟩ (cr.mono fun p hp => List.mem_append_right _ hp)
  | none =>
    have hgs := T.g.keeps F.keep
    obtain ⟨bm, ob, b1, b2, b3, b4, b5, b6⟩ := T.bmain
    have hgP : mainGlobals ≠ P := fun q => by
      obtain ⟨o, es, ep, e, hd, _⟩ := hgs
      rw [q, hm.1] at e; cases e; cases hd
    have hbP : bm ≠ P := fun q => by
      have e := F.keep _ _ b3
      rw [q, hm.1] at e; cases e; cases b4
    have hbG : bm ≠ mainGlobals := fun q => by
      obtain ⟨o, es, ep, e, hd, _⟩ := T.g
      rw [q, e] at b3; cases b3; rw [hd] at b6; cases b6
    refine kla_makeFunction (mg := mg) hcl rfl hgs hcd (C.keeps F.keep) hm.1 okP.tri hf hgP ⟨bm, ob, b1, b2, hbG, hbP, F.keep _ _ b3, b4, b5, b6⟩ fun c' ctv h' tk hx hge hlt hrec htb => ?_
    obtain ⟨c₂, oc, vs, t, e2, hoc, hd, hv⟩ := hrec
    cases e2
    have hLs : L < s.heap.objs.size := F.ns.lt
    have hLc : L < c' := Nat.lt_of_lt_of_le hLs hge
    have old : ∀ b o, h₀.get? b = some o → h'.get? b = some o := fun b o e => hx b o (fun q => by rw [q, hm.2.2] at e; cases e) (F.keep b o e)
    have fresh : ∀ b, L < b → h₀.get? b = none := fun b hb => Heap.get?_none_of_le (Nat.le_trans F.above (Nat.le_of_lt hb))
    have hu : ∀ Q', Q' ∈ tabL → TabOk Q' ((fun R => if R = P then tb P ++ #[rawInt pos.line, rawInt pos.col, .ref c'] else tb R) Q') (CrL h₀ ((c', oc) :: codes)) := fun Q' hQ' => by
      by_cases e : Q' = P
      · subst e
        simp only [if_true]
        refine ⟨by rw [Array.toList_append]; exact TriplesOk_snoc _ _ _ _ okP.tri, fun q hq e v hv' => ?_⟩
        rw [Array.toList_append] at hv'
        by_cases same : pos.line = q.2.1.line ∧ pos.col = q.2.1.col
        · have eq : q = (Q', pos, qual) := by
            have all : ∀ x ∈ lamPs, ∀ y ∈ lamPs, x.1 = y.1 → x.2.1.line = y.2.1.line → x.2.1.col = y.2.1.col → x = y := by decide
            exact all q hq _ hpos e same.1.symm same.2.symm
          subst eq
          rw [show (#[rawInt pos.line, rawInt pos.col, Value.ref c'] : Array Value).toList = [rawInt pos.line, rawInt pos.col, .ref c'] from rfl, codeAmong_snoc _ okP.tri hf] at hv'
          cases hv'
          exact .inr ⟨c', oc, vs, t, rfl, .head _, hd, hv⟩
        · rw [show (#[rawInt pos.line, rawInt pos.col, Value.ref c'] : Array Value).toList = [rawInt pos.line, rawInt pos.col, .ref c'] from rfl, codeAmong_snoc_ne _ okP.tri same] at hv'
          exact (okP.code q hq e v hv').mono fun p hp => .tail _ hp
      · simp only [if_neg e]
        exact (ok Q' hQ').mono fun v q x => x.mono fun p hp => .tail _ hp
    refine h h'.objs.size c' ctv ((mg "__name__").getD .none) _ tk (tabs7 (fun R => if R = P then tb P ++ #[rawInt pos.line, rawInt pos.col, .ref c'] else tb R) ++ (c', oc) :: codes) ⟨(F.ns.extBut hx hm.2.1.symm).push _, fun b o e => Heap.get?_push_of_some _ (old b o e), F.above⟩ (fun q hq => ?_) ⟨_, _, rfl, hu, fun p hp => by rcases List.mem_cons.mp hp with rfl | hp; exact ⟨vs, _, t, hd, hv⟩; exact ir p hp⟩
      (.inr ⟨c', oc, vs, t, rfl, List.mem_append_right _ (.head _), hd, hv⟩)
    rcases List.mem_cons.mp hq with rfl | hq
    · exact ⟨Heap.get?_push_size _ rfl, Nat.ne_of_gt (Nat.lt_trans hLc hlt), fresh _ (Nat.lt_trans hLc hlt)⟩
    · rcases List.mem_append.mp hq with hq | hq
      · have n := N q (List.mem_append_left _ hq)
        exact ⟨Heap.get?_push_of_some _ (hx _ _ (plain_ne (hown q hq) n.1 hm.1 okP.tri) n.1), n.2⟩
      · rcases List.mem_append.mp hq with hq | hq
        · obtain ⟨R, hR, rfl⟩ := List.mem_map.mp hq
          by_cases e : R = P
          · subst e
            simp only [if_true]
            exact ⟨Heap.get?_push_of_some _ htb, hm.2⟩
          · simp only [if_neg e]
            have n := N (R, tabObj (tb R)) (List.mem_append_right _ (List.mem_append_left _ (List.mem_map_of_mem hR)))
            exact ⟨Heap.get?_push_of_some _ (hx _ _ e n.1), n.2⟩
        · rcases List.mem_cons.mp hq with rfl | hq
          · exact ⟨Heap.get?_push_of_some _ hoc, Nat.ne_of_gt hLc, fresh _ hLc⟩
          · have n := N q (List.mem_append_right _ (List.mem_append_right _ hq))
            exact ⟨Heap.get?_push_of_some _ (hx _ _ (isRec_ne (ir q hq) n.1 hm.1 okP.tri) n.1), n.2⟩
end

/-- the heap without its code tables -/
@[irreducible] def bare (h : Heap) : Heap := hideAll h tabL
theorem bare_size (h : Heap) : (bare h).objs.size = h.objs.size := by unfold bare; exact hideAll_size _ _
theorem bare_none {h : Heap} {P : Addr} (hP : P ∈ tabL) : (bare h).get? P = none := by unfold bare; exact hideAll_none tabL hP
theorem bare_of {h : Heap} {b : Addr} {o : Obj} (e : (bare h).get? b = some o) : h.get? b = some o := by unfold bare at e; exact of_hideAll tabL e
theorem bare_get {h : Heap} {b : Addr} {o : Obj} (n : b ∉ tabL) (e : h.get? b = some o) : (bare h).get? b = some o := by unfold bare; exact hideAll_get tabL e n
theorem notTab_mem {h : Heap} {b : Addr} {o : Obj} (TA : TabsAll h) (nt : NotTab o) (e : h.get? b = some o) : b ∉ tabL := fun hb => by
  obtain ⟨ps, hp, _⟩ := TA b hb
  exact notTab_ne (h₀ := h) (news := []) nt e hp rfl
theorem bare_keep {h : Heap} {b : Addr} {o : Obj} (TA : TabsAll h) (nt : NotTab o) (e : h.get? b = some o) : (bare h).get? b = some o := bare_get (notTab_mem TA nt e) e
theorem bare_ns {h : Heap} {a : Addr} {mm : Str → Option Value} (TA : TabsAll h) (x : h.Ns a mm) : (bare h).Ns a mm :=
  let ⟨o, es, ep, e, hd, r⟩ := x; ⟨o, es, ep, bare_keep TA (.inr fun vs q => by rw [hd] at q; cases q) e, hd, r⟩
theorem bare_top {h : Heap} {loose : List Str} {mean : ExcName → Option Value} {mg mb : Str → Option Value} (TA : TabsAll h) (T : Top topProg loose mean mg mb h) : Top topProg loose mean mg mb (bare h) where
  g := bare_ns TA T.g
  b := bare_ns TA T.b
  nolimit := let ⟨mc, a, r⟩ := T.nolimit; ⟨mc, bare_ns TA a, r⟩
  nodigits := let ⟨mc, a, r⟩ := T.nodigits; ⟨mc, bare_ns TA a, r⟩
  fn := fun d hd => absurd (show d ∈ ([] : List DefRec) from hd) List.not_mem_nil
  own := fun o ho => absurd (show o ∈ ([] : List OwnSpec) from ho) List.not_mem_nil
  const := T.const
  free := T.free
  builtins := T.builtins
  tab := fun d hd => absurd (show d ∈ ([] : List DefRec) from hd) List.not_mem_nil
  bmain := let ⟨bm, ob, a1, a2, a3, a4, r⟩ := T.bmain; ⟨bm, ob, a1, a2, bare_keep TA (.inl fun q => by rw [a4] at q; cases q) a3, a4, r⟩
  seer := fun e => absurd (show false = true from e) Bool.false_ne_true
theorem noTabK (w : World) : ∀ P ∈ tabL, (hd.heap_39 w.params).lookup P = none := by
  intro P hP
  simp only [tabL, List.mem_cons, List.not_mem_nil, or_false] at hP
  rcases hP with rfl | rfl | rfl | rfl | rfl | rfl | rfl <;> rfl
theorem bare_base {w : World} {h : Heap} (TA : TabsAll h) (B : Base w h) : Base w (bare h) := by
  refine ⟨fun a o e => bare_get (fun hP => ?_) (B.K a o e), ?_⟩
  · rw [noTabK w a hP] at e; cases e
  · obtain ⟨l, me, mg, mb, T⟩ := B.T
    exact ⟨l, me, mg, mb, bare_top TA T⟩
theorem bare_real {h : Heap} {x dx : Addr} {m e : Int} (TA : TabsAll h) (r : RealD h x dx m e) : RealD (bare h) x dx m e :=
  let ⟨h1, k1, t1, h2, k2, t2, n, a, b⟩ := r; ⟨h1, k1, t1, h2, k2, t2, n, bare_keep TA (.inl nofun) a, bare_keep TA (.inl nofun) b⟩

def FinC (h : Heap) (Q : Value → Shared → Prop) (v : Value) (s' : Shared) : Prop :=
  ∃ L m own rest, Fr (bare h) L s'.heap m ∧ News (bare h) L s'.heap (own ++ rest) ∧ TabsIn (bare h) rest ∧ (StaysBut tabL h s'.heap → TabsAll s'.heap → Q v s')
theorem FinC.done {h : Heap} {Q : Value → Shared → Prop} {v : Value} {s' : Shared} (x : FinC h Q v s') : Q v s' := by
  obtain ⟨L, m, own, rest, F, N, T, k⟩ := x
  exact k (fun b o n e => F.keep b o (bare_get n e)) (tabsAll_of F N T)

section
variable {w : World} {A : Around} {E : Value → Shared → Prop} {s : Shared} {K : Frag} {Q : Value → Shared → Prop} {prog : Program}
theorem enterT {d : Nat} {name qual : Str} {params : Arguments} {body : List Stmt} {scope : Scope} {dV kV doc pm cdv ct oc : Value} {an od : Option Addr} {osl : Array (Option Value)} {f : Addr} {vs : List Value} {binds : List (Str × Value)}
    (R : Room A d) (hroom : d < recursionLimit) (B : Base w s.heap) (TA : TabsAll s.heap)
    (ho : (hd.heap_39 w.params).lookup f = some ⟨oc, od, .func (fnOf name qual params body scope dV kV doc pm an cdv ct), osl⟩) (hcd : codeIn (hd.heap_39 w.params) cdv qual = true)
    (hbind : BindsTo s (fnOf name qual params body scope dV kV doc pm an cdv ct) ⟨vs, []⟩ binds) (hloc : ∀ y ∈ binds, scope.names.lookup y.1 = some .local)
    (h : ∀ L' h₁ rest, (∀ p ∈ rest, p.1 < L') → Fr (bare s.heap) L' h₁ (fun y => binds.reverse.lookup y) → News (bare s.heap) L' h₁ rest → TabsIn (bare s.heap) rest →
      wpAny (model prog w) ((Ac d).deeper (envOf qual scope L' f cdv)) (execs body (envOf qual scope L' f cdv))
        (fun fl s' => FinC s.heap Q (match fl with | .ret v => v | _ => .none) s') (fun _ _ => False)
        { s with heap := h₁, toks := s.toks + binds.length })
    (hco : scope.isCoroutine = false) (hgen : scope.isGenerator = false) (hk : scope.kind = .function)
    (hcell : ∀ x ∈ scope.names, x.2 ≠ .cell) : wpAny (model prog w) A (call (.ref f) vs) Q E s := by
  obtain ⟨l, me, mg, mb, T⟩ := B.T
  refine wpAny_call ?_
  refine cd_weak R ?_
  refine codeAny_call_def (fd := fnOf name qual params body scope dV kV doc pm an cdv ct) (body := body) (binds := binds) hroom (B.K _ _ ho) rfl T.nolimit (codeRec_of B.K hcd) rfl hbind hcell hloc (fun h₁ hns hk₁ => ?_) hco hgen hk
  have F : Fr (bare s.heap) s.heap.objs.size h₁ (fun y => binds.reverse.lookup y) := ⟨hns, fun b o e => hk₁ b o (bare_of e), Nat.le_of_eq (bare_size _)⟩
  obtain ⟨rest, N0, TI⟩ := restOf (h₀ := bare s.heap) (fun b o e => bare_of e) TA (fun P hP => bare_none hP)
  have hlt : ∀ p ∈ rest, p.1 < s.heap.objs.size := fun p hp => Heap.lt_size (N0 p hp).1
  have N : News (bare s.heap) s.heap.objs.size h₁ rest := fun p hp => ⟨hk₁ _ _ (N0 p hp).1, Nat.ne_of_lt (hlt p hp), (N0 p hp).2.1⟩
  exact wpAny_mono (h _ h₁ rest hlt F N TI) (fun fl s' x => x.done) (fun _ _ x => x.elim)

theorem enterTC {d : Nat} {name qual : Str} {params : Arguments} {body : List Stmt} {scope : Scope} {dV kV doc pm cdv ct oc : Value} {an od : Option Addr} {osl : Array (Option Value)} {f : Addr} {vs : List Value} {binds : List (Str × Value)}
    (R : Room A d) (hroom : d < recursionLimit) (B : Base w s.heap) (TA : TabsAll s.heap)
    (ho : (hd.heap_39 w.params).lookup f = some ⟨oc, od, .func (fnOf name qual params body scope dV kV doc pm an cdv ct), osl⟩) (hcd : codeIn (hd.heap_39 w.params) cdv qual = true)
    (hbind : BindsTo s (fnOf name qual params body scope dV kV doc pm an cdv ct) ⟨vs, []⟩ binds)
    (hkind : (binds.all fun y => scope.names.lookup y.1 == some .local || scope.names.lookup y.1 == some .cell) = true)
    (hnd : ((cellsFrom 0 scope.names []).map (·.1)).Nodup) (mm : Str → Option Value) (hmm : ∀ L' : Addr, bindL (envOfC qual scope L' f cdv).kindOf binds (fun _ => none) = mm)
    (h : ∀ L' h₁ tk cells rest, (∀ p ∈ rest, p.1 < L') → Fr (bare s.heap) L' h₁ mm → News (bare s.heap) L' h₁ (cells ++ rest) → TabsIn (bare s.heap) rest →
      CellsAre (bindC (envOfC qual scope L' f cdv).kindOf binds fun _ => none) (cellsFrom (L' + 1) scope.names []) cells →
      wpAny (model prog w) ((Ac d).deeper (envOfC qual scope L' f cdv)) (execs body (envOfC qual scope L' f cdv))
        (fun fl s' => FinC s.heap Q (match fl with | .ret v => v | _ => .none) s') (fun _ _ => False)
        { s with heap := h₁, toks := tk })
    (hco : scope.isCoroutine = false) (hgen : scope.isGenerator = false) (hk : scope.kind = .function) : wpAny (model prog w) A (call (.ref f) vs) Q E s := by
  obtain ⟨l, me, mg, mb, T⟩ := B.T
  refine wpAny_call ?_
  refine cd_weak R ?_
  refine codeAny_call_function (fd := fnOf name qual params body scope dV kV doc pm an cdv ct) hroom (B.K _ _ ho) rfl hco hgen rfl (codeRec_of B.K hcd) (hbind _ _ _ _ ?_)
  refine wpAny_newFunctionEnv_cells hk (kindsX hkind _) fun env' he s' x => ?_
  subst he
  refine ⟨T.nolimit.keeps x.toInCall.keep, codeAny_func ?_⟩
  obtain ⟨h₁, tk, rfl, _⟩ := x.done
  have hk₁ := x.toInCall.keep
  obtain ⟨cells, NC, Y⟩ := Cl.news (h₀ := s.heap) (Nat.le_refl _) fun n c hm => ⟨x.cell n c (lookup_of_mem_nodup (cellsFrom_names scope.names 0 (s.heap.objs.size + 1) [] [] rfl ▸ hnd) hm), x.above n c hm⟩
  have F : Fr (bare s.heap) s.heap.objs.size h₁ mm := ⟨hmm s.heap.objs.size ▸ x.toInCall.ns, fun b o e => hk₁ b o (bare_of e), Nat.le_of_eq (bare_size _)⟩
  obtain ⟨rest, N0, TI⟩ := restOf (h₀ := bare s.heap) (fun b o e => bare_of e) TA (fun P hP => bare_none hP)
  have hlt : ∀ p ∈ rest, p.1 < s.heap.objs.size := fun p hp => Heap.lt_size (N0 p hp).1
  have N : News (bare s.heap) s.heap.objs.size h₁ rest := fun p hp => ⟨hk₁ _ _ (N0 p hp).1, Nat.ne_of_lt (hlt p hp), (N0 p hp).2.1⟩
  refine wpAny_mono (h _ h₁ tk cells rest hlt F (fun p hp => ?_) TI Y) (fun fl s' x => x.done) (fun _ _ x => x.elim)
  rcases List.mem_append.mp hp with hp | hp
  · refine ⟨(NC p hp).1, (NC p hp).2.1, ?_⟩
    cases q : (bare s.heap).get? p.1 with
    | none => rfl
    | some o => have := bare_of q; rw [(NC p hp).2.2] at this; cases this
  · exact N p hp
theorem enterLam {d : Nat} {name qual : Str} {params : Arguments} {body : PySem.Expr} {scope : Scope} {cl : List (Str × Addr)} {pm ctv : Value} {c' f : Addr} {vs : List Value} {binds : List (Str × Value)}
    (R : Room A d) (hroom : d < recursionLimit) (B : Base w s.heap) (ho : s.heap.get? f = some (kla_obj name qual params body scope cl pm c' ctv)) (hcd : s.heap.CodeRec (.ref c') qual)
    (hbind : bindArgs (kla_fn name qual params body scope cl pm (.ref c') ctv) ⟨vs, []⟩ = pure binds) (hloc : ∀ y ∈ binds, scope.names.lookup y.1 = some .local)
    (h : ∀ L' h₁, Fr s.heap L' h₁ (fun y => binds.reverse.lookup y) → News s.heap L' h₁ [] →
      wpAny (model prog w) ((Ac d).deeper (envX qual scope L' f (.ref c') cl)) (eval body (envX qual scope L' f (.ref c') cl)) (fun v s' => Fin s.heap Q v s') (fun _ _ => False) { s with heap := h₁, toks := s.toks + binds.length })
    (hco : scope.isCoroutine = false) (hgen : scope.isGenerator = false) (hk : scope.kind = .function)
    (hcell : ∀ x ∈ scope.names, x.2 ≠ .cell) : wpAny (model prog w) A (call (.ref f) vs) Q E s := by
  obtain ⟨l, me, mg, mb, T⟩ := B.T
  refine wpAny_call (cd_weak R ?_)
  refine kla_callFunE hroom ho rfl hco hgen rfl hcd ?_
  rw [hbind]
  refine wpAny_pure (wpAny_newFunctionEnv hcell hloc (fun h₁ hns hsb => ⟨T.nolimit.fresh _ hsb, ?_⟩) hk)
  show codeAny _ _ (.expr body (envX qual scope s.heap.objs.size f (.ref c') cl)) _ _
  have hk₁ : ∀ b o, s.heap.get? b = some o → h₁.get? b = some o := fun b o e => hsb.extBut b o (Nat.ne_of_lt (Heap.lt_size e)) (Heap.get?_push_of_some _ e)
  refine kla_codeExpr (wpAny_mono (h s.heap.objs.size h₁ ⟨hns, hk₁, Nat.le_refl _⟩ .nil) (fun v s' hl => ?_) (fun _ _ x => x.elim))
  obtain ⟨L, m, news, F', N', k⟩ := hl
  exact k F'.keep
end

/-- a call that may turn the tables of codes -/
def SaysC (w : World) (d : Nat) (f : Value) (vs : List Value) (s : Shared) (post : Heap → Value → Prop) : Prop :=
  ∀ (A : Around) (Q E : Value → Shared → Prop), Room A d → (∀ v h' tk, StaysBut tabL s.heap h' → TabsAll h' → post h' v → Q v { s with heap := h', toks := tk }) → wpAny (model Pg w) A (call f vs) Q E s
/-- a Real that is new, or the one at x -/
abbrev RealRes (h : Heap) (x dx : Addr) (m e : Int) : Heap → Value → Prop := fun h' v => ∃ y dy, v = .ref y ∧ RealD h' y dy m e ∧ ((h.get? y = none ∧ h.get? dy = none) ∨ (y = x ∧ dy = dx))
section
variable {h : Heap} {Q : Value → Shared → Prop} {s s' : Shared} {x dx : Addr} {a b : Int} {L : Addr} {mm : Str → Option Value} {rest news : List (Addr × Obj)}
/-- the end: the argument comes back -/
theorem finC_same (own : List (Addr × Obj)) (F : Fr (bare s.heap) L s'.heap mm) (N : News (bare s.heap) L s'.heap (own ++ rest)) (TI : TabsIn (bare s.heap) rest) (TA : TabsAll s.heap) (ar : RealD s.heap x dx a b)
    (k : ∀ v h' tk, StaysBut tabL s.heap h' → TabsAll h' → RealRes s.heap x dx a b h' v → Q v { s with heap := h', toks := tk }) (hs : s' = { s with heap := s'.heap, toks := s'.toks } := by rfl) : FinC s.heap Q (.ref x) s' :=
  ⟨L, mm, own, rest, F, N, TI, fun st ta => hs ▸ k _ _ _ st ta ⟨x, dx, rfl, (bare_real TA ar).keeps F.keep, .inr ⟨rfl, rfl⟩⟩⟩
theorem bare_fresh {y : Addr} {o : Obj} {h : Heap} (TA : TabsAll h) (e : (bare h).get? y = none) (nt : NotTab o) {h' : Heap} (ho : h'.get? y = some o) (TA' : TabsAll h') : h.get? y = none := by
  cases q : h.get? y with
  | none => rfl
  | some o' =>
    by_cases hy : y ∈ tabL
    · exact absurd hy (notTab_mem TA' nt ho)
    · rw [bare_get hy q] at e; cases e
/-- the end: a new Real -/
theorem finC_new {h1 h2 : Int} {k1 t1 k2 t2 : Tok} {n : Nat} (own : List (Addr × Obj)) {y dy : Addr} (F : Fr (bare s.heap) L s'.heap mm) (N : News (bare s.heap) L s'.heap (own ++ rest)) (TI : TabsIn (bare s.heap) rest) (TA : TabsAll s.heap)
    (hm : (y, instObj 89 dy) ∈ own ++ rest) (hd : (dy, dictOf [⟨h1, .str "mantissa" k1, .int a t1⟩, ⟨h2, .str "exponent" k2, .int b t2⟩] n) ∈ own ++ rest)
    (k : ∀ v h' tk, StaysBut tabL s.heap h' → TabsAll h' → RealRes s.heap x dx a b h' v → Q v { s with heap := h', toks := tk }) (hs : s' = { s with heap := s'.heap, toks := s'.toks } := by rfl) : FinC s.heap Q (.ref y) s' :=
  ⟨L, mm, own, rest, F, N, TI, fun st ta => hs ▸ k _ _ _ st ta ⟨y, dy, rfl, ⟨_, _, _, _, _, _, _, (N _ hm).1, (N _ hd).1⟩, .inl ⟨bare_fresh (o := instObj 89 dy) TA (N _ hm).2.2 (.inl nofun) (N _ hm).1 ta, bare_fresh (o := dictOf _ _) TA (N _ hd).2.2 (.inl nofun) (N _ hd).1 ta⟩⟩⟩
end

section
variable {M : Model} {A : Around} {E : Value → Shared → Prop} {s : Shared} {h₀ : Heap} {L a : Addr} {m : Str → Option Value} {cn : Str} {cs : Scope} {ccd : Value} {cl : List (Str × Addr)} {x : Str} {pos : Pos} {v : Value} {Q : Value → Shared → Prop} {c : Addr} {o : Obj}
theorem free_name (F : Fr h₀ L s.heap m) (hc : cl.lookup x = some c) (ho : h₀.get? c = some o) (hd : o.data = .cell (some v)) (h : Q v s)
    (hk : cs.kind = .function) (hx : (envX cn cs L a ccd cl).kindOf x = some .free) (hb : (x == ("__debug__" : Str)) = false) (hn : (x == ("__classdict__" : Str)) = false) :
    wpAny M A (eval (.Name x pos) (envX cn cs L a ccd cl)) Q E s := wpAny_Name (wpAny_loadName_free hk hx hc ⟨o, F.keep _ _ ho, hd⟩ h hn) hb
end
theorem codeRec_keeps {h h' : Heap} {v : Value} {q : Str} (x : h.CodeRec v q) (k : h.StaysIn h') : h'.CodeRec v q := let ⟨c, oc, vs, t, e, g, r⟩ := x; ⟨c, oc, vs, t, e, k _ _ g, r⟩
end Mine
end
noncomputable section
open PySem PySem.W PyProof.Rows PySem.Calls
set_option Elab.async false
set_option maxRecDepth 100000
set_option maxHeartbeats 400000
set_option linter.all false
set_option exponentiation.threshold 5000
set_option genInjectivity false
set_option genSizeOf false
namespace Mine
theorem filledW1 : PySem.Challenge.rw_pc0352_01 = PySem.Challenge.rw_pc0352_01 ∧ hd.heap_39 = hd.heap_39 := by
  k_fill
  exact ⟨rfl, rfl⟩
abbrev Led := List (Addr × Obj)
/-- what is known of a value, in terms of what stands where; own: it stands on the ledger alone -/
structure Val where
  own : Bool
  p : (Addr → Obj → Prop) → Value → Prop
  mono : ∀ {P P' v}, (∀ a o, P a o → P' a o) → p P v → p P' v
def Val.rep (V : Val) (g : Heap) (n : Led) (v : Value) : Prop := V.p (fun a o => (a, o) ∈ n ∨ (V.own = false ∧ g.get? a = some o)) v
theorem Val.rep_mono {V : Val} {g : Heap} {n n' : Led} {v : Value} (k : ∀ p ∈ n, p ∈ n') (h : V.rep g n v) : V.rep g n' v := V.mono (fun _ _ x => x.imp (k _) id) h
theorem Val.at_ {V : Val} {g h : Heap} {L : Addr} {n m : Led} {v : Value} (k : g.StaysIn h) (N : News g L h m) (s : ∀ p ∈ n, p ∈ m) (x : V.rep g n v) : V.p (fun a o => h.get? a = some o) v :=
  V.mono (fun _ _ x => x.elim (fun y => (N _ (s _ y)).1) fun y => k _ _ y.2) x
def er (V : Val) : Val := { V with own := false }
@[reducible] def vInt (n : Int) : Val := ⟨false, fun _ v => ∃ t, v = .int n t, fun _ x => x⟩
@[reducible] def vBool (b : Bool) : Val := ⟨false, fun _ v => v = .bool b, fun _ x => x⟩
@[reducible] def vNone : Val := ⟨false, fun _ v => v = .none, fun _ x => x⟩
@[reducible] def vStr (x : Str) : Val := ⟨false, fun _ v => ∃ t, v = .str x t, fun _ x => x⟩
noncomputable def Ints (ws : List Value) : List Int → Prop
  | [] => ws = []
  | n :: ns => ∃ t ws', ws = .int n t :: ws' ∧ Ints ws' ns
theorem Ints.len : ∀ {ns : List Int} {ws : List Value}, Ints ws ns → ws.length = ns.length
  | [], _, h => congrArg _ h
  | _ :: _, _, ⟨_, _, e, h⟩ => e ▸ congrArg (· + 1) h.len
theorem Ints.get : ∀ {ns : List Int} {ws : List Value} {i : Nat} {n : Int}, Ints ws ns → ns[i]? = some n → ∃ t, ws[i]? = some (.int n t)
  | [], _, _, _, _, h => nomatch h
  | _ :: _, _, 0, _, ⟨t, _, e, _⟩, h => by cases e; cases h; exact ⟨t, rfl⟩
  | _ :: _, _, i + 1, _, ⟨_, _, e, q⟩, h => by
    cases e
    obtain ⟨t, e⟩ := Ints.get (i := i) q (by simpa using h)
    exact ⟨t, by simpa using e⟩
theorem Ints.are : ∀ {ns : List Int} {ws : List Value}, Ints ws ns → IntsAre ws ns
  | [], _, h => h ▸ .nil
  | _ :: _, _, ⟨_, _, e, h⟩ => e ▸ .cons _ _ h.are
theorem Ints.of {ws : List Value} {ns : List Int} (h : IntsAre ws ns) : Ints ws ns := by
  induction h with
  | nil => rfl
  | cons n t _ ih => exact ⟨t, _, rfl, ih⟩
abbrev tupObj (ws : List Value) (k : Nat) : Obj := { cls := .type "tuple", data := .seq ws.toArray k }
abbrev realObj (h1 : Int) (k1 : Tok) (m : Int) (t1 : Tok) (h2 : Int) (k2 : Tok) (e : Int) (t2 : Tok) (n : Nat) : Obj := dictOf [⟨h1, .str "mantissa" k1, .int m t1⟩, ⟨h2, .str "exponent" k2, .int e t2⟩] n
inductive TupIn (P : Addr → Obj → Prop) (v : Value) (ns : List Int) : Prop
  | mk (r : Addr) (ws : List Value) (k : Nat) (ev : v = .ref r) (a : P r (tupObj ws k)) (i : Ints ws ns)
inductive LstIn (P : Addr → Obj → Prop) (v : Value) (ns : List Int) : Prop
  | mk (r : Addr) (ws : List Value) (k : Nat) (ev : v = .ref r) (a : P r (listOf ws.toArray k)) (i : Ints ws ns)
inductive RealIn (P : Addr → Obj → Prop) (v : Value) (m e : Int) : Prop
  | mk (x dx : Addr) (h1 : Int) (k1 t1 : Tok) (h2 : Int) (k2 t2 : Tok) (n : Nat) (ev : v = .ref x) (a : P x (instObj 89 dx)) (b : P dx (realObj h1 k1 m t1 h2 k2 e t2 n))
@[reducible] def vTup (ns : List Int) : Val := ⟨true, fun P v => TupIn P v ns, fun k ⟨r, ws, n, ev, a, i⟩ => ⟨r, ws, n, ev, k _ _ a, i⟩⟩
@[reducible] def eTup (ns : List Int) : Val := ⟨false, fun P v => TupIn P v ns, fun k ⟨r, ws, n, ev, a, i⟩ => ⟨r, ws, n, ev, k _ _ a, i⟩⟩
@[reducible] def vLst (ns : List Int) : Val := ⟨true, fun P v => LstIn P v ns, fun k ⟨r, ws, n, ev, a, i⟩ => ⟨r, ws, n, ev, k _ _ a, i⟩⟩
@[reducible] def vReal (m e : Int) : Val := ⟨true, fun P v => RealIn P v m e, fun k ⟨x, dx, h1, k1, t1, h2, k2, t2, n, ev, a, b⟩ => ⟨x, dx, h1, k1, t1, h2, k2, t2, n, ev, k _ _ a, k _ _ b⟩⟩
@[reducible] def eReal (m e : Int) : Val := ⟨false, fun P v => RealIn P v m e, fun k ⟨x, dx, h1, k1, t1, h2, k2, t2, n, ev, a, b⟩ => ⟨x, dx, h1, k1, t1, h2, k2, t2, n, ev, k _ _ a, k _ _ b⟩⟩
abbrev noE : Value → Shared → Prop := fun _ _ => False
/-- one activation of a def -/
structure Cx where
  w : World
  A : Around
  g : Heap
  L : Addr
  qual : Str
  f : Addr
  cd : Value
  cl : List (Str × Addr)
  cc : List (Str × Addr)
  s0 : Shared
  loose : List Str
  mean : ExcName → Option Value
  mg : Str → Option Value
  mb : Str → Option Value
  T : Led → Prop
abbrev Cx.env (c : Cx) (sc : Scope) : Env := envX c.qual sc c.L c.f c.cd c.cl
structure Ok (c : Cx) (d : Nat) : Prop where
  X : (hd.heap_39 c.w.params).In c.g
  T : Top topProg c.loose c.mean c.mg c.mb c.g
  R : Room c.A d
  cap : ∀ rest, c.T rest → ∀ p ∈ rest, (∃ vs, p.2.data = .fields vs) ∧ ∀ a b, p.2 ≠ itR a b
structure Holds (c : Cx) (sc : Scope) (mm κ : Str → Option Value) (x : Str) (v : Value) : Prop where
  loc : sc.names.lookup x = some .local → mm x = some v
  cel : sc.names.lookup x = some .cell → κ x = some v
  fre : sc.names.lookup x = some .free → ∃ a o, c.cl.lookup x = some a ∧ c.g.get? a = some o ∧ o.data = .cell (some v)
abbrev Sto := List (Str × Val)
abbrev Tmp := List (Value × Val)
inductive St (c : Cx) (sc : Scope) (σ : Sto) (τ : Tmp) (s : Shared) : Prop
  | mk (mm κ : Str → Option Value) (own cells rest : Led) (F : Fr c.g c.L s.heap mm) (N : News c.g c.L s.heap (own ++ (cells ++ rest))) (K : ∀ p ∈ own, Plain p.2) (Y : CellsAre κ c.cc cells) (TI : c.T rest) (e : s = { c.s0 with heap := s.heap, toks := s.toks })
      (l : ∀ x V, σ.lookup x = some V → ∃ v, Holds c sc mm κ x v ∧ V.rep c.g own v) (t : ∀ p ∈ τ, p.2.rep c.g own p.1)
section
variable {c : Cx} {sc : Scope} {σ σ1 : Sto} {τ τ' : Tmp} {s : Shared} {V : Val} {v u : Value}
theorem St.weak {σ' : Sto} (h : St c sc σ τ s) (k : ∀ x V, σ'.lookup x = some V → σ.lookup x = some V) (q : ∀ p ∈ τ', p ∈ τ) : St c sc σ' τ' s :=
  let ⟨mm, κ, own, cells, rest, F, N, K, Y, TI, e, l, t⟩ := h; ⟨mm, κ, own, cells, rest, F, N, K, Y, TI, e, fun x V hx => l x V (k x V hx), fun p hp => t p (q p hp)⟩
theorem St.tmp (h : St c sc σ τ s) (q : ∀ p ∈ τ', p ∈ τ) : St c sc σ τ' s := h.weak (fun _ _ e => e) q
theorem St.drop {p : Value × Val} (h : St c sc σ (p :: τ) s) : St c sc σ τ s := h.tmp fun _ hp => .tail _ hp
theorem St.drop2 {p q : Value × Val} (h : St c sc σ (p :: q :: τ) s) : St c sc σ τ s := h.tmp fun _ hp => .tail _ (.tail _ hp)
theorem forall_cons {α : Type} {P : α → Prop} {a : α} {l : List α} (h : P a) (t : ∀ x ∈ l, P x) : ∀ x ∈ a :: l, P x := fun _ hx => (List.mem_cons.mp hx).elim (fun e => e ▸ h) (t _)
/-- the state, opened: its frame, its ledger, and how it goes on with more objects -/
inductive Opened (c : Cx) (sc : Scope) (σ : Sto) (τ : Tmp) (s : Shared) : Prop
  | mk (mm : Str → Option Value) (news : Led) (F : Fr c.g c.L s.heap mm) (N : News c.g c.L s.heap news) (k : ∀ {h' tk v V} (objs : Led), (∀ p ∈ objs, Plain p.2) → Fr c.g c.L h' mm → News c.g c.L h' (objs ++ news) → (∀ g n, V.rep g (objs ++ n) v) → St c sc σ ((v, V) :: τ) { s with heap := h', toks := tk })
theorem St.open_ (S : St c sc σ τ s) : Opened c sc σ τ s := by
  obtain ⟨mm, κ, own, cells, rest, F, N, K, Y, TI, e, l, t⟩ := S
  refine ⟨mm, _, F, N, fun objs kp F' N' r => ⟨mm, κ, objs ++ own, cells, rest, F', by rw [List.append_assoc]; exact N', fun p hp => (List.mem_append.mp hp).elim (kp p) (K p), Y, TI, by rw [e], fun x V hx => ?_, forall_cons (r _ _) fun p hp => Val.rep_mono (fun _ => List.mem_append_right _) (t p hp)⟩⟩
  obtain ⟨v, h1, h2⟩ := l x V hx
  exact ⟨v, h1, Val.rep_mono (fun _ => List.mem_append_right _) h2⟩
theorem no_mem {α : Type} {P : α → Prop} : ∀ x ∈ ([] : List α), P x := fun _ h => nomatch h
theorem St.int (S : St c sc σ τ s) (n : Int) (t : Tok) (k : Nat) : St c sc σ ((.int n t, vInt n) :: τ) { s with toks := k } := let ⟨_, _, F, N, k⟩ := S.open_; k [] no_mem F N fun _ _ => ⟨t, rfl⟩
theorem St.put (S : St c sc σ τ s) (r : ∀ g n, V.rep g n v) : St c sc σ ((v, V) :: τ) s := let ⟨_, _, F, N, k⟩ := S.open_; k [] no_mem F N r
theorem St.pick (S : St c sc σ τ s) (h : (v, V) ∈ τ) : St c sc σ ((v, V) :: τ) s := S.tmp (forall_cons h fun _ hp => hp)
theorem St.one {x : Int} (S : St c sc σ ((v, vInt x) :: τ) s) : ∃ t, v = .int x t :=
  let ⟨_, _, _, _, _, _, _, _, _, _, _, _, t⟩ := S; t _ (.head _)
theorem St.bool {x : Bool} (S : St c sc σ ((v, vBool x) :: τ) s) : v = .bool x :=
  let ⟨_, _, _, _, _, _, _, _, _, _, _, _, t⟩ := S; t _ (.head _)
theorem St.two {x y : Int} (S : St c sc σ ((u, vInt y) :: (v, vInt x) :: τ) s) : ∃ t k, v = .int x t ∧ u = .int y k :=
  let ⟨k, e⟩ := S.one; let ⟨t, e'⟩ := S.drop.one; ⟨t, k, e', e⟩
/-- the value as it stands in the heap -/
theorem St.at_ (S : St c sc σ ((v, V) :: τ) s) : V.p (fun a o => s.heap.get? a = some o) v :=
  let ⟨_, _, _, _, _, F, N, _, _, _, _, _, t⟩ := S; Val.at_ F.keep N (fun _ hp => List.mem_append_left _ hp) (t _ (.head _))
end
section
variable (c : Cx) (sc : Scope)
/-- expression e comes to V -/
def Ev (σ : Sto) (e : Expr) (V : Val) : Prop := ∀ ⦃τ⦄ (Q : Value → Shared → Prop) s, St c sc σ τ s → (∀ v s', St c sc σ ((v, V) :: τ) s' → Q v s') → wpAny (model Pg c.w) c.A (eval e (c.env sc)) Q noE s
def Into (V W : Val) : Prop := W.own = false ∧ ∀ P v, V.p P v → W.p P v
noncomputable def Got (τ : Tmp) (vs : List Value) : List Val → Prop
  | [] => vs = []
  | W :: Ws => ∃ v vs' V, vs = v :: vs' ∧ (v, V) ∈ τ ∧ (V = W ∨ Into V W) ∧ Got τ vs' Ws
def Evs (σ : Sto) (es : List Expr) (Vs : List Val) : Prop := ∀ ⦃τ⦄ pos (Q : List Value → Shared → Prop) s, St c sc σ τ s → (∀ vs τ' s', (∀ p ∈ τ, p ∈ τ') → Got τ' vs Vs → St c sc σ τ' s' → Q vs s') → wpAny (model Pg c.w) c.A (spliced (backTo pos (starEach es (c.env sc)))) Q noE s
/-- a test -/
def Tr (σ : Sto) (e : Expr) (b : Bool) : Prop := ∀ ⦃τ⦄ (Q : Bool → Shared → Prop) s, St c sc σ τ s → (∀ s', St c sc σ τ s' → Q b s') → wpAny (model Pg c.w) c.A (isTrue e (c.env sc) (eval e (c.env sc))) Q noE s
def Trs (σ : Sto) (op : BoolOp) (es : List Expr) (pos : Pos) (b : Bool) : Prop := ∀ ⦃τ⦄ (Q : Bool → Shared → Prop) s whole, St c sc σ τ s → (∀ s', St c sc σ τ s' → Q b s') → wpAny (model Pg c.w) c.A (isTrue (.BoolOp op es pos) (c.env sc) whole) Q noE s
inductive Res
  | next (σ : Sto)
  | ret (V : Val)
def Post (c : Cx) (sc : Scope) (r : Res) (Q : Flow → Shared → Prop) : Prop := match r with
  | .next σ => ∀ s, St c sc σ [] s → Q .next s
  | .ret V => ∀ v s, St c sc [] [(v, V)] s → Q (.ret v) s
def Es (σ : Sto) (st : Stmt) (r : Res) : Prop := ∀ ⦃Q : Flow → Shared → Prop⦄ s, St c sc σ [] s → Post c sc r Q → wpAny (model Pg c.w) c.A (exec st (c.env sc)) Q noE s
def Ex (σ : Sto) (b : List Stmt) (r : Res) : Prop := ∀ ⦃Q : Flow → Shared → Prop⦄ s, St c sc σ [] s → Post c sc r Q → wpAny (model Pg c.w) c.A (execs b (c.env sc)) Q noE s
end
theorem Into.rfl_ {V : Val} (h : V.own = false := by rfl) : Into V V := ⟨h, fun _ _ x => x⟩
theorem Into.tup {ns : List Int} : Into (vTup ns) (eTup ns) := ⟨rfl, fun _ _ x => x⟩
theorem Into.real {m e : Int} : Into (vReal m e) (eReal m e) := ⟨rfl, fun _ _ x => x⟩
section
variable {c : Cx} {sc : Scope} {σ σ1 : Sto} {V : Val} {r : Res} {d : Nat}
/-- names -/
theorem Ev.loc {x : Str} {pos : Pos} (hx : sc.names.lookup x = some .local) (hσ : σ.lookup x = some V) (hk : sc.kind = .function := by rfl) (hd : (x == ("__debug__" : Str)) = false := by decide) : Ev c sc σ (.Name x pos) V := fun τ Q s ⟨mm, κ, own, cells, rest, F, N, K, Y, TI, e, l, t⟩ h =>
  let ⟨v, hv, rv⟩ := l x V hσ
  nameX_L F (hv.loc hx) (h v s ⟨mm, κ, own, cells, rest, F, N, K, Y, TI, e, l, forall_cons rv t⟩) hk hx hd
theorem Ev.free {x : Str} {pos : Pos} (hx : sc.names.lookup x = some .free) (hσ : σ.lookup x = some V) (hk : sc.kind = .function := by rfl) (hd : (x == ("__debug__" : Str)) = false := by decide) (hn : (x == ("__classdict__" : Str)) = false := by decide) : Ev c sc σ (.Name x pos) V := fun τ Q s ⟨mm, κ, own, cells, rest, F, N, K, Y, TI, e, l, t⟩ h =>
  let ⟨v, hv, rv⟩ := l x V hσ
  let ⟨a, o, h1, h2, h3⟩ := hv.fre hx
  free_name F h1 h2 h3 (h v s ⟨mm, κ, own, cells, rest, F, N, K, Y, TI, e, l, forall_cons rv t⟩) hk hx hd hn
theorem cells_get {κ : Str → Option Value} {cs : List (Str × Addr)} {cells : Led} (Y : CellsAre κ cs cells) : ∀ {x : Str} {a : Addr}, cs.lookup x = some a → ∃ o, (a, o) ∈ cells ∧ o.data = .cell (κ x) := by
  induction Y with
  | nil => exact fun h => nomatch h
  | cons hd _ ih =>
    intro x a h
    rw [List.lookup_cons] at h
    split at h
    · cases h; rename_i e; rw [eq_of_beq e]; exact ⟨_, .head _, hd⟩
    · obtain ⟨o, h1, h2⟩ := ih h; exact ⟨o, .tail _ h1, h2⟩
structure Cells (c : Cx) (sc : Scope) : Prop where
  cl : c.cl = c.cc
  all : ∀ x, sc.names.lookup x = some .cell → ∃ a, c.cc.lookup x = some a
  apart : c.cc.Pairwise fun x y => x.2 ≠ y.2
  above : ∀ n a, (n, a) ∈ c.cc → c.L < a
theorem Ev.cell {x : Str} {pos : Pos} (C : Cells c sc) (hx : sc.names.lookup x = some .cell) (hσ : σ.lookup x = some V) (hk : sc.kind = .function := by rfl) (hd : (x == ("__debug__" : Str)) = false := by decide) : Ev c sc σ (.Name x pos) V := fun τ Q s ⟨mm, κ, own, cells, rest, F, N, K, Y, TI, e, l, t⟩ h => by
  obtain ⟨v, hv, rv⟩ := l x V hσ
  obtain ⟨a, ha⟩ := C.all x hx
  obtain ⟨o, h1, h2⟩ := cells_get Y ha
  rw [hv.cel hx] at h2
  exact nameX_C N (C.cl ▸ ha) (List.mem_append_right _ (List.mem_append_left _ h1)) h2 (h v s ⟨mm, κ, own, cells, rest, F, N, K, Y, TI, e, l, forall_cons rv t⟩) hk hx hd
theorem Ev.cint {n : Int} {k : Nat} {pos : Pos} : Ev c sc σ (.Constant (.int n) k pos) (vInt n) := fun τ Q s S h => wpAny_Constant_int (h _ _ (S.int _ _ _))
theorem Ev.cbool {b : Bool} {k : Nat} {pos : Pos} : Ev c sc σ (.Constant (.bool b) k pos) (vBool b) := fun τ Q s S h => fun _ _ _ => h _ _ (S.put fun _ _ => rfl)
theorem Ev.cnone {k : Nat} {pos : Pos} : Ev c sc σ (.Constant .none k pos) vNone := fun τ Q s S h => fun _ _ _ => h _ _ (S.put fun _ _ => rfl)
theorem Ev.bin {a b : Expr} {op : Operator} {pos : Pos} {x y z : Int} (ha : Ev c sc σ a (vInt x)) (hb : Ev c sc σ b (vInt y))
    (hop : ∀ s t k (Q : Value → Shared → Prop), Q (.int z s.toks) { s with toks := s.toks + 1 } → wpAny (model Pg c.w) c.A (binaryOp op (.int x t) (.int y k)) Q noE s) : Ev c sc σ (.BinOp a op b pos) (vInt z) := fun τ Q s S h =>
  wpAny_BinOp (ha _ s S fun v s1 S1 => hb _ s1 S1 fun u s2 S2 => by
    obtain ⟨t, k, rfl, rfl⟩ := S2.two
    exact hop _ _ _ _ (h _ _ (S2.drop2.int _ _ _)))
theorem Ev.add {a b : Expr} {pos : Pos} {x y : Int} (ha : Ev c sc σ a (vInt x)) (hb : Ev c sc σ b (vInt y)) : Ev c sc σ (.BinOp a .Add b pos) (vInt (x + y)) := ha.bin hb fun _ _ _ _ h => P.add_int h
theorem Ev.sub {a b : Expr} {pos : Pos} {x y : Int} (ha : Ev c sc σ a (vInt x)) (hb : Ev c sc σ b (vInt y)) : Ev c sc σ (.BinOp a .Sub b pos) (vInt (x - y)) := ha.bin hb fun _ _ _ _ h => P.sub_int h
theorem Ev.mul {a b : Expr} {pos : Pos} {x y : Int} (ha : Ev c sc σ a (vInt x)) (hb : Ev c sc σ b (vInt y)) (hm : PySem.IntMulOk x y) : Ev c sc σ (.BinOp a .Mult b pos) (vInt (x * y)) := ha.bin hb fun _ _ _ _ h => P.mul_int h hm
theorem Ev.shl {a b : Expr} {pos : Pos} {x y : Int} (ha : Ev c sc σ a (vInt x)) (hb : Ev c sc σ b (vInt y)) (hk : shlOk x y) : Ev c sc σ (.BinOp a .LShift b pos) (vInt (sl x y)) := ha.bin hb fun _ _ _ _ h => shl_rule hk h
theorem Ev.shr {a b : Expr} {pos : Pos} {x y : Int} (ha : Ev c sc σ a (vInt x)) (hb : Ev c sc σ b (vInt y)) (hk : 0 ≤ y) : Ev c sc σ (.BinOp a .RShift b pos) (vInt (sh x y)) := ha.bin hb fun _ _ _ _ h => shr_rule hk h
theorem Ev.fdiv {a b : Expr} {pos : Pos} {x y : Int} (ha : Ev c sc σ a (vInt x)) (hb : Ev c sc σ b (vInt y)) (hk : divOk y) : Ev c sc σ (.BinOp a .FloorDiv b pos) (vInt (x.fdiv y)) := ha.bin hb fun _ _ _ _ h => div_rule hk h
theorem Ev.mod {a b : Expr} {pos : Pos} {x y : Int} (ha : Ev c sc σ a (vInt x)) (hb : Ev c sc σ b (vInt y)) (hk : y ≠ 0) : Ev c sc σ (.BinOp a .Mod b pos) (vInt (x.fmod y)) := ha.bin hb fun _ _ _ _ h => mod_rule hk h
theorem Ev.band {a b : Expr} {pos : Pos} {x y : Int} (ha : Ev c sc σ a (vInt x)) (hb : Ev c sc σ b (vInt y)) : Ev c sc σ (.BinOp a .BitAnd b pos) (vInt (Builtin.bitAnd x y)) := ha.bin hb fun _ _ _ _ h => and_int h
theorem Ev.neg {a : Expr} {pos : Pos} {x : Int} (ha : Ev c sc σ a (vInt x)) : Ev c sc σ (.UnaryOp .USub a pos) (vInt (-x)) := fun τ Q s S h =>
  UnaryOp_ (ha _ s S fun v s1 S1 => by
    obtain ⟨t, rfl⟩ := S1.one
    exact P.neg_int (h _ _ (S1.drop.int _ _ _)))
theorem Ev.subb {a b : Expr} {pos : Pos} {x y : Bool} (ha : Ev c sc σ a (vBool x)) (hb : Ev c sc σ b (vBool y)) : Ev c sc σ (.BinOp a .Sub b pos) (vInt (b2i x - b2i y)) := fun τ Q s S h =>
  wpAny_BinOp (ha _ s S fun v s1 S1 => hb _ s1 S1 fun u s2 S2 => by
    obtain rfl := S2.bool
    obtain rfl := S2.drop.bool
    exact sub_bool (h _ _ (S2.drop2.int _ _ _)))
/-- compares of two ints -/
def CmpIs (op : CmpOp) (x y : Int) (z : Bool) : Prop := ∀ ⦃w : World⦄ (A : Around) s t k (Q : Value → Shared → Prop), Q (.bool z) s → wpAny (model Pg w) A (compareOp op (.int x t) (.int y k)) Q noE s
theorem cmp_lt (x y : Int) : CmpIs .Lt x y (decide (x < y)) := fun _ _ _ _ _ _ h => P.lt_int h
theorem cmp_le (x y : Int) : CmpIs .LtE x y (decide (x ≤ y)) := fun _ _ _ _ _ _ h => P.le_int h
theorem cmp_gt (x y : Int) : CmpIs .Gt x y (decide (y < x)) := fun _ _ _ _ _ _ h => P.gt_int h
theorem cmp_ge (x y : Int) : CmpIs .GtE x y (decide (y ≤ x)) := fun _ _ _ _ _ _ h => P.ge_int h
theorem cmp_eq (x y : Int) : CmpIs .Eq x y (x == y) := fun _ _ _ _ _ _ h => P.eq_int h
theorem cmp_ne (x y : Int) : CmpIs .NotEq x y (x != y) := fun _ _ _ _ _ _ h => P.ne_int h
theorem Ev.cmp {a b : Expr} {op : CmpOp} {pos : Pos} {x y : Int} {z : Bool} (hop : CmpIs op x y z) (ha : Ev c sc σ a (vInt x)) (hb : Ev c sc σ b (vInt y)) (hm : behindInMarks op b = false := by with_unfolding_all rfl) : Ev c sc σ (.Compare a [op] [b] pos) (vBool z) := fun τ Q s S h =>
  wpAny_Compare1 (ha _ s S fun v s1 S1 => hb _ s1 S1 fun u s2 S2 => by
    obtain ⟨t, k, rfl, rfl⟩ := S2.two
    exact hop _ _ _ _ _ (h _ _ (S2.drop2.put fun _ _ => rfl))) hm
/-- tests -/
theorem Tr.cmp {a b : Expr} {op : CmpOp} {pos : Pos} {x y : Int} {z z' : Bool} (hop : CmpIs op x y z) (ha : Ev c sc σ a (vInt x)) (hb : Ev c sc σ b (vInt y)) (q : z = z') (hm : behindInMarks op b = false := by with_unfolding_all rfl) : Tr c sc σ (.Compare a [op] [b] pos) z' := fun τ Q s S h =>
  wpAny_isTrue_Compare1 (ha _ s S fun v s1 S1 => hb _ s1 S1 fun u s2 S2 => by
    obtain ⟨t, k, rfl, rfl⟩ := S2.two
    exact hop _ _ _ _ _ (wpAny_truthy_bool (q ▸ h _ S2.drop2))) hm
theorem Tr.plain {e : Expr} {b b' : Bool} (h : Ev c sc σ e (vBool b)) (q : b = b') (he : ∀ env whole, isTrue e env whole = (do let v ← whole; standAt e.pos; holding [v] (truthy v)) := by intro _ _; rfl) : Tr c sc σ e b' := fun τ Q s S k =>
  isTrue_plain (h _ s S fun v s1 S1 => by
    obtain rfl := S1.bool
    exact wpAny_truthy_bool (q ▸ k _ S1.drop)) (he _ _)
theorem Ev.as {e : Expr} {V V' : Val} (h : Ev c sc σ e V) (q : V = V') : Ev c sc σ e V' := q ▸ h
theorem Ev.asI {e : Expr} {x y : Int} (h : Ev c sc σ e (vInt x)) (q : x = y) : Ev c sc σ e (vInt y) := q ▸ h
theorem Ev.asB {e : Expr} {x y : Bool} (h : Ev c sc σ e (vBool x)) (q : x = y) : Ev c sc σ e (vBool y) := q ▸ h
theorem Tr.not {e : Expr} {pos : Pos} {b : Bool} (h : Tr c sc σ e b) : Tr c sc σ (.UnaryOp .Not e pos) (!b) := fun τ Q s S k => isTrue_not (h _ s S k)
theorem Tr.not1 {e : Expr} {pos : Pos} (h : Tr c sc σ e true) : Tr c sc σ (.UnaryOp .Not e pos) false := h.not
theorem Tr.not0 {e : Expr} {pos : Pos} (h : Tr c sc σ e false) : Tr c sc σ (.UnaryOp .Not e pos) true := h.not
theorem Trs.and0 {pos : Pos} : Trs c sc σ .And [] pos true := fun τ Q s _ S k => isTrue_and_nil (k _ S)
theorem Trs.or0 {pos : Pos} : Trs c sc σ .Or [] pos false := fun τ Q s _ S k => isTrue_or_nil (k _ S)
theorem Trs.andt {e : Expr} {rest : List Expr} {pos : Pos} {b : Bool} (h : Tr c sc σ e true) (h2 : Trs c sc σ .And rest pos b) : Trs c sc σ .And (e :: rest) pos b := fun τ Q s whole S k => isTrue_and (h _ s S fun s1 S1 => h2 Q s1 whole S1 k)
theorem Trs.andf {e : Expr} {rest : List Expr} {pos : Pos} (h : Tr c sc σ e false) : Trs c sc σ .And (e :: rest) pos false := fun τ Q s whole S k => isTrue_and (h _ s S fun s1 S1 => k s1 S1)
theorem Trs.ort {e : Expr} {rest : List Expr} {pos : Pos} (h : Tr c sc σ e true) : Trs c sc σ .Or (e :: rest) pos true := fun τ Q s whole S k => isTrue_or (h _ s S fun s1 S1 => k s1 S1)
theorem Trs.orf {e : Expr} {rest : List Expr} {pos : Pos} {b : Bool} (h : Tr c sc σ e false) (h2 : Trs c sc σ .Or rest pos b) : Trs c sc σ .Or (e :: rest) pos b := fun τ Q s whole S k => isTrue_or (h _ s S fun s1 S1 => h2 Q s1 whole S1 k)
theorem Tr.many {op : BoolOp} {es : List Expr} {pos : Pos} {b : Bool} (h : Trs c sc σ op es pos b) : Tr c sc σ (.BoolOp op es pos) b := fun τ Q s S k => h Q s _ S k
theorem Ev.ift {test body orelse : Expr} {pos : Pos} (ht : Tr c sc σ test true) (hb : Ev c sc σ body V) : Ev c sc σ (.IfExp test body orelse pos) V := fun τ Q s S k => IfExp_ (ht _ s S fun s1 S1 => hb Q s1 S1 k)
theorem Ev.iff {test body orelse : Expr} {pos : Pos} (ht : Tr c sc σ test false) (hb : Ev c sc σ orelse V) : Ev c sc σ (.IfExp test body orelse pos) V := fun τ Q s S k => IfExp_ (ht _ s S fun s1 S1 => hb Q s1 S1 k)
theorem Ev.bool1 {op : BoolOp} {e : Expr} {pos : Pos} (h : Ev c sc σ e V) : Ev c sc σ (.BoolOp op [e] pos) V := fun τ Q s S k => BoolOp_one (h Q s S k)
theorem Ev.andt {e1 e2 : Expr} {rest : List Expr} {pos : Pos} (h : Ev c sc σ e1 (vBool true)) (h2 : Ev c sc σ (.BoolOp .And (e2 :: rest) pos) V) : Ev c sc σ (.BoolOp .And (e1 :: e2 :: rest) pos) V := fun τ Q s S k => BoolOp_and (h _ s S fun v s1 S1 => by
  obtain rfl := S1.bool
  exact wpAny_truthy_bool (h2 Q s1 S1.drop k))
theorem Ev.andf {e1 e2 : Expr} {rest : List Expr} {pos : Pos} (h : Ev c sc σ e1 (vBool false)) : Ev c sc σ (.BoolOp .And (e1 :: e2 :: rest) pos) (vBool false) := fun τ Q s S k => BoolOp_and (h _ s S fun v s1 S1 => by
  obtain rfl := S1.bool
  exact wpAny_truthy_bool (k _ _ S1))
theorem Ev.ort {e1 e2 : Expr} {rest : List Expr} {pos : Pos} (h : Ev c sc σ e1 (vBool true)) : Ev c sc σ (.BoolOp .Or (e1 :: e2 :: rest) pos) (vBool true) := fun τ Q s S k => BoolOp_or (h _ s S fun v s1 S1 => by
  obtain rfl := S1.bool
  exact wpAny_truthy_bool (k _ _ S1))
theorem Ev.orf {e1 e2 : Expr} {rest : List Expr} {pos : Pos} (h : Ev c sc σ e1 (vBool false)) (h2 : Ev c sc σ (.BoolOp .Or (e2 :: rest) pos) V) : Ev c sc σ (.BoolOp .Or (e1 :: e2 :: rest) pos) V := fun τ Q s S k => BoolOp_or (h _ s S fun v s1 S1 => by
  obtain rfl := S1.bool
  exact wpAny_truthy_bool (h2 Q s1 S1.drop k))
/-- arguments -/
theorem Evs.nil : Evs c sc σ [] [] := fun τ pos Q s S k => args_nil (k _ _ _ (fun _ h => h) rfl S)
theorem Evs.into {e : Expr} {es : List Expr} {Vs : List Val} {W : Val} (h : Ev c sc σ e V) (i : V = W ∨ Into V W) (t : Evs c sc σ es Vs) (he : starEach (e :: es) (c.env sc) = (false, eval e (c.env sc)) :: starEach es (c.env sc) := by rfl) : Evs c sc σ (e :: es) (W :: Vs) := fun τ pos Q s S k =>
  args_cons (h _ s S fun v s1 S1 => t pos _ s1 S1 fun vs τ' s2 sub g S2 => k _ τ' s2 (fun p hp => sub p (.tail _ hp)) ⟨v, vs, V, rfl, sub _ (.head _), i, g⟩ S2) he
theorem Evs.cons {e : Expr} {es : List Expr} {Vs : List Val} (h : Ev c sc σ e V) (t : Evs c sc σ es Vs) (he : starEach (e :: es) (c.env sc) = (false, eval e (c.env sc)) :: starEach es (c.env sc) := by rfl) : Evs c sc σ (e :: es) (V :: Vs) := Evs.into h (.inl rfl) t he
theorem Evs.tup {e : Expr} {es : List Expr} {Vs : List Val} {ns : List Int} (h : Ev c sc σ e (vTup ns)) (t : Evs c sc σ es Vs) (he : starEach (e :: es) (c.env sc) = (false, eval e (c.env sc)) :: starEach es (c.env sc) := by rfl) : Evs c sc σ (e :: es) (eTup ns :: Vs) := Evs.into h (.inr .tup) t he
theorem Evs.real {e : Expr} {es : List Expr} {Vs : List Val} {m e' : Int} (h : Ev c sc σ e (vReal m e')) (t : Evs c sc σ es Vs) (he : starEach (e :: es) (c.env sc) = (false, eval e (c.env sc)) :: starEach es (c.env sc) := by rfl) : Evs c sc σ (e :: es) (eReal m e' :: Vs) := Evs.into h (.inr .real) t he
theorem got_ints (q : ∀ p ∈ τ, p.2.rep g n p.1) : ∀ {ns : List Int} {vs : List Value}, Got τ vs (ns.map vInt) → Ints vs ns
  | [], _, h => h
  | n :: ns, _, ⟨v, vs', V, e, m, i, t⟩ => by
    have r := q _ m
    have : ∃ t, v = .int n t := i.elim (fun e => by cases e; exact r) fun i => i.2 _ _ r
    obtain ⟨t', rfl⟩ := this
    exact ⟨t', vs', e, got_ints q t⟩
theorem St.got_ints {ns : List Int} {vs : List Value} (S : St c sc σ τ s) (g : Got τ vs (ns.map vInt)) : Ints vs ns := let ⟨_, _, _, _, _, _, _, _, _, _, _, _, t⟩ := S; Mine.got_ints t g
theorem plain1 {a : Addr} {o : Obj} {n : String} (h : o.cls = .type n) (h2 : ∀ v, o.data ≠ .cell v) : ∀ p ∈ [(a, o)], Plain p.2 := forall_cons (.inl ⟨notTab_type h, h2⟩) no_mem
theorem Ev.tuple {es : List Expr} {ns : List Int} {k : Nat} {pos : Pos} (h : Evs c sc σ es (ns.map vInt)) (hz : ns.length ≤ sizeLine := by exact Nat.le_of_ble_eq_true rfl) : Ev c sc σ (.Tuple es k pos) (vTup ns) := fun τ Q s S q =>
  Tuple_ (h pos _ s S fun vs τ' s1 sub g S1 =>
    let ⟨_, _, F, N, k⟩ := (S1.tmp sub).open_
    have i := S1.got_ints g
    kup_newTuple F N (fun D _ F' N' _ => q _ _ (k (tk := s1.toks) [(D, tupObj vs 0)] (plain1 rfl nofun) F' N' fun _ _ => ⟨D, vs, 0, rfl, .inl (.head _), i⟩)) (by rw [i.len]; exact hz))
theorem Ev.list {es : List Expr} {ns : List Int} {pos : Pos} (h : Evs c sc σ es (ns.map vInt)) (hz : ns.length ≤ sizeLine := by exact Nat.le_of_ble_eq_true rfl) : Ev c sc σ (.List es pos) (vLst ns) := fun τ Q s S q =>
  List_ (h pos _ s S fun vs τ' s1 sub g S1 =>
    let ⟨_, _, F, N, k⟩ := (S1.tmp sub).open_
    have i := S1.got_ints g
    newList_K F N (fun D _ F' N' _ => q _ _ (k (tk := s1.toks) [(D, listOf vs.toArray 0)] (plain1 rfl nofun) F' N' fun _ _ => ⟨D, vs, 0, rfl, .inl (.head _), i⟩)) (by rw [i.len]; exact hz))
/-- an item, an attribute -/
theorem seq_at {k : Int} {i n : Nat} (hk : k = (i : Int)) (hi : i < n) : seqIndex? k n = some i := by
  unfold seqIndex?
  subst hk
  simp only [Int.not_lt.mpr (Int.natCast_nonneg i), if_false, Int.natCast_nonneg, decide_true, Bool.true_and]
  rw [if_pos (by simpa using hi)]
  rfl
theorem Ev.item {x : Str} {p1 p2 pos : Pos} {kk : Nat} {ns : List Int} {n : Int} (i : Nat) (h : Ev c sc σ (.Name x p1) V) (hV : ∀ P v, V.p P v → TupIn P v ns) (hn : ns[i]? = some n) (hlt : (i : Int) < 2 ^ 63 := by decide) : Ev c sc σ (.Subscript (.Name x p1) (.Constant (.int (i : Int)) kk p2) pos) (vInt n) := fun τ Q s S q =>
  Subscript_ (h _ s S fun v s1 S1 => wpAny_Constant_int (by
    obtain ⟨r, ws, k, rfl, a, hi⟩ := hV _ _ S1.at_
    obtain ⟨t, e⟩ := hi.get hn
    exact item_tupleL (s := { s1 with toks := s1.toks + 1 }) ⟨_, a, rfl, _, rfl⟩ (Int.le_trans (by decide) (Int.natCast_nonneg i)) hlt (seq_at rfl (List.getElem?_eq_some_iff.mp e).1) e (q _ _ (S1.drop.int n t _))))
theorem Ev.attr {x a : Str} {p1 pos : Pos} {m e n : Int} (O : Ok c d) (h : Ev c sc σ (.Name x p1) V) (hV : ∀ P v, V.p P v → RealIn P v m e) (ha : (a = "mantissa" ∧ n = m) ∨ (a = "exponent" ∧ n = e)) : Ev c sc σ (.Attribute (.Name x p1) a pos) (vInt n) := fun τ Q s S q =>
  Attribute_Name_ (h _ s S fun v s1 S1 => by
    obtain ⟨z, dz, h1, k1, t1, h2, k2, t2, nn, rfl, o1, o2⟩ := hV _ _ S1.at_
    obtain ⟨_, _, F, _, _⟩ := S1.open_
    rcases ha with ⟨rfl, rfl⟩ | ⟨rfl, rfl⟩
    · exact get_own F O.X ⟨o1, rfl, rfl, o2⟩ (by k_is) (by k_is) (by k_is) (by k_is) (by k_get) (by k_handed) (q _ _ (S1.drop.int _ _ _))
    · exact get_own F O.X ⟨o1, rfl, rfl, o2⟩ (by k_is) (by k_is) (by k_is) (by k_is) (by k_get) (by k_handed) (q _ _ (S1.drop.int _ _ _)))
theorem Ev.man {x : Str} {p1 pos : Pos} {m e : Int} (O : Ok c d) (h : Ev c sc σ (.Name x p1) V) (hV : ∀ P v, V.p P v → RealIn P v m e) : Ev c sc σ (.Attribute (.Name x p1) "mantissa" pos) (vInt m) := Ev.attr O h hV (.inl ⟨rfl, rfl⟩)
theorem Ev.exp {x : Str} {p1 pos : Pos} {m e : Int} (O : Ok c d) (h : Ev c sc σ (.Name x p1) V) (hV : ∀ P v, V.p P v → RealIn P v m e) : Ev c sc σ (.Attribute (.Name x p1) "exponent" pos) (vInt e) := Ev.attr O h hV (.inr ⟨rfl, rfl⟩)
end
end Mine
end
noncomputable section
open PySem PySem.W PyProof.Rows PySem.Calls
set_option Elab.async false
set_option maxRecDepth 100000
set_option maxHeartbeats 400000
set_option linter.all false
set_option exponentiation.threshold 5000
set_option genInjectivity false
set_option genSizeOf false
namespace Mine
/-- what a call hands back stands on objects that are new -/
def New (h h' : Heap) (v : Value) (V : Val) : Prop := ∃ objs : Led, (∀ p ∈ objs, h.get? p.1 = none ∧ h'.get? p.1 = some p.2 ∧ Plain p.2) ∧ V.p (fun a o => (a, o) ∈ objs) v
noncomputable def Reps (g : Heap) (vs : List Value) : List Val → Prop
  | [] => vs = []
  | W :: Ws => ∃ v vs', vs = v :: vs' ∧ W.p (fun a o => g.get? a = some o) v ∧ Reps g vs' Ws
def Fun (w : World) (d : Nat) (f : Addr) (Ws : List Val) (V : Val) : Prop := ∀ ⦃vs⦄ s, Base w s.heap → Reps s.heap vs Ws → Says w d (.ref f) vs s fun h' v => New s.heap h' v V
def Ret (V : Val) : Prop := ∀ g n v, V.rep g n v → V.p (fun a o => (a, o) ∈ n) v
theorem ret_own {V : Val} (h : V.own = true) : Ret V := fun _ _ _ x => V.mono (fun _ _ y => y.elim id fun z => by rw [h] at z; cases z.1) x
theorem ret_self {V : Val} (h : ∀ P P' v, V.p P v → V.p P' v) : Ret V := fun _ _ _ x => h _ _ _ x
section
variable {c : Cx} {sc : Scope} {σ σ1 : Sto} {τ τ' : Tmp} {s : Shared} {V W : Val} {r : Res} {d : Nat} {v : Value}
theorem got_reps {g h : Heap} {L : Addr} {n m : Led} (k : g.StaysIn h) (N : News g L h m) (sub : ∀ p ∈ n, p ∈ m) (q : ∀ p ∈ τ, p.2.rep g n p.1) : ∀ {Ws : List Val} {vs : List Value}, Got τ vs Ws → Reps h vs Ws
  | [], _, h => h
  | W :: Ws, _, ⟨v, vs', V, e, m, i, t⟩ => ⟨v, vs', e, i.elim (fun e => e ▸ Val.at_ k N sub (q _ m)) (fun i => i.2 _ _ (Val.at_ k N sub (q _ m))), got_reps k N sub q t⟩
theorem St.reps {vs : List Value} {Ws : List Val} (S : St c sc σ τ s) (g : Got τ vs Ws) : Reps s.heap vs Ws :=
  let ⟨_, _, _, _, _, F, N, _, _, _, _, _, t⟩ := S; got_reps F.keep N (fun _ hp => List.mem_append_left _ hp) t g
theorem St.base (O : Ok c d) (S : St c sc σ τ s) : Base c.w s.heap := let ⟨_, _, F, _, _⟩ := S.open_; baseAt O.X O.T F
theorem afterAll {h₀ h h' : Heap} {L : Addr} {m : Str → Option Value} {news objs : Led} (F : Fr h₀ L h m) (N : News h₀ L h news) (k : h.StaysIn h') (ho : ∀ p ∈ objs, h.get? p.1 = none ∧ h'.get? p.1 = some p.2 ∧ Plain p.2) : News h₀ L h' (objs ++ news) := fun p hp => by
  rcases List.mem_append.mp hp with hp | hp
  · exact afterN1 F N k (ho p hp).1 (ho p hp).2.1 p (.head _)
  · exact afterN N k p hp
/-- after a call: what stood stands, and the result is on the ledger -/
theorem St.after {h' : Heap} {tk : Nat} (S : St c sc σ τ s) (k : s.heap.StaysIn h') (n : New s.heap h' v V) : St c sc σ ((v, V) :: τ) { s with heap := h', toks := tk } :=
  let ⟨_, _, F, N, go⟩ := S.open_; let ⟨objs, ho, hv⟩ := n
  go objs (fun p hp => (ho p hp).2.2) (Mine.after F k) (afterAll F N k ho) fun _ _ => V.mono (fun _ _ hp => .inl (List.mem_append_left _ hp)) hv
theorem into_rep {V W : Val} {g : Heap} {n : Led} {v : Value} (i : V = W ∨ Into V W) (x : V.rep g n v) : W.rep g n v := i.elim (fun e => e ▸ x) fun i => W.mono (fun _ _ h => h.imp id fun y => ⟨i.1, y.2⟩) (i.2 _ _ x)
theorem St.into (S : St c sc σ τ s) (h : (v, V) ∈ τ) (i : V = W ∨ Into V W) : St c sc σ ((v, W) :: τ) s :=
  let ⟨mm, κ, own, cells, rest, F, N, K, Y, TI, e, l, t⟩ := S; ⟨mm, κ, own, cells, rest, F, N, K, Y, TI, e, l, forall_cons (into_rep i (t _ h)) t⟩
/-- a call of a def of the text -/
theorem Ev.call {x : Str} {p1 pos : Pos} {e : Expr} {es : List Expr} {Ws : List Val} {f : Addr} {d' : Nat} (O : Ok c d) (h : Evs c sc σ (e :: es) Ws) (C : Fun c.w d' f Ws V) (hf : nsIn (hd.heap_39 c.w.params) mainGlobals x = some (some (.ref f))) (hk : keepIn (hd.heap_39 c.w.params) (.ref f) = true) (hr : d ≤ d')
    (hx : sc.names.lookup x = some .globalImplicit) (hs : sc.kind = .function := by rfl) (hd : (x == ("__debug__" : Str)) = false := by decide) (he : starEach (e :: es) (c.env sc) = (false, eval e (c.env sc)) :: starEach es (c.env sc) := by rfl) (hplain : (backTo pos (starEach es (c.env sc))).any (·.1) = false := by rfl) : Ev c sc σ (.Call (.Name x p1) (e :: es) [] pos) V := fun τ Q s S q => by
  refine Call_ ?_
  obtain ⟨_, _, F, _, _⟩ := S.open_
  refine nameX_K F O.X (topRead_of O.T) hf ?_ hs hx hd
  refine callWith_K O.X hk (h pos _ s S fun vs τ' s1 sub g S1 => ?_) he hplain
  have B := S1.base O
  refine ⟨B.K, C s1 B (S1.reps g) c.A Q noE ⟨O.R.h, Nat.le_trans O.R.d hr, Nat.le_trans O.R.u (Nat.mul_le_mul_left 10 hr)⟩ fun v h' tk k n => ?_⟩
  exact q v _ ((S1.tmp sub).after k n)
/-- a call of a builtin -/
def BIs (c : Cx) (sc : Scope) (σ : Sto) (id : String) (Vs : List Val) (V : Val) : Prop := ∀ ⦃τ⦄ vs s (Q : Value → Shared → Prop), Got τ vs Vs → St c sc σ τ s → (∀ v s', St c sc σ ((v, V) :: τ) s' → Q v s') → wpAny (model Pg c.w) c.A (PySem.call (.builtin id) vs) Q noE s
theorem Ev.bcall {x : Str} {p1 pos : Pos} {e : Expr} {es : List Expr} {Vs : List Val} {id : String} (O : Ok c d) (h : Evs c sc σ (e :: es) Vs) (C : BIs c sc σ id Vs V) (hb : bootBuiltins x = some (.builtin id)) (hf : nsIn (hd.heap_39 c.w.params) mainGlobals x = some none)
    (hx : sc.names.lookup x = some .globalImplicit) (hn : x ≠ "__name__" := by decide) (hs : sc.kind = .function := by rfl) (hd : (x == ("__debug__" : Str)) = false := by decide) (he : starEach (e :: es) (c.env sc) = (false, eval e (c.env sc)) :: starEach es (c.env sc) := by rfl) (hplain : (backTo pos (starEach es (c.env sc))).any (·.1) = false := by rfl) : Ev c sc σ (.Call (.Name x p1) (e :: es) [] pos) V := fun τ Q s S q => by
  refine Call_ ?_
  obtain ⟨_, _, F, _, _⟩ := S.open_
  refine nameX_B F O.X (topRead_of O.T) hf hb hn ?_ hs hx hd
  exact callWith_method1 (first := []) (h pos _ s S fun vs τ' s1 sub g S1 => C vs s1 Q g S1 fun v s' S' => q v s' (S'.tmp (forall_cons (.head _) fun p hp => .tail _ (sub p hp)))) he hplain
theorem St.gotI {x : Int} (S : St c sc σ τ s) (h : (v, V) ∈ τ) (i : V = vInt x ∨ Into V (vInt x)) : ∃ t, v = .int x t := (S.into h i).one
theorem b_abs {x : Int} : BIs c sc σ "abs" [vInt x] (vInt (iabs x)) := fun τ vs s Q ⟨v, _, V, e, h, i, e2⟩ S q => by
  obtain ⟨t, rfl⟩ := S.gotI h i
  subst e2 e
  exact call_abs_int fun u tk => q _ _ (S.int _ _ _)
theorem b_divmod {x y : Int} (hy : divOk y) : BIs c sc σ "divmod" [vInt x, vInt y] (vTup [x.fdiv y, x.fmod y]) := fun τ vs s Q ⟨v, _, V, e, h, i, u, _, U, e2, h2, i2, e3⟩ S q => by
  obtain ⟨t, rfl⟩ := S.gotI h i
  obtain ⟨t', rfl⟩ := S.gotI h2 i2
  subst e3 e2 e
  obtain ⟨_, _, F, N, k⟩ := S.open_
  exact divmod_rule F N hy fun D h' F' N' => q _ _ (k [(D, tupObj [.int (x.fdiv y) s.toks, .int (x.fmod y) (s.toks + 1)] 0)] (plain1 rfl nofun) F' N' fun _ _ => ⟨D, _, 0, rfl, .inl (.head _), _, _, rfl, _, _, rfl, rfl⟩)
theorem b_min2 (O : Ok c d) {a b : Int} : BIs c sc σ "min" [vTup [a, b]] (vInt (min2 a b)) := fun τ vs s Q ⟨v, _, V, e, h, i, e2⟩ S q => by
  obtain ⟨r, ws, k, rfl, o, t, _, rfl, u, _, rfl, rfl⟩ := (S.into h i).at_
  subst e2 e
  obtain ⟨_, _, F, N, k⟩ := S.open_
  exact min_tup O.R.h F N ⟨_, o, rfl, _, rfl⟩ fun t' h' tk F' N' => q _ _ (k [] no_mem F' N' fun _ _ => ⟨t', rfl⟩)
theorem b_max2 (O : Ok c d) {a b : Int} : BIs c sc σ "max" [vTup [a, b]] (vInt (max2 a b)) := fun τ vs s Q ⟨v, _, V, e, h, i, e2⟩ S q => by
  obtain ⟨r, ws, k, rfl, o, t, _, rfl, u, _, rfl, rfl⟩ := (S.into h i).at_
  subst e2 e
  obtain ⟨_, _, F, N, k⟩ := S.open_
  exact max_tup O.R.h F N ⟨_, o, rfl, _, rfl⟩ fun t' h' tk F' N' => q _ _ (k [] no_mem F' N' fun _ _ => ⟨t', rfl⟩)
theorem b_min4 (O : Ok c d) {a b x y : Int} : BIs c sc σ "min" [vLst [a, b, x, y]] (vInt (min4 a b x y)) := fun τ vs s Q ⟨v, _, V, e, h, i, e2⟩ S q => by
  obtain ⟨r, ws, k, rfl, o, t, _, rfl, u, _, rfl, t3, _, rfl, t4, _, rfl, rfl⟩ := (S.into h i).at_
  subst e2 e
  obtain ⟨_, _, F, N, k⟩ := S.open_
  exact min_l4 O.R.h F N ⟨_, o, rfl, _, rfl⟩ fun t' h' tk F' N' => q _ _ (k [] no_mem F' N' fun _ _ => ⟨t', rfl⟩)
theorem b_max4 (O : Ok c d) {a b x y : Int} : BIs c sc σ "max" [vLst [a, b, x, y]] (vInt (max4 a b x y)) := fun τ vs s Q ⟨v, _, V, e, h, i, e2⟩ S q => by
  obtain ⟨r, ws, k, rfl, o, t, _, rfl, u, _, rfl, t3, _, rfl, t4, _, rfl, rfl⟩ := (S.into h i).at_
  subst e2 e
  obtain ⟨_, _, F, N, k⟩ := S.open_
  exact max_l4 O.R.h F N ⟨_, o, rfl, _, rfl⟩ fun t' h' tk F' N' => q _ _ (k [] no_mem F' N' fun _ _ => ⟨t', rfl⟩)
theorem b_maxi (O : Ok c d) {a b : Int} : BIs c sc σ "max" [vInt a, vInt b] (vInt (max2 a b)) := fun τ vs s Q ⟨v, _, V, e, h, i, u, _, U, e2, h2, i2, e3⟩ S q => by
  obtain ⟨t, rfl⟩ := S.gotI h i
  obtain ⟨t', rfl⟩ := S.gotI h2 i2
  subst e3 e2 e
  obtain ⟨_, _, F, N, k⟩ := S.open_
  exact max_two_N O.R.h F N fun h' tk F' N' => q _ _ (k [] no_mem F' N' fun _ _ => ⟨_, rfl⟩)
theorem Ev.bits {e : Expr} {ap pos : Pos} {x : Int} {pl : Sem Bool} (h : Ev c sc σ e (vInt x)) (he : eval (.Call (.Attribute e "bit_length" ap) [] [] pos) (c.env sc) = (do
      let ov ← eval e (c.env sc)
      standAt ap.atName
      let (f, first) ← holding [ov] (getMethod ov "bit_length" pl)
      callWith pos f first (backTo pos (starEach [] (c.env sc))) []) := by rfl) : Ev c sc σ (.Call (.Attribute e "bit_length" ap) [] [] pos) (vInt (Builtin.Int.intBits x : Nat)) := fun τ Q s S q =>
  MethodCall_ (h _ s S fun v s1 S1 => by
    obtain ⟨t, rfl⟩ := S1.one
    exact getMethod_int_bit_length (callWith_method0 (call_int_bit_length (q _ _ (S1.drop.int _ _ _))))) he
/-- stores -/
def Sx (c : Cx) (sc : Scope) (x : Str) : Prop := ∀ ⦃σ⦄ τ V v s (Q : Unit → Shared → Prop), St c sc σ ((v, V) :: τ) s → (∀ s', St c sc ((x, V) :: σ) τ s' → Q () s') → wpAny (model Pg c.w) c.A (storeName (c.env sc) x v) Q noE s
theorem look_cons {x y : Str} {V W : Val} (h : ((x, V) :: σ).lookup y = some W) : (y = x ∧ V = W) ∨ (y ≠ x ∧ σ.lookup y = some W) := by
  rw [List.lookup_cons] at h
  by_cases q : y = x
  · subst q; rw [beq_self_eq_true y] at h; cases h; exact .inl ⟨rfl, rfl⟩
  · rw [beq_false_of_ne q] at h; exact .inr ⟨q, h⟩
theorem Sx.loc {x : Str} (hx : sc.names.lookup x = some .local) (hs : sc.kind = .function := by rfl) : Sx c sc x := fun σ τ V v s Q S q => by
  obtain ⟨mm, κ, own, cells, rest, F, N, K, Y, TI, e, l, t⟩ := S
  refine storeX_L F N (fun h' F' N' => q _ ⟨_, κ, own, cells, rest, F', N', K, Y, TI, by rw [e], fun y W hy => ?_, fun p hp => t p (.tail _ hp)⟩) hs hx
  rcases look_cons hy with ⟨rfl, rfl⟩ | ⟨n, hy⟩
  · exact ⟨v, ⟨fun _ => if_pos rfl, fun h => (by rw [hx] at h; cases h), fun h => (by rw [hx] at h; cases h)⟩, t _ (.head _)⟩
  · obtain ⟨u, hu, r⟩ := l y W hy
    exact ⟨u, ⟨fun h => (if_neg n).trans (hu.loc h), hu.cel, hu.fre⟩, r⟩
/-- statements -/
theorem Ex.nil : Ex c sc σ [] (.next σ) := fun Q s S q => wpAny_execs_nil (q s S)
theorem Ex.cons {st : Stmt} {rest : List Stmt} (h : Es c sc σ st (.next σ1)) (t : Ex c sc σ1 rest r) : Ex c sc σ (st :: rest) r := fun Q s S q => wpAny_execs_cons (h s S fun s1 S1 => t s1 S1 q)
theorem Ex.stop {st : Stmt} {rest : List Stmt} (h : Es c sc σ st (.ret V)) : Ex c sc σ (st :: rest) (.ret V) := fun Q s S q => wpAny_execs_cons (h s S fun v s1 S1 => q v s1 S1)
theorem Ex.ret {e : Expr} {pos : Pos} {rest : List Stmt} (h : Ev c sc σ e V) : Ex c sc σ (.Return (some e) pos :: rest) (.ret V) := .stop fun Q s S q => wpAny_Return_some (h _ s S fun v s1 S1 => q v s1 (S1.weak (fun _ _ e => nomatch e) fun _ hp => hp))
theorem Ex.put {x : Str} {p1 pos : Pos} {e : Expr} {rest : List Stmt} (h : Ev c sc σ e V) (hx : Sx c sc x) (t : Ex c sc ((x, V) :: σ) rest r) (hw : swapsWith e (some (.Name x p1)) pos.line (c.env sc) = pure false := by rfl) : Ex c sc σ (.Assign [.Name x p1] e pos :: rest) r := .cons (fun Q s S q =>
  wpAny_Assign_Name (h _ s S fun v s1 S1 => hx _ _ _ _ _ S1 q) hw) t
theorem Es.ift {t : Expr} {b o : List Stmt} {pos : Pos} (h : Tr c sc σ t true) (hb : Ex c sc σ b r) : Es c sc σ (.If t b o pos) r := fun Q s S q => wpAny_If (h _ s S fun s1 S1 => hb s1 S1 q)
theorem Es.iff {t : Expr} {b o : List Stmt} {pos : Pos} (h : Tr c sc σ t false) (ho : Ex c sc σ o r) : Es c sc σ (.If t b o pos) r := fun Q s S q => wpAny_If (h _ s S fun s1 S1 => ho s1 S1 q)
/-- an if whose body returns, or is passed by -/
theorem Ex.ifr {t : Expr} {b o rest : List Stmt} {pos : Pos} (h : Tr c sc σ t true) (hb : Ex c sc σ b (.ret V)) : Ex c sc σ (.If t b o pos :: rest) (.ret V) := .stop (.ift h hb)
theorem Ex.ifp {t : Expr} {b rest : List Stmt} {pos : Pos} (h : Tr c sc σ t false) (k : Ex c sc σ rest r) : Ex c sc σ (.If t b [] pos :: rest) r := .cons (.iff h .nil) k
theorem Ex.if1 {t : Expr} {b o rest : List Stmt} {pos : Pos} (h : Tr c sc σ t true) (hb : Ex c sc σ b (.next σ1)) (k : Ex c sc σ1 rest r) : Ex c sc σ (.If t b o pos :: rest) r := .cons (.ift h hb) k
theorem Ex.if0 {t : Expr} {b o rest : List Stmt} {pos : Pos} (h : Tr c sc σ t false) (hb : Ex c sc σ o (.next σ1)) (k : Ex c sc σ1 rest r) : Ex c sc σ (.If t b o pos :: rest) r := .cons (.iff h hb) k
/-- stores into names in order -/
noncomputable def putAll (σ : Sto) : List Str → List Val → Sto
  | x :: xs, V :: Vs => putAll ((x, V) :: σ) xs Vs
  | _, _ => σ
theorem got_put {α : Type} {nm : α → Str} {st : α → Value → Sem Unit} (hst : ∀ z v s (Q : Unit → Shared → Prop), wpAny (model Pg c.w) c.A (storeName (c.env sc) (nm z) v) Q noE s → wpAny (model Pg c.w) c.A (st z v) Q noE s) {τ : Tmp} :
    ∀ (zs : List α) {σ : Sto} {Vs : List Val} {vs : List Value}, (∀ x ∈ zs.map nm, Sx c sc x) → zs.length = Vs.length → Got τ vs Vs → ∀ (Q : Unit → Shared → Prop) s, St c sc σ τ s → (∀ s', St c sc (putAll σ (zs.map nm) Vs) [] s' → Q () s') → wpAny (model Pg c.w) c.A (assignInOrder (zs.map st) vs) Q noE s
  | [], _, [], _, _, _, h, Q, s, S, q => by cases h; exact assignInOrder_nil (q s (S.tmp fun _ hp => nomatch hp))
  | z :: zs, _, W :: Ws, _, hS, hl, ⟨v, vs', V, e, m, i, t⟩, Q, s, S, q => by
    cases e
    exact assignInOrder_cons (hst z _ _ _ (hS _ (.head _) _ _ _ _ _ (S.into m i) fun s' S' => got_put hst zs (fun x hx => hS x (.tail _ hx)) (Nat.succ.inj hl) t Q s' S' q))
  | [], _, _ :: _, _, _, hl, _, _, _, _, _ => nomatch hl
  | _ :: _, _, [], _, _, hl, _, _, _, _, _ => nomatch hl
theorem got_len : ∀ {Vs : List Val} {vs : List Value}, Got τ vs Vs → vs.length = Vs.length
  | [], _, h => congrArg _ h
  | _ :: _, _, ⟨_, _, _, e, _, _, t⟩ => e ▸ congrArg (· + 1) (got_len t)
theorem got_ints2 : ∀ {ns : List Int} {vs : List Value}, Ints vs ns → (∀ p ∈ vs.zip (ns.map vInt), p ∈ τ) → Got τ vs (ns.map vInt)
  | [], _, h, _ => h
  | n :: ns, _, ⟨t, ws, e, h⟩, k => by
    subst e
    exact ⟨_, ws, vInt n, rfl, k _ (.head _), .inl rfl, got_ints2 h fun p hp => k p (.tail _ hp)⟩
theorem St.ints : ∀ {ns : List Int} {vs : List Value}, Ints vs ns → St c sc σ τ s → St c sc σ (vs.zip (ns.map vInt)) s
  | [], _, h, S => by cases h; exact S.tmp fun _ h => nomatch h
  | n :: ns, _, ⟨t, ws, e, h⟩, S => by
    subst e
    obtain ⟨mm, κ, own, cells, rest, F, N, K, Y, TI, e, l, t'⟩ := St.ints h S
    exact ⟨mm, κ, own, cells, rest, F, N, K, Y, TI, e, l, forall_cons ⟨t, rfl⟩ t'⟩
theorem findIdx_none {α : Type} (f : α → Value → Sem Unit) : ∀ xs : List α, (xs.map fun p => (false, f p)).findIdx? (·.1) = none
  | [] => rfl
  | _ :: xs => by rw [List.map_cons, List.findIdx?_cons, findIdx_none f xs]; rfl
theorem Es.unpack {elts : List Expr} {k : Nat} {tp pos : Pos} {e : Expr} {ns : List Int} (xs : List (Str × Pos)) (O : Ok c d) (h : Ev c sc σ e V) (hV : ∀ P v, V.p P v → TupIn P v ns) (hS : ∀ x ∈ xs.map (·.1), Sx c sc x) (ha : assignEach elts (c.env sc) = xs.map fun p => (false, assign (.Name p.1 p.2) (c.env sc)))
    (hl : xs.length = (ns.map vInt).length) (hp : swappedStores [.Tuple elts k tp] e (c.env sc) = pure none) (hw : swapsWithSole [.Tuple elts k tp] e pos.line (c.env sc) = pure false) :
    Es c sc σ (.Assign [.Tuple elts k tp] e pos) (.next (putAll σ (xs.map (·.1)) (ns.map vInt))) := fun Q s S q => Assign_Tuple (h _ s S fun v s1 S1 => by
      obtain ⟨r, ws, kk, rfl, o, hi⟩ := hV _ _ S1.at_
      obtain ⟨_, _, F, N, go⟩ := S1.open_
      have hlen : (assignEach elts (c.env sc)).length = ws.toArray.size := by rw [ha, List.length_map, hl, List.size_toArray, hi.len, List.length_map]
      refine unpackN_ F N ⟨_, o, rfl, _, rfl⟩ O.R.h hlen (by rw [ha]; exact findIdx_none _ _) fun h' F' N' => ?_
      rw [ha, List.map_map]
      exact got_put (α := Str × Pos) (nm := fun p => p.1) (st := fun p v => assign (.Name p.1 p.2) (c.env sc) v) (fun z v s Q hh => assign_Name hh) xs hS hl (got_ints2 hi fun _ h => h) _ _ (St.ints hi (go (V := vNone) (v := .none) [] no_mem F' N' fun _ _ => rfl)) q) hw hp
/-- a display into names -/
theorem Es.many {elts es : List Expr} {k k2 : Nat} {tp tp2 pos : Pos} {Vs : List Val} (xs : List (Str × Pos)) (O : Ok c d) (h : Evs c sc σ es Vs) (hS : ∀ x ∈ xs.map (·.1), Sx c sc x) (ha : assignEach elts (c.env sc) = xs.map fun p => (false, assign (.Name p.1 p.2) (c.env sc)))
    (hl : xs.length = Vs.length) (hz : Vs.length ≤ sizeLine) (hp : swappedStores [.Tuple elts k tp] (.Tuple es k2 tp2) (c.env sc) = pure none) (hw : swapsWithSole [.Tuple elts k tp] (.Tuple es k2 tp2) pos.line (c.env sc) = pure false) :
    Es c sc σ (.Assign [.Tuple elts k tp] (.Tuple es k2 tp2) pos) (.next (putAll σ (xs.map (·.1)) Vs)) := fun Q s S q => Assign_Tuple (Tuple_ (h tp2 _ s S fun vs τ' s1 sub g S1 => by
      obtain ⟨_, _, F, N, go⟩ := S1.open_
      refine kup_newTuple F N (fun D h' F' N' _ => ?_) (by rw [got_len g]; exact hz)
      have hlen : (assignEach elts (c.env sc)).length = vs.toArray.size := by rw [ha, List.length_map, hl, List.size_toArray, got_len g]
      refine unpackN_ F' N' ⟨_, (N' _ (.head _)).1, rfl, _, rfl⟩ O.R.h hlen (by rw [ha]; exact findIdx_none _ _) fun h'' F'' N'' => ?_
      rw [ha, List.map_map]
      exact got_put (α := Str × Pos) (τ := τ') (nm := fun p => p.1) (st := fun p v => assign (.Name p.1 p.2) (c.env sc) v) (fun z v s Q hh => assign_Name hh) xs hS hl g _ _ (go (V := vNone) (v := .none) [(D, tupObj vs 0)] (plain1 rfl nofun) F'' N'' fun _ _ => rfl).drop q)) hw hp
theorem got_rev : ∀ {Vs : List Val} {vs : List Value}, Got τ vs Vs → ∀ {Us : List Val} {us : List Value}, Got τ us Us → Got τ (vs.reverseAux us) (Vs.reverseAux Us)
  | [], _, h, _, _, g => by cases h; exact g
  | _ :: _, _, ⟨v, vs', V, e, m, i, t⟩, _, _, g => by cases e; exact got_rev t ⟨v, _, V, rfl, m, i, g⟩
/-- two or three names, stored from behind -/
theorem Es.swap {elts es : List Expr} {k k2 : Nat} {tp tp2 pos : Pos} {Vs : List Val} (xs : List Str) (O : Ok c d) (h : Evs c sc σ es Vs) (hS : ∀ x ∈ xs.reverse, Sx c sc x) (hp : swappedStores [.Tuple elts k tp] (.Tuple es k2 tp2) (c.env sc) = pure (some xs))
    (hl : xs.length = Vs.length) (hz : Vs.length ≤ sizeLine) (hw : swapsWithSole [.Tuple elts k tp] (.Tuple es k2 tp2) pos.line (c.env sc) = pure false) :
    Es c sc σ (.Assign [.Tuple elts k tp] (.Tuple es k2 tp2) pos) (.next (putAll σ xs.reverse Vs.reverse)) := fun Q s S q => Assign_Tuple_swapped (Tuple_ (h tp2 _ s S fun vs τ' s1 sub g S1 => by
      obtain ⟨_, _, F, N, go⟩ := S1.open_
      refine kup_newTuple F N (fun D h' F' N' _ => ?_) (by rw [got_len g]; exact hz)
      refine unpackItemsN_ F' N' ⟨_, (N' _ (.head _)).1, rfl, _, rfl⟩ O.R.h (by rw [List.size_toArray, got_len g, hl]) fun h'' F'' N'' => ?_
      have := got_put (α := Str) (c := c) (sc := sc) (τ := τ') (nm := fun x => x) (st := fun x v => bindName (c.env sc) x v) (fun x v s Q hh => bindName_ hh) xs.reverse (σ := σ) (by rw [List.map_id']; exact hS) (by rw [List.length_reverse, hl]; exact (List.length_reverse (as := Vs)).symm) (got_rev g (Us := []) rfl) (fun _ s' => Q .next s') _ (go (V := vNone) (v := .none) (tk := s1.toks) [(D, tupObj vs 0)] (plain1 rfl nofun) F'' N'' fun _ _ => rfl).drop
      rw [List.map_id'] at this
      exact this q)) hw hp
end
end Mine
end
noncomputable section
open PySem PySem.W PyProof.Rows PySem.Calls
set_option Elab.async false
set_option maxRecDepth 100000
set_option maxHeartbeats 400000
set_option linter.all false
set_option exponentiation.threshold 5000
set_option genInjectivity false
set_option genSizeOf false
namespace Mine
/-- the turns of a while -/
inductive Wh (c : Cx) (sc : Scope) (t : Expr) (b : List Stmt) : Nat → Sto → Sto → Prop
  | done {σ : Sto} (h : Tr c sc σ t false) : Wh c sc t b 0 σ σ
  | step {n : Nat} {σ σ1 σ2 : Sto} (h : Tr c sc σ t true) (hb : Ex c sc σ b (.next σ1)) (w : Wh c sc t b n σ1 σ2) : Wh c sc t b (n + 1) σ σ2
section
variable {c : Cx} {sc : Scope} {σ σ1 : Sto} {τ τ' : Tmp} {s : Shared} {V W : Val} {r : Res} {d : Nat} {v : Value}
/-- a state, as its frame and its ledger tell it -/
inductive Pack (c : Cx) (sc : Scope) (σ : Sto) (s : Shared) : Prop
  | mk (mm : Str → Option Value) (news : Led) (F : Fr c.g c.L s.heap mm) (N : News c.g c.L s.heap news) (e : s = { c.s0 with heap := s.heap, toks := s.toks })
    (k : ∀ s', Fr c.g c.L s'.heap mm → News c.g c.L s'.heap news → s' = { c.s0 with heap := s'.heap, toks := s'.toks } → St c sc σ [] s')
theorem St.pack (S : St c sc σ τ s) : Pack c sc σ s :=
  let ⟨mm, κ, own, cells, rest, F, N, K, Y, TI, e, l, t⟩ := S; ⟨mm, _, F, N, e, fun _ F' N' e' => ⟨mm, κ, own, cells, rest, F', N', K, Y, TI, e', l, no_mem⟩⟩
theorem Es.while {t : Expr} {b : List Stmt} {pos : Pos} {n : Nat} (W : Wh c sc t b n σ σ1) : Es c sc σ (.While t b [] pos) (.next σ1) := fun Q s S q => by
  obtain ⟨mm, news, F, N, e, k⟩ := S.pack
  refine While_inv (J := fun n mm news => ∃ σ0, Wh c sc t b n σ0 σ1 ∧ ∀ s', Fr c.g c.L s'.heap mm → News c.g c.L s'.heap news → s' = { c.s0 with heap := s'.heap, toks := s'.toks } → St c sc σ0 [] s') F N (n₀ := n) ⟨σ, W, k⟩ (fun n m₁ news₁ h₁ tk₁ F₁ N₁ ⟨σ0, W1, l1⟩ => ?_) (by passes_own)
  have S1 : St c sc σ0 [] { s with heap := h₁, toks := tk₁ } := l1 _ F₁ N₁ (by rw [e])
  cases W1 with
  | done ht => exact ht _ _ S1 fun s' S' => q s' S'
  | step ht hb w => exact ht _ _ S1 fun s2 S2 => hb s2 S2 fun s3 S3 => let ⟨m3, news3, F3, N3, e3, k3⟩ := S3.pack; ⟨rfl, s3.heap, s3.toks, m3, news3, _, by rw [e3, e], F3, N3, Nat.lt_succ_self _, _, w, k3⟩
theorem sub_of {σ' : Sto} (h : ∀ p ∈ σ', σ.lookup p.1 = some p.2) : ∀ x V, σ'.lookup x = some V → σ.lookup x = some V := by
  induction σ' with
  | nil => exact fun _ _ e => nomatch e
  | cons p l ih => exact fun x V e => (look_cons e).elim (fun ⟨a, b⟩ => a ▸ b ▸ h p (.head _)) fun ⟨_, e⟩ => ih (fun p hp => h p (.tail _ hp)) x V e
theorem Ex.weak {σ' : Sto} {b : List Stmt} (h : Ex c sc σ' b r) (k : ∀ p ∈ σ', σ.lookup p.1 = some p.2) : Ex c sc σ b r := fun Q s S q => h s (S.weak (sub_of k) fun _ hp => hp) q
theorem Ex.into {b : List Stmt} (h : Ex c sc σ b (.next σ1)) {σ' : Sto} (k : ∀ p ∈ σ', σ1.lookup p.1 = some p.2) : Ex c sc σ b (.next σ') := fun Q s S q => h s S fun s' S' => q s' (S'.weak (sub_of k) fun _ hp => hp)
/-- a while by its plain twin -/
theorem Ex.loop {α : Type} {t : Expr} {b rest : List Stmt} {pos : Pos} (S : α → Sto) (P : Nat → α → Prop)
    (hP : ∀ n a, P n a → (Tr c sc (S a) t false ∧ Ex c sc (S a) rest r) ∨ ∃ m a', n = m + 1 ∧ Tr c sc (S a) t true ∧ Ex c sc (S a) b (.next (S a')) ∧ P m a') (n : Nat) (a : α) (h : P n a) : Ex c sc (S a) (.While t b [] pos :: rest) r := by
  have : ∃ k σ', Wh c sc t b k (S a) σ' ∧ Ex c sc σ' rest r := by
    induction n generalizing a with
    | zero =>
      rcases hP _ a h with ⟨h1, h2⟩ | ⟨m, a', e, _⟩
      · exact ⟨_, _, .done h1, h2⟩
      · cases e
    | succ n ih =>
      rcases hP _ a h with ⟨h1, h2⟩ | ⟨m, a', e, h1, h2, h3⟩
      · exact ⟨_, _, .done h1, h2⟩
      · cases e
        obtain ⟨k, σ', w, x⟩ := ih a' h3
        exact ⟨_, _, .step h1 h2 w, x⟩
  obtain ⟨k, σ', w, x⟩ := this
  exact Ex.cons (Es.while w) x
/-- assignments to two or more names -/
theorem Ex.unp2 {x1 x2 : Str} {k : Nat} {p1 p2 tp pos : Pos} {e : Expr} {rest : List Stmt} {n1 n2 : Int} (O : Ok c d) (h : Ev c sc σ e V) (hV : ∀ P v, V.p P v → TupIn P v [n1, n2]) (h1 : Sx c sc x1) (h2 : Sx c sc x2) (t : Ex c sc ((x2, vInt n2) :: (x1, vInt n1) :: σ) rest r)
    (hp : swappedStores [.Tuple [.Name x1 p1, .Name x2 p2] k tp] e (c.env sc) = pure none := by rfl) (hw : swapsWithSole [.Tuple [.Name x1 p1, .Name x2 p2] k tp] e pos.line (c.env sc) = pure false := by rfl) : Ex c sc σ (.Assign [.Tuple [.Name x1 p1, .Name x2 p2] k tp] e pos :: rest) r :=
  .cons (Es.unpack [(x1, p1), (x2, p2)] O h hV (forall_cons h1 (forall_cons h2 no_mem)) rfl rfl hp hw) t
theorem Ex.unp3 {x1 x2 x3 : Str} {k : Nat} {p1 p2 p3 tp pos : Pos} {e : Expr} {rest : List Stmt} {n1 n2 n3 : Int} (O : Ok c d) (h : Ev c sc σ e V) (hV : ∀ P v, V.p P v → TupIn P v [n1, n2, n3]) (h1 : Sx c sc x1) (h2 : Sx c sc x2) (h3 : Sx c sc x3) (t : Ex c sc ((x3, vInt n3) :: (x2, vInt n2) :: (x1, vInt n1) :: σ) rest r)
    (hp : swappedStores [.Tuple [.Name x1 p1, .Name x2 p2, .Name x3 p3] k tp] e (c.env sc) = pure none := by rfl) (hw : swapsWithSole [.Tuple [.Name x1 p1, .Name x2 p2, .Name x3 p3] k tp] e pos.line (c.env sc) = pure false := by rfl) : Ex c sc σ (.Assign [.Tuple [.Name x1 p1, .Name x2 p2, .Name x3 p3] k tp] e pos :: rest) r :=
  .cons (Es.unpack [(x1, p1), (x2, p2), (x3, p3)] O h hV (forall_cons h1 (forall_cons h2 (forall_cons h3 no_mem))) rfl rfl hp hw) t
theorem Ex.swap2 {x1 x2 : Str} {k k2 : Nat} {p1 p2 tp tp2 pos : Pos} {e1 e2 : Expr} {rest : List Stmt} {V1 V2 : Val} (O : Ok c d) (a1 : Ev c sc σ e1 V1) (a2 : Ev c sc σ e2 V2) (h1 : Sx c sc x1) (h2 : Sx c sc x2) (t : Ex c sc ((x1, V1) :: (x2, V2) :: σ) rest r)
    (hp : swappedStores [.Tuple [.Name x1 p1, .Name x2 p2] k tp] (.Tuple [e1, e2] k2 tp2) (c.env sc) = pure (some [x1, x2]) := by rfl) (hw : swapsWithSole [.Tuple [.Name x1 p1, .Name x2 p2] k tp] (.Tuple [e1, e2] k2 tp2) pos.line (c.env sc) = pure false := by rfl) (he1 : starEach [e1, e2] (c.env sc) = (false, eval e1 (c.env sc)) :: starEach [e2] (c.env sc) := by rfl) (he2 : starEach [e2] (c.env sc) = [(false, eval e2 (c.env sc))] := by rfl) : Ex c sc σ (.Assign [.Tuple [.Name x1 p1, .Name x2 p2] k tp] (.Tuple [e1, e2] k2 tp2) pos :: rest) r :=
  .cons (Es.swap [x1, x2] O (Evs.cons a1 (Evs.cons a2 Evs.nil he2) he1) (forall_cons h2 (forall_cons h1 no_mem)) hp rfl (Nat.le_of_ble_eq_true rfl) hw) t
theorem Ex.swap3 {x1 x2 x3 : Str} {k k2 : Nat} {p1 p2 p3 tp tp2 pos : Pos} {e1 e2 e3 : Expr} {rest : List Stmt} {V1 V2 V3 : Val} (O : Ok c d) (a1 : Ev c sc σ e1 V1) (a2 : Ev c sc σ e2 V2) (a3 : Ev c sc σ e3 V3) (h1 : Sx c sc x1) (h2 : Sx c sc x2) (h3 : Sx c sc x3) (t : Ex c sc ((x1, V1) :: (x2, V2) :: (x3, V3) :: σ) rest r)
    (hp : swappedStores [.Tuple [.Name x1 p1, .Name x2 p2, .Name x3 p3] k tp] (.Tuple [e1, e2, e3] k2 tp2) (c.env sc) = pure (some [x1, x2, x3]) := by rfl) (hw : swapsWithSole [.Tuple [.Name x1 p1, .Name x2 p2, .Name x3 p3] k tp] (.Tuple [e1, e2, e3] k2 tp2) pos.line (c.env sc) = pure false := by rfl)
    (he1 : starEach [e1, e2, e3] (c.env sc) = (false, eval e1 (c.env sc)) :: starEach [e2, e3] (c.env sc) := by rfl) (he2 : starEach [e2, e3] (c.env sc) = (false, eval e2 (c.env sc)) :: starEach [e3] (c.env sc) := by rfl) (he3 : starEach [e3] (c.env sc) = [(false, eval e3 (c.env sc))] := by rfl) : Ex c sc σ (.Assign [.Tuple [.Name x1 p1, .Name x2 p2, .Name x3 p3] k tp] (.Tuple [e1, e2, e3] k2 tp2) pos :: rest) r :=
  .cons (Es.swap [x1, x2, x3] O (Evs.cons a1 (Evs.cons a2 (Evs.cons a3 Evs.nil he3) he2) he1) (forall_cons h3 (forall_cons h2 (forall_cons h1 no_mem))) hp rfl (Nat.le_of_ble_eq_true rfl) hw) t
theorem Ex.many4 {x1 x2 x3 x4 : Str} {es : List Expr} {k k2 : Nat} {p1 p2 p3 p4 tp tp2 pos : Pos} {rest : List Stmt} {V1 V2 V3 V4 : Val} (O : Ok c d) (h : Evs c sc σ es [V1, V2, V3, V4]) (h1 : Sx c sc x1) (h2 : Sx c sc x2) (h3 : Sx c sc x3) (h4 : Sx c sc x4) (t : Ex c sc ((x4, V4) :: (x3, V3) :: (x2, V2) :: (x1, V1) :: σ) rest r)
    (hp : swappedStores [.Tuple [.Name x1 p1, .Name x2 p2, .Name x3 p3, .Name x4 p4] k tp] (.Tuple es k2 tp2) (c.env sc) = pure none := by rfl) (hw : swapsWithSole [.Tuple [.Name x1 p1, .Name x2 p2, .Name x3 p3, .Name x4 p4] k tp] (.Tuple es k2 tp2) pos.line (c.env sc) = pure false := by rfl) : Ex c sc σ (.Assign [.Tuple [.Name x1 p1, .Name x2 p2, .Name x3 p3, .Name x4 p4] k tp] (.Tuple es k2 tp2) pos :: rest) r :=
  .cons (Es.many [(x1, p1), (x2, p2), (x3, p3), (x4, p4)] O h (forall_cons h1 (forall_cons h2 (forall_cons h3 (forall_cons h4 no_mem)))) rfl rfl (Nat.le_of_ble_eq_true rfl) hp hw) t
theorem Ex.many5 {x1 x2 x3 x4 x5 : Str} {es : List Expr} {k k2 : Nat} {p1 p2 p3 p4 p5 tp tp2 pos : Pos} {rest : List Stmt} {V1 V2 V3 V4 V5 : Val} (O : Ok c d) (h : Evs c sc σ es [V1, V2, V3, V4, V5]) (h1 : Sx c sc x1) (h2 : Sx c sc x2) (h3 : Sx c sc x3) (h4 : Sx c sc x4) (h5 : Sx c sc x5) (t : Ex c sc ((x5, V5) :: (x4, V4) :: (x3, V3) :: (x2, V2) :: (x1, V1) :: σ) rest r)
    (hp : swappedStores [.Tuple [.Name x1 p1, .Name x2 p2, .Name x3 p3, .Name x4 p4, .Name x5 p5] k tp] (.Tuple es k2 tp2) (c.env sc) = pure none := by rfl) (hw : swapsWithSole [.Tuple [.Name x1 p1, .Name x2 p2, .Name x3 p3, .Name x4 p4, .Name x5 p5] k tp] (.Tuple es k2 tp2) pos.line (c.env sc) = pure false := by rfl) : Ex c sc σ (.Assign [.Tuple [.Name x1 p1, .Name x2 p2, .Name x3 p3, .Name x4 p4, .Name x5 p5] k tp] (.Tuple es k2 tp2) pos :: rest) r :=
  .cons (Es.many [(x1, p1), (x2, p2), (x3, p3), (x4, p4), (x5, p5)] O h (forall_cons h1 (forall_cons h2 (forall_cons h3 (forall_cons h4 (forall_cons h5 no_mem))))) rfl rfl (Nat.le_of_ble_eq_true rfl) hp hw) t
/-- a def's entry -/
inductive Loc (g : Heap) : List (Str × Value) → Sto → Prop
  | nil : Loc g [] []
  | cons {x : Str} {v : Value} {V : Val} {l : List (Str × Value)} {σ : Sto} (h : V.rep g [] v) (t : Loc g l σ) : Loc g ((x, v) :: l) ((x, V) :: σ)
theorem Loc.rev {g : Heap} {l : List (Str × Value)} {σ : Sto} (h : Loc g l σ) : ∀ {l' : List (Str × Value)} {σ' : Sto}, Loc g l' σ' → Loc g (l.reverseAux l') (σ.reverseAux σ') := by
  induction h with
  | nil => exact fun h => h
  | cons h _ ih => exact fun t => ih (.cons h t)
theorem Loc.zip {g : Heap} : ∀ {Ws : List Val} {vs : List Value}, Reps g vs Ws → (∀ W ∈ Ws, W.own = false) → ∀ xs : List Str, Loc g (xs.zip vs) (xs.zip Ws)
  | [], _, h, _, xs => by cases h; cases xs <;> exact .nil
  | W :: Ws, _, ⟨v, vs, e, hv, t⟩, ho, xs => by
    subst e
    cases xs with
    | nil => exact .nil
    | cons x xs => exact .cons (W.mono (fun _ _ y => .inr ⟨ho W (.head _), y⟩) hv) (Loc.zip t (fun z hz => ho z (.tail _ hz)) xs)
theorem Loc.get {g : Heap} {l : List (Str × Value)} {σ : Sto} (h : Loc g l σ) : ∀ x V, σ.lookup x = some V → ∃ v, l.lookup x = some v ∧ V.rep g [] v := by
  induction h with
  | nil => exact fun _ _ e => nomatch e
  | cons h _ ih =>
    intro x W e
    rw [List.lookup_cons]
    rcases look_cons e with ⟨rfl, rfl⟩ | ⟨n, e⟩
    · rw [beq_self_eq_true]; exact ⟨_, rfl, h⟩
    · rw [beq_false_of_ne n]; exact ih x W e
theorem Reps.len {g : Heap} : ∀ {Ws : List Val} {vs : List Value}, Reps g vs Ws → vs.length = Ws.length
  | [], _, h => congrArg _ h
  | _ :: _, _, ⟨_, _, e, _, t⟩ => e ▸ congrArg (· + 1) t.len
theorem fun_of {w : World} {f : Addr} {Ws : List Val} {name qual : Str} {params : Arguments} {body : List Stmt} {scope : Scope} {dV kV doc pm cdv ct oc : Value} {an od : Option Addr} {osl : Array (Option Value)} (xs : List Str) (hret : Ret V) (hlim : d < recursionLimit)
    (ho : (hd.heap_39 w.params).lookup f = some ⟨oc, od, .func (fnOf name qual params body scope dV kV doc pm an cdv ct), osl⟩) (hcd : codeIn (hd.heap_39 w.params) cdv qual = true)
    (hb : ∀ s vs, vs.length = xs.length → BindsTo s (fnOf name qual params body scope dV kV doc pm an cdv ct) ⟨vs, []⟩ (xs.zip vs)) (hl : ∀ x ∈ xs, scope.names.lookup x = some .local)
    (h : ∀ c : Cx, Ok c (d + 1) → Ex c scope (xs.zip Ws).reverse body (.ret V))
    (hco : scope.isCoroutine = false) (hgen : scope.isGenerator = false) (hk : scope.kind = .function) (hcell : ∀ x ∈ scope.names, x.2 ≠ .cell) (hn : Ws.length = xs.length := by rfl) (how : ∀ W ∈ Ws, W.own = false) : Fun w d f Ws V := fun vs s B R A Q E Rm k => by
  obtain ⟨X, loose, mean, mg, mb, T⟩ := B
  refine enterP (binds := xs.zip vs) Rm hlim X T ho hcd (hb s vs (R.len.trans hn)) (fun y hy => hl _ (List.of_mem_zip hy).1) (fun L' h₁ F N => ?_) hco hgen hk hcell
  refine h ⟨w, (Ac d).deeper (envOf qual scope L' f cdv), s.heap, L', qual, f, cdv, [], [], s, loose, mean, mg, mb, fun rest => rest = []⟩ ⟨X, T, ⟨rfl, Nat.le_refl _, ?_⟩, fun rest h p hp => by rw [show rest = [] from h] at hp; cases hp⟩ _ ⟨_, fun _ => none, [], [], [], F, N, no_mem, .nil, rfl, rfl, fun x V hx => ?_, no_mem⟩ ?_
  · show 10 * d + 3 ≤ 10 * (d + 1)
    omega
  · obtain ⟨v, h1, h2⟩ := (Loc.rev (Loc.zip R how xs) .nil).get x V hx
    have hm : scope.names.lookup x = some .local := by
      have : ∀ {l : List (Str × Value)} {x : Str} {v : Value}, l.lookup x = some v → x ∈ l.map (·.1) := fun {l} => by
        induction l with
        | nil => exact fun h => nomatch h
        | cons p l ih =>
          intro x v h
          rw [List.lookup_cons] at h
          split at h
          · rename_i e; rw [eq_of_beq e]; exact .head _
          · exact .tail _ (ih h)
      obtain ⟨p, hp, e⟩ := List.mem_map.mp (this h1)
      exact e ▸ hl _ (List.of_mem_zip (List.mem_reverse.mp hp)).1
    exact ⟨v, ⟨fun _ => h1, fun h => (by rw [hm] at h; cases h), fun h => (by rw [hm] at h; cases h)⟩, h2⟩
  · rintro v s' ⟨mm, κ, own, cells, rest, F', N', K, Y, TI, e, l, t⟩
    refine ⟨L', mm, _, F', N', fun st => ?_⟩
    have := k v s'.heap s'.toks st ⟨own, fun p hp => ⟨(N' p (List.mem_append_left _ hp)).2.2, (N' p (List.mem_append_left _ hp)).1, K p hp⟩, hret _ _ _ (t _ (.head _))⟩
    rw [e]
    exact this
theorem len_cons {α : Type} {n : Nat} : ∀ {l : List α}, l.length = n + 1 → ∃ a l', l = a :: l' ∧ l'.length = n
  | a :: l', h => ⟨a, l', rfl, Nat.succ.inj h⟩
theorem len_nil {α : Type} {l : List α} (h : l.length = 0) : l = [] := List.length_eq_zero_iff.mp h
theorem zip1 {s : Shared} {fd : FuncData} {x : Str} (k : ∀ a, BindsTo s fd ⟨[a], []⟩ [(x, a)]) (vs : List Value) (h : vs.length = [x].length) : BindsTo s fd ⟨vs, []⟩ ([x].zip vs) := by
  obtain ⟨a, l1, rfl, h1⟩ := len_cons h
  obtain rfl := len_nil h1
  exact k a
theorem zip2 {s : Shared} {fd : FuncData} {x y : Str} (k : ∀ a b, BindsTo s fd ⟨[a, b], []⟩ [(x, a), (y, b)]) (vs : List Value) (h : vs.length = [x, y].length) : BindsTo s fd ⟨vs, []⟩ ([x, y].zip vs) := by
  obtain ⟨a, l1, rfl, h1⟩ := len_cons h
  obtain ⟨b, l2, rfl, h2⟩ := len_cons h1
  obtain rfl := len_nil h2
  exact k a b
theorem zip3 {s : Shared} {fd : FuncData} {x y z : Str} (k : ∀ a b c, BindsTo s fd ⟨[a, b, c], []⟩ [(x, a), (y, b), (z, c)]) (vs : List Value) (h : vs.length = [x, y, z].length) : BindsTo s fd ⟨vs, []⟩ ([x, y, z].zip vs) := by
  obtain ⟨a, l1, rfl, h1⟩ := len_cons h
  obtain ⟨b, l2, rfl, h2⟩ := len_cons h1
  obtain ⟨c, l3, rfl, h3⟩ := len_cons h2
  obtain rfl := len_nil h3
  exact k a b c
theorem zip4 {s : Shared} {fd : FuncData} {x y z u : Str} (k : ∀ a b c d, BindsTo s fd ⟨[a, b, c, d], []⟩ [(x, a), (y, b), (z, c), (u, d)]) (vs : List Value) (h : vs.length = [x, y, z, u].length) : BindsTo s fd ⟨vs, []⟩ ([x, y, z, u].zip vs) := by
  obtain ⟨a, l1, rfl, h1⟩ := len_cons h
  obtain ⟨b, l2, rfl, h2⟩ := len_cons h1
  obtain ⟨c, l3, rfl, h3⟩ := len_cons h2
  obtain ⟨d, l4, rfl, h4⟩ := len_cons h3
  obtain rfl := len_nil h4
  exact k a b c d
theorem f_Real (w : World) (m e : Int) : Fun w 888 89 [vInt m, vInt e] (vReal m e) := fun vs s B ⟨v, _, e1, ⟨t1, h1⟩, u, _, e2, ⟨t2, h2⟩, e3⟩ A Q E Rm k => by
  subst e3 e2 h2 h1 e1
  exact c_Real B A Q E Rm fun v h' tk st ⟨x, dx, ev, n1, n2, a1, a2, a3, a4, a5, a6, n, o1, o2⟩ => k v h' tk st ⟨[(x, instObj 89 dx), (dx, realObj a1 a2 m a3 a4 a5 e a6 n)], forall_cons ⟨n1, o1, .inl ⟨notTab_ref rfl, nofun⟩⟩ (forall_cons ⟨n2, o2, .inl ⟨notTab_type rfl, nofun⟩⟩ no_mem), ⟨x, dx, a1, a2, a3, a4, a5, a6, n, ev, .head _, .tail _ (.head _)⟩⟩
end
end Mine
end
local macro_rules
  | `(tactic| walk_at "v s") => `(tactic| first | with_reducible assumption | assumption | exact Mine.sgn_small _ | omega | exact ⟨by omega, by omega, by decide⟩ | exact ⟨by decide, by decide⟩ | decide | ((try simp only [Mine.sz, Mine.iabs, Mine.zb, Mine.sh, Mine.sl] at *); omega))
local macro_rules
  | `(tactic| walk_at "v m") => `(tactic| first | exact Mine.mulOk.ok (by with_reducible assumption) | exact Mine.mulOk_small (by with_reducible assumption) | exact Mine.mulOk_small' (by with_reducible assumption) | exact Mine.mulOk_small (Mine.sgn_small _) | exact Mine.mulOk_small' (Mine.sgn_small _) | exact Mine.mulOk_small (by decide) | exact Mine.mulOk_small' (by decide) | exact Mine.mulOk_small (by omega) | exact Mine.mulOk_small' (by omega))
local macro_rules
  | `(tactic| walk_at "v d") => `(tactic| first | rfl | exact decide_eq_true (by walk_at "v s") | exact decide_eq_false (by walk_at "v s") | exact beq_iff_eq.mpr (by walk_at "v s") | exact beq_false_of_ne (by walk_at "v s") | exact bne_iff_ne.mpr (by walk_at "v s") | exact bne_eq_false_iff_eq.mpr (by walk_at "v s") | assumption | exact eq_false_of_ne_true (by assumption))
noncomputable section
open PySem PySem.W PyProof.Rows PySem.Calls
set_option Elab.async false
set_option maxRecDepth 100000
set_option maxHeartbeats 4000000
set_option linter.all false
set_option exponentiation.threshold 5000
namespace Mine
theorem filledW4 : PySem.Challenge.rw_pc0352_01 = PySem.Challenge.rw_pc0352_01 ∧ hd.heap_39 = hd.heap_39 := by
  k_fill
  exact ⟨rfl, rfl⟩
theorem Ev.gint {c : Cx} {sc : Scope} {σ : Sto} {d : Nat} {x : Str} {pos : Pos} {n : Int} {t : Tok} (O : Ok c d) (hf : nsIn (hd.heap_39 c.w.params) mainGlobals x = some (some (.int n t))) (hx : sc.names.lookup x = some .globalImplicit) (hs : sc.kind = .function := by rfl) (hd : (x == ("__debug__" : Str)) = false := by decide) : Ev c sc σ (.Name x pos) (vInt n) := fun τ Q s S q =>
  let ⟨_, _, F, _, _⟩ := S.open_; nameX_K F O.X (topRead_of O.T) hf (q _ _ (S.put fun _ _ => ⟨t, rfl⟩)) hs hx hd
theorem f_size_of (w : World) (number : Int)   : Fun w 890 100 [vInt number] (vInt (sz number)) := by
  · refine' fun_of ["number"] (ret_self fun _ _ _ x => x) ?hlim ?ho ?hcd ?hb ?hl ?_ ?c1 ?c2 ?c3 ?c4 rfl ?how
    (case hlim => decide)
    (case ho => k_is)
    (case hcd => k_is)
    (case hb => exact fun s => zip1 fun _ => BindsTo.of_eq rfl)
    (case hl => decide)
    (case c1 => exact rfl)
    (case c2 => exact rfl)
    (case c3 => exact rfl)
    (case c4 => decide)
    (case how => exact forall_cons rfl (no_mem))
    exact fun c O => (Ex.ret (Ev.bits (Ev.bcall O (Evs.cons (Ev.loc rfl rfl) Evs.nil) b_abs (by boot_by_name) (by k_is) rfl)))

theorem f_more_of (w : World) (one0 one1 : Int) (other0 other1 : Int)   : Fun w 890 212 [eTup [one0, one1], eTup [other0, other1]] (vTup [one0 + other0, one1 + other1]) := by
  · refine' fun_of ["one", "other"] (ret_own rfl) ?hlim ?ho ?hcd ?hb ?hl ?_ ?c1 ?c2 ?c3 ?c4 rfl ?how
    (case hlim => decide)
    (case ho => k_is)
    (case hcd => k_is)
    (case hb => exact fun s => zip2 fun _ _ => BindsTo.of_eq rfl)
    (case hl => decide)
    (case c1 => exact rfl)
    (case c2 => exact rfl)
    (case c3 => exact rfl)
    (case c4 => decide)
    (case how => exact forall_cons rfl (forall_cons rfl (no_mem)))
    exact fun c O => (Ex.ret (Ev.tuple (ns := [_, _]) (Evs.cons (Ev.add (Ev.item 0 (Ev.loc rfl rfl) (fun _ _ x => x) rfl) (Ev.item 0 (Ev.loc rfl rfl) (fun _ _ x => x) rfl)) (Evs.cons (Ev.add (Ev.item 1 (Ev.loc rfl rfl) (fun _ _ x => x) rfl) (Ev.item 1 (Ev.loc rfl rfl) (fun _ _ x => x) rfl)) Evs.nil))))

theorem f_less_of (w : World) (one0 one1 : Int) (other0 other1 : Int)   : Fun w 890 219 [eTup [one0, one1], eTup [other0, other1]] (vTup [one0 - other1, one1 - other0]) := by
  · refine' fun_of ["one", "other"] (ret_own rfl) ?hlim ?ho ?hcd ?hb ?hl ?_ ?c1 ?c2 ?c3 ?c4 rfl ?how
    (case hlim => decide)
    (case ho => k_is)
    (case hcd => k_is)
    (case hb => exact fun s => zip2 fun _ _ => BindsTo.of_eq rfl)
    (case hl => decide)
    (case c1 => exact rfl)
    (case c2 => exact rfl)
    (case c3 => exact rfl)
    (case c4 => decide)
    (case how => exact forall_cons rfl (forall_cons rfl (no_mem)))
    exact fun c O => (Ex.ret (Ev.tuple (ns := [_, _]) (Evs.cons (Ev.sub (Ev.item 0 (Ev.loc rfl rfl) (fun _ _ x => x) rfl) (Ev.item 1 (Ev.loc rfl rfl) (fun _ _ x => x) rfl)) (Evs.cons (Ev.sub (Ev.item 1 (Ev.loc rfl rfl) (fun _ _ x => x) rfl) (Ev.item 0 (Ev.loc rfl rfl) (fun _ _ x => x) rfl)) Evs.nil))))

theorem f_contrary_of (w : World) (one0 one1 : Int)   : Fun w 890 226 [eTup [one0, one1]] (vTup [0 - one1, 0 - one0]) := by
  · refine' fun_of ["one"] (ret_own rfl) ?hlim ?ho ?hcd ?hb ?hl ?_ ?c1 ?c2 ?c3 ?c4 rfl ?how
    (case hlim => decide)
    (case ho => k_is)
    (case hcd => k_is)
    (case hb => exact fun s => zip1 fun _ => BindsTo.of_eq rfl)
    (case hl => decide)
    (case c1 => exact rfl)
    (case c2 => exact rfl)
    (case c3 => exact rfl)
    (case c4 => decide)
    (case how => exact forall_cons rfl (no_mem))
    exact fun c O => (Ex.ret (Ev.tuple (ns := [_, _]) (Evs.cons (Ev.sub Ev.cint (Ev.item 1 (Ev.loc rfl rfl) (fun _ _ x => x) rfl)) (Evs.cons (Ev.sub Ev.cint (Ev.item 0 (Ev.loc rfl rfl) (fun _ _ x => x) rfl)) Evs.nil))))

theorem f_widened (w : World) (one0 one1 : Int) (by_ : Int)   : Fun w 890 259 [eTup [one0, one1], vInt by_] (vTup [one0 - by_, one1 + by_]) := by
  · refine' fun_of ["one", "by"] (ret_own rfl) ?hlim ?ho ?hcd ?hb ?hl ?_ ?c1 ?c2 ?c3 ?c4 rfl ?how
    (case hlim => decide)
    (case ho => k_is)
    (case hcd => k_is)
    (case hb => exact fun s => zip2 fun _ _ => BindsTo.of_eq rfl)
    (case hl => decide)
    (case c1 => exact rfl)
    (case c2 => exact rfl)
    (case c3 => exact rfl)
    (case c4 => decide)
    (case how => exact forall_cons rfl (forall_cons rfl (no_mem)))
    exact fun c O => (Ex.ret (Ev.tuple (ns := [_, _]) (Evs.cons (Ev.sub (Ev.item 0 (Ev.loc rfl rfl) (fun _ _ x => x) rfl) (Ev.loc rfl rfl)) (Evs.cons (Ev.add (Ev.item 1 (Ev.loc rfl rfl) (fun _ _ x => x) rfl) (Ev.loc rfl rfl)) Evs.nil))))

theorem f_sign_of_whole (w : World) (number : Int)   : Fun w 890 107 [vInt number] (vInt (sgn number)) := by
  · refine' fun_of ["number"] (ret_self fun _ _ _ x => x) ?hlim ?ho ?hcd ?hb ?hl ?_ ?c1 ?c2 ?c3 ?c4 rfl ?how
    (case hlim => decide)
    (case ho => k_is)
    (case hcd => k_is)
    (case hb => exact fun s => zip1 fun _ => BindsTo.of_eq rfl)
    (case hl => decide)
    (case c1 => exact rfl)
    (case c2 => exact rfl)
    (case c3 => exact rfl)
    (case c4 => decide)
    (case how => exact forall_cons rfl (no_mem))
    exact fun c O => (Ex.ret (Ev.subb (Ev.cmp (cmp_gt _ _) (Ev.loc rfl rfl) Ev.cint) (Ev.cmp (cmp_lt _ _) (Ev.loc rfl rfl) Ev.cint)))

theorem f_zeros_below (w : World) (number : Int)   : Fun w 890 114 [vInt number] (vInt (zb number)) := by
  · refine' fun_of ["number"] (ret_self fun _ _ _ x => x) ?hlim ?ho ?hcd ?hb ?hl ?_ ?c1 ?c2 ?c3 ?c4 rfl ?how
    (case hlim => decide)
    (case ho => k_is)
    (case hcd => k_is)
    (case hb => exact fun s => zip1 fun _ => BindsTo.of_eq rfl)
    (case hl => decide)
    (case c1 => exact rfl)
    (case c2 => exact rfl)
    (case c3 => exact rfl)
    (case c4 => decide)
    (case how => exact forall_cons rfl (no_mem))
    exact fun c O => (Ex.ret (Ev.sub (Ev.bits (Ev.band (Ev.loc rfl rfl) (Ev.sub Ev.cint (Ev.loc rfl rfl)))) Ev.cint))

theorem f_lean (w : World) (mantissa : Int) (exponent : Int) {a b : Int} (hp : leanF mantissa exponent = some (a, b)) : Fun w 880 121 [vInt mantissa, vInt exponent] (vReal (a) (b)) := by
  unfold leanF at hp
  (repeat' split at hp)
  all_goals first | (cases hp; done) | (simp only [Option.some.injEq, Prod.mk.injEq] at hp; obtain ⟨rfl, rfl⟩ := hp) | skip
  · refine' fun_of ["mantissa", "exponent"] (ret_own rfl) ?hlim ?ho ?hcd ?hb ?hl ?_ ?c1 ?c2 ?c3 ?c4 rfl ?how
    (case hlim => decide)
    (case ho => k_is)
    (case hcd => k_is)
    (case hb => exact fun s => zip2 fun _ _ => BindsTo.of_eq rfl)
    (case hl => decide)
    (case c1 => exact rfl)
    (case c2 => exact rfl)
    (case c3 => exact rfl)
    (case c4 => decide)
    (case how => exact forall_cons rfl (forall_cons rfl (no_mem)))
    exact fun c O => (Ex.ifr (Tr.cmp (cmp_eq _ _) (Ev.loc rfl rfl) Ev.cint (by first | rfl | exact decide_eq_true (by walk_at "v s") | exact decide_eq_false (by walk_at "v s") | exact beq_iff_eq.mpr (by walk_at "v s") | exact beq_false_of_ne (by walk_at "v s") | exact bne_iff_ne.mpr (by walk_at "v s") | exact bne_eq_false_iff_eq.mpr (by walk_at "v s") | assumption)) (Ex.ret (Ev.call O (Evs.cons Ev.cint (Evs.cons Ev.cint Evs.nil)) (f_Real _ _ _) (by k_is) (by k_is) (Nat.le_of_ble_eq_true rfl) rfl)))
  · refine' fun_of ["mantissa", "exponent"] (ret_own rfl) ?hlim ?ho ?hcd ?hb ?hl ?_ ?c1 ?c2 ?c3 ?c4 rfl ?how
    (case hlim => decide)
    (case ho => k_is)
    (case hcd => k_is)
    (case hb => exact fun s => zip2 fun _ _ => BindsTo.of_eq rfl)
    (case hl => decide)
    (case c1 => exact rfl)
    (case c2 => exact rfl)
    (case c3 => exact rfl)
    (case c4 => decide)
    (case how => exact forall_cons rfl (forall_cons rfl (no_mem)))
    exact fun c O => (Ex.ifp (Tr.cmp (cmp_eq _ _) (Ev.loc rfl rfl) Ev.cint (by first | rfl | exact decide_eq_true (by walk_at "v s") | exact decide_eq_false (by walk_at "v s") | exact beq_iff_eq.mpr (by walk_at "v s") | exact beq_false_of_ne (by walk_at "v s") | exact bne_iff_ne.mpr (by walk_at "v s") | exact bne_eq_false_iff_eq.mpr (by walk_at "v s") | assumption)) (Ex.swap2 O (Ev.call O (Evs.cons (Ev.loc rfl rfl) Evs.nil) (f_zeros_below _ _) (by k_is) (by k_is) (Nat.le_of_ble_eq_true rfl) rfl) (Ev.add (Ev.call O (Evs.cons (Ev.loc rfl rfl) Evs.nil) (f_size_of _ _) (by k_is) (by k_is) (Nat.le_of_ble_eq_true rfl) rfl) (Ev.loc rfl rfl)) (Sx.loc rfl) (Sx.loc rfl) (Ex.ifp (Tr.cmp (cmp_gt _ _) (Ev.bcall O (Evs.cons (Ev.loc rfl rfl) Evs.nil) b_abs (by boot_by_name) (by k_is) rfl) (Ev.gint O (by k_is) rfl) (by first | rfl | exact decide_eq_true (by walk_at "v s") | exact decide_eq_false (by walk_at "v s") | exact beq_iff_eq.mpr (by walk_at "v s") | exact beq_false_of_ne (by walk_at "v s") | exact bne_iff_ne.mpr (by walk_at "v s") | exact bne_eq_false_iff_eq.mpr (by walk_at "v s") | assumption)) (Ex.ret (Ev.call O (Evs.cons (Ev.shr (Ev.loc rfl rfl) (Ev.loc rfl rfl) (by walk_at "v s")) (Evs.cons (Ev.add (Ev.loc rfl rfl) (Ev.loc rfl rfl)) Evs.nil)) (f_Real _ _ _) (by k_is) (by k_is) (Nat.le_of_ble_eq_true rfl) rfl)))))

theorem f_nearest_shift (w : World) (number : Int) (gone : Int)  (h1 : ¬ gone ≤ 0) (h2 : shlOk 1 gone) : Fun w 890 128 [vInt number, vInt gone] (vInt (nearestF number gone)) := by
  obtain ⟨q1, q2, q3⟩ := h2
  unfold nearestF
  (repeat' split)
  · refine' fun_of ["number", "gone"] (ret_self fun _ _ _ x => x) ?hlim ?ho ?hcd ?hb ?hl ?_ ?c1 ?c2 ?c3 ?c4 rfl ?how
    (case hlim => decide)
    (case ho => k_is)
    (case hcd => k_is)
    (case hb => exact fun s => zip2 fun _ _ => BindsTo.of_eq rfl)
    (case hl => decide)
    (case c1 => exact rfl)
    (case c2 => exact rfl)
    (case c3 => exact rfl)
    (case c4 => decide)
    (case how => exact forall_cons rfl (forall_cons rfl (no_mem)))
    exact fun c O => (Ex.swap3 O (Ev.shr (Ev.loc rfl rfl) (Ev.loc rfl rfl) (by walk_at "v s")) (Ev.band (Ev.loc rfl rfl) (Ev.sub (Ev.shl Ev.cint (Ev.loc rfl rfl) (by walk_at "v s")) Ev.cint)) (Ev.shl Ev.cint (Ev.sub (Ev.loc rfl rfl) Ev.cint) (by walk_at "v s")) (Sx.loc rfl) (Sx.loc rfl) (Sx.loc rfl) (Ex.ifr (Tr.many (Trs.ort (Tr.cmp (cmp_gt _ _) (Ev.loc rfl rfl) (Ev.loc rfl rfl) (by first | rfl | exact decide_eq_true (by walk_at "v s") | exact decide_eq_false (by walk_at "v s") | exact beq_iff_eq.mpr (by walk_at "v s") | exact beq_false_of_ne (by walk_at "v s") | exact bne_iff_ne.mpr (by walk_at "v s") | exact bne_eq_false_iff_eq.mpr (by walk_at "v s") | assumption)))) (Ex.ret (Ev.add (Ev.loc rfl rfl) Ev.cint))))
  · refine' fun_of ["number", "gone"] (ret_self fun _ _ _ x => x) ?hlim ?ho ?hcd ?hb ?hl ?_ ?c1 ?c2 ?c3 ?c4 rfl ?how
    (case hlim => decide)
    (case ho => k_is)
    (case hcd => k_is)
    (case hb => exact fun s => zip2 fun _ _ => BindsTo.of_eq rfl)
    (case hl => decide)
    (case c1 => exact rfl)
    (case c2 => exact rfl)
    (case c3 => exact rfl)
    (case c4 => decide)
    (case how => exact forall_cons rfl (forall_cons rfl (no_mem)))
    exact fun c O => (Ex.swap3 O (Ev.shr (Ev.loc rfl rfl) (Ev.loc rfl rfl) (by walk_at "v s")) (Ev.band (Ev.loc rfl rfl) (Ev.sub (Ev.shl Ev.cint (Ev.loc rfl rfl) (by walk_at "v s")) Ev.cint)) (Ev.shl Ev.cint (Ev.sub (Ev.loc rfl rfl) Ev.cint) (by walk_at "v s")) (Sx.loc rfl) (Sx.loc rfl) (Sx.loc rfl) (Ex.ifr (Tr.many (Trs.orf (Tr.cmp (cmp_gt _ _) (Ev.loc rfl rfl) (Ev.loc rfl rfl) (by first | rfl | exact decide_eq_true (by walk_at "v s") | exact decide_eq_false (by walk_at "v s") | exact beq_iff_eq.mpr (by walk_at "v s") | exact beq_false_of_ne (by walk_at "v s") | exact bne_iff_ne.mpr (by walk_at "v s") | exact bne_eq_false_iff_eq.mpr (by walk_at "v s") | assumption)) (Trs.ort (Tr.many (Trs.andt (Tr.cmp (cmp_eq _ _) (Ev.loc rfl rfl) (Ev.loc rfl rfl) (by first | rfl | exact decide_eq_true (by walk_at "v s") | exact decide_eq_false (by walk_at "v s") | exact beq_iff_eq.mpr (by walk_at "v s") | exact beq_false_of_ne (by walk_at "v s") | exact bne_iff_ne.mpr (by walk_at "v s") | exact bne_eq_false_iff_eq.mpr (by walk_at "v s") | assumption)) (Trs.andt (Tr.cmp (cmp_eq _ _) (Ev.band (Ev.loc rfl rfl) Ev.cint) Ev.cint (by first | rfl | exact decide_eq_true (by walk_at "v s") | exact decide_eq_false (by walk_at "v s") | exact beq_iff_eq.mpr (by walk_at "v s") | exact beq_false_of_ne (by walk_at "v s") | exact bne_iff_ne.mpr (by walk_at "v s") | exact bne_eq_false_iff_eq.mpr (by walk_at "v s") | assumption)) Trs.and0)))))) (Ex.ret (Ev.add (Ev.loc rfl rfl) Ev.cint))))
  · refine' fun_of ["number", "gone"] (ret_self fun _ _ _ x => x) ?hlim ?ho ?hcd ?hb ?hl ?_ ?c1 ?c2 ?c3 ?c4 rfl ?how
    (case hlim => decide)
    (case ho => k_is)
    (case hcd => k_is)
    (case hb => exact fun s => zip2 fun _ _ => BindsTo.of_eq rfl)
    (case hl => decide)
    (case c1 => exact rfl)
    (case c2 => exact rfl)
    (case c3 => exact rfl)
    (case c4 => decide)
    (case how => exact forall_cons rfl (forall_cons rfl (no_mem)))
    exact fun c O => (Ex.swap3 O (Ev.shr (Ev.loc rfl rfl) (Ev.loc rfl rfl) (by walk_at "v s")) (Ev.band (Ev.loc rfl rfl) (Ev.sub (Ev.shl Ev.cint (Ev.loc rfl rfl) (by walk_at "v s")) Ev.cint)) (Ev.shl Ev.cint (Ev.sub (Ev.loc rfl rfl) Ev.cint) (by walk_at "v s")) (Sx.loc rfl) (Sx.loc rfl) (Sx.loc rfl) (Ex.ifp (Tr.many (Trs.orf (Tr.cmp (cmp_gt _ _) (Ev.loc rfl rfl) (Ev.loc rfl rfl) (by first | rfl | exact decide_eq_true (by walk_at "v s") | exact decide_eq_false (by walk_at "v s") | exact beq_iff_eq.mpr (by walk_at "v s") | exact beq_false_of_ne (by walk_at "v s") | exact bne_iff_ne.mpr (by walk_at "v s") | exact bne_eq_false_iff_eq.mpr (by walk_at "v s") | assumption)) (Trs.orf (Tr.many (Trs.andt (Tr.cmp (cmp_eq _ _) (Ev.loc rfl rfl) (Ev.loc rfl rfl) (by first | rfl | exact decide_eq_true (by walk_at "v s") | exact decide_eq_false (by walk_at "v s") | exact beq_iff_eq.mpr (by walk_at "v s") | exact beq_false_of_ne (by walk_at "v s") | exact bne_iff_ne.mpr (by walk_at "v s") | exact bne_eq_false_iff_eq.mpr (by walk_at "v s") | assumption)) (Trs.andf (Tr.cmp (cmp_eq _ _) (Ev.band (Ev.loc rfl rfl) Ev.cint) Ev.cint (by first | rfl | exact decide_eq_true (by walk_at "v s") | exact decide_eq_false (by walk_at "v s") | exact beq_iff_eq.mpr (by walk_at "v s") | exact beq_false_of_ne (by walk_at "v s") | exact bne_iff_ne.mpr (by walk_at "v s") | exact bne_eq_false_iff_eq.mpr (by walk_at "v s") | assumption))))) Trs.or0))) (Ex.ret (Ev.loc rfl rfl))))
  · refine' fun_of ["number", "gone"] (ret_self fun _ _ _ x => x) ?hlim ?ho ?hcd ?hb ?hl ?_ ?c1 ?c2 ?c3 ?c4 rfl ?how
    (case hlim => decide)
    (case ho => k_is)
    (case hcd => k_is)
    (case hb => exact fun s => zip2 fun _ _ => BindsTo.of_eq rfl)
    (case hl => decide)
    (case c1 => exact rfl)
    (case c2 => exact rfl)
    (case c3 => exact rfl)
    (case c4 => decide)
    (case how => exact forall_cons rfl (forall_cons rfl (no_mem)))
    exact fun c O => (Ex.swap3 O (Ev.shr (Ev.loc rfl rfl) (Ev.loc rfl rfl) (by walk_at "v s")) (Ev.band (Ev.loc rfl rfl) (Ev.sub (Ev.shl Ev.cint (Ev.loc rfl rfl) (by walk_at "v s")) Ev.cint)) (Ev.shl Ev.cint (Ev.sub (Ev.loc rfl rfl) Ev.cint) (by walk_at "v s")) (Sx.loc rfl) (Sx.loc rfl) (Sx.loc rfl) (Ex.ifp (Tr.many (Trs.orf (Tr.cmp (cmp_gt _ _) (Ev.loc rfl rfl) (Ev.loc rfl rfl) (by first | rfl | exact decide_eq_true (by walk_at "v s") | exact decide_eq_false (by walk_at "v s") | exact beq_iff_eq.mpr (by walk_at "v s") | exact beq_false_of_ne (by walk_at "v s") | exact bne_iff_ne.mpr (by walk_at "v s") | exact bne_eq_false_iff_eq.mpr (by walk_at "v s") | assumption)) (Trs.orf (Tr.many (Trs.andf (Tr.cmp (cmp_eq _ _) (Ev.loc rfl rfl) (Ev.loc rfl rfl) (by first | rfl | exact decide_eq_true (by walk_at "v s") | exact decide_eq_false (by walk_at "v s") | exact beq_iff_eq.mpr (by walk_at "v s") | exact beq_false_of_ne (by walk_at "v s") | exact bne_iff_ne.mpr (by walk_at "v s") | exact bne_eq_false_iff_eq.mpr (by walk_at "v s") | assumption)))) Trs.or0))) (Ex.ret (Ev.loc rfl rfl))))

theorem f_shifted_round (w : World) (precision : Int) (mantissa : Int) (exponent : Int) {a b : Int} (hp : shroundF precision mantissa exponent = some (a, b)) : Fun w 870 135 [vInt precision, vInt mantissa, vInt exponent] (vReal (a) (b)) := by
  unfold shroundF at hp
  (repeat' split at hp)
  all_goals first | (cases hp; done) | (simp only [Option.some.injEq, Prod.mk.injEq] at hp; obtain ⟨rfl, rfl⟩ := hp) | skip
  · refine' fun_of ["precision", "mantissa", "exponent"] (ret_own rfl) ?hlim ?ho ?hcd ?hb ?hl ?_ ?c1 ?c2 ?c3 ?c4 rfl ?how
    (case hlim => decide)
    (case ho => k_is)
    (case hcd => k_is)
    (case hb => exact fun s => zip3 fun _ _ _ => BindsTo.of_eq rfl)
    (case hl => decide)
    (case c1 => exact rfl)
    (case c2 => exact rfl)
    (case c3 => exact rfl)
    (case c4 => decide)
    (case how => exact forall_cons rfl (forall_cons rfl (forall_cons rfl (no_mem))))
    exact fun c O => (Ex.put (Ev.sub (Ev.call O (Evs.cons (Ev.loc rfl rfl) Evs.nil) (f_size_of _ _) (by k_is) (by k_is) (Nat.le_of_ble_eq_true rfl) rfl) (Ev.loc rfl rfl)) (Sx.loc rfl) (Ex.ifr (Tr.cmp (cmp_le _ _) (Ev.loc rfl rfl) Ev.cint (by first | rfl | exact decide_eq_true (by walk_at "v s") | exact decide_eq_false (by walk_at "v s") | exact beq_iff_eq.mpr (by walk_at "v s") | exact beq_false_of_ne (by walk_at "v s") | exact bne_iff_ne.mpr (by walk_at "v s") | exact bne_eq_false_iff_eq.mpr (by walk_at "v s") | assumption)) (Ex.ret (Ev.call O (Evs.cons (Ev.loc rfl rfl) (Evs.cons (Ev.loc rfl rfl) Evs.nil)) (f_lean _ _ _ (by walk_at "v s")) (by k_is) (by k_is) (Nat.le_of_ble_eq_true rfl) rfl))))
  · refine' fun_of ["precision", "mantissa", "exponent"] (ret_own rfl) ?hlim ?ho ?hcd ?hb ?hl ?_ ?c1 ?c2 ?c3 ?c4 rfl ?how
    (case hlim => decide)
    (case ho => k_is)
    (case hcd => k_is)
    (case hb => exact fun s => zip3 fun _ _ _ => BindsTo.of_eq rfl)
    (case hl => decide)
    (case c1 => exact rfl)
    (case c2 => exact rfl)
    (case c3 => exact rfl)
    (case c4 => decide)
    (case how => exact forall_cons rfl (forall_cons rfl (forall_cons rfl (no_mem))))
    exact fun c O => (Ex.put (Ev.sub (Ev.call O (Evs.cons (Ev.loc rfl rfl) Evs.nil) (f_size_of _ _) (by k_is) (by k_is) (Nat.le_of_ble_eq_true rfl) rfl) (Ev.loc rfl rfl)) (Sx.loc rfl) (Ex.ifp (Tr.cmp (cmp_le _ _) (Ev.loc rfl rfl) Ev.cint (by first | rfl | exact decide_eq_true (by walk_at "v s") | exact decide_eq_false (by walk_at "v s") | exact beq_iff_eq.mpr (by walk_at "v s") | exact beq_false_of_ne (by walk_at "v s") | exact bne_iff_ne.mpr (by walk_at "v s") | exact bne_eq_false_iff_eq.mpr (by walk_at "v s") | assumption)) (Ex.ret (Ev.call O (Evs.cons (Ev.mul (Ev.call O (Evs.cons (Ev.loc rfl rfl) Evs.nil) (f_sign_of_whole _ _) (by k_is) (by k_is) (Nat.le_of_ble_eq_true rfl) rfl) (Ev.call O (Evs.cons (Ev.bcall O (Evs.cons (Ev.loc rfl rfl) Evs.nil) b_abs (by boot_by_name) (by k_is) rfl) (Evs.cons (Ev.loc rfl rfl) Evs.nil)) (f_nearest_shift _ _ _ (by walk_at "v s") (by walk_at "v s")) (by k_is) (by k_is) (Nat.le_of_ble_eq_true rfl) rfl) (by walk_at "v m")) (Evs.cons (Ev.add (Ev.loc rfl rfl) (Ev.loc rfl rfl)) Evs.nil)) (f_lean _ _ _ (by walk_at "v s")) (by k_is) (by k_is) (Nat.le_of_ble_eq_true rfl) rfl))))

theorem f_with_sticky (w : World) (number : Int) (is_more : Bool)   : Fun w 890 142 [vInt number, vBool is_more] (vInt (stickyF number is_more)) := by
  cases is_more
  · refine' fun_of ["number", "is_more"] (ret_self fun _ _ _ x => x) ?hlim ?ho ?hcd ?hb ?hl ?_ ?c1 ?c2 ?c3 ?c4 rfl ?how
    (case hlim => decide)
    (case ho => k_is)
    (case hcd => k_is)
    (case hb => exact fun s => zip2 fun _ _ => BindsTo.of_eq rfl)
    (case hl => decide)
    (case c1 => exact rfl)
    (case c2 => exact rfl)
    (case c3 => exact rfl)
    (case c4 => decide)
    (case how => exact forall_cons rfl (forall_cons rfl (no_mem)))
    exact fun c O => (Ex.ret (Ev.add (Ev.mul Ev.cint (Ev.loc rfl rfl) (by walk_at "v m")) (Ev.iff (Tr.plain (Ev.loc rfl rfl) (by first | rfl | exact decide_eq_true (by walk_at "v s") | exact decide_eq_false (by walk_at "v s") | exact beq_iff_eq.mpr (by walk_at "v s") | exact beq_false_of_ne (by walk_at "v s") | exact bne_iff_ne.mpr (by walk_at "v s") | exact bne_eq_false_iff_eq.mpr (by walk_at "v s") | assumption)) Ev.cint)))
  · refine' fun_of ["number", "is_more"] (ret_self fun _ _ _ x => x) ?hlim ?ho ?hcd ?hb ?hl ?_ ?c1 ?c2 ?c3 ?c4 rfl ?how
    (case hlim => decide)
    (case ho => k_is)
    (case hcd => k_is)
    (case hb => exact fun s => zip2 fun _ _ => BindsTo.of_eq rfl)
    (case hl => decide)
    (case c1 => exact rfl)
    (case c2 => exact rfl)
    (case c3 => exact rfl)
    (case c4 => decide)
    (case how => exact forall_cons rfl (forall_cons rfl (no_mem)))
    exact fun c O => (Ex.ret (Ev.add (Ev.mul Ev.cint (Ev.loc rfl rfl) (by walk_at "v m")) (Ev.ift (Tr.plain (Ev.loc rfl rfl) (by first | rfl | exact decide_eq_true (by walk_at "v s") | exact decide_eq_false (by walk_at "v s") | exact beq_iff_eq.mpr (by walk_at "v s") | exact beq_false_of_ne (by walk_at "v s") | exact bne_iff_ne.mpr (by walk_at "v s") | exact bne_eq_false_iff_eq.mpr (by walk_at "v s") | assumption)) Ev.cint)))

theorem f_rounded (w : World) (precision : Int) (top : Int) (bottom : Int) {a b : Int} (hp : roundF precision top bottom = some (a, b)) : Fun w 860 149 [vInt precision, vInt top, vInt bottom] (vReal (a) (b)) := by
  unfold roundF at hp
  (repeat' split at hp)
  all_goals first | (cases hp; done) | (simp only [Option.some.injEq, Prod.mk.injEq] at hp; obtain ⟨rfl, rfl⟩ := hp) | skip
  · refine' fun_of ["precision", "top", "bottom"] (ret_own rfl) ?hlim ?ho ?hcd ?hb ?hl ?_ ?c1 ?c2 ?c3 ?c4 rfl ?how
    (case hlim => decide)
    (case ho => k_is)
    (case hcd => k_is)
    (case hb => exact fun s => zip3 fun _ _ _ => BindsTo.of_eq rfl)
    (case hl => decide)
    (case c1 => exact rfl)
    (case c2 => exact rfl)
    (case c3 => exact rfl)
    (case c4 => decide)
    (case how => exact forall_cons rfl (forall_cons rfl (forall_cons rfl (no_mem))))
    exact fun c O => (Ex.ifr (Tr.cmp (cmp_eq _ _) (Ev.loc rfl rfl) Ev.cint (by first | rfl | exact decide_eq_true (by walk_at "v s") | exact decide_eq_false (by walk_at "v s") | exact beq_iff_eq.mpr (by walk_at "v s") | exact beq_false_of_ne (by walk_at "v s") | exact bne_iff_ne.mpr (by walk_at "v s") | exact bne_eq_false_iff_eq.mpr (by walk_at "v s") | assumption)) (Ex.ret (Ev.call O (Evs.cons Ev.cint (Evs.cons Ev.cint Evs.nil)) (f_Real _ _ _) (by k_is) (by k_is) (Nat.le_of_ble_eq_true rfl) rfl)))
  · refine' fun_of ["precision", "top", "bottom"] (ret_own rfl) ?hlim ?ho ?hcd ?hb ?hl ?_ ?c1 ?c2 ?c3 ?c4 rfl ?how
    (case hlim => decide)
    (case ho => k_is)
    (case hcd => k_is)
    (case hb => exact fun s => zip3 fun _ _ _ => BindsTo.of_eq rfl)
    (case hl => decide)
    (case c1 => exact rfl)
    (case c2 => exact rfl)
    (case c3 => exact rfl)
    (case c4 => decide)
    (case how => exact forall_cons rfl (forall_cons rfl (forall_cons rfl (no_mem))))
    exact fun c O => (Ex.ifp (Tr.cmp (cmp_eq _ _) (Ev.loc rfl rfl) Ev.cint (by first | rfl | exact decide_eq_true (by walk_at "v s") | exact decide_eq_false (by walk_at "v s") | exact beq_iff_eq.mpr (by walk_at "v s") | exact beq_false_of_ne (by walk_at "v s") | exact bne_iff_ne.mpr (by walk_at "v s") | exact bne_eq_false_iff_eq.mpr (by walk_at "v s") | assumption)) (Ex.put (Ev.sub (Ev.add (Ev.add (Ev.loc rfl rfl) Ev.cint) (Ev.call O (Evs.cons (Ev.loc rfl rfl) Evs.nil) (f_size_of _ _) (by k_is) (by k_is) (Nat.le_of_ble_eq_true rfl) rfl)) (Ev.call O (Evs.cons (Ev.loc rfl rfl) Evs.nil) (f_size_of _ _) (by k_is) (by k_is) (Nat.le_of_ble_eq_true rfl) rfl)) (Sx.loc rfl) (Ex.if1 (Tr.cmp (cmp_ge _ _) (Ev.loc rfl rfl) Ev.cint (by first | rfl | exact decide_eq_true (by walk_at "v s") | exact decide_eq_false (by walk_at "v s") | exact beq_iff_eq.mpr (by walk_at "v s") | exact beq_false_of_ne (by walk_at "v s") | exact bne_iff_ne.mpr (by walk_at "v s") | exact bne_eq_false_iff_eq.mpr (by walk_at "v s") | assumption)) (Ex.unp2 O (Ev.bcall O (Evs.cons (Ev.shl (Ev.bcall O (Evs.cons (Ev.loc rfl rfl) Evs.nil) b_abs (by boot_by_name) (by k_is) rfl) (Ev.loc rfl rfl) (by walk_at "v s")) (Evs.cons (Ev.loc rfl rfl) Evs.nil)) (b_divmod (by walk_at "v s")) (by boot_by_name) (by k_is) rfl) (fun _ _ x => x) (Sx.loc rfl) (Sx.loc rfl) Ex.nil) (Ex.ret (Ev.call O (Evs.cons (Ev.loc rfl rfl) (Evs.cons (Ev.mul (Ev.call O (Evs.cons (Ev.loc rfl rfl) Evs.nil) (f_sign_of_whole _ _) (by k_is) (by k_is) (Nat.le_of_ble_eq_true rfl) rfl) (Ev.call O (Evs.cons (Ev.loc rfl rfl) (Evs.cons (Ev.cmp (cmp_ne _ _) (Ev.loc rfl rfl) Ev.cint) Evs.nil)) (f_with_sticky _ _ _) (by k_is) (by k_is) (Nat.le_of_ble_eq_true rfl) rfl) (by walk_at "v m")) (Evs.cons (Ev.sub (Ev.sub Ev.cint (Ev.loc rfl rfl)) Ev.cint) Evs.nil))) (f_shifted_round _ _ _ _ (by walk_at "v s")) (by k_is) (by k_is) (Nat.le_of_ble_eq_true rfl) rfl)))))
  · refine' fun_of ["precision", "top", "bottom"] (ret_own rfl) ?hlim ?ho ?hcd ?hb ?hl ?_ ?c1 ?c2 ?c3 ?c4 rfl ?how
    (case hlim => decide)
    (case ho => k_is)
    (case hcd => k_is)
    (case hb => exact fun s => zip3 fun _ _ _ => BindsTo.of_eq rfl)
    (case hl => decide)
    (case c1 => exact rfl)
    (case c2 => exact rfl)
    (case c3 => exact rfl)
    (case c4 => decide)
    (case how => exact forall_cons rfl (forall_cons rfl (forall_cons rfl (no_mem))))
    exact fun c O => (Ex.ifp (Tr.cmp (cmp_eq _ _) (Ev.loc rfl rfl) Ev.cint (by first | rfl | exact decide_eq_true (by walk_at "v s") | exact decide_eq_false (by walk_at "v s") | exact beq_iff_eq.mpr (by walk_at "v s") | exact beq_false_of_ne (by walk_at "v s") | exact bne_iff_ne.mpr (by walk_at "v s") | exact bne_eq_false_iff_eq.mpr (by walk_at "v s") | assumption)) (Ex.put (Ev.sub (Ev.add (Ev.add (Ev.loc rfl rfl) Ev.cint) (Ev.call O (Evs.cons (Ev.loc rfl rfl) Evs.nil) (f_size_of _ _) (by k_is) (by k_is) (Nat.le_of_ble_eq_true rfl) rfl)) (Ev.call O (Evs.cons (Ev.loc rfl rfl) Evs.nil) (f_size_of _ _) (by k_is) (by k_is) (Nat.le_of_ble_eq_true rfl) rfl)) (Sx.loc rfl) (Ex.if0 (Tr.cmp (cmp_ge _ _) (Ev.loc rfl rfl) Ev.cint (by first | rfl | exact decide_eq_true (by walk_at "v s") | exact decide_eq_false (by walk_at "v s") | exact beq_iff_eq.mpr (by walk_at "v s") | exact beq_false_of_ne (by walk_at "v s") | exact bne_iff_ne.mpr (by walk_at "v s") | exact bne_eq_false_iff_eq.mpr (by walk_at "v s") | assumption)) (Ex.unp2 O (Ev.bcall O (Evs.cons (Ev.bcall O (Evs.cons (Ev.loc rfl rfl) Evs.nil) b_abs (by boot_by_name) (by k_is) rfl) (Evs.cons (Ev.shl (Ev.loc rfl rfl) (Ev.sub Ev.cint (Ev.loc rfl rfl)) (by walk_at "v s")) Evs.nil)) (b_divmod (by walk_at "v s")) (by boot_by_name) (by k_is) rfl) (fun _ _ x => x) (Sx.loc rfl) (Sx.loc rfl) Ex.nil) (Ex.ret (Ev.call O (Evs.cons (Ev.loc rfl rfl) (Evs.cons (Ev.mul (Ev.call O (Evs.cons (Ev.loc rfl rfl) Evs.nil) (f_sign_of_whole _ _) (by k_is) (by k_is) (Nat.le_of_ble_eq_true rfl) rfl) (Ev.call O (Evs.cons (Ev.loc rfl rfl) (Evs.cons (Ev.cmp (cmp_ne _ _) (Ev.loc rfl rfl) Ev.cint) Evs.nil)) (f_with_sticky _ _ _) (by k_is) (by k_is) (Nat.le_of_ble_eq_true rfl) rfl) (by walk_at "v m")) (Evs.cons (Ev.sub (Ev.sub Ev.cint (Ev.loc rfl rfl)) Ev.cint) Evs.nil))) (f_shifted_round _ _ _ _ (by walk_at "v s")) (by k_is) (by k_is) (Nat.le_of_ble_eq_true rfl) rfl)))))
end Mine
end
noncomputable section
open PySem PySem.W PyProof.Rows PySem.Calls
set_option Elab.async false
set_option maxRecDepth 100000
set_option maxHeartbeats 4000000
set_option linter.all false
set_option exponentiation.threshold 5000
namespace Mine
theorem filledW5 : PySem.Challenge.rw_pc0352_01 = PySem.Challenge.rw_pc0352_01 ∧ hd.heap_39 = hd.heap_39 := by
  k_fill
  exact ⟨rfl, rfl⟩
theorem sign_flip {o s : Int} (ho : o = 1 ∨ o = -1) (h : s = -1) : o * s = 1 ∨ o * s = -1 := by
  rcases ho with rfl | rfl <;> subst h <;> decide
theorem f_place_of (w : World) (realm reale : Int)   : Fun w 880 156 [eReal realm reale] (vInt (sz realm + reale)) := by
  · refine' fun_of ["real"] (ret_self fun _ _ _ x => x) ?hlim ?ho ?hcd ?hb ?hl ?_ ?c1 ?c2 ?c3 ?c4 rfl ?how
    (case hlim => decide)
    (case ho => k_is)
    (case hcd => k_is)
    (case hb => exact fun s => zip1 fun _ => BindsTo.of_eq rfl)
    (case hl => decide)
    (case c1 => exact rfl)
    (case c2 => exact rfl)
    (case c3 => exact rfl)
    (case c4 => decide)
    (case how => exact forall_cons rfl (no_mem))
    exact fun c O => (Ex.ret (Ev.add (Ev.call O (Evs.cons (Ev.man O (Ev.loc rfl rfl) (fun _ _ x => x)) Evs.nil) (f_size_of _ _) (by k_is) (by k_is) (Nat.le_of_ble_eq_true rfl) rfl) (Ev.exp O (Ev.loc rfl rfl) (fun _ _ x => x))))

theorem f_sign_of (w : World) (realm reale : Int)   : Fun w 880 163 [eReal realm reale] (vInt (sgn realm)) := by
  · refine' fun_of ["real"] (ret_self fun _ _ _ x => x) ?hlim ?ho ?hcd ?hb ?hl ?_ ?c1 ?c2 ?c3 ?c4 rfl ?how
    (case hlim => decide)
    (case ho => k_is)
    (case hcd => k_is)
    (case hb => exact fun s => zip1 fun _ => BindsTo.of_eq rfl)
    (case hl => decide)
    (case c1 => exact rfl)
    (case c2 => exact rfl)
    (case c3 => exact rfl)
    (case c4 => decide)
    (case how => exact forall_cons rfl (no_mem))
    exact fun c O => (Ex.ret (Ev.call O (Evs.cons (Ev.man O (Ev.loc rfl rfl) (fun _ _ x => x)) Evs.nil) (f_sign_of_whole _ _) (by k_is) (by k_is) (Nat.le_of_ble_eq_true rfl) rfl))

theorem f_up_shift (w : World) (number : Int) (places : Int)  (h1 : 0 ≤ places) : Fun w 890 191 [vInt number, vInt places] (vInt (0 - sh (0 - number) places)) := by
  · refine' fun_of ["number", "places"] (ret_self fun _ _ _ x => x) ?hlim ?ho ?hcd ?hb ?hl ?_ ?c1 ?c2 ?c3 ?c4 rfl ?how
    (case hlim => decide)
    (case ho => k_is)
    (case hcd => k_is)
    (case hb => exact fun s => zip2 fun _ _ => BindsTo.of_eq rfl)
    (case hl => decide)
    (case c1 => exact rfl)
    (case c2 => exact rfl)
    (case c3 => exact rfl)
    (case c4 => decide)
    (case how => exact forall_cons rfl (forall_cons rfl (no_mem)))
    exact fun c O => (Ex.ret (Ev.sub Ev.cint (Ev.shr (Ev.sub Ev.cint (Ev.loc rfl rfl)) (Ev.loc rfl rfl) (by walk_at "v s"))))

theorem f_up_over (w : World) (number : Int) (bottom : Int)  (h1 : divOk bottom) : Fun w 890 198 [vInt number, vInt bottom] (vInt (0 - (0 - number).fdiv bottom)) := by
  · refine' fun_of ["number", "bottom"] (ret_self fun _ _ _ x => x) ?hlim ?ho ?hcd ?hb ?hl ?_ ?c1 ?c2 ?c3 ?c4 rfl ?how
    (case hlim => decide)
    (case ho => k_is)
    (case hcd => k_is)
    (case hb => exact fun s => zip2 fun _ _ => BindsTo.of_eq rfl)
    (case hl => decide)
    (case c1 => exact rfl)
    (case c2 => exact rfl)
    (case c3 => exact rfl)
    (case c4 => decide)
    (case how => exact forall_cons rfl (forall_cons rfl (no_mem)))
    exact fun c O => (Ex.ret (Ev.sub Ev.cint (Ev.fdiv (Ev.sub Ev.cint (Ev.loc rfl rfl)) (Ev.loc rfl rfl) (by walk_at "v s"))))

theorem f_fraction_bounds (w : World) (work : Int) (top : Int) (bottom : Int)  (h1 : shlOk top work) (h2 : divOk bottom) : Fun w 880 205 [vInt work, vInt top, vInt bottom] (vTup [(sl top work).fdiv bottom, 0 - (0 - sl top work).fdiv bottom]) := by
  · refine' fun_of ["work", "top", "bottom"] (ret_own rfl) ?hlim ?ho ?hcd ?hb ?hl ?_ ?c1 ?c2 ?c3 ?c4 rfl ?how
    (case hlim => decide)
    (case ho => k_is)
    (case hcd => k_is)
    (case hb => exact fun s => zip3 fun _ _ _ => BindsTo.of_eq rfl)
    (case hl => decide)
    (case c1 => exact rfl)
    (case c2 => exact rfl)
    (case c3 => exact rfl)
    (case c4 => decide)
    (case how => exact forall_cons rfl (forall_cons rfl (forall_cons rfl (no_mem))))
    exact fun c O => (Ex.ret (Ev.tuple (ns := [_, _]) (Evs.cons (Ev.fdiv (Ev.shl (Ev.loc rfl rfl) (Ev.loc rfl rfl) (by walk_at "v s")) (Ev.loc rfl rfl) (by walk_at "v s")) (Evs.cons (Ev.call O (Evs.cons (Ev.shl (Ev.loc rfl rfl) (Ev.loc rfl rfl) (by walk_at "v s")) (Evs.cons (Ev.loc rfl rfl) Evs.nil)) (f_up_over _ _ _ (by walk_at "v s")) (by k_is) (by k_is) (Nat.le_of_ble_eq_true rfl) rfl) Evs.nil))))

theorem f_part_of (w : World) (one0 one1 : Int) (bottom : Int)  (h2 : divOk bottom) : Fun w 880 247 [eTup [one0, one1], vInt bottom] (vTup [one0.fdiv bottom, 0 - (0 - one1).fdiv bottom]) := by
  · refine' fun_of ["one", "bottom"] (ret_own rfl) ?hlim ?ho ?hcd ?hb ?hl ?_ ?c1 ?c2 ?c3 ?c4 rfl ?how
    (case hlim => decide)
    (case ho => k_is)
    (case hcd => k_is)
    (case hb => exact fun s => zip2 fun _ _ => BindsTo.of_eq rfl)
    (case hl => decide)
    (case c1 => exact rfl)
    (case c2 => exact rfl)
    (case c3 => exact rfl)
    (case c4 => decide)
    (case how => exact forall_cons rfl (forall_cons rfl (no_mem)))
    exact fun c O => (Ex.ret (Ev.tuple (ns := [_, _]) (Evs.cons (Ev.fdiv (Ev.item 0 (Ev.loc rfl rfl) (fun _ _ x => x) rfl) (Ev.loc rfl rfl) (by walk_at "v s")) (Evs.cons (Ev.call O (Evs.cons (Ev.item 1 (Ev.loc rfl rfl) (fun _ _ x => x) rfl) (Evs.cons (Ev.loc rfl rfl) Evs.nil)) (f_up_over _ _ _ (by walk_at "v s")) (by k_is) (by k_is) (Nat.le_of_ble_eq_true rfl) rfl) Evs.nil))))

theorem f_often (w : World) (one0 one1 : Int) (times : Int)  (h1 : times.natAbs < 2 ^ 64) : Fun w 890 233 [eTup [one0, one1], vInt times] (vTup [min2 (one0 * times) (one1 * times), max2 (one0 * times) (one1 * times)]) := by
  · refine' fun_of ["one", "times"] (ret_own rfl) ?hlim ?ho ?hcd ?hb ?hl ?_ ?c1 ?c2 ?c3 ?c4 rfl ?how
    (case hlim => decide)
    (case ho => k_is)
    (case hcd => k_is)
    (case hb => exact fun s => zip2 fun _ _ => BindsTo.of_eq rfl)
    (case hl => decide)
    (case c1 => exact rfl)
    (case c2 => exact rfl)
    (case c3 => exact rfl)
    (case c4 => decide)
    (case how => exact forall_cons rfl (forall_cons rfl (no_mem)))
    exact fun c O => (Ex.put (Ev.tuple (ns := [_, _]) (Evs.cons (Ev.mul (Ev.item 0 (Ev.loc rfl rfl) (fun _ _ x => x) rfl) (Ev.loc rfl rfl) (by walk_at "v m")) (Evs.cons (Ev.mul (Ev.item 1 (Ev.loc rfl rfl) (fun _ _ x => x) rfl) (Ev.loc rfl rfl) (by walk_at "v m")) Evs.nil))) (Sx.loc rfl) (Ex.ret (Ev.tuple (ns := [_, _]) (Evs.cons (Ev.bcall O (Evs.cons (Ev.loc rfl rfl) Evs.nil) (b_min2 O) (by boot_by_name) (by k_is) rfl) (Evs.cons (Ev.bcall O (Evs.cons (Ev.loc rfl rfl) Evs.nil) (b_max2 O) (by boot_by_name) (by k_is) rfl) Evs.nil)))))

theorem f_greatest_of (w : World) (one0 one1 : Int)   : Fun w 890 266 [eTup [one0, one1]] (vInt (max2 (iabs one0) (iabs one1))) := by
  · refine' fun_of ["one"] (ret_self fun _ _ _ x => x) ?hlim ?ho ?hcd ?hb ?hl ?_ ?c1 ?c2 ?c3 ?c4 rfl ?how
    (case hlim => decide)
    (case ho => k_is)
    (case hcd => k_is)
    (case hb => exact fun s => zip1 fun _ => BindsTo.of_eq rfl)
    (case hl => decide)
    (case c1 => exact rfl)
    (case c2 => exact rfl)
    (case c3 => exact rfl)
    (case c4 => decide)
    (case how => exact forall_cons rfl (no_mem))
    exact fun c O => (Ex.ret (Ev.bcall O (Evs.cons (Ev.bcall O (Evs.cons (Ev.item 0 (Ev.loc rfl rfl) (fun _ _ x => x) rfl) Evs.nil) b_abs (by boot_by_name) (by k_is) rfl) (Evs.cons (Ev.bcall O (Evs.cons (Ev.item 1 (Ev.loc rfl rfl) (fun _ _ x => x) rfl) Evs.nil) b_abs (by boot_by_name) (by k_is) rfl) Evs.nil)) (b_maxi O) (by boot_by_name) (by k_is) rfl))

theorem f_product_of (w : World) (work : Int) (one0 one1 : Int) (other0 other1 : Int)  (h1 : 0 ≤ work) (h2 : mulOk one0 other0) (h3 : mulOk one0 other1) (h4 : mulOk one1 other0) (h5 : mulOk one1 other1) : Fun w 880 240 [vInt work, eTup [one0, one1], eTup [other0, other1]] (vTup [sh (min4 (one0 * other0) (one0 * other1) (one1 * other0) (one1 * other1)) work, 0 - sh (0 - max4 (one0 * other0) (one0 * other1) (one1 * other0) (one1 * other1)) work]) := by
  · refine' fun_of ["work", "one", "other"] (ret_own rfl) ?hlim ?ho ?hcd ?hb ?hl ?_ ?c1 ?c2 ?c3 ?c4 rfl ?how
    (case hlim => decide)
    (case ho => k_is)
    (case hcd => k_is)
    (case hb => exact fun s => zip3 fun _ _ _ => BindsTo.of_eq rfl)
    (case hl => decide)
    (case c1 => exact rfl)
    (case c2 => exact rfl)
    (case c3 => exact rfl)
    (case c4 => decide)
    (case how => exact forall_cons rfl (forall_cons rfl (forall_cons rfl (no_mem))))
    exact fun c O => (Ex.put (Ev.list (ns := [_, _, _, _]) (Evs.cons (Ev.mul (Ev.item 0 (Ev.loc rfl rfl) (fun _ _ x => x) rfl) (Ev.item 0 (Ev.loc rfl rfl) (fun _ _ x => x) rfl) (by walk_at "v m")) (Evs.cons (Ev.mul (Ev.item 0 (Ev.loc rfl rfl) (fun _ _ x => x) rfl) (Ev.item 1 (Ev.loc rfl rfl) (fun _ _ x => x) rfl) (by walk_at "v m")) (Evs.cons (Ev.mul (Ev.item 1 (Ev.loc rfl rfl) (fun _ _ x => x) rfl) (Ev.item 0 (Ev.loc rfl rfl) (fun _ _ x => x) rfl) (by walk_at "v m")) (Evs.cons (Ev.mul (Ev.item 1 (Ev.loc rfl rfl) (fun _ _ x => x) rfl) (Ev.item 1 (Ev.loc rfl rfl) (fun _ _ x => x) rfl) (by walk_at "v m")) Evs.nil))))) (Sx.loc rfl) (Ex.ret (Ev.tuple (ns := [_, _]) (Evs.cons (Ev.shr (Ev.bcall O (Evs.cons (Ev.loc rfl rfl) Evs.nil) (b_min4 O) (by boot_by_name) (by k_is) rfl) (Ev.loc rfl rfl) (by walk_at "v s")) (Evs.cons (Ev.call O (Evs.cons (Ev.bcall O (Evs.cons (Ev.loc rfl rfl) Evs.nil) (b_max4 O) (by boot_by_name) (by k_is) rfl) (Evs.cons (Ev.loc rfl rfl) Evs.nil)) (f_up_shift _ _ _ (by walk_at "v s")) (by k_is) (by k_is) (Nat.le_of_ble_eq_true rfl) rfl) Evs.nil)))))

theorem f_fraction_of (w : World) (realm reale : Int) {a b : Int} (hp : fracF realm reale = some (a, b)) : Fun w 890 273 [eReal realm reale] (vTup [a, b]) := by
  unfold fracF at hp
  (repeat' split at hp)
  all_goals first | (cases hp; done) | (simp only [Option.some.injEq, Prod.mk.injEq] at hp; obtain ⟨rfl, rfl⟩ := hp) | skip
  · refine' fun_of ["real"] (ret_own rfl) ?hlim ?ho ?hcd ?hb ?hl ?_ ?c1 ?c2 ?c3 ?c4 rfl ?how
    (case hlim => decide)
    (case ho => k_is)
    (case hcd => k_is)
    (case hb => exact fun s => zip1 fun _ => BindsTo.of_eq rfl)
    (case hl => decide)
    (case c1 => exact rfl)
    (case c2 => exact rfl)
    (case c3 => exact rfl)
    (case c4 => decide)
    (case how => exact forall_cons rfl (no_mem))
    exact fun c O => (Ex.ifr (Tr.cmp (cmp_ge _ _) (Ev.exp O (Ev.loc rfl rfl) (fun _ _ x => x)) Ev.cint (by first | rfl | exact decide_eq_true (by walk_at "v s") | exact decide_eq_false (by walk_at "v s") | exact beq_iff_eq.mpr (by walk_at "v s") | exact beq_false_of_ne (by walk_at "v s") | exact bne_iff_ne.mpr (by walk_at "v s") | exact bne_eq_false_iff_eq.mpr (by walk_at "v s") | assumption)) (Ex.ret (Ev.tuple (ns := [_, _]) (Evs.cons (Ev.shl (Ev.man O (Ev.loc rfl rfl) (fun _ _ x => x)) (Ev.exp O (Ev.loc rfl rfl) (fun _ _ x => x)) (by walk_at "v s")) (Evs.cons Ev.cint Evs.nil)))))
  · refine' fun_of ["real"] (ret_own rfl) ?hlim ?ho ?hcd ?hb ?hl ?_ ?c1 ?c2 ?c3 ?c4 rfl ?how
    (case hlim => decide)
    (case ho => k_is)
    (case hcd => k_is)
    (case hb => exact fun s => zip1 fun _ => BindsTo.of_eq rfl)
    (case hl => decide)
    (case c1 => exact rfl)
    (case c2 => exact rfl)
    (case c3 => exact rfl)
    (case c4 => decide)
    (case how => exact forall_cons rfl (no_mem))
    exact fun c O => (Ex.ifp (Tr.cmp (cmp_ge _ _) (Ev.exp O (Ev.loc rfl rfl) (fun _ _ x => x)) Ev.cint (by first | rfl | exact decide_eq_true (by walk_at "v s") | exact decide_eq_false (by walk_at "v s") | exact beq_iff_eq.mpr (by walk_at "v s") | exact beq_false_of_ne (by walk_at "v s") | exact bne_iff_ne.mpr (by walk_at "v s") | exact bne_eq_false_iff_eq.mpr (by walk_at "v s") | assumption)) (Ex.ret (Ev.tuple (ns := [_, _]) (Evs.cons (Ev.man O (Ev.loc rfl rfl) (fun _ _ x => x)) (Evs.cons (Ev.shl Ev.cint (Ev.sub Ev.cint (Ev.exp O (Ev.loc rfl rfl) (fun _ _ x => x))) (by walk_at "v s")) Evs.nil)))))

theorem f_same_real (w : World) (onem onee : Int) (otherm othere : Int)   : Fun w 890 177 [eReal onem onee, eReal otherm othere] (vBool ((onem == otherm) && (onee == othere))) := by
  by_cases q : onem = otherm
  rw [show (onem == otherm) = true from beq_iff_eq.mpr q, Bool.true_and]
  rotate_left
  rw [show (onem == otherm) = false from beq_false_of_ne q, Bool.false_and]
  rotate_left
  · refine' fun_of ["one", "other"] (ret_self fun _ _ _ x => x) ?hlim ?ho ?hcd ?hb ?hl ?_ ?c1 ?c2 ?c3 ?c4 rfl ?how
    (case hlim => decide)
    (case ho => k_is)
    (case hcd => k_is)
    (case hb => exact fun s => zip2 fun _ _ => BindsTo.of_eq rfl)
    (case hl => decide)
    (case c1 => exact rfl)
    (case c2 => exact rfl)
    (case c3 => exact rfl)
    (case c4 => decide)
    (case how => exact forall_cons rfl (forall_cons rfl (no_mem)))
    exact fun c O => (Ex.ret (Ev.andt (Ev.asB (Ev.cmp (cmp_eq _ _) (Ev.man O (Ev.loc rfl rfl) (fun _ _ x => x)) (Ev.man O (Ev.loc rfl rfl) (fun _ _ x => x))) (by first | rfl | exact decide_eq_true (by walk_at "v s") | exact decide_eq_false (by walk_at "v s") | exact beq_iff_eq.mpr (by walk_at "v s") | exact beq_false_of_ne (by walk_at "v s") | exact bne_iff_ne.mpr (by walk_at "v s") | exact bne_eq_false_iff_eq.mpr (by walk_at "v s") | assumption)) (Ev.bool1 (Ev.cmp (cmp_eq _ _) (Ev.exp O (Ev.loc rfl rfl) (fun _ _ x => x)) (Ev.exp O (Ev.loc rfl rfl) (fun _ _ x => x))))))
  · refine' fun_of ["one", "other"] (ret_self fun _ _ _ x => x) ?hlim ?ho ?hcd ?hb ?hl ?_ ?c1 ?c2 ?c3 ?c4 rfl ?how
    (case hlim => decide)
    (case ho => k_is)
    (case hcd => k_is)
    (case hb => exact fun s => zip2 fun _ _ => BindsTo.of_eq rfl)
    (case hl => decide)
    (case c1 => exact rfl)
    (case c2 => exact rfl)
    (case c3 => exact rfl)
    (case c4 => decide)
    (case how => exact forall_cons rfl (forall_cons rfl (no_mem)))
    exact fun c O => (Ex.ret (Ev.andf (Ev.asB (Ev.cmp (cmp_eq _ _) (Ev.man O (Ev.loc rfl rfl) (fun _ _ x => x)) (Ev.man O (Ev.loc rfl rfl) (fun _ _ x => x))) (by first | rfl | exact decide_eq_true (by walk_at "v s") | exact decide_eq_false (by walk_at "v s") | exact beq_iff_eq.mpr (by walk_at "v s") | exact beq_false_of_ne (by walk_at "v s") | exact bne_iff_ne.mpr (by walk_at "v s") | exact bne_eq_false_iff_eq.mpr (by walk_at "v s") | assumption))))

theorem f_negative (w : World) (realm reale : Int)   : Fun w 880 170 [eReal realm reale] (vReal (0 - realm) (reale)) := by
  · refine' fun_of ["real"] (ret_own rfl) ?hlim ?ho ?hcd ?hb ?hl ?_ ?c1 ?c2 ?c3 ?c4 rfl ?how
    (case hlim => decide)
    (case ho => k_is)
    (case hcd => k_is)
    (case hb => exact fun s => zip1 fun _ => BindsTo.of_eq rfl)
    (case hl => decide)
    (case c1 => exact rfl)
    (case c2 => exact rfl)
    (case c3 => exact rfl)
    (case c4 => decide)
    (case how => exact forall_cons rfl (no_mem))
    exact fun c O => (Ex.ret (Ev.call O (Evs.cons (Ev.sub Ev.cint (Ev.man O (Ev.loc rfl rfl) (fun _ _ x => x))) (Evs.cons (Ev.exp O (Ev.loc rfl rfl) (fun _ _ x => x)) Evs.nil)) (f_Real _ _ _) (by k_is) (by k_is) (Nat.le_of_ble_eq_true rfl) rfl))

theorem f_is_slight (w : World) (precision : Int) (realm reale : Int)   : Fun w 870 308 [vInt precision, eReal realm reale] (vBool (decide (2 * (sz realm + reale) < 0 - precision - 4))) := by
  · refine' fun_of ["precision", "real"] (ret_self fun _ _ _ x => x) ?hlim ?ho ?hcd ?hb ?hl ?_ ?c1 ?c2 ?c3 ?c4 rfl ?how
    (case hlim => decide)
    (case ho => k_is)
    (case hcd => k_is)
    (case hb => exact fun s => zip2 fun _ _ => BindsTo.of_eq rfl)
    (case hl => decide)
    (case c1 => exact rfl)
    (case c2 => exact rfl)
    (case c3 => exact rfl)
    (case c4 => decide)
    (case how => exact forall_cons rfl (forall_cons rfl (no_mem)))
    exact fun c O => (Ex.ret (Ev.cmp (cmp_lt _ _) (Ev.mul Ev.cint (Ev.call O (Evs.cons (Ev.loc rfl rfl) Evs.nil) (f_place_of _ _ _) (by k_is) (by k_is) (Nat.le_of_ble_eq_true rfl) rfl) (by walk_at "v m")) (Ev.sub (Ev.sub Ev.cint (Ev.loc rfl rfl)) Ev.cint)))

theorem f_root_below (w : World) (number : Int) {r : Int} (hp : rootF number = some r) : Fun w 880 184 [vInt number] (vInt (r)) := by
  unfold rootF at hp
  (repeat' split at hp)
  all_goals first | (cases hp; done) | (simp only [Option.some.injEq] at hp; obtain rfl := hp) | skip
  · refine' fun_of ["number"] (ret_self fun _ _ _ x => x) ?hlim ?ho ?hcd ?hb ?hl ?_ ?c1 ?c2 ?c3 ?c4 rfl ?how
    (case hlim => decide)
    (case ho => k_is)
    (case hcd => k_is)
    (case hb => exact fun s => zip1 fun _ => BindsTo.of_eq rfl)
    (case hl => decide)
    (case c1 => exact rfl)
    (case c2 => exact rfl)
    (case c3 => exact rfl)
    (case c4 => decide)
    (case how => exact forall_cons rfl (no_mem))
    exact fun c O => (Ex.ifr (Tr.cmp (cmp_eq _ _) (Ev.loc rfl rfl) Ev.cint (by first | rfl | exact decide_eq_true (by walk_at "v s") | exact decide_eq_false (by walk_at "v s") | exact beq_iff_eq.mpr (by walk_at "v s") | exact beq_false_of_ne (by walk_at "v s") | exact bne_iff_ne.mpr (by walk_at "v s") | exact bne_eq_false_iff_eq.mpr (by walk_at "v s") | assumption)) (Ex.ret Ev.cint))
  · refine' fun_of ["number"] (ret_self fun _ _ _ x => x) ?hlim ?ho ?hcd ?hb ?hl ?_ ?c1 ?c2 ?c3 ?c4 rfl ?how
    (case hlim => decide)
    (case ho => k_is)
    (case hcd => k_is)
    (case hb => exact fun s => zip1 fun _ => BindsTo.of_eq rfl)
    (case hl => decide)
    (case c1 => exact rfl)
    (case c2 => exact rfl)
    (case c3 => exact rfl)
    (case c4 => decide)
    (case how => exact forall_cons rfl (no_mem))
    exact fun c O => (Ex.ifp (Tr.cmp (cmp_eq _ _) (Ev.loc rfl rfl) Ev.cint (by first | rfl | exact decide_eq_true (by walk_at "v s") | exact decide_eq_false (by walk_at "v s") | exact beq_iff_eq.mpr (by walk_at "v s") | exact beq_false_of_ne (by walk_at "v s") | exact bne_iff_ne.mpr (by walk_at "v s") | exact bne_eq_false_iff_eq.mpr (by walk_at "v s") | assumption)) (Ex.put (Ev.shl Ev.cint (Ev.fdiv (Ev.add (Ev.bits (Ev.loc rfl rfl)) Ev.cint) Ev.cint (by walk_at "v s")) (by walk_at "v s")) (Sx.loc rfl) (Ex.put (Ev.fdiv (Ev.add (Ev.loc rfl rfl) (Ev.fdiv (Ev.loc rfl rfl) (Ev.loc rfl rfl) (by walk_at "v s"))) Ev.cint (by walk_at "v s")) (Sx.loc rfl) (Ex.weak (Ex.loop (α := Int × Int) (fun a => [("better", vInt a.2), ("found", vInt a.1), ("number", vInt number)]) (fun n a => rootLoop n number a.1 a.2 = some r) (by (intro n a hp); (cases n with | zero => exact absurd hp (by nofun) | succ n => (unfold rootLoop at hp; (repeat' split at hp); (all_goals first | (cases hp; done) | skip); (all_goals (skip)); (all_goals first | exact .inr ⟨n, (_, _), rfl, (Tr.cmp (cmp_lt _ _) (Ev.loc rfl rfl) (Ev.loc rfl rfl) (by first | rfl | exact decide_eq_true (by walk_at "v s") | exact decide_eq_false (by walk_at "v s") | exact beq_iff_eq.mpr (by walk_at "v s") | exact beq_false_of_ne (by walk_at "v s") | exact bne_iff_ne.mpr (by walk_at "v s") | exact bne_eq_false_iff_eq.mpr (by walk_at "v s") | assumption)), Ex.into (Ex.put (Ev.loc rfl rfl) (Sx.loc rfl) (Ex.put (Ev.fdiv (Ev.add (Ev.loc rfl rfl) (Ev.fdiv (Ev.loc rfl rfl) (Ev.loc rfl rfl) (by walk_at "v s"))) Ev.cint (by walk_at "v s")) (Sx.loc rfl) Ex.nil)) (forall_cons rfl (forall_cons rfl (forall_cons rfl (no_mem)))), hp⟩ | (cases hp; exact .inl ⟨(Tr.cmp (cmp_lt _ _) (Ev.loc rfl rfl) (Ev.loc rfl rfl) (by first | rfl | exact decide_eq_true (by walk_at "v s") | exact decide_eq_false (by walk_at "v s") | exact beq_iff_eq.mpr (by walk_at "v s") | exact beq_false_of_ne (by walk_at "v s") | exact bne_iff_ne.mpr (by walk_at "v s") | exact bne_eq_false_iff_eq.mpr (by walk_at "v s") | assumption)), (Ex.ret (Ev.loc rfl rfl))⟩))))) 1000 (_, _) hp) (forall_cons rfl (forall_cons rfl (forall_cons rfl (no_mem))))))))

theorem f_inverse_series (w : World) (work : Int) (number : Int) (sign : Int) {r0 r1 : Int} (hp : invF work number sign = some (r0, r1)) (h1 : number.natAbs < 2 ^ 64) (h2 : divOk number) (h3 : divOk (number * number)) (h4 : sign = -1) : Fun w 870 280 [vInt work, vInt number, vInt sign] (vTup [r0, r1]) := by
  unfold invF at hp
  (repeat' split at hp)
  all_goals first | (cases hp; done) | (simp only [Option.some.injEq, Prod.mk.injEq] at hp; obtain ⟨rfl, rfl⟩ := hp) | skip
  have hsg : sign.natAbs < 2 ^ 64 := by rw [h4]; decide
  · refine' fun_of ["work", "number", "sign"] (ret_own rfl) ?hlim ?ho ?hcd ?hb ?hl ?_ ?c1 ?c2 ?c3 ?c4 rfl ?how
    (case hlim => decide)
    (case ho => k_is)
    (case hcd => k_is)
    (case hb => exact fun s => zip3 fun _ _ _ => BindsTo.of_eq rfl)
    (case hl => decide)
    (case c1 => exact rfl)
    (case c2 => exact rfl)
    (case c3 => exact rfl)
    (case c4 => decide)
    (case how => exact forall_cons rfl (forall_cons rfl (forall_cons rfl (no_mem))))
    exact fun c O => (Ex.many5 O (Evs.cons (Ev.fdiv (Ev.shl Ev.cint (Ev.loc rfl rfl) (by walk_at "v s")) (Ev.loc rfl rfl) (by walk_at "v s")) (Evs.cons Ev.cint (Evs.cons Ev.cint (Evs.cons Ev.cint (Evs.cons Ev.cint Evs.nil))))) (Sx.loc rfl) (Sx.loc rfl) (Sx.loc rfl) (Sx.loc rfl) (Sx.loc rfl) (Ex.weak (Ex.loop (α := Int × Int × Int × Int × Int) (fun a => [("power", vInt a.1), ("total", vInt a.2.1), ("exponent", vInt a.2.2.1), ("now", vInt a.2.2.2.1), ("steps", vInt a.2.2.2.2), ("work", vInt work), ("number", vInt number), ("sign", vInt sign)]) (fun n a => (a.2.2.2.1 = 1 ∨ a.2.2.2.1 = -1) ∧ invLoop n number sign a.1 a.2.1 a.2.2.1 a.2.2.2.1 a.2.2.2.2 = some (r0, r1)) (by (rintro n a ⟨ho, hp⟩); (cases n with | zero => exact absurd hp (by nofun) | succ n => (unfold invLoop at hp; (repeat' split at hp); (all_goals first | (cases hp; done) | skip); (all_goals (have hno : a.2.2.2.1.natAbs < 2 ^ 64 := by rcases ho with q | q <;> rw [q] <;> decide)); (all_goals first | exact .inr ⟨n, (a.1.fdiv (number * number), a.2.1 + a.2.2.2.1 * a.1.fdiv a.2.2.1, a.2.2.1 + 2, a.2.2.2.1 * sign, a.2.2.2.2 + 1), rfl, (Tr.cmp (cmp_gt _ _) (Ev.loc rfl rfl) Ev.cint (by first | rfl | exact decide_eq_true (by walk_at "v s") | exact decide_eq_false (by walk_at "v s") | exact beq_iff_eq.mpr (by walk_at "v s") | exact beq_false_of_ne (by walk_at "v s") | exact bne_iff_ne.mpr (by walk_at "v s") | exact bne_eq_false_iff_eq.mpr (by walk_at "v s") | assumption)), Ex.into (Ex.put (Ev.add (Ev.loc rfl rfl) (Ev.mul (Ev.loc rfl rfl) (Ev.fdiv (Ev.loc rfl rfl) (Ev.loc rfl rfl) (by walk_at "v s")) (by walk_at "v m"))) (Sx.loc rfl) (Ex.many4 O (Evs.cons (Ev.fdiv (Ev.loc rfl rfl) (Ev.mul (Ev.loc rfl rfl) (Ev.loc rfl rfl) (by walk_at "v m")) (by walk_at "v s")) (Evs.cons (Ev.add (Ev.loc rfl rfl) Ev.cint) (Evs.cons (Ev.mul (Ev.loc rfl rfl) (Ev.loc rfl rfl) (by walk_at "v m")) (Evs.cons (Ev.add (Ev.loc rfl rfl) Ev.cint) Evs.nil)))) (Sx.loc rfl) (Sx.loc rfl) (Sx.loc rfl) (Sx.loc rfl) Ex.nil)) (forall_cons rfl (forall_cons rfl (forall_cons rfl (forall_cons rfl (forall_cons rfl (forall_cons rfl (forall_cons rfl (forall_cons rfl (no_mem))))))))), ⟨sign_flip ho h4, hp⟩⟩ | (simp only [Option.some.injEq, Prod.mk.injEq] at hp; obtain ⟨rfl, rfl⟩ := hp; exact .inl ⟨(Tr.cmp (cmp_gt _ _) (Ev.loc rfl rfl) Ev.cint (by first | rfl | exact decide_eq_true (by walk_at "v s") | exact decide_eq_false (by walk_at "v s") | exact beq_iff_eq.mpr (by walk_at "v s") | exact beq_false_of_ne (by walk_at "v s") | exact bne_iff_ne.mpr (by walk_at "v s") | exact bne_eq_false_iff_eq.mpr (by walk_at "v s") | assumption)), (Ex.ret (Ev.call O (Evs.tup (Ev.tuple (ns := [_, _]) (Evs.cons (Ev.loc rfl rfl) (Evs.cons (Ev.loc rfl rfl) Evs.nil))) (Evs.cons (Ev.add (Ev.mul Ev.cint (Ev.loc rfl rfl) (by walk_at "v m")) Ev.cint) Evs.nil)) (f_widened _ _ _ _) (by k_is) (by k_is) (Nat.le_of_ble_eq_true rfl) rfl))⟩))))) 1000 ((sl 1 work).fdiv number, 0, 1, 1, 0) ⟨.inl rfl, hp⟩) (forall_cons rfl (forall_cons rfl (forall_cons rfl (forall_cons rfl (forall_cons rfl (forall_cons rfl (forall_cons rfl (forall_cons rfl (no_mem)))))))))))

theorem f_half_turn (w : World) (work : Int) {r0 r1 : Int} (hp : halfF work = some (r0, r1)) : Fun w 860 287 [vInt work] (vTup [r0, r1]) := by
  unfold halfF at hp
  simp only [Option.bind_eq_some_iff, Prod.exists, Option.some.injEq, Prod.mk.injEq] at hp
  obtain ⟨a0, a1, ha, b0, b1, hb, rfl, rfl⟩ := hp
  · refine' fun_of ["work"] (ret_own rfl) ?hlim ?ho ?hcd ?hb ?hl ?_ ?c1 ?c2 ?c3 ?c4 rfl ?how
    (case hlim => decide)
    (case ho => k_is)
    (case hcd => k_is)
    (case hb => exact fun s => zip1 fun _ => BindsTo.of_eq rfl)
    (case hl => decide)
    (case c1 => exact rfl)
    (case c2 => exact rfl)
    (case c3 => exact rfl)
    (case c4 => decide)
    (case how => exact forall_cons rfl (no_mem))
    exact fun c O => (Ex.ret (Ev.call O (Evs.tup (Ev.call O (Evs.tup (Ev.call O (Evs.cons (Ev.loc rfl rfl) (Evs.cons Ev.cint (Evs.cons (Ev.neg Ev.cint) Evs.nil))) (f_inverse_series _ _ _ _ (by walk_at "v s") (by walk_at "v s") (by walk_at "v s") (by walk_at "v s") (by walk_at "v s")) (by k_is) (by k_is) (Nat.le_of_ble_eq_true rfl) rfl) (Evs.cons Ev.cint Evs.nil)) (f_often _ _ _ _ (by walk_at "v s")) (by k_is) (by k_is) (Nat.le_of_ble_eq_true rfl) rfl) (Evs.tup (Ev.call O (Evs.tup (Ev.call O (Evs.cons (Ev.loc rfl rfl) (Evs.cons Ev.cint (Evs.cons (Ev.neg Ev.cint) Evs.nil))) (f_inverse_series _ _ _ _ (by walk_at "v s") (by walk_at "v s") (by walk_at "v s") (by walk_at "v s") (by walk_at "v s")) (by k_is) (by k_is) (Nat.le_of_ble_eq_true rfl) rfl) (Evs.cons Ev.cint Evs.nil)) (f_often _ _ _ _ (by walk_at "v s")) (by k_is) (by k_is) (Nat.le_of_ble_eq_true rfl) rfl) Evs.nil)) (f_less_of _ _ _ _ _) (by k_is) (by k_is) (Nat.le_of_ble_eq_true rfl) rfl))
end Mine
end
noncomputable section
open PySem PySem.W PyProof.Rows PySem.Calls
set_option Elab.async false
set_option maxRecDepth 100000
set_option maxHeartbeats 4000000
set_option linter.all false
set_option exponentiation.threshold 5000
namespace Mine
theorem filledW6 : PySem.Challenge.rw_pc0352_01 = PySem.Challenge.rw_pc0352_01 ∧ hd.heap_39 = hd.heap_39 := by
  k_fill
  exact ⟨rfl, rfl⟩
theorem f_odd_series (w : World) (work : Int) (top : Int) (bottom : Int) (sign : Int)  (hp : oddF work top bottom sign = some (r0, r1)) (h4 : sign = -1) : Fun w 850 294 [vInt work, vInt top, vInt bottom, vInt sign] (vTup [r0, r1]) := by
  unfold oddF at hp
  (repeat' split at hp)
  all_goals first | (cases hp; done) | skip
  rename_i g1 g2 g3
  obtain ⟨g4, g5, g6, g7⟩ := g3
  have g8 : 0 ≤ work := g1.1
  · refine' fun_of ["work", "top", "bottom", "sign"] (ret_own rfl) ?hlim ?ho ?hcd ?hb ?hl ?_ ?c1 ?c2 ?c3 ?c4 rfl ?how
    (case hlim => decide)
    (case ho => k_is)
    (case hcd => k_is)
    (case hb => exact fun s => zip4 fun _ _ _ _ => BindsTo.of_eq rfl)
    (case hl => decide)
    (case c1 => exact rfl)
    (case c2 => exact rfl)
    (case c3 => exact rfl)
    (case c4 => decide)
    (case how => exact forall_cons rfl (forall_cons rfl (forall_cons rfl (forall_cons rfl (no_mem)))))
    exact fun c O => (Ex.put (Ev.call O (Evs.cons (Ev.loc rfl rfl) (Evs.cons (Ev.loc rfl rfl) (Evs.cons (Ev.loc rfl rfl) Evs.nil))) (f_fraction_bounds _ _ _ _ (by walk_at "v s") (by walk_at "v s")) (by k_is) (by k_is) (Nat.le_of_ble_eq_true rfl) rfl) (Sx.loc rfl) (Ex.many5 O (Evs.cons (Ev.call O (Evs.cons (Ev.loc rfl rfl) (Evs.tup (Ev.loc rfl rfl) (Evs.tup (Ev.loc rfl rfl) Evs.nil))) (f_product_of _ _ _ _ _ _ (by walk_at "v s") (by walk_at "v s") (by walk_at "v s") (by walk_at "v s") (by walk_at "v s")) (by k_is) (by k_is) (Nat.le_of_ble_eq_true rfl) rfl) (Evs.cons (Ev.loc rfl rfl) (Evs.cons (Ev.loc rfl rfl) (Evs.cons Ev.cint (Evs.cons Ev.cint Evs.nil))))) (Sx.loc rfl) (Sx.loc rfl) (Sx.loc rfl) (Sx.loc rfl) (Sx.loc rfl) (Ex.weak (Ex.loop (α := (Int × Int) × (Int × Int) × Int × Int) (fun a => [("now", vInt a.2.2.2), ("exponent", vInt a.2.2.1), ("total", vTup [a.2.1.1, a.2.1.2]), ("power", vTup [a.1.1, a.1.2]), ("square", vTup [(prodP work (fboundP work top bottom) (fboundP work top bottom)).1, (prodP work (fboundP work top bottom) (fboundP work top bottom)).2]), ("work", vInt work), ("sign", vInt sign)]) (fun n a => (a.2.2.2 = 1 ∨ a.2.2.2 = -1) ∧ oddLoop n work sign (prodP work (fboundP work top bottom) (fboundP work top bottom)) (a.1.1, a.1.2) (a.2.1.1, a.2.1.2) a.2.2.1 a.2.2.2 = some (r0, r1)) (by (rintro n a ⟨ho, hp⟩); (cases n with | zero => exact absurd hp (by nofun) | succ n => (unfold oddLoop at hp; (repeat' split at hp); (all_goals first | (cases hp; done) | skip); (all_goals (have hno : (a.2.2.2 * sign).natAbs < 2 ^ 64 := by rw [h4]; rcases ho with q | q <;> rw [q] <;> decide); (try (rename prodOk _ _ => gp; obtain ⟨gp1, gp2, gp3, gp4⟩ := gp))); (all_goals first | exact .inr ⟨n, (prodP work (a.1.1, a.1.2) (prodP work (fboundP work top bottom) (fboundP work top bottom)), moreP (a.2.1.1, a.2.1.2) (oftenP (partP (prodP work (a.1.1, a.1.2) (prodP work (fboundP work top bottom) (fboundP work top bottom))) (a.2.2.1 + 2)) (a.2.2.2 * sign)), a.2.2.1 + 2, a.2.2.2 * sign), rfl, (Tr.cmp (cmp_gt _ _) (Ev.call O (Evs.tup (Ev.loc rfl rfl) Evs.nil) (f_greatest_of _ _ _) (by k_is) (by k_is) (Nat.le_of_ble_eq_true rfl) rfl) Ev.cint (by first | rfl | exact decide_eq_true (by walk_at "v s") | exact decide_eq_false (by walk_at "v s") | exact beq_iff_eq.mpr (by walk_at "v s") | exact beq_false_of_ne (by walk_at "v s") | exact bne_iff_ne.mpr (by walk_at "v s") | exact bne_eq_false_iff_eq.mpr (by walk_at "v s") | assumption)), Ex.into (Ex.swap3 O (Ev.call O (Evs.cons (Ev.loc rfl rfl) (Evs.tup (Ev.loc rfl rfl) (Evs.tup (Ev.loc rfl rfl) Evs.nil))) (f_product_of _ _ _ _ _ _ (by walk_at "v s") (by walk_at "v s") (by walk_at "v s") (by walk_at "v s") (by walk_at "v s")) (by k_is) (by k_is) (Nat.le_of_ble_eq_true rfl) rfl) (Ev.add (Ev.loc rfl rfl) Ev.cint) (Ev.mul (Ev.loc rfl rfl) (Ev.loc rfl rfl) (by walk_at "v m")) (Sx.loc rfl) (Sx.loc rfl) (Sx.loc rfl) (Ex.put (Ev.call O (Evs.tup (Ev.loc rfl rfl) (Evs.tup (Ev.call O (Evs.tup (Ev.call O (Evs.tup (Ev.loc rfl rfl) (Evs.cons (Ev.loc rfl rfl) Evs.nil)) (f_part_of _ _ _ _ (by walk_at "v s")) (by k_is) (by k_is) (Nat.le_of_ble_eq_true rfl) rfl) (Evs.cons (Ev.loc rfl rfl) Evs.nil)) (f_often _ _ _ _ (by walk_at "v s")) (by k_is) (by k_is) (Nat.le_of_ble_eq_true rfl) rfl) Evs.nil)) (f_more_of _ _ _ _ _) (by k_is) (by k_is) (Nat.le_of_ble_eq_true rfl) rfl) (Sx.loc rfl) Ex.nil)) (forall_cons rfl (forall_cons rfl (forall_cons rfl (forall_cons rfl (forall_cons rfl (forall_cons rfl (forall_cons rfl (no_mem)))))))), ⟨sign_flip ho h4, hp⟩⟩ | (simp only [Option.some.injEq, Prod.mk.injEq] at hp; obtain ⟨rfl, rfl⟩ := hp; exact .inl ⟨(Tr.cmp (cmp_gt _ _) (Ev.call O (Evs.tup (Ev.loc rfl rfl) Evs.nil) (f_greatest_of _ _ _) (by k_is) (by k_is) (Nat.le_of_ble_eq_true rfl) rfl) Ev.cint (by first | rfl | exact decide_eq_true (by walk_at "v s") | exact decide_eq_false (by walk_at "v s") | exact beq_iff_eq.mpr (by walk_at "v s") | exact beq_false_of_ne (by walk_at "v s") | exact bne_iff_ne.mpr (by walk_at "v s") | exact bne_eq_false_iff_eq.mpr (by walk_at "v s") | assumption)), (Ex.ret (Ev.call O (Evs.tup (Ev.loc rfl rfl) (Evs.cons (Ev.add (Ev.mul Ev.cint (Ev.call O (Evs.tup (Ev.loc rfl rfl) Evs.nil) (f_greatest_of _ _ _) (by k_is) (by k_is) (Nat.le_of_ble_eq_true rfl) rfl) (by walk_at "v m")) Ev.cint) Evs.nil)) (f_widened _ _ _ _) (by k_is) (by k_is) (Nat.le_of_ble_eq_true rfl) rfl))⟩))))) 1000 (fboundP work top bottom, fboundP work top bottom, 1, 1) ⟨.inl rfl, hp⟩) (forall_cons rfl (forall_cons rfl (forall_cons rfl (forall_cons rfl (forall_cons rfl (forall_cons rfl (forall_cons rfl (no_mem)))))))))))

theorem f_small_arc (w : World) (work : Int) (top : Int) (bottom : Int) {r0 r1 : Int} (hp : smallF work top bottom = some (r0, r1)) : Fun w 840 315 [vInt work, vInt top, vInt bottom] (vTup [r0, r1]) := by
  unfold smallF at hp
  (repeat' split at hp)
  all_goals first | (cases hp; done) | skip
  all_goals (try simp only [Option.bind_eq_some_iff, Prod.exists, Option.some.injEq, Prod.mk.injEq] at hp)
  all_goals first | (obtain ⟨a0, a1, ha, b0, b1, hb, rfl, rfl⟩ := hp) | skip
  · refine' fun_of ["work", "top", "bottom"] (ret_own rfl) ?hlim ?ho ?hcd ?hb ?hl ?_ ?c1 ?c2 ?c3 ?c4 rfl ?how
    (case hlim => decide)
    (case ho => k_is)
    (case hcd => k_is)
    (case hb => exact fun s => zip3 fun _ _ _ => BindsTo.of_eq rfl)
    (case hl => decide)
    (case c1 => exact rfl)
    (case c2 => exact rfl)
    (case c3 => exact rfl)
    (case c4 => decide)
    (case how => exact forall_cons rfl (forall_cons rfl (forall_cons rfl (no_mem))))
    exact fun c O => (Ex.ifr (Tr.cmp (cmp_gt _ _) (Ev.mul Ev.cint (Ev.loc rfl rfl) (by walk_at "v m")) (Ev.mul Ev.cint (Ev.loc rfl rfl) (by walk_at "v m")) (by first | rfl | exact decide_eq_true (by walk_at "v s") | exact decide_eq_false (by walk_at "v s") | exact beq_iff_eq.mpr (by walk_at "v s") | exact beq_false_of_ne (by walk_at "v s") | exact bne_iff_ne.mpr (by walk_at "v s") | exact bne_eq_false_iff_eq.mpr (by walk_at "v s") | assumption)) (Ex.ret (Ev.call O (Evs.tup (Ev.call O (Evs.tup (Ev.call O (Evs.cons (Ev.loc rfl rfl) Evs.nil) (f_half_turn _ _ (by walk_at "v s")) (by k_is) (by k_is) (Nat.le_of_ble_eq_true rfl) rfl) (Evs.cons Ev.cint Evs.nil)) (f_part_of _ _ _ _ (by walk_at "v s")) (by k_is) (by k_is) (Nat.le_of_ble_eq_true rfl) rfl) (Evs.tup (Ev.call O (Evs.cons (Ev.loc rfl rfl) (Evs.cons (Ev.sub (Ev.loc rfl rfl) (Ev.loc rfl rfl)) (Evs.cons (Ev.add (Ev.loc rfl rfl) (Ev.loc rfl rfl)) (Evs.cons (Ev.neg Ev.cint) Evs.nil)))) (f_odd_series _ _ _ _ _ (by walk_at "v s") (by walk_at "v s")) (by k_is) (by k_is) (Nat.le_of_ble_eq_true rfl) rfl) Evs.nil)) (f_more_of _ _ _ _ _) (by k_is) (by k_is) (Nat.le_of_ble_eq_true rfl) rfl)))
  · refine' fun_of ["work", "top", "bottom"] (ret_own rfl) ?hlim ?ho ?hcd ?hb ?hl ?_ ?c1 ?c2 ?c3 ?c4 rfl ?how
    (case hlim => decide)
    (case ho => k_is)
    (case hcd => k_is)
    (case hb => exact fun s => zip3 fun _ _ _ => BindsTo.of_eq rfl)
    (case hl => decide)
    (case c1 => exact rfl)
    (case c2 => exact rfl)
    (case c3 => exact rfl)
    (case c4 => decide)
    (case how => exact forall_cons rfl (forall_cons rfl (forall_cons rfl (no_mem))))
    exact fun c O => (Ex.ifp (Tr.cmp (cmp_gt _ _) (Ev.mul Ev.cint (Ev.loc rfl rfl) (by walk_at "v m")) (Ev.mul Ev.cint (Ev.loc rfl rfl) (by walk_at "v m")) (by first | rfl | exact decide_eq_true (by walk_at "v s") | exact decide_eq_false (by walk_at "v s") | exact beq_iff_eq.mpr (by walk_at "v s") | exact beq_false_of_ne (by walk_at "v s") | exact bne_iff_ne.mpr (by walk_at "v s") | exact bne_eq_false_iff_eq.mpr (by walk_at "v s") | assumption)) (Ex.ifr (Tr.cmp (cmp_gt _ _) (Ev.mul Ev.cint (Ev.loc rfl rfl) (by walk_at "v m")) (Ev.loc rfl rfl) (by first | rfl | exact decide_eq_true (by walk_at "v s") | exact decide_eq_false (by walk_at "v s") | exact beq_iff_eq.mpr (by walk_at "v s") | exact beq_false_of_ne (by walk_at "v s") | exact bne_iff_ne.mpr (by walk_at "v s") | exact bne_eq_false_iff_eq.mpr (by walk_at "v s") | assumption)) (Ex.put (Ev.call O (Evs.cons (Ev.loc rfl rfl) (Evs.cons (Ev.sub (Ev.mul Ev.cint (Ev.loc rfl rfl) (by walk_at "v m")) (Ev.loc rfl rfl)) (Evs.cons (Ev.add (Ev.mul Ev.cint (Ev.loc rfl rfl) (by walk_at "v m")) (Ev.loc rfl rfl)) (Evs.cons (Ev.neg Ev.cint) Evs.nil)))) (f_odd_series _ _ _ _ _ (by walk_at "v s") (by walk_at "v s")) (by k_is) (by k_is) (Nat.le_of_ble_eq_true rfl) rfl) (Sx.loc rfl) (Ex.ret (Ev.call O (Evs.tup (Ev.call O (Evs.cons (Ev.loc rfl rfl) (Evs.cons Ev.cint (Evs.cons (Ev.neg Ev.cint) Evs.nil))) (f_inverse_series _ _ _ _ (by walk_at "v s") (by walk_at "v s") (by walk_at "v s") (by walk_at "v s") (by walk_at "v s")) (by k_is) (by k_is) (Nat.le_of_ble_eq_true rfl) rfl) (Evs.tup (Ev.loc rfl rfl) Evs.nil)) (f_more_of _ _ _ _ _) (by k_is) (by k_is) (Nat.le_of_ble_eq_true rfl) rfl)))))
  · refine' fun_of ["work", "top", "bottom"] (ret_own rfl) ?hlim ?ho ?hcd ?hb ?hl ?_ ?c1 ?c2 ?c3 ?c4 rfl ?how
    (case hlim => decide)
    (case ho => k_is)
    (case hcd => k_is)
    (case hb => exact fun s => zip3 fun _ _ _ => BindsTo.of_eq rfl)
    (case hl => decide)
    (case c1 => exact rfl)
    (case c2 => exact rfl)
    (case c3 => exact rfl)
    (case c4 => decide)
    (case how => exact forall_cons rfl (forall_cons rfl (forall_cons rfl (no_mem))))
    exact fun c O => (Ex.ifp (Tr.cmp (cmp_gt _ _) (Ev.mul Ev.cint (Ev.loc rfl rfl) (by walk_at "v m")) (Ev.mul Ev.cint (Ev.loc rfl rfl) (by walk_at "v m")) (by first | rfl | exact decide_eq_true (by walk_at "v s") | exact decide_eq_false (by walk_at "v s") | exact beq_iff_eq.mpr (by walk_at "v s") | exact beq_false_of_ne (by walk_at "v s") | exact bne_iff_ne.mpr (by walk_at "v s") | exact bne_eq_false_iff_eq.mpr (by walk_at "v s") | assumption)) (Ex.ifp (Tr.cmp (cmp_gt _ _) (Ev.mul Ev.cint (Ev.loc rfl rfl) (by walk_at "v m")) (Ev.loc rfl rfl) (by first | rfl | exact decide_eq_true (by walk_at "v s") | exact decide_eq_false (by walk_at "v s") | exact beq_iff_eq.mpr (by walk_at "v s") | exact beq_false_of_ne (by walk_at "v s") | exact bne_iff_ne.mpr (by walk_at "v s") | exact bne_eq_false_iff_eq.mpr (by walk_at "v s") | assumption)) (Ex.ret (Ev.call O (Evs.cons (Ev.loc rfl rfl) (Evs.cons (Ev.loc rfl rfl) (Evs.cons (Ev.loc rfl rfl) (Evs.cons (Ev.neg Ev.cint) Evs.nil)))) (f_odd_series _ _ _ _ _ (by walk_at "v s") (by walk_at "v s")) (by k_is) (by k_is) (Nat.le_of_ble_eq_true rfl) rfl))))

theorem f_root_bounds (w : World) (work : Int) (top : Int) (bottom : Int) {r0 r1 : Int} (hp : rbF work top bottom = some (r0, r1)) : Fun w 860 343 [vInt work, vInt top, vInt bottom] (vTup [r0, r1]) := by
  unfold rbF at hp
  (repeat' split at hp)
  all_goals first | (cases hp; done) | skip
  all_goals (try simp only [Option.bind_eq_some_iff, Prod.exists, Option.some.injEq, Prod.mk.injEq] at hp)
  all_goals first | (obtain ⟨r, ha, rfl, rfl⟩ := hp) | skip
  · refine' fun_of ["work", "top", "bottom"] (ret_own rfl) ?hlim ?ho ?hcd ?hb ?hl ?_ ?c1 ?c2 ?c3 ?c4 rfl ?how
    (case hlim => decide)
    (case ho => k_is)
    (case hcd => k_is)
    (case hb => exact fun s => zip3 fun _ _ _ => BindsTo.of_eq rfl)
    (case hl => decide)
    (case c1 => exact rfl)
    (case c2 => exact rfl)
    (case c3 => exact rfl)
    (case c4 => decide)
    (case how => exact forall_cons rfl (forall_cons rfl (forall_cons rfl (no_mem))))
    exact fun c O => (Ex.put (Ev.fdiv (Ev.shl (Ev.loc rfl rfl) (Ev.mul Ev.cint (Ev.loc rfl rfl) (by walk_at "v m")) (by walk_at "v s")) (Ev.loc rfl rfl) (by walk_at "v s")) (Sx.loc rfl) (Ex.put (Ev.call O (Evs.cons (Ev.loc rfl rfl) Evs.nil) (f_root_below _ _ (by walk_at "v s")) (by k_is) (by k_is) (Nat.le_of_ble_eq_true rfl) rfl) (Sx.loc rfl) (Ex.ret (Ev.tuple (ns := [_, _]) (Evs.cons (Ev.loc rfl rfl) (Evs.cons (Ev.add (Ev.loc rfl rfl) Ev.cint) Evs.nil))))))

theorem Fun.weak {w : World} {d d' : Nat} {f : Addr} {Ws : List Val} {V : Val} (h : Fun w d f Ws V) (k : d' ≤ d) : Fun w d' f Ws V := fun vs s B R A Q E Rm => h s B R A Q E ⟨Rm.h, Nat.le_trans Rm.d k, Nat.le_trans Rm.u (Nat.mul_le_mul_left 10 k)⟩

theorem f_arc_bounds0 (w : World) (work : Int) (top : Int) (bottom : Int) {r0 r1 : Int} (h1 : ¬ top < 0) (hp : arcF0 work top bottom = some (r0, r1)) : Fun w 830 322 [vInt work, vInt top, vInt bottom] (vTup [r0, r1]) := by
  unfold arcF0 at hp
  (repeat' split at hp)
  all_goals first | (cases hp; done) | skip
  all_goals (try simp only [Option.bind_eq_some_iff, Prod.exists, Option.some.injEq, Prod.mk.injEq] at hp)
  all_goals first | (obtain ⟨a0, a1, ha, b0, b1, hb, rfl, rfl⟩ := hp) | skip
  · refine' fun_of ["work", "top", "bottom"] (ret_own rfl) ?hlim ?ho ?hcd ?hb ?hl ?_ ?c1 ?c2 ?c3 ?c4 rfl ?how
    (case hlim => decide)
    (case ho => k_is)
    (case hcd => k_is)
    (case hb => exact fun s => zip3 fun _ _ _ => BindsTo.of_eq rfl)
    (case hl => decide)
    (case c1 => exact rfl)
    (case c2 => exact rfl)
    (case c3 => exact rfl)
    (case c4 => decide)
    (case how => exact forall_cons rfl (forall_cons rfl (forall_cons rfl (no_mem))))
    exact fun c O => (Ex.ifp (Tr.cmp (cmp_lt _ _) (Ev.loc rfl rfl) Ev.cint (by first | rfl | exact decide_eq_true (by walk_at "v s") | exact decide_eq_false (by walk_at "v s") | exact beq_iff_eq.mpr (by walk_at "v s") | exact beq_false_of_ne (by walk_at "v s") | exact bne_iff_ne.mpr (by walk_at "v s") | exact bne_eq_false_iff_eq.mpr (by walk_at "v s") | assumption)) (Ex.ifr (Tr.cmp (cmp_le _ _) (Ev.loc rfl rfl) (Ev.loc rfl rfl) (by first | rfl | exact decide_eq_true (by walk_at "v s") | exact decide_eq_false (by walk_at "v s") | exact beq_iff_eq.mpr (by walk_at "v s") | exact beq_false_of_ne (by walk_at "v s") | exact bne_iff_ne.mpr (by walk_at "v s") | exact bne_eq_false_iff_eq.mpr (by walk_at "v s") | assumption)) (Ex.ret (Ev.call O (Evs.cons (Ev.loc rfl rfl) (Evs.cons (Ev.loc rfl rfl) (Evs.cons (Ev.loc rfl rfl) Evs.nil))) (f_small_arc _ _ _ _ (by walk_at "v s")) (by k_is) (by k_is) (Nat.le_of_ble_eq_true rfl) rfl))))
  · refine' fun_of ["work", "top", "bottom"] (ret_own rfl) ?hlim ?ho ?hcd ?hb ?hl ?_ ?c1 ?c2 ?c3 ?c4 rfl ?how
    (case hlim => decide)
    (case ho => k_is)
    (case hcd => k_is)
    (case hb => exact fun s => zip3 fun _ _ _ => BindsTo.of_eq rfl)
    (case hl => decide)
    (case c1 => exact rfl)
    (case c2 => exact rfl)
    (case c3 => exact rfl)
    (case c4 => decide)
    (case how => exact forall_cons rfl (forall_cons rfl (forall_cons rfl (no_mem))))
    exact fun c O => (Ex.ifp (Tr.cmp (cmp_lt _ _) (Ev.loc rfl rfl) Ev.cint (by first | rfl | exact decide_eq_true (by walk_at "v s") | exact decide_eq_false (by walk_at "v s") | exact beq_iff_eq.mpr (by walk_at "v s") | exact beq_false_of_ne (by walk_at "v s") | exact bne_iff_ne.mpr (by walk_at "v s") | exact bne_eq_false_iff_eq.mpr (by walk_at "v s") | assumption)) (Ex.ifp (Tr.cmp (cmp_le _ _) (Ev.loc rfl rfl) (Ev.loc rfl rfl) (by first | rfl | exact decide_eq_true (by walk_at "v s") | exact decide_eq_false (by walk_at "v s") | exact beq_iff_eq.mpr (by walk_at "v s") | exact beq_false_of_ne (by walk_at "v s") | exact bne_iff_ne.mpr (by walk_at "v s") | exact bne_eq_false_iff_eq.mpr (by walk_at "v s") | assumption)) (Ex.ret (Ev.call O (Evs.tup (Ev.call O (Evs.tup (Ev.call O (Evs.cons (Ev.loc rfl rfl) Evs.nil) (f_half_turn _ _ (by walk_at "v s")) (by k_is) (by k_is) (Nat.le_of_ble_eq_true rfl) rfl) (Evs.cons Ev.cint Evs.nil)) (f_part_of _ _ _ _ (by walk_at "v s")) (by k_is) (by k_is) (Nat.le_of_ble_eq_true rfl) rfl) (Evs.tup (Ev.call O (Evs.cons (Ev.loc rfl rfl) (Evs.cons (Ev.loc rfl rfl) (Evs.cons (Ev.loc rfl rfl) Evs.nil))) (f_small_arc _ _ _ _ (by walk_at "v s")) (by k_is) (by k_is) (Nat.le_of_ble_eq_true rfl) rfl) Evs.nil)) (f_less_of _ _ _ _ _) (by k_is) (by k_is) (Nat.le_of_ble_eq_true rfl) rfl))))

theorem f_arc_bounds (w : World) (work : Int) (top : Int) (bottom : Int) {r0 r1 : Int} (hp : arcF work top bottom = some (r0, r1)) : Fun w 820 322 [vInt work, vInt top, vInt bottom] (vTup [r0, r1]) := by
  by_cases g0 : top < 0
  rotate_left
  · unfold arcF at hp
    rw [if_neg g0] at hp
    exact Fun.weak (f_arc_bounds0 w work top bottom g0 hp) (by decide)
  unfold arcF at hp
  rw [if_pos g0] at hp
  simp only [Option.bind_eq_some_iff, Prod.exists, Option.some.injEq, Prod.mk.injEq] at hp
  obtain ⟨a0, a1, ha, rfl, rfl⟩ := hp
  · refine' fun_of ["work", "top", "bottom"] (ret_own rfl) ?hlim ?ho ?hcd ?hb ?hl ?_ ?c1 ?c2 ?c3 ?c4 rfl ?how
    (case hlim => decide)
    (case ho => k_is)
    (case hcd => k_is)
    (case hb => exact fun s => zip3 fun _ _ _ => BindsTo.of_eq rfl)
    (case hl => decide)
    (case c1 => exact rfl)
    (case c2 => exact rfl)
    (case c3 => exact rfl)
    (case c4 => decide)
    (case how => exact forall_cons rfl (forall_cons rfl (forall_cons rfl (no_mem))))
    exact fun c O => (Ex.ifr (Tr.cmp (cmp_lt _ _) (Ev.loc rfl rfl) Ev.cint (by first | rfl | exact decide_eq_true (by walk_at "v s") | exact decide_eq_false (by walk_at "v s") | exact beq_iff_eq.mpr (by walk_at "v s") | exact beq_false_of_ne (by walk_at "v s") | exact bne_iff_ne.mpr (by walk_at "v s") | exact bne_eq_false_iff_eq.mpr (by walk_at "v s") | assumption)) (Ex.ret (Ev.call O (Evs.tup (Ev.call O (Evs.cons (Ev.loc rfl rfl) (Evs.cons (Ev.sub Ev.cint (Ev.loc rfl rfl)) (Evs.cons (Ev.loc rfl rfl) Evs.nil))) (f_arc_bounds0 _ _ _ _ (by walk_at "v s") (by walk_at "v s")) (by k_is) (by k_is) (Nat.le_of_ble_eq_true rfl) rfl) Evs.nil) (f_contrary_of _ _ _) (by k_is) (by k_is) (Nat.le_of_ble_eq_true rfl) rfl)))

theorem f_arc_within (w : World) (work : Int) (bounds0 bounds1 : Int) {r0 r1 : Int} (hp : withinF work (bounds0, bounds1) = some (r0, r1)) : Fun w 810 329 [vInt work, eTup [bounds0, bounds1]] (vTup [r0, r1]) := by
  unfold withinF at hp
  (repeat' split at hp)
  all_goals first | (cases hp; done) | skip
  all_goals (try simp only [Option.bind_eq_some_iff, Prod.exists, Option.some.injEq, Prod.mk.injEq] at hp)
  all_goals first | (obtain ⟨a0, a1, ha, b0, b1, hb, rfl, rfl⟩ := hp) | skip
  · refine' fun_of ["work", "bounds"] (ret_own rfl) ?hlim ?ho ?hcd ?hb ?hl ?_ ?c1 ?c2 ?c3 ?c4 rfl ?how
    (case hlim => decide)
    (case ho => k_is)
    (case hcd => k_is)
    (case hb => exact fun s => zip2 fun _ _ => BindsTo.of_eq rfl)
    (case hl => decide)
    (case c1 => exact rfl)
    (case c2 => exact rfl)
    (case c3 => exact rfl)
    (case c4 => decide)
    (case how => exact forall_cons rfl (forall_cons rfl (no_mem)))
    exact fun c O => (Ex.swap2 O (Ev.call O (Evs.cons (Ev.loc rfl rfl) (Evs.cons (Ev.item 0 (Ev.loc rfl rfl) (fun _ _ x => x) rfl) (Evs.cons (Ev.shl Ev.cint (Ev.loc rfl rfl) (by walk_at "v s")) Evs.nil))) (f_arc_bounds _ _ _ _ (by walk_at "v s")) (by k_is) (by k_is) (Nat.le_of_ble_eq_true rfl) rfl) (Ev.call O (Evs.cons (Ev.loc rfl rfl) (Evs.cons (Ev.item 1 (Ev.loc rfl rfl) (fun _ _ x => x) rfl) (Evs.cons (Ev.shl Ev.cint (Ev.loc rfl rfl) (by walk_at "v s")) Evs.nil))) (f_arc_bounds _ _ _ _ (by walk_at "v s")) (by k_is) (by k_is) (Nat.le_of_ble_eq_true rfl) rfl) (Sx.loc rfl) (Sx.loc rfl) (Ex.ret (Ev.tuple (ns := [_, _]) (Evs.cons (Ev.item 0 (Ev.loc rfl rfl) (fun _ _ x => x) rfl) (Evs.cons (Ev.item 1 (Ev.loc rfl rfl) (fun _ _ x => x) rfl) Evs.nil)))))

theorem f_ratio_of_reals (w : World) (highm highe : Int) (widem widee : Int) {r0 r1 : Int} (hp : ratioF highm highe widem widee = some (r0, r1)) : Fun w 870 392 [eReal highm highe, eReal widem widee] (vTup [r0, r1]) := by
  unfold ratioF at hp
  (repeat' split at hp)
  all_goals first | (cases hp; done) | skip
  all_goals (try simp only [Option.bind_eq_some_iff, Prod.exists, Option.some.injEq, Prod.mk.injEq] at hp)
  all_goals first | (obtain ⟨rfl, rfl⟩ := hp) | skip
  · refine' fun_of ["high", "wide"] (ret_own rfl) ?hlim ?ho ?hcd ?hb ?hl ?_ ?c1 ?c2 ?c3 ?c4 rfl ?how
    (case hlim => decide)
    (case ho => k_is)
    (case hcd => k_is)
    (case hb => exact fun s => zip2 fun _ _ => BindsTo.of_eq rfl)
    (case hl => decide)
    (case c1 => exact rfl)
    (case c2 => exact rfl)
    (case c3 => exact rfl)
    (case c4 => decide)
    (case how => exact forall_cons rfl (forall_cons rfl (no_mem)))
    exact fun c O => (Ex.put (Ev.sub (Ev.exp O (Ev.loc rfl rfl) (fun _ _ x => x)) (Ev.exp O (Ev.loc rfl rfl) (fun _ _ x => x))) (Sx.loc rfl) (Ex.swap2 O (Ev.mul (Ev.man O (Ev.loc rfl rfl) (fun _ _ x => x)) (Ev.call O (Evs.cons (Ev.loc rfl rfl) Evs.nil) (f_sign_of _ _ _) (by k_is) (by k_is) (Nat.le_of_ble_eq_true rfl) rfl) (by walk_at "v m")) (Ev.bcall O (Evs.cons (Ev.man O (Ev.loc rfl rfl) (fun _ _ x => x)) Evs.nil) b_abs (by boot_by_name) (by k_is) rfl) (Sx.loc rfl) (Sx.loc rfl) (Ex.ret (Ev.ift (Tr.cmp (cmp_ge _ _) (Ev.loc rfl rfl) Ev.cint (by first | rfl | exact decide_eq_true (by walk_at "v s") | exact decide_eq_false (by walk_at "v s") | exact beq_iff_eq.mpr (by walk_at "v s") | exact beq_false_of_ne (by walk_at "v s") | exact bne_iff_ne.mpr (by walk_at "v s") | exact bne_eq_false_iff_eq.mpr (by walk_at "v s") | assumption)) (Ev.tuple (ns := [_, _]) (Evs.cons (Ev.shl (Ev.loc rfl rfl) (Ev.loc rfl rfl) (by walk_at "v s")) (Evs.cons (Ev.loc rfl rfl) Evs.nil)))))))
  · refine' fun_of ["high", "wide"] (ret_own rfl) ?hlim ?ho ?hcd ?hb ?hl ?_ ?c1 ?c2 ?c3 ?c4 rfl ?how
    (case hlim => decide)
    (case ho => k_is)
    (case hcd => k_is)
    (case hb => exact fun s => zip2 fun _ _ => BindsTo.of_eq rfl)
    (case hl => decide)
    (case c1 => exact rfl)
    (case c2 => exact rfl)
    (case c3 => exact rfl)
    (case c4 => decide)
    (case how => exact forall_cons rfl (forall_cons rfl (no_mem)))
    exact fun c O => (Ex.put (Ev.sub (Ev.exp O (Ev.loc rfl rfl) (fun _ _ x => x)) (Ev.exp O (Ev.loc rfl rfl) (fun _ _ x => x))) (Sx.loc rfl) (Ex.swap2 O (Ev.mul (Ev.man O (Ev.loc rfl rfl) (fun _ _ x => x)) (Ev.call O (Evs.cons (Ev.loc rfl rfl) Evs.nil) (f_sign_of _ _ _) (by k_is) (by k_is) (Nat.le_of_ble_eq_true rfl) rfl) (by walk_at "v m")) (Ev.bcall O (Evs.cons (Ev.man O (Ev.loc rfl rfl) (fun _ _ x => x)) Evs.nil) b_abs (by boot_by_name) (by k_is) rfl) (Sx.loc rfl) (Sx.loc rfl) (Ex.ret (Ev.iff (Tr.cmp (cmp_ge _ _) (Ev.loc rfl rfl) Ev.cint (by first | rfl | exact decide_eq_true (by walk_at "v s") | exact decide_eq_false (by walk_at "v s") | exact beq_iff_eq.mpr (by walk_at "v s") | exact beq_false_of_ne (by walk_at "v s") | exact bne_iff_ne.mpr (by walk_at "v s") | exact bne_eq_false_iff_eq.mpr (by walk_at "v s") | assumption)) (Ev.tuple (ns := [_, _]) (Evs.cons (Ev.loc rfl rfl) (Evs.cons (Ev.shl (Ev.loc rfl rfl) (Ev.sub Ev.cint (Ev.loc rfl rfl)) (by walk_at "v s")) Evs.nil)))))))

theorem f_law_fraction (w : World) (realm reale : Int) {r0 r1 : Int} (hp : fracF realm reale = some (r0, r1)) : Fun w 888 439 [eReal realm reale] (vTup [r0, r1]) := by
  unfold fracF at hp
  (repeat' split at hp)
  all_goals first | (cases hp; done) | skip
  all_goals (try simp only [Option.bind_eq_some_iff, Prod.exists, Option.some.injEq, Prod.mk.injEq] at hp)
  all_goals first | (obtain ⟨rfl, rfl⟩ := hp) | skip
  · refine' fun_of ["real"] (ret_own rfl) ?hlim ?ho ?hcd ?hb ?hl ?_ ?c1 ?c2 ?c3 ?c4 rfl ?how
    (case hlim => decide)
    (case ho => k_is)
    (case hcd => k_is)
    (case hb => exact fun s => zip1 fun _ => BindsTo.of_eq rfl)
    (case hl => decide)
    (case c1 => exact rfl)
    (case c2 => exact rfl)
    (case c3 => exact rfl)
    (case c4 => decide)
    (case how => exact forall_cons rfl (no_mem))
    exact fun c O => (Ex.ret (Ev.ift (Tr.cmp (cmp_ge _ _) (Ev.exp O (Ev.loc rfl rfl) (fun _ _ x => x)) Ev.cint (by first | rfl | exact decide_eq_true (by walk_at "v s") | exact decide_eq_false (by walk_at "v s") | exact beq_iff_eq.mpr (by walk_at "v s") | exact beq_false_of_ne (by walk_at "v s") | exact bne_iff_ne.mpr (by walk_at "v s") | exact bne_eq_false_iff_eq.mpr (by walk_at "v s") | assumption)) (Ev.tuple (ns := [_, _]) (Evs.cons (Ev.shl (Ev.man O (Ev.loc rfl rfl) (fun _ _ x => x)) (Ev.exp O (Ev.loc rfl rfl) (fun _ _ x => x)) (by walk_at "v s")) (Evs.cons Ev.cint Evs.nil)))))
  · refine' fun_of ["real"] (ret_own rfl) ?hlim ?ho ?hcd ?hb ?hl ?_ ?c1 ?c2 ?c3 ?c4 rfl ?how
    (case hlim => decide)
    (case ho => k_is)
    (case hcd => k_is)
    (case hb => exact fun s => zip1 fun _ => BindsTo.of_eq rfl)
    (case hl => decide)
    (case c1 => exact rfl)
    (case c2 => exact rfl)
    (case c3 => exact rfl)
    (case c4 => decide)
    (case how => exact forall_cons rfl (no_mem))
    exact fun c O => (Ex.ret (Ev.iff (Tr.cmp (cmp_ge _ _) (Ev.exp O (Ev.loc rfl rfl) (fun _ _ x => x)) Ev.cint (by first | rfl | exact decide_eq_true (by walk_at "v s") | exact decide_eq_false (by walk_at "v s") | exact beq_iff_eq.mpr (by walk_at "v s") | exact beq_false_of_ne (by walk_at "v s") | exact bne_iff_ne.mpr (by walk_at "v s") | exact bne_eq_false_iff_eq.mpr (by walk_at "v s") | assumption)) (Ev.tuple (ns := [_, _]) (Evs.cons (Ev.man O (Ev.loc rfl rfl) (fun _ _ x => x)) (Evs.cons (Ev.shl Ev.cint (Ev.sub Ev.cint (Ev.exp O (Ev.loc rfl rfl) (fun _ _ x => x))) (by walk_at "v s")) Evs.nil)))))

theorem f_law_middles (w : World) (precision : Int) (realm reale : Int) {r0 r1 r2 : Int} (hp : middlesF precision realm reale = some (r0, r1, r2)) : Fun w 888 425 [vInt precision, eReal realm reale] (vTup [r0, r1, r2]) := by
  unfold middlesF at hp
  (repeat' split at hp)
  all_goals first | (cases hp; done) | skip
  all_goals (try simp only [Option.bind_eq_some_iff, Prod.exists, Option.some.injEq, Prod.mk.injEq] at hp)
  all_goals first | (obtain ⟨rfl, rfl, rfl⟩ := hp) | skip
  · refine' fun_of ["precision", "real"] (ret_own rfl) ?hlim ?ho ?hcd ?hb ?hl ?_ ?c1 ?c2 ?c3 ?c4 rfl ?how
    (case hlim => decide)
    (case ho => k_is)
    (case hcd => k_is)
    (case hb => exact fun s => zip2 fun _ _ => BindsTo.of_eq rfl)
    (case hl => decide)
    (case c1 => exact rfl)
    (case c2 => exact rfl)
    (case c3 => exact rfl)
    (case c4 => decide)
    (case how => exact forall_cons rfl (forall_cons rfl (no_mem)))
    exact fun c O => (Ex.swap2 O (Ev.exp O (Ev.loc rfl rfl) (fun _ _ x => x)) (Ev.bits (Ev.bcall O (Evs.cons (Ev.man O (Ev.loc rfl rfl) (fun _ _ x => x)) Evs.nil) b_abs (by boot_by_name) (by k_is) rfl)) (Sx.loc rfl) (Sx.loc rfl) (Ex.swap2 O (Ev.shl (Ev.bcall O (Evs.cons (Ev.man O (Ev.loc rfl rfl) (fun _ _ x => x)) Evs.nil) b_abs (by boot_by_name) (by k_is) rfl) (Ev.sub (Ev.loc rfl rfl) (Ev.loc rfl rfl)) (by walk_at "v s")) (Ev.add (Ev.sub (Ev.loc rfl rfl) (Ev.loc rfl rfl)) (Ev.loc rfl rfl)) (Sx.loc rfl) (Sx.loc rfl) (Ex.put (Ev.sub (Ev.mul Ev.cint (Ev.loc rfl rfl) (by walk_at "v m")) (Ev.ift (Tr.cmp (cmp_eq _ _) (Ev.loc rfl rfl) (Ev.shl Ev.cint (Ev.sub (Ev.loc rfl rfl) Ev.cint) (by walk_at "v s")) (by first | rfl | exact decide_eq_true (by walk_at "v s") | exact decide_eq_false (by walk_at "v s") | exact beq_iff_eq.mpr (by walk_at "v s") | exact beq_false_of_ne (by walk_at "v s") | exact bne_iff_ne.mpr (by walk_at "v s") | exact bne_eq_false_iff_eq.mpr (by walk_at "v s") | assumption)) Ev.cint)) (Sx.loc rfl) (Ex.put (Ev.sub (Ev.loc rfl rfl) Ev.cint) (Sx.loc rfl) (Ex.ret (Ev.ift (Tr.cmp (cmp_ge _ _) (Ev.loc rfl rfl) Ev.cint (by first | rfl | exact decide_eq_true (by walk_at "v s") | exact decide_eq_false (by walk_at "v s") | exact beq_iff_eq.mpr (by walk_at "v s") | exact beq_false_of_ne (by walk_at "v s") | exact bne_iff_ne.mpr (by walk_at "v s") | exact bne_eq_false_iff_eq.mpr (by walk_at "v s") | assumption)) (Ev.tuple (ns := [_, _, _]) (Evs.cons (Ev.shl (Ev.loc rfl rfl) (Ev.loc rfl rfl) (by walk_at "v s")) (Evs.cons (Ev.shl (Ev.add (Ev.mul Ev.cint (Ev.loc rfl rfl) (by walk_at "v m")) Ev.cint) (Ev.loc rfl rfl) (by walk_at "v s")) (Evs.cons Ev.cint Evs.nil))))))))))
  · refine' fun_of ["precision", "real"] (ret_own rfl) ?hlim ?ho ?hcd ?hb ?hl ?_ ?c1 ?c2 ?c3 ?c4 rfl ?how
    (case hlim => decide)
    (case ho => k_is)
    (case hcd => k_is)
    (case hb => exact fun s => zip2 fun _ _ => BindsTo.of_eq rfl)
    (case hl => decide)
    (case c1 => exact rfl)
    (case c2 => exact rfl)
    (case c3 => exact rfl)
    (case c4 => decide)
    (case how => exact forall_cons rfl (forall_cons rfl (no_mem)))
    exact fun c O => (Ex.swap2 O (Ev.exp O (Ev.loc rfl rfl) (fun _ _ x => x)) (Ev.bits (Ev.bcall O (Evs.cons (Ev.man O (Ev.loc rfl rfl) (fun _ _ x => x)) Evs.nil) b_abs (by boot_by_name) (by k_is) rfl)) (Sx.loc rfl) (Sx.loc rfl) (Ex.swap2 O (Ev.shl (Ev.bcall O (Evs.cons (Ev.man O (Ev.loc rfl rfl) (fun _ _ x => x)) Evs.nil) b_abs (by boot_by_name) (by k_is) rfl) (Ev.sub (Ev.loc rfl rfl) (Ev.loc rfl rfl)) (by walk_at "v s")) (Ev.add (Ev.sub (Ev.loc rfl rfl) (Ev.loc rfl rfl)) (Ev.loc rfl rfl)) (Sx.loc rfl) (Sx.loc rfl) (Ex.put (Ev.sub (Ev.mul Ev.cint (Ev.loc rfl rfl) (by walk_at "v m")) (Ev.ift (Tr.cmp (cmp_eq _ _) (Ev.loc rfl rfl) (Ev.shl Ev.cint (Ev.sub (Ev.loc rfl rfl) Ev.cint) (by walk_at "v s")) (by first | rfl | exact decide_eq_true (by walk_at "v s") | exact decide_eq_false (by walk_at "v s") | exact beq_iff_eq.mpr (by walk_at "v s") | exact beq_false_of_ne (by walk_at "v s") | exact bne_iff_ne.mpr (by walk_at "v s") | exact bne_eq_false_iff_eq.mpr (by walk_at "v s") | assumption)) Ev.cint)) (Sx.loc rfl) (Ex.put (Ev.sub (Ev.loc rfl rfl) Ev.cint) (Sx.loc rfl) (Ex.ret (Ev.iff (Tr.cmp (cmp_ge _ _) (Ev.loc rfl rfl) Ev.cint (by first | rfl | exact decide_eq_true (by walk_at "v s") | exact decide_eq_false (by walk_at "v s") | exact beq_iff_eq.mpr (by walk_at "v s") | exact beq_false_of_ne (by walk_at "v s") | exact bne_iff_ne.mpr (by walk_at "v s") | exact bne_eq_false_iff_eq.mpr (by walk_at "v s") | assumption)) (Ev.tuple (ns := [_, _, _]) (Evs.cons (Ev.loc rfl rfl) (Evs.cons (Ev.add (Ev.mul Ev.cint (Ev.loc rfl rfl) (by walk_at "v m")) Ev.cint) (Evs.cons (Ev.shl Ev.cint (Ev.sub Ev.cint (Ev.loc rfl rfl)) (by walk_at "v s")) Evs.nil))))))))))
  · refine' fun_of ["precision", "real"] (ret_own rfl) ?hlim ?ho ?hcd ?hb ?hl ?_ ?c1 ?c2 ?c3 ?c4 rfl ?how
    (case hlim => decide)
    (case ho => k_is)
    (case hcd => k_is)
    (case hb => exact fun s => zip2 fun _ _ => BindsTo.of_eq rfl)
    (case hl => decide)
    (case c1 => exact rfl)
    (case c2 => exact rfl)
    (case c3 => exact rfl)
    (case c4 => decide)
    (case how => exact forall_cons rfl (forall_cons rfl (no_mem)))
    exact fun c O => (Ex.swap2 O (Ev.exp O (Ev.loc rfl rfl) (fun _ _ x => x)) (Ev.bits (Ev.bcall O (Evs.cons (Ev.man O (Ev.loc rfl rfl) (fun _ _ x => x)) Evs.nil) b_abs (by boot_by_name) (by k_is) rfl)) (Sx.loc rfl) (Sx.loc rfl) (Ex.swap2 O (Ev.shl (Ev.bcall O (Evs.cons (Ev.man O (Ev.loc rfl rfl) (fun _ _ x => x)) Evs.nil) b_abs (by boot_by_name) (by k_is) rfl) (Ev.sub (Ev.loc rfl rfl) (Ev.loc rfl rfl)) (by walk_at "v s")) (Ev.add (Ev.sub (Ev.loc rfl rfl) (Ev.loc rfl rfl)) (Ev.loc rfl rfl)) (Sx.loc rfl) (Sx.loc rfl) (Ex.put (Ev.sub (Ev.mul Ev.cint (Ev.loc rfl rfl) (by walk_at "v m")) (Ev.iff (Tr.cmp (cmp_eq _ _) (Ev.loc rfl rfl) (Ev.shl Ev.cint (Ev.sub (Ev.loc rfl rfl) Ev.cint) (by walk_at "v s")) (by first | rfl | exact decide_eq_true (by walk_at "v s") | exact decide_eq_false (by walk_at "v s") | exact beq_iff_eq.mpr (by walk_at "v s") | exact beq_false_of_ne (by walk_at "v s") | exact bne_iff_ne.mpr (by walk_at "v s") | exact bne_eq_false_iff_eq.mpr (by walk_at "v s") | assumption)) Ev.cint)) (Sx.loc rfl) (Ex.put (Ev.sub (Ev.loc rfl rfl) Ev.cint) (Sx.loc rfl) (Ex.ret (Ev.ift (Tr.cmp (cmp_ge _ _) (Ev.loc rfl rfl) Ev.cint (by first | rfl | exact decide_eq_true (by walk_at "v s") | exact decide_eq_false (by walk_at "v s") | exact beq_iff_eq.mpr (by walk_at "v s") | exact beq_false_of_ne (by walk_at "v s") | exact bne_iff_ne.mpr (by walk_at "v s") | exact bne_eq_false_iff_eq.mpr (by walk_at "v s") | assumption)) (Ev.tuple (ns := [_, _, _]) (Evs.cons (Ev.shl (Ev.loc rfl rfl) (Ev.loc rfl rfl) (by walk_at "v s")) (Evs.cons (Ev.shl (Ev.add (Ev.mul Ev.cint (Ev.loc rfl rfl) (by walk_at "v m")) Ev.cint) (Ev.loc rfl rfl) (by walk_at "v s")) (Evs.cons Ev.cint Evs.nil))))))))))
  · refine' fun_of ["precision", "real"] (ret_own rfl) ?hlim ?ho ?hcd ?hb ?hl ?_ ?c1 ?c2 ?c3 ?c4 rfl ?how
    (case hlim => decide)
    (case ho => k_is)
    (case hcd => k_is)
    (case hb => exact fun s => zip2 fun _ _ => BindsTo.of_eq rfl)
    (case hl => decide)
    (case c1 => exact rfl)
    (case c2 => exact rfl)
    (case c3 => exact rfl)
    (case c4 => decide)
    (case how => exact forall_cons rfl (forall_cons rfl (no_mem)))
    exact fun c O => (Ex.swap2 O (Ev.exp O (Ev.loc rfl rfl) (fun _ _ x => x)) (Ev.bits (Ev.bcall O (Evs.cons (Ev.man O (Ev.loc rfl rfl) (fun _ _ x => x)) Evs.nil) b_abs (by boot_by_name) (by k_is) rfl)) (Sx.loc rfl) (Sx.loc rfl) (Ex.swap2 O (Ev.shl (Ev.bcall O (Evs.cons (Ev.man O (Ev.loc rfl rfl) (fun _ _ x => x)) Evs.nil) b_abs (by boot_by_name) (by k_is) rfl) (Ev.sub (Ev.loc rfl rfl) (Ev.loc rfl rfl)) (by walk_at "v s")) (Ev.add (Ev.sub (Ev.loc rfl rfl) (Ev.loc rfl rfl)) (Ev.loc rfl rfl)) (Sx.loc rfl) (Sx.loc rfl) (Ex.put (Ev.sub (Ev.mul Ev.cint (Ev.loc rfl rfl) (by walk_at "v m")) (Ev.iff (Tr.cmp (cmp_eq _ _) (Ev.loc rfl rfl) (Ev.shl Ev.cint (Ev.sub (Ev.loc rfl rfl) Ev.cint) (by walk_at "v s")) (by first | rfl | exact decide_eq_true (by walk_at "v s") | exact decide_eq_false (by walk_at "v s") | exact beq_iff_eq.mpr (by walk_at "v s") | exact beq_false_of_ne (by walk_at "v s") | exact bne_iff_ne.mpr (by walk_at "v s") | exact bne_eq_false_iff_eq.mpr (by walk_at "v s") | assumption)) Ev.cint)) (Sx.loc rfl) (Ex.put (Ev.sub (Ev.loc rfl rfl) Ev.cint) (Sx.loc rfl) (Ex.ret (Ev.iff (Tr.cmp (cmp_ge _ _) (Ev.loc rfl rfl) Ev.cint (by first | rfl | exact decide_eq_true (by walk_at "v s") | exact decide_eq_false (by walk_at "v s") | exact beq_iff_eq.mpr (by walk_at "v s") | exact beq_false_of_ne (by walk_at "v s") | exact bne_iff_ne.mpr (by walk_at "v s") | exact bne_eq_false_iff_eq.mpr (by walk_at "v s") | assumption)) (Ev.tuple (ns := [_, _, _]) (Evs.cons (Ev.loc rfl rfl) (Evs.cons (Ev.add (Ev.mul Ev.cint (Ev.loc rfl rfl) (by walk_at "v m")) Ev.cint) (Evs.cons (Ev.shl Ev.cint (Ev.sub Ev.cint (Ev.loc rfl rfl)) (by walk_at "v s")) Evs.nil))))))))))
end Mine
end
noncomputable section
open PySem PySem.W PyProof.Rows PySem.Calls
set_option Elab.async false
set_option maxRecDepth 100000
set_option maxHeartbeats 4000000
set_option linter.all false
set_option exponentiation.threshold 5000
namespace Mine
theorem filledW7 : PySem.Challenge.rw_pc0352_01 = PySem.Challenge.rw_pc0352_01 ∧ hd.heap_39 = hd.heap_39 := by
  k_fill
  exact ⟨rfl, rfl⟩
noncomputable def AllV (P : Addr → Obj → Prop) (ws : List Value) : List Val → Prop
  | [] => ws = []
  | V :: Vs => ∃ v ws', ws = v :: ws' ∧ V.p P v ∧ AllV P ws' Vs
theorem AllV.mono {P P' : Addr → Obj → Prop} (k : ∀ a o, P a o → P' a o) : ∀ {Vs : List Val} {ws : List Value}, AllV P ws Vs → AllV P' ws Vs
  | [], _, h => h
  | V :: _, _, ⟨v, ws', e, h, t⟩ => ⟨v, ws', e, V.mono k h, t.mono k⟩
theorem AllV.len {P : Addr → Obj → Prop} : ∀ {Vs : List Val} {ws : List Value}, AllV P ws Vs → ws.length = Vs.length
  | [], _, h => congrArg _ h
  | _ :: _, _, ⟨_, _, e, _, t⟩ => e ▸ congrArg (· + 1) t.len
theorem AllV.get {P : Addr → Obj → Prop} : ∀ {Vs : List Val} {ws : List Value} {i : Nat} {V : Val}, AllV P ws Vs → Vs[i]? = some V → ∃ v, ws[i]? = some v ∧ V.p P v
  | _ :: _, _, 0, _, ⟨v, _, e, h, _⟩, q => by cases e; cases q; exact ⟨v, rfl, h⟩
  | _ :: _, _, i + 1, _, ⟨_, _, e, _, t⟩, q => by
    cases e
    obtain ⟨v, h1, h2⟩ := AllV.get (i := i) t (by simpa using q)
    exact ⟨v, by simpa using h1, h2⟩
inductive LstV (P : Addr → Obj → Prop) (v : Value) (Vs : List Val) : Prop
  | mk (r : Addr) (ws : List Value) (k : Nat) (ev : v = .ref r) (a : P r (listOf ws.toArray k)) (i : AllV P ws Vs)
@[reducible] def vLstV (Vs : List Val) : Val := ⟨true, fun P v => LstV P v Vs, fun k ⟨r, ws, n, ev, a, i⟩ => ⟨r, ws, n, ev, k _ _ a, i.mono k⟩⟩
section
variable {c : Cx} {sc : Scope} {σ σ1 : Sto} {τ τ' : Tmp} {s : Shared} {V W : Val} {r : Res} {d : Nat} {v : Value}
theorem got_all {g : Heap} {n : Led} (q : ∀ p ∈ τ, p.2.rep g n p.1) : ∀ {Vs : List Val} {vs : List Value}, Got τ vs Vs → (∀ V ∈ Vs, Ret V) → AllV (fun a o => (a, o) ∈ n) vs Vs
  | [], _, h, _ => h
  | _ :: _, _, ⟨v, vs', V, e, m, i, t⟩, k => ⟨v, vs', e, k _ (.head _) _ _ _ (into_rep i (q _ m)), got_all q t fun V hV => k V (.tail _ hV)⟩
theorem Ev.listV {es : List Expr} {Vs : List Val} {pos : Pos} (h : Evs c sc σ es Vs) (hr : ∀ V ∈ Vs, Ret V) (hz : Vs.length ≤ sizeLine := by exact Nat.le_of_ble_eq_true rfl) : Ev c sc σ (.List es pos) (vLstV Vs) := fun τ Q s S q =>
  List_ (h pos _ s S fun vs τ' s1 sub g S1 => by
    obtain ⟨mm, κ, own, cells, rest, F, N, K, Y, TI, e, l, t⟩ := S1
    have i := got_all t g hr
    refine newList_K F N (fun D h' F' N' _ => q _ _ ⟨mm, κ, (D, listOf vs.toArray 0) :: own, cells, rest, F', N', forall_cons (.inl ⟨notTab_type rfl, nofun⟩) K, Y, TI, by rw [e], fun x V hx => ?_, forall_cons ⟨D, vs, 0, rfl, .inl (.head _), i.mono fun _ _ h => .inl (.tail _ h)⟩ fun p hp => Val.rep_mono (fun _ h => .tail _ h) (t p (sub p hp))⟩) (by rw [i.len]; exact hz)
    obtain ⟨v, h1, h2⟩ := l x V hx
    exact ⟨v, h1, Val.rep_mono (fun _ h => .tail _ h) h2⟩)
/-- an element of a comprehension over pairs of ints -/
def El (c : Cx) (sc : Scope) (scope : Scope) (cl : List (Str × Addr)) (elt : Expr) (x x₂ : Str) (f : Int → Int → Int) (a b : Int) : Prop := ∀ mm C oC m₂ t u (s : Shared) all (Q : Value → Shared → Prop) E', LCg.NsObj oC m₂ → m₂ x = some (.int a t) → m₂ x₂ = some (.int b u) → (C, oC) ∈ all → Fr c.g c.L s.heap mm → News c.g c.L s.heap all →
  (∀ t' h' tk', Fr c.g c.L h' mm → News c.g c.L h' all → Q (.int (f a b) t') { s with heap := h', toks := tk' }) → wpAny (model Pg c.w) c.A (eval elt (compEnvC scope cl C (c.env sc))) Q E' s
theorem Ev.pairs {elt : Expr} {x x₂ y : Str} {px px₂ tp py pos : Pos} {k : Nat} {scope : Scope} {cl : List (Str × Addr)} {f : Int → Int → Int} (prs : List (Int × Int)) (O : Ok c d) (hy : sc.names.lookup y = some .local) (hσ : σ.lookup y = some (vLstV (prs.map fun p => vTup [p.1, p.2]))) (he : ∀ p ∈ prs, El c sc scope cl elt x x₂ f p.1 p.2)
    (hclos : closureFor scope (c.env sc) = pure cl) (hcell : ∀ y ∈ scope.names, y.2 ≠ .cell) (hkind : scope.kind = .function)
    (hnames : ∀ y ∈ scope.names, y.2 = .local → scope.names.lookup y.1 = some .local) (hx : scope.names.lookup x = some .local) (hx₂ : scope.names.lookup x₂ = some .local) (hxx : x ≠ x₂) (hz : prs.length ≤ sizeLine := by exact Nat.le_of_ble_eq_true rfl) (hk : sc.kind = .function := by rfl) (hd : (y == ("__debug__" : Str)) = false := by decide) (hs : ∀ v, foldedSetIterable (.Name y py) (c.env sc) v = pure v := by intro _; rfl) :
    Ev c sc σ (.ListComp elt [⟨.Tuple [.Name x px, .Name x₂ px₂] k tp, .Name y py, [], 0⟩] scope pos) (vLst (prs.map fun p => f p.1 p.2)) := fun τ Q s S q => by
  have go := S.open_
  obtain ⟨mm, κ, own, cells, rest, F, N, K, Y, TI, e, l, t⟩ := S
  obtain ⟨v, hv, rv⟩ := l y _ hσ
  obtain ⟨r, ws, n, rfl, hm, al⟩ := ret_own (V := vLstV _) rfl _ _ _ rv
  have S0 : St c sc σ τ s := ⟨mm, κ, own, cells, rest, F, N, K, Y, TI, e, l, t⟩
  have fin : ∀ ys, Ints ys (prs.map fun p => f p.1 p.2) → ∀ g, LCg.FinE c.g c.L mm { s with heap := g } Q ys (own ++ (cells ++ rest)) := fun ys hi g D h tk F' N' _ =>
    q _ _ ⟨mm, κ, (D, listOf ys.toArray ys.length) :: own, cells, rest, F', N', forall_cons (.inl ⟨notTab_type rfl, nofun⟩) K, Y, TI, by rw [e], fun x V hx => let ⟨v, h1, h2⟩ := l x V hx; ⟨v, h1, Val.rep_mono (fun _ h => .tail _ h) h2⟩, forall_cons ⟨D, ys, _, rfl, .inl (.head _), hi⟩ fun p hp => Val.rep_mono (fun _ h => .tail _ h) (t p hp)⟩
  refine LCp.ListComp_P (F₀ := F) hclos hcell hkind hnames hx hx₂ hxx ?_ hs
  refine nameX_L F (hv.loc hy) ?_ hk hy hd
  have key : ∀ g (ps : List (Int × Int)) (i : Nat) (ys : List Value), (∀ p ∈ ps, p ∈ prs) → (∀ j p, ps[j]? = some p → ∃ t, ws[i + j]? = some t ∧ TupIn (fun a o => (a, o) ∈ own) t [p.1, p.2]) →
      (∀ zs, Ints zs (ps.map fun p => f p.1 p.2) → Ints (ys ++ zs) (prs.map fun p => f p.1 p.2)) → LCp.CompRestP Pg c.w c.A c.g c.L mm (c.env sc) elt x x₂ scope cl { s with heap := g } (LCg.SrcAt c.g r ws.toArray) (fun i v => ws.toArray[i]? = some v) (LCg.FinE c.g c.L mm { s with heap := g } Q) ps.length i ys (own ++ (cells ++ rest)) := fun g ps => by
    induction ps with
    | nil => exact fun i ys _ _ hz => LCp.CompRestP.zero (fin ys (by simpa using hz [] rfl) g)
    | cons p ps ih =>
      intro i ys hin hat hz
      refine LCp.CompRestP.succ fun v hv => ?_
      obtain ⟨t0, h0, r', ws', k', rfl, hm', t1, _, rfl, t2, _, rfl, rfl⟩ := hat 0 p rfl
      have hv' : ws[i]? = some v := by simpa using hv
      rw [Nat.add_zero, hv'] at h0
      cases h0
      refine ⟨r', _, .int p.1 t1, .int p.2 t2, k', rfl, List.mem_append_left _ hm', rfl, rfl, fun I oI C oC D m₂ h tk E' hC hx1 hx2 F' N' off ne => ?_⟩
      refine he p (hin p (.head _)) mm C oC m₂ t1 t2 _ _ _ _ hC hx1 hx2 (.tail _ (.head _)) F' N' fun t' h' tk' F2 N2 => ?_
      refine ⟨h', tk', _, rfl, F2, N2, off, .inr ⟨_, List.mem_append_left _ hm, rfl, _, rfl⟩, ih (i + 1) (ys ++ [.int (f p.1 p.2) t']) (fun p hp => hin p (.tail _ hp)) (fun j p hj => ?_) fun zs hzs => ?_⟩
      · have := hat (j + 1) p (by simpa using hj)
        rwa [show i + (j + 1) = i + 1 + j by omega] at this
      · rw [List.append_assoc]
        exact hz _ ⟨t', zs, rfl, hzs⟩
  have len : ws.length = prs.length := by rw [al.len, List.length_map]
  refine LCp.SrcLP.ledger (its := ws.toArray) O.R.h F N (List.mem_append_left _ hm) (by rw [List.size_toArray, len]; exact hz) fun g => ?_
  rw [List.size_toArray, len]
  refine key g prs 0 [] (fun _ h => h) (fun j p hj => ?_) (fun zs h => h)
  obtain ⟨v, h1, h2⟩ := al.get (i := j) (V := vTup [p.1, p.2]) (by rw [List.getElem?_map, hj]; rfl)
  exact ⟨v, by rw [Nat.zero_add]; exact h1, h2⟩
theorem el_fdiv {scope : Scope} {cl : List (Str × Addr)} {x x₂ : Str} {p1 p2 p3 : Pos} {a b : Int} (hb : divOk b) (hk : scope.kind = .function) (h1 : scope.names.lookup x = some .local) (h2 : scope.names.lookup x₂ = some .local) (d1 : (x == ("__debug__" : Str)) = false := by decide) (d2 : (x₂ == ("__debug__" : Str)) = false := by decide) : El c sc scope cl (.BinOp (.Name x p1) .FloorDiv (.Name x₂ p2) p3) x x₂ Int.fdiv a b := fun mm C oC m₂ t u s all Q E' hC hx hx₂ hm F N q =>
  wpAny_BinOp (LCgL.ld_own N hm hC hx (LCgL.ld_own N hm hC hx₂ (div_rule hb (q _ _ _ F N)) hk (lookup_relabel_local h2) d2) hk (lookup_relabel_local h1) d1)
theorem el_up {scope : Scope} {cl : List (Str × Addr)} {x x₂ : Str} {p0 p1 p2 p3 : Pos} {a b : Int} (O : Ok c d) (hr : d ≤ 890) (hb : divOk b) (hk : scope.kind = .function) (h1 : scope.names.lookup x = some .local) (h2 : scope.names.lookup x₂ = some .local) (hg : ∀ C, (compEnvC scope cl C (c.env sc)).kindOf ("up_over" : Str) = some .globalImplicit) (d1 : (x == ("__debug__" : Str)) = false := by decide) (d2 : (x₂ == ("__debug__" : Str)) = false := by decide) : El c sc scope cl (.Call (.Name "up_over" p0) [.Name x p1, .Name x₂ p2] [] p3) x x₂ (fun a b => 0 - (0 - a).fdiv b) a b := fun mm C oC m₂ t u s all Q E' hC hx hx₂ hm F N q => by
  refine Call_ (LCgL.ld_global F O.X O.T (by k_is) ?_ rfl hk (hg C))
  refine callWith_K O.X (by k_is) ?_
  refine args_cons (LCgL.ld_own N hm hC hx (args_cons (LCgL.ld_own N hm hC hx₂ (args_nil ⟨Frag.In.keeps O.X F.keep, ?_⟩) hk (lookup_relabel_local h2) d2)) hk (lookup_relabel_local h1) d1)
  exact f_up_over c.w a b hb _ (baseAt O.X O.T F) ⟨_, _, rfl, ⟨_, rfl⟩, _, _, rfl, ⟨_, rfl⟩, rfl⟩ c.A Q E' ⟨O.R.h, Nat.le_trans O.R.d hr, Nat.le_trans O.R.u (Nat.mul_le_mul_left 10 hr)⟩ fun v h' tk k ⟨_, _, t', e⟩ => e ▸ q t' h' tk (Mine.after F k) (afterN N k)
end
end Mine
end
noncomputable section
open PySem PySem.W PyProof.Rows PySem.Calls
set_option Elab.async false
set_option maxRecDepth 100000
set_option maxHeartbeats 4000000
set_option linter.all false
set_option exponentiation.threshold 5000
namespace Mine
theorem filledW8 : PySem.Challenge.rw_pc0352_01 = PySem.Challenge.rw_pc0352_01 ∧ hd.heap_39 = hd.heap_39 := by
  k_fill
  exact ⟨rfl, rfl⟩
theorem f_quotient_of (w : World) (work : Int) (one0 one1 : Int) (other0 other1 : Int) {r0 r1 : Int} (hp : quotF work (one0, one1) (other0, other1) = some (r0, r1)) : Fun w 870 252 [vInt work, eTup [one0, one1], eTup [other0, other1]] (vTup [r0, r1]) := by
  unfold quotF at hp
  (repeat' split at hp)
  all_goals first | (cases hp; done) | skip
  all_goals (try simp only [Option.bind_eq_some_iff, Prod.exists, Option.some.injEq, Prod.mk.injEq] at hp)
  all_goals first | (obtain ⟨rfl, rfl⟩ := hp) | skip
  · refine' fun_of ["work", "one", "other"] (ret_own rfl) ?hlim ?ho ?hcd ?hb ?hl ?_ ?c1 ?c2 ?c3 ?c4 rfl ?how
    (case hlim => decide)
    (case ho => k_is)
    (case hcd => k_is)
    (case hb => exact fun s => zip3 fun _ _ _ => BindsTo.of_eq rfl)
    (case hl => decide)
    (case c1 => exact rfl)
    (case c2 => exact rfl)
    (case c3 => exact rfl)
    (case c4 => decide)
    (case how => exact forall_cons rfl (forall_cons rfl (forall_cons rfl (no_mem))))
    exact fun c O => (Ex.swap2 O (Ev.shl (Ev.item 0 (Ev.loc rfl rfl) (fun _ _ x => x) rfl) (Ev.loc rfl rfl) (by walk_at "v s")) (Ev.shl (Ev.item 1 (Ev.loc rfl rfl) (fun _ _ x => x) rfl) (Ev.loc rfl rfl) (by walk_at "v s")) (Sx.loc rfl) (Sx.loc rfl) (Ex.put (Ev.listV (Evs.cons (Ev.tuple (ns := [_, _]) (Evs.cons (Ev.loc rfl rfl) (Evs.cons (Ev.item 0 (Ev.loc rfl rfl) (fun _ _ x => x) rfl) Evs.nil))) (Evs.cons (Ev.tuple (ns := [_, _]) (Evs.cons (Ev.loc rfl rfl) (Evs.cons (Ev.item 1 (Ev.loc rfl rfl) (fun _ _ x => x) rfl) Evs.nil))) (Evs.cons (Ev.tuple (ns := [_, _]) (Evs.cons (Ev.loc rfl rfl) (Evs.cons (Ev.item 0 (Ev.loc rfl rfl) (fun _ _ x => x) rfl) Evs.nil))) (Evs.cons (Ev.tuple (ns := [_, _]) (Evs.cons (Ev.loc rfl rfl) (Evs.cons (Ev.item 1 (Ev.loc rfl rfl) (fun _ _ x => x) rfl) Evs.nil))) Evs.nil)))) (forall_cons (ret_own rfl) (forall_cons (ret_own rfl) (forall_cons (ret_own rfl) (forall_cons (ret_own rfl) (no_mem)))))) (Sx.loc rfl) (Ex.ret (Ev.tuple (ns := [_, _]) (Evs.cons (Ev.bcall O (Evs.cons (Ev.pairs [(_, _), (_, _), (_, _), (_, _)] O rfl rfl (forall_cons (el_fdiv (by walk_at "v s") rfl rfl rfl) (forall_cons (el_fdiv (by walk_at "v s") rfl rfl rfl) (forall_cons (el_fdiv (by walk_at "v s") rfl rfl rfl) (forall_cons (el_fdiv (by walk_at "v s") rfl rfl rfl) (no_mem))))) (by with_unfolding_all rfl) (by decide) rfl (by decide) rfl rfl (by decide)) Evs.nil) (b_min4 O) (by boot_by_name) (by k_is) rfl) (Evs.cons (Ev.bcall O (Evs.cons (Ev.pairs [(_, _), (_, _), (_, _), (_, _)] O rfl rfl (forall_cons (el_up O (Nat.le_of_ble_eq_true rfl) (by walk_at "v s") rfl rfl rfl (fun _ => rfl)) (forall_cons (el_up O (Nat.le_of_ble_eq_true rfl) (by walk_at "v s") rfl rfl rfl (fun _ => rfl)) (forall_cons (el_up O (Nat.le_of_ble_eq_true rfl) (by walk_at "v s") rfl rfl rfl (fun _ => rfl)) (forall_cons (el_up O (Nat.le_of_ble_eq_true rfl) (by walk_at "v s") rfl rfl rfl (fun _ => rfl)) (no_mem))))) (by with_unfolding_all rfl) (by decide) rfl (by decide) rfl rfl (by decide)) Evs.nil) (b_max4 O) (by boot_by_name) (by k_is) rfl) Evs.nil))))))

theorem f_asin_none (w : World) (work : Int) (realm reale : Int)  (hp : asinbG work realm reale = some none) : Fun w 800 357 [vInt work, eReal realm reale] (vNone) := by
  unfold asinbG at hp
  simp only [Option.bind_eq_some_iff, Prod.exists] at hp
  obtain ⟨f0, f1, hf, hp⟩ := hp
  (repeat' split at hp)
  all_goals first | (cases hp; done) | skip
  all_goals (try simp only [Option.bind_eq_some_iff, Prod.exists, Option.some.injEq, Prod.mk.injEq] at hp)
  obtain ⟨w0, w1, hw, hp⟩ := hp
  split at hp
  all_goals first | (cases hp; done) | skip
  all_goals (try simp only [Option.bind_eq_some_iff, Prod.exists, Option.some.injEq, Prod.mk.injEq, reduceCtorEq, and_false, exists_false] at hp)
  · refine' fun_of ["work", "real"] (ret_self fun _ _ _ x => x) ?hlim ?ho ?hcd ?hb ?hl ?_ ?c1 ?c2 ?c3 ?c4 rfl ?how
    (case hlim => decide)
    (case ho => k_is)
    (case hcd => k_is)
    (case hb => exact fun s => zip2 fun _ _ => BindsTo.of_eq rfl)
    (case hl => decide)
    (case c1 => exact rfl)
    (case c2 => exact rfl)
    (case c3 => exact rfl)
    (case c4 => decide)
    (case how => exact forall_cons rfl (forall_cons rfl (no_mem)))
    exact fun c O => (Ex.unp2 O (Ev.call O (Evs.cons (Ev.loc rfl rfl) Evs.nil) (f_fraction_of _ _ _ (by walk_at "v s")) (by k_is) (by k_is) (Nat.le_of_ble_eq_true rfl) rfl) (fun _ _ x => x) (Sx.loc rfl) (Sx.loc rfl) (Ex.put (Ev.call O (Evs.cons (Ev.loc rfl rfl) (Evs.cons (Ev.sub (Ev.mul (Ev.loc rfl rfl) (Ev.loc rfl rfl) (by walk_at "v m")) (Ev.mul (Ev.loc rfl rfl) (Ev.loc rfl rfl) (by walk_at "v m"))) (Evs.cons (Ev.mul (Ev.loc rfl rfl) (Ev.loc rfl rfl) (by walk_at "v m")) Evs.nil))) (f_root_bounds _ _ _ _ (by walk_at "v s")) (by k_is) (by k_is) (Nat.le_of_ble_eq_true rfl) rfl) (Sx.loc rfl) (Ex.ifr (Tr.cmp (cmp_le _ _) (Ev.item 0 (Ev.loc rfl rfl) (fun _ _ x => x) rfl) Ev.cint (by first | rfl | exact decide_eq_true (by walk_at "v s") | exact decide_eq_false (by walk_at "v s") | exact beq_iff_eq.mpr (by walk_at "v s") | exact beq_false_of_ne (by walk_at "v s") | exact bne_iff_ne.mpr (by walk_at "v s") | exact bne_eq_false_iff_eq.mpr (by walk_at "v s") | assumption)) (Ex.ret Ev.cnone))))

theorem f_asin_some (w : World) (work : Int) (realm reale : Int) {r0 r1 : Int} (hp : asinbG work realm reale = some (some (r0, r1))) : Fun w 800 357 [vInt work, eReal realm reale] (vTup [r0, r1]) := by
  unfold asinbG at hp
  simp only [Option.bind_eq_some_iff, Prod.exists] at hp
  obtain ⟨f0, f1, hf, hp⟩ := hp
  (repeat' split at hp)
  all_goals first | (cases hp; done) | skip
  all_goals (try simp only [Option.bind_eq_some_iff, Prod.exists, Option.some.injEq, Prod.mk.injEq] at hp)
  obtain ⟨w0, w1, hw, hp⟩ := hp
  split at hp
  all_goals first | (cases hp; done) | skip
  all_goals (try simp only [Option.bind_eq_some_iff, Prod.exists, Option.some.injEq, Prod.mk.injEq, reduceCtorEq, and_false, exists_false] at hp)
  obtain ⟨q0, q1, hq, r0, r1, hr, rfl, rfl⟩ := hp
  · refine' fun_of ["work", "real"] (ret_own rfl) ?hlim ?ho ?hcd ?hb ?hl ?_ ?c1 ?c2 ?c3 ?c4 rfl ?how
    (case hlim => decide)
    (case ho => k_is)
    (case hcd => k_is)
    (case hb => exact fun s => zip2 fun _ _ => BindsTo.of_eq rfl)
    (case hl => decide)
    (case c1 => exact rfl)
    (case c2 => exact rfl)
    (case c3 => exact rfl)
    (case c4 => decide)
    (case how => exact forall_cons rfl (forall_cons rfl (no_mem)))
    exact fun c O => (Ex.unp2 O (Ev.call O (Evs.cons (Ev.loc rfl rfl) Evs.nil) (f_fraction_of _ _ _ (by walk_at "v s")) (by k_is) (by k_is) (Nat.le_of_ble_eq_true rfl) rfl) (fun _ _ x => x) (Sx.loc rfl) (Sx.loc rfl) (Ex.put (Ev.call O (Evs.cons (Ev.loc rfl rfl) (Evs.cons (Ev.sub (Ev.mul (Ev.loc rfl rfl) (Ev.loc rfl rfl) (by walk_at "v m")) (Ev.mul (Ev.loc rfl rfl) (Ev.loc rfl rfl) (by walk_at "v m"))) (Evs.cons (Ev.mul (Ev.loc rfl rfl) (Ev.loc rfl rfl) (by walk_at "v m")) Evs.nil))) (f_root_bounds _ _ _ _ (by walk_at "v s")) (by k_is) (by k_is) (Nat.le_of_ble_eq_true rfl) rfl) (Sx.loc rfl) (Ex.ifp (Tr.cmp (cmp_le _ _) (Ev.item 0 (Ev.loc rfl rfl) (fun _ _ x => x) rfl) Ev.cint (by first | rfl | exact decide_eq_true (by walk_at "v s") | exact decide_eq_false (by walk_at "v s") | exact beq_iff_eq.mpr (by walk_at "v s") | exact beq_false_of_ne (by walk_at "v s") | exact bne_iff_ne.mpr (by walk_at "v s") | exact bne_eq_false_iff_eq.mpr (by walk_at "v s") | assumption)) (Ex.ret (Ev.call O (Evs.cons (Ev.loc rfl rfl) (Evs.tup (Ev.call O (Evs.cons (Ev.loc rfl rfl) (Evs.tup (Ev.call O (Evs.cons (Ev.loc rfl rfl) (Evs.cons (Ev.loc rfl rfl) (Evs.cons (Ev.loc rfl rfl) Evs.nil))) (f_fraction_bounds _ _ _ _ (by walk_at "v s") (by walk_at "v s")) (by k_is) (by k_is) (Nat.le_of_ble_eq_true rfl) rfl) (Evs.tup (Ev.loc rfl rfl) Evs.nil))) (f_quotient_of _ _ _ _ _ _ (by walk_at "v s")) (by k_is) (by k_is) (Nat.le_of_ble_eq_true rfl) rfl) Evs.nil)) (f_arc_within _ _ _ _ (by walk_at "v s")) (by k_is) (by k_is) (Nat.le_of_ble_eq_true rfl) rfl)))))

theorem f_acos_bounds (w : World) (work : Int) (realm reale : Int) {r0 r1 : Int} (hp : acosbF work realm reale = some (r0, r1)) : Fun w 800 378 [vInt work, eReal realm reale] (vTup [r0, r1]) := by
  unfold acosbF at hp
  simp only [Option.bind_eq_some_iff, Prod.exists, Option.some.injEq, Prod.mk.injEq] at hp
  obtain ⟨f0, f1, hf, w0, w1, hw, q0, q1, hq, rfl, rfl⟩ := hp
  · refine' fun_of ["work", "real"] (ret_own rfl) ?hlim ?ho ?hcd ?hb ?hl ?_ ?c1 ?c2 ?c3 ?c4 rfl ?how
    (case hlim => decide)
    (case ho => k_is)
    (case hcd => k_is)
    (case hb => exact fun s => zip2 fun _ _ => BindsTo.of_eq rfl)
    (case hl => decide)
    (case c1 => exact rfl)
    (case c2 => exact rfl)
    (case c3 => exact rfl)
    (case c4 => decide)
    (case how => exact forall_cons rfl (forall_cons rfl (no_mem)))
    exact fun c O => (Ex.unp2 O (Ev.call O (Evs.cons (Ev.loc rfl rfl) Evs.nil) (f_fraction_of _ _ _ (by walk_at "v s")) (by k_is) (by k_is) (Nat.le_of_ble_eq_true rfl) rfl) (fun _ _ x => x) (Sx.loc rfl) (Sx.loc rfl) (Ex.ret (Ev.call O (Evs.tup (Ev.call O (Evs.cons (Ev.loc rfl rfl) (Evs.tup (Ev.call O (Evs.cons (Ev.loc rfl rfl) (Evs.cons (Ev.sub (Ev.loc rfl rfl) (Ev.loc rfl rfl)) (Evs.cons (Ev.add (Ev.loc rfl rfl) (Ev.loc rfl rfl)) Evs.nil))) (f_root_bounds _ _ _ _ (by walk_at "v s")) (by k_is) (by k_is) (Nat.le_of_ble_eq_true rfl) rfl) Evs.nil)) (f_arc_within _ _ _ _ (by walk_at "v s")) (by k_is) (by k_is) (Nat.le_of_ble_eq_true rfl) rfl) (Evs.cons Ev.cint Evs.nil)) (f_often _ _ _ _ (by walk_at "v s")) (by k_is) (by k_is) (Nat.le_of_ble_eq_true rfl) rfl)))
end Mine
end
noncomputable section
open PySem PySem.W PyProof.Rows PySem.Calls
set_option Elab.async false
set_option maxRecDepth 100000
set_option maxHeartbeats 4000000
set_option linter.all false
set_option exponentiation.threshold 5000
set_option genInjectivity false
set_option genSizeOf false
namespace Mine
theorem filledW9 : PySem.Challenge.rw_pc0352_01 = PySem.Challenge.rw_pc0352_01 ∧ hd.heap_39 = hd.heap_39 := by
  k_fill
  exact ⟨rfl, rfl⟩
/-- the inner side of a state: what its frame's names and its ledger tell -/
inductive Inn (c : Cx) (sc : Scope) (σ : Sto) (mm : Str → Option Value) (news : Led) : Prop
  | mk (κ : Str → Option Value) (own cells rest : Led) (en : news = own ++ (cells ++ rest)) (K : ∀ p ∈ own, Plain p.2) (Y : CellsAre κ c.cc cells) (TI : c.T rest) (l : ∀ x V, σ.lookup x = some V → ∃ v, Holds c sc mm κ x v ∧ V.rep c.g own v)
@[reducible] def vObj (a : Addr) (o : Obj) : Val := ⟨true, fun P v => v = .ref a ∧ P a o, fun k h => ⟨h.1, k _ _ h.2⟩⟩
/-- it does not stand on a range's iterator -/
def Solid (V : Val) : Prop := ∀ P v, V.p P v → V.p (fun a o => P a o ∧ ∀ x y, o ≠ itR x y) v
theorem solid_self {V : Val} (h : ∀ P P' v, V.p P v → V.p P' v) : Solid V := fun _ _ x => h _ _ _ x
theorem itR_ne {o : Obj} {n : String} (h : o.cls = .type n) (hn : n ≠ "range_iterator") (x y : Int) : o ≠ itR x y := fun q => hn (Value.type.inj (h.symm.trans (congrArg Obj.cls q)))
theorem solid_lst {ns : List Int} : Solid (vLst ns) := fun _ _ ⟨r, ws, k, ev, a, i⟩ => ⟨r, ws, k, ev, ⟨a, itR_ne rfl (by decide)⟩, i⟩
section
variable {c : Cx} {sc : Scope} {σ σ1 : Sto} {τ τ' : Tmp} {s : Shared} {V W : Val} {r : Res} {d : Nat} {v : Value} {mm : Str → Option Value} {news : Led}
theorem Inn.st (h : Inn c sc σ mm news) (F : Fr c.g c.L s.heap mm) (N : News c.g c.L s.heap news) (e : s = { c.s0 with heap := s.heap, toks := s.toks }) : St c sc σ [] s :=
  let ⟨κ, own, cells, rest, en, K, Y, TI, l⟩ := h; ⟨mm, κ, own, cells, rest, F, en ▸ N, K, Y, TI, e, l, no_mem⟩
inductive Inner (c : Cx) (sc : Scope) (σ : Sto) (s : Shared) : Prop
  | mk (mm : Str → Option Value) (news : Led) (F : Fr c.g c.L s.heap mm) (N : News c.g c.L s.heap news) (I : Inn c sc σ mm news) (e : s = { c.s0 with heap := s.heap, toks := s.toks })
theorem St.inner (S : St c sc σ τ s) : Inner c sc σ s := let ⟨mm, κ, own, cells, rest, F, N, K, Y, TI, e, l, t⟩ := S; ⟨mm, _, F, N, ⟨κ, own, cells, rest, rfl, K, Y, TI, l⟩, e⟩
theorem Inn.set (h : Inn c sc σ mm news) {x : Str} {v : Value} (hx : sc.names.lookup x = some .local) (hv : ∀ g n, V.rep g n v) : Inn c sc ((x, V) :: σ) (fun y => if y = x then some v else mm y) news := by
  obtain ⟨κ, own, cells, rest, en, K, Y, TI, l⟩ := h
  refine ⟨κ, own, cells, rest, en, K, Y, TI, fun y W hy => ?_⟩
  rcases look_cons hy with ⟨rfl, rfl⟩ | ⟨n, hy⟩
  · exact ⟨v, ⟨fun _ => if_pos rfl, fun h => (by rw [hx] at h; cases h), fun h => (by rw [hx] at h; cases h)⟩, hv _ _⟩
  · obtain ⟨u, hu, r⟩ := l y W hy
    exact ⟨u, ⟨fun h => (if_neg n).trans (hu.loc h), hu.cel, hu.fre⟩, r⟩
theorem Inn.pin (h : Inn c sc σ mm news) {x : Str} {a : Addr} {o : Obj} (hx : sc.names.lookup x = none) (hp : Plain o) : Inn c sc ((x, vObj a o) :: σ) mm ((a, o) :: news) := by
  obtain ⟨κ, own, cells, rest, en, K, Y, TI, l⟩ := h
  refine ⟨κ, (a, o) :: own, cells, rest, by rw [en]; rfl, forall_cons hp K, Y, TI, fun y W hy => ?_⟩
  rcases look_cons hy with ⟨rfl, rfl⟩ | ⟨n, hy⟩
  · exact ⟨.ref a, ⟨fun h => (by rw [hx] at h; cases h), fun h => (by rw [hx] at h; cases h), fun h => (by rw [hx] at h; cases h)⟩, rfl, .inl (.head _)⟩
  · obtain ⟨u, hu, r⟩ := l y W hy
    exact ⟨u, hu, Val.rep_mono (fun _ h => .tail _ h) r⟩
theorem cells_off {κ : Str → Option Value} {cs : List (Str × Addr)} {cells : Led} (Y : CellsAre κ cs cells) : ∀ p ∈ cells, ∃ v, p.2.data = .cell v := by
  induction Y with
  | nil => exact no_mem
  | cons hd _ ih => exact forall_cons ⟨_, hd⟩ ih
/-- the iterator taken off the ledger -/
theorem Inn.unpin (O : Ok c d) {h : Heap} {x : Str} {a : Addr} {p q : Int} (N : News c.g c.L h news) (hI : Inn c sc σ1 mm news) (hit : σ1.lookup x = some (vObj a (itR p q))) (hs : ∀ x V, σ.lookup x = some V → σ1.lookup x = some V ∧ Solid V) :
    ∃ news', (∀ p ∈ news', p ∈ news) ∧ (∀ p ∈ news', p.1 ≠ a) ∧ (a, itR p q) ∈ news ∧ Inn c sc σ mm news' := by
  obtain ⟨κ, own, cells, rest, rfl, K, Y, TI, l⟩ := hI
  obtain ⟨v, _, hv⟩ := l x _ hit
  have hm : (a, itR p q) ∈ own := hv.2.elim id fun y => nomatch y.1
  have ha := (N _ (List.mem_append_left _ hm)).1
  have ne : ∀ b o, (b, o) ∈ own ++ (cells ++ rest) → (∀ x y, o ≠ itR x y) → b ≠ a := fun b o hb ho e => by
    have := (N _ hb).1
    rw [show b = a from e, ha] at this
    exact ho _ _ (Option.some.inj this).symm
  refine ⟨own.filter (fun p => decide (p.1 ≠ a)) ++ (cells ++ rest), fun p hp => (List.mem_append.mp hp).elim (fun h => List.mem_append_left _ (List.mem_filter.mp h).1) (List.mem_append_right _), fun p hp => (List.mem_append.mp hp).elim (fun h => of_decide_eq_true (List.mem_filter.mp h).2) fun h => ?_, List.mem_append_left _ hm, κ, _, cells, rest, rfl, fun p hp => K p (List.mem_filter.mp hp).1, Y, TI, fun y W hy => ?_⟩
  · refine ne p.1 p.2 (List.mem_append_right _ h) ?_
    rcases List.mem_append.mp h with h | h
    · obtain ⟨v, e⟩ := cells_off Y p h
      exact fun x y q => by rw [q] at e; cases e
    · exact (O.cap rest TI p h).2
  · obtain ⟨h1, h2⟩ := hs y W hy
    obtain ⟨u, hu, r⟩ := l y W h1
    exact ⟨u, hu, W.mono (fun b o ⟨z, k⟩ => z.imp (fun m => List.mem_filter.mpr ⟨m, decide_eq_true (ne b o (List.mem_append_left _ m) k)⟩) id) (h2 _ _ r)⟩
/-- for x in range(..): by what holds after i turns -/
theorem For_range {α : Type} {x : Str} {px pos : Pos} {iter : Expr} {body : List Stmt} {a b : Int} {n : Nat} (S : α → Sto) (P : Nat → α → Prop) {Q : Flow → Shared → Prop} (O : Ok c d) (hx : sc.names.lookup x = some .local)
    (hiter : ∀ mm news (Q : Value → Shared → Prop) s, Fr c.g c.L s.heap mm → News c.g c.L s.heap news → (∀ r h' tk t₁ u₁ v₁, IsRange h' r a b 1 t₁ u₁ v₁ → Fr c.g c.L h' mm → News c.g c.L h' news → Q (.ref r) { s with heap := h', toks := tk }) → wpAny (model Pg c.w) c.A (eval iter (c.env sc)) Q noE s)
    (hsmall : Builtin.Range.small a b 1 = true) (hn : Builtin.Range.rangeSize a b 1 = (n : Int)) (hit : sc.names.lookup ("%" : Str) = none) (hS : ∀ z y V, (S z).lookup y = some V → Solid V)
    (a0 : α) (h0 : P 0 a0)
    (turn : ∀ i z I p q, i < n → P i z → ∃ z' σ', P (i + 1) z' ∧ Ex c sc ((("%" : Str), vObj I (itR p q)) :: (x, vInt (a + (i : Int))) :: S z) body (.next σ') ∧ σ'.lookup ("%" : Str) = some (vObj I (itR p q)) ∧ ∀ p ∈ S z', σ'.lookup p.1 = some p.2)
    (Sσ : St c sc (S a0) [] s) (done : ∀ z s', P n z → St c sc (S z) [] s' → Q .next s') (hk : sc.kind = .function) (hs : ∀ v, foldedSetIterable iter (c.env sc) v = pure v) : wpAny (model Pg c.w) c.A (exec (.For (.Name x px) iter body [] pos) (c.env sc)) Q noE s := by
  obtain ⟨mm, news, F, N, I0, e⟩ := Sσ.inner
  have hp : ((c.env sc).scope.kind == .class || ((c.env sc).scope.kind == .module && (c.env sc).locals != (c.env sc).globals)) = false := by show (sc.kind == .class || (sc.kind == .module && c.L != mainGlobals)) = false; rw [hk]; rfl
  refine For_invV c.g hx hp (hiter mm news _ s F N fun r h' tk t₁ u₁ v₁ hr F' N' => ?_) hs (by passes_own)
  refine iter_rangeUnr (s := { s with heap := h', toks := tk }) O.R.h hr hsmall hn F' N' fun I hI => ?_
  have key : ∀ k i z m nw, i + k = n → P i z → Inn c sc (S z) m nw → (∀ p ∈ nw, p.1 ≠ I) → RangeRest Pg c.w c.A noE c.g (c.env sc) x body Q { s with heap := h', toks := tk } I a n k i m nw := by
    intro k
    induction k with
    | zero =>
      intro i z m nw hi hP hIn _
      cases hi
      exact RangeRest.zero fun h tk F1 N1 => done z _ hP (hIn.st F1 N1 (by rw [e]))
    | succ k ih =>
      intro i z m nw hi hP hIn hoff
      refine RangeRest.succ fun t h tk F1 N1 => ?_
      obtain ⟨z', σ', hP', hE, h1, h2⟩ := turn i z I (a + ((i + 1 : Nat) : Int)) ((n : Int) - ((i + 1 : Nat) : Int)) (by omega) hP
      have S1 : St c sc ((("%" : Str), vObj I (itR (a + ((i + 1 : Nat) : Int)) ((n : Int) - ((i + 1 : Nat) : Int)))) :: (x, vInt (a + (i : Int))) :: S z) [] { s with heap := h, toks := tk } := ((hIn.set (V := vInt (a + (i : Int))) hx fun _ _ => ⟨t, rfl⟩).pin hit (.inl ⟨notTab_type rfl, fun v q => nomatch (show Data.fields _ = Data.cell v from q)⟩)).st F1 N1 (by rw [e])
      refine hE _ S1 fun s2 S2 => ?_
      obtain ⟨m2, nw2, F2, N2, I2, e2⟩ := S2.inner
      obtain ⟨nw3, sub, off, hm, I3⟩ := I2.unpin O N2 h1 (σ := S z') fun y V hy => ⟨sub_of h2 y V hy, hS z' y V hy⟩
      exact ⟨s2.heap, s2.toks, m2, nw3, by rw [e2, e], F2, forall_cons (N2 _ hm) fun p hp => N2 p (sub p hp), off, ih (i + 1) z' m2 nw3 (by omega) hP' I3 off⟩
  exact key n 0 a0 mm news (Nat.zero_add n) h0 I0 fun p hp => Nat.ne_of_lt (hI p hp)
theorem Ex.range {α : Type} {x : Str} {px pos : Pos} {iter : Expr} {body rest : List Stmt} {a b : Int} (n : Nat) (S : α → Sto) (P : Nat → α → Prop) (O : Ok c d) (hx : sc.names.lookup x = some .local)
    (hiter : ∀ mm news (Q : Value → Shared → Prop) s, Fr c.g c.L s.heap mm → News c.g c.L s.heap news → (∀ r h' tk t₁ u₁ v₁, IsRange h' r a b 1 t₁ u₁ v₁ → Fr c.g c.L h' mm → News c.g c.L h' news → Q (.ref r) { s with heap := h', toks := tk }) → wpAny (model Pg c.w) c.A (eval iter (c.env sc)) Q noE s)
    (hsmall : Builtin.Range.small a b 1 = true) (hn : Builtin.Range.rangeSize a b 1 = (n : Int)) (hit : sc.names.lookup ("%" : Str) = none) (hS : ∀ z y V, (S z).lookup y = some V → Solid V)
    (a0 : α) (h0 : P 0 a0)
    (turn : ∀ i z I p q, i < n → P i z → ∃ z' σ', P (i + 1) z' ∧ Ex c sc ((("%" : Str), vObj I (itR p q)) :: (x, vInt (a + (i : Int))) :: S z) body (.next σ') ∧ σ'.lookup ("%" : Str) = some (vObj I (itR p q)) ∧ ∀ p ∈ S z', σ'.lookup p.1 = some p.2)
    (done : ∀ z, P n z → Ex c sc (S z) rest r) (hσ : ∀ p ∈ S a0, σ.lookup p.1 = some p.2) (hk : sc.kind = .function := by rfl) (hs : ∀ v, foldedSetIterable iter (c.env sc) v = pure v := by intro _; rfl) : Ex c sc σ (.For (.Name x px) iter body [] pos :: rest) r := fun Q s Sσ q =>
  wpAny_execs_cons (For_range S P O hx hiter hsmall hn hit hS a0 h0 turn (Sσ.weak (sub_of hσ) (τ' := []) no_mem) (fun z s' hP S' => done z hP s' S' q) hk hs)
/-- range(a, b) of written numbers -/
theorem iter_range2 {a b : Int} {k k2 : Nat} {p p1 p2 p3 : Pos} (O : Ok c d) (hf : nsIn (hd.heap_39 c.w.params) mainGlobals "range" = some none) (hb : bootBuiltins "range" = some (.type "range")) (hx : sc.names.lookup ("range" : Str) = some .globalImplicit) (hs : sc.kind = .function := by rfl) :
    ∀ mm news (Q : Value → Shared → Prop) s, Fr c.g c.L s.heap mm → News c.g c.L s.heap news → (∀ r h' tk t₁ u₁ v₁, IsRange h' r a b 1 t₁ u₁ v₁ → Fr c.g c.L h' mm → News c.g c.L h' news → Q (.ref r) { s with heap := h', toks := tk }) → wpAny (model Pg c.w) c.A (eval (.Call (.Name "range" p) [.Constant (.int a) k p1, .Constant (.int b) k2 p2] [] p3) (c.env sc)) Q noE s := fun mm news Q s F N q =>
  Call_ (nameX_B F O.X (topRead_of O.T) hf hb (by decide) (Pv.callWith_type1 (args_cons (wpAny_Constant_int (args_cons (wpAny_Constant_int (args_nil (range2_rows (s := { s with toks := s.toks + 1 + 1 }) F N fun h' tk t₁ u₁ v₁ hr F' N' _ => q _ _ _ _ _ _ hr F' N'))))))) hs hx)
theorem iter_range1 {b : Int} {k2 : Nat} {p p2 p3 : Pos} (O : Ok c d) (hf : nsIn (hd.heap_39 c.w.params) mainGlobals "range" = some none) (hb : bootBuiltins "range" = some (.type "range")) (hx : sc.names.lookup ("range" : Str) = some .globalImplicit) (hs : sc.kind = .function := by rfl) :
    ∀ mm news (Q : Value → Shared → Prop) s, Fr c.g c.L s.heap mm → News c.g c.L s.heap news → (∀ r h' tk t₁ u₁ v₁, IsRange h' r 0 b 1 t₁ u₁ v₁ → Fr c.g c.L h' mm → News c.g c.L h' news → Q (.ref r) { s with heap := h', toks := tk }) → wpAny (model Pg c.w) c.A (eval (.Call (.Name "range" p) [.Constant (.int b) k2 p2] [] p3) (c.env sc)) Q noE s := fun mm news Q s F N q =>
  Call_ (nameX_B F O.X (topRead_of O.T) hf hb (by decide) (Pv.callWith_type1 (args_cons (wpAny_Constant_int (args_nil (range1_rows (s := { s with toks := s.toks + 1 }) F N fun h' tk t₁ u₁ v₁ hr F' N' _ => q _ _ _ _ _ _ hr F' N'))))) hs hx)
end
end Mine
end
noncomputable section
open PySem PySem.W PyProof.Rows PySem.Calls
set_option Elab.async false
set_option maxRecDepth 100000
set_option maxHeartbeats 4000000
set_option linter.all false
set_option exponentiation.threshold 5000
set_option genInjectivity false
set_option genSizeOf false
namespace Mine
theorem filledW10 : PySem.Challenge.rw_pc0352_01 = PySem.Challenge.rw_pc0352_01 ∧ hd.heap_39 = hd.heap_39 := by
  k_fill
  exact ⟨rfl, rfl⟩
/-- it does not stand on a list -/
def NoLst (V : Val) : Prop := ∀ P v, V.p P v → V.p (fun a o => P a o ∧ ∀ ws k, o ≠ listOf ws k) v
theorem nolst_self {V : Val} (h : ∀ P P' v, V.p P v → V.p P' v) : NoLst V := fun _ _ x => h _ _ _ x
theorem nolst_obj {a : Addr} {x y : Int} : NoLst (vObj a (itR x y)) := fun _ _ h => ⟨h.1, h.2, fun _ _ q => itR_ne (n := "list") rfl (by decide) x y q.symm⟩
theorem Ints.set {y : Int} {t : Tok} : ∀ {ns : List Int} {ws : List Value} (i : Nat), Ints ws ns → Ints (ws.set i (.int y t)) (ns.set i y)
  | [], _, _, h => by cases h; rfl
  | n :: ns, _, 0, ⟨u, ws, e, h⟩ => by cases e; exact ⟨t, ws, rfl, h⟩
  | n :: ns, _, i + 1, ⟨u, ws, e, h⟩ => by cases e; exact ⟨u, _, rfl, h.set i⟩
section
variable {c : Cx} {sc : Scope} {σ σ1 : Sto} {τ τ' : Tmp} {s : Shared} {V W : Val} {r : Res} {d : Nat} {v : Value} {mm : Str → Option Value} {news : Led}
theorem Ev.itemI {x : Str} {p1 pos : Pos} {e : Expr} {ns : List Int} {k n : Int} (h : Ev c sc σ (.Name x p1) V) (hV : ∀ P v, V.p P v → LstIn P v ns) (hi : Ev c sc σ e (vInt k)) (h0 : 0 ≤ k) (hn : ns[k.toNat]? = some n) (hfit : k < 2 ^ 63 := by decide)
    (hs : ∀ l u, subscripted e false (.ref l) (.int k u) = operate [.ref l, .int k u] (getItem (.ref l) (.int k u)) := by intros; with_unfolding_all rfl) : Ev c sc σ (.Subscript (.Name x p1) e pos) (vInt n) := fun τ Q s S q =>
  Subscript_ (h _ s S fun v s1 S1 => hi _ s1 S1 fun u s2 S2 => by
    obtain ⟨t, rfl⟩ := S2.one
    obtain ⟨r, ws, kk, rfl, a, i⟩ := hV _ _ S2.drop.at_
    obtain ⟨hl, hg⟩ := List.getElem?_eq_some_iff.mp hn
    refine item_list_ints ⟨_, a, rfl, _, rfl⟩ i.are h0 (by omega) hfit (fun t' => ?_) (hs _ _)
    have : ns.getD k.toNat 0 = n := by rw [List.getD_eq_getElem?_getD, hn]; rfl
    exact this ▸ q _ _ (S2.drop2.put fun _ _ => ⟨t', rfl⟩))
@[reducible] def vAt (r : Addr) (ns : List Int) : Val := ⟨true, fun P v => v = .ref r ∧ LstIn P v ns, fun k h => ⟨h.1, (vLst ns).mono k h.2⟩⟩
theorem Inn.push (h : Inn c sc σ mm news) {x : Str} (hx : ∃ v, (∀ κ own, (∃ cells rest, news = own ++ (cells ++ rest)) → Holds c sc mm κ x v) ∧ ∀ n, V.rep c.g n v) : Inn c sc ((x, V) :: σ) mm news := by
  obtain ⟨κ, own, cells, rest, en, K, Y, TI, l⟩ := h
  obtain ⟨v, h1, h2⟩ := hx
  exact ⟨κ, own, cells, rest, en, K, Y, TI, fun y W hy => (look_cons hy).elim (fun ⟨a, b⟩ => ⟨v, a ▸ h1 κ own ⟨_, _, en⟩, b ▸ h2 _⟩) fun h => l y W h.2⟩
theorem St.at_lst {x : Str} {ns : List Int} (S : St c sc σ τ s) (hσ : σ.lookup x = some (vLst ns)) : ∃ r, St c sc ((x, vAt r ns) :: σ) τ s := by
  obtain ⟨mm, κ, own, cells, rest, F, N, K, Y, TI, e, l, t⟩ := S
  obtain ⟨v, h1, h2⟩ := l x _ hσ
  have h3 := h2
  obtain ⟨r, ws, k, rfl, _, _⟩ := h2
  exact ⟨r, mm, κ, own, cells, rest, F, N, K, Y, TI, e, fun y W hy => (look_cons hy).elim (fun ⟨a, b⟩ => ⟨.ref r, a ▸ h1, b ▸ ⟨rfl, h3⟩⟩) fun h => l y W h.2, t⟩
theorem look_mem {σ : Sto} {z : Str} {V : Val} (h : σ.lookup z = some V) : (z, V) ∈ σ := by
  induction σ with
  | nil => cases h
  | cons p σ ih => exact (look_cons h).elim (fun ⟨a, b⟩ => a ▸ b ▸ .head _) fun h => .tail _ (ih h.2)
theorem set_at {ws : List Value} {k : Int} {v : Value} : (ws.toArray).setIfInBounds k.toNat v = (ws.set k.toNat v).toArray := by simp
/-- a store into a list of ints -/
theorem Ex.setI {x : Str} {p1 p2 pos : Pos} {e val : Expr} {ns : List Int} {k y : Int} {rest : List Stmt} {σ' : Sto} (O : Ok c d) (hx : sc.names.lookup x = some .local) (hσ0 : σ.lookup x = some (vLst ns)) (hv : ∀ r, Ev c sc ((x, vAt r ns) :: σ) val (vInt y)) (hi : ∀ r, Ev c sc ((x, vAt r ns) :: σ) e (vInt k)) (h0 : 0 ≤ k) (hlt : k.toNat < ns.length)
    (hσ : ∀ p ∈ σ', σ.lookup p.1 = some p.2 ∧ p.1 ≠ x ∧ NoLst p.2) (t : Ex c sc ((x, vLst (ns.set k.toNat y)) :: σ') rest r) (hfit : k < 2 ^ 63 := by decide) (hk : sc.kind = .function := by rfl) (hd : (x == ("__debug__" : Str)) = false := by decide)
    (hs : swapsWith val (some (.Subscript (.Name x p1) e p2)) pos.line (c.env sc) = pure false := by rfl) : Ex c sc σ (.Assign [.Subscript (.Name x p1) e p2] val pos :: rest) r := .cons (fun Q s S q => by
  obtain ⟨r, S⟩ := S.at_lst hσ0
  have he : List.lookup x ((x, vAt r ns) :: σ) = some (vAt r ns) := by rw [List.lookup_cons, beq_self_eq_true]
  refine wpAny_Assign_Subscript (hv r _ s S fun v s1 S1 => Ev.loc hx he hk hd _ s1 S1 fun ov s2 S2 => hi r _ s2 S2 fun kv s3 S3 => ?_) hs
  obtain ⟨tk, rfl⟩ := S3.one
  obtain ⟨tv, rfl⟩ := S3.drop2.one
  obtain ⟨mm, κ, own, cells, rest', F, N, K, Y, TI, e, l, t⟩ := S3
  obtain ⟨hov, _⟩ := t _ (.tail _ (.head _))
  have hov : ov = .ref r := hov
  subst hov
  obtain ⟨v0, hh, hv0⟩ := l x _ he
  obtain ⟨hv1, r', ws, kk, hr', ha, hws⟩ := hv0
  have hv1 : v0 = .ref r := hv1
  subst hv1
  cases hr'
  have ha : (r, listOf ws.toArray kk) ∈ own := ha.elim id fun y => nomatch y.1
  have hN := N _ (List.mem_append_left _ ha)
  have off : ∀ b o, (b, o) ∈ own ++ (cells ++ rest') → (∀ ws k, o ≠ listOf ws k) → b ≠ r := fun b o hb ho q => by
    have := (N _ hb).1
    rw [show b = r from q, hN.1] at this
    exact ho _ _ (Option.some.inj this).symm
  have hrest : ∀ p ∈ cells ++ rest', p.1 ≠ r := fun p hp => off p.1 p.2 (List.mem_append_right _ hp) (by
    rcases List.mem_append.mp hp with hp | hp
    · obtain ⟨v, q⟩ := cells_off Y p hp
      exact fun ws k z => by rw [z] at q; cases q
    · obtain ⟨v, q⟩ := (O.cap rest' TI p hp).1
      exact fun ws k z => by rw [z] at q; cases q)
  have hf : ∀ p ∈ own.filter (fun p => decide (p.1 ≠ r)) ++ (cells ++ rest'), p.1 ≠ r := fun p hp => (List.mem_append.mp hp).elim (fun h => of_decide_eq_true (List.mem_filter.mp h).2) (hrest p)
  have N0 : News c.g c.L s3.heap ((r, listOf ws.toArray kk) :: (own.filter (fun p => decide (p.1 ≠ r)) ++ (cells ++ rest'))) := forall_cons hN fun p hp => N p ((List.mem_append.mp hp).elim (fun h => List.mem_append_left _ (List.mem_filter.mp h).1) (List.mem_append_right _))
  refine ki_setAt hN.1 h0 hfit (by rw [List.size_toArray, hws.len]; omega) (q _ ⟨mm, κ, (r, listOf (ws.set k.toNat (.int y tv)).toArray kk) :: own.filter (fun p => decide (p.1 ≠ r)), cells, rest', F.change (Heap.SameBut.update ..) hN.2.1 hN.2.2, ki_turn (pre := []) _ N0 no_mem hf set_at (by rw [if_pos (by simp)]), forall_cons (.inl ⟨notTab_type rfl, nofun⟩) fun p hp => K p (List.mem_filter.mp hp).1, Y, TI, by rw [e], fun z V hz => ?_, no_mem⟩)
  rcases look_cons hz with ⟨rfl, rfl⟩ | ⟨n, hz⟩
  · exact ⟨.ref r, hh, r, _, kk, rfl, .inl (.head _), hws.set _⟩
  · have hm := look_mem hz
    obtain ⟨h1, h2, h3⟩ := hσ _ hm
    obtain ⟨u, hu, ru⟩ := l z V (by rw [List.lookup_cons, beq_false_of_ne n]; exact h1)
    exact ⟨u, hu, V.mono (fun b o ⟨w, k⟩ => w.imp (fun m => .tail _ (List.mem_filter.mpr ⟨m, decide_eq_true (off b o (List.mem_append_left _ m) k)⟩)) id) (h3 _ _ ru)⟩) t
/-- a pair in a target's place -/
theorem assign_pair {x1 x2 : Str} {k : Nat} {p1 p2 tp : Pos} {a b : Int} {Q : Unit → Shared → Prop} (O : Ok c d) (h1 : Sx c sc x1) (h2 : Sx c sc x2) (S : St c sc σ τ s) (hv : (v, V) ∈ τ) (hi : V = vTup [a, b] ∨ Into V (vTup [a, b])) (q : ∀ s', St c sc ((x2, vInt b) :: (x1, vInt a) :: σ) τ s' → Q () s') : wpAny (model Pg c.w) c.A (assign (.Tuple [.Name x1 p1, .Name x2 p2] k tp) (c.env sc) v) Q noE s := by
  obtain ⟨r, ws, kk, rfl, o, t1, _, rfl, t2, _, rfl, rfl⟩ := (S.into hv hi).at_
  obtain ⟨_, _, F, N, go⟩ := S.open_
  refine unpackN_ F N ⟨_, o, rfl, _, rfl⟩ O.R.h rfl rfl fun h' F' N' => ?_
  have S1 := (go (V := vNone) (v := .none) (tk := s.toks) [] no_mem F' N' fun _ _ => rfl).drop
  exact assignInOrder_cons (assign_Name (h1 _ _ _ _ _ (S1.put (v := .int a t1) (V := vInt a) fun _ _ => ⟨t1, rfl⟩) fun s' S' => assignInOrder_cons (assign_Name (h2 _ _ _ _ _ (S'.put (v := .int b t2) (V := vInt b) fun _ _ => ⟨t2, rfl⟩) fun s'' S'' => assignInOrder_nil (q s'' S'')))))
/-- two pairs, out of a list of two tuples -/
theorem Ex.nest {x1 x2 x3 x4 : Str} {k k2 k3 : Nat} {p1 p2 p3 p4 tp tp2 tp3 pos : Pos} {e : Expr} {rest : List Stmt} {a b a2 b2 : Int} (O : Ok c d) (h : Ev c sc σ e (vLstV [vTup [a, b], vTup [a2, b2]])) (h1 : Sx c sc x1) (h2 : Sx c sc x2) (h3 : Sx c sc x3) (h4 : Sx c sc x4) (t : Ex c sc ((x4, vInt b2) :: (x3, vInt a2) :: (x2, vInt b) :: (x1, vInt a) :: σ) rest r)
    (hp : swappedStores [.Tuple [.Tuple [.Name x1 p1, .Name x2 p2] k tp, .Tuple [.Name x3 p3, .Name x4 p4] k2 tp2] k3 tp3] e (c.env sc) = pure none := by rfl) (hw : swapsWithSole [.Tuple [.Tuple [.Name x1 p1, .Name x2 p2] k tp, .Tuple [.Name x3 p3, .Name x4 p4] k2 tp2] k3 tp3] e pos.line (c.env sc) = pure false := by rfl) :
    Ex c sc σ (.Assign [.Tuple [.Tuple [.Name x1 p1, .Name x2 p2] k tp, .Tuple [.Name x3 p3, .Name x4 p4] k2 tp2] k3 tp3] e pos :: rest) r := .cons (fun Q s S q => Assign_Tuple (h _ s S fun v s1 S1 => by
      obtain ⟨mm, κ, own, cells, rest', F, N, K, Y, TI, e, l, t⟩ := S1
      obtain ⟨r, ws, kk, rfl, o, v1, _, rfl, ⟨hv1⟩, v2, _, rfl, ⟨hv2⟩, rfl⟩ := t _ (.head _)
      have ho : (r, listOf [v1, v2].toArray kk) ∈ own := o.elim id fun y => nomatch y.1
      refine kun_list F N ⟨_, (N _ (List.mem_append_left _ ho)).1, rfl, _, rfl⟩ O.R.h rfl rfl fun h' F' N' => ?_
      have S2 : St c sc σ [(v1, vTup [a, b]), (v2, vTup [a2, b2])] { s1 with heap := h' } := ⟨mm, κ, own, cells, rest', F', N', K, Y, TI, by rw [e], l, forall_cons (by constructor <;> assumption) (forall_cons (by constructor <;> assumption) no_mem)⟩
      exact assignInOrder_cons (assign_pair (k := k) O h1 h2 S2 (.head _) (.inl rfl) fun s' S' => assignInOrder_cons (assign_pair (k := k2) O h3 h4 S' (.tail _ (.head _)) (.inl rfl) fun s'' S'' => assignInOrder_nil (q s'' (S''.tmp no_mem))))) hw hp) t
end
end Mine
end
noncomputable section
open PySem PySem.W PyProof.Rows PySem.Calls
set_option Elab.async false
set_option maxRecDepth 100000
set_option maxHeartbeats 4000000
set_option linter.all false
set_option exponentiation.threshold 5000
namespace Mine
theorem filledW11 : PySem.Challenge.rw_pc0352_01 = PySem.Challenge.rw_pc0352_01 ∧ hd.heap_39 = hd.heap_39 := by
  k_fill
  exact ⟨rfl, rfl⟩
def rotI (i : Nat) (x0 x1 x2 x3 : Int) : List Int := if i % 4 = 0 then [x3, x0, x1, x2] else if i % 4 = 1 then [x2, x3, x0, x1] else if i % 4 = 2 then [x1, x2, x3, x0] else [x0, x1, x2, x3]
theorem f_law_waves (w : World) (top bottom : Int) {r0 r1 : Int} (hp : wavesF top bottom = some (r0, r1)) : Fun w 880 432 [vInt top, vInt bottom] (vTup [r0, r1]) := by
  refine' fun_of ["top", "bottom"] (ret_own rfl) ?hlim ?ho ?hcd ?hb ?hl ?_ ?c1 ?c2 ?c3 ?c4 rfl ?how
  (case hlim => decide)
  (case ho => k_is)
  (case hcd => k_is)
  (case hb => exact fun s => zip2 fun _ _ => BindsTo.of_eq rfl)
  (case hl => decide)
  (case c1 => exact rfl)
  (case c2 => exact rfl)
  (case c3 => exact rfl)
  (case c4 => decide)
  (case how => exact forall_cons rfl (forall_cons rfl no_mem))
  intro c O
  refine Ex.swap2 O (Ev.shl Ev.cint Ev.cint (by decide)) (Ev.list (ns := [_, _, _, _]) (Evs.cons (Ev.shl Ev.cint Ev.cint (by decide)) (Evs.cons Ev.cint (Evs.cons Ev.cint (Evs.cons Ev.cint Evs.nil))))) (Sx.loc rfl) (Sx.loc rfl) ?_
  refine Ex.range (α := Int × List Int) 60 (fun z => [("term", vInt z.1), ("sums", vLst z.2), ("top", vInt top), ("bottom", vInt bottom)]) (fun i z => ∃ x0 x1 x2 x3, z.2 = rotI i x0 x1 x2 x3 ∧ waveLoop (60 - i) top bottom (1 + (i : Int)) z.1 x0 x1 x2 x3 = some (r0, r1)) O rfl (iter_range2 O (by k_is) (by boot_by_name) rfl) (by decide) rfl rfl
    (fun z y V h => (forall_cons (solid_self fun _ _ _ x => x) (forall_cons solid_lst (forall_cons (solid_self fun _ _ _ x => x) (forall_cons (solid_self fun _ _ _ x => x) no_mem))) : ∀ p ∈ ([("term", vInt z.1), ("sums", vLst z.2), ("top", vInt top), ("bottom", vInt bottom)] : Sto), Solid p.2) _ (look_mem h))
    (sl 1 100, [sl 1 100, 0, 0, 0]) ?h0 ?turn ?done (forall_cons rfl (forall_cons rfl (forall_cons rfl (forall_cons rfl no_mem))))
  case h0 => exact ⟨0, 0, 0, sl 1 100, rfl, hp⟩
  case turn =>
    clear hp
    rintro i ⟨te, ns⟩ I p q hi ⟨x0, x1, x2, x3, hz, hp⟩
    obtain rfl : ns = _ := hz
    rw [show 60 - i = (60 - (i + 1)) + 1 by omega] at hp
    unfold waveLoop at hp
    (repeat' split at hp)
    all_goals first | (cases hp; done) | skip
    have hcount : ((1 : Int) + (i : Int)).natAbs < 2 ^ 64 := by omega
    rw [show ((1 : Int) + (i : Int)) + 1 = 1 + ((i + 1 : Nat) : Int) by omega] at hp
    have h4 : i % 4 = 0 ∨ i % 4 = 1 ∨ i % 4 = 2 ∨ i % 4 = 3 := by omega
    rcases h4 with h4 | h4 | h4 | h4
    · have hm : ((1 : Int) + (i : Int)).fmod 4 = 1 := by rw [Int.fmod_eq_emod_of_nonneg _ (by decide)]; omega
      have hr : rotI i x0 x1 x2 x3 = [x3, x0, x1, x2] := by unfold rotI; simp [h4]
      have hr' : [x3, x0 + (te * top).fdiv (bottom * (1 + (i : Int))), x1, x2] = rotI (i + 1) x1 x2 x3 (x0 + (te * top).fdiv (bottom * (1 + (i : Int)))) := by unfold rotI; simp [show (i + 1) % 4 = 1 by omega]
      rw [hr]
      exact ⟨((te * top).fdiv (bottom * (1 + (i : Int))), [x3, x0 + (te * top).fdiv (bottom * (1 + (i : Int))), x1, x2]), _, ⟨x1, x2, x3, _, hr', hp⟩, (Ex.put (Ev.fdiv (Ev.mul (Ev.loc rfl rfl) (Ev.loc rfl rfl) (by walk_at "v m")) (Ev.mul (Ev.loc rfl rfl) (Ev.loc rfl rfl) (by walk_at "v m")) (by walk_at "v s")) (Sx.loc rfl) (Ex.setI (σ' := [("term", vInt _), ("%", vObj _ _), ("top", vInt top), ("bottom", vInt bottom)]) O rfl rfl (fun r => Ev.add (Ev.itemI (k := 1) (Ev.loc rfl rfl) (fun _ _ h => h.2) (Ev.asI (Ev.mod (Ev.loc rfl rfl) Ev.cint (by decide)) hm) (by decide) rfl) (Ev.loc rfl rfl)) (fun r => (Ev.asI (Ev.mod (Ev.loc rfl rfl) Ev.cint (by decide)) hm)) (by decide) (by show (1 : Nat) < 4; decide) (forall_cons ⟨rfl, by show ("term" : Str) ≠ "sums"; decide, nolst_self fun _ _ _ x => x⟩ (forall_cons ⟨rfl, by show ("%" : Str) ≠ "sums"; decide, nolst_obj⟩ (forall_cons ⟨rfl, by show ("top" : Str) ≠ "sums"; decide, nolst_self fun _ _ _ x => x⟩ (forall_cons ⟨rfl, by show ("bottom" : Str) ≠ "sums"; decide, nolst_self fun _ _ _ x => x⟩ no_mem)))) Ex.nil)), rfl, forall_cons rfl (forall_cons rfl (forall_cons rfl (forall_cons rfl no_mem)))⟩
    · have hm : ((1 : Int) + (i : Int)).fmod 4 = 2 := by rw [Int.fmod_eq_emod_of_nonneg _ (by decide)]; omega
      have hr : rotI i x0 x1 x2 x3 = [x2, x3, x0, x1] := by unfold rotI; simp [h4]
      have hr' : [x2, x3, x0 + (te * top).fdiv (bottom * (1 + (i : Int))), x1] = rotI (i + 1) x1 x2 x3 (x0 + (te * top).fdiv (bottom * (1 + (i : Int)))) := by unfold rotI; simp [show (i + 1) % 4 = 2 by omega]
      rw [hr]
      exact ⟨((te * top).fdiv (bottom * (1 + (i : Int))), [x2, x3, x0 + (te * top).fdiv (bottom * (1 + (i : Int))), x1]), _, ⟨x1, x2, x3, _, hr', hp⟩, (Ex.put (Ev.fdiv (Ev.mul (Ev.loc rfl rfl) (Ev.loc rfl rfl) (by walk_at "v m")) (Ev.mul (Ev.loc rfl rfl) (Ev.loc rfl rfl) (by walk_at "v m")) (by walk_at "v s")) (Sx.loc rfl) (Ex.setI (σ' := [("term", vInt _), ("%", vObj _ _), ("top", vInt top), ("bottom", vInt bottom)]) O rfl rfl (fun r => Ev.add (Ev.itemI (k := 2) (Ev.loc rfl rfl) (fun _ _ h => h.2) (Ev.asI (Ev.mod (Ev.loc rfl rfl) Ev.cint (by decide)) hm) (by decide) rfl) (Ev.loc rfl rfl)) (fun r => (Ev.asI (Ev.mod (Ev.loc rfl rfl) Ev.cint (by decide)) hm)) (by decide) (by show (2 : Nat) < 4; decide) (forall_cons ⟨rfl, by show ("term" : Str) ≠ "sums"; decide, nolst_self fun _ _ _ x => x⟩ (forall_cons ⟨rfl, by show ("%" : Str) ≠ "sums"; decide, nolst_obj⟩ (forall_cons ⟨rfl, by show ("top" : Str) ≠ "sums"; decide, nolst_self fun _ _ _ x => x⟩ (forall_cons ⟨rfl, by show ("bottom" : Str) ≠ "sums"; decide, nolst_self fun _ _ _ x => x⟩ no_mem)))) Ex.nil)), rfl, forall_cons rfl (forall_cons rfl (forall_cons rfl (forall_cons rfl no_mem)))⟩
    · have hm : ((1 : Int) + (i : Int)).fmod 4 = 3 := by rw [Int.fmod_eq_emod_of_nonneg _ (by decide)]; omega
      have hr : rotI i x0 x1 x2 x3 = [x1, x2, x3, x0] := by unfold rotI; simp [h4]
      have hr' : [x1, x2, x3, x0 + (te * top).fdiv (bottom * (1 + (i : Int)))] = rotI (i + 1) x1 x2 x3 (x0 + (te * top).fdiv (bottom * (1 + (i : Int)))) := by unfold rotI; simp [show (i + 1) % 4 = 3 by omega]
      rw [hr]
      exact ⟨((te * top).fdiv (bottom * (1 + (i : Int))), [x1, x2, x3, x0 + (te * top).fdiv (bottom * (1 + (i : Int)))]), _, ⟨x1, x2, x3, _, hr', hp⟩, (Ex.put (Ev.fdiv (Ev.mul (Ev.loc rfl rfl) (Ev.loc rfl rfl) (by walk_at "v m")) (Ev.mul (Ev.loc rfl rfl) (Ev.loc rfl rfl) (by walk_at "v m")) (by walk_at "v s")) (Sx.loc rfl) (Ex.setI (σ' := [("term", vInt _), ("%", vObj _ _), ("top", vInt top), ("bottom", vInt bottom)]) O rfl rfl (fun r => Ev.add (Ev.itemI (k := 3) (Ev.loc rfl rfl) (fun _ _ h => h.2) (Ev.asI (Ev.mod (Ev.loc rfl rfl) Ev.cint (by decide)) hm) (by decide) rfl) (Ev.loc rfl rfl)) (fun r => (Ev.asI (Ev.mod (Ev.loc rfl rfl) Ev.cint (by decide)) hm)) (by decide) (by show (3 : Nat) < 4; decide) (forall_cons ⟨rfl, by show ("term" : Str) ≠ "sums"; decide, nolst_self fun _ _ _ x => x⟩ (forall_cons ⟨rfl, by show ("%" : Str) ≠ "sums"; decide, nolst_obj⟩ (forall_cons ⟨rfl, by show ("top" : Str) ≠ "sums"; decide, nolst_self fun _ _ _ x => x⟩ (forall_cons ⟨rfl, by show ("bottom" : Str) ≠ "sums"; decide, nolst_self fun _ _ _ x => x⟩ no_mem)))) Ex.nil)), rfl, forall_cons rfl (forall_cons rfl (forall_cons rfl (forall_cons rfl no_mem)))⟩
    · have hm : ((1 : Int) + (i : Int)).fmod 4 = 0 := by rw [Int.fmod_eq_emod_of_nonneg _ (by decide)]; omega
      have hr : rotI i x0 x1 x2 x3 = [x0, x1, x2, x3] := by unfold rotI; simp [h4]
      have hr' : [x0 + (te * top).fdiv (bottom * (1 + (i : Int))), x1, x2, x3] = rotI (i + 1) x1 x2 x3 (x0 + (te * top).fdiv (bottom * (1 + (i : Int)))) := by unfold rotI; simp [show (i + 1) % 4 = 0 by omega]
      rw [hr]
      exact ⟨((te * top).fdiv (bottom * (1 + (i : Int))), [x0 + (te * top).fdiv (bottom * (1 + (i : Int))), x1, x2, x3]), _, ⟨x1, x2, x3, _, hr', hp⟩, (Ex.put (Ev.fdiv (Ev.mul (Ev.loc rfl rfl) (Ev.loc rfl rfl) (by walk_at "v m")) (Ev.mul (Ev.loc rfl rfl) (Ev.loc rfl rfl) (by walk_at "v m")) (by walk_at "v s")) (Sx.loc rfl) (Ex.setI (σ' := [("term", vInt _), ("%", vObj _ _), ("top", vInt top), ("bottom", vInt bottom)]) O rfl rfl (fun r => Ev.add (Ev.itemI (k := 0) (Ev.loc rfl rfl) (fun _ _ h => h.2) (Ev.asI (Ev.mod (Ev.loc rfl rfl) Ev.cint (by decide)) hm) (by decide) rfl) (Ev.loc rfl rfl)) (fun r => (Ev.asI (Ev.mod (Ev.loc rfl rfl) Ev.cint (by decide)) hm)) (by decide) (by show (0 : Nat) < 4; decide) (forall_cons ⟨rfl, by show ("term" : Str) ≠ "sums"; decide, nolst_self fun _ _ _ x => x⟩ (forall_cons ⟨rfl, by show ("%" : Str) ≠ "sums"; decide, nolst_obj⟩ (forall_cons ⟨rfl, by show ("top" : Str) ≠ "sums"; decide, nolst_self fun _ _ _ x => x⟩ (forall_cons ⟨rfl, by show ("bottom" : Str) ≠ "sums"; decide, nolst_self fun _ _ _ x => x⟩ no_mem)))) Ex.nil)), rfl, forall_cons rfl (forall_cons rfl (forall_cons rfl (forall_cons rfl no_mem)))⟩
  case done =>
    rintro ⟨te, ns⟩ ⟨x0, x1, x2, x3, hz, hp⟩
    obtain rfl : ns = [x3, x0, x1, x2] := hz
    simp only [Nat.sub_self, waveLoop, Option.some.injEq, Prod.mk.injEq] at hp
    obtain ⟨rfl, rfl⟩ := hp
    exact (Ex.ret (Ev.tuple (ns := [_, _]) (Evs.cons (Ev.sub (Ev.itemI (k := 1) (Ev.loc rfl rfl) (fun _ _ x => x) Ev.cint (by decide) rfl) (Ev.itemI (k := 3) (Ev.loc rfl rfl) (fun _ _ x => x) Ev.cint (by decide) rfl)) (Evs.cons (Ev.sub (Ev.itemI (k := 0) (Ev.loc rfl rfl) (fun _ _ x => x) Ev.cint (by decide) rfl) (Ev.itemI (k := 2) (Ev.loc rfl rfl) (fun _ _ x => x) Ev.cint (by decide) rfl)) Evs.nil))))
theorem f_law_ends (w : World) (precision : Int) (toldm tolde : Int) {a b c d : Int} (hp : endsF precision toldm tolde = some ((a, b), (c, d))) : Fun w 870 446 [vInt precision, eReal toldm tolde] (vLstV [vTup [a, b], vTup [c, d]]) := by
  unfold endsF at hp
  simp only [Option.bind_eq_some_iff, Prod.exists, Option.some.injEq, Prod.mk.injEq] at hp
  obtain ⟨q0, q1, q2, hq, x0, x1, hx, y0, y1, hy, ⟨rfl, rfl⟩, rfl, rfl⟩ := hp
  · refine' fun_of ["precision", "told"] (ret_own rfl) ?hlim ?ho ?hcd ?hb ?hl ?_ ?c1 ?c2 ?c3 ?c4 rfl ?how
    (case hlim => decide)
    (case ho => k_is)
    (case hcd => k_is)
    (case hb => exact fun s => zip2 fun _ _ => BindsTo.of_eq rfl)
    (case hl => decide)
    (case c1 => exact rfl)
    (case c2 => exact rfl)
    (case c3 => exact rfl)
    (case c4 => decide)
    (case how => exact forall_cons rfl (forall_cons rfl (no_mem)))
    exact fun c O => (Ex.unp3 O (Ev.call O (Evs.cons (Ev.loc rfl rfl) (Evs.cons (Ev.loc rfl rfl) Evs.nil)) (f_law_middles _ _ _ _ (by walk_at "v s")) (by k_is) (by k_is) (Nat.le_of_ble_eq_true rfl) rfl) (fun _ _ x => x) (Sx.loc rfl) (Sx.loc rfl) (Sx.loc rfl) (Ex.ret (Ev.listV (Evs.cons (Ev.call O (Evs.cons (Ev.loc rfl rfl) (Evs.cons (Ev.loc rfl rfl) Evs.nil)) (f_law_waves _ _ _ (by walk_at "v s")) (by k_is) (by k_is) (Nat.le_of_ble_eq_true rfl) rfl) (Evs.cons (Ev.call O (Evs.cons (Ev.loc rfl rfl) (Evs.cons (Ev.loc rfl rfl) Evs.nil)) (f_law_waves _ _ _ (by walk_at "v s")) (by k_is) (by k_is) (Nat.le_of_ble_eq_true rfl) rfl) Evs.nil)) (forall_cons (ret_own rfl) (forall_cons (ret_own rfl) (no_mem))))))

theorem f_is_arc (w : World) (precision : Int) (toldm tolde : Int) (top : Int) (bottom : Int)  (hp : isArcF precision toldm tolde top bottom = true) : Fun w 860 453 [vInt precision, eReal toldm tolde, vInt top, vInt bottom] (vBool (true)) := by
  have hoff : (1 * 2 ^ Int.toNat 20 : Int) = 1048576 := by decide
  unfold isArcF at hp
  (repeat' split at hp)
  all_goals first | (cases hp; done) | skip
  all_goals (try simp only [decide_eq_true_eq] at hp)
  · refine' fun_of ["precision", "told", "top", "bottom"] (ret_self fun _ _ _ x => x) ?hlim ?ho ?hcd ?hb ?hl ?_ ?c1 ?c2 ?c3 ?c4 rfl ?how
    (case hlim => decide)
    (case ho => k_is)
    (case hcd => k_is)
    (case hb => exact fun s => zip4 fun _ _ _ _ => BindsTo.of_eq rfl)
    (case hl => decide)
    (case c1 => exact rfl)
    (case c2 => exact rfl)
    (case c3 => exact rfl)
    (case c4 => decide)
    (case how => exact forall_cons rfl (forall_cons rfl (forall_cons rfl (forall_cons rfl (no_mem)))))
    exact fun c O => (Ex.put (Ev.shl Ev.cint Ev.cint (by walk_at "v s")) (Sx.loc rfl) (Ex.ifp (Tr.cmp (cmp_le _ _) (Ev.man O (Ev.loc rfl rfl) (fun _ _ x => x)) Ev.cint (by first | rfl | exact decide_eq_true (by walk_at "v s") | exact decide_eq_false (by walk_at "v s") | exact beq_iff_eq.mpr (by walk_at "v s") | exact beq_false_of_ne (by walk_at "v s") | exact bne_iff_ne.mpr (by walk_at "v s") | exact bne_eq_false_iff_eq.mpr (by walk_at "v s") | assumption)) (Ex.nest O (Ev.call O (Evs.cons (Ev.loc rfl rfl) (Evs.cons (Ev.loc rfl rfl) Evs.nil)) (f_law_ends _ _ _ _ (by walk_at "v s")) (by k_is) (by k_is) (Nat.le_of_ble_eq_true rfl) rfl) (Sx.loc rfl) (Sx.loc rfl) (Sx.loc rfl) (Sx.loc rfl) (Ex.ifp (Tr.many (Trs.orf (Tr.cmp (cmp_le _ _) (Ev.loc rfl rfl) Ev.cint (by first | rfl | exact decide_eq_true (by walk_at "v s") | exact decide_eq_false (by walk_at "v s") | exact beq_iff_eq.mpr (by walk_at "v s") | exact beq_false_of_ne (by walk_at "v s") | exact bne_iff_ne.mpr (by walk_at "v s") | exact bne_eq_false_iff_eq.mpr (by walk_at "v s") | assumption)) (Trs.orf (Tr.cmp (cmp_gt _ _) (Ev.mul (Ev.sub (Ev.loc rfl rfl) (Ev.loc rfl rfl)) (Ev.loc rfl rfl) (by walk_at "v m")) (Ev.mul (Ev.add (Ev.loc rfl rfl) (Ev.loc rfl rfl)) (Ev.loc rfl rfl) (by walk_at "v m")) (by first | rfl | exact decide_eq_true (by walk_at "v s") | exact decide_eq_false (by walk_at "v s") | exact beq_iff_eq.mpr (by walk_at "v s") | exact beq_false_of_ne (by walk_at "v s") | exact bne_iff_ne.mpr (by walk_at "v s") | exact bne_eq_false_iff_eq.mpr (by walk_at "v s") | assumption)) Trs.or0))) (Ex.ret (Ev.asB (Ev.ort (Ev.asB (Ev.cmp (cmp_le _ _) (Ev.loc rfl rfl) (Ev.loc rfl rfl)) (by first | rfl | exact decide_eq_true (by walk_at "v s") | exact decide_eq_false (by walk_at "v s") | exact beq_iff_eq.mpr (by walk_at "v s") | exact beq_false_of_ne (by walk_at "v s") | exact bne_iff_ne.mpr (by walk_at "v s") | exact bne_eq_false_iff_eq.mpr (by walk_at "v s") | assumption))) (by first | rfl | exact decide_eq_true (by walk_at "v s") | exact decide_eq_false (by walk_at "v s") | exact beq_iff_eq.mpr (by walk_at "v s") | exact beq_false_of_ne (by walk_at "v s") | exact bne_iff_ne.mpr (by walk_at "v s") | exact bne_eq_false_iff_eq.mpr (by walk_at "v s") | assumption)))))))
  · refine' fun_of ["precision", "told", "top", "bottom"] (ret_self fun _ _ _ x => x) ?hlim ?ho ?hcd ?hb ?hl ?_ ?c1 ?c2 ?c3 ?c4 rfl ?how
    (case hlim => decide)
    (case ho => k_is)
    (case hcd => k_is)
    (case hb => exact fun s => zip4 fun _ _ _ _ => BindsTo.of_eq rfl)
    (case hl => decide)
    (case c1 => exact rfl)
    (case c2 => exact rfl)
    (case c3 => exact rfl)
    (case c4 => decide)
    (case how => exact forall_cons rfl (forall_cons rfl (forall_cons rfl (forall_cons rfl (no_mem)))))
    exact fun c O => (Ex.put (Ev.shl Ev.cint Ev.cint (by walk_at "v s")) (Sx.loc rfl) (Ex.ifp (Tr.cmp (cmp_le _ _) (Ev.man O (Ev.loc rfl rfl) (fun _ _ x => x)) Ev.cint (by first | rfl | exact decide_eq_true (by walk_at "v s") | exact decide_eq_false (by walk_at "v s") | exact beq_iff_eq.mpr (by walk_at "v s") | exact beq_false_of_ne (by walk_at "v s") | exact bne_iff_ne.mpr (by walk_at "v s") | exact bne_eq_false_iff_eq.mpr (by walk_at "v s") | assumption)) (Ex.nest O (Ev.call O (Evs.cons (Ev.loc rfl rfl) (Evs.cons (Ev.loc rfl rfl) Evs.nil)) (f_law_ends _ _ _ _ (by walk_at "v s")) (by k_is) (by k_is) (Nat.le_of_ble_eq_true rfl) rfl) (Sx.loc rfl) (Sx.loc rfl) (Sx.loc rfl) (Sx.loc rfl) (Ex.ifp (Tr.many (Trs.orf (Tr.cmp (cmp_le _ _) (Ev.loc rfl rfl) Ev.cint (by first | rfl | exact decide_eq_true (by walk_at "v s") | exact decide_eq_false (by walk_at "v s") | exact beq_iff_eq.mpr (by walk_at "v s") | exact beq_false_of_ne (by walk_at "v s") | exact bne_iff_ne.mpr (by walk_at "v s") | exact bne_eq_false_iff_eq.mpr (by walk_at "v s") | assumption)) (Trs.orf (Tr.cmp (cmp_gt _ _) (Ev.mul (Ev.sub (Ev.loc rfl rfl) (Ev.loc rfl rfl)) (Ev.loc rfl rfl) (by walk_at "v m")) (Ev.mul (Ev.add (Ev.loc rfl rfl) (Ev.loc rfl rfl)) (Ev.loc rfl rfl) (by walk_at "v m")) (by first | rfl | exact decide_eq_true (by walk_at "v s") | exact decide_eq_false (by walk_at "v s") | exact beq_iff_eq.mpr (by walk_at "v s") | exact beq_false_of_ne (by walk_at "v s") | exact bne_iff_ne.mpr (by walk_at "v s") | exact bne_eq_false_iff_eq.mpr (by walk_at "v s") | assumption)) Trs.or0))) (Ex.ret (Ev.asB (Ev.orf (Ev.asB (Ev.cmp (cmp_le _ _) (Ev.loc rfl rfl) (Ev.loc rfl rfl)) (by first | rfl | exact decide_eq_true (by walk_at "v s") | exact decide_eq_false (by walk_at "v s") | exact beq_iff_eq.mpr (by walk_at "v s") | exact beq_false_of_ne (by walk_at "v s") | exact bne_iff_ne.mpr (by walk_at "v s") | exact bne_eq_false_iff_eq.mpr (by walk_at "v s") | assumption)) (Ev.bool1 (Ev.cmp (cmp_ge _ _) (Ev.mul (Ev.add (Ev.loc rfl rfl) (Ev.loc rfl rfl)) (Ev.loc rfl rfl) (by walk_at "v m")) (Ev.mul (Ev.sub (Ev.loc rfl rfl) (Ev.loc rfl rfl)) (Ev.loc rfl rfl) (by walk_at "v m"))))) (by first | rfl | exact decide_eq_true (by walk_at "v s") | exact decide_eq_false (by walk_at "v s") | exact beq_iff_eq.mpr (by walk_at "v s") | exact beq_false_of_ne (by walk_at "v s") | exact bne_iff_ne.mpr (by walk_at "v s") | exact bne_eq_false_iff_eq.mpr (by walk_at "v s") | assumption)))))))

theorem f_is_sine (w : World) (precision : Int) (toldm tolde : Int) (top : Int) (bottom : Int)  (hp : isSineF precision toldm tolde top bottom = true) : Fun w 860 460 [vInt precision, eReal toldm tolde, vInt top, vInt bottom] (vBool (true)) := by
  have hoff : (1 * 2 ^ Int.toNat 20 : Int) = 1048576 := by decide
  unfold isSineF at hp
  (repeat' split at hp)
  all_goals first | (cases hp; done) | skip
  all_goals (try simp only [decide_eq_true_eq] at hp)
  · refine' fun_of ["precision", "told", "top", "bottom"] (ret_self fun _ _ _ x => x) ?hlim ?ho ?hcd ?hb ?hl ?_ ?c1 ?c2 ?c3 ?c4 rfl ?how
    (case hlim => decide)
    (case ho => k_is)
    (case hcd => k_is)
    (case hb => exact fun s => zip4 fun _ _ _ _ => BindsTo.of_eq rfl)
    (case hl => decide)
    (case c1 => exact rfl)
    (case c2 => exact rfl)
    (case c3 => exact rfl)
    (case c4 => decide)
    (case how => exact forall_cons rfl (forall_cons rfl (forall_cons rfl (forall_cons rfl (no_mem)))))
    exact fun c O => (Ex.put (Ev.shl Ev.cint Ev.cint (by walk_at "v s")) (Sx.loc rfl) (Ex.ifp (Tr.cmp (cmp_le _ _) (Ev.man O (Ev.loc rfl rfl) (fun _ _ x => x)) Ev.cint (by first | rfl | exact decide_eq_true (by walk_at "v s") | exact decide_eq_false (by walk_at "v s") | exact beq_iff_eq.mpr (by walk_at "v s") | exact beq_false_of_ne (by walk_at "v s") | exact bne_iff_ne.mpr (by walk_at "v s") | exact bne_eq_false_iff_eq.mpr (by walk_at "v s") | assumption)) (Ex.nest O (Ev.call O (Evs.cons (Ev.loc rfl rfl) (Evs.cons (Ev.loc rfl rfl) Evs.nil)) (f_law_ends _ _ _ _ (by walk_at "v s")) (by k_is) (by k_is) (Nat.le_of_ble_eq_true rfl) rfl) (Sx.loc rfl) (Sx.loc rfl) (Sx.loc rfl) (Sx.loc rfl) (Ex.ifp (Tr.many (Trs.orf (Tr.cmp (cmp_le _ _) (Ev.loc rfl rfl) Ev.cint (by first | rfl | exact decide_eq_true (by walk_at "v s") | exact decide_eq_false (by walk_at "v s") | exact beq_iff_eq.mpr (by walk_at "v s") | exact beq_false_of_ne (by walk_at "v s") | exact bne_iff_ne.mpr (by walk_at "v s") | exact bne_eq_false_iff_eq.mpr (by walk_at "v s") | assumption)) (Trs.orf (Tr.cmp (cmp_gt _ _) (Ev.mul (Ev.sub (Ev.loc rfl rfl) (Ev.loc rfl rfl)) (Ev.loc rfl rfl) (by walk_at "v m")) (Ev.shl (Ev.loc rfl rfl) Ev.cint (by walk_at "v s")) (by first | rfl | exact decide_eq_true (by walk_at "v s") | exact decide_eq_false (by walk_at "v s") | exact beq_iff_eq.mpr (by walk_at "v s") | exact beq_false_of_ne (by walk_at "v s") | exact bne_iff_ne.mpr (by walk_at "v s") | exact bne_eq_false_iff_eq.mpr (by walk_at "v s") | assumption)) Trs.or0))) (Ex.ret (Ev.asB (Ev.ort (Ev.asB (Ev.cmp (cmp_le _ _) (Ev.loc rfl rfl) (Ev.loc rfl rfl)) (by first | rfl | exact decide_eq_true (by walk_at "v s") | exact decide_eq_false (by walk_at "v s") | exact beq_iff_eq.mpr (by walk_at "v s") | exact beq_false_of_ne (by walk_at "v s") | exact bne_iff_ne.mpr (by walk_at "v s") | exact bne_eq_false_iff_eq.mpr (by walk_at "v s") | assumption))) (by first | rfl | exact decide_eq_true (by walk_at "v s") | exact decide_eq_false (by walk_at "v s") | exact beq_iff_eq.mpr (by walk_at "v s") | exact beq_false_of_ne (by walk_at "v s") | exact bne_iff_ne.mpr (by walk_at "v s") | exact bne_eq_false_iff_eq.mpr (by walk_at "v s") | assumption)))))))
  · refine' fun_of ["precision", "told", "top", "bottom"] (ret_self fun _ _ _ x => x) ?hlim ?ho ?hcd ?hb ?hl ?_ ?c1 ?c2 ?c3 ?c4 rfl ?how
    (case hlim => decide)
    (case ho => k_is)
    (case hcd => k_is)
    (case hb => exact fun s => zip4 fun _ _ _ _ => BindsTo.of_eq rfl)
    (case hl => decide)
    (case c1 => exact rfl)
    (case c2 => exact rfl)
    (case c3 => exact rfl)
    (case c4 => decide)
    (case how => exact forall_cons rfl (forall_cons rfl (forall_cons rfl (forall_cons rfl (no_mem)))))
    exact fun c O => (Ex.put (Ev.shl Ev.cint Ev.cint (by walk_at "v s")) (Sx.loc rfl) (Ex.ifp (Tr.cmp (cmp_le _ _) (Ev.man O (Ev.loc rfl rfl) (fun _ _ x => x)) Ev.cint (by first | rfl | exact decide_eq_true (by walk_at "v s") | exact decide_eq_false (by walk_at "v s") | exact beq_iff_eq.mpr (by walk_at "v s") | exact beq_false_of_ne (by walk_at "v s") | exact bne_iff_ne.mpr (by walk_at "v s") | exact bne_eq_false_iff_eq.mpr (by walk_at "v s") | assumption)) (Ex.nest O (Ev.call O (Evs.cons (Ev.loc rfl rfl) (Evs.cons (Ev.loc rfl rfl) Evs.nil)) (f_law_ends _ _ _ _ (by walk_at "v s")) (by k_is) (by k_is) (Nat.le_of_ble_eq_true rfl) rfl) (Sx.loc rfl) (Sx.loc rfl) (Sx.loc rfl) (Sx.loc rfl) (Ex.ifp (Tr.many (Trs.orf (Tr.cmp (cmp_le _ _) (Ev.loc rfl rfl) Ev.cint (by first | rfl | exact decide_eq_true (by walk_at "v s") | exact decide_eq_false (by walk_at "v s") | exact beq_iff_eq.mpr (by walk_at "v s") | exact beq_false_of_ne (by walk_at "v s") | exact bne_iff_ne.mpr (by walk_at "v s") | exact bne_eq_false_iff_eq.mpr (by walk_at "v s") | assumption)) (Trs.orf (Tr.cmp (cmp_gt _ _) (Ev.mul (Ev.sub (Ev.loc rfl rfl) (Ev.loc rfl rfl)) (Ev.loc rfl rfl) (by walk_at "v m")) (Ev.shl (Ev.loc rfl rfl) Ev.cint (by walk_at "v s")) (by first | rfl | exact decide_eq_true (by walk_at "v s") | exact decide_eq_false (by walk_at "v s") | exact beq_iff_eq.mpr (by walk_at "v s") | exact beq_false_of_ne (by walk_at "v s") | exact bne_iff_ne.mpr (by walk_at "v s") | exact bne_eq_false_iff_eq.mpr (by walk_at "v s") | assumption)) Trs.or0))) (Ex.ret (Ev.asB (Ev.orf (Ev.asB (Ev.cmp (cmp_le _ _) (Ev.loc rfl rfl) (Ev.loc rfl rfl)) (by first | rfl | exact decide_eq_true (by walk_at "v s") | exact decide_eq_false (by walk_at "v s") | exact beq_iff_eq.mpr (by walk_at "v s") | exact beq_false_of_ne (by walk_at "v s") | exact bne_iff_ne.mpr (by walk_at "v s") | exact bne_eq_false_iff_eq.mpr (by walk_at "v s") | assumption)) (Ev.bool1 (Ev.cmp (cmp_ge _ _) (Ev.mul (Ev.add (Ev.loc rfl rfl) (Ev.loc rfl rfl)) (Ev.loc rfl rfl) (by walk_at "v m")) (Ev.shl (Ev.loc rfl rfl) Ev.cint (by walk_at "v s"))))) (by first | rfl | exact decide_eq_true (by walk_at "v s") | exact decide_eq_false (by walk_at "v s") | exact beq_iff_eq.mpr (by walk_at "v s") | exact beq_false_of_ne (by walk_at "v s") | exact bne_iff_ne.mpr (by walk_at "v s") | exact bne_eq_false_iff_eq.mpr (by walk_at "v s") | assumption)))))))

theorem f_is_cos (w : World) (precision : Int) (toldm tolde : Int) (top : Int) (bottom : Int)  (hp : isCosF precision toldm tolde top bottom = true) : Fun w 860 467 [vInt precision, eReal toldm tolde, vInt top, vInt bottom] (vBool (true)) := by
  have hoff : (1 * 2 ^ Int.toNat 20 : Int) = 1048576 := by decide
  unfold isCosF at hp
  (repeat' split at hp)
  all_goals first | (cases hp; done) | skip
  all_goals (try simp only [decide_eq_true_eq] at hp)
  · refine' fun_of ["precision", "told", "top", "bottom"] (ret_self fun _ _ _ x => x) ?hlim ?ho ?hcd ?hb ?hl ?_ ?c1 ?c2 ?c3 ?c4 rfl ?how
    (case hlim => decide)
    (case ho => k_is)
    (case hcd => k_is)
    (case hb => exact fun s => zip4 fun _ _ _ _ => BindsTo.of_eq rfl)
    (case hl => decide)
    (case c1 => exact rfl)
    (case c2 => exact rfl)
    (case c3 => exact rfl)
    (case c4 => decide)
    (case how => exact forall_cons rfl (forall_cons rfl (forall_cons rfl (forall_cons rfl (no_mem)))))
    exact fun c O => (Ex.put (Ev.shl Ev.cint Ev.cint (by walk_at "v s")) (Sx.loc rfl) (Ex.ifp (Tr.cmp (cmp_le _ _) (Ev.man O (Ev.loc rfl rfl) (fun _ _ x => x)) Ev.cint (by first | rfl | exact decide_eq_true (by walk_at "v s") | exact decide_eq_false (by walk_at "v s") | exact beq_iff_eq.mpr (by walk_at "v s") | exact beq_false_of_ne (by walk_at "v s") | exact bne_iff_ne.mpr (by walk_at "v s") | exact bne_eq_false_iff_eq.mpr (by walk_at "v s") | assumption)) (Ex.nest O (Ev.call O (Evs.cons (Ev.loc rfl rfl) (Evs.cons (Ev.loc rfl rfl) Evs.nil)) (f_law_ends _ _ _ _ (by walk_at "v s")) (by k_is) (by k_is) (Nat.le_of_ble_eq_true rfl) rfl) (Sx.loc rfl) (Sx.loc rfl) (Sx.loc rfl) (Sx.loc rfl) (Ex.ifp (Tr.many (Trs.orf (Tr.cmp (cmp_le _ _) (Ev.loc rfl rfl) Ev.cint (by first | rfl | exact decide_eq_true (by walk_at "v s") | exact decide_eq_false (by walk_at "v s") | exact beq_iff_eq.mpr (by walk_at "v s") | exact beq_false_of_ne (by walk_at "v s") | exact bne_iff_ne.mpr (by walk_at "v s") | exact bne_eq_false_iff_eq.mpr (by walk_at "v s") | assumption)) (Trs.orf (Tr.cmp (cmp_lt _ _) (Ev.mul (Ev.add (Ev.loc rfl rfl) (Ev.loc rfl rfl)) (Ev.loc rfl rfl) (by walk_at "v m")) (Ev.shl (Ev.loc rfl rfl) Ev.cint (by walk_at "v s")) (by first | rfl | exact decide_eq_true (by walk_at "v s") | exact decide_eq_false (by walk_at "v s") | exact beq_iff_eq.mpr (by walk_at "v s") | exact beq_false_of_ne (by walk_at "v s") | exact bne_iff_ne.mpr (by walk_at "v s") | exact bne_eq_false_iff_eq.mpr (by walk_at "v s") | assumption)) Trs.or0))) (Ex.ret (Ev.asB (Ev.ort (Ev.asB (Ev.cmp (cmp_le _ _) (Ev.loc rfl rfl) (Ev.loc rfl rfl)) (by first | rfl | exact decide_eq_true (by walk_at "v s") | exact decide_eq_false (by walk_at "v s") | exact beq_iff_eq.mpr (by walk_at "v s") | exact beq_false_of_ne (by walk_at "v s") | exact bne_iff_ne.mpr (by walk_at "v s") | exact bne_eq_false_iff_eq.mpr (by walk_at "v s") | assumption))) (by first | rfl | exact decide_eq_true (by walk_at "v s") | exact decide_eq_false (by walk_at "v s") | exact beq_iff_eq.mpr (by walk_at "v s") | exact beq_false_of_ne (by walk_at "v s") | exact bne_iff_ne.mpr (by walk_at "v s") | exact bne_eq_false_iff_eq.mpr (by walk_at "v s") | assumption)))))))
  · refine' fun_of ["precision", "told", "top", "bottom"] (ret_self fun _ _ _ x => x) ?hlim ?ho ?hcd ?hb ?hl ?_ ?c1 ?c2 ?c3 ?c4 rfl ?how
    (case hlim => decide)
    (case ho => k_is)
    (case hcd => k_is)
    (case hb => exact fun s => zip4 fun _ _ _ _ => BindsTo.of_eq rfl)
    (case hl => decide)
    (case c1 => exact rfl)
    (case c2 => exact rfl)
    (case c3 => exact rfl)
    (case c4 => decide)
    (case how => exact forall_cons rfl (forall_cons rfl (forall_cons rfl (forall_cons rfl (no_mem)))))
    exact fun c O => (Ex.put (Ev.shl Ev.cint Ev.cint (by walk_at "v s")) (Sx.loc rfl) (Ex.ifp (Tr.cmp (cmp_le _ _) (Ev.man O (Ev.loc rfl rfl) (fun _ _ x => x)) Ev.cint (by first | rfl | exact decide_eq_true (by walk_at "v s") | exact decide_eq_false (by walk_at "v s") | exact beq_iff_eq.mpr (by walk_at "v s") | exact beq_false_of_ne (by walk_at "v s") | exact bne_iff_ne.mpr (by walk_at "v s") | exact bne_eq_false_iff_eq.mpr (by walk_at "v s") | assumption)) (Ex.nest O (Ev.call O (Evs.cons (Ev.loc rfl rfl) (Evs.cons (Ev.loc rfl rfl) Evs.nil)) (f_law_ends _ _ _ _ (by walk_at "v s")) (by k_is) (by k_is) (Nat.le_of_ble_eq_true rfl) rfl) (Sx.loc rfl) (Sx.loc rfl) (Sx.loc rfl) (Sx.loc rfl) (Ex.ifp (Tr.many (Trs.orf (Tr.cmp (cmp_le _ _) (Ev.loc rfl rfl) Ev.cint (by first | rfl | exact decide_eq_true (by walk_at "v s") | exact decide_eq_false (by walk_at "v s") | exact beq_iff_eq.mpr (by walk_at "v s") | exact beq_false_of_ne (by walk_at "v s") | exact bne_iff_ne.mpr (by walk_at "v s") | exact bne_eq_false_iff_eq.mpr (by walk_at "v s") | assumption)) (Trs.orf (Tr.cmp (cmp_lt _ _) (Ev.mul (Ev.add (Ev.loc rfl rfl) (Ev.loc rfl rfl)) (Ev.loc rfl rfl) (by walk_at "v m")) (Ev.shl (Ev.loc rfl rfl) Ev.cint (by walk_at "v s")) (by first | rfl | exact decide_eq_true (by walk_at "v s") | exact decide_eq_false (by walk_at "v s") | exact beq_iff_eq.mpr (by walk_at "v s") | exact beq_false_of_ne (by walk_at "v s") | exact bne_iff_ne.mpr (by walk_at "v s") | exact bne_eq_false_iff_eq.mpr (by walk_at "v s") | assumption)) Trs.or0))) (Ex.ret (Ev.asB (Ev.orf (Ev.asB (Ev.cmp (cmp_le _ _) (Ev.loc rfl rfl) (Ev.loc rfl rfl)) (by first | rfl | exact decide_eq_true (by walk_at "v s") | exact decide_eq_false (by walk_at "v s") | exact beq_iff_eq.mpr (by walk_at "v s") | exact beq_false_of_ne (by walk_at "v s") | exact bne_iff_ne.mpr (by walk_at "v s") | exact bne_eq_false_iff_eq.mpr (by walk_at "v s") | assumption)) (Ev.bool1 (Ev.cmp (cmp_le _ _) (Ev.mul (Ev.sub (Ev.loc rfl rfl) (Ev.loc rfl rfl)) (Ev.loc rfl rfl) (by walk_at "v m")) (Ev.shl (Ev.loc rfl rfl) Ev.cint (by walk_at "v s"))))) (by first | rfl | exact decide_eq_true (by walk_at "v s") | exact decide_eq_false (by walk_at "v s") | exact beq_iff_eq.mpr (by walk_at "v s") | exact beq_false_of_ne (by walk_at "v s") | exact bne_iff_ne.mpr (by walk_at "v s") | exact bne_eq_false_iff_eq.mpr (by walk_at "v s") | assumption)))))))
end Mine
end
noncomputable section
open PySem PySem.W PyProof.Rows PySem.Calls
set_option Elab.async false
set_option maxRecDepth 100000
set_option maxHeartbeats 4000000
set_option linter.all false
set_option exponentiation.threshold 5000
set_option genInjectivity false
set_option genSizeOf false
namespace Mine
theorem filledW12 : PySem.Challenge.rw_pc0352_01 = PySem.Challenge.rw_pc0352_01 ∧ hd.heap_39 = hd.heap_39 := by
  k_fill
  exact ⟨rfl, rfl⟩
def optV : Option (Int × Int) → Val
  | none => vNone
  | some b => vTup [b.1, b.2]
/-- a function that answers an int k as g says -/
def CbIn (P : Addr → Obj → Prop) (v : Value) (g : Int → Option (Option (Int × Int))) : Prop :=
  ∃ f, v = .ref f ∧ (∃ oc od fd sl, P f ⟨oc, od, .func fd, sl⟩) ∧ ∀ w s k t r, (∀ a o, P a o → s.heap.get? a = some o) → Base w s.heap → g k = some r → Says w 790 (.ref f) [.int k t] s (fun h' v => New s.heap h' v (optV r))
theorem CbIn.mono {P P' : Addr → Obj → Prop} {v : Value} {g : Int → Option (Option (Int × Int))} (k : ∀ a o, P a o → P' a o) : CbIn P v g → CbIn P' v g :=
  fun ⟨f, ev, ⟨oc, od, fd, sl, h⟩, c⟩ => ⟨f, ev, ⟨oc, od, fd, sl, k _ _ h⟩, fun w s j t r hk => c w s j t r fun a o h => hk a o (k a o h)⟩
@[reducible] def vCb (g : Int → Option (Option (Int × Int))) : Val := ⟨false, fun P v => CbIn P v g, CbIn.mono⟩
section
variable {c : Cx} {sc : Scope} {σ σ1 : Sto} {τ τ' : Tmp} {s : Shared} {V W : Val} {r : Res} {d : Nat} {v : Value}
theorem Ev.callCb {x : Str} {p1 pos : Pos} {e : Expr} {g : Int → Option (Option (Int × Int))} {k : Int} {b : Option (Int × Int)} (O : Ok c d) (hr : d ≤ 790) (h : Ev c sc σ (.Name x p1) (vCb g)) (ha : Ev c sc σ e (vInt k)) (hg : g k = some b) (he : starEach [e] (c.env sc) = [(false, eval e (c.env sc))] := by rfl) : Ev c sc σ (.Call (.Name x p1) [e] [] pos) (optV b) := fun τ Q s S q =>
  Call_ (h _ s S fun v s1 S1 => by
    obtain ⟨f, rfl, ⟨oc, od, fd, sl, hf⟩, _⟩ := S1.at_
    refine callWith_F ⟨oc, od, fd, sl, hf⟩ (args_cons (ha _ s1 S1 fun u s2 S2 => args_nil ?_) he) he
    obtain ⟨t, rfl⟩ := S2.one
    obtain ⟨f', e', ⟨oc, od, fd, sl, hf⟩, hc⟩ := S2.drop.at_
    cases e'
    exact ⟨⟨oc, od, fd, sl, hf⟩, hc c.w s2 k t b (fun _ _ h => h) (S2.base O) hg c.A Q noE ⟨O.R.h, Nat.le_trans O.R.d hr, Nat.le_trans O.R.u (Nat.mul_le_mul_left 10 hr)⟩ fun v h' tk st n => q v _ (S2.drop2.after st n)⟩)
theorem Tr.isNone {a : Expr} {k : Nat} {p pos : Pos} (h : Ev c sc σ a vNone) : Tr c sc σ (.Compare a [.IsNot] [.Constant .none k p] pos) false := fun τ Q s S q =>
  wpAny_isTrue_Compare1 (h _ s S fun v s1 S1 => Ev.cnone _ s1 S1 fun u s2 S2 => by
    obtain ⟨_, _, _, _, _, _, _, _, _, _, _, _, t⟩ := id S2
    obtain rfl : u = .none := t _ (.head _)
    obtain rfl : v = .none := t _ (.tail _ (.head _))
    exact isnot_none_none (wpAny_truthy_bool (q _ S2.drop2)))
theorem Tr.isSome {a : Expr} {ns : List Int} {k : Nat} {p pos : Pos} (h : Ev c sc σ a (vTup ns)) : Tr c sc σ (.Compare a [.IsNot] [.Constant .none k p] pos) true := fun τ Q s S q =>
  wpAny_isTrue_Compare1 (h _ s S fun v s1 S1 => Ev.cnone _ s1 S1 fun u s2 S2 => by
    obtain ⟨_, _, _, _, _, _, _, _, _, _, _, _, t⟩ := id S2
    obtain rfl : u = .none := t _ (.head _)
    obtain ⟨_, _, _, rfl, _, _⟩ := t _ (.tail _ (.head _))
    exact isnot_ref_none (wpAny_truthy_bool (q _ S2.drop2)))
/-- the turns of a while that may return -/
def Wl (c : Cx) (sc : Scope) (σ : Sto) (t : Expr) (b : List Stmt) (r : Res) : Prop := ∀ ⦃Q : Flow → Shared → Prop⦄ s, St c sc σ [] s → Post c sc r Q → ∀ k, WhlRest Pg c.w c.A noE (c.env sc) t b [] Q k s
theorem Wl.step {t : Expr} {b : List Stmt} (h : Tr c sc σ t true) (hb : Ex c sc σ b (.next σ1)) (w : Wl c sc σ1 t b r) : Wl c sc σ t b r := fun Q s S q k => whl_turn (k := k) (by passes_own) (h _ s S fun s1 S1 => WhlIf.yes rfl (hb s1 S1 fun s2 S2 => w s2 S2 q k))
theorem Wl.ret {t : Expr} {b : List Stmt} (h : Tr c sc σ t true) (hb : Ex c sc σ b (.ret V)) : Wl c sc σ t b (.ret V) := fun Q s S q k => whl_turn (k := k) (by passes_own) (h _ s S fun s1 S1 => WhlIf.yes rfl (hb s1 S1 fun v s2 S2 => q v s2 S2))
theorem Wl.weak {σ' : Sto} {t : Expr} {b : List Stmt} (w : Wl c sc σ' t b r) (k : ∀ p ∈ σ', σ.lookup p.1 = some p.2) : Wl c sc σ t b r := fun Q s S q n => w s (S.weak (sub_of k) fun _ hp => hp) q n
theorem Ex.whl {t : Expr} {b rest : List Stmt} {pos : Pos} (w : Wl c sc σ t b (.ret V)) : Ex c sc σ (.While t b [] pos :: rest) (.ret V) := .stop fun Q s S q => whl_start 0 (w s S q 0)
end
end Mine
end
noncomputable section
open PySem PySem.W PyProof.Rows PySem.Calls
set_option Elab.async false
set_option maxRecDepth 100000
set_option maxHeartbeats 4000000
set_option linter.all false
set_option exponentiation.threshold 5000
namespace Mine
theorem filledW13 : PySem.Challenge.rw_pc0352_01 = PySem.Challenge.rw_pc0352_01 ∧ hd.heap_39 = hd.heap_39 := by
  k_fill
  exact ⟨rfl, rfl⟩
theorem f_decided (w : World) (precision work : Int) (g : Int → Option (Option (Int × Int))) {a b : Int} {n : Nat} (hp : decF g n precision work = some (a, b)) : Fun w 700 301 [vInt precision, vInt work, vCb g] (vReal a b) := by
  refine' fun_of ["precision", "work", "bounds_at"] (ret_own rfl) ?hlim ?ho ?hcd ?hb ?hl ?_ ?c1 ?c2 ?c3 ?c4 rfl ?how
  (case hlim => decide)
  (case ho => k_is)
  (case hcd => k_is)
  (case hb => exact fun s => zip3 fun _ _ _ => BindsTo.of_eq rfl)
  (case hl => decide)
  (case c1 => exact rfl)
  (case c2 => exact rfl)
  (case c3 => exact rfl)
  (case c4 => decide)
  (case how => exact forall_cons rfl (forall_cons rfl (forall_cons rfl no_mem)))
  intro c O
  refine Ex.whl (Wl.weak (σ' := [("work", vInt work), ("precision", vInt precision), ("bounds_at", vCb g)]) ?_ (forall_cons rfl (forall_cons rfl (forall_cons rfl no_mem))))
  induction n generalizing work with
  | zero => cases hp
  | succ n ih =>
    unfold decF at hp
    simp only [Option.bind_eq_some_iff] at hp
    obtain ⟨r, hr, hp⟩ := hp
    cases r with
    | none => exact Wl.step (Tr.plain Ev.cbool rfl) (Ex.put (Ev.callCb O (Nat.le_of_ble_eq_true rfl) (Ev.loc rfl rfl) (Ev.loc rfl rfl) hr) (Sx.loc rfl) (Ex.ifp (Tr.isNone (Ev.loc rfl rfl)) (Ex.put (Ev.mul Ev.cint (Ev.loc rfl rfl) (by walk_at "v m")) (Sx.loc rfl) Ex.nil))) (Wl.weak (ih _ hp) (forall_cons rfl (forall_cons rfl (forall_cons rfl no_mem))))
    | some b =>
      dsimp only at hp
      split at hp
      rotate_left
      · cases hp
      simp only [Option.bind_eq_some_iff, Prod.exists] at hp
      obtain ⟨x0, x1, hx, y0, y1, hy, hp⟩ := hp
      split at hp
      · simp only [Option.some.injEq, Prod.mk.injEq] at hp
        obtain ⟨rfl, rfl⟩ := hp
        exact Wl.ret (Tr.plain Ev.cbool rfl) (Ex.put (Ev.callCb O (Nat.le_of_ble_eq_true rfl) (Ev.loc rfl rfl) (Ev.loc rfl rfl) hr) (Sx.loc rfl) (Ex.ifr (Tr.isSome (Ev.loc rfl rfl)) (Ex.swap2 O (Ev.call O (Evs.cons (Ev.loc rfl rfl) (Evs.cons (Ev.item 0 (Ev.loc rfl rfl) (fun _ _ x => x) rfl) (Evs.cons (Ev.shl Ev.cint (Ev.loc rfl rfl) (by walk_at "v s")) Evs.nil))) (f_rounded _ _ _ _ (by walk_at "v s")) (by k_is) (by k_is) (Nat.le_of_ble_eq_true rfl) rfl) (Ev.call O (Evs.cons (Ev.loc rfl rfl) (Evs.cons (Ev.item 1 (Ev.loc rfl rfl) (fun _ _ x => x) rfl) (Evs.cons (Ev.shl Ev.cint (Ev.loc rfl rfl) (by walk_at "v s")) Evs.nil))) (f_rounded _ _ _ _ (by walk_at "v s")) (by k_is) (by k_is) (Nat.le_of_ble_eq_true rfl) rfl) (Sx.loc rfl) (Sx.loc rfl) (Ex.ifr (Tr.plain (Ev.call O (Evs.real (Ev.loc rfl rfl) (Evs.real (Ev.loc rfl rfl) Evs.nil)) (f_same_real _ _ _ _ _) (by k_is) (by k_is) (Nat.le_of_ble_eq_true rfl) rfl) (by walk_at "v d")) (Ex.ret (Ev.loc rfl rfl))))))
      · exact Wl.step (Tr.plain Ev.cbool rfl) (Ex.put (Ev.callCb O (Nat.le_of_ble_eq_true rfl) (Ev.loc rfl rfl) (Ev.loc rfl rfl) hr) (Sx.loc rfl) (Ex.if1 (Tr.isSome (Ev.loc rfl rfl)) (Ex.swap2 O (Ev.call O (Evs.cons (Ev.loc rfl rfl) (Evs.cons (Ev.item 0 (Ev.loc rfl rfl) (fun _ _ x => x) rfl) (Evs.cons (Ev.shl Ev.cint (Ev.loc rfl rfl) (by walk_at "v s")) Evs.nil))) (f_rounded _ _ _ _ (by walk_at "v s")) (by k_is) (by k_is) (Nat.le_of_ble_eq_true rfl) rfl) (Ev.call O (Evs.cons (Ev.loc rfl rfl) (Evs.cons (Ev.item 1 (Ev.loc rfl rfl) (fun _ _ x => x) rfl) (Evs.cons (Ev.shl Ev.cint (Ev.loc rfl rfl) (by walk_at "v s")) Evs.nil))) (f_rounded _ _ _ _ (by walk_at "v s")) (by k_is) (by k_is) (Nat.le_of_ble_eq_true rfl) rfl) (Sx.loc rfl) (Sx.loc rfl) (Ex.ifp (Tr.plain (Ev.call O (Evs.real (Ev.loc rfl rfl) (Evs.real (Ev.loc rfl rfl) Evs.nil)) (f_same_real _ _ _ _ _) (by k_is) (by k_is) (Nat.le_of_ble_eq_true rfl) rfl) (by walk_at "v d")) Ex.nil)) (Ex.put (Ev.mul Ev.cint (Ev.loc rfl rfl) (by walk_at "v m")) (Sx.loc rfl) Ex.nil))) (Wl.weak (ih _ hp) (forall_cons rfl (forall_cons rfl (forall_cons rfl no_mem))))
end Mine
end
noncomputable section
open PySem PySem.W PyProof.Rows PySem.Calls
set_option Elab.async false
set_option maxRecDepth 100000
set_option maxHeartbeats 4000000
set_option linter.all false
set_option exponentiation.threshold 5000
set_option genInjectivity false
set_option genSizeOf false
namespace Mine
theorem filledW14 : PySem.Challenge.rw_pc0352_01 = PySem.Challenge.rw_pc0352_01 ∧ hd.heap_39 = hd.heap_39 := by
  k_fill
  exact ⟨rfl, rfl⟩
theorem off_mem {h : Heap} {b : Addr} {o : Obj} (TA : TabsAll h) (nt : Offtab o) (e : h.get? b = some o) : b ∉ tabL := fun hb => by
  obtain ⟨ps, hP, ok⟩ := TA b hb
  exact plain_ne nt e hP ok.tri rfl
theorem bare_mem {g : Heap} {b : Addr} {o : Obj} (e : (bare g).get? b = some o) : b ∉ tabL := fun hb => by rw [bare_none hb] at e; cases e
theorem useP {w : World} {A : Around} {E Q : Value → Shared → Prop} {s : Shared} {d : Nat} {f : Value} {vs : List Value} {g : Heap} {L : Addr} {mm : Str → Option Value} {own rest : Led} {post : Heap → Value → Prop} (C : SaysC w d f vs s post) (R : Room A d) (F : Fr (bare g) L s.heap mm) (N : News (bare g) L s.heap (own ++ rest)) (TI : TabsIn (bare g) rest) (hown : ∀ q ∈ own, Offtab q.2)
    (h : ∀ v h' tk' rest', Fr (bare g) L h' mm → News (bare g) L h' (own ++ rest') → TabsIn (bare g) rest' → post h' v → Q v { s with heap := h', toks := tk' }) : wpAny (model Pg w) A (call f vs) Q E s := by
  have TA := tabsAll_of F N TI
  refine C A Q E R fun v h' tk st ta hp => ?_
  have kL : ∀ b o, Offtab o → s.heap.get? b = some o → h'.get? b = some o := fun b o nt e => st b o (off_mem TA nt e) e
  have F' : Fr (bare g) L h' mm := by
    refine ⟨?_, fun b o e => st b o (bare_mem e) (F.keep b o e), F.above⟩
    obtain ⟨o, es, ep, e, hd, r⟩ := F.ns
    exact ⟨o, es, ep, kL _ _ (.inl (.inr fun vs q => by rw [hd] at q; cases q)) e, hd, r⟩
  obtain ⟨rest', N', TI'⟩ := tabsIn_of F' ta (fun P hP => bare_none hP)
  refine h v h' tk rest' F' (fun p hp => ?_) TI' hp
  rcases List.mem_append.mp hp with hp | hp
  · have n := N p (List.mem_append_left _ hp)
    exact ⟨kL _ _ (hown p hp) n.1, n.2⟩
  · exact N' p hp
/-- an activation that may turn the tables of codes -/
structure OkT (c : Cx) : Prop where
  T : c.T = TabsIn c.g
  B : ∃ g0, c.g = bare g0
structure OkC (c : Cx) (sc : Scope) (cdv : Value) (q : Str) : Prop extends OkT c where
  cl : c.cl = cellsFrom (c.L + 1) sc.names []
  cc : c.cc = c.cl
  cd : c.cd = cdv
  q : c.qual = q
  nd : ((cellsFrom 0 sc.names []).map (·.1)).Nodup
theorem cell_off {κ : Str → Option Value} {cs : List (Str × Addr)} {cells : Led} (Y : CellsAre κ cs cells) : ∀ p ∈ cells, Offtab p.2 := fun p hp => let ⟨_, e⟩ := cells_off Y p hp; .inl (notTab_cell e)
def FunC (w : World) (d : Nat) (f : Addr) (Ws : List Val) (V : Val) : Prop := ∀ ⦃vs⦄ s, Base w s.heap → TabsAll s.heap → Reps (bare s.heap) vs Ws → SaysC w d (.ref f) vs s fun h' v => New s.heap h' v V
/-- the result is new, or it is the second argument -/
def FunR (w : World) (d : Nat) (f : Addr) (Ws : List Val) (a b : Int) : Prop := ∀ ⦃vs⦄ s, Base w s.heap → TabsAll s.heap → Reps (bare s.heap) vs Ws → SaysC w d (.ref f) vs s fun h' v => New s.heap h' v (vReal a b) ∨ (vs[1]? = some v ∧ Ws[1]? = some (eReal a b))
section
variable {c : Cx} {sc : Scope} {σ σ1 : Sto} {τ τ' : Tmp} {s : Shared} {V W : Val} {r : Res} {d : Nat} {v : Value} {cdv : Value} {q : Str}
theorem St.tabs (OC : OkT c) (S : St c sc σ τ s) : TabsAll s.heap := by
  obtain ⟨mm, κ, own, cells, rest, F, N, K, Y, TI, e, l, t⟩ := S
  rw [OC.T] at TI
  exact tabsAll_of F (own := own ++ cells) (by rw [List.append_assoc]; exact N) TI
theorem St.bare_at (OC : OkT c) (S : St c sc σ ((v, V) :: τ) s) : V.p (fun a o => (bare s.heap).get? a = some o) v := by
  have TA := S.tabs OC
  obtain ⟨mm, κ, own, cells, rest, F, N, K, Y, TI, e, l, t⟩ := S
  obtain ⟨g0, hg⟩ := OC.B
  refine V.mono (fun a o h => h.elim (fun h => ?_) fun h => ?_) (t _ (.head _))
  · have n := (N _ (List.mem_append_left _ h)).1
    exact bare_get (off_mem TA (K _ h).off n) n
  · have e := h.2
    exact bare_get (bare_mem (hg ▸ e)) (F.keep _ _ e)
theorem St.bare_reps (OC : OkT c) : ∀ {Ws : List Val} {vs : List Value}, St c sc σ τ s → Got τ vs Ws → Reps (bare s.heap) vs Ws
  | [], _, _, h => h
  | W :: Ws, _, S, ⟨v, vs', V, e, m, i, t⟩ => ⟨v, vs', e, (S.into m i).bare_at OC, St.bare_reps OC S t⟩
/-- a call that may turn the tables -/
theorem St.useC (OC : OkT c) {d' : Nat} {f : Value} {vs : List Value} {post : Heap → Value → Prop} {Q : Value → Shared → Prop} (S : St c sc σ τ s) (C : SaysC c.w d' f vs s post) (R : Room c.A d')
    (k : ∀ v h' tk, post h' v → (∀ {u U}, New s.heap h' u U → St c sc σ ((u, U) :: τ) { s with heap := h', toks := tk }) → Q v { s with heap := h', toks := tk }) : wpAny (model Pg c.w) c.A (call f vs) Q noE s := by
  obtain ⟨mm, κ, own, cells, rest, F, N, K, Y, TI, e, l, t⟩ := S
  obtain ⟨g0, hg⟩ := OC.B
  rw [OC.T, hg] at TI
  rw [hg] at F N
  refine useP C R F (own := own ++ cells) (by rw [List.append_assoc]; exact N) TI (fun p hp => (List.mem_append.mp hp).elim (fun h => (K p h).off) (cell_off Y p)) fun v h' tk rest' F' N' TI' hp => k v h' tk hp fun {u U} n => ?_
  obtain ⟨objs, ho, hv⟩ := n
  rw [List.append_assoc] at N'
  refine ⟨mm, κ, objs ++ own, cells, rest', hg ▸ F', ?_, fun p hp => (List.mem_append.mp hp).elim (fun h => (ho p h).2.2) (K p), Y, by rw [OC.T, hg]; exact TI', by rw [e], fun x V hx => let ⟨v, h1, h2⟩ := l x V hx; ⟨v, h1, Val.rep_mono (fun _ => List.mem_append_right _) h2⟩, forall_cons (U.mono (fun _ _ hp => .inl (List.mem_append_left _ hp)) hv) fun p hp => Val.rep_mono (fun _ => List.mem_append_right _) (t p hp)⟩
  rw [hg, List.append_assoc]
  have old : ∀ b, s.heap.get? b = none → (bare g0).get? b = none := fun b hb => by
    cases z : (bare g0).get? b with
    | none => rfl
    | some o => rw [F.keep _ _ z] at hb; cases hb
  intro p hp
  rcases List.mem_append.mp hp with hp | hp
  · have hn := (ho p hp).1
    refine ⟨(ho p hp).2.1, fun z => ?_, old _ hn⟩
    obtain ⟨oL, _, _, hL, _⟩ := F.ns
    rw [z, hL] at hn; cases hn
  · exact N' p hp
theorem room_of {d d' : Nat} (O : Ok c d) (hr : d ≤ d') : Room c.A d' := ⟨O.R.h, Nat.le_trans O.R.d hr, Nat.le_trans O.R.u (Nat.mul_le_mul_left 10 hr)⟩
theorem Ev.callC {x : Str} {p1 pos : Pos} {e : Expr} {es : List Expr} {Ws : List Val} {f : Addr} {d' : Nat} (O : Ok c d) (OC : OkT c) (h : Evs c sc σ (e :: es) Ws) (C : FunC c.w d' f Ws V) (hf : nsIn (hd.heap_39 c.w.params) mainGlobals x = some (some (.ref f))) (hk : keepIn (hd.heap_39 c.w.params) (.ref f) = true) (hr : d ≤ d')
    (hx : sc.names.lookup x = some .globalImplicit) (hs : sc.kind = .function := by rfl) (hd : (x == ("__debug__" : Str)) = false := by decide) (he : starEach (e :: es) (c.env sc) = (false, eval e (c.env sc)) :: starEach es (c.env sc) := by rfl) (hplain : (backTo pos (starEach es (c.env sc))).any (·.1) = false := by rfl) : Ev c sc σ (.Call (.Name x p1) (e :: es) [] pos) V := fun τ Q s S q => by
  refine Call_ ?_
  obtain ⟨_, _, F, _, _⟩ := S.open_
  refine nameX_K F O.X (topRead_of O.T) hf ?_ hs hx hd
  refine callWith_K O.X hk (h pos _ s S fun vs τ' s1 sub g S1 => ?_) he hplain
  have B := S1.base O
  exact ⟨B.K, (S1.tmp sub).useC OC (C s1 B (S1.tabs OC) (S1.bare_reps OC g)) (room_of O hr) fun v h' tk n go => q v _ (go n)⟩
theorem Ev.callR {x : Str} {p1 pos : Pos} {e : Expr} {es : List Expr} {Ws : List Val} {f : Addr} {d' : Nat} {a b : Int} (O : Ok c d) (OC : OkT c) (h : Evs c sc σ (e :: es) Ws) (C : FunR c.w d' f Ws a b) (hf : nsIn (hd.heap_39 c.w.params) mainGlobals x = some (some (.ref f))) (hk : keepIn (hd.heap_39 c.w.params) (.ref f) = true) (hr : d ≤ d')
    (hx : sc.names.lookup x = some .globalImplicit) (hs : sc.kind = .function := by rfl) (hd : (x == ("__debug__" : Str)) = false := by decide) (he : starEach (e :: es) (c.env sc) = (false, eval e (c.env sc)) :: starEach es (c.env sc) := by rfl) (hplain : (backTo pos (starEach es (c.env sc))).any (·.1) = false := by rfl) : Ev c sc σ (.Call (.Name x p1) (e :: es) [] pos) (eReal a b) := fun τ Q s S q => by
  refine Call_ ?_
  obtain ⟨_, _, F, _, _⟩ := S.open_
  refine nameX_K F O.X (topRead_of O.T) hf ?_ hs hx hd
  refine callWith_K O.X hk (h pos _ s S fun vs τ' s1 sub g S1 => ?_) he hplain
  have B := S1.base O
  refine ⟨B.K, S1.useC OC (C s1 B (S1.tabs OC) (S1.bare_reps OC g)) (room_of O hr) fun v h' tk n go => ?_⟩
  have S2 := go (u := .none) (U := vNone) ⟨[], no_mem, rfl⟩
  rcases n with n | ⟨n1, n2⟩
  · exact q v _ (((go n).into (.head _) (.inr .real)).tmp (forall_cons (.head _) fun p hp => .tail _ (.tail _ (sub p hp))))
  · have : ∃ V, (v, V) ∈ τ' ∧ (V = eReal a b ∨ Into V (eReal a b)) := by
      clear q C S1 S2 go
      match Ws, vs, g, n1, n2 with
      | [_], _, ⟨_, _, _, rfl, _, _, rfl⟩, n1, n2 => cases n2
      | _ :: W :: _, _, ⟨_, _, _, rfl, _, _, u, _, V, rfl, m, i, _⟩, n1, n2 => cases n1; cases n2; exact ⟨V, m, i⟩
    obtain ⟨V, m, i⟩ := this
    exact q v _ ((S2.drop.into m i).tmp (forall_cons (.head _) fun p hp => .tail _ (sub p hp)))
/-- names that are cells -/
theorem Ev.cel {x : Str} {pos : Pos} {a : Addr} (OC : OkC c sc cdv q) (hx : sc.names.lookup x = some .cell) (ha : (cellsFrom (c.L + 1) sc.names []).lookup x = some a) (hσ : σ.lookup x = some V) (hk : sc.kind = .function := by rfl) (hd : (x == ("__debug__" : Str)) = false := by decide) : Ev c sc σ (.Name x pos) V := fun τ Q s ⟨mm, κ, own, cells, rest, F, N, K, Y, TI, e, l, t⟩ h => by
  obtain ⟨v, hv, rv⟩ := l x V hσ
  obtain ⟨o, h1, h2⟩ := cells_get Y (x := x) (a := a) (by rw [OC.cc, OC.cl]; exact ha)
  rw [hv.cel hx] at h2
  exact nameX_C N (by rw [OC.cl]; exact ha) (List.mem_append_right _ (List.mem_append_left _ h1)) h2 (h v s ⟨mm, κ, own, cells, rest, F, N, K, Y, TI, e, l, forall_cons rv t⟩) hk hx hd
theorem from_pair : ∀ (names : List (Str × NameKind)) (n : Nat) (acc : List (Str × Addr)), acc.Pairwise (fun x y => x.2 ≠ y.2) → (∀ p ∈ acc, p.2 < n) → (cellsFrom n names acc).Pairwise (fun x y => x.2 ≠ y.2) ∧ ∀ p ∈ cellsFrom n names acc, p.2 ∈ acc.map (·.2) ∨ n ≤ p.2
  | [], n, acc, h, _ => ⟨h, fun p hp => .inl (List.mem_map_of_mem hp)⟩
  | (x, k) :: r, n, acc, h, hn => by
    unfold cellsFrom
    split
    · obtain ⟨h1, h2⟩ := from_pair r (n + 1) ((x, n) :: acc) (List.pairwise_cons.mpr ⟨fun p hp => Nat.ne_of_gt (hn p hp), h⟩) (forall_cons (Nat.lt_succ_self n) fun p hp => Nat.lt_succ_of_lt (hn p hp))
      refine ⟨h1, fun p hp => ?_⟩
      rcases h2 p hp with h2 | h2
      · rcases List.mem_cons.mp h2 with h2 | h2
        · exact .inr (Nat.le_of_eq h2.symm)
        · exact .inl h2
      · exact .inr (Nat.le_of_succ_le h2)
    · exact from_pair r n acc h hn
theorem Sx.cel {x : Str} {a : Addr} (O : Ok c d) (OC : OkC c sc cdv q) (hx : sc.names.lookup x = some .cell) (ha : (cellsFrom (c.L + 1) sc.names []).lookup x = some a) (hs : sc.kind = .function := by rfl) : Sx c sc x := fun σ τ V v s Q S k => by
  obtain ⟨mm, κ, own, cells, rest, F, N, K, Y, TI, e, l, t⟩ := S
  obtain ⟨hap, hge⟩ := from_pair sc.names (c.L + 1) [] .nil no_mem
  have hcc : c.cc = cellsFrom (c.L + 1) sc.names [] := OC.cc.trans OC.cl
  have hab : ∀ n b, (n, b) ∈ cellsFrom (c.L + 1) sc.names [] → c.L < b := fun n b hb => (hge _ hb).elim (fun h => nomatch h) fun h => h
  rw [hcc] at Y
  have CL : Cl c.L (cellsFrom (c.L + 1) sc.names []) s.heap κ := Cl.of_news (own := []) (cells := cells) (fun p hp => N p (List.mem_append_right _ (List.mem_append_left _ hp))) Y hap hab
  have hLa := hab x a (mem_of_lookup ha)
  refine wpAny_storeName_cell hs hx (by show List.lookup x c.cl = _; rw [OC.cl]; exact ha) (CL.cell x a ha) fun h' hc' hsb => ?_
  have hold : c.g.get? a = none := Heap.get?_none_of_le (Nat.le_trans F.above (Nat.le_of_lt hLa))
  have F' : Fr c.g c.L h' mm := F.change hsb (Nat.ne_of_gt hLa) hold
  obtain ⟨cells', N', Y'⟩ := Cl.news (h := h') (cm := fun y => if y = x then some v else κ y) F.above (cs := cellsFrom (c.L + 1) sc.names []) fun n b hb => ⟨by
    have hl : (cellsFrom (c.L + 1) sc.names []).lookup n = some b := lookup_of_mem_nodup (cellsFrom_names sc.names 0 (c.L + 1) [] [] rfl ▸ OC.nd) hb
    by_cases hn : n = x
    · subst hn
      rw [ha] at hl
      cases hl
      rw [if_pos rfl]
      exact hc'
    · rw [if_neg hn]
      exact (CL.cell n b hl).sameBut hsb (fun q => hn (name_of_addr hap hb (q ▸ mem_of_lookup ha))), hab n b hb⟩
  obtain ⟨oa, hoa, hda⟩ := CL.cell x a ha
  have off : ∀ p : Addr × Obj, s.heap.get? p.1 = some p.2 → (∀ u, p.2.data ≠ .cell u) → p.1 ≠ a := fun p hp hn q => by
    rw [q, hoa] at hp
    cases hp
    exact hn _ hda
  refine k _ ⟨mm, fun y => if y = x then some v else κ y, own, cells', rest, F', fun p hp => ?_, K, by rw [hcc]; exact Y', TI, by rw [e], fun y W hy => ?_, fun p hp => t p (.tail _ hp)⟩
  · rcases List.mem_append.mp hp with hp | hp
    · have n := N p (List.mem_append_left _ hp)
      exact ⟨(hsb.2 _ (off p n.1 (K p hp).cell)).trans n.1, n.2⟩
    · rcases List.mem_append.mp hp with hp | hp
      · exact N' p hp
      · have n := N p (List.mem_append_right _ (List.mem_append_right _ hp))
        obtain ⟨vs, e⟩ := (O.cap rest TI p hp).1
        exact ⟨(hsb.2 _ (off p n.1 fun u q => by rw [q] at e; cases e)).trans n.1, n.2⟩
  · rcases look_cons hy with ⟨rfl, rfl⟩ | ⟨n, hy⟩
    · exact ⟨v, ⟨fun h => (by rw [hx] at h; cases h), fun _ => if_pos rfl, fun h => (by rw [hx] at h; cases h)⟩, t _ (.head _)⟩
    · obtain ⟨u, hu, r⟩ := l y W hy
      exact ⟨u, ⟨hu.loc, fun h => (if_neg n).trans (hu.cel h), hu.fre⟩, r⟩
/-- what a class C activation may have in its tables -/
theorem cap_of {g : Heap} : ∀ rest, TabsIn g rest → ∀ p ∈ rest, (∃ vs, p.2.data = .fields vs) ∧ ∀ a b, p.2 ≠ itR a b := fun rest ⟨tb, codes, e, ok, ir⟩ p hp => by
  subst e
  rcases List.mem_append.mp hp with hp | hp
  · obtain ⟨P, hP, rfl⟩ := List.mem_map.mp hp
    exact ⟨⟨_, rfl⟩, fun a b q => by have := congrArg Obj.cls q; cases this⟩
  · obtain ⟨vs, x, t, hd, hv⟩ := ir p hp
    refine ⟨⟨vs, hd⟩, fun a b q => ?_⟩
    rw [q] at hd
    have hd' : (Data.fields #[rawInt a, rawInt b, rawInt 1]) = Data.fields vs := hd
    cases hd'
    have hv' : (some (rawInt b)) = some (Value.str x t) := hv
    cases hv'
end
end Mine
end
noncomputable section
open PySem PySem.W PyProof.Rows PySem.Calls
set_option Elab.async false
set_option maxRecDepth 100000
set_option maxHeartbeats 4000000
set_option linter.all false
set_option exponentiation.threshold 5000
set_option genInjectivity false
set_option genSizeOf false
namespace Mine
theorem filledW15 : PySem.Challenge.rw_pc0352_01 = PySem.Challenge.rw_pc0352_01 ∧ hd.heap_39 = hd.heap_39 := by
  k_fill
  exact ⟨rfl, rfl⟩
theorem look_snoc {α : Type} {l : List (Str × α)} {n x : Str} {u : α} : (l ++ [(n, u)]).lookup x = (l.lookup x).or (if x = n then some u else none) := by
  rw [List.lookup_append]
  congr 1
  rw [List.lookup_cons]
  by_cases q : x = n
  · rw [if_pos q, q, beq_self_eq_true]
  · rw [if_neg q, beq_false_of_ne q]; rfl
theorem bindL_get {kind : Str → Option NameKind} {x : Str} {v : Value} (hx : kind x = some .local) : ∀ {binds : List (Str × Value)} {m : Str → Option Value}, (binds.reverse.lookup x).or (m x) = some v → bindL kind binds m x = some v
  | [], m, h => h
  | (n, u) :: r, m, h => by
    unfold bindL
    refine bindL_get hx ?_
    rw [List.reverse_cons, look_snoc, Option.or_assoc] at h
    rw [← h]
    congr 1
    by_cases q : x = n
    · rw [if_pos q, ← q, if_pos hx, if_pos rfl]; rfl
    · rw [if_neg q]
      split
      · show (if x = n then some u else m x) = none.or (m x); rw [if_neg q]; rfl
      · rfl
theorem bindC_get {kind : Str → Option NameKind} {x : Str} {v : Value} (hx : kind x ≠ some .local) : ∀ {binds : List (Str × Value)} {m : Str → Option Value}, (binds.reverse.lookup x).or (m x) = some v → bindC kind binds m x = some v
  | [], m, h => h
  | (n, u) :: r, m, h => by
    unfold bindC
    refine bindC_get hx ?_
    rw [List.reverse_cons, look_snoc, Option.or_assoc] at h
    rw [← h]
    congr 1
    by_cases q : x = n
    · rw [if_pos q, ← q, if_neg hx, if_pos rfl]; rfl
    · rw [if_neg q]
      split
      · rfl
      · show (if x = n then some u else m x) = none.or (m x); rw [if_neg q]; rfl
theorem look_in {α β : Type} {xs : List Str} {ys : List α} {x : Str} {v : α} (h : (xs.zip ys).reverse.lookup x = some v) : x ∈ xs := by
  have : ∀ {l : List (Str × α)} {x : Str} {v : α}, l.lookup x = some v → (x, v) ∈ l := fun {l} => by
    induction l with
    | nil => exact fun h => nomatch h
    | cons p l ih =>
      intro x v h
      rw [List.lookup_cons] at h
      split at h
      · rename_i e; cases h; rw [eq_of_beq e]; exact .head _
      · exact .tail _ (ih h)
  exact (List.of_mem_zip (List.mem_reverse.mp (this h))).1
/-- statements that return, with a word on the heap -/
def ExH (c : Cx) (sc : Scope) (σ : Sto) (b : List Stmt) (V : Val) (H : Heap → Value → Prop) : Prop := ∀ ⦃Q : Flow → Shared → Prop⦄ s, St c sc σ [] s → (∀ v s, St c sc [] [(v, V)] s → H s.heap v → Q (.ret v) s) → wpAny (model Pg c.w) c.A (execs b (c.env sc)) Q noE s
theorem Ex.h {c : Cx} {sc : Scope} {σ : Sto} {b : List Stmt} {V : Val} (h : Ex c sc σ b (.ret V)) : ExH c sc σ b V fun _ _ => True := fun Q s S k => h s S fun v s' S' => k v s' S' trivial
/-- the entry of a def that may turn the tables, with cells -/
theorem enterEx {w : World} {d : Nat} {s : Shared} {f : Addr} {vs : List Value} {Ws : List Val} {V : Val} {name qual : Str} {params : Arguments} {body : List Stmt} {scope : Scope} {dV kV doc pm cdv ct oc : Value} {an od : Option Addr} {osl : Array (Option Value)} {H post : Heap → Value → Prop} (xs : List Str) (hlim : d < recursionLimit)
    (ho : (hd.heap_39 w.params).lookup f = some ⟨oc, od, .func (fnOf name qual params body scope dV kV doc pm an cdv ct), osl⟩) (hcd : codeIn (hd.heap_39 w.params) cdv qual = true)
    (hb : ∀ s vs, vs.length = xs.length → BindsTo s (fnOf name qual params body scope dV kV doc pm an cdv ct) ⟨vs, []⟩ (xs.zip vs)) (hl : ∀ x ∈ xs, scope.names.lookup x = some .local ∨ scope.names.lookup x = some .cell) (hnd : ((cellsFrom 0 scope.names []).map (·.1)).Nodup)
    (B : Base w s.heap) (TA : TabsAll s.heap) (R : Reps (bare s.heap) vs Ws) (how : ∀ W ∈ Ws, W.own = false)
    (h : ∀ c : Cx, c.g = bare s.heap → Ok c (d + 1) → OkC c scope cdv qual → ExH c scope (xs.zip Ws).reverse body V H)
    (hpost : ∀ h' v objs, (∀ p ∈ objs, s.heap.get? p.1 = none ∧ h'.get? p.1 = some p.2 ∧ Plain p.2) → V.rep (bare s.heap) objs v → H h' v → post h' v)
    (hco : scope.isCoroutine = false) (hgen : scope.isGenerator = false) (hk : scope.kind = .function) (hn : Ws.length = xs.length) : SaysC w d (.ref f) vs s post := fun A Q E Rm k => by
  have B' := bare_base TA B
  obtain ⟨X, loose, mean, mg, mb, T⟩ := B'
  refine enterTC (binds := xs.zip vs) Rm hlim B TA ho hcd (hb s vs (R.len.trans hn)) (List.all_eq_true.mpr fun y hy => ?_) hnd (bindL (fun y => scope.names.lookup y) (xs.zip vs) fun _ => none) (fun _ => rfl) (fun L' h₁ tk cells rest hlt F N TI Y => ?_) hco hgen hk
  · rcases hl _ (List.of_mem_zip hy).1 with e | e <;> rw [e] <;> rfl
  refine h ⟨w, (Ac d).deeper (envOfC qual scope L' f cdv), bare s.heap, L', qual, f, cdv, cellsFrom (L' + 1) scope.names [], cellsFrom (L' + 1) scope.names [], s, loose, mean, mg, mb, TabsIn (bare s.heap)⟩ rfl ⟨X, T, ⟨rfl, Nat.le_refl _, ?_⟩, cap_of⟩ ⟨⟨rfl, ⟨_, rfl⟩⟩, rfl, rfl, rfl, rfl, hnd⟩ _ ⟨_, _, [], cells, rest, F, N, no_mem, Y, TI, rfl, fun x V hx => ?_, no_mem⟩ ?_
  · show 10 * d + 3 ≤ 10 * (d + 1)
    omega
  · obtain ⟨v, h1, h2⟩ := (Loc.rev (Loc.zip R how xs) .nil).get x V hx
    have hm := hl x (look_in (β := Val) h1)
    have h1' : ((xs.zip vs).reverse.lookup x).or none = some v := by rw [show List.lookup x (xs.zip vs).reverse = some v from h1]; rfl
    refine ⟨v, ⟨fun e => bindL_get e h1', fun e => bindC_get (fun q => ?_) h1', fun e => ?_⟩, h2⟩
    · have q : scope.names.lookup x = some .local := q
      rw [e] at q; cases q
    · rcases hm with q | q <;> rw [q] at e <;> cases e
  · rintro v s' ⟨mm, κ, own, cells', rest', F', N', K, Y', TI', e, l, t⟩ hH
    refine ⟨L', mm, own ++ cells', rest', F', by rw [List.append_assoc]; exact N', TI', fun st ta => ?_⟩
    have := k v s'.heap s'.toks st ta (hpost _ _ own (fun p hp => ⟨?_, (N' p (List.mem_append_left _ hp)).1, K p hp⟩) (t _ (.head _)) hH)
    · rw [e]; exact this
    · have n := N' p (List.mem_append_left _ hp)
      cases z : s.heap.get? p.1 with
      | none => rfl
      | some o =>
        have := n.2.2
        rw [bare_get (off_mem ta (K p hp).off n.1) z] at this
        cases this
theorem funC_of {w : World} {d : Nat} {f : Addr} {Ws : List Val} {V : Val} {name qual : Str} {params : Arguments} {body : List Stmt} {scope : Scope} {dV kV doc pm cdv ct oc : Value} {an od : Option Addr} {osl : Array (Option Value)} (xs : List Str) (hret : Ret V) (hlim : d < recursionLimit)
    (ho : (hd.heap_39 w.params).lookup f = some ⟨oc, od, .func (fnOf name qual params body scope dV kV doc pm an cdv ct), osl⟩) (hcd : codeIn (hd.heap_39 w.params) cdv qual = true)
    (hb : ∀ s vs, vs.length = xs.length → BindsTo s (fnOf name qual params body scope dV kV doc pm an cdv ct) ⟨vs, []⟩ (xs.zip vs)) (hl : ∀ x ∈ xs, scope.names.lookup x = some .local ∨ scope.names.lookup x = some .cell) (hnd : ((cellsFrom 0 scope.names []).map (·.1)).Nodup)
    (h : ∀ c : Cx, Ok c (d + 1) → OkC c scope cdv qual → Ex c scope (xs.zip Ws).reverse body (.ret V))
    (hco : scope.isCoroutine = false) (hgen : scope.isGenerator = false) (hk : scope.kind = .function) (hn : Ws.length = xs.length) (how : ∀ W ∈ Ws, W.own = false) : FunC w d f Ws V := fun vs s B TA R =>
  enterEx xs hlim ho hcd hb hl hnd B TA R how (fun c _ O OC => (h c O OC).h) (fun h' v objs hobj hv _ => ⟨objs, hobj, hret _ _ _ hv⟩) hco hgen hk hn
/-- a value that is told -/
@[reducible] def vIs (v0 : Value) (m e : Int) : Val := ⟨false, fun P v => v = v0 ∧ RealIn P v m e, fun k h => ⟨h.1, (eReal m e).mono k h.2⟩⟩
theorem Evs.is {c : Cx} {sc : Scope} {σ : Sto} {e : Expr} {es : List Expr} {Vs : List Val} {v0 : Value} {m e' : Int} (h : Ev c sc σ e (vIs v0 m e')) (t : Evs c sc σ es Vs) (he : starEach (e :: es) (c.env sc) = (false, eval e (c.env sc)) :: starEach es (c.env sc) := by rfl) : Evs c sc σ (e :: es) (eReal m e' :: Vs) := Evs.into h (.inr ⟨rfl, fun _ _ x => x.2⟩) t he
/-- two arguments, the second a Real: what comes back is new, or that Real -/
theorem funR_of {w : World} {d : Nat} {f : Addr} {W : Val} {m e a b : Int} {V : Value → Val} {name qual : Str} {params : Arguments} {body : List Stmt} {scope : Scope} {dV kV doc pm cdv ct oc : Value} {an od : Option Addr} {osl : Array (Option Value)} (x1 x2 : Str) (hV : (∀ v0, V v0 = vReal a b) ∨ (∀ v0, V v0 = vIs v0 m e) ∧ a = m ∧ b = e) (hlim : d < recursionLimit)
    (ho : (hd.heap_39 w.params).lookup f = some ⟨oc, od, .func (fnOf name qual params body scope dV kV doc pm an cdv ct), osl⟩) (hcd : codeIn (hd.heap_39 w.params) cdv qual = true)
    (hb : ∀ s vs, vs.length = [x1, x2].length → BindsTo s (fnOf name qual params body scope dV kV doc pm an cdv ct) ⟨vs, []⟩ ([x1, x2].zip vs)) (hl : ∀ x ∈ [x1, x2], scope.names.lookup x = some .local ∨ scope.names.lookup x = some .cell) (hnd : ((cellsFrom 0 scope.names []).map (·.1)).Nodup)
    (h : ∀ (c : Cx) v0, Ok c (d + 1) → OkC c scope cdv qual → Ex c scope [(x2, vIs v0 m e), (x1, W)] body (.ret (V v0)))
    (hco : scope.isCoroutine = false) (hgen : scope.isGenerator = false) (hk : scope.kind = .function) (hw : W.own = false) : FunR w d f [W, eReal m e] a b := fun vs s B TA ⟨v1, _, e1, h1, v2, _, e2, h2, e3⟩ => by
  subst e3 e2 e1
  refine enterEx [x1, x2] (Ws := [W, vIs v2 m e]) (V := V v2) hlim ho hcd hb hl hnd B TA ⟨v1, _, rfl, h1, v2, _, rfl, ⟨rfl, h2⟩, rfl⟩ (forall_cons hw (forall_cons rfl no_mem)) (fun c _ O OC => (h c v2 O OC).h) (fun h' v objs hobj hv _ => ?_) hco hgen hk rfl
  rcases hV with hV | ⟨hV, rfl, rfl⟩
  · rw [hV] at hv
    exact .inl ⟨objs, hobj, ret_own (V := vReal a b) rfl _ _ _ hv⟩
  · rw [hV] at hv
    exact .inr ⟨congrArg some hv.1.symm, rfl⟩
end Mine
end
noncomputable section
open PySem PySem.W PyProof.Rows PySem.Calls
set_option Elab.async false
set_option maxRecDepth 100000
set_option maxHeartbeats 8000000
set_option linter.all false
set_option exponentiation.threshold 5000
namespace Mine
theorem filled15 : PySem.Challenge.rw_pc0352_01 = PySem.Challenge.rw_pc0352_01 ∧ hd.heap_39 = hd.heap_39 := by
  k_fill
  exact ⟨rfl, rfl⟩

section
variable {M : Model} {A : Around} {E : Value → Shared → Prop} {s : Shared} {h₀ : Heap} {L a c P : Addr} {m mg mb : Str → Option Value} {cn : Str} {cs : Scope} {ccd : Value} {cl : List (Str × Addr)} {own rest : List (Addr × Obj)}
  {p : Program} {loose : List Str} {mean : ExcName → Option Value} {name qual : Str} {params : Arguments} {body : List Stmt} {scope : Scope} {pos : Pos} {firstLine : Nat} {clos : List (Str × Addr)}
/-- a nested def is made -/
theorem def_make (own : List (Addr × Obj)) {Q : Value → Shared → Prop} (F : Fr h₀ L s.heap m) (N : News h₀ L s.heap (own ++ rest)) (TI : TabsIn h₀ rest) (hown : ∀ q ∈ own, Offtab q.2) (T : Top p loose mean mg mb h₀) (C : CodeHd h₀ c P) (hcd : ccd = .ref c)
    (hP : P ∈ tabL) (hpos : (P, pos, qual) ∈ lamPs) (hcl : closureFor scope (envX cn cs L a ccd cl) = pure clos)
    (h : ∀ f c' ctv doc pm h' tk rest', Fr h₀ L h' m → News h₀ L h' ((f, fnMade name qual params body scope clos doc pm c' ctv) :: (own ++ rest')) → TabsIn h₀ rest' → CrL h₀ rest' (.ref c') qual → Q (.ref f) { s with heap := h', toks := tk }) :
    wpAny M A (makeFunction name qual params (.stmts body) scope (envX cn cs L a ccd cl) [] [] [] pos firstLine) Q E s := by
  obtain ⟨tb, codes, rfl, ok, ir⟩ := TI
  have hmem : (P, tabObj (tb P)) ∈ own ++ (tabs7 tb ++ codes) := List.mem_append_right _ (List.mem_append_left _ (List.mem_map_of_mem hP))
  have hm := N _ hmem
  have okP := ok P hP
  cases hf : codeAmong pos (tb P).toList with
  | some v =>
    have cr := okP.code _ hpos rfl v hf
    have hv : ∃ c', v = .ref c' := by
      rcases cr with ⟨c', _, _, _, e, _⟩ | ⟨c', _, _, _, e, _⟩ <;> exact ⟨c', e⟩
    obtain ⟨c', rfl⟩ := hv
    refine nestHit_K F N T C hcd hmem okP.tri hf hcl fun f ctv doc h' tk F' N' _ => ?_
    exact h f c' ctv doc _ h' tk _ F' N' ⟨tb, codes, rfl, ok, ir⟩ (cr.mono fun p hp => List.mem_append_right _ hp)
  | none =>
    have hgs := T.g.keeps F.keep
    obtain ⟨bm, ob, b1, b2, b3, b4, b5, b6⟩ := T.bmain
    have hgP : mainGlobals ≠ P := fun q => by
      obtain ⟨o, es, ep, e, hd, _⟩ := hgs
      rw [q, hm.1] at e; cases e; cases hd
    have hbP : bm ≠ P := fun q => by
      have e := F.keep _ _ b3
      rw [q, hm.1] at e; cases e; cases b4
    have hbG : bm ≠ mainGlobals := fun q => by
      obtain ⟨o, es, ep, e, hd, _⟩ := T.g
      rw [q, e] at b3; cases b3; rw [hd] at b6; cases b6
    refine makeFunction_K (mg := mg) hcl rfl hgs hcd (C.keeps F.keep) hm.1 okP.tri hf hgP ⟨bm, ob, b1, b2, hbG, hbP, F.keep _ _ b3, b4, b5, b6⟩ fun c' ctv doc h' tk hx hge hlt hrec htb => ?_
    obtain ⟨c₂, oc, vs, t, e2, hoc, hd, hv⟩ := hrec
    cases e2
    have hLs : L < s.heap.objs.size := F.ns.lt
    have hLc : L < c' := Nat.lt_of_lt_of_le hLs hge
    have old : ∀ b o, h₀.get? b = some o → h'.get? b = some o := fun b o e => hx b o (fun q => by rw [q, hm.2.2] at e; cases e) (F.keep b o e)
    have fresh : ∀ b, L < b → h₀.get? b = none := fun b hb => Heap.get?_none_of_le (Nat.le_trans F.above (Nat.le_of_lt hb))
    have hu : ∀ Q', Q' ∈ tabL → TabOk Q' ((fun R => if R = P then tb P ++ #[rawInt pos.line, rawInt pos.col, .ref c'] else tb R) Q') (CrL h₀ ((c', oc) :: codes)) := fun Q' hQ' => by
      by_cases e : Q' = P
      · subst e
        simp only [if_true]
        refine ⟨by rw [Array.toList_append]; exact TriplesOk_snoc _ _ _ _ okP.tri, fun q hq e v hv' => ?_⟩
        rw [Array.toList_append] at hv'
        by_cases same : pos.line = q.2.1.line ∧ pos.col = q.2.1.col
        · have eq : q = (Q', pos, qual) := by
            have all : ∀ x ∈ lamPs, ∀ y ∈ lamPs, x.1 = y.1 → x.2.1.line = y.2.1.line → x.2.1.col = y.2.1.col → x = y := by decide
            exact all q hq _ hpos e same.1.symm same.2.symm
          subst eq
          rw [show (#[rawInt pos.line, rawInt pos.col, Value.ref c'] : Array Value).toList = [rawInt pos.line, rawInt pos.col, .ref c'] from rfl, codeAmong_snoc _ okP.tri hf] at hv'
          cases hv'
          exact .inr ⟨c', oc, vs, t, rfl, .head _, hd, hv⟩
        · rw [show (#[rawInt pos.line, rawInt pos.col, Value.ref c'] : Array Value).toList = [rawInt pos.line, rawInt pos.col, .ref c'] from rfl, codeAmong_snoc_ne _ okP.tri same] at hv'
          exact (okP.code q hq e v hv').mono fun p hp => .tail _ hp
      · simp only [if_neg e]
        exact (ok Q' hQ').mono fun v q x => x.mono fun p hp => .tail _ hp
    refine h h'.objs.size c' ctv doc ((mg "__name__").getD .none) _ tk (tabs7 (fun R => if R = P then tb P ++ #[rawInt pos.line, rawInt pos.col, .ref c'] else tb R) ++ (c', oc) :: codes) ⟨(F.ns.extBut hx hm.2.1.symm).push _, fun b o e => Heap.get?_push_of_some _ (old b o e), F.above⟩ (fun q hq => ?_) ⟨_, _, rfl, hu, fun p hp => by rcases List.mem_cons.mp hp with rfl | hp; exact ⟨vs, _, t, hd, hv⟩; exact ir p hp⟩
      (.inr ⟨c', oc, vs, t, rfl, List.mem_append_right _ (.head _), hd, hv⟩)
    rcases List.mem_cons.mp hq with rfl | hq
    · exact ⟨Heap.get?_push_size _ rfl, Nat.ne_of_gt (Nat.lt_trans hLc hlt), fresh _ (Nat.lt_trans hLc hlt)⟩
    · rcases List.mem_append.mp hq with hq | hq
      · have n := N q (List.mem_append_left _ hq)
        exact ⟨Heap.get?_push_of_some _ (hx _ _ (plain_ne (hown q hq) n.1 hm.1 okP.tri) n.1), n.2⟩
      · rcases List.mem_append.mp hq with hq | hq
        · obtain ⟨R, hR, rfl⟩ := List.mem_map.mp hq
          by_cases e : R = P
          · subst e
            simp only [if_true]
            exact ⟨Heap.get?_push_of_some _ htb, hm.2⟩
          · simp only [if_neg e]
            have n := N (R, tabObj (tb R)) (List.mem_append_right _ (List.mem_append_left _ (List.mem_map_of_mem hR)))
            exact ⟨Heap.get?_push_of_some _ (hx _ _ e n.1), n.2⟩
        · rcases List.mem_cons.mp hq with rfl | hq
          · exact ⟨Heap.get?_push_of_some _ hoc, Nat.ne_of_gt hLc, fresh _ hLc⟩
          · have n := N q (List.mem_append_right _ (List.mem_append_right _ hq))
            exact ⟨Heap.get?_push_of_some _ (hx _ _ (isRec_ne (ir q hq) n.1 hm.1 okP.tri) n.1), n.2⟩
end
section
variable {w : World} {A : Around} {E : Value → Shared → Prop} {s : Shared} {Q : Value → Shared → Prop} {prog : Program}
theorem enterNest {d : Nat} {name qual : Str} {params : Arguments} {body : List Stmt} {scope : Scope} {cl : List (Str × Addr)} {doc pm ctv : Value} {c' f : Addr} {vs : List Value} {binds : List (Str × Value)}
    (R : Room A d) (hroom : d < recursionLimit) (B : Base w s.heap) (ho : s.heap.get? f = some (fnMade name qual params body scope cl doc pm c' ctv)) (hcd : s.heap.CodeRec (.ref c') qual)
    (hbind : BindsTo s (fnX name qual params body scope cl .none .none doc pm none (.ref c') ctv) ⟨vs, []⟩ binds) (hloc : ∀ y ∈ binds, scope.names.lookup y.1 = some .local)
    (h : ∀ L' h₁, Fr s.heap L' h₁ (fun y => binds.reverse.lookup y) → News s.heap L' h₁ [] →
      wpAny (model prog w) ((Ac d).deeper (envX qual scope L' f (.ref c') cl)) (execs body (envX qual scope L' f (.ref c') cl)) (fun fl s' => Fin s.heap Q (match fl with | .ret v => v | _ => .none) s') (fun _ _ => False) { s with heap := h₁, toks := s.toks + binds.length })
    (hco : scope.isCoroutine = false) (hgen : scope.isGenerator = false) (hk : scope.kind = .function)
    (hcell : ∀ x ∈ scope.names, x.2 ≠ .cell) : wpAny (model prog w) A (call (.ref f) vs) Q E s := by
  obtain ⟨l, me, mg, mb, T⟩ := B.T
  refine wpAny_call (cd_weak R ?_)
  refine codeAny_call_function (fd := fnX name qual params body scope cl .none .none doc pm none (.ref c') ctv) hroom ho rfl hco hgen rfl hcd (hbind _ _ _ _ ?_)
  refine wpAny_newFunctionEnv hcell hloc (fun h₁ hns hsb => ⟨T.nolimit.fresh _ hsb, codeAny_func ?_⟩) hk
  have hk₁ : ∀ b o, s.heap.get? b = some o → h₁.get? b = some o := fun b o e => hsb.extBut b o (Nat.ne_of_lt (Heap.lt_size e)) (Heap.get?_push_of_some _ e)
  refine wpAny_mono (h s.heap.objs.size h₁ ⟨hns, hk₁, Nat.le_refl _⟩ .nil) (fun v s' hl => ?_) (fun _ _ x => x.elim)
  obtain ⟨L, m, news, F', N', k⟩ := hl
  exact k F'.keep
end
end Mine
end
noncomputable section
open PySem PySem.W PyProof.Rows PySem.Calls
set_option Elab.async false
set_option maxRecDepth 100000
set_option maxHeartbeats 4000000
set_option linter.all false
set_option exponentiation.threshold 5000
set_option genInjectivity false
set_option genSizeOf false
namespace Mine
theorem filledW16 : PySem.Challenge.rw_pc0352_01 = PySem.Challenge.rw_pc0352_01 ∧ hd.heap_39 = hd.heap_39 := by
  k_fill
  exact ⟨rfl, rfl⟩
/-- a function that was made here: its object, its code's record -/
inductive FnIn (P : Addr → Obj → Prop) (v : Value) (mk : Value → Value → Addr → Value → Obj) (qual : Str) : Prop
  | mk (f c' : Addr) (doc pm ctv : Value) (oc : Obj) (vs : Array Value) (t : Tok) (ev : v = .ref f) (hf : P f (mk doc pm c' ctv)) (hc : P c' oc) (hd : oc.data = .fields vs) (hq : vs[1]? = some (.str qual t))
@[reducible] def vFn (mk : Value → Value → Addr → Value → Obj) (qual : Str) : Val := ⟨false, fun P v => FnIn P v mk qual, fun k ⟨f, c', doc, pm, ctv, oc, vs, t, ev, hf, hc, hd, hq⟩ => ⟨f, c', doc, pm, ctv, oc, vs, t, ev, k _ _ hf, k _ _ hc, hd, hq⟩⟩
abbrev lamObj (qual : Str) (params : Arguments) (body : Expr) (scope : Scope) (clos : List (Str × Addr)) : Value → Value → Addr → Value → Obj := fun _ pm c' ctv => kla_obj "<lambda>" qual params body scope clos pm c' ctv
abbrev defObj (name qual : Str) (params : Arguments) (body : List Stmt) (scope : Scope) (clos : List (Str × Addr)) : Value → Value → Addr → Value → Obj := fun doc pm c' ctv => fnMade name qual params body scope clos doc pm c' ctv
/-- an expression, with a word on the heap -/
def EvH (c : Cx) (sc : Scope) (σ : Sto) (e : Expr) (H : Heap → Value → Prop) : Prop := ∀ ⦃τ⦄ (Q : Value → Shared → Prop) s, St c sc σ τ s → (∀ v s', St c sc σ τ s' → H s'.heap v → Q v s') → wpAny (model Pg c.w) c.A (eval e (c.env sc)) Q noE s
/-- a callback, as it stands in a heap -/
abbrev CbAt (g : Int → Option (Option (Int × Int))) : Heap → Value → Prop := fun h v => CbIn (fun a o => h.get? a = some o) v g
section
variable {c : Cx} {sc : Scope} {σ σ1 : Sto} {τ τ' : Tmp} {s : Shared} {V W : Val} {r : Res} {d : Nat} {v : Value} {cdv : Value} {q : Str}
theorem St.made {h' : Heap} {tk : Nat} {mm κ : Str → Option Value} {own cells rest' : Led} {f c' : Addr} {doc pm ctv : Value} {mk : Value → Value → Addr → Value → Obj} {qual : Str} (OC : OkC c sc cdv q) (K : ∀ p ∈ own, Plain p.2) (Y : CellsAre κ c.cc cells) (e : s = { c.s0 with heap := s.heap, toks := s.toks })
    (l : ∀ x V, σ.lookup x = some V → ∃ v, Holds c sc mm κ x v ∧ V.rep c.g own v) (t : ∀ p ∈ τ, p.2.rep c.g own p.1) (F' : Fr c.g c.L h' mm) (N' : News c.g c.L h' ((f, mk doc pm c' ctv) :: ((own ++ cells) ++ rest'))) (TI' : TabsIn c.g rest') (cr : CrL c.g rest' (.ref c') qual) (hp : Plain (mk doc pm c' ctv)) :
    St c sc σ ((.ref f, vFn mk qual) :: τ) { s with heap := h', toks := tk } := by
  rw [List.append_assoc] at N'
  have go : ∀ ex : Led, (∀ p ∈ ex, p ∈ rest' ∧ Plain p.2) → (∃ oc vs t, (c.g.get? c' = some oc ∨ (c', oc) ∈ ex) ∧ oc.data = .fields vs ∧ vs[1]? = some (.str qual t)) → St c sc σ ((.ref f, vFn mk qual) :: τ) { s with heap := h', toks := tk } := fun ex hex ⟨oc, vs, t0, h1, h2, h3⟩ => by
    refine ⟨mm, κ, (f, mk doc pm c' ctv) :: (ex ++ own), cells, rest', F', forall_cons (N' _ (.head _)) fun p hp => ?_, forall_cons hp fun p hp => (List.mem_append.mp hp).elim (fun h => (hex p h).2) (K p), Y, by rw [OC.T]; exact TI', by rw [e], fun x V hx => let ⟨v, h1, h2⟩ := l x V hx; ⟨v, h1, Val.rep_mono (fun _ h => .tail _ (List.mem_append_right _ h)) h2⟩, forall_cons ⟨f, c', doc, pm, ctv, oc, vs, t0, rfl, .inl (.head _), h1.elim (fun h => .inr ⟨rfl, h⟩) (fun h => .inl (.tail _ (List.mem_append_left _ h))), h2, h3⟩ fun p hp => Val.rep_mono (fun _ h => .tail _ (List.mem_append_right _ h)) (t p hp)⟩
    rcases List.mem_append.mp hp with hp | hp
    · rcases List.mem_append.mp hp with hp | hp
      · exact N' p (.tail _ (List.mem_append_right _ (List.mem_append_right _ (hex p hp).1)))
      · exact N' p (.tail _ (List.mem_append_left _ hp))
    · exact N' p (.tail _ (List.mem_append_right _ hp))
  rcases cr with ⟨c2, oc, vs, t0, e2, h1, h2, h3⟩ | ⟨c2, oc, vs, t0, e2, h1, h2, h3⟩
  · cases e2
    exact go [] no_mem ⟨oc, vs, t0, .inl h1, h2, h3⟩
  · cases e2
    exact go [(c', oc)] (forall_cons ⟨h1, .inr ⟨vs, _, t0, h2, h3⟩⟩ no_mem) ⟨oc, vs, t0, .inr (.head _), h2, h3⟩
theorem Ev.lam {params : Arguments} {body : Expr} {scope : Scope} {pos : Pos} {clos : List (Str × Addr)} {c0 Pt : Addr} {qual : Str} (O : Ok c d) (OC : OkC c sc (.ref c0) q) (C : CodeHd c.g c0 Pt) (hP : Pt ∈ tabL) (hq : qual = (q ++ ".<locals>.") ++ "<lambda>") (hpos : (Pt, pos, qual) ∈ lamPs)
    (hdef : defaultsOf params (c.env sc) = ([], [])) (hcl : closureFor scope (envX c.qual sc c.L c.f c.cd (cellsFrom (c.L + 1) sc.names [])) = pure clos) : Ev c sc σ (.Lambda params body scope pos) (vFn (lamObj qual params body scope clos) qual) := fun τ Q s S k => by
  obtain ⟨mm, κ, own, cells, rest, F, N, K, Y, TI, e, l, t⟩ := S
  rw [OC.T] at TI
  refine kla_eval hdef ?_
  rw [show (c.env sc).qual ++ "<lambda>" = qual by rw [hq, ← OC.q]]
  refine lam_make (own ++ cells) F (by rw [List.append_assoc]; exact N) TI (fun p hp => (List.mem_append.mp hp).elim (fun h => (K p h).off) (cell_off Y p)) O.T C OC.cd hP hpos (by rw [OC.cl]; exact hcl) fun f c' ctv pm h' tk rest' F' N' TI' cr => ?_
  exact k _ _ (St.made (doc := .none) (mk := lamObj qual params body scope clos) OC K Y e l t F' N' TI' cr (.inl ⟨notTab_type rfl, nofun⟩))
/-- what a closure bears stands in the heap -/
theorem St.caps {P : Addr → Obj → Prop} (OC : OkC c sc cdv q) (hP : ∀ a o, Offtab o → s.heap.get? a = some o → P a o) (hB : ∀ a o, c.g.get? a = some o → P a o) {clos : List (Str × Addr)} {caps : Sto} (S : St c sc σ τ s) (hcap : ∀ p ∈ caps, sc.names.lookup p.1 = some .cell ∧ σ.lookup p.1 = some p.2 ∧ ∃ a, clos.lookup p.1 = some a ∧ (cellsFrom (c.L + 1) sc.names []).lookup p.1 = some a) :
    ∀ p ∈ caps, ∃ a o u, clos.lookup p.1 = some a ∧ P a o ∧ o.data = .cell (some u) ∧ p.2.p P u := fun p hp => by
  obtain ⟨mm, κ, own, cells, rest, F, N, K, Y, TI, e, l, t⟩ := S
  obtain ⟨h1, h2, a, h3, h4⟩ := hcap p hp
  obtain ⟨u, hu, ru⟩ := l _ _ h2
  obtain ⟨o, ho, hd⟩ := cells_get Y (x := p.1) (a := a) (by rw [OC.cc, OC.cl]; exact h4)
  exact ⟨a, o, u, h3, hP _ _ (cell_off Y _ ho) (N _ (List.mem_append_right _ (List.mem_append_left _ ho))).1, by rw [hd, hu.cel h1], p.2.mono (fun b ob h => h.elim (fun h => hP _ _ (K _ h).off (N _ (List.mem_append_left _ h)).1) fun h => hB _ _ h.2) ru⟩
/-- the start of a closure's activation -/
theorem caps_look {c : Cx} {sc : Scope} {mm κ : Str → Option Value} {caps : Sto} {clos : List (Str × Addr)} {s : Shared} (hcl : c.cl = clos) (st : s.heap.StaysIn c.g) (hf : ∀ p ∈ caps, sc.names.lookup p.1 = some .free)
    (h : ∀ p ∈ caps, ∃ a o u, clos.lookup p.1 = some a ∧ s.heap.get? a = some o ∧ o.data = .cell (some u) ∧ p.2.p (fun a o => s.heap.get? a = some o) u) : ∀ x V, (caps.map fun p => (p.1, er p.2)).lookup x = some V → ∃ v, Holds c sc mm κ x v ∧ V.rep c.g [] v := by
  induction caps with
  | nil => exact fun _ _ h => nomatch h
  | cons p caps ih =>
    intro x V hx
    rcases look_cons hx with ⟨rfl, rfl⟩ | ⟨_, hx⟩
    · obtain ⟨a, o, u, h1, h2, h3, h4⟩ := h p (.head _)
      have hfr := hf p (.head _)
      exact ⟨u, ⟨fun e => (by rw [hfr] at e; cases e), fun e => (by rw [hfr] at e; cases e), fun _ => ⟨a, o, by rw [hcl]; exact h1, st _ _ h2, h3⟩⟩, p.2.mono (fun b ob e => .inr ⟨rfl, st _ _ e⟩) h4⟩
    · exact ih (fun p hp => hf p (.tail _ hp)) (fun p hp => h p (.tail _ hp)) x V hx
/-- a lambda of one int as a callback -/
theorem EvH.lamCb {e : Expr} {params : Arguments} {body : Expr} {scope : Scope} {clos : List (Str × Addr)} {qual px : Str} {g : Int → Option (Option (Int × Int))} (caps : Sto) (OC : OkC c sc cdv q) (h : Ev c sc σ e (vFn (lamObj qual params body scope clos) qual))
    (hcap : ∀ p ∈ caps, sc.names.lookup p.1 = some .cell ∧ σ.lookup p.1 = some p.2 ∧ ∃ a, clos.lookup p.1 = some a ∧ (cellsFrom (c.L + 1) sc.names []).lookup p.1 = some a) (hfr : ∀ p ∈ caps, scope.names.lookup p.1 = some .free) (hpx : scope.names.lookup px = some .local)
    (hb : ∀ pm cdv ctv a, bindArgs (kla_fn "<lambda>" qual params body scope clos pm cdv ctv) ⟨[a], []⟩ = pure [(px, a)])
    (hbody : ∀ c' : Cx, Ok c' 791 → ∀ k r, g k = some r → Ev c' scope ((px, vInt k) :: caps.map fun p => (p.1, er p.2)) body (optV r))
    (hco : scope.isCoroutine = false := by rfl) (hgen : scope.isGenerator = false := by rfl) (hk : scope.kind = .function := by rfl) (hcell : ∀ x ∈ scope.names, x.2 ≠ .cell := by decide) : EvH c sc σ e (CbAt g) := fun τ Q s S k => h _ s S fun v s1 S1 => k v s1 S1.drop (by
  obtain ⟨f, c', doc, pm, ctv, oc, vs, t0, rfl, hf, hc, hd, hq⟩ := S1.at_
  have hcaps := S1.caps (P := fun a o => s1.heap.get? a = some o) OC (fun _ _ _ h => h) (let ⟨_, _, F, _, _⟩ := S1.open_; F.keep) hcap
  refine ⟨f, rfl, ⟨_, _, _, _, hf⟩, fun w s2 k t r hkp B hg A Q E Rm kk => ?_⟩
  have B0 := B
  obtain ⟨X, loose, mean, mg, mb, T⟩ := B
  refine enterLam (binds := [(px, .int k t)]) Rm (by decide) B0 (hkp _ _ hf) ⟨c', oc, vs, t0, rfl, hkp _ _ hc, hd, hq⟩ (hb _ _ _ _) (forall_cons hpx no_mem) (fun L' h₁ F N => ?_) hco hgen hk hcell
  refine hbody ⟨w, (Ac 790).deeper (envX qual scope L' f (.ref c') clos), s2.heap, L', qual, f, .ref c', clos, [], s2, loose, mean, mg, mb, fun rest => rest = []⟩ ⟨X, T, ⟨rfl, Nat.le_refl _, (show 10 * 790 + 3 ≤ 10 * 791 by decide)⟩, fun rest h p hp => by rw [show rest = [] from h] at hp; cases hp⟩ k r hg _ _ ⟨_, fun _ => none, [], [], [], F, N, no_mem, .nil, rfl, rfl, fun x V hx => ?_, no_mem⟩ ?_
  · rcases look_cons hx with ⟨rfl, rfl⟩ | ⟨_, hx⟩
    · exact ⟨.int k t, ⟨fun _ => by show List.lookup x [(x, Value.int k t)] = _; rw [List.lookup_cons, beq_self_eq_true], fun e => (by rw [hpx] at e; cases e), fun e => (by rw [hpx] at e; cases e)⟩, ⟨t, rfl⟩⟩
    · exact caps_look (s := s1) rfl (fun b o e => hkp b o e) hfr hcaps x V hx
  · rintro v s' ⟨mm, κ, own, cells, rest, F', N', K, Y, TI, e, l, t'⟩
    refine ⟨L', mm, _, F', N', fun st => ?_⟩
    have := kk v s'.heap s'.toks st ⟨own, fun p hp => ⟨(N' p (List.mem_append_left _ hp)).2.2, (N' p (List.mem_append_left _ hp)).1, K p hp⟩, (by cases r <;> first | exact ret_self (fun _ _ _ x => x) | exact ret_own rfl : Ret (optV r)) _ _ _ (t' _ (.head _))⟩
    rw [e]
    exact this)
end
end Mine
end
noncomputable section
open PySem PySem.W PyProof.Rows PySem.Calls
set_option Elab.async false
set_option maxRecDepth 100000
set_option maxHeartbeats 4000000
set_option linter.all false
set_option exponentiation.threshold 5000
set_option genInjectivity false
set_option genSizeOf false
namespace Mine
theorem filledW17 : PySem.Challenge.rw_pc0352_01 = PySem.Challenge.rw_pc0352_01 ∧ hd.heap_39 = hd.heap_39 := by
  k_fill
  exact ⟨rfl, rfl⟩
section
variable {c : Cx} {sc : Scope} {σ σ1 : Sto} {τ τ' : Tmp} {s : Shared} {V W : Val} {r : Res} {d : Nat} {v : Value} {cdv : Value} {q : Str}
/-- a nested def -/
theorem Ex.def {name : Str} {params : Arguments} {body rest : List Stmt} {scope : Scope} {pos : Pos} {clos : List (Str × Addr)} {c0 Pt : Addr} {qual : Str} (O : Ok c d) (OC : OkC c sc (.ref c0) q) (C : CodeHd c.g c0 Pt) (hP : Pt ∈ tabL) (hqn : qualnameIn (envX q sc c.L c.f c.cd c.cl) name name = qual) (hpos : (Pt, pos, qual) ∈ lamPs)
    (hd0 : params.defaults = []) (hk0 : params.kw_defaults = []) (ha : annTrees params none (c.env sc) = []) (hcl : closureFor scope (envX c.qual sc c.L c.f c.cd (cellsFrom (c.L + 1) sc.names [])) = pure clos) (hx : Sx c sc name) (t : Ex c sc ((name, vFn (defObj name qual params body scope clos) qual) :: σ) rest r) : Ex c sc σ (.FunctionDef name params body [] none [] scope none name pos :: rest) r := .cons (fun Q s S k => by
  obtain ⟨mm, κ, own, cells, rest', F, N, K, Y, TI, e, l, t⟩ := S
  rw [OC.T] at TI
  refine nestDef_K hd0 hk0 ha ?_
  have hqn' : qualnameIn (c.env sc) name name = qual := by rw [show c.env sc = envX q sc c.L c.f c.cd c.cl by rw [← OC.q]]; exact hqn
  rw [hqn']
  refine def_make (own ++ cells) F (by rw [List.append_assoc]; exact N) TI (fun p hp => (List.mem_append.mp hp).elim (fun h => (K p h).off) (cell_off Y p)) O.T C OC.cd hP hpos (by rw [OC.cl]; exact hcl) fun f c' ctv doc pm h' tk rest' F' N' TI' cr => ?_
  exact hx _ _ _ _ _ (St.made (mk := defObj name qual params body scope clos) OC K Y e l t F' N' TI' cr (.inl ⟨notTab_type rfl, nofun⟩)) k) t
theorem EvH.defCb {e : Expr} {name : Str} {params : Arguments} {body : List Stmt} {scope : Scope} {clos : List (Str × Addr)} {qual px : Str} {g : Int → Option (Option (Int × Int))} (caps : Sto) (OC : OkC c sc cdv q) (h : Ev c sc σ e (vFn (defObj name qual params body scope clos) qual))
    (hcap : ∀ p ∈ caps, sc.names.lookup p.1 = some .cell ∧ σ.lookup p.1 = some p.2 ∧ ∃ a, clos.lookup p.1 = some a ∧ (cellsFrom (c.L + 1) sc.names []).lookup p.1 = some a) (hfr : ∀ p ∈ caps, scope.names.lookup p.1 = some .free) (hpx : scope.names.lookup px = some .local)
    (hb : ∀ s doc pm cdv ctv a, BindsTo s (fnX name qual params body scope clos .none .none doc pm none cdv ctv) ⟨[a], []⟩ [(px, a)])
    (hbody : ∀ c' : Cx, Ok c' 791 → ∀ k r, g k = some r → Ex c' scope ((px, vInt k) :: caps.map fun p => (p.1, er p.2)) body (.ret (optV r)))
    (hco : scope.isCoroutine = false := by rfl) (hgen : scope.isGenerator = false := by rfl) (hk : scope.kind = .function := by rfl) (hcell : ∀ x ∈ scope.names, x.2 ≠ .cell := by decide) : EvH c sc σ e (CbAt g) := fun τ Q s S k => h _ s S fun v s1 S1 => k v s1 S1.drop (by
  obtain ⟨f, c', doc, pm, ctv, oc, vs, t0, rfl, hf, hc, hd, hq⟩ := S1.at_
  have hcaps := S1.caps (P := fun a o => s1.heap.get? a = some o) OC (fun _ _ _ h => h) (let ⟨_, _, F, _, _⟩ := S1.open_; F.keep) hcap
  refine ⟨f, rfl, ⟨_, _, _, _, hf⟩, fun w s2 k t r hkp B hg A Q E Rm kk => ?_⟩
  have B0 := B
  obtain ⟨X, loose, mean, mg, mb, T⟩ := B
  refine enterNest (binds := [(px, .int k t)]) Rm (by decide) B0 (hkp _ _ hf) ⟨c', oc, vs, t0, rfl, hkp _ _ hc, hd, hq⟩ (hb _ _ _ _ _ _) (forall_cons hpx no_mem) (fun L' h₁ F N => ?_) hco hgen hk hcell
  refine hbody ⟨w, (Ac 790).deeper (envX qual scope L' f (.ref c') clos), s2.heap, L', qual, f, .ref c', clos, [], s2, loose, mean, mg, mb, fun rest => rest = []⟩ ⟨X, T, ⟨rfl, Nat.le_refl _, (show 10 * 790 + 3 ≤ 10 * 791 by decide)⟩, fun rest h p hp => by rw [show rest = [] from h] at hp; cases hp⟩ k r hg _ ⟨_, fun _ => none, [], [], [], F, N, no_mem, .nil, rfl, rfl, fun x V hx => ?_, no_mem⟩ ?_
  · rcases look_cons hx with ⟨rfl, rfl⟩ | ⟨_, hx⟩
    · exact ⟨.int k t, ⟨fun _ => by show List.lookup x [(x, Value.int k t)] = _; rw [List.lookup_cons, beq_self_eq_true], fun e => (by rw [hpx] at e; cases e), fun e => (by rw [hpx] at e; cases e)⟩, ⟨t, rfl⟩⟩
    · exact caps_look (s := s1) rfl (fun b o e => hkp b o e) hfr hcaps x V hx
  · rintro v s' ⟨mm, κ, own, cells, rest, F', N', K, Y, TI, e, l, t'⟩
    refine ⟨L', mm, _, F', N', fun st => ?_⟩
    have := kk v s'.heap s'.toks st ⟨own, fun p hp => ⟨(N' p (List.mem_append_left _ hp)).2.2, (N' p (List.mem_append_left _ hp)).1, K p hp⟩, (by cases r <;> first | exact ret_self (fun _ _ _ x => x) | exact ret_own rfl : Ret (optV r)) _ _ _ (t' _ (.head _))⟩
    rw [e]
    exact this)
/-- half_turn as a callback -/
theorem EvH.half {p : Pos} (O : Ok c d) (hf : nsIn (hd.heap_39 c.w.params) mainGlobals "half_turn" = some (some (.ref 287))) (ho : ∃ oc od fd sl, (hd.heap_39 c.w.params).lookup 287 = some ⟨oc, od, .func fd, sl⟩) (hx : sc.names.lookup ("half_turn" : Str) = some .globalImplicit) (hs : sc.kind = .function := by rfl) : EvH c sc σ (.Name "half_turn" p) (CbAt fun w => (halfF w).map some) := fun τ Q s S k => by
  obtain ⟨_, _, F, _, _⟩ := S.open_
  obtain ⟨oc, od, fd, sl, ho⟩ := ho
  refine nameX_K F O.X (topRead_of O.T) hf (k _ _ S ⟨287, rfl, ⟨oc, od, fd, sl, F.keep _ _ (O.X _ _ ho)⟩, fun w s2 k t r _ B hg => ?_⟩) hs hx (by decide)
  simp only [Option.map_eq_some_iff, Prod.exists] at hg
  obtain ⟨a, b, hg, rfl⟩ := hg
  exact Fun.weak (f_half_turn w k hg) (d' := 790) (by decide) s2 B ⟨_, _, rfl, ⟨t, rfl⟩, rfl⟩
/-- a call that gives a callback -/
def FunQ (w : World) (d : Nat) (f : Addr) (Ws : List Val) (g : Int → Option (Option (Int × Int))) : Prop := ∀ ⦃vs⦄ s, Base w s.heap → TabsAll s.heap → Reps (bare s.heap) vs Ws → SaysC w d (.ref f) vs s (CbAt g)
theorem EvH.call {x : Str} {p1 pos : Pos} {e : Expr} {es : List Expr} {Ws : List Val} {f : Addr} {d' : Nat} {g : Int → Option (Option (Int × Int))} (O : Ok c d) (OC : OkT c) (h : Evs c sc σ (e :: es) Ws) (C : FunQ c.w d' f Ws g) (hf : nsIn (hd.heap_39 c.w.params) mainGlobals x = some (some (.ref f))) (hk : keepIn (hd.heap_39 c.w.params) (.ref f) = true) (hr : d ≤ d')
    (hx : sc.names.lookup x = some .globalImplicit) (hs : sc.kind = .function := by rfl) (hd : (x == ("__debug__" : Str)) = false := by decide) (he : starEach (e :: es) (c.env sc) = (false, eval e (c.env sc)) :: starEach es (c.env sc) := by rfl) (hplain : (backTo pos (starEach es (c.env sc))).any (·.1) = false := by rfl) : EvH c sc σ (.Call (.Name x p1) (e :: es) [] pos) (CbAt g) := fun τ Q s S q => by
  refine Call_ ?_
  obtain ⟨_, _, F, _, _⟩ := S.open_
  refine nameX_K F O.X (topRead_of O.T) hf ?_ hs hx hd
  refine callWith_K O.X hk (h pos _ s S fun vs τ' s1 sub g S1 => ?_) he hplain
  have B := S1.base O
  exact ⟨B.K, (S1.tmp sub).useC OC (C s1 B (S1.tabs OC) (S1.bare_reps OC g)) (room_of O hr) fun v h' tk n go => q v _ (go (u := .none) (U := vNone) ⟨[], no_mem, rfl⟩).drop n⟩
/-- decided(a, b, a callback) -/
theorem Ev.dec3 {p1 pos : Pos} {e1 e2 e3 : Expr} {p wk a b : Int} {n : Nat} {g : Int → Option (Option (Int × Int))} (O : Ok c d) (h1 : Ev c sc σ e1 (vInt p)) (h2 : Ev c sc σ e2 (vInt wk)) (h3 : EvH c sc σ e3 (CbAt g)) (hp : decF g n p wk = some (a, b)) (hr : d ≤ 700) (hf : nsIn (hd.heap_39 c.w.params) mainGlobals "decided" = some (some (.ref 301))) (hk : keepIn (hd.heap_39 c.w.params) (.ref 301) = true)
    (hx : sc.names.lookup ("decided" : Str) = some .globalImplicit) (hs : sc.kind = .function := by rfl) (he1 : starEach [e1, e2, e3] (c.env sc) = (false, eval e1 (c.env sc)) :: starEach [e2, e3] (c.env sc) := by rfl) (he2 : starEach [e2, e3] (c.env sc) = (false, eval e2 (c.env sc)) :: starEach [e3] (c.env sc) := by rfl) (he3 : starEach [e3] (c.env sc) = [(false, eval e3 (c.env sc))] := by rfl)
    (hplain : (backTo pos (starEach [e2, e3] (c.env sc))).any (·.1) = false := by rfl) : Ev c sc σ (.Call (.Name "decided" p1) [e1, e2, e3] [] pos) (vReal a b) := fun τ Q s S q => by
  refine Call_ ?_
  obtain ⟨_, _, F, _, _⟩ := S.open_
  refine nameX_K F O.X (topRead_of O.T) hf ?_ hs hx (by decide)
  refine callWith_K O.X hk (args_cons (h1 _ s S fun v1 s1 S1 => args_cons (h2 _ s1 S1 fun v2 s2 S2 => args_cons (h3 _ s2 S2 fun v3 s3 S3 H => args_nil ?_) he3) he2) he1) he1 hplain
  have B := S3.base O
  refine ⟨B.K, ?_⟩
  obtain ⟨t, k, rfl, rfl⟩ := S3.two
  exact f_decided c.w p wk g hp s3 B ⟨_, _, rfl, ⟨t, rfl⟩, _, _, rfl, ⟨k, rfl⟩, _, _, rfl, H, rfl⟩ c.A Q noE (room_of O hr) fun v h' tk st n => q v _ (S3.drop2.after st n)
end
end Mine
end
noncomputable section
open PySem PySem.W PyProof.Rows PySem.Calls
set_option Elab.async false
set_option maxRecDepth 100000
set_option maxHeartbeats 4000000
set_option linter.all false
set_option exponentiation.threshold 5000
namespace Mine
theorem filledW18 : PySem.Challenge.rw_pc0352_01 = PySem.Challenge.rw_pc0352_01 ∧ hd.heap_39 = hd.heap_39 := by
  k_fill
  exact ⟨rfl, rfl⟩

@[reducible] def vTop : Val := ⟨false, fun _ _ => True, fun _ x => x⟩
section
variable {c : Cx} {sc : Scope} {σ σ1 : Sto} {τ τ' : Tmp} {s : Shared} {V W : Val} {r : Res} {d : Nat} {v : Value}
theorem ExH.retH {e : Expr} {pos : Pos} {rest : List Stmt} {H : Heap → Value → Prop} (h : EvH c sc σ e H) : ExH c sc σ (.Return (some e) pos :: rest) vTop H := fun Q s S k => wpAny_execs_cons (wpAny_Return_some (h _ s S fun v s' S' H' => k v s' ((S'.weak (σ' := []) (τ' := []) (fun _ _ e => nomatch e) fun _ hp => hp).put (V := vTop) fun _ _ => trivial) H'))
theorem Ev.cstr {x : Str} {k : Nat} {pos : Pos} : Ev c sc σ (.Constant (.str x) k pos) (vStr x) := fun τ Q s S h => let ⟨_, _, F, N, go⟩ := S.open_; wpAny_Constant_str (h _ _ (go [] no_mem F N fun _ _ => ⟨_, rfl⟩))
theorem Ex.expr {e : Expr} {pos : Pos} {rest : List Stmt} (h : Ev c sc σ e V) (t : Ex c sc σ rest r) (hi : interactive (c.env sc) = false := by rfl) (hs : swapsWith e none pos.line (c.env sc) = pure false := by rfl) : Ex c sc σ (.Expr e pos :: rest) r := fun Q s S q => wpAny_execs_cons (wpAny_Expr_any (h _ s S fun v s' S' => t s' S'.drop q) hi hs)
theorem fun_ofN {w : World} {f : Addr} {Ws : List Val} {name qual : Str} {params : Arguments} {body : List Stmt} {scope : Scope} {dV kV doc pm cdv ct oc : Value} {an od : Option Addr} {osl : Array (Option Value)} (xs : List Str) (hlim : d < recursionLimit)
    (ho : (hd.heap_39 w.params).lookup f = some ⟨oc, od, .func (fnOf name qual params body scope dV kV doc pm an cdv ct), osl⟩) (hcd : codeIn (hd.heap_39 w.params) cdv qual = true)
    (hb : ∀ s vs, vs.length = xs.length → BindsTo s (fnOf name qual params body scope dV kV doc pm an cdv ct) ⟨vs, []⟩ (xs.zip vs)) (hl : ∀ x ∈ xs, scope.names.lookup x = some .local)
    (h : ∀ c : Cx, Ok c (d + 1) → ∃ σ, Ex c scope (xs.zip Ws).reverse body (.next σ))
    (hco : scope.isCoroutine = false) (hgen : scope.isGenerator = false) (hk : scope.kind = .function) (hcell : ∀ x ∈ scope.names, x.2 ≠ .cell) (hn : Ws.length = xs.length := by rfl) (how : ∀ W ∈ Ws, W.own = false) : Fun w d f Ws vNone := fun vs s B R A Q E Rm k => by
  obtain ⟨X, loose, mean, mg, mb, T⟩ := B
  refine enterP (binds := xs.zip vs) Rm hlim X T ho hcd (hb s vs (R.len.trans hn)) (fun y hy => hl _ (List.of_mem_zip hy).1) (fun L' h₁ F N => ?_) hco hgen hk hcell
  obtain ⟨σ', h⟩ := h ⟨w, (Ac d).deeper (envOf qual scope L' f cdv), s.heap, L', qual, f, cdv, [], [], s, loose, mean, mg, mb, fun rest => rest = []⟩ ⟨X, T, ⟨rfl, Nat.le_refl _, (show 10 * d + 3 ≤ 10 * (d + 1) by omega)⟩, fun rest h p hp => by rw [show rest = [] from h] at hp; cases hp⟩
  refine h _ ⟨_, fun _ => none, [], [], [], F, N, no_mem, .nil, rfl, rfl, fun x V hx => ?_, no_mem⟩ ?_
  · obtain ⟨v, h1, h2⟩ := (Loc.rev (Loc.zip R how xs) .nil).get x V hx
    have hm := hl x (look_in (β := Val) h1)
    exact ⟨v, ⟨fun _ => h1, fun h => (by rw [hm] at h; cases h), fun h => (by rw [hm] at h; cases h)⟩, h2⟩
  · rintro s' ⟨mm, κ, own, cells, rest, F', N', K, Y, TI, e, l, t⟩
    refine ⟨L', mm, _, F', N', fun st => ?_⟩
    have := k .none s'.heap s'.toks st ⟨[], no_mem, rfl⟩
    rw [e]
    exact this
end
theorem f_need_sine (w : World) (name : Str) (realm reale f0 f1 : Int) (hf : fracF realm reale = some (f0, f1)) (hle : ¬ f1 < iabs f0) : Fun w 870 350 [vStr name, eReal realm reale] vNone := by
  refine' fun_ofN ["name", "real"] ?hlim ?ho ?hcd ?hb ?hl ?_ ?c1 ?c2 ?c3 ?c4 rfl ?how
  (case hlim => decide)
  (case ho => k_is)
  (case hcd => k_is)
  (case hb => exact fun s => zip2 fun _ _ => BindsTo.of_eq rfl)
  (case hl => decide)
  (case c1 => exact rfl)
  (case c2 => exact rfl)
  (case c3 => exact rfl)
  (case c4 => decide)
  (case how => exact forall_cons rfl (forall_cons rfl no_mem))
  exact fun c O => ⟨_, (Ex.unp2 O (Ev.call O (Evs.cons (Ev.loc rfl rfl) Evs.nil) (f_fraction_of _ _ _ (by walk_at "v s")) (by k_is) (by k_is) (Nat.le_of_ble_eq_true rfl) rfl) (fun _ _ x => x) (Sx.loc rfl) (Sx.loc rfl) (Ex.ifp (Tr.cmp (cmp_gt _ _) (Ev.bcall O (Evs.cons (Ev.loc rfl rfl) Evs.nil) b_abs (by boot_by_name) (by k_is) rfl) (Ev.loc rfl rfl) (by walk_at "v d")) Ex.nil))⟩
theorem f_quarter_of (w : World) (sign : Int) (hs : sign.natAbs < 2 ^ 64) : FunQ w 690 364 [vInt sign] (quarterF sign) := fun vs s B TA R => by
  · refine' enterEx (V := vTop) (H := CbAt (quarterF sign)) ["sign"] ?hlim ?ho ?hcd ?hb ?hl ?hnd B TA R ?how ?_ (fun _ _ _ _ _ hH => hH) ?c1 ?c2 ?c3 rfl
    (case hlim => decide)
    (case ho => k_is)
    (case hcd => k_is)
    (case hb => exact fun s => zip1 fun _ => BindsTo.of_eq rfl)
    (case hl => decide)
    (case hnd => decide +kernel)
    (case c1 => exact rfl)
    (case c2 => exact rfl)
    (case c3 => exact rfl)
    (case how => exact forall_cons rfl (no_mem))
    exact fun c _ O OC => ExH.retH (EvH.lamCb [("sign", vInt sign)] OC (Ev.lam (Pt := 359) O OC (codeHd_of_K O.X (by kernel_rfl)) (by decide) rfl (by k_mem) rfl rfl) (forall_cons ⟨rfl, rfl, _, rfl, rfl⟩ (no_mem)) (forall_cons rfl (no_mem)) rfl (fun _ _ _ _ => rfl) (fun c O k r hg => by ((simp only [quarterF, Option.map_eq_some_iff, Prod.exists] at hg; obtain ⟨r0, r1, hr, rfl⟩ := hg; (have hs : sign.natAbs < 2 ^ 64 := hs)); (exact (Ev.call O (Evs.tup (Ev.call O (Evs.tup (Ev.call O (Evs.cons (Ev.loc rfl rfl) Evs.nil) (f_half_turn _ _ (by walk_at "v s")) (by k_is) (by k_is) (Nat.le_of_ble_eq_true rfl) rfl) (Evs.cons Ev.cint Evs.nil)) (f_part_of _ _ _ _ (by walk_at "v s")) (by k_is) (by k_is) (Nat.le_of_ble_eq_true rfl) rfl) (Evs.cons (Ev.free rfl rfl) Evs.nil)) (f_often _ _ _ _ (by walk_at "v s")) (by k_is) (by k_is) (Nat.le_of_ble_eq_true rfl) rfl)))))
theorem f_atan_real (w : World) (precision m e : Int) {a b : Int} (hp : atanF precision m e = some (a, b)) : FunR w 690 336 [vInt precision, eReal m e] a b := by
  unfold atanF at hp
  (repeat' split at hp)
  (iterate 2 (simp only [Option.some.injEq, Prod.mk.injEq] at hp; obtain ⟨rfl, rfl⟩ := hp; rotate_left))
  simp only [Option.bind_eq_some_iff, Prod.exists] at hp
  obtain ⟨f0, f1, hf, hp⟩ := hp
  rotate_left
  · refine' funR_of "precision" "real" ?hV ?hlim ?ho ?hcd ?hb ?hl ?hnd ?_ ?c1 ?c2 ?c3 rfl
    (case hlim => decide)
    (case ho => k_is)
    (case hcd => k_is)
    (case hb => exact fun s => zip2 fun _ _ => BindsTo.of_eq rfl)
    (case hl => decide)
    (case hnd => decide +kernel)
    (case c1 => exact rfl)
    (case c2 => exact rfl)
    (case c3 => exact rfl)
    (case hV => exact .inr ⟨fun _ => rfl, rfl, rfl⟩)
    exact fun c v0 O OC => (Ex.ifr (Tr.many (Trs.ort (Tr.cmp (cmp_eq _ _) (Ev.call O (Evs.is (Ev.loc rfl rfl) Evs.nil) (f_sign_of _ _ _) (by k_is) (by k_is) (Nat.le_of_ble_eq_true rfl) rfl) Ev.cint (by walk_at "v d")))) (Ex.ret (Ev.loc rfl rfl)))
  · refine' funR_of "precision" "real" ?hV ?hlim ?ho ?hcd ?hb ?hl ?hnd ?_ ?c1 ?c2 ?c3 rfl
    (case hlim => decide)
    (case ho => k_is)
    (case hcd => k_is)
    (case hb => exact fun s => zip2 fun _ _ => BindsTo.of_eq rfl)
    (case hl => decide)
    (case hnd => decide +kernel)
    (case c1 => exact rfl)
    (case c2 => exact rfl)
    (case c3 => exact rfl)
    (case hV => exact .inr ⟨fun _ => rfl, rfl, rfl⟩)
    exact fun c v0 O OC => (Ex.ifr (Tr.many (Trs.orf (Tr.cmp (cmp_eq _ _) (Ev.call O (Evs.is (Ev.loc rfl rfl) Evs.nil) (f_sign_of _ _ _) (by k_is) (by k_is) (Nat.le_of_ble_eq_true rfl) rfl) Ev.cint (by walk_at "v d")) (Trs.ort (Tr.plain (Ev.call O (Evs.cons (Ev.loc rfl rfl) (Evs.is (Ev.loc rfl rfl) Evs.nil)) (f_is_slight _ _ _ _) (by k_is) (by k_is) (Nat.le_of_ble_eq_true rfl) rfl) (by walk_at "v d"))))) (Ex.ret (Ev.loc rfl rfl)))
  · refine' funR_of "precision" "real" ?hV ?hlim ?ho ?hcd ?hb ?hl ?hnd ?_ ?c1 ?c2 ?c3 rfl
    (case hlim => decide)
    (case ho => k_is)
    (case hcd => k_is)
    (case hb => exact fun s => zip2 fun _ _ => BindsTo.of_eq rfl)
    (case hl => decide)
    (case hnd => decide +kernel)
    (case c1 => exact rfl)
    (case c2 => exact rfl)
    (case c3 => exact rfl)
    (case hV => exact .inl fun _ => rfl)
    exact fun c v0 O OC => (Ex.ifp (Tr.many (Trs.orf (Tr.cmp (cmp_eq _ _) (Ev.call O (Evs.is (Ev.loc rfl rfl) Evs.nil) (f_sign_of _ _ _) (by k_is) (by k_is) (Nat.le_of_ble_eq_true rfl) rfl) Ev.cint (by walk_at "v d")) (Trs.orf (Tr.plain (Ev.call O (Evs.cons (Ev.loc rfl rfl) (Evs.is (Ev.loc rfl rfl) Evs.nil)) (f_is_slight _ _ _ _) (by k_is) (by k_is) (Nat.le_of_ble_eq_true rfl) rfl) (by walk_at "v d")) Trs.or0))) (Ex.unp2 O (Ev.call O (Evs.is (Ev.loc rfl rfl) Evs.nil) (f_fraction_of _ _ _ (by walk_at "v s")) (by k_is) (by k_is) (Nat.le_of_ble_eq_true rfl) rfl) (fun _ _ x => x) (Sx.cel O OC rfl rfl) (Sx.cel O OC rfl rfl) (Ex.put (Ev.add (Ev.add (Ev.mul Ev.cint (Ev.loc rfl rfl) (by walk_at "v m")) (Ev.gint O (by k_is) rfl)) (Ev.bcall O (Evs.cons Ev.cint (Evs.cons (Ev.sub Ev.cint (Ev.call O (Evs.is (Ev.loc rfl rfl) Evs.nil) (f_place_of _ _ _) (by k_is) (by k_is) (Nat.le_of_ble_eq_true rfl) rfl)) Evs.nil)) (b_maxi O) (by boot_by_name) (by k_is) rfl)) (Sx.loc rfl) (Ex.ret (Ev.dec3 O (Ev.loc rfl rfl) (Ev.loc rfl rfl) (EvH.lamCb [("top", vInt f0), ("bottom", vInt f1)] OC (Ev.lam (Pt := 331) O OC (codeHd_of_K O.X (by kernel_rfl)) (by decide) rfl (by k_mem) rfl rfl) (forall_cons ⟨rfl, rfl, _, rfl, rfl⟩ (forall_cons ⟨rfl, rfl, _, rfl, rfl⟩ (no_mem))) (forall_cons rfl (forall_cons rfl (no_mem))) rfl (fun _ _ _ _ => rfl) (fun c O k r hg => by ((simp only [Option.map_eq_some_iff, Prod.exists] at hg; obtain ⟨r0, r1, hr, rfl⟩ := hg); (exact (Ev.call O (Evs.cons (Ev.loc rfl rfl) (Evs.cons (Ev.free rfl rfl) (Evs.cons (Ev.free rfl rfl) Evs.nil))) (f_arc_bounds _ _ _ _ (by walk_at "v s")) (by k_is) (by k_is) (Nat.le_of_ble_eq_true rfl) rfl))))) hp (Nat.le_of_ble_eq_true rfl) (by k_is) (by k_is) rfl)))))
theorem f_asin_real (w : World) (precision m e f0 f1 : Int) {a b : Int} (hf : fracF m e = some (f0, f1)) (hle : ¬ f1 < iabs f0) (hp : asinF precision m e = some (a, b)) : FunR w 680 371 [vInt precision, eReal m e] a b := by
  unfold asinF at hp
  (repeat' split at hp)
  (iterate 2 (simp only [Option.some.injEq, Prod.mk.injEq] at hp; obtain ⟨rfl, rfl⟩ := hp; rotate_left))
  rotate_left
  by_cases q1 : iabs m = 1
  · refine' funR_of "precision" "real" ?hV ?hlim ?ho ?hcd ?hb ?hl ?hnd ?_ ?c1 ?c2 ?c3 rfl
    (case hlim => decide)
    (case ho => k_is)
    (case hcd => k_is)
    (case hb => exact fun s => zip2 fun _ _ => BindsTo.of_eq rfl)
    (case hl => decide)
    (case hnd => decide +kernel)
    (case c1 => exact rfl)
    (case c2 => exact rfl)
    (case c3 => exact rfl)
    (case hV => exact .inl fun _ => rfl)
    exact fun c v0 O OC => (Ex.expr (Ev.call O (Evs.cons Ev.cstr (Evs.is (Ev.cel OC rfl rfl rfl) Evs.nil)) (f_need_sine _ _ _ _ _ _ (by walk_at "v s") (by walk_at "v s")) (by k_is) (by k_is) (Nat.le_of_ble_eq_true rfl) rfl) (Ex.ifp (Tr.many (Trs.orf (Tr.cmp (cmp_eq _ _) (Ev.call O (Evs.is (Ev.cel OC rfl rfl rfl) Evs.nil) (f_sign_of _ _ _) (by k_is) (by k_is) (Nat.le_of_ble_eq_true rfl) rfl) Ev.cint (by walk_at "v d")) (Trs.orf (Tr.plain (Ev.call O (Evs.cons (Ev.loc rfl rfl) (Evs.is (Ev.cel OC rfl rfl rfl) Evs.nil)) (f_is_slight _ _ _ _) (by k_is) (by k_is) (Nat.le_of_ble_eq_true rfl) rfl) (by walk_at "v d")) Trs.or0))) (Ex.put (Ev.add (Ev.add (Ev.mul Ev.cint (Ev.loc rfl rfl) (by walk_at "v m")) (Ev.gint O (by k_is) rfl)) (Ev.bcall O (Evs.cons Ev.cint (Evs.cons (Ev.sub Ev.cint (Ev.call O (Evs.is (Ev.cel OC rfl rfl rfl) Evs.nil) (f_place_of _ _ _) (by k_is) (by k_is) (Nat.le_of_ble_eq_true rfl) rfl)) Evs.nil)) (b_maxi O) (by boot_by_name) (by k_is) rfl)) (Sx.loc rfl) (Ex.ifp (Tr.many (Trs.andt (Tr.cmp (cmp_eq _ _) (Ev.bcall O (Evs.cons (Ev.man O (Ev.cel OC rfl rfl rfl) (fun _ _ x => x.2)) Evs.nil) b_abs (by boot_by_name) (by k_is) rfl) Ev.cint (by walk_at "v d")) (Trs.andf (Tr.cmp (cmp_eq _ _) (Ev.exp O (Ev.cel OC rfl rfl rfl) (fun _ _ x => x.2)) Ev.cint (by walk_at "v d"))))) (Ex.ret (Ev.dec3 O (Ev.loc rfl rfl) (Ev.loc rfl rfl) (EvH.lamCb [("real", vIs v0 m e)] OC (Ev.lam (Pt := 366) O OC (codeHd_of_K O.X (by kernel_rfl)) (by decide) rfl (by k_mem) rfl rfl) (forall_cons ⟨rfl, rfl, _, rfl, rfl⟩ (no_mem)) (forall_cons rfl (no_mem)) rfl (fun _ _ _ _ => rfl) (fun c O k r hg => by ((skip); (cases r with | none => (skip; exact (Ev.call O (Evs.cons (Ev.loc rfl rfl) (Evs.is (Ev.free rfl rfl) Evs.nil)) (f_asin_none _ _ _ _ (by walk_at "v s")) (by k_is) (by k_is) (Nat.le_of_ble_eq_true rfl) rfl)) | some r => (obtain ⟨r0, r1⟩ := r; exact (Ev.call O (Evs.cons (Ev.loc rfl rfl) (Evs.is (Ev.free rfl rfl) Evs.nil)) (f_asin_some _ _ _ _ (by walk_at "v s")) (by k_is) (by k_is) (Nat.le_of_ble_eq_true rfl) rfl)))))) hp (Nat.le_of_ble_eq_true rfl) (by k_is) (by k_is) rfl))))))
  · refine' funR_of "precision" "real" ?hV ?hlim ?ho ?hcd ?hb ?hl ?hnd ?_ ?c1 ?c2 ?c3 rfl
    (case hlim => decide)
    (case ho => k_is)
    (case hcd => k_is)
    (case hb => exact fun s => zip2 fun _ _ => BindsTo.of_eq rfl)
    (case hl => decide)
    (case hnd => decide +kernel)
    (case c1 => exact rfl)
    (case c2 => exact rfl)
    (case c3 => exact rfl)
    (case hV => exact .inl fun _ => rfl)
    exact fun c v0 O OC => (Ex.expr (Ev.call O (Evs.cons Ev.cstr (Evs.is (Ev.cel OC rfl rfl rfl) Evs.nil)) (f_need_sine _ _ _ _ _ _ (by walk_at "v s") (by walk_at "v s")) (by k_is) (by k_is) (Nat.le_of_ble_eq_true rfl) rfl) (Ex.ifp (Tr.many (Trs.orf (Tr.cmp (cmp_eq _ _) (Ev.call O (Evs.is (Ev.cel OC rfl rfl rfl) Evs.nil) (f_sign_of _ _ _) (by k_is) (by k_is) (Nat.le_of_ble_eq_true rfl) rfl) Ev.cint (by walk_at "v d")) (Trs.orf (Tr.plain (Ev.call O (Evs.cons (Ev.loc rfl rfl) (Evs.is (Ev.cel OC rfl rfl rfl) Evs.nil)) (f_is_slight _ _ _ _) (by k_is) (by k_is) (Nat.le_of_ble_eq_true rfl) rfl) (by walk_at "v d")) Trs.or0))) (Ex.put (Ev.add (Ev.add (Ev.mul Ev.cint (Ev.loc rfl rfl) (by walk_at "v m")) (Ev.gint O (by k_is) rfl)) (Ev.bcall O (Evs.cons Ev.cint (Evs.cons (Ev.sub Ev.cint (Ev.call O (Evs.is (Ev.cel OC rfl rfl rfl) Evs.nil) (f_place_of _ _ _) (by k_is) (by k_is) (Nat.le_of_ble_eq_true rfl) rfl)) Evs.nil)) (b_maxi O) (by boot_by_name) (by k_is) rfl)) (Sx.loc rfl) (Ex.ifp (Tr.many (Trs.andf (Tr.cmp (cmp_eq _ _) (Ev.bcall O (Evs.cons (Ev.man O (Ev.cel OC rfl rfl rfl) (fun _ _ x => x.2)) Evs.nil) b_abs (by boot_by_name) (by k_is) rfl) Ev.cint (by walk_at "v d")))) (Ex.ret (Ev.dec3 O (Ev.loc rfl rfl) (Ev.loc rfl rfl) (EvH.lamCb [("real", vIs v0 m e)] OC (Ev.lam (Pt := 366) O OC (codeHd_of_K O.X (by kernel_rfl)) (by decide) rfl (by k_mem) rfl rfl) (forall_cons ⟨rfl, rfl, _, rfl, rfl⟩ (no_mem)) (forall_cons rfl (no_mem)) rfl (fun _ _ _ _ => rfl) (fun c O k r hg => by ((skip); (cases r with | none => (skip; exact (Ev.call O (Evs.cons (Ev.loc rfl rfl) (Evs.is (Ev.free rfl rfl) Evs.nil)) (f_asin_none _ _ _ _ (by walk_at "v s")) (by k_is) (by k_is) (Nat.le_of_ble_eq_true rfl) rfl)) | some r => (obtain ⟨r0, r1⟩ := r; exact (Ev.call O (Evs.cons (Ev.loc rfl rfl) (Evs.is (Ev.free rfl rfl) Evs.nil)) (f_asin_some _ _ _ _ (by walk_at "v s")) (by k_is) (by k_is) (Nat.le_of_ble_eq_true rfl) rfl)))))) hp (Nat.le_of_ble_eq_true rfl) (by k_is) (by k_is) rfl))))))
  · refine' funR_of "precision" "real" ?hV ?hlim ?ho ?hcd ?hb ?hl ?hnd ?_ ?c1 ?c2 ?c3 rfl
    (case hlim => decide)
    (case ho => k_is)
    (case hcd => k_is)
    (case hb => exact fun s => zip2 fun _ _ => BindsTo.of_eq rfl)
    (case hl => decide)
    (case hnd => decide +kernel)
    (case c1 => exact rfl)
    (case c2 => exact rfl)
    (case c3 => exact rfl)
    (case hV => exact .inr ⟨fun _ => rfl, rfl, rfl⟩)
    exact fun c v0 O OC => (Ex.expr (Ev.call O (Evs.cons Ev.cstr (Evs.is (Ev.cel OC rfl rfl rfl) Evs.nil)) (f_need_sine _ _ _ _ _ _ (by walk_at "v s") (by walk_at "v s")) (by k_is) (by k_is) (Nat.le_of_ble_eq_true rfl) rfl) (Ex.ifr (Tr.many (Trs.ort (Tr.cmp (cmp_eq _ _) (Ev.call O (Evs.is (Ev.cel OC rfl rfl rfl) Evs.nil) (f_sign_of _ _ _) (by k_is) (by k_is) (Nat.le_of_ble_eq_true rfl) rfl) Ev.cint (by walk_at "v d")))) (Ex.ret (Ev.cel OC rfl rfl rfl))))
  · refine' funR_of "precision" "real" ?hV ?hlim ?ho ?hcd ?hb ?hl ?hnd ?_ ?c1 ?c2 ?c3 rfl
    (case hlim => decide)
    (case ho => k_is)
    (case hcd => k_is)
    (case hb => exact fun s => zip2 fun _ _ => BindsTo.of_eq rfl)
    (case hl => decide)
    (case hnd => decide +kernel)
    (case c1 => exact rfl)
    (case c2 => exact rfl)
    (case c3 => exact rfl)
    (case hV => exact .inr ⟨fun _ => rfl, rfl, rfl⟩)
    exact fun c v0 O OC => (Ex.expr (Ev.call O (Evs.cons Ev.cstr (Evs.is (Ev.cel OC rfl rfl rfl) Evs.nil)) (f_need_sine _ _ _ _ _ _ (by walk_at "v s") (by walk_at "v s")) (by k_is) (by k_is) (Nat.le_of_ble_eq_true rfl) rfl) (Ex.ifr (Tr.many (Trs.orf (Tr.cmp (cmp_eq _ _) (Ev.call O (Evs.is (Ev.cel OC rfl rfl rfl) Evs.nil) (f_sign_of _ _ _) (by k_is) (by k_is) (Nat.le_of_ble_eq_true rfl) rfl) Ev.cint (by walk_at "v d")) (Trs.ort (Tr.plain (Ev.call O (Evs.cons (Ev.loc rfl rfl) (Evs.is (Ev.cel OC rfl rfl rfl) Evs.nil)) (f_is_slight _ _ _ _) (by k_is) (by k_is) (Nat.le_of_ble_eq_true rfl) rfl) (by walk_at "v d"))))) (Ex.ret (Ev.cel OC rfl rfl rfl))))
  · refine' funR_of "precision" "real" ?hV ?hlim ?ho ?hcd ?hb ?hl ?hnd ?_ ?c1 ?c2 ?c3 rfl
    (case hlim => decide)
    (case ho => k_is)
    (case hcd => k_is)
    (case hb => exact fun s => zip2 fun _ _ => BindsTo.of_eq rfl)
    (case hl => decide)
    (case hnd => decide +kernel)
    (case c1 => exact rfl)
    (case c2 => exact rfl)
    (case c3 => exact rfl)
    (case hV => exact .inl fun _ => rfl)
    exact fun c v0 O OC => (Ex.expr (Ev.call O (Evs.cons Ev.cstr (Evs.is (Ev.cel OC rfl rfl rfl) Evs.nil)) (f_need_sine _ _ _ _ _ _ (by walk_at "v s") (by walk_at "v s")) (by k_is) (by k_is) (Nat.le_of_ble_eq_true rfl) rfl) (Ex.ifp (Tr.many (Trs.orf (Tr.cmp (cmp_eq _ _) (Ev.call O (Evs.is (Ev.cel OC rfl rfl rfl) Evs.nil) (f_sign_of _ _ _) (by k_is) (by k_is) (Nat.le_of_ble_eq_true rfl) rfl) Ev.cint (by walk_at "v d")) (Trs.orf (Tr.plain (Ev.call O (Evs.cons (Ev.loc rfl rfl) (Evs.is (Ev.cel OC rfl rfl rfl) Evs.nil)) (f_is_slight _ _ _ _) (by k_is) (by k_is) (Nat.le_of_ble_eq_true rfl) rfl) (by walk_at "v d")) Trs.or0))) (Ex.put (Ev.add (Ev.add (Ev.mul Ev.cint (Ev.loc rfl rfl) (by walk_at "v m")) (Ev.gint O (by k_is) rfl)) (Ev.bcall O (Evs.cons Ev.cint (Evs.cons (Ev.sub Ev.cint (Ev.call O (Evs.is (Ev.cel OC rfl rfl rfl) Evs.nil) (f_place_of _ _ _) (by k_is) (by k_is) (Nat.le_of_ble_eq_true rfl) rfl)) Evs.nil)) (b_maxi O) (by boot_by_name) (by k_is) rfl)) (Sx.loc rfl) (Ex.ifr (Tr.many (Trs.andt (Tr.cmp (cmp_eq _ _) (Ev.bcall O (Evs.cons (Ev.man O (Ev.cel OC rfl rfl rfl) (fun _ _ x => x.2)) Evs.nil) b_abs (by boot_by_name) (by k_is) rfl) Ev.cint (by walk_at "v d")) (Trs.andt (Tr.cmp (cmp_eq _ _) (Ev.exp O (Ev.cel OC rfl rfl rfl) (fun _ _ x => x.2)) Ev.cint (by walk_at "v d")) Trs.and0))) (Ex.ret (Ev.dec3 O (Ev.loc rfl rfl) (Ev.loc rfl rfl) (EvH.call O OC.toOkT (Evs.cons (Ev.call O (Evs.is (Ev.cel OC rfl rfl rfl) Evs.nil) (f_sign_of _ _ _) (by k_is) (by k_is) (Nat.le_of_ble_eq_true rfl) rfl) Evs.nil) (f_quarter_of _ _ (by first | exact sgn_small _ | omega)) (by k_is) (by k_is) (Nat.le_of_ble_eq_true rfl) rfl) hp (Nat.le_of_ble_eq_true rfl) (by k_is) (by k_is) rfl))))))
theorem f_acos_real (w : World) (precision m e f0 f1 : Int) {a b : Int} (hf : fracF m e = some (f0, f1)) (hle : ¬ f1 < iabs f0) (hp : acosF precision m e = some (a, b)) : FunC w 680 385 [vInt precision, eReal m e] (vReal a b) := by
  unfold acosF at hp
  split at hp
  · simp only [Option.some.injEq, Prod.mk.injEq] at hp
    obtain ⟨rfl, rfl⟩ := hp
    refine' funC_of ["precision", "real"] (ret_own rfl) ?hlim ?ho ?hcd ?hb ?hl ?hnd ?_ ?c1 ?c2 ?c3 rfl ?how
    (case hlim => decide)
    (case ho => k_is)
    (case hcd => k_is)
    (case hb => exact fun s => zip2 fun _ _ => BindsTo.of_eq rfl)
    (case hl => decide)
    (case hnd => decide +kernel)
    (case c1 => exact rfl)
    (case c2 => exact rfl)
    (case c3 => exact rfl)
    (case how => exact forall_cons rfl (forall_cons rfl (no_mem)))
    exact fun c O OC => (Ex.expr (Ev.call O (Evs.cons Ev.cstr (Evs.cons (Ev.cel OC rfl rfl rfl) Evs.nil)) (f_need_sine _ _ _ _ _ _ (by walk_at "v s") (by walk_at "v s")) (by k_is) (by k_is) (Nat.le_of_ble_eq_true rfl) rfl) (Ex.ifr (Tr.many (Trs.andt (Tr.cmp (cmp_eq _ _) (Ev.man O (Ev.cel OC rfl rfl rfl) (fun _ _ x => x)) Ev.cint (by walk_at "v d")) (Trs.andt (Tr.cmp (cmp_eq _ _) (Ev.exp O (Ev.cel OC rfl rfl rfl) (fun _ _ x => x)) Ev.cint (by walk_at "v d")) Trs.and0))) (Ex.ret (Ev.call O (Evs.cons Ev.cint (Evs.cons Ev.cint Evs.nil)) (f_Real _ _ _) (by k_is) (by k_is) (Nat.le_of_ble_eq_true rfl) rfl))))
  split at hp
  · refine' funC_of ["precision", "real"] (ret_own rfl) ?hlim ?ho ?hcd ?hb ?hl ?hnd ?_ ?c1 ?c2 ?c3 rfl ?how
    (case hlim => decide)
    (case ho => k_is)
    (case hcd => k_is)
    (case hb => exact fun s => zip2 fun _ _ => BindsTo.of_eq rfl)
    (case hl => decide)
    (case hnd => decide +kernel)
    (case c1 => exact rfl)
    (case c2 => exact rfl)
    (case c3 => exact rfl)
    (case how => exact forall_cons rfl (forall_cons rfl (no_mem)))
    exact fun c O OC => (Ex.expr (Ev.call O (Evs.cons Ev.cstr (Evs.cons (Ev.cel OC rfl rfl rfl) Evs.nil)) (f_need_sine _ _ _ _ _ _ (by walk_at "v s") (by walk_at "v s")) (by k_is) (by k_is) (Nat.le_of_ble_eq_true rfl) rfl) (Ex.ifp (Tr.many (Trs.andf (Tr.cmp (cmp_eq _ _) (Ev.man O (Ev.cel OC rfl rfl rfl) (fun _ _ x => x)) Ev.cint (by walk_at "v d")))) (Ex.put (Ev.add (Ev.mul Ev.cint (Ev.loc rfl rfl) (by walk_at "v m")) (Ev.gint O (by k_is) rfl)) (Sx.loc rfl) (Ex.ifr (Tr.many (Trs.andt (Tr.cmp (cmp_eq _ _) (Ev.man O (Ev.cel OC rfl rfl rfl) (fun _ _ x => x)) (Ev.neg Ev.cint) (by walk_at "v d")) (Trs.andt (Tr.cmp (cmp_eq _ _) (Ev.exp O (Ev.cel OC rfl rfl rfl) (fun _ _ x => x)) Ev.cint (by walk_at "v d")) Trs.and0))) (Ex.ret (Ev.dec3 O (Ev.loc rfl rfl) (Ev.loc rfl rfl) (EvH.half O (by k_is) ⟨_, _, _, _, by k_is⟩ rfl) hp (Nat.le_of_ble_eq_true rfl) (by k_is) (by k_is) rfl))))))
  by_cases q1 : m = 1
  · refine' funC_of ["precision", "real"] (ret_own rfl) ?hlim ?ho ?hcd ?hb ?hl ?hnd ?_ ?c1 ?c2 ?c3 rfl ?how
    (case hlim => decide)
    (case ho => k_is)
    (case hcd => k_is)
    (case hb => exact fun s => zip2 fun _ _ => BindsTo.of_eq rfl)
    (case hl => decide)
    (case hnd => decide +kernel)
    (case c1 => exact rfl)
    (case c2 => exact rfl)
    (case c3 => exact rfl)
    (case how => exact forall_cons rfl (forall_cons rfl (no_mem)))
    exact fun c O OC => (Ex.expr (Ev.call O (Evs.cons Ev.cstr (Evs.cons (Ev.cel OC rfl rfl rfl) Evs.nil)) (f_need_sine _ _ _ _ _ _ (by walk_at "v s") (by walk_at "v s")) (by k_is) (by k_is) (Nat.le_of_ble_eq_true rfl) rfl) (Ex.ifp (Tr.many (Trs.andt (Tr.cmp (cmp_eq _ _) (Ev.man O (Ev.cel OC rfl rfl rfl) (fun _ _ x => x)) Ev.cint (by walk_at "v d")) (Trs.andf (Tr.cmp (cmp_eq _ _) (Ev.exp O (Ev.cel OC rfl rfl rfl) (fun _ _ x => x)) Ev.cint (by walk_at "v d"))))) (Ex.put (Ev.add (Ev.mul Ev.cint (Ev.loc rfl rfl) (by walk_at "v m")) (Ev.gint O (by k_is) rfl)) (Sx.loc rfl) (Ex.ifp (Tr.many (Trs.andf (Tr.cmp (cmp_eq _ _) (Ev.man O (Ev.cel OC rfl rfl rfl) (fun _ _ x => x)) (Ev.neg Ev.cint) (by walk_at "v d")))) (Ex.ret (Ev.dec3 O (Ev.loc rfl rfl) (Ev.loc rfl rfl) (EvH.lamCb [("real", eReal m e)] OC (Ev.lam (Pt := 380) O OC (codeHd_of_K O.X (by kernel_rfl)) (by decide) rfl (by k_mem) rfl rfl) (forall_cons ⟨rfl, rfl, _, rfl, rfl⟩ (no_mem)) (forall_cons rfl (no_mem)) rfl (fun _ _ _ _ => rfl) (fun c O k r hg => by ((simp only [Option.map_eq_some_iff, Prod.exists] at hg; obtain ⟨r0, r1, hr, rfl⟩ := hg); (exact (Ev.call O (Evs.cons (Ev.loc rfl rfl) (Evs.cons (Ev.free rfl rfl) Evs.nil)) (f_acos_bounds _ _ _ _ (by walk_at "v s")) (by k_is) (by k_is) (Nat.le_of_ble_eq_true rfl) rfl))))) hp (Nat.le_of_ble_eq_true rfl) (by k_is) (by k_is) rfl))))))
  by_cases q2 : m = -1
  · refine' funC_of ["precision", "real"] (ret_own rfl) ?hlim ?ho ?hcd ?hb ?hl ?hnd ?_ ?c1 ?c2 ?c3 rfl ?how
    (case hlim => decide)
    (case ho => k_is)
    (case hcd => k_is)
    (case hb => exact fun s => zip2 fun _ _ => BindsTo.of_eq rfl)
    (case hl => decide)
    (case hnd => decide +kernel)
    (case c1 => exact rfl)
    (case c2 => exact rfl)
    (case c3 => exact rfl)
    (case how => exact forall_cons rfl (forall_cons rfl (no_mem)))
    exact fun c O OC => (Ex.expr (Ev.call O (Evs.cons Ev.cstr (Evs.cons (Ev.cel OC rfl rfl rfl) Evs.nil)) (f_need_sine _ _ _ _ _ _ (by walk_at "v s") (by walk_at "v s")) (by k_is) (by k_is) (Nat.le_of_ble_eq_true rfl) rfl) (Ex.ifp (Tr.many (Trs.andf (Tr.cmp (cmp_eq _ _) (Ev.man O (Ev.cel OC rfl rfl rfl) (fun _ _ x => x)) Ev.cint (by walk_at "v d")))) (Ex.put (Ev.add (Ev.mul Ev.cint (Ev.loc rfl rfl) (by walk_at "v m")) (Ev.gint O (by k_is) rfl)) (Sx.loc rfl) (Ex.ifp (Tr.many (Trs.andt (Tr.cmp (cmp_eq _ _) (Ev.man O (Ev.cel OC rfl rfl rfl) (fun _ _ x => x)) (Ev.neg Ev.cint) (by walk_at "v d")) (Trs.andf (Tr.cmp (cmp_eq _ _) (Ev.exp O (Ev.cel OC rfl rfl rfl) (fun _ _ x => x)) Ev.cint (by walk_at "v d"))))) (Ex.ret (Ev.dec3 O (Ev.loc rfl rfl) (Ev.loc rfl rfl) (EvH.lamCb [("real", eReal m e)] OC (Ev.lam (Pt := 380) O OC (codeHd_of_K O.X (by kernel_rfl)) (by decide) rfl (by k_mem) rfl rfl) (forall_cons ⟨rfl, rfl, _, rfl, rfl⟩ (no_mem)) (forall_cons rfl (no_mem)) rfl (fun _ _ _ _ => rfl) (fun c O k r hg => by ((simp only [Option.map_eq_some_iff, Prod.exists] at hg; obtain ⟨r0, r1, hr, rfl⟩ := hg); (exact (Ev.call O (Evs.cons (Ev.loc rfl rfl) (Evs.cons (Ev.free rfl rfl) Evs.nil)) (f_acos_bounds _ _ _ _ (by walk_at "v s")) (by k_is) (by k_is) (Nat.le_of_ble_eq_true rfl) rfl))))) hp (Nat.le_of_ble_eq_true rfl) (by k_is) (by k_is) rfl))))))
  · refine' funC_of ["precision", "real"] (ret_own rfl) ?hlim ?ho ?hcd ?hb ?hl ?hnd ?_ ?c1 ?c2 ?c3 rfl ?how
    (case hlim => decide)
    (case ho => k_is)
    (case hcd => k_is)
    (case hb => exact fun s => zip2 fun _ _ => BindsTo.of_eq rfl)
    (case hl => decide)
    (case hnd => decide +kernel)
    (case c1 => exact rfl)
    (case c2 => exact rfl)
    (case c3 => exact rfl)
    (case how => exact forall_cons rfl (forall_cons rfl (no_mem)))
    exact fun c O OC => (Ex.expr (Ev.call O (Evs.cons Ev.cstr (Evs.cons (Ev.cel OC rfl rfl rfl) Evs.nil)) (f_need_sine _ _ _ _ _ _ (by walk_at "v s") (by walk_at "v s")) (by k_is) (by k_is) (Nat.le_of_ble_eq_true rfl) rfl) (Ex.ifp (Tr.many (Trs.andf (Tr.cmp (cmp_eq _ _) (Ev.man O (Ev.cel OC rfl rfl rfl) (fun _ _ x => x)) Ev.cint (by walk_at "v d")))) (Ex.put (Ev.add (Ev.mul Ev.cint (Ev.loc rfl rfl) (by walk_at "v m")) (Ev.gint O (by k_is) rfl)) (Sx.loc rfl) (Ex.ifp (Tr.many (Trs.andf (Tr.cmp (cmp_eq _ _) (Ev.man O (Ev.cel OC rfl rfl rfl) (fun _ _ x => x)) (Ev.neg Ev.cint) (by walk_at "v d")))) (Ex.ret (Ev.dec3 O (Ev.loc rfl rfl) (Ev.loc rfl rfl) (EvH.lamCb [("real", eReal m e)] OC (Ev.lam (Pt := 380) O OC (codeHd_of_K O.X (by kernel_rfl)) (by decide) rfl (by k_mem) rfl rfl) (forall_cons ⟨rfl, rfl, _, rfl, rfl⟩ (no_mem)) (forall_cons rfl (no_mem)) rfl (fun _ _ _ _ => rfl) (fun c O k r hg => by ((simp only [Option.map_eq_some_iff, Prod.exists] at hg; obtain ⟨r0, r1, hr, rfl⟩ := hg); (exact (Ev.call O (Evs.cons (Ev.loc rfl rfl) (Evs.cons (Ev.free rfl rfl) Evs.nil)) (f_acos_bounds _ _ _ _ (by walk_at "v s")) (by k_is) (by k_is) (Nat.le_of_ble_eq_true rfl) rfl))))) hp (Nat.le_of_ble_eq_true rfl) (by k_is) (by k_is) rfl))))))
end Mine
end
noncomputable section
open PySem PySem.W PyProof.Rows PySem.Calls
set_option Elab.async false
set_option maxRecDepth 100000
set_option maxHeartbeats 4000000
set_option linter.all false
set_option exponentiation.threshold 5000
namespace Mine
theorem filledW19 : PySem.Challenge.rw_pc0352_01 = PySem.Challenge.rw_pc0352_01 ∧ hd.heap_39 = hd.heap_39 := by
  k_fill
  exact ⟨rfl, rfl⟩
theorem f_atan_two (w : World) (precision hm he wm we : Int) {a b : Int} (hp : atan2F precision hm he wm we = some (a, b)) : FunC w 680 406 [vInt precision, eReal hm he, eReal wm we] (vReal a b) := by
  unfold atan2F at hp
  split at hp
  · split at hp
    · cases hp
    · refine' funC_of ["precision", "high", "wide"] (ret_own rfl) ?hlim ?ho ?hcd ?hb ?hl ?hnd ?_ ?c1 ?c2 ?c3 rfl ?how
      (case hlim => decide)
      (case ho => k_is)
      (case hcd => k_is)
      (case hb => exact fun s => zip3 fun _ _ _ => BindsTo.of_eq rfl)
      (case hl => decide)
      (case hnd => decide +kernel)
      (case c1 => exact rfl)
      (case c2 => exact rfl)
      (case c3 => exact rfl)
      (case how => exact forall_cons rfl (forall_cons rfl (forall_cons rfl (no_mem))))
      exact fun c O OC => (Ex.ifr (Tr.cmp (cmp_eq _ _) (Ev.call O (Evs.cons (Ev.loc rfl rfl) Evs.nil) (f_sign_of _ _ _) (by k_is) (by k_is) (Nat.le_of_ble_eq_true rfl) rfl) Ev.cint (by walk_at "v d")) (Ex.ifp (Tr.cmp (cmp_eq _ _) (Ev.call O (Evs.cons (Ev.loc rfl rfl) Evs.nil) (f_sign_of _ _ _) (by k_is) (by k_is) (Nat.le_of_ble_eq_true rfl) rfl) Ev.cint (by walk_at "v d")) (Ex.ret (Ev.dec3 O (Ev.loc rfl rfl) (Ev.add (Ev.loc rfl rfl) (Ev.gint O (by k_is) rfl)) (EvH.call O OC.toOkT (Evs.cons (Ev.call O (Evs.cons (Ev.loc rfl rfl) Evs.nil) (f_sign_of _ _ _) (by k_is) (by k_is) (Nat.le_of_ble_eq_true rfl) rfl) Evs.nil) (f_quarter_of _ _ (by first | exact sgn_small _ | omega)) (by k_is) (by k_is) (Nat.le_of_ble_eq_true rfl) rfl) hp (Nat.le_of_ble_eq_true rfl) (by k_is) (by k_is) rfl))))
  split at hp
  · split at hp
    · simp only [Option.some.injEq, Prod.mk.injEq] at hp
      obtain ⟨rfl, rfl⟩ := hp
      refine' funC_of ["precision", "high", "wide"] (ret_own rfl) ?hlim ?ho ?hcd ?hb ?hl ?hnd ?_ ?c1 ?c2 ?c3 rfl ?how
      (case hlim => decide)
      (case ho => k_is)
      (case hcd => k_is)
      (case hb => exact fun s => zip3 fun _ _ _ => BindsTo.of_eq rfl)
      (case hl => decide)
      (case hnd => decide +kernel)
      (case c1 => exact rfl)
      (case c2 => exact rfl)
      (case c3 => exact rfl)
      (case how => exact forall_cons rfl (forall_cons rfl (forall_cons rfl (no_mem))))
      exact fun c O OC => (Ex.ifp (Tr.cmp (cmp_eq _ _) (Ev.call O (Evs.cons (Ev.loc rfl rfl) Evs.nil) (f_sign_of _ _ _) (by k_is) (by k_is) (Nat.le_of_ble_eq_true rfl) rfl) Ev.cint (by walk_at "v d")) (Ex.ifr (Tr.cmp (cmp_eq _ _) (Ev.call O (Evs.cons (Ev.loc rfl rfl) Evs.nil) (f_sign_of _ _ _) (by k_is) (by k_is) (Nat.le_of_ble_eq_true rfl) rfl) Ev.cint (by walk_at "v d")) (Ex.ret (Ev.ift (Tr.cmp (cmp_gt _ _) (Ev.call O (Evs.cons (Ev.loc rfl rfl) Evs.nil) (f_sign_of _ _ _) (by k_is) (by k_is) (Nat.le_of_ble_eq_true rfl) rfl) Ev.cint (by walk_at "v d")) (Ev.call O (Evs.cons Ev.cint (Evs.cons Ev.cint Evs.nil)) (f_Real _ _ _) (by k_is) (by k_is) (Nat.le_of_ble_eq_true rfl) rfl)))))
    · refine' funC_of ["precision", "high", "wide"] (ret_own rfl) ?hlim ?ho ?hcd ?hb ?hl ?hnd ?_ ?c1 ?c2 ?c3 rfl ?how
      (case hlim => decide)
      (case ho => k_is)
      (case hcd => k_is)
      (case hb => exact fun s => zip3 fun _ _ _ => BindsTo.of_eq rfl)
      (case hl => decide)
      (case hnd => decide +kernel)
      (case c1 => exact rfl)
      (case c2 => exact rfl)
      (case c3 => exact rfl)
      (case how => exact forall_cons rfl (forall_cons rfl (forall_cons rfl (no_mem))))
      exact fun c O OC => (Ex.ifp (Tr.cmp (cmp_eq _ _) (Ev.call O (Evs.cons (Ev.loc rfl rfl) Evs.nil) (f_sign_of _ _ _) (by k_is) (by k_is) (Nat.le_of_ble_eq_true rfl) rfl) Ev.cint (by walk_at "v d")) (Ex.ifr (Tr.cmp (cmp_eq _ _) (Ev.call O (Evs.cons (Ev.loc rfl rfl) Evs.nil) (f_sign_of _ _ _) (by k_is) (by k_is) (Nat.le_of_ble_eq_true rfl) rfl) Ev.cint (by walk_at "v d")) (Ex.ret (Ev.iff (Tr.cmp (cmp_gt _ _) (Ev.call O (Evs.cons (Ev.loc rfl rfl) Evs.nil) (f_sign_of _ _ _) (by k_is) (by k_is) (Nat.le_of_ble_eq_true rfl) rfl) Ev.cint (by walk_at "v d")) (Ev.dec3 O (Ev.loc rfl rfl) (Ev.add (Ev.loc rfl rfl) (Ev.gint O (by k_is) rfl)) (EvH.half O (by k_is) ⟨_, _, _, _, by k_is⟩ rfl) hp (Nat.le_of_ble_eq_true rfl) (by k_is) (by k_is) rfl)))))
  split at hp
  · simp only [Option.bind_eq_some_iff, Prod.exists] at hp
    obtain ⟨f0, f1, hf, hp⟩ := hp
    split at hp
    · cases hp
    · refine' funC_of ["precision", "high", "wide"] (ret_own rfl) ?hlim ?ho ?hcd ?hb ?hl ?hnd ?_ ?c1 ?c2 ?c3 rfl ?how
      (case hlim => decide)
      (case ho => k_is)
      (case hcd => k_is)
      (case hb => exact fun s => zip3 fun _ _ _ => BindsTo.of_eq rfl)
      (case hl => decide)
      (case hnd => decide +kernel)
      (case c1 => exact rfl)
      (case c2 => exact rfl)
      (case c3 => exact rfl)
      (case how => exact forall_cons rfl (forall_cons rfl (forall_cons rfl (no_mem))))
      exact fun c O OC => (Ex.ifp (Tr.cmp (cmp_eq _ _) (Ev.call O (Evs.cons (Ev.loc rfl rfl) Evs.nil) (f_sign_of _ _ _) (by k_is) (by k_is) (Nat.le_of_ble_eq_true rfl) rfl) Ev.cint (by walk_at "v d")) (Ex.ifp (Tr.cmp (cmp_eq _ _) (Ev.call O (Evs.cons (Ev.loc rfl rfl) Evs.nil) (f_sign_of _ _ _) (by k_is) (by k_is) (Nat.le_of_ble_eq_true rfl) rfl) Ev.cint (by walk_at "v d")) (Ex.unp2 O (Ev.call O (Evs.cons (Ev.loc rfl rfl) (Evs.cons (Ev.loc rfl rfl) Evs.nil)) (f_ratio_of_reals _ _ _ _ _ (by walk_at "v s")) (by k_is) (by k_is) (Nat.le_of_ble_eq_true rfl) rfl) (fun _ _ x => x) (Sx.cel O OC rfl rfl) (Sx.cel O OC rfl rfl) (Ex.put (Ev.bcall O (Evs.cons Ev.cint (Evs.cons (Ev.sub (Ev.bits (Ev.cel OC rfl rfl rfl)) (Ev.bits (Ev.bcall O (Evs.cons (Ev.cel OC rfl rfl rfl) Evs.nil) b_abs (by boot_by_name) (by k_is) rfl))) Evs.nil)) (b_maxi O) (by boot_by_name) (by k_is) rfl) (Sx.loc rfl) (Ex.ifp (Tr.many (Trs.andt (Tr.cmp (cmp_gt _ _) (Ev.call O (Evs.cons (Ev.loc rfl rfl) Evs.nil) (f_sign_of _ _ _) (by k_is) (by k_is) (Nat.le_of_ble_eq_true rfl) rfl) Ev.cint (by walk_at "v d")) (Trs.andf (Tr.cmp (cmp_gt _ _) (Ev.loc rfl rfl) (Ev.add (Ev.loc rfl rfl) Ev.cint) (by walk_at "v d"))))) (Ex.put (Ev.ift (Tr.cmp (cmp_gt _ _) (Ev.call O (Evs.cons (Ev.loc rfl rfl) Evs.nil) (f_sign_of _ _ _) (by k_is) (by k_is) (Nat.le_of_ble_eq_true rfl) rfl) Ev.cint (by walk_at "v d")) Ev.cint) (Sx.cel O OC rfl rfl) (Ex.def (Pt := 401) O OC (codeHd_of_K O.X (by kernel_rfl)) (by decide) rfl (by k_mem) rfl rfl rfl rfl (Sx.loc rfl) (Ex.ret (Ev.dec3 O (Ev.loc rfl rfl) (Ev.add (Ev.add (Ev.mul Ev.cint (Ev.loc rfl rfl) (by walk_at "v m")) (Ev.gint O (by k_is) rfl)) (Ev.loc rfl rfl)) (EvH.defCb [("top", vInt f0), ("bottom", vInt f1), ("turn", vInt 0)] OC (Ev.loc rfl rfl) (forall_cons ⟨rfl, rfl, _, rfl, rfl⟩ (forall_cons ⟨rfl, rfl, _, rfl, rfl⟩ (forall_cons ⟨rfl, rfl, _, rfl, rfl⟩ (no_mem)))) (forall_cons rfl (forall_cons rfl (forall_cons rfl (no_mem)))) rfl (fun _ _ _ _ _ _ => BindsTo.of_eq rfl) (fun c O k r hg => by (simp only [boundsF, Option.bind_eq_some_iff, Prod.exists, Option.some.injEq] at hg; obtain ⟨a0, a1, ha, b0, b1, hb, rfl⟩ := hg); exact (Ex.ret (Ev.call O (Evs.tup (Ev.call O (Evs.cons (Ev.loc rfl rfl) (Evs.cons (Ev.free rfl rfl) (Evs.cons (Ev.free rfl rfl) Evs.nil))) (f_arc_bounds _ _ _ _ (by walk_at "v s")) (by k_is) (by k_is) (Nat.le_of_ble_eq_true rfl) rfl) (Evs.tup (Ev.call O (Evs.tup (Ev.call O (Evs.cons (Ev.loc rfl rfl) Evs.nil) (f_half_turn _ _ (by walk_at "v s")) (by k_is) (by k_is) (Nat.le_of_ble_eq_true rfl) rfl) (Evs.cons (Ev.free rfl rfl) Evs.nil)) (f_often _ _ _ _ (by walk_at "v s")) (by k_is) (by k_is) (Nat.le_of_ble_eq_true rfl) rfl) Evs.nil)) (f_more_of _ _ _ _ _) (by k_is) (by k_is) (Nat.le_of_ble_eq_true rfl) rfl)))) hp (Nat.le_of_ble_eq_true rfl) (by k_is) (by k_is) rfl)))))))))
  · simp only [Option.bind_eq_some_iff, Prod.exists] at hp
    obtain ⟨f0, f1, hf, hp⟩ := hp
    refine' funC_of ["precision", "high", "wide"] (ret_own rfl) ?hlim ?ho ?hcd ?hb ?hl ?hnd ?_ ?c1 ?c2 ?c3 rfl ?how
    (case hlim => decide)
    (case ho => k_is)
    (case hcd => k_is)
    (case hb => exact fun s => zip3 fun _ _ _ => BindsTo.of_eq rfl)
    (case hl => decide)
    (case hnd => decide +kernel)
    (case c1 => exact rfl)
    (case c2 => exact rfl)
    (case c3 => exact rfl)
    (case how => exact forall_cons rfl (forall_cons rfl (forall_cons rfl (no_mem))))
    exact fun c O OC => (Ex.ifp (Tr.cmp (cmp_eq _ _) (Ev.call O (Evs.cons (Ev.loc rfl rfl) Evs.nil) (f_sign_of _ _ _) (by k_is) (by k_is) (Nat.le_of_ble_eq_true rfl) rfl) Ev.cint (by walk_at "v d")) (Ex.ifp (Tr.cmp (cmp_eq _ _) (Ev.call O (Evs.cons (Ev.loc rfl rfl) Evs.nil) (f_sign_of _ _ _) (by k_is) (by k_is) (Nat.le_of_ble_eq_true rfl) rfl) Ev.cint (by walk_at "v d")) (Ex.unp2 O (Ev.call O (Evs.cons (Ev.loc rfl rfl) (Evs.cons (Ev.loc rfl rfl) Evs.nil)) (f_ratio_of_reals _ _ _ _ _ (by walk_at "v s")) (by k_is) (by k_is) (Nat.le_of_ble_eq_true rfl) rfl) (fun _ _ x => x) (Sx.cel O OC rfl rfl) (Sx.cel O OC rfl rfl) (Ex.put (Ev.bcall O (Evs.cons Ev.cint (Evs.cons (Ev.sub (Ev.bits (Ev.cel OC rfl rfl rfl)) (Ev.bits (Ev.bcall O (Evs.cons (Ev.cel OC rfl rfl rfl) Evs.nil) b_abs (by boot_by_name) (by k_is) rfl))) Evs.nil)) (b_maxi O) (by boot_by_name) (by k_is) rfl) (Sx.loc rfl) (Ex.ifp (Tr.many (Trs.andf (Tr.cmp (cmp_gt _ _) (Ev.call O (Evs.cons (Ev.loc rfl rfl) Evs.nil) (f_sign_of _ _ _) (by k_is) (by k_is) (Nat.le_of_ble_eq_true rfl) rfl) Ev.cint (by walk_at "v d")))) (Ex.put (Ev.iff (Tr.cmp (cmp_gt _ _) (Ev.call O (Evs.cons (Ev.loc rfl rfl) Evs.nil) (f_sign_of _ _ _) (by k_is) (by k_is) (Nat.le_of_ble_eq_true rfl) rfl) Ev.cint (by walk_at "v d")) (Ev.call O (Evs.cons (Ev.loc rfl rfl) Evs.nil) (f_sign_of _ _ _) (by k_is) (by k_is) (Nat.le_of_ble_eq_true rfl) rfl)) (Sx.cel O OC rfl rfl) (Ex.def (Pt := 401) O OC (codeHd_of_K O.X (by kernel_rfl)) (by decide) rfl (by k_mem) rfl rfl rfl rfl (Sx.loc rfl) (Ex.ret (Ev.dec3 O (Ev.loc rfl rfl) (Ev.add (Ev.add (Ev.mul Ev.cint (Ev.loc rfl rfl) (by walk_at "v m")) (Ev.gint O (by k_is) rfl)) (Ev.loc rfl rfl)) (EvH.defCb [("top", vInt f0), ("bottom", vInt f1), ("turn", vInt (sgn hm))] OC (Ev.loc rfl rfl) (forall_cons ⟨rfl, rfl, _, rfl, rfl⟩ (forall_cons ⟨rfl, rfl, _, rfl, rfl⟩ (forall_cons ⟨rfl, rfl, _, rfl, rfl⟩ (no_mem)))) (forall_cons rfl (forall_cons rfl (forall_cons rfl (no_mem)))) rfl (fun _ _ _ _ _ _ => BindsTo.of_eq rfl) (fun c O k r hg => by (simp only [boundsF, Option.bind_eq_some_iff, Prod.exists, Option.some.injEq] at hg; obtain ⟨a0, a1, ha, b0, b1, hb, rfl⟩ := hg); exact (Ex.ret (Ev.call O (Evs.tup (Ev.call O (Evs.cons (Ev.loc rfl rfl) (Evs.cons (Ev.free rfl rfl) (Evs.cons (Ev.free rfl rfl) Evs.nil))) (f_arc_bounds _ _ _ _ (by walk_at "v s")) (by k_is) (by k_is) (Nat.le_of_ble_eq_true rfl) rfl) (Evs.tup (Ev.call O (Evs.tup (Ev.call O (Evs.cons (Ev.loc rfl rfl) Evs.nil) (f_half_turn _ _ (by walk_at "v s")) (by k_is) (by k_is) (Nat.le_of_ble_eq_true rfl) rfl) (Evs.cons (Ev.free rfl rfl) Evs.nil)) (f_often _ _ _ _ (by walk_at "v s")) (by k_is) (by k_is) (Nat.le_of_ble_eq_true rfl) rfl) Evs.nil)) (f_more_of _ _ _ _ _) (by k_is) (by k_is) (Nat.le_of_ble_eq_true rfl) rfl)))) hp (Nat.le_of_ble_eq_true rfl) (by k_is) (by k_is) rfl)))))))))
end Mine
end
noncomputable section
open PySem PySem.W PyProof.Rows PySem.Calls
set_option Elab.async false
set_option maxRecDepth 100000
set_option maxHeartbeats 4000000
set_option linter.all false
set_option exponentiation.threshold 5000
set_option genInjectivity false
set_option genSizeOf false
namespace Mine
theorem filledW20 : PySem.Challenge.rw_pc0352_01 = PySem.Challenge.rw_pc0352_01 ∧ hd.heap_39 = hd.heap_39 := by
  k_fill
  exact ⟨rfl, rfl⟩
/-- a function of no arguments that gives a Real: a new one, or one that stands in g -/
def AskIn (P : Addr → Obj → Prop) (v : Value) (g : Heap) (m e : Int) : Prop :=
  ∃ f, v = .ref f ∧ (∃ oc od fd sl, P f ⟨oc, od, .func fd, sl⟩) ∧ ∀ w s, g.StaysIn s.heap → Base w s.heap → TabsAll s.heap → SaysC w 670 (.ref f) [] s (fun h' u => New s.heap h' u (vReal m e) ∨ RealIn (fun a o => g.get? a = some o) u m e)
@[reducible] def vAsk (g : Heap) (m e : Int) : Val := ⟨false, fun P v => AskIn P v g m e, fun k ⟨f, ev, ⟨oc, od, fd, sl, h⟩, r⟩ => ⟨f, ev, ⟨oc, od, fd, sl, k _ _ h⟩, r⟩⟩
abbrev AskAt (m e : Int) : Heap → Value → Prop := fun h v => AskIn (fun a o => (bare h).get? a = some o) v (bare h) m e
section
variable {c : Cx} {sc : Scope} {σ σ1 : Sto} {τ τ' : Tmp} {s : Shared} {V W : Val} {r : Res} {d : Nat} {v : Value} {cdv : Value} {q : Str}
theorem St.putG (S : St c sc σ τ s) (r : ∀ n, V.rep c.g n v) : St c sc σ ((v, V) :: τ) s := let ⟨mm, κ, own, cells, rest, F, N, K, Y, TI, e, l, t⟩ := S; ⟨mm, κ, own, cells, rest, F, N, K, Y, TI, e, l, forall_cons (r _) t⟩
theorem Ev.ask {x : Str} {p1 pos : Pos} {g : Heap} {m e : Int} (O : Ok c d) (OC : OkT c) (hg : c.g = g) (hr : d ≤ 670) (h : Ev c sc σ (.Name x p1) (vAsk g m e)) : Ev c sc σ (.Call (.Name x p1) [] [] pos) (eReal m e) := fun τ Q s S q =>
  Call_ (h _ s S fun v s1 S1 => by
    obtain ⟨f, rfl, ⟨oc, od, fd, sl, hf⟩, ha⟩ := S1.at_
    obtain ⟨_, _, F, _, _⟩ := S1.open_
    refine callWith_F0 ⟨oc, od, fd, sl, hf⟩ (S1.useC OC (ha c.w s1 (hg ▸ F.keep) (S1.base O) (S1.tabs OC)) (room_of O hr) fun v h' tk n go => ?_)
    rcases n with n | n
    · exact q v _ (((go n).into (.head _) (.inr .real)).tmp (forall_cons (.head _) fun p hp => .tail _ (.tail _ (.tail _ hp))))
    · exact q v _ ((go (u := .none) (U := vNone) ⟨[], no_mem, rfl⟩).drop2.putG fun n9 => (eReal m e).mono (fun a o y => .inr ⟨rfl, hg ▸ y⟩) n))
theorem Ex.try {b rest : List Stmt} {h₀ : ExceptHandler} {hs : List ExceptHandler} {pos : Pos} (h : Ex c sc σ b (.next σ1)) (t : Ex c sc σ1 rest r) : Ex c sc σ (.Try b (h₀ :: hs) [] [] pos :: rest) r := .cons (fun Q s S q =>
  wpAny_Try_except (wpAny_mono (@h (fun f s₁ => match f with | .next => wpAny (model Pg c.w) c.A (execs [] (c.env sc)) Q noE s₁ | f => Q f s₁) s S fun s1 S1 => wpAny_execs_nil (q s1 S1)) (fun _ _ x => x) fun _ _ x => x.elim)) t
theorem f_told_ok {w : World} {s : Shared} {v : Value} {m e : Int} (B : Base w s.heap) (TA : TabsAll s.heap) (h : AskAt m e s.heap v) : SaysC w 660 (.ref 474) [v] s (fun h' u => New s.heap h' u (vTup [m, e])) := by
  refine' enterEx (V := vTup [m, e]) (H := fun _ _ => True) (Ws := [vAsk (bare s.heap) m e]) ["asked"] ?hlim ?ho ?hcd ?hb ?hl ?hnd B TA ⟨v, _, rfl, h, rfl⟩ ?how ?_ (fun h' v objs hobj hv _ => ⟨objs, hobj, ret_own rfl _ _ _ hv⟩) ?c1 ?c2 ?c3 rfl
  (case hlim => decide)
  (case ho => k_is)
  (case hcd => k_is)
  (case hb => exact fun s => zip1 fun _ => BindsTo.of_eq rfl)
  (case hl => decide)
  (case hnd => decide +kernel)
  (case c1 => exact rfl)
  (case c2 => exact rfl)
  (case c3 => exact rfl)
  (case how => exact forall_cons rfl no_mem)
  exact fun c hg O OC => (Ex.try (Ex.put (Ev.ask O OC.toOkT hg (Nat.le_of_ble_eq_true rfl) (Ev.loc rfl rfl)) (Sx.loc rfl) Ex.nil) (Ex.ret (Ev.tuple (ns := [_, _]) (Evs.cons (Ev.man O (Ev.loc rfl rfl) (fun _ _ x => x)) (Evs.cons (Ev.exp O (Ev.loc rfl rfl) (fun _ _ x => x)) Evs.nil))))).h
/-- told(a lambda) -/
theorem Ev.told {p1 pos : Pos} {e1 : Expr} {m e : Int} (O : Ok c d) (OC : OkT c) (h : EvH c sc σ e1 (AskAt m e)) (hr : d ≤ 660) (hf : nsIn (hd.heap_39 c.w.params) mainGlobals "_law_told" = some (some (.ref 474))) (hk : keepIn (hd.heap_39 c.w.params) (.ref 474) = true)
    (hx : sc.names.lookup ("_law_told" : Str) = some .globalImplicit) (hs : sc.kind = .function := by rfl) (he : starEach [e1] (c.env sc) = [(false, eval e1 (c.env sc))] := by rfl) : Ev c sc σ (.Call (.Name "_law_told" p1) [e1] [] pos) (vTup [m, e]) := fun τ Q s S q => by
  refine Call_ ?_
  obtain ⟨_, _, F, _, _⟩ := S.open_
  refine nameX_K F O.X (topRead_of O.T) hf ?_ hs hx (by decide)
  refine callWith_K O.X hk (args_cons (h _ s S fun v s1 S1 H => args_nil ?_) he) he
  have B := S1.base O
  exact ⟨B.K, S1.useC OC (f_told_ok B (S1.tabs OC) H) (room_of O hr) fun v h' tk n go => q v _ (go n)⟩
/-- what is captured, as it stands in g and here -/
@[reducible] def er2 (g : Heap) (V : Val) : Val := ⟨false, fun P v => V.p P v ∧ V.p (fun a o => g.get? a = some o) v, fun k h => ⟨V.mono k h.1, h.2⟩⟩
/-- a Real that is new, or one that stands in g -/
@[reducible] def vOr (g : Heap) (m e : Int) : Val := ⟨true, fun P v => RealIn P v m e ∨ RealIn (fun a o => g.get? a = some o) v m e, fun k h => h.imp ((eReal m e).mono k) id⟩
theorem Ev.capI {e : Expr} {g : Heap} {n : Int} (h : Ev c sc σ e (er2 g (vInt n))) : Ev c sc σ e (vInt n) := fun τ Q s S q => h Q s S fun v s' S' => q v s' ((S'.into (W := vInt n) (.head _) (.inr ⟨rfl, fun _ _ x => x.1⟩)).tmp (forall_cons (.head _) fun p hp => .tail _ (.tail _ hp)))
theorem Evs.cap {e : Expr} {es : List Expr} {Vs : List Val} {g : Heap} {m e' : Int} {V : Val} (h : Ev c sc σ e (er2 g V)) (hV : ∀ P v, V.p P v → RealIn P v m e') (t : Evs c sc σ es Vs) (he : starEach (e :: es) (c.env sc) = (false, eval e (c.env sc)) :: starEach es (c.env sc) := by rfl) : Evs c sc σ (e :: es) (eReal m e' :: Vs) := Evs.into h (.inr ⟨rfl, fun P v x => hV P v x.1⟩) t he
/-- a call whose result is new, or the Real that is captured -/
theorem Ev.callW {x : Str} {p1 pos : Pos} {e1 e2 : Expr} {f : Addr} {d' : Nat} {p m e a b : Int} {g : Heap} (O : Ok c d) (OC : OkT c) (h1 : Ev c sc σ e1 (vInt p)) (h2 : Ev c sc σ e2 (er2 g V)) (hV : ∀ P v, V.p P v → RealIn P v m e) (C : FunR c.w d' f [vInt p, eReal m e] a b) (hf : nsIn (hd.heap_39 c.w.params) mainGlobals x = some (some (.ref f))) (hk : keepIn (hd.heap_39 c.w.params) (.ref f) = true) (hr : d ≤ d')
    (hx : sc.names.lookup x = some .globalImplicit) (hs : sc.kind = .function := by rfl) (hd : (x == ("__debug__" : Str)) = false := by decide) (he1 : starEach [e1, e2] (c.env sc) = (false, eval e1 (c.env sc)) :: starEach [e2] (c.env sc) := by rfl) (he2 : starEach [e2] (c.env sc) = [(false, eval e2 (c.env sc))] := by rfl) (hplain : (backTo pos (starEach [e2] (c.env sc))).any (·.1) = false := by rfl) : Ev c sc σ (.Call (.Name x p1) [e1, e2] [] pos) (vOr g a b) := fun τ Q s S q => by
  refine Call_ ?_
  obtain ⟨_, _, F, _, _⟩ := S.open_
  refine nameX_K F O.X (topRead_of O.T) hf ?_ hs hx hd
  refine callWith_K O.X hk (args_cons (h1 _ s S fun v1 s1 S1 => args_cons (h2 _ s1 S1 fun v2 s2 S2 => args_nil ?_) he2) he1) he1 hplain
  have B := S2.base O
  have R2 := S2.bare_at OC
  obtain ⟨t, rfl⟩ := S2.drop.one
  refine ⟨B.K, S2.useC OC (@C [.int p t, v2] s2 B (S2.tabs OC) ⟨_, _, rfl, ⟨t, rfl⟩, _, _, rfl, hV _ _ R2.1, rfl⟩) (room_of O hr) fun v h' tk n go => ?_⟩
  rcases n with n | ⟨n1, n2⟩
  · obtain ⟨objs, ho, hv⟩ := n
    exact q v _ ((go (U := vOr g a b) ⟨objs, ho, .inl hv⟩).tmp (forall_cons (.head _) fun p hp => .tail _ (.tail _ (.tail _ hp))))
  · cases n1
    have e9 : (eReal m e).p = (eReal a b).p := congrArg Val.p (Option.some.inj n2)
    have R3 : (eReal a b).p (fun a o => g.get? a = some o) v2 := e9 ▸ hV _ _ R2.2
    exact q v2 _ (((go (u := .none) (U := vNone) ⟨[], no_mem, rfl⟩).tmp (τ' := τ) fun p hp => .tail _ (.tail _ (.tail _ hp))).put fun _ _ => .inr R3)
end
end Mine
end
noncomputable section
open PySem PySem.W PyProof.Rows PySem.Calls
set_option Elab.async false
set_option maxRecDepth 100000
set_option maxHeartbeats 4000000
set_option linter.all false
set_option exponentiation.threshold 5000
set_option genInjectivity false
set_option genSizeOf false
namespace Mine
theorem filledW21 : PySem.Challenge.rw_pc0352_01 = PySem.Challenge.rw_pc0352_01 ∧ hd.heap_39 = hd.heap_39 := by
  k_fill
  exact ⟨rfl, rfl⟩
theorem enterLamC {w : World} {A : Around} {E : Value → Shared → Prop} {s : Shared} {Q : Value → Shared → Prop} {d : Nat} {name qual : Str} {params : Arguments} {body : PySem.Expr} {scope : Scope} {cl : List (Str × Addr)} {pm ctv : Value} {c' f : Addr} {vs : List Value} {binds : List (Str × Value)}
    (R : Room A d) (hroom : d < recursionLimit) (B : Base w s.heap) (TA : TabsAll s.heap) (ho : s.heap.get? f = some (kla_obj name qual params body scope cl pm c' ctv)) (hcd : s.heap.CodeRec (.ref c') qual)
    (hbind : bindArgs (kla_fn name qual params body scope cl pm (.ref c') ctv) ⟨vs, []⟩ = pure binds) (hloc : ∀ y ∈ binds, scope.names.lookup y.1 = some .local)
    (h : ∀ L' h₁ rest, Fr (bare s.heap) L' h₁ (fun y => binds.reverse.lookup y) → News (bare s.heap) L' h₁ rest → TabsIn (bare s.heap) rest →
      wpAny (model Pg w) ((Ac d).deeper (envX qual scope L' f (.ref c') cl)) (eval body (envX qual scope L' f (.ref c') cl)) (fun v s' => FinC s.heap Q v s') (fun _ _ => False) { s with heap := h₁, toks := s.toks + binds.length })
    (hco : scope.isCoroutine = false) (hgen : scope.isGenerator = false) (hk : scope.kind = .function)
    (hcell : ∀ x ∈ scope.names, x.2 ≠ .cell) : wpAny (model Pg w) A (call (.ref f) vs) Q E s := by
  obtain ⟨l, me, mg, mb, T⟩ := B.T
  refine wpAny_call (cd_weak R ?_)
  refine kla_callFunE hroom ho rfl hco hgen rfl hcd ?_
  rw [hbind]
  refine wpAny_pure (wpAny_newFunctionEnv hcell hloc (fun h₁ hns hsb => ⟨T.nolimit.fresh _ hsb, ?_⟩) hk)
  show codeAny _ _ (.expr body (envX qual scope s.heap.objs.size f (.ref c') cl)) _ _
  have hk₁ : ∀ b o, s.heap.get? b = some o → h₁.get? b = some o := fun b o e => hsb.extBut b o (Nat.ne_of_lt (Heap.lt_size e)) (Heap.get?_push_of_some _ e)
  have F : Fr (bare s.heap) s.heap.objs.size h₁ (fun y => binds.reverse.lookup y) := ⟨hns, fun b o e => hk₁ b o (bare_of e), Nat.le_of_eq (bare_size _)⟩
  obtain ⟨rest, N0, TI⟩ := restOf (h₀ := bare s.heap) (fun b o e => bare_of e) TA (fun P hP => bare_none hP)
  have N : News (bare s.heap) s.heap.objs.size h₁ rest := fun p hp => ⟨hk₁ _ _ (N0 p hp).1, Nat.ne_of_lt (Heap.lt_size (N0 p hp).1), (N0 p hp).2.1⟩
  exact kla_codeExpr (wpAny_mono (h s.heap.objs.size h₁ rest F N TI) (fun v s' x => x.done) (fun _ _ x => x.elim))
theorem fresh_of {s : Shared} {L : Addr} {h' : Heap} {own more : Led} (N : News (bare s.heap) L h' (own ++ more)) (K : ∀ p ∈ own, Plain p.2) (ta : TabsAll h') : ∀ p ∈ own, s.heap.get? p.1 = none ∧ h'.get? p.1 = some p.2 ∧ Plain p.2 := fun p hp => by
  have n := N p (List.mem_append_left _ hp)
  refine ⟨?_, n.1, K p hp⟩
  cases z : s.heap.get? p.1 with
  | none => rfl
  | some o =>
    have := n.2.2
    rw [bare_get (off_mem ta (K p hp).off n.1) z] at this
    cases this
section
variable {c : Cx} {sc : Scope} {σ σ1 : Sto} {τ τ' : Tmp} {s : Shared} {V W : Val} {r : Res} {d : Nat} {v : Value} {cdv : Value} {q : Str}
theorem caps_look2 {c : Cx} {sc : Scope} {mm κ : Str → Option Value} {caps : Sto} {clos : List (Str × Addr)} {g : Heap} (hcl : c.cl = clos) (st : g.StaysIn c.g) (hf : ∀ p ∈ caps, sc.names.lookup p.1 = some .free)
    (h : ∀ p ∈ caps, ∃ a o u, clos.lookup p.1 = some a ∧ g.get? a = some o ∧ o.data = .cell (some u) ∧ p.2.p (fun a o => g.get? a = some o) u) : ∀ x V, (caps.map fun p => (p.1, er2 g p.2)).lookup x = some V → ∃ v, Holds c sc mm κ x v ∧ V.rep c.g [] v := by
  induction caps with
  | nil => exact fun _ _ h => nomatch h
  | cons p caps ih =>
    intro x V hx
    rcases look_cons hx with ⟨rfl, rfl⟩ | ⟨_, hx⟩
    · obtain ⟨a, o, u, h1, h2, h3, h4⟩ := h p (.head _)
      have hfr := hf p (.head _)
      exact ⟨u, ⟨fun e => (by rw [hfr] at e; cases e), fun e => (by rw [hfr] at e; cases e), fun _ => ⟨a, o, by rw [hcl]; exact h1, st _ _ h2, h3⟩⟩, p.2.mono (fun b ob e => .inr ⟨rfl, st _ _ e⟩) h4, h4⟩
    · exact ih (fun p hp => hf p (.tail _ hp)) (fun p hp => h p (.tail _ hp)) x V hx
/-- a lambda of no arguments that gives a Real -/
theorem EvH.lamAsk {e : Expr} {params : Arguments} {body : Expr} {scope : Scope} {clos : List (Str × Addr)} {qual : Str} {V : Heap → Val} {m e' : Int} (caps : Sto) (OC : OkC c sc cdv q) (h : Ev c sc σ e (vFn (lamObj qual params body scope clos) qual))
    (hcap : ∀ p ∈ caps, sc.names.lookup p.1 = some .cell ∧ σ.lookup p.1 = some p.2 ∧ ∃ a, clos.lookup p.1 = some a ∧ (cellsFrom (c.L + 1) sc.names []).lookup p.1 = some a) (hfr : ∀ p ∈ caps, scope.names.lookup p.1 = some .free)
    (hb : ∀ pm cdv ctv, bindArgs (kla_fn "<lambda>" qual params body scope clos pm cdv ctv) ⟨[], []⟩ = pure [])
    (hV : ∀ g g' n v, (V g).rep g' n v → RealIn (fun a o => (a, o) ∈ n) v m e' ∨ RealIn (fun a o => g.get? a = some o) v m e')
    (hbody : ∀ (c' : Cx) g, Ok c' 671 → OkT c' → Ev c' scope (caps.map fun p => (p.1, er2 g p.2)) body (V g))
    (hco : scope.isCoroutine = false := by rfl) (hgen : scope.isGenerator = false := by rfl) (hk : scope.kind = .function := by rfl) (hcell : ∀ x ∈ scope.names, x.2 ≠ .cell := by decide) : EvH c sc σ e (AskAt m e') := fun τ Q s S k => h _ s S fun v s1 S1 => k v s1 S1.drop (by
  have hfn := S1.bare_at OC.toOkT
  have TA1 := S1.tabs OC.toOkT
  obtain ⟨f, c', doc, pm, ctv, oc, vs, t0, rfl, hf, hc, hd, hq⟩ := hfn
  obtain ⟨g0, hg0⟩ := OC.B
  have hcaps := S1.caps (P := fun a o => (bare s1.heap).get? a = some o) OC (fun a o ho he => bare_get (off_mem TA1 ho he) he) (let ⟨_, _, F, _, _⟩ := S1.open_; fun a o he => bare_get (bare_mem (hg0 ▸ he)) (F.keep _ _ he)) hcap
  refine ⟨f, rfl, ⟨_, _, _, _, hf⟩, fun w s2 hkp B TA A Q E Rm kk => ?_⟩
  have B0 := bare_base TA B
  obtain ⟨X, loose, mean, mg, mb, T⟩ := B0
  have st : (bare s1.heap).StaysIn (bare s2.heap) := fun b o he => bare_get (bare_mem he) (hkp _ _ he)
  refine enterLamC (binds := []) Rm (by decide) B TA (hkp _ _ hf) ⟨c', oc, vs, t0, rfl, hkp _ _ hc, hd, hq⟩ (hb _ _ _) no_mem (fun L' h₁ rest F N TI => ?_) hco hgen hk hcell
  refine hbody ⟨w, (Ac 670).deeper (envX qual scope L' f (.ref c') clos), bare s2.heap, L', qual, f, .ref c', clos, [], s2, loose, mean, mg, mb, TabsIn (bare s2.heap)⟩ (bare s1.heap) ⟨X, T, ⟨rfl, Nat.le_refl _, (show 10 * 670 + 3 ≤ 10 * 671 by decide)⟩, cap_of⟩ ⟨rfl, _, rfl⟩ _ _ ⟨_, fun _ => none, [], [], rest, F, N, no_mem, .nil, TI, rfl, caps_look2 rfl st hfr hcaps, no_mem⟩ ?_
  rintro v s' ⟨mm, κ, own, cells, rest', F', N', K, Y, TI', e, l, t'⟩
  refine ⟨L', mm, own ++ cells, rest', F', by rw [List.append_assoc]; exact N', TI', fun st' ta => ?_⟩
  have hfresh := fresh_of N' K ta
  have := kk v s'.heap s'.toks st' ta ((hV _ _ _ _ (t' _ (.head _))).imp (fun hv => ⟨own, hfresh, hv⟩) id)
  rw [e]
  exact this)
theorem real_new {g g' : Heap} {n : Led} {v : Value} {m e : Int} (h : (vReal m e).rep g' n v) : RealIn (fun a o => (a, o) ∈ n) v m e ∨ RealIn (fun a o => g.get? a = some o) v m e := .inl (ret_own (V := vReal m e) rfl _ _ _ h)
theorem real_or {g g' : Heap} {n : Led} {v : Value} {m e : Int} (h : (vOr g m e).rep g' n v) : RealIn (fun a o => (a, o) ∈ n) v m e ∨ RealIn (fun a o => g.get? a = some o) v m e := ret_own (V := vOr g m e) rfl _ _ _ h
/-- compares of any two values -/
def CmpV (c : Cx) (op : CmpOp) (V W : Val) (z : Bool) : Prop := ∀ ⦃s : Shared⦄ v u (Q : Value → Shared → Prop), V.p (fun a o => s.heap.get? a = some o) v → W.p (fun a o => s.heap.get? a = some o) u → Q (.bool z) s → wpAny (model Pg c.w) c.A (compareOp op v u) Q noE s
theorem Ev.cmpV {a b : Expr} {op : CmpOp} {pos : Pos} {z : Bool} (hop : CmpV c op V W z) (ha : Ev c sc σ a V) (hb : Ev c sc σ b W) (hm : behindInMarks op b = false := by with_unfolding_all rfl) : Ev c sc σ (.Compare a [op] [b] pos) (vBool z) := fun τ Q s S h =>
  wpAny_Compare1 (ha _ s S fun v s1 S1 => hb _ s1 S1 fun u s2 S2 => hop _ _ _ (S2.drop.at_) (S2.at_) (h _ _ (S2.drop2.put fun _ _ => rfl))) hm
theorem Tr.cmpV {a b : Expr} {op : CmpOp} {pos : Pos} {z z' : Bool} (hop : CmpV c op V W z) (ha : Ev c sc σ a V) (hb : Ev c sc σ b W) (q : z = z') (hm : behindInMarks op b = false := by with_unfolding_all rfl) : Tr c sc σ (.Compare a [op] [b] pos) z' := fun τ Q s S h =>
  wpAny_isTrue_Compare1 (ha _ s S fun v s1 S1 => hb _ s1 S1 fun u s2 S2 => hop _ _ _ (S2.drop.at_) (S2.at_) (wpAny_truthy_bool (q ▸ h _ S2.drop2))) hm
theorem Ev.chain2 {a b b2 : Expr} {pos : Pos} {U : Val} {z : Bool} (h1 : CmpV c .Eq V W true) (h2 : CmpV c .Eq W U z) (ha : Ev c sc σ a V) (hb : Ev c sc σ b W) (hc : Ev c sc σ b2 U) (hm : lastMarks [.Eq, .Eq] [b, b2] = false := by with_unfolding_all rfl) : Ev c sc σ (.Compare a [.Eq, .Eq] [b, b2] pos) (vBool z) := fun τ Q s S h =>
  Compare_chain (ha _ s S fun v s1 S1 => chain_link (hb _ s1 S1 fun u s2 S2 => h1 _ _ _ S2.drop.at_ S2.at_ (wpAny_truthy_bool (chain_last (hc _ s2 S2 fun y s3 S3 => h2 _ _ _ S3.drop.at_ S3.at_ (h _ _ (S3.drop2.drop.put fun _ _ => rfl))))))) hm
theorem tup_reads {P : Addr → Obj → Prop} {h : Heap} {v : Value} {x y : Int} (k : ∀ a o, P a o → h.get? a = some o) : TupIn P v [x, y] → Reads h v (.tuple [.int x, .int y]) []
  | ⟨r, ws, n, ev, a, t, _, e1, u, _, e2, e3⟩ => by
    subst e3 e2 e1 ev
    exact .tuple (k _ _ a) rfl rfl (.cons (.int x t) (.cons (.int y u) .nil))
theorem eqv2 {x y x' y' : Int} : PyData.eqv (.tuple [.int x, .int y]) (.tuple [.int x', .int y']) = ((x == x') && (y == y')) := by simp [PyData.eqv, PyData.eqvAll]
theorem units_of (O : Ok c d) (hd : 10 * d + 64 < cLine) : c.A.units + 64 < cLine := Nat.lt_of_le_of_lt (Nat.add_le_add_right O.R.u 64) hd
theorem eq_tup {x y x' y' : Int} (O : Ok c d) (hV : ∀ P v, V.p P v → TupIn P v [x, y]) (hW : ∀ P v, W.p P v → TupIn P v [x', y']) (hd : 10 * d + 64 < cLine := by decide) : CmpV c .Eq V W ((x == x') && (y == y')) := fun s v u Q h1 h2 k => eq_dataH (tup_reads (fun _ _ h => h) (hV _ _ h1)) (tup_reads (fun _ _ h => h) (hW _ _ h2)) rfl rfl (units_of O hd) (by rw [eqv2]; exact k)
theorem ne_tup {x y x' y' : Int} (O : Ok c d) (hV : ∀ P v, V.p P v → TupIn P v [x, y]) (hW : ∀ P v, W.p P v → TupIn P v [x', y']) (hd : 10 * d + 64 < cLine := by decide) : CmpV c .NotEq V W (!((x == x') && (y == y'))) := fun s v u Q h1 h2 k => ne_dataH (tup_reads (fun _ _ h => h) (hV _ _ h1)) (tup_reads (fun _ _ h => h) (hW _ _ h2)) rfl rfl (units_of O hd) (by rw [eqv2]; exact k)
theorem eq_bl {x y : Bool} : CmpV c .Eq (vBool x) (vBool y) (x == y) := fun s v u Q h1 h2 k => by cases h1; cases h2; exact eq_bool k
theorem ne_bl {x y : Bool} : CmpV c .NotEq (vBool x) (vBool y) (x != y) := fun s v u Q h1 h2 k => by cases h1; cases h2; exact ne_bool k
theorem eq_st {x : Str} : CmpV c .Eq (vStr x) (vStr x) true := fun s v u Q ⟨t, h1⟩ ⟨t', h2⟩ k => by subst h1 h2; exact eq_str (by rw [beq_self_eq_true]; exact k)
end
end Mine
end
noncomputable section
open PySem PySem.W PyProof.Rows PySem.Calls
set_option Elab.async false
set_option maxRecDepth 100000
set_option maxHeartbeats 8000000
namespace Mine
open PySem.Builtin PySem.Builtin.ObjectAttr
section
variable {prog : Program} {w : World} {A : Around} {R : Result → Shared → Prop} {s : Shared} {K : Frag} {x C S : Addr}
theorem osa_openE {ox : Obj} {od : Option Obj} {name : Str} {tk : Tok} {v : Value} {cd : ClassData} (X : K.In s.heap) (I : InstAt s.heap x ox C od) (hc : clsIn K C = some cd) (hmro : cd.mro = [.ref C, .ref S, .type "Exception", .type "BaseException", .type "object"])
    (hsub : mroIn K C (.type "object") = some true) (ht : takerIn K C name = some none)
    (h : ∀ b, wpAny (model prog w) A.in1 (storeInOwnDict (.ref x) (.ref C) (.str name tk) name v b)
      (fun fin s' => match fin with | .done f => R (.ok f) s' | .again c' => c'.quiet = true ∧ codeAny (model prog w) A c' R s') (fun e s' => R (.error e) s') s) :
    codeAny (model prog w) A (.call (.builtin "object.__setattr__") ⟨[.ref x, .str name tk, v], []⟩) R s := by
  have SF := PySem.F.store_object
  have sub : Looks (model prog w) s.heap (isInstance (.ref x) (.type "object")) true := I.type.andThen (looks_mroIn X hsub)
  refine codeAny_call_builtin SF.slot.plain SF.entry (@check_slot (model prog w) _ _ s "object.__setattr__" "object" "__setattr__" (.ref x) [.str name tk, v] [] _ SF.kind SF.split sub (SF.args (.ref x) (.str name tk) v) ?_)
  obtain ⟨attr, ha, hr⟩ := Option.bind_eq_some_iff.mp ht
  have hm : Looks (model prog w) s.heap (mroOf (.ref C)) cd.mro := (looks_clsIn X hc).andThen .now
  have L3 : Looks (model prog w) s.heap (storeTaker? attr) none := by
    cases attr with
    | none => exact .now
    | some a =>
      obtain ⟨b, hb, e⟩ := Option.map_eq_some_iff.mp hr
      refine (looks_takesIn X hb).andThen ?_
      cases b
      · exact .now
      · cases e
  rw [osa_eq, refuse_eq]
  refine wpAny_bind (wpAny_bind (I.type.here (wpAny_bind (hm.here ?_))))
  rw [hmro, refuseLoop_ref, refuseLoop_ref, PySem.F.store_Exception.passes]
  refine wpAny_pure (wpAny_bind (I.type.here (wpAny_bind ((looks_findIn X ha).here (wpAny_bind (L3.here ?_))))))
  exact h _

theorem sod_none {od : Data} {osl : Array (Option Value)} {cd : ClassData} {name : Str} {tk : Tok} {v : Value} {b : Bool} {Q : PySem.Fin → Shared → Prop} {E : Value → Shared → Prop} (X : K.In s.heap) (hc : clsIn K C = some cd) (hdict : cd.hasDict = true) (hnc : ∀ c, od ≠ .cls c)
    (hx : s.heap.get? x = some ⟨.ref C, none, od, osl⟩)
    (h : ∀ dx h' tk', s.heap.get? dx = none → h'.get? x = some ⟨.ref C, some dx, od, osl⟩ → h'.Ns1 dx (fun y => if y = name then some v else none) → (∀ b o, b ≠ x → s.heap.get? b = some o → h'.get? b = some o) → Q (.done (.ret .none)) { s with heap := h', toks := tk' }) :
    wpAny (model prog w) A (storeInOwnDict (.ref x) (.ref C) (.str name tk) name v b) Q E s := by
  refine wpAny_bind (wpAny_pure (wpAny_bind (wpAny_bind (wpAny_loadPart hx (wpAny_bind ((looks_clsIn X hc).here ?_))))))
  rw [hdict]
  rw [if_neg (by decide)]
  dsimp only
  rw [if_neg (by simp [typeHasDict])]
  split
  · exact absurd rfl (hnc _)
  · have hx₁ : (s.heap.push { cls := .type "dict", data := .dict #[] }).get? x = some ⟨.ref C, none, od, osl⟩ := Heap.get?_push_of_some _ hx
    have hxs : x ≠ s.heap.objs.size := Nat.ne_of_lt (Heap.lt_size hx)
    refine wpAny_bind (wpAny_alloc' ?_)
    refine wpAny_bind (wpAny_update' hx₁ ?_)
    refine wpAny_pure ?_
    have hgd : ((s.heap.push { cls := .type "dict", data := .dict #[] }).update x fun o => { cls := o.cls, dict := some s.heap.objs.size, data := o.data, slots := o.slots }).get? s.heap.objs.size
        = some { cls := .type "dict", data := .dict #[] } :=
      (Heap.get?_update_ne _ _ _ _ hxs.symm).trans (Heap.get?_push_at rfl rfl)
    have hnd : ((s.heap.push { cls := .type "dict", data := .dict #[] }).update x fun o => { cls := o.cls, dict := some s.heap.objs.size, data := o.data, slots := o.slots }).Ns s.heap.objs.size (fun _ => none) :=
      ⟨_, #[], _, hgd, rfl, fun e he => absurd he (by simp), fun _ => rfl⟩
    show wpAny _ _ (storeInDict s.heap.objs.size (.str name tk) name v) _ _ _
    unfold storeInDict newKeyGuard
    refine wpAny_bind (wpAny_pure (wpAny_bind (wpAny_nsSet1 (Heap.Ns1.of_empty hnd) fun h' hn' hs => ?_)))
    obtain ⟨oD, esD, epD, hoD, hdD, hcD⟩ := hn'.count (Within.cons name v Within.nil)
    refine wpAny_bind (wpAny_lookBehind hoD (by rw [hdD]; exact pastItsLine_dict (Nat.le_trans hcD (by rw [List.length_cons, List.length_nil, sizeLine_eq]; omega))) ?_)
    refine wpAny_pure (h s.heap.objs.size h' _ (Heap.get?_none_of_le (Nat.le_refl _)) ?_ hn' fun b ob hbx hb => ?_)
    · refine (hs.2 x hxs).trans (Heap.get?_update_self _ hx₁ ?_)
      have hfr := (Heap.get?_some_iff.mp hx).2
      cases od <;> first | rfl | exact hfr
    · exact (hs.2 b (Nat.ne_of_lt (Heap.lt_size hb))).trans ((Heap.get?_update_ne _ _ _ _ hbx).trans (Heap.get?_push_of_some _ hb))
theorem sod_some {od : Data} {osl : Array (Option Value)} {cd : ClassData} {name : Str} {tk : Tok} {v : Value} {b : Bool} {dx : Addr} {mA : Str → Option Value} {ns : List Str} {Q : PySem.Fin → Shared → Prop} {E : Value → Shared → Prop} (X : K.In s.heap) (hc : clsIn K C = some cd) (hdict : cd.hasDict = true)
    (hx : s.heap.get? x = some ⟨.ref C, some dx, od, osl⟩) (hns : s.heap.Ns1 dx mA) (hw : Within mA ns) (hsz : ns.length ≤ 100)
    (h : ∀ h' tk', h'.Ns1 dx (fun y => if y = name then some v else mA y) → (∀ b o, b ≠ dx → s.heap.get? b = some o → h'.get? b = some o) → Q (.done (.ret .none)) { s with heap := h', toks := tk' }) :
    wpAny (model prog w) A (storeInOwnDict (.ref x) (.ref C) (.str name tk) name v b) Q E s := by
  refine wpAny_bind (wpAny_pure (wpAny_bind (wpAny_bind (wpAny_loadPart hx (wpAny_bind ((looks_clsIn X hc).here ?_))))))
  rw [hdict]
  rw [if_neg (by decide)]
  dsimp only
  refine wpAny_pure ?_
  show wpAny _ _ (storeInDict dx (.str name tk) name v) _ _ _
  unfold storeInDict newKeyGuard
  refine wpAny_bind (wpAny_pure (wpAny_bind (wpAny_nsSet1 hns fun h' hn' hs => ?_)))
  obtain ⟨oD, esD, epD, hoD, hdD, hcD⟩ := hn'.count (Within.cons name v hw)
  refine wpAny_bind (wpAny_lookBehind hoD (by rw [hdD]; exact pastItsLine_dict (Nat.le_trans hcD (by rw [List.length_cons, sizeLine_eq]; omega))) ?_)
  exact wpAny_pure (h h' _ hn' fun b ob hb e => (hs.2 b hb).trans e)
end
section
variable {w : World} {A : Around} {E : Value → Shared → Prop} {s : Shared} {h₀ : Heap} {L x : Addr} {mm : Str → Option Value} {rest : List (Addr × Obj)} {D : Data}
/-- an exception's object: its class is OutOfDomain -/
abbrev excObj (d : Option Addr) (D : Data) : Obj := ⟨.ref 70, d, D, #[]⟩
/-- the object is a dict that says mA, wherever it lies -/
def DictIs (od : Obj) (mA : Str → Option Value) : Prop := ∃ es ep, od.data = .dict es ep ∧ StrKeys es ∧ UniqKeys es ∧ ∀ name, nsFind es name = mA name
theorem exc_set1 {name : Str} {v : Value} {Q : Unit → Shared → Prop} {vs : Array Value} (F : Fr h₀ L s.heap mm) (X₀ : (hd.heap_39 w.params).In h₀) (N : News h₀ L s.heap ((x, excObj none (.fields vs)) :: rest)) (hne : ∀ p ∈ rest, p.1 ≠ x)
    (ht : takerIn (hd.heap_39 w.params) 70 name = some none)
    (h : ∀ dx od h' tk', Fr h₀ L h' mm → News h₀ L h' ((x, excObj (some dx) (.fields vs)) :: (dx, od) :: rest) → DictIs od (fun y => if y = name then some v else none) → dx ≠ x → Q () { s with heap := h', toks := tk' }) :
    wpAny (model Pg w) A (setAttr (.ref x) name v) Q E s := by
  have X := Frag.In.keeps X₀ F.keep
  have hx := N _ (.head _)
  have I : InstAt s.heap x (excObj none (.fields vs)) 70 none := ⟨hx.1, rfl, rfl, trivial⟩
  refine set_plain X I (by kernel_rfl) ?_
  refine osa_openE (s := { s with toks := s.toks + 1 }) (S := 31) (cd := _) X I rfl rfl (by kernel_rfl) ht fun b => ?_
  refine sod_none (s := { s with toks := s.toks + 1 }) X rfl rfl (fun c q => by cases q) hx.1 fun dx h' tk' hn hx' hns hk => ?_
  obtain ⟨od, es, ep, hod, hdd, k1, k2, k3⟩ := hns
  have hLx : L ≠ x := Ne.symm hx.2.1
  have hdL : dx ≠ L := fun q => by obtain ⟨o, _, _, e, _⟩ := F.ns; rw [show dx = L from q] at hn; rw [show s.heap.get? L = _ from e] at hn; cases hn
  have hd0 : h₀.get? dx = none := by
    cases q : h₀.get? dx with
    | none => rfl
    | some o => have := F.keep _ _ q; rw [show s.heap.get? dx = none from hn] at this; cases this
  refine h dx od h' tk' ⟨?_, fun b o e => hk b o (fun q => by rw [q, hx.2.2] at e; cases e) (F.keep b o e), F.above⟩ (fun p hp => ?_) ⟨es, ep, hdd, k1, k2, k3⟩ ?_
  · obtain ⟨o, es, ep, e, r⟩ := F.ns; exact ⟨o, es, ep, hk L o hLx e, r⟩
  · rcases List.mem_cons.mp hp with rfl | hp
    · exact ⟨hx', hx.2⟩
    · rcases List.mem_cons.mp hp with rfl | hp
      · exact ⟨hod, hdL, hd0⟩
      · have n := N p (.tail _ hp); exact ⟨hk _ _ (hne p hp) n.1, n.2⟩
  · rintro rfl; rw [show s.heap.get? dx = _ from hx.1] at hn; cases hn
theorem exc_set2 {name : Str} {v : Value} {Q : Unit → Shared → Prop} {vs : Array Value} {dx : Addr} {od : Obj} {mA : Str → Option Value} {ns : List Str} (F : Fr h₀ L s.heap mm) (X₀ : (hd.heap_39 w.params).In h₀) (N : News h₀ L s.heap ((x, excObj (some dx) (.fields vs)) :: (dx, od) :: rest)) (hne : ∀ p ∈ rest, p.1 ≠ dx) (hdx : dx ≠ x) (DI : DictIs od mA) (hw : Within mA ns) (hsz : ns.length ≤ 100)
    (ht : takerIn (hd.heap_39 w.params) 70 name = some none)
    (h : ∀ od' h' tk', Fr h₀ L h' mm → News h₀ L h' ((x, excObj (some dx) (.fields vs)) :: (dx, od') :: rest) → DictIs od' (fun y => if y = name then some v else mA y) → Q () { s with heap := h', toks := tk' }) :
    wpAny (model Pg w) A (setAttr (.ref x) name v) Q E s := by
  have X := Frag.In.keeps X₀ F.keep
  have hx := N _ (.head _)
  have hd := N _ (.tail _ (.head _))
  have I : InstAt s.heap x (excObj (some dx) (.fields vs)) 70 (some od) := ⟨hx.1, rfl, rfl, hd.1⟩
  refine set_plain X I (by kernel_rfl) ?_
  refine osa_openE (s := { s with toks := s.toks + 1 }) (S := 31) (cd := _) X I rfl rfl (by kernel_rfl) ht fun b => ?_
  obtain ⟨es0, ep0, d1, d2, d3, d4⟩ := DI
  refine sod_some (s := { s with toks := s.toks + 1 }) (ns := ns) X rfl rfl hx.1 ⟨od, es0, ep0, hd.1, d1, d2, d3, d4⟩ hw hsz fun h' tk' hns hk => ?_
  obtain ⟨od', es, ep, hod, hdd, k1, k2, k3⟩ := hns
  refine h od' h' tk' ⟨?_, fun b o e => hk b o (fun q => by rw [q, hd.2.2] at e; cases e) (F.keep b o e), F.above⟩ (fun p hp => ?_) ⟨es, ep, hdd, k1, k2, k3⟩
  · obtain ⟨o, es, ep, e, r⟩ := F.ns; exact ⟨o, es, ep, hk L o (Ne.symm hd.2.1) e, r⟩
  · rcases List.mem_cons.mp hp with rfl | hp
    · exact ⟨hk _ _ (Ne.symm hdx) hx.1, hx.2⟩
    · rcases List.mem_cons.mp hp with rfl | hp
      · exact ⟨hod, hd.2⟩
      · have n := N p (.tail _ (.tail _ hp)); exact ⟨hk _ _ (hne p hp) n.1, n.2⟩
end
end Mine
end
noncomputable section
open PySem PySem.Calls
open Sem (wp)
set_option Elab.async false
set_option maxRecDepth 100000
set_option maxHeartbeats 8000000
namespace Mine
section
variable {M : Model} {prog : Program} {w : World} {A : Around} {R : Result → Shared → Prop} {E : Value → Shared → Prop} {h : Heap} {g : Array GenState} {d : Drawn} {t : Nat} {os : OsState}
variable {nm q : Str} {C N : Addr} {bs bm : List Value} {hdct : Bool} {sn : List Str} {sub : List Value} {ab : Bool} {col : Option Bool} {dd : Option Addr} {k0 k1 k2 k3 k5 : Option Value} {B newId initId : String} {bmN : List Value}
/-- a list of classes that may end in a built-in exception's -/
structure TailOk (B : String) (bm : List Value) : Prop where
  hasB : bm.contains (.type B) = true
  noAttr : bm.contains (.type "AttributeError") = false
  noName : bm.contains (.type "NameError") = false
theorem check_newE (F : ExcBaseFacts B newId initId bmN) (T : TailOk B bm) {rest : List Value} {Q : Unit → Shared → Prop} (hC : h.get? C = some (excClassObj nm q C N bs bm hdct sn sub ab col dd k0 k1 k2 k3 k5 newId))
    (hq : Q () ⟨h, g, d, t, os⟩) : wpAny M A (checkBuiltinCall newId ⟨.ref C :: rest, []⟩) Q E ⟨h, g, d, t, os⟩ := by
  have hcont : (Value.ref C :: bm).contains (.type B) = true := by rw [List.contains_cons, T.hasB, Bool.or_true]
  have hstar := F.noStar
  simp only [checkBuiltinCall, F.newKind, F.newSplit, F.newRow]
  repeat (first | refine wpAny_loadPart_at hC ?_ | (refine wpAny_isSubtype_exc hC ?_; rw [hcont]) | refine wpAny_staticBase_exc hC ?_ | refine wpAny_madeBy_exc hC ?_ | simp only [bne_self_eq_false, Bool.false_eq_true, if_false] | wp_step)
  exact hq
theorem code_newE (F : ExcBaseFacts B newId initId bmN) (T : TailOk B bm) {rest : List Value} (hC : h.get? C = some (excClassObj nm q C N bs bm hdct sn sub ab col dd k0 k1 k2 k3 k5 newId))
    (hq : R (.ok (.ret (.ref (h.objs.size + 1)))) ⟨(h.push { cls := .type "tuple", data := .seq rest.toArray }).push
      { cls := .ref C, data := .fields #[.ref h.objs.size, .none, .none, .none, .bool false, .none] }, g, d, t, os⟩) (hrest : rest.length ≤ sizeLine) :
    codeAny (model prog w) A (.builtin newId ⟨.ref C :: rest, []⟩) R ⟨h, g, d, t, os⟩ := by
  have hends := F.ends
  have hcB : (Value.ref C :: bm).contains (.type B) = true := by rw [List.contains_cons, T.hasB, Bool.or_true]
  have hcA : (Value.ref C :: bm).contains (.type "AttributeError") = false := by rw [List.contains_cons, T.noAttr]; rfl
  have hcN : (Value.ref C :: bm).contains (.type "NameError") = false := by rw [List.contains_cons, T.noName]; rfl
  refine codeAny_builtinAt F.entry ?_
  unfold Builtin.«BaseException.__new__»
  refine wpAt_bind ?_
  show wpAt _ _ _ (stack >>= _) _ _ _
  refine wpAt_bind (wpAt_stack fun p below => wpAt_of_wpAny ?_)
  wp_walk
  refine wpAt_of_wpAny ?_
  rw [F.owner]
  repeat (first | with_reducible refine wpAny_madeHere_exc F.canon hC ?_ | with_reducible refine wpAny_loadPart_at hC ?_ | (with_reducible refine wpAny_isSubtype_exc hC ?_; first | rw [hcB] | rw [hcA] | rw [hcN]) | wp_step)
  show R _ _
  rw [Heap.size_push]
  exact hq
theorem type_callE (F : ExcBaseFacts B newId initId bmN) (T : TailOk B bm) {rest : List Value} {fI : Addr} {oI : Obj} {Q : PySem.Fin → Shared → Prop}
    (hC : h.get? C = some (excClassObj nm q C N bs bm hdct sn sub ab col dd k0 k1 k2 k3 k5 newId)) (LL : W.Looks (model prog w) h (typeLookup (.ref C) "__init__") (some (.ref fI)))
    (hfI : h.get? fI = some oI) (hfc : oI.cls = .type "function")
    (hq : ∀ h' e, Heap.MadeExcOf h h' e (.ref C) rest →
      wpAny (model prog w) A (call (.ref fI) (.ref e :: rest)) (fun r s' => r = .none ∧ Q (.done (.ret (.ref e))) s') E ⟨h', g, d, t, os⟩) (hrest : rest.length ≤ sizeLine) :
    wpAny (model prog w) A (Builtin.«type.__call__» ⟨.ref C :: rest, []⟩) Q E ⟨h, g, d, t, os⟩ := by
  repeat (first | with_reducible refine wpAny_loadPart_at hC ?_ | with_reducible refine wpAny_madeBy_exc hC ?_ | wp_step)
  refine codeAny_call_builtin_code (Code.quiet_builtin _ F.quiet) (check_newE F T hC ?_)
  refine code_newE F T hC ?_ hrest
  show wpAny _ _ _ _ _ _
  have hC₁ := Heap.get?_push_of_some { cls := .ref C, data := .fields #[.ref h.objs.size, .none, .none, .none, .bool false, .none] }
    (Heap.get?_push_of_some { cls := .type "tuple", data := .seq rest.toArray } hC)
  have hfI₁ := Heap.get?_push_of_some { cls := .ref C, data := .fields #[.ref h.objs.size, .none, .none, .none, .bool false, .none] }
    (Heap.get?_push_of_some { cls := .type "tuple", data := .seq rest.toArray } hfI)
  have hget : ((h.push { cls := .type "tuple", data := .seq rest.toArray }).push
      { cls := .ref C, data := .fields #[.ref h.objs.size, .none, .none, .none, .bool false, .none] }).get? (h.objs.size + 1) = some
      { cls := .ref C, data := .fields #[.ref h.objs.size, .none, .none, .none, .bool false, .none] } := by heap_get
  have hcC : (Value.ref C :: bm).contains (.ref C) = true := by simp
  unfold isInstance
  repeat (first | with_reducible refine wpAny_loadPart_at hget ?_ | (with_reducible refine wpAny_isSubtype_exc hC₁ ?_; rw [hcC]) | wp_step)
  show wpAny _ _ (typeLookup (.ref C) _) _ _ _
  refine (LL.keeps (fun b o e => Heap.get?_push_of_some _ (Heap.get?_push_of_some _ e))).here ?_
  refine wpAny_holding (wpAny_bind ?_)
  unfold bindSpecial
  refine wpAny_bind (wpAny_typeOf (T := "function") ⟨_, hfI₁, hfc⟩ ?_)
  rw [if_pos (by decide)]
  refine wpAny_pure (wpAny_bind (wpAny_mono (hq _ (h.objs.size + 1) ⟨fun b o hb => Heap.get?_push_of_some _ (Heap.get?_push_of_some _ hb), Heap.get?_none_of_le (Nat.le_succ _), h.objs.size, hget, Heap.get?_none_of_le (Nat.le_refl _), ?_⟩) (fun r s' hr => ?_) fun _ _ x => x))
  · exact Heap.get?_push_of_some _ (Heap.get?_push_at rfl rfl)
  · obtain ⟨rfl, hQ⟩ := hr
    wp_walk
    exact hQ
theorem exc_call (F : ExcBaseFacts B newId initId bmN) (T : TailOk B bm) {rest : List Value} {fI : Addr} {oI : Obj} {Q : Value → Shared → Prop}
    (hC : h.get? C = some (excClassObj nm q C N bs bm hdct sn sub ab col dd k0 k1 k2 k3 k5 newId)) (LL : W.Looks (model prog w) h (typeLookup (.ref C) "__init__") (some (.ref fI)))
    (hfI : h.get? fI = some oI) (hfc : oI.cls = .type "function")
    (hq : ∀ h' e, Heap.MadeExcOf h h' e (.ref C) rest →
      wpAny (model prog w) (A.under (.builtin "type.__call__" ⟨.ref C :: rest, []⟩)) (call (.ref fI) (.ref e :: rest)) (fun r s' => r = .none ∧ Q (.ref e) s') E ⟨h', g, d, t, os⟩) (hrest : rest.length ≤ sizeLine) :
    wpAny (model prog w) A (call (.ref C) rest) Q E ⟨h, g, d, t, os⟩ := by
  have f1 := tc_lookup
  have f2 := tc_bind (.ref C)
  have hT : (⟨h, g, d, t, os⟩ : Shared).TypeIs (.ref C) "type" := ⟨_, hC, rfl⟩
  refine wpAny_call (codeAny_of_tree ?_)
  show wpAny _ _ (callAny (.ref C) _) _ _ _
  repeat (any_goals (first | assumption | with_reducible refine wpAny_loadPart_at hC ?_ | wp_step))
  refine ⟨rfl, ?_⟩
  refine codeAny_call_builtin_at (Code.quiet_builtin _ (by decide +kernel)) entry_typeCall (wpAny_check_type_call_sub hC (type_callE (hrest := hrest) F T hC LL hfI hfc fun h' e hm => ?_))
  exact hq h' e hm
end
end Mine
end
theorem Mine.offE2 : True := by
  w_top off
  trivial
noncomputable section
open PySem PySem.W PyProof.Rows PySem.Calls
set_option Elab.async false
set_option maxRecDepth 100000
set_option maxHeartbeats 8000000
set_option linter.all false
namespace Mine
theorem filledE2 : PySem.Challenge.rw_pc0352_01 = PySem.Challenge.rw_pc0352_01 ∧ hd.heap_39 = hd.heap_39 := by
  k_fill
  exact ⟨rfl, rfl⟩
local macro_rules | `(tactic| walk_at "mine enter") => `(tactic| (
  (case hd => decide)
  (case ho => k_is)
  (case hcd => k_is)
  (case hb => exact BindsTo.of_eq rfl)
  (case hl => exact locs rfl)
  (case c1 => exact rfl)
  (case c2 => exact rfl)
  (case c3 => exact rfl)
  (case c4 => decide)
  intro L' h₁ F N
  (try dsimp only)
  k_fold))
local macro_rules | `(tactic| walk_at "setAttr ref") => `(tactic| (k_here; k_dflt (refine' exc_set1 ?F ?X ?N ?hne ?ht ?_; (case F => k_asm); (case X => k_asm); (case N => k_asm); (case hne => (intro p hp; simp at hp)); (case ht => kernel_rfl); k_whole; intro dx' od' h' tk' F' N' DI' ne')))
local macro_rules | `(tactic| walk_at "setAttr ref") => `(tactic| (k_here; k_dflt (refine' exc_set2 ?F ?X ?N ?hne ?hdx ?DI ?hw ?hsz ?ht ?_; (case F => k_asm); (case X => k_asm); (case N => k_asm); (case hne => (intro p hp; simp at hp)); (case hdx => assumption); (case DI => assumption); (case hw => within_ways); (case hsz => decide); (case ht => kernel_rfl); k_whole; intro od' h' tk' F' N' DI')))
/-- SchemeError.__init__ on a fresh exception x -/
theorem c_scheme_init {w : World} {s : Shared} {x : Addr} {vs : Array Value} {word irr : Value} {A : Around} {Q E : Value → Shared → Prop} (R : Room A 885) (B : Base w (hideAll s.heap [x])) (hx : s.heap.get? x = some (excObj none (.fields vs)))
    (h : ∀ dx od h' tk, (hideAll s.heap [x]).StaysIn h' → h'.get? x = some (excObj (some dx) (.fields vs)) → h'.get? dx = some od → (hideAll s.heap [x]).get? dx = none → dx ≠ x →
      DictIs od (fun y => if y = "irritants" then some irr else if y = "word" then some word else none) → Q .none { s with heap := h', toks := tk }) :
    wpAny (model Pg w) A (call (.ref 28) [.ref x, word, irr]) Q E s := by
  refine wpAny_call ?_
  have st : (hideAll s.heap [x]).StaysIn s.heap := fun b o e => of_hideAll _ e
  have X := B.K
  obtain ⟨loose, mean, mg, mb, T⟩ := B.T
  refine' enterC (d := 885) (h₀ := hideAll s.heap [x]) (news := [(x, excObj none (.fields vs))]) (binds := [("self", .ref x), ("word", word), ("irritants", irr)]) R ?hd (Frag.In.keeps X st) (T.keeps st) st ?hsz ?hN ?ho ?hcd ?hb ?hl ?_ ?c1 ?c2 ?c3 ?c4
  case hsz => exact Nat.le_of_eq (hideAll_size _ _)
  case hN =>
    intro p hp
    rw [List.mem_singleton.mp hp]
    exact ⟨hx, hideAll_none _ (.head _)⟩
  walk_at "mine enter"
  k_steps
  rename Fr _ _ _ _ => F9
  rename News _ _ _ _ => N9
  rename DictIs _ _ => D9
  rename _ ≠ x => ne9
  exact h _ _ _ _ F9.keep (N9 _ (.head _)).1 (N9 _ (.tail _ (.head _))).1 (N9 _ (.tail _ (.head _))).2.2 ne9 D9
theorem hide_at {h : Heap} {x b : Addr} (n : b ≠ x) {r : Option Obj} (e : (hideAll h [x]).get? b = r) : h.get? b = r := by
  cases q : h.get? b with
  | none =>
    cases r with
    | none => rfl
    | some o => have := of_hideAll _ e; rw [q] at this; cases this
  | some o => rw [hideAll_get [x] q (fun m => n (List.mem_singleton.mp m))] at e; exact e
section
variable {w : World} {s : Shared} {x : Addr} {vs : Array Value} {word irr : Value} {A : Around} {Q E : Value → Shared → Prop} {h₀ : Heap} {L : Addr} {mm : Str → Option Value} {news : List (Addr × Obj)} {loose : List Str} {mean : ExcName → Option Value} {mg mb : Str → Option Value}
theorem useInit (R : Room A 885) (F : Fr h₀ L s.heap mm) (X : (hd.heap_39 w.params).In h₀) (T : Top topProg loose mean mg mb h₀) (N : News h₀ L s.heap news) (hx : (x, excObj none (.fields vs)) ∈ news)
    (h : ∀ dx od h' tk, Fr h₀ L h' mm → News h₀ L h' [(x, excObj (some dx) (.fields vs)), (dx, od)] → dx ≠ x → DictIs od (fun y => if y = "irritants" then some irr else if y = "word" then some word else none) → Q .none { s with heap := h', toks := tk }) :
    wpAny (model Pg w) A (call (.ref 28) [.ref x, word, irr]) Q E s := by
  have n := N _ hx
  have st : h₀.StaysIn (hideAll s.heap [x]) := fun b o e => hideAll_get _ (F.keep b o e) (fun m => by rw [List.mem_singleton.mp m, n.2.2] at e; cases e)
  refine c_scheme_init R ⟨Frag.In.keeps X st, _, _, _, _, T.keeps st⟩ n.1 fun dx od h' tk k hx' hd' hn ne D => ?_
  have hL : ∀ b o, b ≠ x → s.heap.get? b = some o → h'.get? b = some o := fun b o nb e => k b o (hideAll_get _ e (fun m => nb (List.mem_singleton.mp m)))
  have hn' : s.heap.get? dx = none := hide_at ne hn
  have hd0 : h₀.get? dx = none := by
    cases q : h₀.get? dx with
    | none => rfl
    | some o => have := F.keep _ _ q; rw [hn'] at this; cases this
  refine h dx od h' tk ⟨?_, fun b o e => hL b o (fun q => by rw [q, n.2.2] at e; cases e) (F.keep b o e), F.above⟩ (fun p hp => ?_) ne D
  · obtain ⟨o, es, ep, e, r⟩ := F.ns; exact ⟨o, es, ep, hL L o (Ne.symm n.2.1) e, r⟩
  · rcases List.mem_cons.mp hp with rfl | hp
    · exact ⟨hx', n.2⟩
    · rw [List.mem_singleton.mp hp]
      have dL : dx ≠ L := fun q => by
        obtain ⟨o, _, _, e, _⟩ := F.ns
        rw [show dx = L from q, e] at hn'; cases hn'
      exact ⟨hd', dL, hd0⟩
end
local macro_rules | `(tactic| walk_at "call ref") => `(tactic| (k_here; (with_reducible show wpAny _ _ (call (Value.ref 28) _) _ _ _); k_dflt (refine' useInit ?R ?F ?X ?T ?N ?hx ?_; (case F => k_asm); (case X => k_asm); (case T => k_asm); (case N => k_asm); (case hx => k_mem); (case R => exact ⟨rfl, Nat.le_of_ble_eq_true rfl, Nat.le_of_ble_eq_true rfl⟩)); intro dx' od' h' tk' F' N' ne' DI'; (try k_sweep); (try dsimp only)))
abbrev NewExcO (h : Heap) : Heap → Value → Prop := fun h' v => ∃ e t dx, v = .ref e ∧ h.get? e = none ∧ h'.get? e = some (excObj (some dx) (.fields #[.ref t, .none, .none, .none, .bool false, .none]))
theorem c_out_of_domain {w : World} {s : Shared} {nm : Str} {tn : Tok} (B : Base w s.heap) : Says w 880 (.ref 70) [.str nm tn] s (NewExcO s.heap) := by
  intro A Q E R h
  have X := B.K
  obtain ⟨loose, mean, mg, mb, T⟩ := B.T
  obtain ⟨hh, g, dd, tt, os⟩ := s
  refine wp_weak R ?_
  refine exc_call F.excBase_Exception ⟨by decide, by decide, by decide⟩ (X 70 _ rfl) (looks_findIn X (by kernel_rfl)) (X 67 _ rfl) rfl (fun h' e ME => ?_) (by rw [sizeLine_eq]; show 1 ≤ _; decide)
  refine wpAny_call ?_
  obtain ⟨t, he, ht, ht'⟩ := ME.there
  have st : (hideAll h' [e]).StaysIn h' := fun b o e => of_hideAll _ e
  have k : hh.StaysIn (hideAll h' [e]) := fun b o q => hideAll_get _ (ME.keeps b o q) (fun m => by rw [List.mem_singleton.mp m, ME.new] at q; cases q)
  have X2 := Frag.In.keeps X k
  have T2 := T.keeps k
  refine' enterC (d := 882) (h₀ := hideAll h' [e]) (news := [(e, excObj none (.fields #[.ref t, .none, .none, .none, .bool false, .none]))]) (binds := [("self", .ref e), ("name", .str nm tn)]) ⟨rfl, Nat.le_of_ble_eq_true rfl, Nat.le_of_ble_eq_true rfl⟩ ?hd (Frag.In.keeps X2 st) (T2.keeps st) st (Nat.le_of_eq (hideAll_size _ _)) ?hN ?ho ?hcd ?hb ?hl ?_ ?c1 ?c2 ?c3 ?c4
  case hN =>
    intro p hp
    rw [List.mem_singleton.mp hp]
    exact ⟨he, hideAll_none _ (.head _)⟩
  walk_at "mine enter"
  clear X T B
  k_steps
  rename Fr _ _ _ _ => F9
  rename News _ _ _ _ => N9
  exact h _ _ _ (fun b o q => F9.keep _ _ (k _ _ q)) ⟨e, t, _, rfl, ME.new, (N9 _ (.head _)).1⟩
theorem useExc {w : World} {A : Around} {E Q : Value → Shared → Prop} {s : Shared} {d : Nat} {f : Value} {vs : List Value} {h₀ : Heap} {L : Addr} {mm : Str → Option Value} {news : List (Addr × Obj)} (C : Says w d f vs s (NewExcO s.heap)) (R : Room A d) (F : Fr h₀ L s.heap mm) (N : News h₀ L s.heap news)
    (h : ∀ e t dx h' tk', Fr h₀ L h' mm → News h₀ L h' ((e, excObj (some dx) (.fields #[.ref t, .none, .none, .none, .bool false, .none])) :: news) → s.heap.StaysIn h' → s.heap.get? e = none → Q (.ref e) { s with heap := h', toks := tk' }) : wpAny (model Pg w) A (call f vs) Q E s :=
  C A Q E R fun v h' tk k ⟨e, t, dx, ev, hn, ho⟩ => ev ▸ h e t dx h' tk (after F k) (afterN1 F N k hn ho) k hn
end Mine
end
noncomputable section
open PySem PySem.Calls
open Sem (wp)
set_option Elab.async false
set_option maxRecDepth 100000
set_option maxHeartbeats 8000000
set_option linter.all false
namespace Mine
section
variable {M : Model} {A : Around} {E : Value → Shared → Prop} {env : Env} {s : Shared}
variable {nm q : Str} {C N : Addr} {bs bm : List Value} {hdct : Bool} {sn : List Str} {sub : List Value} {ab : Bool} {col : Option Bool} {dd : Option Addr} {k0 k1 k2 k3 k5 : Option Value} {newId : String}
theorem raiseStmt_E {x : Sem Value} {Q : Flow → Shared → Prop} (hbase : bm.contains (.type "BaseException") = true) (hh : A.handled = none)
    (h : wpAny M A x (fun v s₁ => ∃ e d t, v = .ref e ∧ s₁.heap.get? C = some (excClassObj nm q C N bs bm hdct sn sub ab col dd k0 k1 k2 k3 k5 newId) ∧
      s₁.heap.get? e = some { cls := .ref C, dict := d, data := .fields #[.ref t, .none, .none, .none, .bool false, .none] } ∧ E (.ref e) s₁) E s) :
    wpAny M A (raiseStmt env (some x) none) Q E s := by
  have hcB : (Value.ref C :: bm).contains (.type "BaseException") = true := by rw [List.contains_cons, hbase, Bool.or_true]
  unfold raiseStmt
  refine wpAny_bind (wpAny_mono h (fun v s₁ h₁ => ?_) fun _ _ x => x)
  obtain ⟨e, d, t, rfl, hC, he, hE⟩ := h₁
  obtain ⟨hp, g, dr, tk, os⟩ := s₁
  repeat (first | with_reducible refine wpAny_loadPart_at he ?_ | with_reducible refine wpAny_loadPart_at hC ?_ | (with_reducible refine wpAny_isSubtype_exc hC ?_; rw [hcB]) | wp_step)
  exact wpAny_raiseNew_none hh hE
theorem exec_raiseE {x : Expr} {pos : Pos} {Q : Flow → Shared → Prop} (hbase : bm.contains (.type "BaseException") = true) (hh : A.handled = none)
    (h : wpAny M A (eval x env) (fun v s₁ => ∃ e d t, v = .ref e ∧ s₁.heap.get? C = some (excClassObj nm q C N bs bm hdct sn sub ab col dd k0 k1 k2 k3 k5 newId) ∧
      s₁.heap.get? e = some { cls := .ref C, dict := d, data := .fields #[.ref t, .none, .none, .none, .bool false, .none] } ∧ E (.ref e) s₁) E s) :
    wpAny M A (exec (.Raise (some x) none pos) env) Q E s := by
  rw [arm_exec_Raise]
  first
    | exact wpAny_bind (wpAny_standAt (raiseStmt_E hbase hh (wpAny_bind (wpAny_mono h (fun v s₃ h₃ => wpAny_bind (wpAny_standAt (wpAny_pure h₃))) fun _ _ x => x))))
    | (simp only [evalOpt, Option.map]; exact wpAny_bind (wpAny_standAt (raiseStmt_E hbase hh (wpAny_bind (wpAny_mono h (fun v s₃ h₃ => wpAny_bind (wpAny_standAt (wpAny_pure h₃))) fun _ _ x => x)))))
end
end Mine
end
noncomputable section
open PySem PySem.W PyProof.Rows PySem.Calls
set_option Elab.async false
set_option maxRecDepth 100000
set_option maxHeartbeats 8000000
set_option linter.all false
namespace Mine
/-- the surroundings with the frames told -/
abbrev Af (d : Nat) (outer : List Env) : Around := { handled := none, depth := d, frames := some outer, guards := none, units := 10 * d }
theorem ctx_weakF {Γ : Ctx} {A : Around} {d : Nat} {outer : List Env} (R : Room A d) (hf : A.frames = some outer) (h : Γ.In A) : Γ.In (Af d outer) :=
  ⟨h.1.trans R.h, Nat.le_trans h.2.1 R.d, fun l e => h.2.2.1 l (hf.trans e), fun _ e => (nomatch e), Nat.le_trans h.2.2.2.2 R.u⟩
theorem wp_weakF {α : Type} {M : Model} {A : Around} {d : Nat} {outer : List Env} {t : Sem α} {Q : α → Shared → Prop} {E : Value → Shared → Prop} {s : Shared} (R : Room A d) (hf : A.frames = some outer) (h : wpAny M (Af d outer) t Q E s) : wpAny M A t Q E s :=
  fun Γ p hΓ => h Γ p (ctx_weakF R hf hΓ)
theorem cd_weakF {M : Model} {A : Around} {d : Nat} {outer : List Env} {c : Code} {R : Result → Shared → Prop} {s : Shared} (Rm : Room A d) (hf : A.frames = some outer) (h : codeAny M (Af d outer) c R s) : codeAny M A c R s :=
  fun Γ p hc hΓ => h Γ p hc ⟨hΓ.1.trans Rm.h, Nat.le_trans hΓ.2.1 Rm.d, fun l e => hΓ.2.2.1 l (hf.trans e), fun _ e => (nomatch e), Nat.le_trans hΓ.2.2.2.2 Rm.u⟩
/-- a base below which the outer frames do not stand -/
structure Sky (base : Heap) (outer : List Env) (h : Heap) : Prop where
  stays : base.StaysIn h
  frames : h.FunFrames base outer
theorem Sky.keeps {base h h' : Heap} {outer : List Env} (S : Sky base outer h) (k : h.StaysIn h') : Sky base outer h' :=
  ⟨fun b o e => k b o (S.stays b o e), S.frames.of_keeps fun b o e _ => ⟨o, k b o e, rfl⟩⟩
theorem Sky.push {base h h' : Heap} {outer : List Env} {env : Env} {L : Addr} {m : Str → Option Value} (S : Sky base outer h) (F : Fr h L h' m) (hb : base.objs.size ≤ h.objs.size) (hk : env.scope.kind ≠ .module) (hf : env.frame = some L) : Sky base (env :: outer) h' :=
  ⟨(S.keeps F.keep).stays, Heap.FunFrames.cons hk hf F.ns (Heap.get?_none_of_le (Nat.le_trans hb F.above)) (S.keeps F.keep).frames⟩
theorem upTo_of {h h' : Heap} (k : h.StaysIn h') : h.UpToSlots h' := fun b o e _ => ⟨o.slots, k b o e⟩
/-- a call that ends by OutOfDomain -/
def Raises (w : World) (d : Nat) (f : Value) (vs : List Value) (s : Shared) (base : Heap) (outer : List Env) : Prop :=
  ∀ (A : Around) (Q E : Value → Shared → Prop), Room A d → A.frames = some outer →
    (∀ e a0 h' tk, Heap.FlyingW base outer e (.ref 70) a0 h' → s.heap.UpToSlots h' → E (.ref e) { s with heap := h', toks := tk }) → wpAny (model Pg w) A (call f vs) Q E s
/-- the body's end: an exception that has come from below, or one that is new -/
def Gone (base : Heap) (l : List Env) (s : Shared) (v : Value) (s' : Shared) : Prop :=
  ∃ e, v = .ref e ∧ s' = { s with heap := s'.heap, toks := s'.toks } ∧
    ((∃ a0, Heap.FlyingW base l e (.ref 70) a0 s'.heap ∧ s.heap.UpToSlots s'.heap) ∨ (∃ d t, s.heap.StaysIn s'.heap ∧ Sky base l s'.heap ∧ base.get? e = none ∧ s'.heap.get? e = some (excObj d (.fields #[.ref t, .none, .none, .none, .bool false, .none]))))
section
variable {M : Model} {A : Around} {base : Heap} {outer : List Env} {env : Env} {L : Addr} {s s' : Shared} {v : Value}
theorem UpTo.trans {h₁ h₂ h₃ : Heap} (x : h₁.UpToSlots h₂) (y : h₂.UpToSlots h₃) : h₁.UpToSlots h₃ := Heap.UpToSlots.trans x y
theorem leave_gone {Q : Unit → Shared → Prop} {E : Value → Shared → Prop} (hfr : A.frames = some (env :: outer)) (hf : env.frame = some L) (x : Gone base (env :: outer) s v s')
    (h : ∀ e a0 h' tk, v = .ref e → Heap.FlyingW base outer e (.ref 70) a0 h' → s.heap.UpToSlots h' → Q () { s with heap := h', toks := tk }) : wpAny M A (leaving env v) Q E s' := by
  obtain ⟨e, rfl, hs, x⟩ := x
  rcases x with ⟨a0, fl, up⟩ | ⟨d, t, st, S, hn, he⟩
  · refine wpAny_leaves_onW hfr hf fl fun h' fl' up' => ?_
    rw [hs]
    exact h e a0 h' s'.toks rfl fl' (up.trans up')
  · refine wpAny_leaving_firstW (a0 := .ref t) hfr S.frames hf he S.stays hn rfl rfl rfl fun h' LW => ?_
    obtain ⟨k1, ⟨_, _, k2⟩, k3, k4⟩ := LW
    rw [hs]
    exact h e (.ref t) h' s'.toks rfl ⟨k1, hn, k2, k3⟩ ((upTo_of st).trans k4)
end
section
variable {w : World} {A : Around} {E Q : Value → Shared → Prop} {s : Shared} {base : Heap} {outer : List Env}
theorem enterR {d : Nat} {name qual : Str} {params : Arguments} {body : List Stmt} {scope : Scope} {dV kV doc pm cdv ct oc : Value} {an od : Option Addr} {osl : Array (Option Value)} {f : Addr} {vs : List Value} {binds : List (Str × Value)}
    (R : Room A d) (hfr : A.frames = some outer) (hroom : d < recursionLimit) (B : Base w s.heap) (S : Sky base outer s.heap) (hbs : base.objs.size ≤ s.heap.objs.size)
    (ho : (hd.heap_39 w.params).lookup f = some ⟨oc, od, .func (fnOf name qual params body scope dV kV doc pm an cdv ct), osl⟩) (hcd : codeIn (hd.heap_39 w.params) cdv qual = true)
    (hbind : BindsTo s (fnOf name qual params body scope dV kV doc pm an cdv ct) ⟨vs, []⟩ binds) (hloc : ∀ y ∈ binds, scope.names.lookup y.1 = some .local)
    (hE : ∀ e a0 h' tk, Heap.FlyingW base outer e (.ref 70) a0 h' → s.heap.UpToSlots h' → E (.ref e) { s with heap := h', toks := tk })
    (h : ∀ L' h₁, Fr s.heap L' h₁ (fun y => binds.reverse.lookup y) → News s.heap L' h₁ [] →
      wpAny (model Pg w) ((Af d outer).deeper (envOf qual scope L' f cdv)) (execs body (envOf qual scope L' f cdv))
        (fun _ _ => False) (Gone base (envOf qual scope L' f cdv :: outer) s)
        { s with heap := h₁, toks := s.toks + binds.length })
    (hco : scope.isCoroutine = false) (hgen : scope.isGenerator = false) (hk : scope.kind = .function)
    (hcell : ∀ x ∈ scope.names, x.2 ≠ .cell) : wpAny (model Pg w) A (call (.ref f) vs) Q E s := by
  obtain ⟨l, me, mg, mb, T⟩ := B.T
  refine wpAny_call (cd_weakF R hfr ?_)
  refine codeAny_call_def (fd := fnOf name qual params body scope dV kV doc pm an cdv ct) (body := body) (binds := binds) hroom (B.K _ _ ho) rfl T.nolimit (codeRec_of B.K hcd) rfl hbind hcell hloc (fun h₁ hns hk₁ => ?_) hco hgen hk
  refine wpAny_mono (h s.heap.objs.size h₁ ⟨hns, hk₁, Nat.le_refl _⟩ .nil) (fun _ _ x => x.elim) (fun v s' x => ?_)
  exact leave_gone rfl rfl x fun e a0 h' tk ev fl up => ev ▸ hE e a0 h' tk fl up
end
/-- what a raise asks of its value -/
def Rz (w : World) (E : Value → Shared → Prop) (v : Value) (s₁ : Shared) : Prop := ∃ e d t, v = .ref e ∧ (hd.heap_39 w.params).In s₁.heap ∧ s₁.heap.get? e = some (excObj d (.fields #[.ref t, .none, .none, .none, .bool false, .none])) ∧ E (.ref e) s₁
theorem exec_raiseK {M : Model} {A : Around} {E : Value → Shared → Prop} {env : Env} {s : Shared} {w : World} {x : PySem.Expr} {pos : Pos} {Q : Flow → Shared → Prop} (hh : A.handled = none)
    (h : wpAny M A (eval x env) (Rz w E) E s) :
    wpAny M A (exec (.Raise (some x) none pos) env) Q E s :=
  exec_raiseE rfl hh (wpAny_mono h (fun v s₁ ⟨e, d, t, ev, X, ho, hE⟩ => ⟨e, d, t, ev, X 70 _ rfl, ho, hE⟩) fun _ _ x => x)
theorem gone_new {w : World} {base : Heap} {outer : List Env} {env : Env} {L e t dx : Addr} {m : Str → Option Value} {news : List (Addr × Obj)} {s s' : Shared} (S : Sky base outer s.heap) (hbs : base.objs.size ≤ s.heap.objs.size) (hk : env.scope.kind ≠ .module) (hf : env.frame = some L) (F : Fr s.heap L s'.heap m) (X : (hd.heap_39 w.params).In s.heap)
    (N : News s.heap L s'.heap news) (hm : (e, excObj (some dx) (.fields #[.ref t, .none, .none, .none, .bool false, .none])) ∈ news) (hs : s' = { s with heap := s'.heap, toks := s'.toks } := by rfl) :
    Rz w (Gone base (env :: outer) s) (.ref e) s' := by
  have hn : base.get? e = none := by
    cases q : base.get? e with
    | none => rfl
    | some o => have := S.stays _ _ q; rw [(N _ hm).2.2] at this; cases this
  exact ⟨e, _, t, rfl, Frag.In.keeps X F.keep, (N _ hm).1, e, rfl, hs, .inr ⟨_, t, F.keep, S.push F hbs hk hf, hn, (N _ hm).1⟩⟩
end Mine
end
noncomputable section
open PySem PySem.W PyProof.Rows PySem.Calls
set_option Elab.async false
set_option maxRecDepth 100000
set_option maxHeartbeats 8000000
set_option linter.all false
namespace Mine
section
variable {w : World} {A : Around} {E Q : Value → Shared → Prop} {s : Shared} {base : Heap} {outer : List Env}
theorem enterLamR {d : Nat} {name qual : Str} {params : Arguments} {body : PySem.Expr} {scope : Scope} {cl : List (Str × Addr)} {pm ctv : Value} {c' f : Addr} {vs : List Value} {binds : List (Str × Value)}
    (R : Room A d) (hfr : A.frames = some outer) (hroom : d < recursionLimit) (B : Base w s.heap) (S : Sky base outer s.heap) (hbs : base.objs.size ≤ s.heap.objs.size)
    (ho : s.heap.get? f = some (kla_obj name qual params body scope cl pm c' ctv)) (hcd : s.heap.CodeRec (.ref c') qual)
    (hbind : bindArgs (kla_fn name qual params body scope cl pm (.ref c') ctv) ⟨vs, []⟩ = pure binds) (hloc : ∀ y ∈ binds, scope.names.lookup y.1 = some .local)
    (hE : ∀ e a0 h' tk, Heap.FlyingW base outer e (.ref 70) a0 h' → s.heap.UpToSlots h' → E (.ref e) { s with heap := h', toks := tk })
    (h : ∀ L' h₁, Fr s.heap L' h₁ (fun y => binds.reverse.lookup y) → News s.heap L' h₁ [] →
      wpAny (model Pg w) ((Af d outer).deeper (envX qual scope L' f (.ref c') cl)) (eval body (envX qual scope L' f (.ref c') cl)) (fun _ _ => False) (Gone base (envX qual scope L' f (.ref c') cl :: outer) s) { s with heap := h₁, toks := s.toks + binds.length })
    (hco : scope.isCoroutine = false) (hgen : scope.isGenerator = false) (hk : scope.kind = .function)
    (hcell : ∀ x ∈ scope.names, x.2 ≠ .cell) : wpAny (model Pg w) A (call (.ref f) vs) Q E s := by
  obtain ⟨l, me, mg, mb, T⟩ := B.T
  refine wpAny_call (cd_weakF R hfr ?_)
  refine kla_callFunE hroom ho rfl hco hgen rfl hcd ?_
  rw [hbind]
  refine wpAny_pure (wpAny_newFunctionEnv hcell hloc (fun h₁ hns hsb => ⟨T.nolimit.fresh _ hsb, ?_⟩) hk)
  show codeAny _ _ (.expr body (envX qual scope s.heap.objs.size f (.ref c') cl)) _ _
  have hk₁ : ∀ b o, s.heap.get? b = some o → h₁.get? b = some o := fun b o e => hsb.extBut b o (Nat.ne_of_lt (Heap.lt_size e)) (Heap.get?_push_of_some _ e)
  refine kla_codeExpr (wpAny_mono (h s.heap.objs.size h₁ ⟨hns, hk₁, Nat.le_refl _⟩ .nil) (fun _ _ x => x.elim) (fun v s' x => ?_))
  exact leave_gone rfl rfl x fun e a0 h' tk ev fl up => ev ▸ hE e a0 h' tk fl up
end
section
variable {w : World} {d : Nat} {base h : Heap} {outer : List Env} {E : Value → Shared → Prop} {s' : Shared} {L a e : Addr} {m : Str → Option Value} {name : Str} {scope : Scope} {cd a0 : Value} {b₀ : Stmt} {suite : List Stmt} {pos np : Pos} {rest : List ExceptHandler} {Q : Flow → Shared → Prop}
  {loose : List Str} {mean : ExcName → Option Value} {mg mb : Str → Option Value} {x : Str}
theorem caught_E (fl : Heap.FlyingW base (envOf name scope L a cd :: outer) e (.ref 70) a0 s'.heap) (F : Fr base L h m) (up : h.UpToSlots s'.heap) (X : (hd.heap_39 w.params).In base) (T : Top topProg loose mean mg mb base) (ex : nsIn (hd.heap_39 w.params) mainGlobals x = some (some (.ref 70)))
    (k : ∀ h', Fr base L h' m → s'.heap.UpToSlots h' →
      wpAny (model Pg w) (((Af d outer).deeper (envOf name scope L a cd)).mark (some (.ref e))) (execs (b₀ :: suite) (envOf name scope L a cd)) Q E { s' with heap := h' })
    (hk : scope.kind = .function := by rfl) (hx : (envOf name scope L a cd).kindOf x = some .globalImplicit := by rfl) (hdb : (x == ("__debug__" : Str)) = false := by decide)
    (hE : PassesOwnAt (model Pg w) (((Af d outer).deeper (envOf name scope L a cd)).mark (some (.ref e))) ((Af d outer).deeper (envOf name scope L a cd)) (envOf name scope L a cd) E := by passes_own) :
    wpAny (model Pg w) ((Af d outer).deeper (envOf name scope L a cd)) (noteFrame (.ref e) (envOf name scope L a cd))
      (fun _ s₂ => wpAny (model Pg w) ((Af d outer).deeper (envOf name scope L a cd)) (setFlight (.ref e) none) (fun _ s₃ =>
        wpAny (model Pg w) ((Af d outer).deeper (envOf name scope L a cd)) (handleBy (.ref e) (envOf name scope L a cd) (.ExceptHandler (some (.Name x np)) none (b₀ :: suite) pos :: rest)) Q E s₃) E s₂) E s' := by
  refine wpAny_looks_onW rfl rfl fl fun h₄ held₄ up₄ => ?_
  refine wpAny_landsW held₄ fun h₅ fl₅ up₅ => ?_
  have F₅ := F.of_stays fl₅.1 (up.trans (up₄.trans up₅))
  obtain ⟨ob, hob, hobc⟩ := id fl₅.there
  refine wpAny_handleBy_cons (codeAny_handlers_test (name_K F₅ X (topRead_of T) ex ?_ hk hx hdb)) (by intro q; cases q)
  refine wpAny_excMatches_sub_self (Frag.In.keeps X F₅.keep 70 _ rfl) hob hobc rfl (codeAny_handlers_suite ?_)
  refine lands_againW fl₅ fun h₆ fl₆ up₆ => ?_
  exact wpAny_passesOwnAt hE (k h₆ (F.of_stays fl₆.1 ((up.trans (up₄.trans up₅)).trans up₆)) ((up₄.trans up₅).trans up₆))
end
theorem enterF {w : World} {A : Around} {E Q : Value → Shared → Prop} {s : Shared} {base : Heap} {outer : List Env} {d : Nat} {name qual : Str} {params : Arguments} {body : List Stmt} {scope : Scope} {dV kV doc pm cdv ct oc : Value} {an od : Option Addr} {osl : Array (Option Value)} {f : Addr} {vs : List Value} {binds : List (Str × Value)}
    (R : Room A d) (hfr : A.frames = some outer) (hroom : d < recursionLimit) (B : Base w base) (S : Sky base outer s.heap) (hbs : base.objs.size ≤ s.heap.objs.size)
    (ho : (hd.heap_39 w.params).lookup f = some ⟨oc, od, .func (fnOf name qual params body scope dV kV doc pm an cdv ct), osl⟩) (hcd : codeIn (hd.heap_39 w.params) cdv qual = true)
    (hbind : BindsTo s (fnOf name qual params body scope dV kV doc pm an cdv ct) ⟨vs, []⟩ binds) (hloc : ∀ y ∈ binds, scope.names.lookup y.1 = some .local)
    (h : ∀ L' h₁, Fr base L' h₁ (fun y => binds.reverse.lookup y) → News base L' h₁ [] → Sky base (envOf qual scope L' f cdv :: outer) h₁ → s.heap.UpToSlots h₁ →
      wpAny (model Pg w) ((Af d outer).deeper (envOf qual scope L' f cdv)) (execs body (envOf qual scope L' f cdv))
        (fun fl s' => Q (match fl with | .ret v => v | _ => .none) s') (fun _ _ => False)
        { s with heap := h₁, toks := s.toks + binds.length })
    (hco : scope.isCoroutine = false) (hgen : scope.isGenerator = false) (hk : scope.kind = .function)
    (hcell : ∀ x ∈ scope.names, x.2 ≠ .cell) : wpAny (model Pg w) A (call (.ref f) vs) Q E s := by
  obtain ⟨l, me, mg, mb, T⟩ := B.T
  have Xs := Frag.In.keeps B.K S.stays
  refine wpAny_call (cd_weakF R hfr ?_)
  refine codeAny_call_def (fd := fnOf name qual params body scope dV kV doc pm an cdv ct) (body := body) (binds := binds) hroom (Xs _ _ ho) rfl (T.keeps S.stays).nolimit (codeRec_of Xs hcd) rfl hbind hcell hloc (fun h₁ hns hk₁ => ?_) hco hgen hk
  refine wpAny_mono (h s.heap.objs.size h₁ ⟨hns, fun b o e => hk₁ b o (S.stays b o e), hbs⟩ .nil (S.push (env := envOf qual scope s.heap.objs.size f cdv) ⟨hns, hk₁, Nat.le_refl _⟩ hbs (fun q => by have : scope.kind = .module := q; rw [hk] at this; cases this) rfl) (upTo_of hk₁)) (fun _ _ x => x) (fun _ _ x => x.elim)
end Mine
end
noncomputable section
open PySem PySem.W PyProof.Rows PySem.Calls
set_option Elab.async false
set_option maxRecDepth 100000
set_option maxHeartbeats 4000000
set_option linter.all false
set_option exponentiation.threshold 5000
namespace Mine
theorem filledW22 : PySem.Challenge.rw_pc0352_01 = PySem.Challenge.rw_pc0352_01 ∧ hd.heap_39 = hd.heap_39 := by
  k_fill
  exact ⟨rfl, rfl⟩
def FinG (g : Heap) (P : Heap → Prop) (Q : Value → Shared → Prop) (v : Value) (s' : Shared) : Prop :=
  ∃ L m own rest, Fr (bare g) L s'.heap m ∧ News (bare g) L s'.heap (own ++ rest) ∧ TabsIn (bare g) rest ∧ P s'.heap ∧ (StaysBut tabL g s'.heap → TabsAll s'.heap → P s'.heap → Q v s')
theorem FinG.done {g : Heap} {P : Heap → Prop} {Q : Value → Shared → Prop} {v : Value} {s' : Shared} (x : FinG g P Q v s') : Q v s' := by
  obtain ⟨L, m, own, rest, F, N, T, p, k⟩ := x
  exact k (fun b o n e => F.keep b o (bare_get n e)) (tabsAll_of F N T) p
def SaysA (w : World) (d : Nat) (f : Value) (vs : List Value) (s : Shared) (L : Addr) (oL : Obj) (post : Heap → Value → Prop) : Prop :=
  ∀ (A : Around) (Q E : Value → Shared → Prop) (env : Env), Room A d → A.frames = some [env] → env.frame = some L → env.scope.kind ≠ .module →
    (∀ v h' tk, StaysBut tabL (hideAll s.heap [L]) h' → TabsAll h' → (∃ sl, h'.get? L = some { oL with slots := sl }) → post h' v → Q v { s with heap := h', toks := tk }) → wpAny (model Pg w) A (call f vs) Q E s
theorem enterTCL {w : World} {A : Around} {E : Value → Shared → Prop} {s : Shared} {Q : Value → Shared → Prop} {outer : List Env} {g : Heap} {P : Heap → Prop} {its : List (Addr × Obj)} {d : Nat} {name qual : Str} {params : Arguments} {body : List Stmt} {scope : Scope} {dV kV doc pm cdv ct oc : Value} {an od : Option Addr} {osl : Array (Option Value)} {f : Addr} {vs : List Value} {binds : List (Str × Value)}
    (R : Room A d) (hfr : A.frames = some outer) (hroom : d < recursionLimit) (B : Base w g) (st : g.StaysIn s.heap) (hsz : g.objs.size ≤ s.heap.objs.size) (TA : TabsAll g) (hits : ∀ p ∈ its, s.heap.get? p.1 = some p.2 ∧ (bare g).get? p.1 = none)
    (ho : (hd.heap_39 w.params).lookup f = some ⟨oc, od, .func (fnOf name qual params body scope dV kV doc pm an cdv ct), osl⟩) (hcd : codeIn (hd.heap_39 w.params) cdv qual = true)
    (hbind : BindsTo s (fnOf name qual params body scope dV kV doc pm an cdv ct) ⟨vs, []⟩ binds)
    (hkind : (binds.all fun y => scope.names.lookup y.1 == some .local || scope.names.lookup y.1 == some .cell) = true)
    (hnd : ((cellsFrom 0 scope.names []).map (·.1)).Nodup) (mm : Str → Option Value) (hmm : ∀ L' : Addr, bindL (envOfC qual scope L' f cdv).kindOf binds (fun _ => none) = mm)
    (h : ∀ L' h₁ tk cells rest, (∀ p ∈ rest, p.1 < L') → (∀ p ∈ its, @LT.lt Nat _ p.1 L') → Fr (bare g) L' h₁ mm → News (bare g) L' h₁ (cells ++ (its ++ rest)) → TabsIn (bare g) rest →
      CellsAre (bindC (envOfC qual scope L' f cdv).kindOf binds fun _ => none) (cellsFrom (L' + 1) scope.names []) cells →
      wpAny (model Pg w) ((Af d outer).deeper (envOfC qual scope L' f cdv)) (execs body (envOfC qual scope L' f cdv))
        (fun fl s' => FinG g P Q (match fl with | .ret v => v | _ => .none) s') (fun _ _ => False)
        { s with heap := h₁, toks := tk })
    (hco : scope.isCoroutine = false) (hgen : scope.isGenerator = false) (hk : scope.kind = .function) : wpAny (model Pg w) A (call (.ref f) vs) Q E s := by
  obtain ⟨l, me, mg, mb, T⟩ := B.T
  have Xs := Frag.In.keeps B.K st
  refine wpAny_call ?_
  refine cd_weakF R hfr ?_
  refine codeAny_call_function (fd := fnOf name qual params body scope dV kV doc pm an cdv ct) hroom (Xs _ _ ho) rfl hco hgen rfl (codeRec_of Xs hcd) (hbind _ _ _ _ ?_)
  refine wpAny_newFunctionEnv_cells hk (kindsX hkind _) fun env' he s' x => ?_
  subst he
  refine ⟨(T.keeps st).nolimit.keeps x.toInCall.keep, codeAny_func ?_⟩
  obtain ⟨h₁, tk, rfl, _⟩ := x.done
  have hk₁ := x.toInCall.keep
  obtain ⟨cells, NC, Y⟩ := Cl.news (h₀ := s.heap) (Nat.le_refl _) fun n c hm => ⟨x.cell n c (lookup_of_mem_nodup (cellsFrom_names scope.names 0 (s.heap.objs.size + 1) [] [] rfl ▸ hnd) hm), x.above n c hm⟩
  have F : Fr (bare g) s.heap.objs.size h₁ mm := ⟨hmm s.heap.objs.size ▸ x.toInCall.ns, fun b o e => hk₁ b o (st b o (bare_of e)), (bare_size g) ▸ hsz⟩
  obtain ⟨rest, N0, TI⟩ := restOf (h₀ := bare g) (fun b o e => bare_of e) TA (fun P hP => bare_none hP)
  have hlt : ∀ p ∈ rest, p.1 < s.heap.objs.size := fun p hp => Nat.lt_of_lt_of_le (Heap.lt_size (N0 p hp).1) hsz
  have N : News (bare g) s.heap.objs.size h₁ rest := fun p hp => ⟨hk₁ _ _ (st _ _ (N0 p hp).1), Nat.ne_of_lt (hlt p hp), (N0 p hp).2.1⟩
  refine wpAny_mono (h _ h₁ tk cells rest hlt (fun p hp => Heap.lt_size (hits p hp).1) F (fun p hp => ?_) TI Y) (fun fl s' x => x.done) (fun _ _ x => x.elim)
  rcases List.mem_append.mp hp with hp | hp
  · refine ⟨(NC p hp).1, (NC p hp).2.1, ?_⟩
    cases q : (bare g).get? p.1 with
    | none => rfl
    | some o => have := st _ _ (bare_of q); rw [(NC p hp).2.2] at this; cases this
  · rcases List.mem_append.mp hp with hp | hp
    · exact ⟨hk₁ _ _ (hits p hp).1, Nat.ne_of_lt (Heap.lt_size (hits p hp).1), (hits p hp).2⟩
    · exact N p hp

/-- a class C call that gives a Real back: the result stands on the ledger, be it new or the argument (that stands there too) -/

theorem CmpV.as {c : Cx} {op : CmpOp} {V W : Val} {z z' : Bool} (h : CmpV c op V W z) (e : z = z') : CmpV c op V W z' := e ▸ h
/-- the law's frame, as it stands up to its slots -/
@[reducible] def vFr (Ll : Addr) (oL : Obj) : Val := ⟨true, fun P v => v = .ref Ll ∧ ∃ sl, P Ll { oL with slots := sl }, fun k h => ⟨h.1, let ⟨sl, x⟩ := h.2; ⟨sl, k _ _ x⟩⟩⟩
@[reducible] def vPin (Ll : Addr) (oL : Obj) (b : Bool) : Val := ⟨true, fun P v => v = .bool b ∧ ∃ sl, P Ll { oL with slots := sl }, fun k h => ⟨h.1, let ⟨sl, x⟩ := h.2; ⟨sl, k _ _ x⟩⟩⟩
section
variable {c : Cx} {sc : Scope} {σ σ1 : Sto} {τ τ' : Tmp} {s : Shared} {V W : Val} {r : Res} {d : Nat} {v : Value} {cdv : Value} {q : Str}
theorem Ev.pin {e : Expr} {b : Bool} {Ll : Addr} {oL : Obj} (h : Ev c sc σ e (vBool b)) (hl : σ.lookup ("%" : Str) = some (vFr Ll oL)) : Ev c sc σ e (vPin Ll oL b) := fun τ Q s S k => h Q s S fun v s' S' => by
  obtain ⟨mm, κ, own, cells, rest, F, N, K, Y, TI, e, l, t⟩ := S'
  obtain ⟨u, _, hu⟩ := l _ _ hl
  have hb : v = .bool b := t _ (.head _)
  exact k v s' ⟨mm, κ, own, cells, rest, F, N, K, Y, TI, e, l, forall_cons ⟨hb, hu.2⟩ fun p hp => t p (.tail _ hp)⟩
theorem stays_cast {A : Type} {a b : A} {P : A → Prop} (e : a = b) (h : P a) : P b := e ▸ h
/-- the entry of a def that the law's frame looks on -/
theorem enterA {w : World} {d : Nat} {s : Shared} {f : Addr} {vs : List Value} {Ws : List Val} {Ll : Addr} {oL : Obj} {es : Array DictEntry} {nn : Nat} {name qual : Str} {params : Arguments} {body : List Stmt} {scope : Scope} {dV kV doc pm cdv ct oc : Value} {an od : Option Addr} {osl : Array (Option Value)} (xs : List Str) (hlim : d < recursionLimit)
    (ho : (hd.heap_39 w.params).lookup f = some ⟨oc, od, .func (fnOf name qual params body scope dV kV doc pm an cdv ct), osl⟩) (hcd : codeIn (hd.heap_39 w.params) cdv qual = true)
    (hb : ∀ s vs, vs.length = xs.length → BindsTo s (fnOf name qual params body scope dV kV doc pm an cdv ct) ⟨vs, []⟩ (xs.zip vs)) (hl : ∀ x ∈ xs, scope.names.lookup x = some .local ∨ scope.names.lookup x = some .cell) (hnd : ((cellsFrom 0 scope.names []).map (·.1)).Nodup)
    (B : Base w (hideAll s.heap [Ll])) (TA : TabsAll (hideAll s.heap [Ll])) (hL : s.heap.get? Ll = some oL) (hLd : oL.data = .dict es nn) (R : Reps (bare (hideAll s.heap [Ll])) vs Ws) (how : ∀ W ∈ Ws, W.own = false)
    (h : ∀ (c : Cx) env, c.g = bare (hideAll s.heap [Ll]) → env.frame = some Ll → env.scope.kind ≠ .module → Ok c (d + 1) → OkC c scope cdv qual → c.A.frames = some [c.env scope, env] → Ex c scope (("%", vFr Ll oL) :: (xs.zip Ws).reverse) body (.ret (vPin Ll oL true)))
    (hco : scope.isCoroutine = false) (hgen : scope.isGenerator = false) (hk : scope.kind = .function) (hn : Ws.length = xs.length) (hpc : scope.names.lookup ("%" : Str) = none) : SaysA w d (.ref f) vs s Ll oL (IsBool true) := fun A Q E env Rm hfr hef hem k => by
  have B' := bare_base TA B
  obtain ⟨X, loose, mean, mg, mb, T⟩ := B'
  have hLg : (bare (hideAll s.heap [Ll])).get? Ll = none := by
    cases q : (bare (hideAll s.heap [Ll])).get? Ll with
    | none => rfl
    | some o => have := bare_of q; rw [hideAll_none _ (.head _)] at this; cases this
  have st : (hideAll s.heap [Ll]).StaysIn s.heap := fun b o e => of_hideAll _ e
  refine enterTCL (its := [(Ll, oL)]) (P := fun h' => ∃ sl, h'.get? Ll = some { oL with slots := sl }) (binds := xs.zip vs) Rm hfr hlim B st (Nat.le_of_eq (hideAll_size _ _)) TA (forall_cons ⟨hL, hLg⟩ no_mem) ho hcd (hb s vs (R.len.trans hn)) (List.all_eq_true.mpr fun y hy => ?_) hnd (bindL (fun y => scope.names.lookup y) (xs.zip vs) fun _ => none) (fun _ => rfl) (fun L' h₁ tk cells rest hlt hlt2 F N TI Y => ?_) hco hgen hk
  · rcases hl _ (List.of_mem_zip hy).1 with e | e <;> rw [e] <;> rfl
  have N' : News (bare (hideAll s.heap [Ll])) L' h₁ ([(Ll, oL)] ++ (cells ++ rest)) := fun p hp => by
    rcases List.mem_append.mp hp with hp | hp
    · rw [List.mem_singleton.mp hp]; exact N _ (List.mem_append_right _ (.head _))
    · rcases List.mem_append.mp hp with hp | hp
      · exact N _ (List.mem_append_left _ hp)
      · exact N _ (List.mem_append_right _ (.tail _ hp))
  refine h ⟨w, (Af d [env]).deeper (envOfC qual scope L' f cdv), bare (hideAll s.heap [Ll]), L', qual, f, cdv, cellsFrom (L' + 1) scope.names [], cellsFrom (L' + 1) scope.names [], s, loose, mean, mg, mb, TabsIn (bare (hideAll s.heap [Ll]))⟩ env rfl hef hem ⟨X, T, ⟨rfl, Nat.le_refl _, ?_⟩, cap_of⟩ ⟨⟨rfl, ⟨_, rfl⟩⟩, rfl, rfl, rfl, rfl, hnd⟩ rfl _ ⟨_, _, [(Ll, oL)], cells, rest, F, N', forall_cons (.inl ⟨.inr fun vs q => (by rw [hLd] at q; cases q), fun v q => (by rw [hLd] at q; cases q)⟩) no_mem, Y, TI, rfl, fun x V hx => ?_, no_mem⟩ ?_
  · show 10 * d + 3 ≤ 10 * (d + 1)
    omega
  · rcases look_cons hx with ⟨rfl, rfl⟩ | ⟨_, hx⟩
    · exact ⟨.ref Ll, ⟨fun e => (by rw [hpc] at e; cases e), fun e => (by rw [hpc] at e; cases e), fun e => (by rw [hpc] at e; cases e)⟩, rfl, oL.slots, .inl (.head _)⟩
    · obtain ⟨v, h1, h2⟩ := (Loc.rev (Loc.zip R how xs) .nil).get x V hx
      have hm := hl x (look_in (β := Val) h1)
      have h1' : ((xs.zip vs).reverse.lookup x).or none = some v := by rw [show List.lookup x (xs.zip vs).reverse = some v from h1]; rfl
      refine ⟨v, ⟨fun e => bindL_get e h1', fun e => bindC_get (fun q => ?_) h1', fun e => ?_⟩, Val.rep_mono no_mem h2⟩
      · have q : scope.names.lookup x = some .local := q
        rw [e] at q; cases q
      · rcases hm with q | q <;> rw [q] at e <;> cases e
  · rintro v s' ⟨mm, κ, own, cells', rest', F', N', K, Y', TI', e, l, t⟩
    obtain ⟨hb, sl, hsl⟩ := t _ (.head _)
    have hb : v = .bool true := hb
    have hsl : (Ll, { oL with slots := sl }) ∈ own := hsl.elim id fun y => nomatch y.1
    refine ⟨L', mm, own ++ cells', rest', F', by rw [List.append_assoc]; exact N', TI', ⟨sl, (N' _ (List.mem_append_left _ hsl)).1⟩, fun st ta hP => ?_⟩
    have := k v s'.heap s'.toks st ta hP hb
    rw [e]; exact this
end
theorem f_arcs_zero {w : World} {s : Shared} {precision : Int} {tp : Tok} {x Ll : Addr} {oL : Obj} {es : Array DictEntry} {nn : Nat} {m e f0 f1 om oe am ae bm be cm ce : Int} (B : Base w (hideAll s.heap [Ll])) (TA : TabsAll (hideAll s.heap [Ll])) (hL : s.heap.get? Ll = some oL) (hLd : oL.data = .dict es nn) (ar : RealIn (fun a o => (bare (hideAll s.heap [Ll])).get? a = some o) (.ref x) m e) (hf : fracF m e = some (f0, f1)) (hl : leanF (0 - m) e = some (om, oe)) (hz : m = 0) (hd1 : ¬ f1 < iabs f0) (ha1 : atanF precision m e = some (0, 0)) (ha2 : asinF precision m e = some (0, 0)) : SaysA w 640 (.ref 481) [.int precision tp, .ref x] s Ll oL (IsBool true) := by
  · refine' enterA ["precision", "real"] (Ws := [vInt precision, er2 (bare (hideAll s.heap [Ll])) (eReal m e)]) ?hlim ?ho ?hcd ?hb ?hl ?hnd B TA hL hLd ⟨_, _, rfl, ⟨tp, rfl⟩, _, _, rfl, ⟨ar, ar⟩, rfl⟩ ?how ?_ ?c1 ?c2 ?c3 rfl ?pc
    (case hlim => decide)
    (case ho => k_is)
    (case hcd => k_is)
    (case hb => exact fun s => zip2 fun _ _ => BindsTo.of_eq rfl)
    (case hl => decide)
    (case hnd => decide +kernel)
    (case c1 => exact rfl)
    (case c2 => exact rfl)
    (case c3 => exact rfl)
    (case pc => exact rfl)
    (case how => exact forall_cons rfl (forall_cons rfl no_mem))
    exact fun c env hg hef hem O OC hfr => (Ex.unp2 O (Ev.call O (Evs.cap (Ev.cel OC rfl rfl rfl) (fun _ _ x => x) Evs.nil) (f_law_fraction _ _ _ hf) (by k_is) (by k_is) (Nat.le_of_ble_eq_true rfl) rfl) (fun _ _ x => x) (Sx.loc rfl) (Sx.loc rfl) (Ex.put (Ev.call O (Evs.cons (Ev.sub Ev.cint (Ev.man O (Ev.cel OC rfl rfl rfl) (fun _ _ x => x.1))) (Evs.cons (Ev.exp O (Ev.cel OC rfl rfl rfl) (fun _ _ x => x.1)) Evs.nil)) (f_lean _ _ _ hl) (by k_is) (by k_is) (Nat.le_of_ble_eq_true rfl) rfl) (Sx.cel O OC rfl rfl) (Ex.ifr (Tr.cmp (cmp_eq _ _) (Ev.man O (Ev.cel OC rfl rfl rfl) (fun _ _ x => x.1)) Ev.cint (by walk_at "v d")) (Ex.ret (Ev.pin (Ev.asB (Ev.chain2 (CmpV.as (eq_tup O (fun _ _ x => x) (fun _ _ x => x)) (by rfl)) (eq_tup O (fun _ _ x => x) (fun _ _ x => x)) (Ev.told O OC.toOkT (EvH.lamAsk [("precision", vInt precision), ("real", er2 (bare (hideAll s.heap [Ll])) (eReal m e))] OC (Ev.lam (Pt := 476) O OC (codeHd_of_K O.X (by kernel_rfl)) (by decide) rfl (by k_mem) rfl rfl) (forall_cons ⟨rfl, rfl, _, rfl, rfl⟩ (forall_cons ⟨rfl, rfl, _, rfl, rfl⟩ (no_mem))) (forall_cons rfl (forall_cons rfl (no_mem))) (fun _ _ _ => rfl) (fun _ _ _ _ => real_or) (fun c g O OC => (Ev.callW O OC (Ev.capI (Ev.free rfl rfl)) (Ev.free rfl rfl) (fun _ _ x => x.1) (f_atan_real _ _ _ _ ha1) (by k_is) (by k_is) (Nat.le_of_ble_eq_true rfl) rfl))) (Nat.le_of_ble_eq_true rfl) (by k_is) (by k_is) rfl) (Ev.tuple (ns := [_, _]) (Evs.cons Ev.cint (Evs.cons Ev.cint Evs.nil))) (Ev.told O OC.toOkT (EvH.lamAsk [("precision", vInt precision), ("real", er2 (bare (hideAll s.heap [Ll])) (eReal m e))] OC (Ev.lam (Pt := 476) O OC (codeHd_of_K O.X (by kernel_rfl)) (by decide) rfl (by k_mem) rfl rfl) (forall_cons ⟨rfl, rfl, _, rfl, rfl⟩ (forall_cons ⟨rfl, rfl, _, rfl, rfl⟩ (no_mem))) (forall_cons rfl (forall_cons rfl (no_mem))) (fun _ _ _ => rfl) (fun _ _ _ _ => real_or) (fun c g O OC => (Ev.callW O OC (Ev.capI (Ev.free rfl rfl)) (Ev.free rfl rfl) (fun _ _ x => x.1) (f_asin_real _ _ _ _ _ _ hf hd1 ha2) (by k_is) (by k_is) (Nat.le_of_ble_eq_true rfl) rfl))) (Nat.le_of_ble_eq_true rfl) (by k_is) (by k_is) rfl)) (by first | rfl | simp | walk_at "v d")) rfl)))))
end Mine
end
noncomputable section
open PySem PySem.W PyProof.Rows PySem.Calls
set_option Elab.async false
set_option maxRecDepth 100000
set_option maxHeartbeats 4000000
set_option linter.all false
set_option exponentiation.threshold 5000
namespace Mine
theorem filledW23 : PySem.Challenge.rw_pc0352_01 = PySem.Challenge.rw_pc0352_01 ∧ hd.heap_39 = hd.heap_39 := by
  k_fill
  exact ⟨rfl, rfl⟩
/-- what the law asks of a number from -1 to 1 -/
def MainOk (p m e om oe f0 f1 : Int) : Prop := ∃ o0 o1 dm de, fracF om oe = some (o0, o1) ∧ ¬ o1 < iabs o0 ∧ asinF p m e = some (dm, de) ∧ asinF p om oe = some (0 - dm, de) ∧
  ((0 < f0 ∧ isSineF p dm de (iabs f0) f1 = true ∧ f0 = f1 ∧ acosF p m e = some (0, 0)) ∨
   (0 < f0 ∧ isSineF p dm de (iabs f0) f1 = true ∧ f0 ≠ f1 ∧ ∃ gm ge, acosF p m e = some (gm, ge) ∧ isCosF p gm ge f0 f1 = true) ∨
   (¬ 0 < f0 ∧ f0 ≠ f1 ∧ ∃ nm ne, leanF (0 - dm) de = some (nm, ne) ∧ isSineF p nm ne (iabs f0) f1 = true ∧ ∃ gm ge, acosF p m e = some (gm, ge) ∧ isCosF p gm ge f0 f1 = true))
theorem f_arcs_yes {w : World} {s : Shared} {precision : Int} {tp : Tok} {x Ll : Addr} {oL : Obj} {es : Array DictEntry} {nn : Nat} {m e f0 f1 om oe am ae bm be cm ce : Int} (B : Base w (hideAll s.heap [Ll])) (TA : TabsAll (hideAll s.heap [Ll])) (hL : s.heap.get? Ll = some oL) (hLd : oL.data = .dict es nn) (ar : RealIn (fun a o => (bare (hideAll s.heap [Ll])).get? a = some o) (.ref x) m e) (hf : fracF m e = some (f0, f1)) (hl : leanF (0 - m) e = some (om, oe)) (hz : ¬ m = 0) (hl2 : leanF (iabs m) e = some (am, ae)) (ha0 : atanF precision am ae = some (bm, be)) (hi : isArcF precision bm be (iabs f0) f1 = true) (ha : atanF precision m e = some (cm, ce)) (hb : atanF precision om oe = some (0 - cm, ce)) (hd9 : ¬ f1 < iabs f0) (hM : MainOk precision m e om oe f0 f1) : SaysA w 640 (.ref 481) [.int precision tp, .ref x] s Ll oL (IsBool true) := by
  obtain ⟨o0, o1, dm, de, hfo, hdo, has, hbs, hcase⟩ := hM
  rcases hcase with ⟨ht, hsi, hq, hac⟩ | ⟨ht, hsi, hq, gm, ge, hac, hco⟩ | ⟨ht, hq, nm, ne, hln, hsi, gm, ge, hac, hco⟩
  · refine' enterA ["precision", "real"] (Ws := [vInt precision, er2 (bare (hideAll s.heap [Ll])) (eReal m e)]) ?hlim ?ho ?hcd ?hb ?hl ?hnd B TA hL hLd ⟨_, _, rfl, ⟨tp, rfl⟩, _, _, rfl, ⟨ar, ar⟩, rfl⟩ ?how ?_ ?c1 ?c2 ?c3 rfl ?pc
    (case hlim => decide)
    (case ho => k_is)
    (case hcd => k_is)
    (case hb => exact fun s => zip2 fun _ _ => BindsTo.of_eq rfl)
    (case hl => decide)
    (case hnd => decide +kernel)
    (case c1 => exact rfl)
    (case c2 => exact rfl)
    (case c3 => exact rfl)
    (case pc => exact rfl)
    (case how => exact forall_cons rfl (forall_cons rfl no_mem))
    exact fun c env hg hef hem O OC hfr => (Ex.unp2 O (Ev.call O (Evs.cap (Ev.cel OC rfl rfl rfl) (fun _ _ x => x) Evs.nil) (f_law_fraction _ _ _ hf) (by k_is) (by k_is) (Nat.le_of_ble_eq_true rfl) rfl) (fun _ _ x => x) (Sx.loc rfl) (Sx.loc rfl) (Ex.put (Ev.call O (Evs.cons (Ev.sub Ev.cint (Ev.man O (Ev.cel OC rfl rfl rfl) (fun _ _ x => x.1))) (Evs.cons (Ev.exp O (Ev.cel OC rfl rfl rfl) (fun _ _ x => x.1)) Evs.nil)) (f_lean _ _ _ hl) (by k_is) (by k_is) (Nat.le_of_ble_eq_true rfl) rfl) (Sx.cel O OC rfl rfl) (Ex.ifp (Tr.cmp (cmp_eq _ _) (Ev.man O (Ev.cel OC rfl rfl rfl) (fun _ _ x => x.1)) Ev.cint (by walk_at "v d")) (Ex.ifp (Tr.not1 (Tr.plain (Ev.call O (Evs.cons (Ev.cel OC rfl rfl rfl) (Evs.cons (Ev.callR O OC.toOkT (Evs.cons (Ev.cel OC rfl rfl rfl) (Evs.real (Ev.call O (Evs.cons (Ev.bcall O (Evs.cons (Ev.man O (Ev.cel OC rfl rfl rfl) (fun _ _ x => x.1)) Evs.nil) b_abs (by boot_by_name) (by k_is) rfl) (Evs.cons (Ev.exp O (Ev.cel OC rfl rfl rfl) (fun _ _ x => x.1)) Evs.nil)) (f_lean _ _ _ hl2) (by k_is) (by k_is) (Nat.le_of_ble_eq_true rfl) rfl) Evs.nil)) (f_atan_real _ _ _ _ ha0) (by k_is) (by k_is) (Nat.le_of_ble_eq_true rfl) rfl) (Evs.cons (Ev.bcall O (Evs.cons (Ev.loc rfl rfl) Evs.nil) b_abs (by boot_by_name) (by k_is) rfl) (Evs.cons (Ev.loc rfl rfl) Evs.nil)))) (f_is_arc _ _ _ _ _ _ hi) (by k_is) (by k_is) (Nat.le_of_ble_eq_true rfl) rfl) (by walk_at "v d"))) (Ex.put (Ev.callR O OC.toOkT (Evs.cons (Ev.cel OC rfl rfl rfl) (Evs.cap (Ev.cel OC rfl rfl rfl) (fun _ _ x => x) Evs.nil)) (f_atan_real _ _ _ _ ha) (by k_is) (by k_is) (Nat.le_of_ble_eq_true rfl) rfl) (Sx.loc rfl) (Ex.ifp (Tr.cmpV (ne_tup O (fun _ _ x => x) (fun _ _ x => x)) (Ev.told O OC.toOkT (EvH.lamAsk [("precision", vInt precision), ("opposite", vReal om oe)] OC (Ev.lam (Pt := 476) O OC (codeHd_of_K O.X (by kernel_rfl)) (by decide) rfl (by k_mem) rfl rfl) (forall_cons ⟨rfl, rfl, _, rfl, rfl⟩ (forall_cons ⟨rfl, rfl, _, rfl, rfl⟩ (no_mem))) (forall_cons rfl (forall_cons rfl (no_mem))) (fun _ _ _ => rfl) (fun _ _ _ _ => real_or) (fun c g O OC => (Ev.callW O OC (Ev.capI (Ev.free rfl rfl)) (Ev.free rfl rfl) (fun _ _ x => x) (f_atan_real _ _ _ _ hb) (by k_is) (by k_is) (Nat.le_of_ble_eq_true rfl) rfl))) (Nat.le_of_ble_eq_true rfl) (by k_is) (by k_is) rfl) (Ev.tuple (ns := [_, _]) (Evs.cons (Ev.sub Ev.cint (Ev.man O (Ev.loc rfl rfl) (fun _ _ x => x))) (Evs.cons (Ev.exp O (Ev.loc rfl rfl) (fun _ _ x => x)) Evs.nil))) (by first | rfl | simp | walk_at "v d")) (Ex.ifp (Tr.cmp (cmp_gt _ _) (Ev.bcall O (Evs.cons (Ev.loc rfl rfl) Evs.nil) b_abs (by boot_by_name) (by k_is) rfl) (Ev.loc rfl rfl) (by walk_at "v d")) (Ex.put (Ev.callR O OC.toOkT (Evs.cons (Ev.cel OC rfl rfl rfl) (Evs.cap (Ev.cel OC rfl rfl rfl) (fun _ _ x => x) Evs.nil)) (f_asin_real _ _ _ _ _ _ hf hd9 has) (by k_is) (by k_is) (Nat.le_of_ble_eq_true rfl) rfl) (Sx.loc rfl) (Ex.ifp (Tr.cmpV (ne_tup O (fun _ _ x => x) (fun _ _ x => x)) (Ev.told O OC.toOkT (EvH.lamAsk [("precision", vInt precision), ("opposite", vReal om oe)] OC (Ev.lam (Pt := 476) O OC (codeHd_of_K O.X (by kernel_rfl)) (by decide) rfl (by k_mem) rfl rfl) (forall_cons ⟨rfl, rfl, _, rfl, rfl⟩ (forall_cons ⟨rfl, rfl, _, rfl, rfl⟩ (no_mem))) (forall_cons rfl (forall_cons rfl (no_mem))) (fun _ _ _ => rfl) (fun _ _ _ _ => real_or) (fun c g O OC => (Ev.callW O OC (Ev.capI (Ev.free rfl rfl)) (Ev.free rfl rfl) (fun _ _ x => x) (f_asin_real _ _ _ _ _ _ hfo hdo hbs) (by k_is) (by k_is) (Nat.le_of_ble_eq_true rfl) rfl))) (Nat.le_of_ble_eq_true rfl) (by k_is) (by k_is) rfl) (Ev.tuple (ns := [_, _]) (Evs.cons (Ev.sub Ev.cint (Ev.man O (Ev.loc rfl rfl) (fun _ _ x => x))) (Evs.cons (Ev.exp O (Ev.loc rfl rfl) (fun _ _ x => x)) Evs.nil))) (by first | rfl | simp | walk_at "v d")) (Ex.ifp (Tr.not1 (Tr.plain (Ev.call O (Evs.cons (Ev.cel OC rfl rfl rfl) (Evs.cons (Ev.ift (Tr.cmp (cmp_gt _ _) (Ev.loc rfl rfl) Ev.cint (by walk_at "v d")) (Ev.loc rfl rfl)) (Evs.cons (Ev.bcall O (Evs.cons (Ev.loc rfl rfl) Evs.nil) b_abs (by boot_by_name) (by k_is) rfl) (Evs.cons (Ev.loc rfl rfl) Evs.nil)))) (f_is_sine _ _ _ _ _ _ hsi) (by k_is) (by k_is) (Nat.le_of_ble_eq_true rfl) rfl) (by walk_at "v d"))) (Ex.ifr (Tr.cmp (cmp_eq _ _) (Ev.loc rfl rfl) (Ev.loc rfl rfl) (by walk_at "v d")) (Ex.ret (Ev.pin (Ev.asB (Ev.cmpV (eq_tup O (fun _ _ x => x) (fun _ _ x => x)) (Ev.told O OC.toOkT (EvH.lamAsk [("precision", vInt precision), ("real", er2 (bare (hideAll s.heap [Ll])) (eReal m e))] OC (Ev.lam (Pt := 476) O OC (codeHd_of_K O.X (by kernel_rfl)) (by decide) rfl (by k_mem) rfl rfl) (forall_cons ⟨rfl, rfl, _, rfl, rfl⟩ (forall_cons ⟨rfl, rfl, _, rfl, rfl⟩ (no_mem))) (forall_cons rfl (forall_cons rfl (no_mem))) (fun _ _ _ => rfl) (fun _ _ _ _ => real_new) (fun c g O OC => (Ev.callC O OC (Evs.cons (Ev.capI (Ev.free rfl rfl)) (Evs.cap (Ev.free rfl rfl) (fun _ _ x => x.1) Evs.nil)) (f_acos_real _ _ _ _ _ _ hf hd9 hac) (by k_is) (by k_is) (Nat.le_of_ble_eq_true rfl) rfl))) (Nat.le_of_ble_eq_true rfl) (by k_is) (by k_is) rfl) (Ev.tuple (ns := [_, _]) (Evs.cons Ev.cint (Evs.cons Ev.cint Evs.nil)))) (by first | rfl | simp | walk_at "v d")) rfl)))))))))))))
  · refine' enterA ["precision", "real"] (Ws := [vInt precision, er2 (bare (hideAll s.heap [Ll])) (eReal m e)]) ?hlim ?ho ?hcd ?hb ?hl ?hnd B TA hL hLd ⟨_, _, rfl, ⟨tp, rfl⟩, _, _, rfl, ⟨ar, ar⟩, rfl⟩ ?how ?_ ?c1 ?c2 ?c3 rfl ?pc
    (case hlim => decide)
    (case ho => k_is)
    (case hcd => k_is)
    (case hb => exact fun s => zip2 fun _ _ => BindsTo.of_eq rfl)
    (case hl => decide)
    (case hnd => decide +kernel)
    (case c1 => exact rfl)
    (case c2 => exact rfl)
    (case c3 => exact rfl)
    (case pc => exact rfl)
    (case how => exact forall_cons rfl (forall_cons rfl no_mem))
    exact fun c env hg hef hem O OC hfr => (Ex.unp2 O (Ev.call O (Evs.cap (Ev.cel OC rfl rfl rfl) (fun _ _ x => x) Evs.nil) (f_law_fraction _ _ _ hf) (by k_is) (by k_is) (Nat.le_of_ble_eq_true rfl) rfl) (fun _ _ x => x) (Sx.loc rfl) (Sx.loc rfl) (Ex.put (Ev.call O (Evs.cons (Ev.sub Ev.cint (Ev.man O (Ev.cel OC rfl rfl rfl) (fun _ _ x => x.1))) (Evs.cons (Ev.exp O (Ev.cel OC rfl rfl rfl) (fun _ _ x => x.1)) Evs.nil)) (f_lean _ _ _ hl) (by k_is) (by k_is) (Nat.le_of_ble_eq_true rfl) rfl) (Sx.cel O OC rfl rfl) (Ex.ifp (Tr.cmp (cmp_eq _ _) (Ev.man O (Ev.cel OC rfl rfl rfl) (fun _ _ x => x.1)) Ev.cint (by walk_at "v d")) (Ex.ifp (Tr.not1 (Tr.plain (Ev.call O (Evs.cons (Ev.cel OC rfl rfl rfl) (Evs.cons (Ev.callR O OC.toOkT (Evs.cons (Ev.cel OC rfl rfl rfl) (Evs.real (Ev.call O (Evs.cons (Ev.bcall O (Evs.cons (Ev.man O (Ev.cel OC rfl rfl rfl) (fun _ _ x => x.1)) Evs.nil) b_abs (by boot_by_name) (by k_is) rfl) (Evs.cons (Ev.exp O (Ev.cel OC rfl rfl rfl) (fun _ _ x => x.1)) Evs.nil)) (f_lean _ _ _ hl2) (by k_is) (by k_is) (Nat.le_of_ble_eq_true rfl) rfl) Evs.nil)) (f_atan_real _ _ _ _ ha0) (by k_is) (by k_is) (Nat.le_of_ble_eq_true rfl) rfl) (Evs.cons (Ev.bcall O (Evs.cons (Ev.loc rfl rfl) Evs.nil) b_abs (by boot_by_name) (by k_is) rfl) (Evs.cons (Ev.loc rfl rfl) Evs.nil)))) (f_is_arc _ _ _ _ _ _ hi) (by k_is) (by k_is) (Nat.le_of_ble_eq_true rfl) rfl) (by walk_at "v d"))) (Ex.put (Ev.callR O OC.toOkT (Evs.cons (Ev.cel OC rfl rfl rfl) (Evs.cap (Ev.cel OC rfl rfl rfl) (fun _ _ x => x) Evs.nil)) (f_atan_real _ _ _ _ ha) (by k_is) (by k_is) (Nat.le_of_ble_eq_true rfl) rfl) (Sx.loc rfl) (Ex.ifp (Tr.cmpV (ne_tup O (fun _ _ x => x) (fun _ _ x => x)) (Ev.told O OC.toOkT (EvH.lamAsk [("precision", vInt precision), ("opposite", vReal om oe)] OC (Ev.lam (Pt := 476) O OC (codeHd_of_K O.X (by kernel_rfl)) (by decide) rfl (by k_mem) rfl rfl) (forall_cons ⟨rfl, rfl, _, rfl, rfl⟩ (forall_cons ⟨rfl, rfl, _, rfl, rfl⟩ (no_mem))) (forall_cons rfl (forall_cons rfl (no_mem))) (fun _ _ _ => rfl) (fun _ _ _ _ => real_or) (fun c g O OC => (Ev.callW O OC (Ev.capI (Ev.free rfl rfl)) (Ev.free rfl rfl) (fun _ _ x => x) (f_atan_real _ _ _ _ hb) (by k_is) (by k_is) (Nat.le_of_ble_eq_true rfl) rfl))) (Nat.le_of_ble_eq_true rfl) (by k_is) (by k_is) rfl) (Ev.tuple (ns := [_, _]) (Evs.cons (Ev.sub Ev.cint (Ev.man O (Ev.loc rfl rfl) (fun _ _ x => x))) (Evs.cons (Ev.exp O (Ev.loc rfl rfl) (fun _ _ x => x)) Evs.nil))) (by first | rfl | simp | walk_at "v d")) (Ex.ifp (Tr.cmp (cmp_gt _ _) (Ev.bcall O (Evs.cons (Ev.loc rfl rfl) Evs.nil) b_abs (by boot_by_name) (by k_is) rfl) (Ev.loc rfl rfl) (by walk_at "v d")) (Ex.put (Ev.callR O OC.toOkT (Evs.cons (Ev.cel OC rfl rfl rfl) (Evs.cap (Ev.cel OC rfl rfl rfl) (fun _ _ x => x) Evs.nil)) (f_asin_real _ _ _ _ _ _ hf hd9 has) (by k_is) (by k_is) (Nat.le_of_ble_eq_true rfl) rfl) (Sx.loc rfl) (Ex.ifp (Tr.cmpV (ne_tup O (fun _ _ x => x) (fun _ _ x => x)) (Ev.told O OC.toOkT (EvH.lamAsk [("precision", vInt precision), ("opposite", vReal om oe)] OC (Ev.lam (Pt := 476) O OC (codeHd_of_K O.X (by kernel_rfl)) (by decide) rfl (by k_mem) rfl rfl) (forall_cons ⟨rfl, rfl, _, rfl, rfl⟩ (forall_cons ⟨rfl, rfl, _, rfl, rfl⟩ (no_mem))) (forall_cons rfl (forall_cons rfl (no_mem))) (fun _ _ _ => rfl) (fun _ _ _ _ => real_or) (fun c g O OC => (Ev.callW O OC (Ev.capI (Ev.free rfl rfl)) (Ev.free rfl rfl) (fun _ _ x => x) (f_asin_real _ _ _ _ _ _ hfo hdo hbs) (by k_is) (by k_is) (Nat.le_of_ble_eq_true rfl) rfl))) (Nat.le_of_ble_eq_true rfl) (by k_is) (by k_is) rfl) (Ev.tuple (ns := [_, _]) (Evs.cons (Ev.sub Ev.cint (Ev.man O (Ev.loc rfl rfl) (fun _ _ x => x))) (Evs.cons (Ev.exp O (Ev.loc rfl rfl) (fun _ _ x => x)) Evs.nil))) (by first | rfl | simp | walk_at "v d")) (Ex.ifp (Tr.not1 (Tr.plain (Ev.call O (Evs.cons (Ev.cel OC rfl rfl rfl) (Evs.cons (Ev.ift (Tr.cmp (cmp_gt _ _) (Ev.loc rfl rfl) Ev.cint (by walk_at "v d")) (Ev.loc rfl rfl)) (Evs.cons (Ev.bcall O (Evs.cons (Ev.loc rfl rfl) Evs.nil) b_abs (by boot_by_name) (by k_is) rfl) (Evs.cons (Ev.loc rfl rfl) Evs.nil)))) (f_is_sine _ _ _ _ _ _ hsi) (by k_is) (by k_is) (Nat.le_of_ble_eq_true rfl) rfl) (by walk_at "v d"))) (Ex.ifp (Tr.cmp (cmp_eq _ _) (Ev.loc rfl rfl) (Ev.loc rfl rfl) (by walk_at "v d")) (Ex.ret (Ev.pin (Ev.asB (Ev.call O (Evs.cons (Ev.cel OC rfl rfl rfl) (Evs.real (Ev.callC O OC.toOkT (Evs.cons (Ev.cel OC rfl rfl rfl) (Evs.cap (Ev.cel OC rfl rfl rfl) (fun _ _ x => x) Evs.nil)) (f_acos_real _ _ _ _ _ _ hf hd9 hac) (by k_is) (by k_is) (Nat.le_of_ble_eq_true rfl) rfl) (Evs.cons (Ev.loc rfl rfl) (Evs.cons (Ev.loc rfl rfl) Evs.nil)))) (f_is_cos _ _ _ _ _ _ hco) (by k_is) (by k_is) (Nat.le_of_ble_eq_true rfl) rfl) (by first | rfl | simp | walk_at "v d")) rfl)))))))))))))
  · refine' enterA ["precision", "real"] (Ws := [vInt precision, er2 (bare (hideAll s.heap [Ll])) (eReal m e)]) ?hlim ?ho ?hcd ?hb ?hl ?hnd B TA hL hLd ⟨_, _, rfl, ⟨tp, rfl⟩, _, _, rfl, ⟨ar, ar⟩, rfl⟩ ?how ?_ ?c1 ?c2 ?c3 rfl ?pc
    (case hlim => decide)
    (case ho => k_is)
    (case hcd => k_is)
    (case hb => exact fun s => zip2 fun _ _ => BindsTo.of_eq rfl)
    (case hl => decide)
    (case hnd => decide +kernel)
    (case c1 => exact rfl)
    (case c2 => exact rfl)
    (case c3 => exact rfl)
    (case pc => exact rfl)
    (case how => exact forall_cons rfl (forall_cons rfl no_mem))
    exact fun c env hg hef hem O OC hfr => (Ex.unp2 O (Ev.call O (Evs.cap (Ev.cel OC rfl rfl rfl) (fun _ _ x => x) Evs.nil) (f_law_fraction _ _ _ hf) (by k_is) (by k_is) (Nat.le_of_ble_eq_true rfl) rfl) (fun _ _ x => x) (Sx.loc rfl) (Sx.loc rfl) (Ex.put (Ev.call O (Evs.cons (Ev.sub Ev.cint (Ev.man O (Ev.cel OC rfl rfl rfl) (fun _ _ x => x.1))) (Evs.cons (Ev.exp O (Ev.cel OC rfl rfl rfl) (fun _ _ x => x.1)) Evs.nil)) (f_lean _ _ _ hl) (by k_is) (by k_is) (Nat.le_of_ble_eq_true rfl) rfl) (Sx.cel O OC rfl rfl) (Ex.ifp (Tr.cmp (cmp_eq _ _) (Ev.man O (Ev.cel OC rfl rfl rfl) (fun _ _ x => x.1)) Ev.cint (by walk_at "v d")) (Ex.ifp (Tr.not1 (Tr.plain (Ev.call O (Evs.cons (Ev.cel OC rfl rfl rfl) (Evs.cons (Ev.callR O OC.toOkT (Evs.cons (Ev.cel OC rfl rfl rfl) (Evs.real (Ev.call O (Evs.cons (Ev.bcall O (Evs.cons (Ev.man O (Ev.cel OC rfl rfl rfl) (fun _ _ x => x.1)) Evs.nil) b_abs (by boot_by_name) (by k_is) rfl) (Evs.cons (Ev.exp O (Ev.cel OC rfl rfl rfl) (fun _ _ x => x.1)) Evs.nil)) (f_lean _ _ _ hl2) (by k_is) (by k_is) (Nat.le_of_ble_eq_true rfl) rfl) Evs.nil)) (f_atan_real _ _ _ _ ha0) (by k_is) (by k_is) (Nat.le_of_ble_eq_true rfl) rfl) (Evs.cons (Ev.bcall O (Evs.cons (Ev.loc rfl rfl) Evs.nil) b_abs (by boot_by_name) (by k_is) rfl) (Evs.cons (Ev.loc rfl rfl) Evs.nil)))) (f_is_arc _ _ _ _ _ _ hi) (by k_is) (by k_is) (Nat.le_of_ble_eq_true rfl) rfl) (by walk_at "v d"))) (Ex.put (Ev.callR O OC.toOkT (Evs.cons (Ev.cel OC rfl rfl rfl) (Evs.cap (Ev.cel OC rfl rfl rfl) (fun _ _ x => x) Evs.nil)) (f_atan_real _ _ _ _ ha) (by k_is) (by k_is) (Nat.le_of_ble_eq_true rfl) rfl) (Sx.loc rfl) (Ex.ifp (Tr.cmpV (ne_tup O (fun _ _ x => x) (fun _ _ x => x)) (Ev.told O OC.toOkT (EvH.lamAsk [("precision", vInt precision), ("opposite", vReal om oe)] OC (Ev.lam (Pt := 476) O OC (codeHd_of_K O.X (by kernel_rfl)) (by decide) rfl (by k_mem) rfl rfl) (forall_cons ⟨rfl, rfl, _, rfl, rfl⟩ (forall_cons ⟨rfl, rfl, _, rfl, rfl⟩ (no_mem))) (forall_cons rfl (forall_cons rfl (no_mem))) (fun _ _ _ => rfl) (fun _ _ _ _ => real_or) (fun c g O OC => (Ev.callW O OC (Ev.capI (Ev.free rfl rfl)) (Ev.free rfl rfl) (fun _ _ x => x) (f_atan_real _ _ _ _ hb) (by k_is) (by k_is) (Nat.le_of_ble_eq_true rfl) rfl))) (Nat.le_of_ble_eq_true rfl) (by k_is) (by k_is) rfl) (Ev.tuple (ns := [_, _]) (Evs.cons (Ev.sub Ev.cint (Ev.man O (Ev.loc rfl rfl) (fun _ _ x => x))) (Evs.cons (Ev.exp O (Ev.loc rfl rfl) (fun _ _ x => x)) Evs.nil))) (by first | rfl | simp | walk_at "v d")) (Ex.ifp (Tr.cmp (cmp_gt _ _) (Ev.bcall O (Evs.cons (Ev.loc rfl rfl) Evs.nil) b_abs (by boot_by_name) (by k_is) rfl) (Ev.loc rfl rfl) (by walk_at "v d")) (Ex.put (Ev.callR O OC.toOkT (Evs.cons (Ev.cel OC rfl rfl rfl) (Evs.cap (Ev.cel OC rfl rfl rfl) (fun _ _ x => x) Evs.nil)) (f_asin_real _ _ _ _ _ _ hf hd9 has) (by k_is) (by k_is) (Nat.le_of_ble_eq_true rfl) rfl) (Sx.loc rfl) (Ex.ifp (Tr.cmpV (ne_tup O (fun _ _ x => x) (fun _ _ x => x)) (Ev.told O OC.toOkT (EvH.lamAsk [("precision", vInt precision), ("opposite", vReal om oe)] OC (Ev.lam (Pt := 476) O OC (codeHd_of_K O.X (by kernel_rfl)) (by decide) rfl (by k_mem) rfl rfl) (forall_cons ⟨rfl, rfl, _, rfl, rfl⟩ (forall_cons ⟨rfl, rfl, _, rfl, rfl⟩ (no_mem))) (forall_cons rfl (forall_cons rfl (no_mem))) (fun _ _ _ => rfl) (fun _ _ _ _ => real_or) (fun c g O OC => (Ev.callW O OC (Ev.capI (Ev.free rfl rfl)) (Ev.free rfl rfl) (fun _ _ x => x) (f_asin_real _ _ _ _ _ _ hfo hdo hbs) (by k_is) (by k_is) (Nat.le_of_ble_eq_true rfl) rfl))) (Nat.le_of_ble_eq_true rfl) (by k_is) (by k_is) rfl) (Ev.tuple (ns := [_, _]) (Evs.cons (Ev.sub Ev.cint (Ev.man O (Ev.loc rfl rfl) (fun _ _ x => x))) (Evs.cons (Ev.exp O (Ev.loc rfl rfl) (fun _ _ x => x)) Evs.nil))) (by first | rfl | simp | walk_at "v d")) (Ex.ifp (Tr.not1 (Tr.plain (Ev.call O (Evs.cons (Ev.cel OC rfl rfl rfl) (Evs.real (Ev.iff (Tr.cmp (cmp_gt _ _) (Ev.loc rfl rfl) Ev.cint (by walk_at "v d")) (Ev.call O (Evs.cons (Ev.sub Ev.cint (Ev.man O (Ev.loc rfl rfl) (fun _ _ x => x))) (Evs.cons (Ev.exp O (Ev.loc rfl rfl) (fun _ _ x => x)) Evs.nil)) (f_lean _ _ _ hln) (by k_is) (by k_is) (Nat.le_of_ble_eq_true rfl) rfl)) (Evs.cons (Ev.bcall O (Evs.cons (Ev.loc rfl rfl) Evs.nil) b_abs (by boot_by_name) (by k_is) rfl) (Evs.cons (Ev.loc rfl rfl) Evs.nil)))) (f_is_sine _ _ _ _ _ _ hsi) (by k_is) (by k_is) (Nat.le_of_ble_eq_true rfl) rfl) (by walk_at "v d"))) (Ex.ifp (Tr.cmp (cmp_eq _ _) (Ev.loc rfl rfl) (Ev.loc rfl rfl) (by walk_at "v d")) (Ex.ret (Ev.pin (Ev.asB (Ev.call O (Evs.cons (Ev.cel OC rfl rfl rfl) (Evs.real (Ev.callC O OC.toOkT (Evs.cons (Ev.cel OC rfl rfl rfl) (Evs.cap (Ev.cel OC rfl rfl rfl) (fun _ _ x => x) Evs.nil)) (f_acos_real _ _ _ _ _ _ hf hd9 hac) (by k_is) (by k_is) (Nat.le_of_ble_eq_true rfl) rfl) (Evs.cons (Ev.loc rfl rfl) (Evs.cons (Ev.loc rfl rfl) Evs.nil)))) (f_is_cos _ _ _ _ _ _ hco) (by k_is) (by k_is) (Nat.le_of_ble_eq_true rfl) rfl) (by first | rfl | simp | walk_at "v d")) rfl)))))))))))))
end Mine
end
noncomputable section
open PySem PySem.W PyProof.Rows PySem.Calls
set_option Elab.async false
set_option maxRecDepth 100000
set_option maxHeartbeats 4000000
set_option linter.all false
set_option exponentiation.threshold 5000
set_option genInjectivity false
set_option genSizeOf false
namespace Mine
theorem filledW24 : PySem.Challenge.rw_pc0352_01 = PySem.Challenge.rw_pc0352_01 ∧ hd.heap_39 = hd.heap_39 := by
  k_fill
  exact ⟨rfl, rfl⟩
section
variable {c : Cx} {sc : Scope} {σ σ1 : Sto} {s : Shared} {d : Nat}
theorem run_sine {st : Stmt} {t x : Expr} {pos p2 : Pos} {E : Value → Shared → Prop} (S0 : St c sc σ [] s) (hu : Es c sc σ st (.next σ1)) (ht : Tr c sc σ1 t true) (hr : ∀ s1, St c sc σ1 [] s1 → wpAny (model Pg c.w) c.A (exec (.Raise (some x) none pos) (c.env sc)) (fun _ _ => False) E s1) :
    wpAny (model Pg c.w) c.A (execs [st, .If t [.Raise (some x) none pos] [] p2] (c.env sc)) (fun _ _ => False) E s :=
  wpAny_execs_cons (wpAny_mono (@hu (fun f s' => match f with | .next => wpAny (model Pg c.w) c.A (execs [.If t [.Raise (some x) none pos] [] p2] (c.env sc)) (fun _ _ => False) E s' | _ => False) s S0 fun s1 S1 =>
    wpAny_execs_cons (wpAny_If (wpAny_mono (ht (fun b s' => ∃ s'', b = true ∧ s' = s'' ∧ St c sc σ1 [] s'') s1 S1 fun s2 S2 => ⟨s2, rfl, rfl, S2⟩) (fun b s2 hb => by
      obtain ⟨s3, rfl, rfl, S3⟩ := hb
      exact wpAny_execs_cons (wpAny_mono (hr s2 S3) (fun _ _ x => x.elim) fun _ _ x => x)) fun _ _ x => x.elim))) (fun f s' h => by cases f <;> first | exact h | exact h.elim) fun _ _ x => x.elim)
end
/-- the entry of a def that ends by OutOfDomain -/
theorem raise_of {w : World} {d : Nat} {s : Shared} {f : Addr} {vs : List Value} {Ws : List Val} {base : Heap} {outer : List Env} {name qual : Str} {params : Arguments} {body : List Stmt} {scope : Scope} {dV kV doc pm cdv ct oc : Value} {an od : Option Addr} {osl : Array (Option Value)} (xs : List Str) (hlim : d < recursionLimit)
    (ho : (hd.heap_39 w.params).lookup f = some ⟨oc, od, .func (fnOf name qual params body scope dV kV doc pm an cdv ct), osl⟩) (hcd : codeIn (hd.heap_39 w.params) cdv qual = true)
    (hb : ∀ s vs, vs.length = xs.length → BindsTo s (fnOf name qual params body scope dV kV doc pm an cdv ct) ⟨vs, []⟩ (xs.zip vs)) (hl : ∀ x ∈ xs, scope.names.lookup x = some .local)
    (B : Base w s.heap) (S : Sky base outer s.heap) (hbs : base.objs.size ≤ s.heap.objs.size) (R : Reps s.heap vs Ws) (how : ∀ W ∈ Ws, W.own = false)
    (h : ∀ c : Cx, c.w = w → c.g = s.heap → c.s0 = s → Ok c (d + 1) → ∀ s1, St c scope (xs.zip Ws).reverse [] s1 → wpAny (model Pg c.w) c.A (execs body (c.env scope)) (fun _ _ => False) (Gone base (c.env scope :: outer) s) s1)
    (hco : scope.isCoroutine = false) (hgen : scope.isGenerator = false) (hk : scope.kind = .function) (hcell : ∀ x ∈ scope.names, x.2 ≠ .cell) (hn : Ws.length = xs.length) : Raises w d (.ref f) vs s base outer := fun A Q E Rm hfr hE => by
  have B0 := B
  obtain ⟨X, loose, mean, mg, mb, T⟩ := B
  refine enterR (binds := xs.zip vs) Rm hfr hlim B0 S hbs ho hcd (hb s vs (R.len.trans hn)) (fun y hy => hl _ (List.of_mem_zip hy).1) hE (fun L' h₁ F N => ?_) hco hgen hk hcell
  refine h ⟨w, (Af d outer).deeper (envOf qual scope L' f cdv), s.heap, L', qual, f, cdv, [], [], s, loose, mean, mg, mb, fun rest => rest = []⟩ rfl rfl rfl ⟨X, T, ⟨rfl, Nat.le_refl _, (show 10 * d + 3 ≤ 10 * (d + 1) by omega)⟩, fun rest h p hp => by rw [show rest = [] from h] at hp; cases hp⟩ _ ⟨_, fun _ => none, [], [], [], F, N, no_mem, .nil, rfl, rfl, fun x V hx => ?_, no_mem⟩
  obtain ⟨v, h1, h2⟩ := (Loc.rev (Loc.zip R how xs) .nil).get x V hx
  have hm := hl x (look_in (β := Val) h1)
  exact ⟨v, ⟨fun _ => h1, fun h => (by rw [hm] at h; cases h), fun h => (by rw [hm] at h; cases h)⟩, h2⟩
theorem f_sine_raises {w : World} {s : Shared} {nm : Str} {tn : Tok} {real : Addr} {realm reale f0 f1 : Int} {base : Heap} {outer : List Env} (B : Base w s.heap) (S : Sky base outer s.heap) (hbs : base.objs.size ≤ s.heap.objs.size) (ar : RealIn (fun a o => s.heap.get? a = some o) (.ref real) realm reale) (hp : fracF realm reale = some (f0, f1)) (hgt : f1 < iabs f0) :
    Raises w 870 (.ref 350) [.str nm tn, .ref real] s base outer := by
  refine' raise_of ["name", "real"] (Ws := [vStr nm, eReal realm reale]) ?hd ?ho ?hcd ?hb ?hl B S hbs ⟨_, _, rfl, ⟨tn, rfl⟩, _, _, rfl, ar, rfl⟩ (forall_cons rfl (forall_cons rfl no_mem)) ?_ ?c1 ?c2 ?c3 ?c4 rfl
  (case hd => decide)
  (case ho => k_is)
  (case hcd => k_is)
  (case hb => exact fun s => zip2 fun _ _ => BindsTo.of_eq rfl)
  (case hl => decide)
  (case c1 => exact rfl)
  (case c2 => exact rfl)
  (case c3 => exact rfl)
  (case c4 => decide)
  intro c hw hg hs O s1 S1
  refine run_sine S1 (Es.unpack [("top", _), ("bottom", _)] O (Ev.call O (Evs.cons (Ev.loc rfl rfl) Evs.nil) (f_fraction_of _ realm reale hp) (by k_is) (by k_is) (Nat.le_of_ble_eq_true rfl) rfl) (fun _ _ x => x) (forall_cons (Sx.loc rfl) (forall_cons (Sx.loc rfl) no_mem)) rfl rfl rfl rfl) (Tr.cmp (cmp_gt _ _) (Ev.bcall O (Evs.cons (Ev.loc rfl rfl) Evs.nil) b_abs (by boot_by_name) (by k_is) rfl) (Ev.loc rfl rfl) (decide_eq_true hgt)) fun s1 S1 => ?_
  obtain ⟨mm, κ, own, cells, rest, F1, N1, K, Y, TI, e, l, t⟩ := S1
  obtain ⟨v, hv, t1, rfl⟩ := l "name" (vStr nm) rfl
  rw [hg] at F1 N1
  have X := hg ▸ O.X
  have T := hg ▸ O.T
  refine exec_raiseK (w := c.w) O.R.h (Call_ (nameX_K F1 X (topRead_of T) (by k_is) (callWith_K X (by k_is) (args_cons (nameX_L F1 (hv.loc rfl) (args_nil ⟨Frag.In.keeps X F1.keep, ?_⟩))))))
  refine useExc (c_out_of_domain (baseAt X T F1)) (room_of O (Nat.le_of_ble_eq_true rfl)) F1 N1 fun e' t' dx h' tk' F' N' st hn => ?_
  exact gone_new S hbs (fun q => by cases q) rfl F' X N' (.head _) (by rw [e, hs])
end Mine
end
noncomputable section
open PySem PySem.W PyProof.Rows PySem.Calls
set_option Elab.async false
set_option maxRecDepth 100000
set_option maxHeartbeats 4000000
set_option linter.all false
set_option exponentiation.threshold 5000
set_option genInjectivity false
set_option genSizeOf false
namespace Mine
theorem filledW25 : PySem.Challenge.rw_pc0352_01 = PySem.Challenge.rw_pc0352_01 ∧ hd.heap_39 = hd.heap_39 := by
  k_fill
  exact ⟨rfl, rfl⟩

theorem enterRC {w : World} {A : Around} {E Q : Value → Shared → Prop} {s : Shared} {base : Heap} {outer : List Env} {d : Nat} {name qual : Str} {params : Arguments} {body : List Stmt} {scope : Scope} {dV kV doc pm cdv ct oc : Value} {an od : Option Addr} {osl : Array (Option Value)} {f : Addr} {vs : List Value} {binds : List (Str × Value)}
    (R : Room A d) (hfr : A.frames = some outer) (hroom : d < recursionLimit) (B : Base w s.heap) (S : Sky base outer s.heap) (hbs : base.objs.size ≤ s.heap.objs.size)
    (ho : (hd.heap_39 w.params).lookup f = some ⟨oc, od, .func (fnOf name qual params body scope dV kV doc pm an cdv ct), osl⟩) (hcd : codeIn (hd.heap_39 w.params) cdv qual = true)
    (hbind : BindsTo s (fnOf name qual params body scope dV kV doc pm an cdv ct) ⟨vs, []⟩ binds)
    (hE : ∀ e a0 h' tk, Heap.FlyingW base outer e (.ref 70) a0 h' → s.heap.UpToSlots h' → E (.ref e) { s with heap := h', toks := tk })
    (hkind : (binds.all fun y => scope.names.lookup y.1 == some .local || scope.names.lookup y.1 == some .cell) = true)
    (hnd : ((cellsFrom 0 scope.names []).map (·.1)).Nodup) (mm : Str → Option Value) (hmm : ∀ L' : Addr, bindL (envOfC qual scope L' f cdv).kindOf binds (fun _ => none) = mm)
    (h : ∀ L' h₁ tk cells, Fr s.heap L' h₁ mm → News s.heap L' h₁ cells →
      CellsAre (bindC (envOfC qual scope L' f cdv).kindOf binds fun _ => none) (cellsFrom (L' + 1) scope.names []) cells →
      wpAny (model Pg w) ((Af d outer).deeper (envOfC qual scope L' f cdv)) (execs body (envOfC qual scope L' f cdv))
        (fun _ _ => False) (Gone base (envOfC qual scope L' f cdv :: outer) s)
        { s with heap := h₁, toks := tk })
    (hco : scope.isCoroutine = false) (hgen : scope.isGenerator = false) (hk : scope.kind = .function) : wpAny (model Pg w) A (call (.ref f) vs) Q E s := by
  obtain ⟨l, me, mg, mb, T⟩ := B.T
  refine wpAny_call (cd_weakF R hfr ?_)
  refine codeAny_call_function (fd := fnOf name qual params body scope dV kV doc pm an cdv ct) hroom (B.K _ _ ho) rfl hco hgen rfl (codeRec_of B.K hcd) (hbind _ _ _ _ ?_)
  refine wpAny_newFunctionEnv_cells hk (kindsX hkind _) fun env' he s' x => ?_
  subst he
  refine ⟨T.nolimit.keeps x.toInCall.keep, codeAny_func ?_⟩
  obtain ⟨h₁, tk, rfl, _⟩ := x.done
  have hk₁ := x.toInCall.keep
  obtain ⟨cells, NC, Y⟩ := Cl.news (h₀ := s.heap) (Nat.le_refl _) fun n c hm => ⟨x.cell n c (lookup_of_mem_nodup (cellsFrom_names scope.names 0 (s.heap.objs.size + 1) [] [] rfl ▸ hnd) hm), x.above n c hm⟩
  have F : Fr s.heap s.heap.objs.size h₁ mm := ⟨hmm s.heap.objs.size ▸ x.toInCall.ns, hk₁, Nat.le_refl _⟩
  refine wpAny_mono (h _ h₁ tk cells F (fun p hp => NC p hp) Y) (fun _ _ x => x.elim) (fun v s' x => ?_)
  exact leave_gone rfl rfl x fun e a0 h' tk ev fl up => ev ▸ hE e a0 h' tk fl up

theorem f_asin_raises {w : World} {s : Shared} {precision : Int} {tp : Tok} {x : Addr} {m e f0 f1 : Int} {base : Heap} {outer : List Env} (B : Base w s.heap) (S : Sky base outer s.heap) (hbs : base.objs.size ≤ s.heap.objs.size) (ar : RealIn (fun a o => s.heap.get? a = some o) (.ref x) m e) (hf : fracF m e = some (f0, f1)) (hgt : f1 < iabs f0) :
    Raises w 680 (.ref 371) [.int precision tp, .ref x] s base outer := by
  intro A Q E R hfr h
  have B0 := B
  obtain ⟨X, loose, mean, mg, mb, T⟩ := B
  refine' enterRC (binds := [("precision", .int precision tp), ("real", .ref x)]) R hfr ?hd B0 S hbs ?ho ?hcd ?hb h ?hk ?hn (fun y => if y = "precision" then some (Value.int precision tp) else none) ?hm ?_ ?c1 ?c2 ?c3
  (case hd => decide)
  (case ho => k_is)
  (case hcd => k_is)
  (case hb => exact BindsTo.of_eq rfl)
  (case hk => exact rfl)
  (case hn => decide +kernel)
  (case hm => (intro L9; rfl))
  (case c1 => exact rfl)
  (case c2 => exact rfl)
  (case c3 => exact rfl)
  intro L' h₁ tk cells F N Y
  obtain ⟨o, ho, hd⟩ := cells_get Y (x := "real") (a := L' + 1) rfl
  refine wpAny_execs_cons (wpAny_Expr_any (Call_ (nameX_K (cl := cellsFrom (L' + 1) _ []) F X (topRead_of T) (by k_is) (callWith_K X (by k_is) (args_cons (wpAny_Constant_str (args_cons (nameX_C (cl := cellsFrom (L' + 1) _ []) N rfl ho hd (args_nil ⟨Frag.In.keeps X F.keep, ?_⟩)))))))))
  refine f_sine_raises (base := base) (outer := envOfC _ _ L' _ _ :: outer) (baseAt X T F) (S.push F hbs (fun q => by cases q) rfl) (Nat.le_trans hbs (Nat.le_trans F.above (Nat.le_of_lt F.ns.lt))) ((eReal m e).mono (fun b o e => F.keep b o e) ar) hf hgt _ _ _ ⟨rfl, Nat.le_of_ble_eq_true rfl, Nat.le_of_ble_eq_true rfl⟩ rfl fun e' a0 h' tk' fl up => ⟨e', rfl, rfl, .inl ⟨a0, fl, (upTo_of F.keep).trans up⟩⟩

theorem f_acos_raises {w : World} {s : Shared} {precision : Int} {tp : Tok} {x : Addr} {m e f0 f1 : Int} {base : Heap} {outer : List Env} (B : Base w s.heap) (S : Sky base outer s.heap) (hbs : base.objs.size ≤ s.heap.objs.size) (ar : RealIn (fun a o => s.heap.get? a = some o) (.ref x) m e) (hf : fracF m e = some (f0, f1)) (hgt : f1 < iabs f0) :
    Raises w 680 (.ref 385) [.int precision tp, .ref x] s base outer := by
  intro A Q E R hfr h
  have B0 := B
  obtain ⟨X, loose, mean, mg, mb, T⟩ := B
  refine' enterRC (binds := [("precision", .int precision tp), ("real", .ref x)]) R hfr ?hd B0 S hbs ?ho ?hcd ?hb h ?hk ?hn (fun y => if y = "precision" then some (Value.int precision tp) else none) ?hm ?_ ?c1 ?c2 ?c3
  (case hd => decide)
  (case ho => k_is)
  (case hcd => k_is)
  (case hb => exact BindsTo.of_eq rfl)
  (case hk => exact rfl)
  (case hn => decide +kernel)
  (case hm => (intro L9; rfl))
  (case c1 => exact rfl)
  (case c2 => exact rfl)
  (case c3 => exact rfl)
  intro L' h₁ tk cells F N Y
  obtain ⟨o, ho, hd⟩ := cells_get Y (x := "real") (a := L' + 1) rfl
  refine wpAny_execs_cons (wpAny_Expr_any (Call_ (nameX_K (cl := cellsFrom (L' + 1) _ []) F X (topRead_of T) (by k_is) (callWith_K X (by k_is) (args_cons (wpAny_Constant_str (args_cons (nameX_C (cl := cellsFrom (L' + 1) _ []) N rfl ho hd (args_nil ⟨Frag.In.keeps X F.keep, ?_⟩)))))))))
  refine f_sine_raises (base := base) (outer := envOfC _ _ L' _ _ :: outer) (baseAt X T F) (S.push F hbs (fun q => by cases q) rfl) (Nat.le_trans hbs (Nat.le_trans F.above (Nat.le_of_lt F.ns.lt))) ((eReal m e).mono (fun b o e => F.keep b o e) ar) hf hgt _ _ _ ⟨rfl, Nat.le_of_ble_eq_true rfl, Nat.le_of_ble_eq_true rfl⟩ rfl fun e' a0 h' tk' fl up => ⟨e', rfl, rfl, .inl ⟨a0, fl, (upTo_of F.keep).trans up⟩⟩

theorem fnKeep9 {q : Addr} {h h' : Heap} (X : FnAt q h) (k : h.StaysIn h') : FnAt q h' := let ⟨a, b, c, e, x⟩ := X; ⟨a, b, c, e, k _ _ x⟩
theorem f_told_refused {w : World} {s : Shared} {f : Addr} {base : Heap} {outer : List Env} (B : Base w base) (S : Sky base outer s.heap) (hbs : base.objs.size ≤ s.heap.objs.size) (hfn : FnAt f base)
    (hask : ∀ s2 outer2, Base w s2.heap → Sky base outer2 s2.heap → base.objs.size ≤ s2.heap.objs.size → Raises w 670 (.ref f) [] s2 base outer2)
    {A : Around} {Q E : Value → Shared → Prop} (R : Room A 660) (hfr : A.frames = some outer) (h : ∀ t h' tk, base.StaysIn h' → s.heap.UpToSlots h' → Q (.str "refused" t) { s with heap := h', toks := tk }) :
    wpAny (model Pg w) A (call (.ref 474) [.ref f]) Q E s := by
  have B0 := B
  obtain ⟨X, loose, mean, mg, mb, T⟩ := B
  refine' enterF (binds := [("asked", .ref f)]) R hfr ?hd B0 S hbs ?ho ?hcd ?hb ?hl ?_ ?c1 ?c2 ?c3 ?c4
  (case hd => decide)
  (case ho => k_is)
  (case hcd => k_is)
  (case hb => exact BindsTo.of_eq rfl)
  (case hl => exact locs rfl)
  (case c1 => exact rfl)
  (case c2 => exact rfl)
  (case c3 => exact rfl)
  (case c4 => decide)
  intro L' h₁ F N S1 up1
  refine wpAny_execs_cons (wpAny_Try_except (wpAny_execs_cons (wpAny_Assign_Name (Call_ (nameX_L (cl := []) F rfl (callWith_F0 (fnKeep9 hfn F.keep) ?_))) rfl)))
  refine hask _ (envOf _ _ _ _ _ :: outer) (baseAt X T F) S1 (Nat.le_trans F.above (Nat.le_of_lt F.ns.lt)) _ _ _ ⟨rfl, Nat.le_of_ble_eq_true rfl, Nat.le_of_ble_eq_true rfl⟩ rfl fun e a0 h' tk' fl up => ?_
  refine caught_E fl F up X T (by k_is) fun h2 F2 up2 => ?_
  exact wpAny_execs_cons (wpAny_Return_some (wpAny_Constant_str (h _ _ _ F2.keep (up1.trans (up.trans up2)))))
theorem ne_dict {h : Heap} {q : Addr × Obj} {Ll : Addr} {oL : Obj} {es : Array DictEntry} {nn : Nat} (hq : h.get? q.1 = some q.2) (hL : h.get? Ll = some oL) (hd : oL.data = .dict es nn) (nd : ∀ es n, q.2.data ≠ .dict es n) : q.1 ≠ Ll := fun z => by
  rw [z, hL] at hq; cases hq
  exact nd _ _ hd
theorem nd_cell {o : Obj} {v : Option Value} (h : o.data = .cell v) : ∀ es n, o.data ≠ .dict es n := fun es n q => by rw [h] at q; cases q
/-- a call of _law_told whose lambda ends by OutOfDomain -/
theorem useNo {w : World} {A : Around} {E Q : Value → Shared → Prop} {s : Shared} {f Ll L : Addr} {oL : Obj} {env env' : Env} {g : Heap} {mm : Str → Option Value} {rest : List (Addr × Obj)} (own : List (Addr × Obj)) (hfr : A.frames = some [env', env]) (hk1 : env'.scope.kind ≠ .module) (hf1 : env'.frame = some L) (hk2 : env.scope.kind ≠ .module) (hf2 : env.frame = some Ll)
    (R : Room A 660) (B : Base w (bare g)) (F : Fr (bare g) L s.heap mm) (N : News (bare g) L s.heap (own ++ (Ll, oL) :: rest)) (TI : TabsIn (bare g) rest) (hown : ∀ q ∈ own, q.1 ≠ Ll) (hLd : ∀ vs, oL.data ≠ .fields vs)
    (hfn : ∀ h : Heap, (∀ p ∈ own, h.get? p.1 = some p.2) → (bare g).StaysIn h → FnAt f h)
    (hask : ∀ (base : Heap) (s2 : Shared) (outer2 : List Env), (∀ p ∈ own, s2.heap.get? p.1 = some p.2) → (∀ v q, CrL (bare g) rest v q → s2.heap.CodeRec v q) → (bare g).StaysIn s2.heap → Base w s2.heap → Sky base outer2 s2.heap → base.objs.size ≤ s2.heap.objs.size → Raises w 670 (.ref f) [] s2 base outer2)
    (h : ∀ t h' tk sl, Fr (bare g) L h' mm → News (bare g) L h' (own ++ (Ll, { oL with slots := sl }) :: rest) → TabsIn (bare g) rest → Q (.str "refused" t) { s with heap := h', toks := tk }) : wpAny (model Pg w) A (call (.ref 474) [.ref f]) Q E s := by
  have mL : (Ll, oL) ∈ own ++ (Ll, oL) :: rest := List.mem_append_right _ (.head _)
  have gL : (bare g).get? L = none := Heap.get?_none_of_le F.above
  have st : (bare g).StaysIn (hideAll s.heap [L, Ll]) := fun b o e => hideAll_get _ (F.keep b o e) fun hb => by
    simp only [List.mem_cons, List.not_mem_nil, or_false] at hb
    rcases hb with rfl | rfl
    · rw [gL] at e; cases e
    · rw [(N _ mL).2.2] at e; cases e
  have ro : ∀ p ∈ own, (hideAll s.heap [L, Ll]).get? p.1 = some p.2 := fun p hp => hideAll_get _ (N p (List.mem_append_left _ hp)).1 fun hb => by
    simp only [List.mem_cons, List.not_mem_nil, or_false] at hb
    rcases hb with q | q
    · exact (N p (List.mem_append_left _ hp)).2.1 q
    · exact hown p hp q
  have rr : ∀ p ∈ rest, (hideAll s.heap [L, Ll]).get? p.1 = some p.2 := fun p hp => hideAll_get _ (N p (List.mem_append_right _ (.tail _ hp))).1 fun hb => by
    have n := N p (List.mem_append_right _ (.tail _ hp))
    simp only [List.mem_cons, List.not_mem_nil, or_false] at hb
    rcases hb with q | q
    · exact n.2.1 q
    · have e := n.1
      rw [q, (N _ mL).1] at e
      have ef : ∃ vs, p.2.data = .fields vs := by
        obtain ⟨tb, codes, rfl, ok, ir⟩ := TI
        rcases List.mem_append.mp hp with hp | hp
        · obtain ⟨P, hP, rfl⟩ := List.mem_map.mp hp
          exact ⟨_, rfl⟩
        · obtain ⟨vs, _, _, hd, _⟩ := ir p hp
          exact ⟨vs, hd⟩
      obtain ⟨vs, hv⟩ := ef
      cases e
      exact hLd vs hv
  have B0 : Base w (hideAll s.heap [L, Ll]) := ⟨Frag.In.keeps B.K st, let ⟨l, me, mg, mb, T⟩ := B.T; ⟨l, me, mg, mb, T.keeps st⟩⟩
  obtain ⟨oN, es, ep, eN, dN, _⟩ := F.ns
  have S : Sky (hideAll s.heap [L, Ll]) [env', env] s.heap := ⟨fun b o e => of_hideAll _ e, hk1, ⟨L, oN, hf1, hideAll_none _ (.head _), eN, fun vs q => by rw [dN] at q; cases q⟩, hk2, ⟨Ll, oL, hf2, hideAll_none _ (.tail _ (.head _)), (N _ mL).1, hLd⟩, trivial⟩
  refine f_told_refused B0 S (Nat.le_of_eq (hideAll_size _ _)) (hfn _ ro st) (fun s2 outer2 B2 S2 hb2 => hask _ s2 outer2 (fun p hp => S2.stays _ _ (ro p hp)) (fun v q c => ?_) (fun b o e => S2.stays _ _ (st b o e)) B2 S2 hb2) R hfr fun t h' tk k up => ?_
  · rcases c with ⟨c, oc, vs, t, e, gc, r⟩ | ⟨c, oc, vs, t, e, gc, r⟩
    · exact ⟨c, oc, vs, t, e, S2.stays _ _ (st _ _ gc), r⟩
    · exact ⟨c, oc, vs, t, e, S2.stays _ _ (rr _ gc), r⟩
  · have F' := F.of_stays (fun b o e => k b o (st b o e)) up
    obtain ⟨sl, hsl⟩ := up Ll oL (N _ mL).1 hLd
    refine h t h' tk sl F' (fun p hp => ?_) TI
    rcases List.mem_append.mp hp with hp | hp
    · exact ⟨k _ _ (ro p hp), (N p (List.mem_append_left _ hp)).2⟩
    · rcases List.mem_cons.mp hp with rfl | hp
      · exact ⟨hsl, (N _ mL).2⟩
      · exact ⟨k _ _ (rr p hp), (N p (List.mem_append_right _ (.tail _ hp))).2⟩

end Mine
end
noncomputable section
open PySem PySem.W PyProof.Rows PySem.Calls
set_option Elab.async false
set_option maxRecDepth 100000
set_option maxHeartbeats 4000000
set_option linter.all false
set_option exponentiation.threshold 5000
set_option genInjectivity false
set_option genSizeOf false
namespace Mine
theorem filledW26 : PySem.Challenge.rw_pc0352_01 = PySem.Challenge.rw_pc0352_01 ∧ hd.heap_39 = hd.heap_39 := by
  k_fill
  exact ⟨rfl, rfl⟩
/-- it stands on nothing of the ledger -/
def NoOwn (c : Cx) (V : Val) : Prop := ∀ n n' v, V.rep c.g n v → V.rep c.g n' v
theorem noown_self {c : Cx} {V : Val} (h : ∀ P P' v, V.p P v → V.p P' v) : NoOwn c V := fun _ _ _ x => h _ _ _ x
theorem noown_er2 {c : Cx} {V : Val} {g : Heap} (hg : c.g = g) : NoOwn c (er2 g V) := fun _ _ _ x => ⟨V.mono (fun _ _ y => .inr ⟨rfl, hg ▸ y⟩) x.2, x.2⟩
/-- an expression whose value leaves no object on the ledger that is asked for -/
def EvN (c : Cx) (sc : Scope) (σ : Sto) (e : Expr) (V : Val) : Prop := ∀ ⦃τ⦄ (Q : Value → Shared → Prop) s, (∀ p ∈ τ, NoOwn c p.2) → St c sc σ τ s → (∀ v s', St c sc σ ((v, V) :: τ) s' → Q v s') → wpAny (model Pg c.w) c.A (eval e (c.env sc)) Q noE s
section
variable {c : Cx} {sc : Scope} {σ σ1 : Sto} {τ τ' : Tmp} {s : Shared} {V W : Val} {r : Res} {d : Nat} {v : Value} {cdv : Value} {q : Str}
theorem EvN.refused {p1 pos : Pos} {e1 : Expr} {params : Arguments} {scope : Scope} {clos : List (Str × Addr)} {qual fn : Str} {pf px1 px2 pc : Pos} {fa Ll : Addr} {oL : Obj} {es : Array DictEntry} {nn : Nat} {env : Env} {g : Heap} {p m e' : Int} (O : Ok c d) (OC : OkC c sc cdv q) (hg : c.g = g) (hr : d ≤ 660) (hfr : c.A.frames = some [c.env sc, env]) (hef : env.frame = some Ll) (hem : env.scope.kind ≠ .module) (hLd : oL.data = .dict es nn)
    (h : Ev c sc σ e1 (vFn (lamObj qual params (.Call (.Name fn pf) [.Name "precision" px1, .Name "real" px2] [] pc) scope clos) qual))
    (hσ : σ = ([("%", vFr Ll oL), ("precision", vInt p), ("real", er2 g (eReal m e'))] : Sto)) (h1 : sc.names.lookup ("precision" : Str) = some .cell) (h2 : sc.names.lookup ("real" : Str) = some .cell)
    (ha1 : ∃ a, clos.lookup ("precision" : Str) = some a ∧ (cellsFrom (c.L + 1) sc.names []).lookup ("precision" : Str) = some a) (ha2 : ∃ a, clos.lookup ("real" : Str) = some a ∧ (cellsFrom (c.L + 1) sc.names []).lookup ("real" : Str) = some a)
    (hb : ∀ pm cdv ctv, bindArgs (kla_fn "<lambda>" qual params (.Call (.Name fn pf) [.Name "precision" px1, .Name "real" px2] [] pc) scope clos pm cdv ctv) ⟨[], []⟩ = pure [])
    (hrz : ∀ {w : World} {s : Shared} {tp : Tok} {x : Addr} {base : Heap} {outer : List Env}, Base w s.heap → Sky base outer s.heap → base.objs.size ≤ s.heap.objs.size → RealIn (fun a o => s.heap.get? a = some o) (.ref x) m e' → Raises w 680 (.ref fa) [.int p tp, .ref x] s base outer)
    (hfn : ∀ w : World, nsIn (hd.heap_39 w.params) mainGlobals fn = some (some (.ref fa)) ∧ keepIn (hd.heap_39 w.params) (.ref fa) = true) (hf1 : scope.names.lookup ("precision" : Str) = some .free) (hf2 : scope.names.lookup ("real" : Str) = some .free) (hfg : scope.names.lookup fn = some .globalImplicit) (hfd : (fn == ("__debug__" : Str)) = false)
    (hf : nsIn (hd.heap_39 c.w.params) mainGlobals "_law_told" = some (some (.ref 474))) (hk : keepIn (hd.heap_39 c.w.params) (.ref 474) = true)
    (hx : sc.names.lookup ("_law_told" : Str) = some .globalImplicit) (hs : sc.kind = .function := by rfl) (he : starEach [e1] (c.env sc) = [(false, eval e1 (c.env sc))] := by rfl)
    (hco : scope.isCoroutine = false := by rfl) (hgen : scope.isGenerator = false := by rfl) (hks : scope.kind = .function := by rfl) (hcell : ∀ x ∈ scope.names, x.2 ≠ .cell := by decide) : EvN c sc σ (.Call (.Name "_law_told" p1) [e1] [] pos) (vStr "refused") := fun τ Q s hτ S k => by
  refine Call_ ?_
  obtain ⟨_, _, F, _, _⟩ := S.open_
  refine nameX_K F O.X (topRead_of O.T) hf ?_ hs hx (by decide)
  refine callWith_K O.X hk (args_cons (h _ s S fun v s1 S1 => args_nil ?_) he) he
  clear F
  have B := S1.base O
  refine ⟨B.K, ?_⟩
  obtain ⟨mm, κ, own, cells, rest, F, N, K, Y, TI, e, l, t⟩ := S1
  obtain ⟨f, c', doc, pm, ctv, oc, vs, t0, rfl, hf0, hc0, hd0, hq0⟩ := t _ (.head _)
  obtain ⟨a1, hc1, hl1⟩ := ha1
  obtain ⟨a2, hc2, hl2⟩ := ha2
  subst hσ
  obtain ⟨u0, _, hu0⟩ := l ("%" : Str) _ rfl
  obtain ⟨sl, hsl⟩ := hu0.2
  have hsl : (Ll, { oL with slots := sl }) ∈ own := hsl.elim id fun y => nomatch y.1
  obtain ⟨u1, hh1, tp, hu1⟩ := l ("precision" : Str) _ rfl
  obtain ⟨u2, hh2, hu2⟩ := l ("real" : Str) _ rfl
  subst hu1
  have hr2 := hu2.2
  obtain ⟨x, dx, z1, z2, z3, z4, z5, z6, z7, hux, hxo, hxd⟩ := hr2
  subst hux
  obtain ⟨o1, ho1, hd1⟩ := cells_get Y (x := "precision") (a := a1) (by rw [OC.cc, OC.cl]; exact hl1)
  obtain ⟨o2, ho2, hd2⟩ := cells_get Y (x := "real") (a := a2) (by rw [OC.cc, OC.cl]; exact hl2)
  rw [hh1.cel h1] at hd1
  rw [hh2.cel h2] at hd2
  obtain ⟨g0, hg0⟩ := OC.B
  have eg : g = bare g0 := hg ▸ hg0
  subst eg
  rw [OC.T, hg] at TI
  rw [hg] at F N hf0 hc0
  have nLl := N _ (List.mem_append_left _ hsl)
  have off : ∀ b o, s1.heap.get? b = some o → (∀ es n, o.data ≠ .dict es n) → b ≠ Ll := fun b o hb ho z => by
    rw [z, nLl.1] at hb
    cases hb
    exact ho _ _ hLd
  have N9 : News (bare g0) c.L s1.heap ((own.filter (fun p => decide (p.1 ≠ Ll)) ++ cells) ++ (Ll, { oL with slots := sl }) :: rest) := fun z hz => by
    rcases List.mem_append.mp hz with hz | hz
    · rcases List.mem_append.mp hz with hz | hz
      · exact N _ (List.mem_append_left _ (List.mem_filter.mp hz).1)
      · exact N _ (List.mem_append_right _ (List.mem_append_left _ hz))
    · rcases List.mem_cons.mp hz with rfl | hz
      · exact nLl
      · exact N _ (List.mem_append_right _ (List.mem_append_right _ hz))
  have hT := hg ▸ O.T
  have hX := hg ▸ O.X
  have mem9 : ∀ b o, (b, o) ∈ own → (∀ es n, o.data ≠ .dict es n) → (b, o) ∈ own.filter (fun p => decide (p.1 ≠ Ll)) ++ cells := fun b o hb ho => List.mem_append_left _ (List.mem_filter.mpr ⟨hb, decide_eq_true (off b o (N _ (List.mem_append_left _ hb)).1 ho)⟩)
  refine useNo (own.filter (fun p => decide (p.1 ≠ Ll)) ++ cells) hfr (fun z => by have z : sc.kind = .module := z; rw [hs] at z; cases z) rfl hem hef (room_of O hr) ⟨hX, _, _, _, _, hT⟩ F N9 TI (fun z hz => ?_) (fun vs z => by rw [show ({ oL with slots := sl } : Obj).data = oL.data from rfl, hLd] at z; cases z) (fun h hk kb => ?_) (fun base s2 outer2 ko kc kb B2 S2 hb2 => ?_) fun tz h' tk sl' F' N' TI' => ?_
  · rcases List.mem_append.mp hz with hz | hz
    · exact of_decide_eq_true (List.mem_filter.mp hz).2
    · obtain ⟨vv, ev⟩ := cells_off Y z hz
      exact off z.1 z.2 (N _ (List.mem_append_right _ (List.mem_append_left _ hz))).1 fun es n z' => by rw [z'] at ev; cases ev
  · rcases hf0 with hf0 | hf0
    · exact ⟨_, _, _, _, hk _ (mem9 _ _ hf0 fun es n z => nomatch z)⟩
    · exact ⟨_, _, _, _, kb _ _ hf0.2⟩
  · have c0 : s2.heap.get? f = some (lamObj qual params (.Call (.Name fn pf) [.Name "precision" px1, .Name "real" px2] [] pc) scope clos doc pm c' ctv) := hf0.elim (fun hf0 => ko _ (mem9 _ _ hf0 fun es n z => nomatch z)) fun hf0 => kb _ _ hf0.2
    have cc0 : s2.heap.get? c' = some oc := hc0.elim (fun hc0 => ko _ (mem9 _ _ hc0 fun es n z => by rw [z] at hd0; cases hd0)) fun hc0 => kb _ _ hc0.2
    have k1 := ko _ (List.mem_append_right _ ho1)
    have k2 := ko _ (List.mem_append_right _ ho2)
    intro A2 Q2 E2 R2 hfr2 hE2
    have B3 := B2
    obtain ⟨X2, loose2, mean2, mg2, mb2, T2⟩ := B3
    refine enterLamR (binds := []) R2 hfr2 (by decide) B2 S2 hb2 c0 ⟨c', oc, vs, t0, rfl, cc0, hd0, hq0⟩ (hb _ _ _) no_mem hE2 (fun L' h₁ F2 N2 => ?_) hco hgen hks hcell
    refine Call_ (nameX_K F2 X2 (topRead_of T2) (hfn c.w).1 (callWith_K X2 (hfn c.w).2 (args_cons (free_name F2 hc1 k1 hd1 (args_cons (free_name F2 hc2 k2 hd2 (args_nil ⟨Frag.In.keeps X2 F2.keep, ?_⟩) hks hf2 (by decide) (by decide))) hks hf1 (by decide) (by decide)))) hks hfg hfd)
    refine hrz (base := base) (outer := envX qual scope L' f (.ref c') clos :: outer2) (baseAt X2 T2 F2) (S2.push F2 hb2 (fun z => by have z : scope.kind = .module := z; rw [hks] at z; cases z) rfl) (Nat.le_trans hb2 (Nat.le_trans F2.above (Nat.le_of_lt F2.ns.lt))) ((eReal m e').mono (fun b o y => F2.keep _ _ (kb _ _ y)) (show RealIn (fun a o => (bare g0).get? a = some o) (.ref x) m e' from ⟨x, dx, z1, z2, z3, z4, z5, z6, z7, rfl, hxo, hxd⟩)) _ _ _ ⟨rfl, Nat.le_of_ble_eq_true rfl, Nat.le_of_ble_eq_true rfl⟩ rfl fun e'' a0 h' tk' fl up => ⟨e'', rfl, rfl, .inl ⟨a0, fl, (upTo_of F2.keep).trans up⟩⟩
  · refine k _ _ ⟨mm, κ, [(Ll, { oL with slots := sl' })], cells, rest, hg ▸ F', by
      rw [hg]
      intro z hz
      rcases List.mem_append.mp hz with hz | hz
      · rw [List.mem_singleton.mp hz]; exact N' _ (List.mem_append_right _ (.head _))
      · rcases List.mem_append.mp hz with hz | hz
        · exact N' _ (List.mem_append_left _ (List.mem_append_right _ hz))
        · exact N' _ (List.mem_append_right _ (.tail _ hz)), forall_cons (.inl ⟨.inr fun vs z => (by rw [show ({ oL with slots := sl' } : Obj).data = oL.data from rfl, hLd] at z; cases z), fun v z => (by rw [show ({ oL with slots := sl' } : Obj).data = oL.data from rfl, hLd] at z; cases z)⟩) no_mem, Y, by rw [OC.T, hg]; exact TI', by rw [e], fun y V hy => ?_, forall_cons ⟨tz, rfl⟩ fun z hz => hτ z hz _ _ _ (t z (.tail _ hz))⟩
    obtain ⟨y0, hy0, ry0⟩ := l y V hy
    refine ⟨y0, hy0, ?_⟩
    rcases look_cons hy with ⟨rfl, rfl⟩ | ⟨_, hy⟩
    · exact ⟨ry0.1, sl', .inl (.head _)⟩
    · rcases look_cons hy with ⟨rfl, rfl⟩ | ⟨_, hy⟩
      · exact ry0
      · rcases look_cons hy with ⟨rfl, rfl⟩ | ⟨_, hy⟩
        · exact noown_er2 hg _ _ _ ry0
        · cases hy
end
end Mine
end
noncomputable section
open PySem PySem.W PyProof.Rows PySem.Calls
set_option Elab.async false
set_option maxRecDepth 100000
set_option maxHeartbeats 4000000
set_option linter.all false
set_option exponentiation.threshold 5000
namespace Mine
theorem filledW27 : PySem.Challenge.rw_pc0352_01 = PySem.Challenge.rw_pc0352_01 ∧ hd.heap_39 = hd.heap_39 := by
  k_fill
  exact ⟨rfl, rfl⟩
theorem EvN.str {c : Cx} {sc : Scope} {σ : Sto} {x : Str} {k : Nat} {pos : Pos} : EvN c sc σ (.Constant (.str x) k pos) (vStr x) := fun τ Q s _ S q => Ev.cstr Q s S q
theorem Ex.refused {c : Cx} {sc : Scope} {σ : Sto} {a b b2 : Expr} {pos p2 : Pos} {rest : List Stmt} {x : Str} {Ll : Addr} {oL : Obj} (ha : EvN c sc σ a (vStr x)) (hb : EvN c sc σ b (vStr x)) (hc : EvN c sc σ b2 (vStr x)) (hl : σ.lookup ("%" : Str) = some (vFr Ll oL)) (hm : lastMarks [.Eq, .Eq] [b, b2] = false := by with_unfolding_all rfl) : Ex c sc σ (.Return (some (.Compare a [.Eq, .Eq] [b, b2] pos)) p2 :: rest) (.ret (vPin Ll oL true)) := .stop fun Q s S q => by
  have n0 : NoOwn c (vStr x) := noown_self fun _ _ _ x => x
  refine wpAny_Return_some (Compare_chain (ha _ s no_mem S fun v s1 S1 => chain_link (hb _ s1 (forall_cons n0 no_mem) S1 fun u s2 S2 => eq_st (c := c) _ _ _ S2.drop.at_ S2.at_ (wpAny_truthy_bool (chain_last (hc _ s2 (forall_cons n0 (forall_cons n0 no_mem)) S2 fun y s3 S3 => eq_st (c := c) _ _ _ S3.drop.at_ S3.at_ ?_))))) hm)
  obtain ⟨mm, κ, own, cells, rest, F, N, K, Y, TI, e, l, t⟩ := S3
  obtain ⟨u9, _, hu⟩ := l _ _ hl
  exact q _ _ ⟨mm, κ, own, cells, rest, F, N, K, Y, TI, e, (fun _ _ h => nomatch h), forall_cons ⟨rfl, hu.2⟩ no_mem⟩
theorem f_arcs_no {w : World} {s : Shared} {precision : Int} {tp : Tok} {x Ll : Addr} {oL : Obj} {es : Array DictEntry} {nn : Nat} {m e f0 f1 om oe am ae bm be cm ce : Int} (B : Base w (hideAll s.heap [Ll])) (TA : TabsAll (hideAll s.heap [Ll])) (hL : s.heap.get? Ll = some oL) (hLd : oL.data = .dict es nn) (ar : RealIn (fun a o => (bare (hideAll s.heap [Ll])).get? a = some o) (.ref x) m e) (hf : fracF m e = some (f0, f1)) (hl : leanF (0 - m) e = some (om, oe)) (hz : ¬ m = 0) (hl2 : leanF (iabs m) e = some (am, ae)) (ha0 : atanF precision am ae = some (bm, be)) (hi : isArcF precision bm be (iabs f0) f1 = true) (ha : atanF precision m e = some (cm, ce)) (hb : atanF precision om oe = some (0 - cm, ce)) (hgt : f1 < iabs f0) : SaysA w 640 (.ref 481) [.int precision tp, .ref x] s Ll oL (IsBool true) := by
  · refine' enterA ["precision", "real"] (Ws := [vInt precision, er2 (bare (hideAll s.heap [Ll])) (eReal m e)]) ?hlim ?ho ?hcd ?hb ?hl ?hnd B TA hL hLd ⟨_, _, rfl, ⟨tp, rfl⟩, _, _, rfl, ⟨ar, ar⟩, rfl⟩ ?how ?_ ?c1 ?c2 ?c3 rfl ?pc
    (case hlim => decide)
    (case ho => k_is)
    (case hcd => k_is)
    (case hb => exact fun s => zip2 fun _ _ => BindsTo.of_eq rfl)
    (case hl => decide)
    (case hnd => decide +kernel)
    (case c1 => exact rfl)
    (case c2 => exact rfl)
    (case c3 => exact rfl)
    (case pc => exact rfl)
    (case how => exact forall_cons rfl (forall_cons rfl no_mem))
    exact fun c env hg hef hem O OC hfr => (Ex.unp2 O (Ev.call O (Evs.cap (Ev.cel OC rfl rfl rfl) (fun _ _ x => x) Evs.nil) (f_law_fraction _ _ _ hf) (by k_is) (by k_is) (Nat.le_of_ble_eq_true rfl) rfl) (fun _ _ x => x) (Sx.loc rfl) (Sx.loc rfl) (Ex.put (Ev.call O (Evs.cons (Ev.sub Ev.cint (Ev.man O (Ev.cel OC rfl rfl rfl) (fun _ _ x => x.1))) (Evs.cons (Ev.exp O (Ev.cel OC rfl rfl rfl) (fun _ _ x => x.1)) Evs.nil)) (f_lean _ _ _ hl) (by k_is) (by k_is) (Nat.le_of_ble_eq_true rfl) rfl) (Sx.cel O OC rfl rfl) (Ex.ifp (Tr.cmp (cmp_eq _ _) (Ev.man O (Ev.cel OC rfl rfl rfl) (fun _ _ x => x.1)) Ev.cint (by walk_at "v d")) (Ex.ifp (Tr.not1 (Tr.plain (Ev.call O (Evs.cons (Ev.cel OC rfl rfl rfl) (Evs.cons (Ev.callR O OC.toOkT (Evs.cons (Ev.cel OC rfl rfl rfl) (Evs.real (Ev.call O (Evs.cons (Ev.bcall O (Evs.cons (Ev.man O (Ev.cel OC rfl rfl rfl) (fun _ _ x => x.1)) Evs.nil) b_abs (by boot_by_name) (by k_is) rfl) (Evs.cons (Ev.exp O (Ev.cel OC rfl rfl rfl) (fun _ _ x => x.1)) Evs.nil)) (f_lean _ _ _ hl2) (by k_is) (by k_is) (Nat.le_of_ble_eq_true rfl) rfl) Evs.nil)) (f_atan_real _ _ _ _ ha0) (by k_is) (by k_is) (Nat.le_of_ble_eq_true rfl) rfl) (Evs.cons (Ev.bcall O (Evs.cons (Ev.loc rfl rfl) Evs.nil) b_abs (by boot_by_name) (by k_is) rfl) (Evs.cons (Ev.loc rfl rfl) Evs.nil)))) (f_is_arc _ _ _ _ _ _ hi) (by k_is) (by k_is) (Nat.le_of_ble_eq_true rfl) rfl) (by walk_at "v d"))) (Ex.put (Ev.callR O OC.toOkT (Evs.cons (Ev.cel OC rfl rfl rfl) (Evs.cap (Ev.cel OC rfl rfl rfl) (fun _ _ x => x) Evs.nil)) (f_atan_real _ _ _ _ ha) (by k_is) (by k_is) (Nat.le_of_ble_eq_true rfl) rfl) (Sx.loc rfl) (Ex.ifp (Tr.cmpV (ne_tup O (fun _ _ x => x) (fun _ _ x => x)) (Ev.told O OC.toOkT (EvH.lamAsk [("precision", vInt precision), ("opposite", vReal om oe)] OC (Ev.lam (Pt := 476) O OC (codeHd_of_K O.X (by kernel_rfl)) (by decide) rfl (by k_mem) rfl rfl) (forall_cons ⟨rfl, rfl, _, rfl, rfl⟩ (forall_cons ⟨rfl, rfl, _, rfl, rfl⟩ (no_mem))) (forall_cons rfl (forall_cons rfl (no_mem))) (fun _ _ _ => rfl) (fun _ _ _ _ => real_or) (fun c g O OC => (Ev.callW O OC (Ev.capI (Ev.free rfl rfl)) (Ev.free rfl rfl) (fun _ _ x => x) (f_atan_real _ _ _ _ hb) (by k_is) (by k_is) (Nat.le_of_ble_eq_true rfl) rfl))) (Nat.le_of_ble_eq_true rfl) (by k_is) (by k_is) rfl) (Ev.tuple (ns := [_, _]) (Evs.cons (Ev.sub Ev.cint (Ev.man O (Ev.loc rfl rfl) (fun _ _ x => x))) (Evs.cons (Ev.exp O (Ev.loc rfl rfl) (fun _ _ x => x)) Evs.nil))) (by first | rfl | simp | walk_at "v d")) (Ex.ifr (Tr.cmp (cmp_gt _ _) (Ev.bcall O (Evs.cons (Ev.loc rfl rfl) Evs.nil) b_abs (by boot_by_name) (by k_is) rfl) (Ev.loc rfl rfl) (by walk_at "v d")) (Ex.weak (σ' := [("%", vFr Ll oL), ("precision", vInt precision), ("real", er2 (bare (hideAll s.heap [Ll])) (eReal m e))]) (Ex.refused (EvN.refused (fn := "asin_real") O OC hg (Nat.le_of_ble_eq_true rfl) hfr hef hem hLd (Ev.lam (Pt := 476) O OC (codeHd_of_K O.X (by kernel_rfl)) (by decide) rfl (by k_mem) rfl rfl) rfl rfl rfl ⟨_, rfl, rfl⟩ ⟨_, rfl, rfl⟩ (fun _ _ _ => rfl) (fun B S hb ar => f_asin_raises B S hb ar hf hgt) (fun w => ⟨by k_is, by k_is⟩) rfl rfl rfl (by decide) (by k_is) (by k_is) rfl) EvN.str (EvN.refused (fn := "acos_real") O OC hg (Nat.le_of_ble_eq_true rfl) hfr hef hem hLd (Ev.lam (Pt := 476) O OC (codeHd_of_K O.X (by kernel_rfl)) (by decide) rfl (by k_mem) rfl rfl) rfl rfl rfl ⟨_, rfl, rfl⟩ ⟨_, rfl, rfl⟩ (fun _ _ _ => rfl) (fun B S hb ar => f_acos_raises B S hb ar hf hgt) (fun w => ⟨by k_is, by k_is⟩) rfl rfl rfl (by decide) (by k_is) (by k_is) rfl) rfl) (forall_cons rfl (forall_cons rfl (forall_cons rfl no_mem)))))))))))
/-- what the law asks of a number -/
def ArcsOk (p m e : Int) : Prop := ∃ f0 f1 om oe, fracF m e = some (f0, f1) ∧ leanF (0 - m) e = some (om, oe) ∧
  ((m = 0 ∧ ¬ f1 < iabs f0 ∧ atanF p m e = some (0, 0) ∧ asinF p m e = some (0, 0)) ∨
   (¬ m = 0 ∧ ∃ am ae bm be cm ce, leanF (iabs m) e = some (am, ae) ∧ atanF p am ae = some (bm, be) ∧ isArcF p bm be (iabs f0) f1 = true ∧ atanF p m e = some (cm, ce) ∧ atanF p om oe = some (0 - cm, ce) ∧ (¬ f1 < iabs f0 → MainOk p m e om oe f0 f1)))
theorem tabs_hide {h : Heap} {as : List Addr} (TA : TabsAll h) (ha : ∀ a ∈ as, ∃ o, h.get? a = some o ∧ ∀ vs, o.data ≠ .fields vs) : TabsAll (hideAll h as) := fun P hP => by
  obtain ⟨ps, e, ok⟩ := TA P hP
  refine ⟨ps, hideAll_get as e (fun hm => ?_), ok.mono fun v q x => ?_⟩
  · obtain ⟨o, eo, nf⟩ := ha P hm
    rw [e] at eo; cases eo
    exact nf _ rfl
  · obtain ⟨c, oc, vs, t, ev, gc, d, r⟩ := x
    refine ⟨c, oc, vs, t, ev, hideAll_get as gc (fun hm => ?_), d, r⟩
    obtain ⟨o, eo, nf⟩ := ha c hm
    rw [gc] at eo; cases eo
    exact nf _ d
theorem hide_stays {g h : Heap} {L : Addr} {m : Str → Option Value} {as : List Addr} (F : Fr g L h m) (hn : ∀ a ∈ as, g.get? a = none) : g.StaysIn (hideAll h as) := fun b o e => hideAll_get as (F.keep b o e) fun hb => by rw [hn b hb] at e; cases e
theorem f_arcs {w : World} {s : Shared} {precision : Int} {tp : Tok} {x Ll : Addr} {oL : Obj} {es : Array DictEntry} {nn : Nat} {m e : Int} (B : Base w (hideAll s.heap [Ll])) (TA : TabsAll (hideAll s.heap [Ll])) (hL : s.heap.get? Ll = some oL) (hLd : oL.data = .dict es nn) (ar : RealIn (fun a o => (bare (hideAll s.heap [Ll])).get? a = some o) (.ref x) m e) (hp : ArcsOk precision m e) : SaysA w 640 (.ref 481) [.int precision tp, .ref x] s Ll oL (IsBool true) := by
  obtain ⟨f0, f1, om, oe, hf, hl, hc⟩ := hp
  rcases hc with ⟨hz, hd1, ha1, ha2⟩ | ⟨hz, am, ae, bm, be, cm, ce, hl2, ha0, hi, ha, hb, hM⟩
  · exact f_arcs_zero (am := 0) (ae := 0) (bm := 0) (be := 0) (cm := 0) (ce := 0) B TA hL hLd ar hf hl hz hd1 ha1 ha2
  · by_cases hgt : f1 < iabs f0
    · exact f_arcs_no B TA hL hLd ar hf hl hz hl2 ha0 hi ha hb hgt
    · exact f_arcs_yes B TA hL hLd ar hf hl hz hl2 ha0 hi ha hb hgt (hM hgt)
end Mine
end
noncomputable section
open PySem PySem.W PyProof.Rows PySem.Calls
set_option Elab.async false
set_option maxRecDepth 100000
set_option maxHeartbeats 4000000
set_option linter.all false
set_option exponentiation.threshold 5000
namespace Mine
theorem filledW28 : PySem.Challenge.rw_pc0352_01 = PySem.Challenge.rw_pc0352_01 ∧ hd.heap_39 = hd.heap_39 := by
  k_fill
  exact ⟨rfl, rfl⟩
theorem Ev.itemC {c : Cx} {sc : Scope} {σ : Sto} {V : Val} {e : Expr} {p2 pos : Pos} {kk : Nat} {ns : List Int} {n : Int} (i : Nat) (h : Ev c sc σ e V) (hV : ∀ P v, V.p P v → TupIn P v ns) (hn : ns[i]? = some n) (hlt : (i : Int) < 2 ^ 63 := by decide) : Ev c sc σ (.Subscript e (.Constant (.int (i : Int)) kk p2) pos) (vInt n) := fun τ Q s S q =>
  Subscript_ (h _ s S fun v s1 S1 => wpAny_Constant_int (by
    obtain ⟨r, ws, k, rfl, a, hi⟩ := hV _ _ S1.at_
    obtain ⟨t, e⟩ := hi.get hn
    exact item_tupleT (s := { s1 with toks := s1.toks + 1 }) ⟨_, a, rfl, _, rfl⟩ (Int.le_trans (by decide) (Int.natCast_nonneg i)) hlt (seq_at rfl (List.getElem?_eq_some_iff.mp e).1) e (q _ _ (S1.drop.int n t _))))
/-- what the law asks of a point -/
def PointOk (p hm he wm we : Int) : Prop := ∃ a b lm le c d, atan2F p hm he wm we = some (a, b) ∧ leanF (0 - hm) he = some (lm, le) ∧ atan2F p lm le wm we = some (c, d) ∧
  ((hm = 0 ∧ (decide (a = 0) = decide (0 < wm)) ∧ 0 ≤ a) ∨
   (hm ≠ 0 ∧ (decide (0 < a) = decide (0 < hm)) ∧ c = 0 - a ∧ d = b ∧ ∃ tm te r br o bd t0 t1 c0 c1, leanF (iabs a) b = some (tm, te) ∧ endsF p tm te = some ((r, br), (o, bd)) ∧ fracF hm he = some (t0, t1) ∧ fracF wm we = some (c0, c1) ∧
      shlOk (iabs t0 + iabs c0) 20 ∧ mulOk br (iabs t0) ∧ mulOk r c0 ∧ mulOk o c0 ∧ mulOk bd (iabs t0) ∧
      0 - sl (iabs t0 + iabs c0) 20 ≤ br * iabs t0 - r * c0 ∧ 0 - sl (iabs t0 + iabs c0) 20 ≤ o * c0 - bd * iabs t0))
theorem f_point (w : World) (precision hm he wm we : Int) (hp : PointOk precision hm he wm we) : FunC w 640 488 [vInt precision, eReal hm he, eReal wm we] (vBool true) := by
  obtain ⟨a, b, lm, le, c9, d9, hat, hl, hat2, hc⟩ := hp
  rcases hc with ⟨hz, hq, ha⟩ | ⟨hz, hq, rfl, rfl, tm, te, r, br, o, bd, t0, t1, c0, c1, hlt, he9, hf1, hf2, hs, m1, m2, m3, m4, q1, q2⟩
  · have hq9 : ((a == 0) == decide (0 < wm)) = true := beq_iff_eq.mpr hq
    refine' funC_of ["precision", "high", "wide"] (ret_self fun _ _ _ x => x) ?hlim ?ho ?hcd ?hb ?hl ?hnd ?_ ?c1 ?c2 ?c3 rfl ?how
    (case hlim => decide)
    (case ho => k_is)
    (case hcd => k_is)
    (case hb => exact fun s => zip3 fun _ _ _ => BindsTo.of_eq rfl)
    (case hl => decide)
    (case hnd => decide +kernel)
    (case c1 => exact rfl)
    (case c2 => exact rfl)
    (case c3 => exact rfl)
    (case how => exact forall_cons rfl (forall_cons rfl (forall_cons rfl (no_mem))))
    exact fun c O OC => (Ex.put (Ev.callC O OC.toOkT (Evs.cons (Ev.cel OC rfl rfl rfl) (Evs.cons (Ev.cel OC rfl rfl rfl) (Evs.cons (Ev.cel OC rfl rfl rfl) Evs.nil))) (f_atan_two _ _ _ _ _ _ hat) (by k_is) (by k_is) (Nat.le_of_ble_eq_true rfl) rfl) (Sx.loc rfl) (Ex.put (Ev.told O OC.toOkT (EvH.lamAsk [("precision", vInt precision), ("high", eReal hm he), ("wide", eReal wm we)] OC (Ev.lam (Pt := 483) O OC (codeHd_of_K O.X (by kernel_rfl)) (by decide) rfl (by k_mem) rfl rfl) (forall_cons ⟨rfl, rfl, _, rfl, rfl⟩ (forall_cons ⟨rfl, rfl, _, rfl, rfl⟩ (forall_cons ⟨rfl, rfl, _, rfl, rfl⟩ (no_mem)))) (forall_cons rfl (forall_cons rfl (forall_cons rfl (no_mem)))) (fun _ _ _ => rfl) (fun _ _ _ _ => real_new) (fun c g O OC => (Ev.callC O OC (Evs.cons (Ev.capI (Ev.free rfl rfl)) (Evs.real (Ev.call O (Evs.cons (Ev.sub Ev.cint (Ev.man O (Ev.free rfl rfl) (fun _ _ x => x.1))) (Evs.cons (Ev.exp O (Ev.free rfl rfl) (fun _ _ x => x.1)) Evs.nil)) (f_lean _ _ _ hl) (by k_is) (by k_is) (Nat.le_of_ble_eq_true rfl) rfl) (Evs.cap (Ev.free rfl rfl) (fun _ _ x => x) Evs.nil))) (f_atan_two _ _ _ _ _ _ hat2) (by k_is) (by k_is) (Nat.le_of_ble_eq_true rfl) rfl))) (Nat.le_of_ble_eq_true rfl) (by k_is) (by k_is) rfl) (Sx.loc rfl) (Ex.ifr (Tr.cmp (cmp_eq _ _) (Ev.man O (Ev.cel OC rfl rfl rfl) (fun _ _ x => x)) Ev.cint (by walk_at "v d")) (Ex.ret (Ev.asB (Ev.andt (Ev.asB (Ev.cmpV eq_bl (Ev.cmp (cmp_eq _ _) (Ev.man O (Ev.loc rfl rfl) (fun _ _ x => x)) Ev.cint) (Ev.cmp (cmp_gt _ _) (Ev.man O (Ev.cel OC rfl rfl rfl) (fun _ _ x => x)) Ev.cint)) (by walk_at "v d")) (Ev.bool1 (Ev.cmp (cmp_ge _ _) (Ev.man O (Ev.loc rfl rfl) (fun _ _ x => x)) Ev.cint))) (by walk_at "v d"))))))
  · have hq9 : (decide (0 < a) != decide (0 < hm)) = false := bne_eq_false_iff_eq.mpr hq
    refine' funC_of ["precision", "high", "wide"] (ret_self fun _ _ _ x => x) ?hlim ?ho ?hcd ?hb ?hl ?hnd ?_ ?c1 ?c2 ?c3 rfl ?how
    (case hlim => decide)
    (case ho => k_is)
    (case hcd => k_is)
    (case hb => exact fun s => zip3 fun _ _ _ => BindsTo.of_eq rfl)
    (case hl => decide)
    (case hnd => decide +kernel)
    (case c1 => exact rfl)
    (case c2 => exact rfl)
    (case c3 => exact rfl)
    (case how => exact forall_cons rfl (forall_cons rfl (forall_cons rfl (no_mem))))
    exact fun c O OC => (Ex.put (Ev.callC O OC.toOkT (Evs.cons (Ev.cel OC rfl rfl rfl) (Evs.cons (Ev.cel OC rfl rfl rfl) (Evs.cons (Ev.cel OC rfl rfl rfl) Evs.nil))) (f_atan_two _ _ _ _ _ _ hat) (by k_is) (by k_is) (Nat.le_of_ble_eq_true rfl) rfl) (Sx.loc rfl) (Ex.put (Ev.told O OC.toOkT (EvH.lamAsk [("precision", vInt precision), ("high", eReal hm he), ("wide", eReal wm we)] OC (Ev.lam (Pt := 483) O OC (codeHd_of_K O.X (by kernel_rfl)) (by decide) rfl (by k_mem) rfl rfl) (forall_cons ⟨rfl, rfl, _, rfl, rfl⟩ (forall_cons ⟨rfl, rfl, _, rfl, rfl⟩ (forall_cons ⟨rfl, rfl, _, rfl, rfl⟩ (no_mem)))) (forall_cons rfl (forall_cons rfl (forall_cons rfl (no_mem)))) (fun _ _ _ => rfl) (fun _ _ _ _ => real_new) (fun c g O OC => (Ev.callC O OC (Evs.cons (Ev.capI (Ev.free rfl rfl)) (Evs.real (Ev.call O (Evs.cons (Ev.sub Ev.cint (Ev.man O (Ev.free rfl rfl) (fun _ _ x => x.1))) (Evs.cons (Ev.exp O (Ev.free rfl rfl) (fun _ _ x => x.1)) Evs.nil)) (f_lean _ _ _ hl) (by k_is) (by k_is) (Nat.le_of_ble_eq_true rfl) rfl) (Evs.cap (Ev.free rfl rfl) (fun _ _ x => x) Evs.nil))) (f_atan_two _ _ _ _ _ _ hat2) (by k_is) (by k_is) (Nat.le_of_ble_eq_true rfl) rfl))) (Nat.le_of_ble_eq_true rfl) (by k_is) (by k_is) rfl) (Sx.loc rfl) (Ex.ifp (Tr.cmp (cmp_eq _ _) (Ev.man O (Ev.cel OC rfl rfl rfl) (fun _ _ x => x)) Ev.cint (by walk_at "v d")) (Ex.ifp (Tr.many (Trs.orf (Tr.cmpV ne_bl (Ev.cmp (cmp_gt _ _) (Ev.man O (Ev.loc rfl rfl) (fun _ _ x => x)) Ev.cint) (Ev.cmp (cmp_gt _ _) (Ev.man O (Ev.cel OC rfl rfl rfl) (fun _ _ x => x)) Ev.cint) (by first | rfl | assumption | (simp; done) | walk_at "v d")) (Trs.orf (Tr.cmpV (ne_tup O (fun _ _ x => x) (fun _ _ x => x)) (Ev.loc rfl rfl) (Ev.tuple (ns := [_, _]) (Evs.cons (Ev.sub Ev.cint (Ev.man O (Ev.loc rfl rfl) (fun _ _ x => x))) (Evs.cons (Ev.exp O (Ev.loc rfl rfl) (fun _ _ x => x)) Evs.nil))) (by first | rfl | assumption | (simp; done) | walk_at "v d")) Trs.or0))) (Ex.put (Ev.call O (Evs.cons (Ev.bcall O (Evs.cons (Ev.man O (Ev.loc rfl rfl) (fun _ _ x => x)) Evs.nil) b_abs (by boot_by_name) (by k_is) rfl) (Evs.cons (Ev.exp O (Ev.loc rfl rfl) (fun _ _ x => x)) Evs.nil)) (f_lean _ _ _ hlt) (by k_is) (by k_is) (Nat.le_of_ble_eq_true rfl) rfl) (Sx.loc rfl) (Ex.nest O (Ev.call O (Evs.cons (Ev.cel OC rfl rfl rfl) (Evs.real (Ev.loc rfl rfl) Evs.nil)) (f_law_ends _ _ _ _ he9) (by k_is) (by k_is) (Nat.le_of_ble_eq_true rfl) rfl) (Sx.loc rfl) (Sx.loc rfl) (Sx.loc rfl) (Sx.loc rfl) (Ex.swap2 O (Ev.bcall O (Evs.cons (Ev.itemC 0 (Ev.call O (Evs.cons (Ev.cel OC rfl rfl rfl) Evs.nil) (f_law_fraction _ _ _ hf1) (by k_is) (by k_is) (Nat.le_of_ble_eq_true rfl) rfl) (fun _ _ x => x) rfl) Evs.nil) b_abs (by boot_by_name) (by k_is) rfl) (Ev.itemC 0 (Ev.call O (Evs.cons (Ev.cel OC rfl rfl rfl) Evs.nil) (f_law_fraction _ _ _ hf2) (by k_is) (by k_is) (Nat.le_of_ble_eq_true rfl) rfl) (fun _ _ x => x) rfl) (Sx.loc rfl) (Sx.loc rfl) (Ex.put (Ev.shl (Ev.add (Ev.loc rfl rfl) (Ev.bcall O (Evs.cons (Ev.loc rfl rfl) Evs.nil) b_abs (by boot_by_name) (by k_is) rfl)) Ev.cint (by walk_at "v s")) (Sx.loc rfl) (Ex.ret (Ev.asB (Ev.andt (Ev.asB (Ev.cmp (cmp_ge _ _) (Ev.sub (Ev.mul (Ev.loc rfl rfl) (Ev.loc rfl rfl) (by walk_at "v m")) (Ev.mul (Ev.loc rfl rfl) (Ev.loc rfl rfl) (by walk_at "v m"))) (Ev.sub Ev.cint (Ev.loc rfl rfl))) (by walk_at "v d")) (Ev.bool1 (Ev.cmp (cmp_ge _ _) (Ev.sub (Ev.mul (Ev.loc rfl rfl) (Ev.loc rfl rfl) (by walk_at "v m")) (Ev.mul (Ev.loc rfl rfl) (Ev.loc rfl rfl) (by walk_at "v m"))) (Ev.sub Ev.cint (Ev.loc rfl rfl))))) (by walk_at "v d")))))))))))
end Mine
end
theorem Mine.offL23 : True := by
  w_top off
  trivial
noncomputable section
open PySem PySem.W PyProof.Rows PySem.Calls
set_option Elab.async false
set_option maxRecDepth 100000
set_option maxHeartbeats 8000000
set_option linter.all false
set_option exponentiation.threshold 5000
namespace Mine
theorem filled23 : PySem.Challenge.rw_pc0352_01 = PySem.Challenge.rw_pc0352_01 ∧ hd.heap_39 = hd.heap_39 := by
  k_fill
  exact ⟨rfl, rfl⟩

/-- a call that changes the list of ints at D alone, and gives an int from 0 to many - 1 back -/
def SaysD (w : World) (d : Nat) (f : Value) (vs : List Value) (s : Shared) (D : Addr) (many : Int) : Prop :=
  ∀ (A : Around) (Q E : Value → Shared → Prop), Room A d → (∀ v t h' tk us ns n, (hideAll s.heap [D]).StaysIn h' → h'.get? D = some (W.listOf (List.toArray us) n) → IntsAre us ns → us.length ≤ 12 → 0 ≤ v → v < many → Q (.int v t) { s with heap := h', toks := tk }) → wpAny (model Pg w) A (call f vs) Q E s
def FinD (g : Heap) (D : Addr) (many : Int) (Q : Value → Shared → Prop) (v : Value) (s' : Shared) : Prop :=
  ∃ L m news us ns n x t, Fr g L s'.heap m ∧ News g L s'.heap news ∧ (D, W.listOf (List.toArray us) n) ∈ news ∧ IntsAre us ns ∧ us.length ≤ 12 ∧ v = .int x t ∧ 0 ≤ x ∧ x < many ∧ (g.StaysIn s'.heap → s'.heap.get? D = some (W.listOf us.toArray n) → Q v s')
theorem FinD.done {g : Heap} {D : Addr} {many : Int} {Q : Value → Shared → Prop} {v : Value} {s' : Shared} (x : FinD g D many Q v s') : Q v s' := by
  obtain ⟨L, m, news, us, ns, n, x, t, F, N, hm, hi, hl, e, h0, h1, k⟩ := x
  exact k F.keep (N _ hm).1
theorem enterD {w : World} {A : Around} {E : Value → Shared → Prop} {s : Shared} {Q : Value → Shared → Prop} {K : Frag} {prog p : Program} {loose : List Str} {mean : ExcName → Option Value} {mg mb : Str → Option Value} {g : Heap} {D : Addr} {oD : Obj} {many : Int} {d : Nat} {name qual : Str} {params : Arguments} {body : List Stmt} {scope : Scope} {dV kV doc pm cdv ct oc : Value} {an od : Option Addr} {osl : Array (Option Value)} {f : Addr} {vs : List Value} {binds : List (Str × Value)}
    (R : Room A d) (hroom : d < recursionLimit) (X : K.In g) (T : Top p loose mean mg mb g) (hg : g = hideAll s.heap [D]) (hD : s.heap.get? D = some oD)
    (ho : K.lookup f = some ⟨oc, od, .func (fnOf name qual params body scope dV kV doc pm an cdv ct), osl⟩) (hcd : codeIn K cdv qual = true)
    (hbind : BindsTo s (fnOf name qual params body scope dV kV doc pm an cdv ct) ⟨vs, []⟩ binds) (hloc : ∀ y ∈ binds, scope.names.lookup y.1 = some .local)
    (h : ∀ L' h₁, @LT.lt Nat _ D L' → Fr g L' h₁ (fun y => binds.reverse.lookup y) → News g L' h₁ [(D, oD)] →
      wpAny (model prog w) ((Ac d).deeper (envOf qual scope L' f cdv)) (execs body (envOf qual scope L' f cdv))
        (fun fl s' => FinD g D many Q (match fl with | .ret v => v | _ => .none) s') (fun _ _ => False)
        { s with heap := h₁, toks := s.toks + binds.length })
    (hco : scope.isCoroutine = false) (hgen : scope.isGenerator = false) (hk : scope.kind = .function)
    (hcell : ∀ x ∈ scope.names, x.2 ≠ .cell) : wpAny (model prog w) A (call (.ref f) vs) Q E s := by
  have st : g.StaysIn s.heap := fun b o q => of_hideAll [D] (hg ▸ q)
  have hDg : g.get? D = none := hg ▸ hideAll_none _ (.head _)
  have hlt : @LT.lt Nat _ D s.heap.objs.size := Heap.lt_size hD
  refine wpAny_call ?_
  refine cd_weak R ?_
  refine codeAny_call_def (fd := fnOf name qual params body scope dV kV doc pm an cdv ct) (body := body) (binds := binds) hroom (Frag.In.keeps X st _ _ ho) rfl (T.keeps st).nolimit (codeRec_of (Frag.In.keeps X st) hcd) rfl hbind hcell hloc (fun h₁ hns hk₁ => ?_) hco hgen hk
  refine wpAny_mono (h s.heap.objs.size h₁ hlt ⟨hns, fun b o e => hk₁ b o (st b o e), by rw [hg]; exact Nat.le_of_eq (hideAll_size _ _)⟩ (fun q hq => ?_)) (fun fl s' x => x.done) (fun _ _ x => x.elim)
  rw [List.mem_singleton.mp hq]
  exact ⟨hk₁ _ _ hD, Nat.ne_of_lt hlt, hDg⟩
local macro_rules | `(tactic| walk_at "mine dec") => `(tactic| first | with_reducible assumption | (simp only [beq_iff_eq, bne_iff_ne, ne_eq, decide_eq_true_eq, decide_eq_false_iff_not, Bool.not_eq_true, Bool.and_eq_true, Bool.or_eq_true]; first | with_reducible assumption | omega))
local macro_rules | `(tactic| walk_at "ite") => `(tactic| (k_here; k_openite; first | refine ite_pos (by walk_at "mine dec") ?_ | refine ite_neg (by walk_at "mine dec") ?_))
local macro_rules | `(tactic| walk_at "mine side") => `(tactic| walk_at "v s")
local macro_rules | `(tactic| walk_at "binaryOp FloorDiv int int") => `(tactic| (with_reducible show wpAny _ _ (binaryOp _ (Value.int _ _) (Value.int _ _)) _ _ _; refine div_rule (by walk_at "mine side") ?_))
local macro_rules | `(tactic| walk_at "binaryOp Mod int int") => `(tactic| (with_reducible show wpAny _ _ (binaryOp _ (Value.int _ _) (Value.int _ _)) _ _ _; refine mod_rule (by walk_at "mine side") ?_))
local macro_rules | `(tactic| k_mem) => `(tactic| first | exact List.mem_cons_self | assumption | (refine List.mem_cons_of_mem _ ?_; k_mem))
local macro_rules | `(tactic| walk_at "mine dec") => `(tactic| first | with_reducible assumption | (simp; done) | (simp [*]; done) | (simp only [beq_iff_eq, bne_iff_ne, ne_eq, decide_eq_true_eq, decide_eq_false_iff_not, Bool.not_eq_true, Bool.and_eq_true, Bool.or_eq_true]; first | with_reducible assumption | omega))
local macro_rules | `(tactic| walk_at "exec While BoolOp cons nil") => `(tactic| refine Halt.out ?_)
local macro_rules | `(tactic| walk_at "call builtin:list.pop") => `(tactic| (k_here; (with_reducible show wpAny _ _ (call (Value.builtin _) [Value.ref _, Value.int _ _]) _ _ _); k_dflt (refine' kl_popAt (k := 0) (p := []) ?F ?N ?f ?k ?e ?U ?z ?_; (case F => k_asm); (case N => k_asm); (case U => k_upd); (case f => rfl); (case k => simp [PySem.seqIndex?]); (case e => rfl); (case z => exact Nat.le_trans (by assumption) (show 12 ≤ sizeLine from Nat.le_of_ble_eq_true rfl))); intro h' F' N'; (try dsimp only [List.nil_append, List.cons_append] at N')))
local macro_rules | `(tactic| walk_at "mine enterD") => `(tactic| (
  (case hd => decide)
  (case ho => k_is)
  (case hcd => k_is)
  (case hb => exact BindsTo.of_eq rfl)
  (case hl => exact locs rfl)
  (case c1 => exact rfl)
  (case c2 => exact rfl)
  (case c3 => exact rfl)
  (case c4 => decide)
  intro L' h₁ hlt F N
  (try dsimp only)
  k_fold))

theorem c_draw {w : World} {s : Shared} {D : Addr} {many : Int} {tm : Tok} {us : List Value} {ns : List Int} {n : Nat} (B : Base w (hideAll s.heap [D])) (hD : s.heap.get? D = some (W.listOf us.toArray n)) (hi : IntsAre us ns) (hlen : us.length ≤ 12) (hm : 0 < many) (hdv : divOk many) :
    SaysD w 800 (.ref 418) [.ref D, .int many tm] s D many := by
  intro A Q E R h
  obtain ⟨X, loose, mean, mg, mb, T⟩ := B
  refine' enterD (many := many) (binds := [("deck", .ref D), ("many", .int many tm)]) R ?hd X T rfl hD ?ho ?hcd ?hb ?hl ?_ ?c1 ?c2 ?c3 ?c4
  walk_at "mine enterD"
  k_steps
  unfold Halt
  refine' While_inv (fun n m news => ∃ us ns k, m = (fun y => List.lookup y ([("deck", Value.ref D), ("many", Value.int many tm)] : List (Str × Value)).reverse) ∧ news = [(D, W.listOf (List.toArray us) k)] ∧ IntsAre us ns ∧ us.length ≤ 12 ∧ us.length = n) (n₀ := us.length) (news := _) ?F ?N ?hJ ?turn ?hE
  case F => assumption
  case N => assumption
  case hE => passes_own
  case hJ => exact ⟨_, _, _, rfl, rfl, hi, hlen, rfl⟩
  case turn =>
    clear hi hlen hD
    rename @LT.lt Nat _ _ _ => hlt9
    rintro n0 m₁ news₁ h₁ tk₁ F₁ N₁ ⟨us, ns, k, rfl, rfl, hi, hlen, rfl⟩
    cases hi with
    | nil =>
      k_steps
      rename Fr _ _ _ _ => F9
      rename News _ _ _ _ => N9
      exact ⟨_, _, _, [], [], _, 0, _, F9, N9, by k_mem, .nil, by decide, rfl, Int.le_refl _, hm, fun st hd => h _ _ _ _ _ _ _ st hd .nil (by decide) (Int.le_refl _) hm⟩
    | cons a ta r =>
      rename_i us ns
      by_cases ha : a = 0
      · k_steps
        rename Fr _ _ _ _ => F9
        rename News _ _ _ _ => N9
        have N8 : News _ _ _ [(D, W.listOf us.toArray (k + 1))] := News.sub N9 (fun p hp => .tail _ hp)
        exact WhileStep.intro F9 N8 (Nat.lt_succ_self _) ⟨us, ns, _, rfl, rfl, r, Nat.le_of_succ_le hlen, rfl⟩
      · k_steps
        rename Fr _ _ _ _ => F9
        rename News _ _ _ _ => N9
        exact ⟨_, _, _, .int _ _ :: us, _ :: ns, _, _, _, F9, N9, .tail _ (.tail _ (.head _)), .cons _ _ r, hlen, rfl, Int.fmod_nonneg_of_pos _ hm, Int.fmod_lt_of_pos _ hm, fun st hd => h _ _ _ _ (.int _ _ :: us) (_ :: ns) _ st hd (.cons _ _ r) hlen (Int.fmod_nonneg_of_pos _ hm) (Int.fmod_lt_of_pos _ hm)⟩
end Mine
end
theorem Mine.offL24 : True := by
  w_top off
  trivial
noncomputable section
open PySem PySem.W PyProof.Rows PySem.Calls
set_option Elab.async false
set_option maxRecDepth 100000
set_option maxHeartbeats 8000000
set_option linter.all false
set_option exponentiation.threshold 5000
namespace Mine
theorem filled24 : PySem.Challenge.rw_pc0352_01 = PySem.Challenge.rw_pc0352_01 ∧ hd.heap_39 = hd.heap_39 := by
  k_fill
  exact ⟨rfl, rfl⟩

abbrev NewDeck (h : Heap) : Heap → Value → Prop := fun h' v => ∃ D us ns n, v = .ref D ∧ h.get? D = none ∧ h'.get? D = some (W.listOf (List.toArray us) n) ∧ IntsAre us ns ∧ us.length ≤ 12
local macro_rules | `(tactic| walk_at "mine enter") => `(tactic| (
  (case hd => decide)
  (case ho => k_is)
  (case hcd => k_is)
  (case hb => exact BindsTo.of_eq rfl)
  (case hl => exact locs rfl)
  (case c1 => exact rfl)
  (case c2 => exact rfl)
  (case c3 => exact rfl)
  (case c4 => decide)
  intro L' h₁ F N
  (try dsimp only)
  k_fold))
local macro_rules | `(tactic| walk_at "mine side") => `(tactic| walk_at "v s")
local macro_rules | `(tactic| walk_at "binaryOp Mod int int") => `(tactic| (with_reducible show wpAny _ _ (binaryOp _ (Value.int _ _) (Value.int _ _)) _ _ _; refine mod_rule (by walk_at "mine side") ?_))
local macro_rules | `(tactic| k_mem) => `(tactic| first | exact List.mem_cons_self | assumption | (refine List.mem_cons_of_mem _ ?_; k_mem))

theorem c_deck {w : World} {s : Shared} {l : Addr} {vs : List Value} {xs : List Int} (B : Base w s.heap) (hl : s.heap.IsList l vs.toArray) (hi : IntsAre vs xs) (hx : ¬ ((63 : Nat) : Int) < (xs.length : Int)) :
    Says w 800 (.ref 411) [.ref l] s (NewDeck s.heap) := by
  intro A Q E R h
  obtain ⟨X, loose, mean, mg, mb, T⟩ := B
  refine' enterP (binds := [("script", .ref l)]) R ?hd X T ?ho ?hcd ?hb ?hl ?_ ?c1 ?c2 ?c3 ?c4
  walk_at "mine enter"
  k_steps
  rename Fr _ _ _ _ => F9
  rename News _ _ _ _ => N9
  rename IntsAre _ (List.map _ _) => hI9
  rename _ = List.length (List.map _ _) => hL9
  exact ⟨_, _, _, F9, N9, fun st => h _ _ _ st ⟨_, _, _, _, rfl, (N9 _ (.head _)).2.2, (N9 _ (.head _)).1, hI9, by rw [hL9, List.length_map, List.length_take]; omega⟩⟩
end Mine
end
noncomputable section
open PySem PySem.W PyProof.Rows PySem.Calls
set_option Elab.async false
set_option maxRecDepth 100000
set_option maxHeartbeats 2000000
set_option linter.all false
set_option exponentiation.threshold 5000
namespace Mine
section
variable {w : World} {A : Around} {E Q : Value → Shared → Prop} {s : Shared} {g : Heap} {L D : Addr} {mm : Str → Option Value} {loose : List Str} {mean : ExcName → Option Value} {mg mb : Str → Option Value} {own rest : List (Addr × Obj)} {us : List Value} {ns : List Int} {n : Nat} {many : Int} {tm : Tok}
theorem rest_data {h₀ : Heap} (TI : TabsIn h₀ rest) : ∀ p ∈ rest, ∃ vs, p.2.data = .fields vs := fun p hp => by
  obtain ⟨tb, codes, rfl, ok, ir⟩ := TI
  rcases List.mem_append.mp hp with hp | hp
  · obtain ⟨P, hP, rfl⟩ := List.mem_map.mp hp
    exact ⟨_, rfl⟩
  · obtain ⟨vs, _, _, hd, _⟩ := ir p hp
    exact ⟨vs, hd⟩
theorem useDraw (own : List (Addr × Obj)) (R : Room A 800) (X : (hd.heap_39 w.params).In (bare g)) (T : Top topProg loose mean mg mb (bare g)) (F : Fr (bare g) L s.heap mm) (N : News (bare g) L s.heap ((D, W.listOf us.toArray n) :: (own ++ rest))) (TI : TabsIn (bare g) rest)
    (hown : ∀ q ∈ own, q.2.cls ≠ .type "list") (hi : IntsAre us ns) (hlen : us.length ≤ 12) (hm : 0 < many) (hdv : divOk many)
    (h : ∀ v t h' tk us' ns' n', Fr (bare g) L h' mm → News (bare g) L h' ((D, W.listOf (List.toArray us') n') :: (own ++ rest)) → IntsAre us' ns' → us'.length ≤ 12 → 0 ≤ v → v < many → Q (.int v t) { s with heap := h', toks := tk }) :
    wpAny (model Pg w) A (call (.ref 418) [.ref D, .int many tm]) Q E s := by
  have hD := N _ (.head _)
  have hDg : (bare g).get? D = none := hD.2.2
  have st : (bare g).StaysIn (hideAll s.heap [D]) := hide_stays F fun a ha => by rw [List.mem_singleton.mp ha]; exact hDg
  refine c_draw (Base.keeps ⟨X, loose, mean, mg, mb, T⟩ st) hD.1 hi hlen hm hdv A Q E R fun v t h' tk us' ns' n' sb hD' hi' hl' h0 h1 => ?_
  have k : ∀ b o, b ≠ D → s.heap.get? b = some o → h'.get? b = some o := fun b o hb e => sb b o (hideAll_get [D] e fun q => hb (List.mem_singleton.mp q))
  have F' : Fr (bare g) L h' mm := by
    refine ⟨?_, fun b o e => k b o (fun q => by rw [q, hDg] at e; cases e) (F.keep b o e), F.above⟩
    obtain ⟨o, es, ep, e, hd, r⟩ := F.ns
    exact ⟨o, es, ep, k _ _ (Ne.symm hD.2.1) e, hd, r⟩
  refine h v t h' tk us' ns' n' F' (fun p hp => ?_) hi' hl' h0 h1
  rcases List.mem_cons.mp hp with rfl | hp
  · exact ⟨hD', hD.2⟩
  have z := N p (.tail _ hp)
  refine ⟨k _ _ (fun q => ?_) z.1, z.2⟩
  have e := z.1
  rw [q, hD.1] at e
  rcases List.mem_append.mp hp with hp | hp
  · have e2 := Option.some.inj e
    exact hown p hp (by rw [← e2])
  · obtain ⟨vs, hv⟩ := rest_data TI p hp
    have e2 := Option.some.inj e
    rw [← e2] at hv; cases hv
theorem c_arcs {p m e : Int} {tp : Tok} {x dx : Addr} {oL : Obj} {es : Array DictEntry} {nn : Nat} (B : Base w (bare g)) (F : Fr (bare g) L s.heap mm) (TA : TabsAll s.heap) (hL : s.heap.get? L = some oL) (hLd : oL.data = .dict es nn) (hxL : x ≠ L) (hne : dx ≠ L)
    (ar : RealD s.heap x dx m e) (hp : ArcsOk p m e) : SaysA w 640 (.ref 481) [.int p tp, .ref x] s L oL (IsBool true) := by
  have gL : (bare g).get? L = none := Heap.get?_none_of_le F.above
  have hLf : ∀ vs, oL.data ≠ .fields vs := fun vs q => by rw [hLd] at q; cases q
  obtain ⟨h1, k1, t1, h2, k2, t2, n, a1, a2⟩ := ar
  have st : (bare g).StaysIn (hideAll s.heap [L]) := hide_stays F fun a ha => by rw [List.mem_singleton.mp ha]; exact gL
  have TH := tabs_hide (as := [L]) TA fun a ha => by rw [List.mem_singleton.mp ha]; exact ⟨oL, hL, hLf⟩
  exact f_arcs (Base.keeps B st) TH hL hLd ⟨x, dx, h1, k1, t1, h2, k2, t2, n, rfl, bare_keep TH (notTab_ref rfl) (hideAll_get _ a1 (fun q => hxL (List.mem_singleton.mp q))), bare_keep TH (notTab_type rfl) (hideAll_get _ a2 (fun q => hne (List.mem_singleton.mp q)))⟩ hp
theorem useA {env : Env} {p m e : Int} {tp : Tok} {x dx : Addr} {h1 h2 : Int} {k1 t1 k2 t2 : Tok} {nd : Nat} (own : List (Addr × Obj)) (hfr : A.frames = some [env]) (hef : env.frame = some L) (hek : env.scope.kind ≠ .module) (R : Room A 640) (B : Base w (bare g)) (F : Fr (bare g) L s.heap mm) (N : News (bare g) L s.heap (own ++ rest)) (TI : TabsIn (bare g) rest)
    (hown : ∀ q ∈ own, NotTab q.2) (hx : (x, instObj 89 dx) ∈ own) (hdx : (dx, dictOf [⟨h1, .str "mantissa" k1, .int m t1⟩, ⟨h2, .str "exponent" k2, .int e t2⟩] nd) ∈ own) (hp : ArcsOk p m e)
    (h : ∀ h' tk rest', Fr (bare g) L h' mm → News (bare g) L h' (own ++ rest') → TabsIn (bare g) rest' → Q (.bool true) { s with heap := h', toks := tk }) : wpAny (model Pg w) A (call (.ref 481) [.int p tp, .ref x]) Q E s := by
  have TA := tabsAll_of F N TI
  have Fn := F.ns
  obtain ⟨oL, es, ep, eL, dL, hns⟩ := Fn
  have gL : (bare g).get? L = none := Heap.get?_none_of_le F.above
  have n1 := N _ (List.mem_append_left _ hx)
  have n2 := N _ (List.mem_append_left _ hdx)
  refine c_arcs B F TA eL dL n1.2.1 n2.2.1 ⟨_, _, _, _, _, _, _, n1.1, n2.1⟩ hp A Q E env R hfr hef hek fun v h' tk sb TA' hL' hb => ?_
  obtain ⟨sl, hL'⟩ := hL'
  have F' : Fr (bare g) L h' mm := by
    refine ⟨⟨_, es, ep, hL', dL, hns⟩, fun b o e => sb b o (fun hb => by rw [bare_none hb] at e; cases e) (hideAll_get [L] (F.keep b o e) fun q => by rw [List.mem_singleton.mp q, gL] at e; cases e), F.above⟩
  obtain ⟨rest', N', TI'⟩ := tabsIn_of F' TA' (fun P hP => bare_none hP)
  rw [show v = .bool true from hb]
  refine h h' tk rest' F' (fun p hp => ?_) TI'
  rcases List.mem_append.mp hp with hp | hp
  · have z := N p (List.mem_append_left _ hp)
    exact ⟨sb _ _ (notTab_mem TA (hown p hp) z.1) (hideAll_get [L] z.1 fun q => z.2.1 (List.mem_singleton.mp q)), z.2⟩
  · exact N' p hp
end
theorem c_lean {w : World} {s : Shared} {m e a b : Int} {t u : Tok} (B : Base w s.heap) (hp : leanF m e = some (a, b)) : Says w 880 (.ref 121) [.int m t, .int e u] s (NewReal s.heap a b) := fun A Q E R k =>
  f_lean w m e hp s B ⟨_, _, rfl, ⟨t, rfl⟩, _, _, rfl, ⟨u, rfl⟩, rfl⟩ A Q E R fun v h' tk st ⟨objs, ho, x, dx, h1, k1, t1, h2, k2, t2, n, ev, hx, hd⟩ => k v h' tk st ⟨x, dx, ev, (ho _ hx).1, (ho _ hd).1, h1, k1, t1, h2, k2, t2, n, (ho _ hx).2.1, (ho _ hd).2.1⟩
theorem c_point {w : World} {s : Shared} {precision : Int} {tp : Tok} {x dx y dy : Addr} {hm he wm we : Int} (B : Base w s.heap) (TA : TabsAll s.heap) (ax : RealD s.heap x dx hm he) (ay : RealD s.heap y dy wm we) (hp : PointOk precision hm he wm we) :
    SaysC w 640 (.ref 488) [.int precision tp, .ref x, .ref y] s (IsBool true) := fun A Q E R k => by
  obtain ⟨h1, k1, t1, h2, k2, t2, n, a1, a2⟩ := bare_real TA ax
  obtain ⟨h1', k1', t1', h2', k2', t2', n', b1, b2⟩ := bare_real TA ay
  exact f_point w precision hm he wm we hp s B TA ⟨_, _, rfl, ⟨tp, rfl⟩, _, _, rfl, ⟨x, dx, h1, k1, t1, h2, k2, t2, n, rfl, a1, a2⟩, _, _, rfl, ⟨y, dy, h1', k1', t1', h2', k2', t2', n', rfl, b1, b2⟩, rfl⟩ A Q E R fun v h' tk st ta n => k v h' tk st ta (let ⟨_, _, e⟩ := n; e)
theorem useC {w : World} {A : Around} {E Q : Value → Shared → Prop} {s : Shared} {d : Nat} {f : Value} {vs : List Value} {g : Heap} {L : Addr} {mm : Str → Option Value} {rest : List (Addr × Obj)} {post : Heap → Value → Prop} (own : List (Addr × Obj)) (C : SaysC w d f vs s post) (R : Room A d) (F : Fr (bare g) L s.heap mm) (N : News (bare g) L s.heap (own ++ rest)) (TI : TabsIn (bare g) rest) (hown : ∀ q ∈ own, NotTab q.2)
    (h : ∀ v h' tk' rest', Fr (bare g) L h' mm → News (bare g) L h' (own ++ rest') → TabsIn (bare g) rest' → post h' v → StaysBut tabL s.heap h' → Q v { s with heap := h', toks := tk' }) : wpAny (model Pg w) A (call f vs) Q E s := by
  have TA := tabsAll_of F N TI
  refine C A Q E R fun v h' tk st ta hp => ?_
  have kL : ∀ b o, NotTab o → s.heap.get? b = some o → h'.get? b = some o := fun b o nt e => st b o (notTab_mem TA nt e) e
  have F' : Fr (bare g) L h' mm := by
    refine ⟨?_, fun b o e => st b o (fun hb => ?_) (F.keep b o e), F.above⟩
    · obtain ⟨o, es, ep, e, hd, r⟩ := F.ns
      exact ⟨o, es, ep, kL _ _ (.inr fun vs q => by rw [hd] at q; cases q) e, hd, r⟩
    · rw [bare_none hb] at e; cases e
  obtain ⟨rest', N', TI'⟩ := tabsIn_of F' ta (fun P hP => bare_none hP)
  refine h v h' tk rest' F' (fun p hp => ?_) TI' hp st
  rcases List.mem_append.mp hp with hp | hp
  · have n := N p (List.mem_append_left _ hp)
    exact ⟨kL _ _ (hown p hp) n.1, n.2⟩
  · exact N' p hp
/-- what holds between the turns -/
def TurnP (g : Heap) (D : Addr) (m : Str → Option Value) (news : List (Addr × Obj)) : Prop := m "deck" = some (.ref D) ∧ ∃ us ns c rest, news = (D, W.listOf (List.toArray us) c) :: rest ∧ TabsIn (bare g) rest ∧ IntsAre us ns ∧ us.length ≤ 12
def TurnEnd (g : Heap) (D L I : Addr) (it : Obj) (s : Shared) (fl : Flow) (s' : Shared) : Prop := fl = .next ∧ ∃ h' tk' m' news', s' = { s with heap := h', toks := tk' } ∧ Fr (bare g) L h' m' ∧ News (bare g) L h' ((I, it) :: news') ∧ (∀ p ∈ news', p.1 ≠ I) ∧ TurnP g D m' news'
theorem range_all {prog : Program} {w : World} {A : Around} {E : Value → Shared → Prop} {s : Shared} {env : Env} {g : Heap} {x : Str} {body : List Stmt} {Q : Flow → Shared → Prop} {D I : Addr} {a : Int} {n : Nat} (hE : ∀ f s', E f s' → E f s')
    (turn : ∀ i it m news h tk t, it = itR (a + ((i + 1 : Nat) : Int)) ((n : Int) - ((i + 1 : Nat) : Int)) → TurnP g D m news → Fr (bare g) env.locals h (fun y => if y = x then some (.int (a + (i : Int)) t) else m y) → News (bare g) env.locals h ((I, it) :: news) →
      wpAny (model prog w) A (execs body env) (TurnEnd g D env.locals I it s) E { s with heap := h, toks := tk })
    (done : ∀ m news h tk, TurnP g D m news → Fr (bare g) env.locals h m → News (bare g) env.locals h news → Q .next { s with heap := h, toks := tk }) :
    ∀ k i m news, TurnP g D m news → RangeRest prog w A E (bare g) env x body Q s I a n k i m news := by
  intro k
  induction k with
  | zero => intro i m news hP; exact RangeRest.zero fun h tk F N => done m news h tk hP F N
  | succ k ih =>
    intro i m news hP
    refine RangeRest.succ fun t h tk F N => wpAny_mono (turn i _ m news h tk t rfl hP F N) (fun fl s' q => ?_) (fun _ _ x => x)
    obtain ⟨rfl, h', tk', m', news', rfl, F', N', off, P'⟩ := q
    exact UnrEnd.intro (s₁ := { s with heap := h, toks := tk }) F' N' news' (fun p hp => hp) off (ih (i + 1) m' news' P')
end Mine
end
theorem Mine.offM1 : True := by
  w_top off
  trivial
noncomputable section
open PySem PySem.W PyProof.Rows PySem.Calls
set_option Elab.async false
set_option maxRecDepth 100000
set_option maxHeartbeats 8000000
set_option linter.all false
set_option exponentiation.threshold 5000
namespace Mine
theorem filledM1 : PySem.Challenge.rw_pc0352_01 = PySem.Challenge.rw_pc0352_01 ∧ hd.heap_39 = hd.heap_39 := by
  k_fill
  exact ⟨rfl, rfl⟩

theorem useDeck {w : World} {A : Around} {E Q : Value → Shared → Prop} {s : Shared} {d : Nat} {f : Value} {vs : List Value} {h₀ : Heap} {L : Addr} {mm : Str → Option Value} {news : List (Addr × Obj)} (C : Says w d f vs s (NewDeck s.heap)) (R : Room A d) (F : Fr h₀ L s.heap mm) (N : News h₀ L s.heap news)
    (h : ∀ D us ns n h' tk', Fr h₀ L h' mm → News h₀ L h' ((D, W.listOf (List.toArray us) n) :: news) → IntsAre us ns → us.length ≤ 12 → Q (.ref D) { s with heap := h', toks := tk' }) : wpAny (model Pg w) A (call f vs) Q E s :=
  C A Q E R fun v h' tk k ⟨D, us, ns, n, e, hn, ho, hi, hl⟩ => e ▸ h D us ns n h' tk (after F k) (afterN1 F N k hn ho) hi hl
theorem bare_get' {g : Heap} {b : Addr} {o : Obj} (hn : ∀ P ∈ tabL, g.get? P = none) (e : g.get? b = some o) : (bare g).get? b = some o := bare_get (fun hb => by rw [hn b hb] at e; cases e) e
theorem bare_stays {g : Heap} (hn : ∀ P ∈ tabL, g.get? P = none) : g.StaysIn (bare g) := fun _ _ e => bare_get' hn e
theorem start {g h₁ : Heap} {L : Addr} {m : Str → Option Value} {w : World} {loose : List Str} {mean : ExcName → Option Value} {mg mb : Str → Option Value} {l : Addr} {vs : Array Value} (F : Fr g L h₁ m) (N : News g L h₁ [(401, tabObj #[]), (483, tabObj #[]), (380, tabObj #[]), (359, tabObj #[]), (366, tabObj #[]), (331, tabObj #[]), (476, tabObj #[])])
    (X : (hd.heap_39 w.params).In g) (T : Top topProg loose mean mg mb g) (hl : g.IsList l vs) :
    ∃ g0 rest, g.StaysIn (bare g0) ∧ Fr (bare g0) L h₁ m ∧ News (bare g0) L h₁ rest ∧ TabsIn (bare g0) rest ∧ (hd.heap_39 w.params).In (bare g0) ∧ Top topProg loose mean mg mb (bare g0) ∧ (bare g0).IsList l vs := by
  have hn : ∀ P ∈ tabL, g.get? P = none := fun P hP => (N (P, tabObj #[]) (by
    simp only [tabL, List.mem_cons, List.not_mem_nil, or_false] at hP
    rcases hP with rfl | rfl | rfl | rfl | rfl | rfl | rfl <;> simp)).2.2
  have st := bare_stays hn
  refine ⟨g, _, st, ⟨F.ns, fun b o e => F.keep b o (bare_of e), (bare_size g) ▸ F.above⟩, fun p hp => ⟨(N p hp).1, (N p hp).2.1, ?_⟩, ⟨fun _ => #[], [], rfl, fun P hP => ⟨trivial, fun q hq e v hv => by cases hv⟩, fun _ h => nomatch h⟩, Frag.In.keeps X st, T.keeps st, stays_list st hl⟩
  cases q : (bare g).get? p.1 with
  | none => rfl
  | some o => have := bare_of q; rw [(N p hp).2.2] at this; cases this
theorem many_pos (v : Int) : (0 : Int) < 1 * 2 ^ Int.toNat v := by
  rw [Int.one_mul, show (2 : Int) ^ Int.toNat v = ((2 ^ Int.toNat v : Nat) : Int) by simp]; exact Int.natCast_pos.mpr (Nat.two_pow_pos _)
theorem many_div {v : Int} (h : v ≤ 7) : divOk (1 * 2 ^ Int.toNat v) := by
  refine ⟨Int.ne_of_gt (many_pos v), ?_⟩
  rw [Int.one_mul, show (2 : Int) ^ Int.toNat v = ((2 ^ Int.toNat v : Nat) : Int) by simp, Int.natAbs_natCast]
  exact Nat.pow_lt_pow_right (by decide) (by omega)
theorem many_div1 {v : Int} (h : v ≤ 7) : divOk (1 * 2 ^ Int.toNat v + 1) := by
  have := many_pos v
  refine ⟨by omega, ?_⟩
  rw [Int.one_mul, show (2 : Int) ^ Int.toNat v = ((2 ^ Int.toNat v : Nat) : Int) by simp]
  have h2 : 2 ^ Int.toNat v ≤ 2 ^ 7 := Nat.pow_le_pow_right (by decide) (by omega)
  refine Nat.lt_of_le_of_lt (m := 2 ^ 8) ?_ (Nat.pow_lt_pow_right (by decide) (by decide))
  generalize 2 ^ Int.toNat v = q at *
  omega
/-- an int and the mantissa it is made of -/
def IfPost (g : Heap) (D L : Addr) (mm : Str → Option Value) (own rest : List (Addr × Obj)) (mant : Int) (s : Shared) (v : Value) (s' : Shared) : Prop :=
  ∃ val t h' tk us ns n, v = .int val t ∧ (val = mant ∨ val = 0 - mant) ∧ s' = { s with heap := h', toks := tk } ∧ Fr (bare g) L h' mm ∧ News (bare g) L h' ((D, W.listOf (List.toArray us) n) :: (own ++ rest)) ∧ IntsAre us ns ∧ us.length ≤ 12
theorem range_all2 {prog : Program} {w : World} {A : Around} {E : Value → Shared → Prop} {s : Shared} {env : Env} {g : Heap} {x : Str} {body : List Stmt} {Q : Flow → Shared → Prop} {D I : Addr} {a : Int} {n : Nat} {k i : Nat} {m : Str → Option Value} {news : List (Addr × Obj)}
    (turn : ∀ D I E' i it m news h tk t, it = itR (a + ((i + 1 : Nat) : Int)) ((n : Int) - ((i + 1 : Nat) : Int)) → TurnP g D m news → Fr (bare g) env.locals h (fun y => if y = x then some (.int (a + (i : Int)) t) else m y) → News (bare g) env.locals h ((I, it) :: news) →
      wpAny (model prog w) A (execs body env) (TurnEnd g D env.locals I it s) E' { s with heap := h, toks := tk })
    (done : ∀ D m news h tk, TurnP g D m news → Fr (bare g) env.locals h m → News (bare g) env.locals h news → Q .next { s with heap := h, toks := tk }) (hP : TurnP g D m news) : RangeRest prog w A E (bare g) env x body Q s I a n k i m news :=
  range_all (fun _ _ x => x) (turn D I E) (done D) k i m news hP
theorem if_join {M : Model} {A : Around} {t : Sem Value} {Q : Value → Shared → Prop} {E : Value → Shared → Prop} {s : Shared} {g : Heap} {L : Addr} {mm : Str → Option Value} (_ : Fr (bare g) L s.heap mm) (D : Addr) (own rest : List (Addr × Obj)) (mant : Int) (h1 : wpAny M A t (IfPost g D L mm own rest mant s) E s) (h2 : ∀ v s', IfPost g D L mm own rest mant s v s' → Q v s') : wpAny M A t Q E s :=
  wpAny_mono h1 h2 fun _ _ x => x
theorem useA4 {w : World} {A : Around} {E Q : Value → Shared → Prop} {s : Shared} {g : Heap} {L D I : Addr} {oD oI : Obj} {mm : Str → Option Value} {rest : List (Addr × Obj)} {env : Env} {p m e : Int} {tp : Tok} {x dx : Addr} {h1 h2 : Int} {k1 t1 k2 t2 : Tok} {nd : Nat} (hfr : A.frames = some [env]) (hef : env.frame = some L) (hek : env.scope.kind ≠ .module) (R : Room A 640) (B : Base w (bare g)) (F : Fr (bare g) L s.heap mm)
    (N : News (bare g) L s.heap ((x, instObj 89 dx) :: (dx, dictOf [⟨h1, .str "mantissa" k1, .int m t1⟩, ⟨h2, .str "exponent" k2, .int e t2⟩] nd) :: (D, oD) :: (I, oI) :: rest)) (TI : TabsIn (bare g) rest)
    (hD : NotTab oD) (hI : NotTab oI) (hp : ArcsOk p m e)
    (h : ∀ h' tk rest', Fr (bare g) L h' mm → News (bare g) L h' ((D, oD) :: (I, oI) :: rest') → TabsIn (bare g) rest' → Q (.bool true) { s with heap := h', toks := tk }) : wpAny (model Pg w) A (call (.ref 481) [.int p tp, .ref x]) Q E s := by
  refine useA [(x, instObj 89 dx), (dx, dictOf [⟨h1, .str "mantissa" k1, .int m t1⟩, ⟨h2, .str "exponent" k2, .int e t2⟩] nd), (D, oD), (I, oI)] hfr hef hek R B F N TI (fun q hq => ?_) (.head _) (.tail _ (.head _)) hp fun h' tk rest' F' N' TI' => h h' tk rest' F' (News.sub N' fun p hp => .tail _ (.tail _ hp)) TI'
  simp only [List.mem_cons, List.not_mem_nil, or_false] at hq
  rcases hq with rfl | rfl | rfl | rfl
  · exact .inr fun vs => nofun
  · exact .inr fun vs => nofun
  · exact hD
  · exact hI
theorem usePt {w : World} {A : Around} {E Q : Value → Shared → Prop} {s : Shared} {g : Heap} {L D I : Addr} {oD oI : Obj} {mm : Str → Option Value} {rest : List (Addr × Obj)} {p m e m2 e2 : Int} {tp : Tok} {x dx y dy : Addr} {h1 h2 : Int} {k1 t1 k2 t2 : Tok} {nd : Nat} {h3 h4 : Int} {k3 t3 k4 t4 : Tok} {ne : Nat} (R : Room A 640) (B : Base w (bare g)) (F : Fr (bare g) L s.heap mm)
    (N : News (bare g) L s.heap ((x, instObj 89 dx) :: (dx, dictOf [⟨h1, .str "mantissa" k1, .int m t1⟩, ⟨h2, .str "exponent" k2, .int e t2⟩] nd) :: (y, instObj 89 dy) :: (dy, dictOf [⟨h3, .str "mantissa" k3, .int m2 t3⟩, ⟨h4, .str "exponent" k4, .int e2 t4⟩] ne) :: (D, oD) :: (I, oI) :: rest)) (TI : TabsIn (bare g) rest)
    (hD : NotTab oD) (hI : NotTab oI) (hp : PointOk p m e m2 e2)
    (h : ∀ h' tk rest', Fr (bare g) L h' mm → News (bare g) L h' ((D, oD) :: (I, oI) :: rest') → TabsIn (bare g) rest' → Q (.bool true) { s with heap := h', toks := tk }) : wpAny (model Pg w) A (call (.ref 488) [.int p tp, .ref x, .ref y]) Q E s := by
  have TA : TabsAll s.heap := tabsAll_of (own := [(x, instObj 89 dx), (dx, dictOf [⟨h1, .str "mantissa" k1, .int m t1⟩, ⟨h2, .str "exponent" k2, .int e t2⟩] nd), (y, instObj 89 dy), (dy, dictOf [⟨h3, .str "mantissa" k3, .int m2 t3⟩, ⟨h4, .str "exponent" k4, .int e2 t4⟩] ne), (D, oD), (I, oI)]) F N TI
  refine useC [(D, oD), (I, oI)] (c_point (Base.keeps B F.keep) TA ⟨_, _, _, _, _, _, _, (N _ (.head _)).1, (N _ (.tail _ (.head _))).1⟩ ⟨_, _, _, _, _, _, _, (N _ (.tail _ (.tail _ (.head _)))).1, (N _ (.tail _ (.tail _ (.tail _ (.head _))))).1⟩ hp) R F (News.sub N fun q hq => .tail _ (.tail _ (.tail _ (.tail _ hq)))) TI (fun q hq => ?_) fun v h' tk rest' F' N' TI' e _ => (show v = .bool true from e) ▸ h h' tk rest' F' N' TI'
  simp only [List.mem_cons, List.not_mem_nil, or_false] at hq
  rcases hq with rfl | rfl
  · exact hD
  · exact hI
theorem map_eta {m : Str → Option Value} {k : Str} {v : Option Value} (h : m k = v) : m = fun y => if y = k then v else m y := funext fun y => by
  by_cases q : y = k
  · rw [if_pos q, q, h]
  · rw [if_neg q]
theorem good_true {c : ClaimW} {cl : Str → Option Addr} {mean : ExcName → Option Value} {args : List WData} {s₁ s' : Shared} (h1 : ∀ cls, c.raises args cls = false) (h2 : c.post args (.bool true) args = true) (h3 : ∀ b o, s₁.heap.get? b = some o → s'.heap.get? b = some o) (h4 : s'.os = s₁.os) (h5 : s'.gens = #[]) : GoodW c cl mean args s₁ (.ok (.ret (.bool true))) s' :=
  ⟨.inl ⟨_, _, [], rfl, h1, .bool _, h2, fun _ => ⟨.nil, fun _ ha => nomatch ha⟩⟩, h3, h4, h5⟩
theorem grown_all {h₀ h : Heap} {L : Addr} {news rest : List (Addr × Obj)} (N : News h₀ L h news) (TI : TabsIn h₀ rest) (k : ∀ p ∈ rest, p ∈ news) : ∀ tabs : List (Addr × Addr), (∀ q ∈ tabs, q.2 ∈ tabL) → GrownAll tabs h
  | [], _ => trivial
  | q :: r, hq => by
    obtain ⟨tb, codes, rfl, ok, _⟩ := TI
    exact ⟨⟨_, (N (q.2, tabObj (tb q.2)) (k _ (List.mem_append_left _ (List.mem_map_of_mem (hq q (.head _)))))).1⟩, grown_all N ⟨tb, codes, rfl, ok, by assumption⟩ k r fun p hp => hq p (.tail _ hp)⟩
theorem anyE {α : Type} {M : Model} {A : Around} {t : Sem α} {Q : α → Shared → Prop} {E : Value → Shared → Prop} {s : Shared} (h : ∀ E', wpAny M A t Q E' s) : wpAny M A t Q E s := h E
theorem off_it {h₀ h : Heap} {L I D : Addr} {it oD : Obj} {a b : Int} {rest : List (Addr × Obj)} (N : News h₀ L h ((I, it) :: (D, oD) :: rest)) (hit : it = itR a b) (TI : TabsIn h₀ rest) (hD : oD.cls = .type "list") : ∀ p ∈ (D, oD) :: rest, p.1 ≠ I := fun p hp q => by
  have hI := (N _ (.head _)).1
  have e := (N p (.tail _ hp)).1
  rw [q, hI] at e
  have e2 := Option.some.inj e
  rw [hit] at e2
  rcases List.mem_cons.mp hp with rfl | hp
  · have e3 : (itR a b).cls = oD.cls := congrArg Obj.cls e2
    rw [hD] at e3
    exact absurd (Value.type.inj e3) (by decide)
  · obtain ⟨tb, codes, rfl, ok, ir⟩ := TI
    rcases List.mem_append.mp hp with hp | hp
    · obtain ⟨P, hP, rfl⟩ := List.mem_map.mp hp
      have e3 := congrArg Obj.cls e2
      cases e3
    · obtain ⟨vs, x, t, hd, hv⟩ := ir p hp
      rw [← e2] at hd
      have hd' : (Data.fields #[rawInt a, rawInt b, rawInt 1]) = Data.fields vs := hd
      cases hd'
      have hv' : (some (rawInt b)) = some (Value.str x t) := hv
      cases hv'
theorem turn_end {g h' : Heap} {D L I : Addr} {it : Obj} {s s' : Shared} {m' : Str → Option Value} {rest : List (Addr × Obj)} {us : List Value} {ns : List Int} {n : Nat} {tk : Nat} {a b : Int} (hit : it = itR a b) (hm : m' "deck" = some (.ref D)) (F : Fr (bare g) L h' m') (N : News (bare g) L h' ((D, W.listOf us.toArray n) :: (I, it) :: rest)) (TI : TabsIn (bare g) rest) (hi : IntsAre us ns) (hl : us.length ≤ 12) (hs : s' = { s with heap := h', toks := tk }) : TurnEnd g D L I it s .next s' := by
  have N' : News (bare g) L h' ((I, it) :: (D, W.listOf us.toArray n) :: rest) := News.sub N fun p hp => by
    rcases List.mem_cons.mp hp with rfl | hp
    · exact .tail _ (.head _)
    rcases List.mem_cons.mp hp with rfl | hp
    · exact .head _
    · exact .tail _ (.tail _ hp)
  exact ⟨rfl, h', tk, m', _, hs, F, N', off_it N' hit TI rfl, hm, us, ns, n, rest, rfl, TI, hi, hl⟩
local macro_rules | `(tactic| walk_at "mine base") => `(tactic| exact baseAt (by k_asm) (by k_asm) (by k_asm))
local macro_rules | `(tactic| walk_at "mine room") => `(tactic| exact ⟨rfl, Nat.le_of_ble_eq_true rfl, Nat.le_of_ble_eq_true rfl⟩)
local macro_rules | `(tactic| walk_at "getAttr ref") => `(tactic| (k_here; k_dflt (refine' get_own ?k1 ?k2 ?k3 ?k4 ?k5 ?k6 ?k7 ?k8 ?k9 ?_; (case k1 => k_asm); (case k2 => k_asm); (case k3 => exact instKeeps (by assumption) (by assumption) (by k_asm)); (case k4 => k_is); (case k5 => k_is); (case k6 => k_is); (case k7 => k_is); (case k8 => k_get); (case k9 => k_handed); k_whole)))
local macro_rules | `(tactic| walk_at "mine dec") => `(tactic| first | with_reducible assumption | (simp only [beq_iff_eq, bne_iff_ne, ne_eq, decide_eq_true_eq, decide_eq_false_iff_not, Bool.not_eq_true, Bool.and_eq_true, Bool.or_eq_true]; first | with_reducible assumption | omega))
local macro_rules | `(tactic| walk_at "ite") => `(tactic| (k_here; k_openite; first | refine ite_pos (by walk_at "mine dec") ?_ | refine ite_neg (by walk_at "mine dec") ?_))
local macro_rules | `(tactic| walk_at "mine side") => `(tactic| first | with_reducible assumption | omega | exact ⟨by omega, by omega, by decide⟩ | exact ⟨by decide, by decide⟩ | decide | ((try simp only [sz, iabs, zb, sh, sl] at *); omega))
local macro_rules | `(tactic| walk_at "binaryOp LShift int int") => `(tactic| (with_reducible show wpAny _ _ (binaryOp _ (Value.int _ _) (Value.int _ _)) _ _ _; refine shl_rule (by walk_at "mine side") ?_))
local macro_rules | `(tactic| k_mem) => `(tactic| first | apply List.mem_cons_self | (apply List.Mem.tail; k_mem))
local macro_rules | `(tactic| walk_at "call ref") => `(tactic| (k_here; (with_reducible show wpAny _ _ (call (Value.ref 121) _) _ _ _); k_dflt (refine' useR (c_lean ?B ?hp) ?R ?F ?N ?_; (case F => k_asm); (case N => k_asm); (case hp => walk_at "mine side"); (case B => walk_at "mine base"); (case R => walk_at "mine room")); intro x' dx' h1' k1' t1' h2' k2' t2' n' h' tk' F' N'; (try k_sweep); (try dsimp only)))
local macro_rules | `(tactic| walk_at "call ref") => `(tactic| (k_here; (with_reducible show wpAny _ _ (call (Value.ref 411) _) _ _ _); k_dflt (refine' useDeck (c_deck ?B ?hl ?hi ?hx) ?R ?F ?N ?_; (case F => k_asm); (case N => k_asm); (case hl => is_list); (case hi => k_asm); (case hx => k_asm); (case B => walk_at "mine base"); (case R => walk_at "mine room")); intro D' us' ns' n' h' tk' F' N' hi' hl'; (try k_sweep); (try dsimp only)))
local macro_rules | `(tactic| walk_at "call ref") => `(tactic| (k_here; (with_reducible show wpAny _ _ (call (Value.ref 418) _) _ _ _); refine Halt.out ?_))
local macro_rules | `(tactic| walk_at "call ref") => `(tactic| (k_here; (with_reducible show wpAny _ _ (call (Value.ref 481) _) _ _ _); refine Halt.out ?_))
local macro_rules | `(tactic| walk_at "call ref") => `(tactic| (k_here; (with_reducible show wpAny _ _ (call (Value.ref 488) _) _ _ _); refine Halt.out ?_))
theorem perm_step {α : Type} {a : α} {l m : List α} (h1 : a ∈ m) (h2 : ∀ p ∈ l, p ∈ m) : ∀ p ∈ a :: l, p ∈ m := List.forall_mem_cons.mpr ⟨h1, h2⟩
local macro_rules | `(tactic| walk_at "mine perm") => `(tactic| ((try dsimp only [List.cons_append, List.nil_append]); (repeat' (first | (refine' perm_step ?_ ?_; (focus k_mem)) | (intro p hp; (repeat (first | apply hp | apply List.Mem.tail)))))))
local macro_rules | `(tactic| walk_at "RangeRest") => `(tactic| refine Halt.out ?_)
local macro_rules | `(tactic| walk_at "And") => `(tactic| ((with_reducible show GoodW _ _ _ _ _ _ _ ∧ _); refine Halt.out ?_))
theorem useDraw4 {w : World} {A : Around} {E Q : Value → Shared → Prop} {s : Shared} {g : Heap} {L D I x dx : Addr} {oI ox od : Obj} {mm : Str → Option Value} {loose : List Str} {mean : ExcName → Option Value} {mg mb : Str → Option Value} {rest : List (Addr × Obj)} {us : List Value} {ns : List Int} {n : Nat} {many : Int} {tm : Tok} (R : Room A 800) (X : (hd.heap_39 w.params).In (bare g)) (T : Top topProg loose mean mg mb (bare g)) (F : Fr (bare g) L s.heap mm) (N : News (bare g) L s.heap ((x, ox) :: (dx, od) :: (D, W.listOf us.toArray n) :: (I, oI) :: rest)) (TI : TabsIn (bare g) rest)
    (h1 : ox.cls ≠ .type "list") (h2 : od.cls ≠ .type "list") (h3 : oI.cls ≠ .type "list") (hi : IntsAre us ns) (hlen : us.length ≤ 12) (hm : 0 < many) (hdv : divOk many)
    (h : ∀ v t h' tk us' ns' n', Fr (bare g) L h' mm → News (bare g) L h' ((x, ox) :: (dx, od) :: (D, W.listOf (List.toArray us') n') :: (I, oI) :: rest) → IntsAre us' ns' → us'.length ≤ 12 → 0 ≤ v → v < many → Q (.int v t) { s with heap := h', toks := tk }) :
    wpAny (model Pg w) A (call (.ref 418) [.ref D, .int many tm]) Q E s := by
  refine useDraw (n := n) [(x, ox), (dx, od), (I, oI)] R X T F (News.sub N (by walk_at "mine perm")) TI (fun q hq => ?_) hi hlen hm hdv fun v t h' tk us' ns' n' F' N' hi' hl' h0 h1 => h v t h' tk us' ns' n' F' (News.sub N' (by walk_at "mine perm")) hi' hl' h0 h1
  simp only [List.mem_cons, List.not_mem_nil, or_false] at hq
  rcases hq with rfl | rfl | rfl
  · exact h1
  · exact h2
  · exact h3
local macro_rules | `(tactic| walk_at "eval IfExp") => `(tactic| ((fail_if_success (with_reducible show wpAny _ _ _ (IfPost _ _ _ _ _ _ _ _) _ _)); refine Halt.out ?_))

theorem law_walk
    (H1 : ∀ p mt val q : Int, 2 ≤ p → p ≤ 7 → 0 ≤ mt → mt < 1 * 2 ^ Int.toNat p → (val = mt ∨ val = 0 - mt) → 0 ≤ q → q < 19 → ∃ m e, leanF val (q - 9 - p) = some (m, e) ∧ ArcsOk p m e)
    (H2 : ∀ p mt : Int, 2 ≤ p → p ≤ 7 → 0 ≤ mt → mt < 1 * 2 ^ Int.toNat p + 1 → (∃ m e, leanF mt (0 - p) = some (m, e) ∧ ArcsOk p m e) ∧ ∃ m e, leanF (0 - mt) (0 - p) = some (m, e) ∧ ArcsOk p m e)
    (H3 : ∀ p a b : Int, 2 ≤ p → p ≤ 7 → 0 ≤ a → a < 9 → 0 ≤ b → b < 9 → ∃ hm he wm we, leanF (a - 4) 0 = some (hm, he) ∧ leanF (b - 4) 0 = some (wm, we) ∧ (¬ (hm = 0 ∧ wm = 0) → PointOk p hm he wm we)) :
    PySem.Challenge.rw_pc0352_01.Holds := hd (by
  k_go0
  all_goals try k_fold
  rename Fr _ _ _ _ => F9
  rename News _ _ _ _ => N9
  rename Frag.In _ _ => X9
  rename Top topProg _ _ _ _ _ => T9
  rename Heap.IsList _ _ _ => lf9
  obtain ⟨g0, rest, st0, F0, N0, TI0, X0, T0, lf0⟩ := start F9 N9 X9 T9 lf9
  clear F9 N9 X9 T9 lf9
  k_steps
  unfold Halt
  rename Fr _ _ _ _ => F9
  rename News _ _ _ _ => N9
  rename IntsAre _ _ => hi9
  rename _ ≤ 12 => hl9
  refine range_all2 ?turn ?done ⟨rfl, _, _, _, _, rfl, TI0, hi9, hl9⟩
  case done =>
    clear F9 N9 hi9 hl9 TI0 H1 H2 H3
    intro D m news h tk hP F N
    k_steps
    unfold Halt
    obtain ⟨_, us, ns, c, rest, rfl, TI, _⟩ := hP
    refine ⟨good_true (raisesW_false (by wrow_none_raised)) (by wrow_post) (fun b o e => F.keep b o (st0 b o e)) rfl (by assumption), grown_all N TI (fun p hp => .tail _ hp) _ (by decide)⟩
  case turn =>
    clear F9 N9 hi9 hl9 TI0
    rintro D I E9 i it m news h tk t hit ⟨hmd, us, ns, c, rest, rfl, TI0, hi0, hl0⟩ F N
    rw [map_eta hmd] at F
    clear hmd
    dsimp only at F
    k_steps
    unfold Halt
    rename News _ _ _ _ => N9
    refine useDraw (n := c) [(I, it)] ?R X0 T0 (by k_asm) (News.sub N9 (by walk_at "mine perm")) TI0 ?hown hi0 hl0 (by decide) (by decide) ?_
    case R => walk_at "mine room"
    case hown => (refine List.forall_mem_cons.mpr ⟨?_, List.forall_mem_nil _⟩; rw [hit]; exact fun q => absurd (Value.type.inj q) (by decide))
    clear N9 hi0 hl0
    rename Fr _ _ _ _ => F8
    clear F8
    intro p t h' tk us ns n F N hi0 hl0 p0 p1
    dsimp only [List.cons_append, List.nil_append] at N
    k_steps
    unfold Halt
    rename News _ _ _ _ => N9
    refine useDraw (n := n) [(I, it)] ?R X0 T0 (by k_asm) (News.sub N9 (by walk_at "mine perm")) TI0 ?hown hi0 hl0 (many_pos _) (many_div (by omega)) ?_
    case R => walk_at "mine room"
    case hown => (refine List.forall_mem_cons.mpr ⟨?_, List.forall_mem_nil _⟩; rw [hit]; exact fun q => absurd (Value.type.inj q) (by decide))
    clear N9 hi0 hl0
    rename Fr _ _ _ _ => F8
    clear F8
    intro mt t h' tk us ns n F N hi0 hl0 mt0 mt1
    dsimp only [List.cons_append, List.nil_append] at N
    k_steps
    unfold Halt
    rename News _ _ _ _ => N9
    rename Fr _ _ _ _ => F9
    refine if_join F9 D [(I, it)] rest mt ?ife ?aft
    case ife =>
      k_steps
      unfold Halt
      rename News _ _ _ _ => N9
      refine useDraw (n := n) [(I, it)] ?R X0 T0 (by k_asm) (News.sub N9 (by walk_at "mine perm")) TI0 ?hown hi0 hl0 (by decide) (by decide) ?_
      case R => walk_at "mine room"
      case hown => (refine List.forall_mem_cons.mpr ⟨?_, List.forall_mem_nil _⟩; rw [hit]; exact fun q => absurd (Value.type.inj q) (by decide))
      clear N9 hi0 hl0
      rename Fr _ _ _ _ => F8
      clear F8
      intro q t h' tk us ns n F N hi0 hl0 q0 q1
      dsimp only [List.cons_append, List.nil_append] at N
      by_cases hq : q = 1
      all_goals
        k_steps
        rename Fr _ _ _ _ => F9
        rename News _ _ _ _ => N9
      · exact ⟨_, _, _, _, _, _, _, rfl, .inr rfl, rfl, F9, N9, hi0, hl0⟩
      · exact ⟨_, _, _, _, _, _, _, rfl, .inl rfl, rfl, F9, N9, hi0, hl0⟩
    clear N9 F9 hi0 hl0
    rintro v s' ⟨val, tv, h', tk, us, ns, n, rfl, hval, rfl, F, N, hi0, hl0⟩
    k_steps
    unfold Halt
    rename News _ _ _ _ => N9
    refine useDraw (n := n) [(I, it)] ?R X0 T0 (by k_asm) (News.sub N9 (by walk_at "mine perm")) TI0 ?hown hi0 hl0 (by decide) (by decide) ?_
    case R => walk_at "mine room"
    case hown => (refine List.forall_mem_cons.mpr ⟨?_, List.forall_mem_nil _⟩; rw [hit]; exact fun q => absurd (Value.type.inj q) (by decide))
    clear N9 hi0 hl0
    rename Fr _ _ _ _ => F8
    clear F8
    intro q t h' tk us ns n F N hi0 hl0 q0 q1
    dsimp only [List.cons_append, List.nil_append] at N
    obtain ⟨m1, e1, hm1, ha1⟩ := H1 (2 + p) mt val q (by omega) (by omega) mt0 mt1 hval q0 q1
    k_steps
    unfold Halt
    rename News _ _ _ _ => N9
    rename Fr _ _ _ _ => F9
    refine useA4 rfl rfl (fun q => by cases q) (by walk_at "mine room") ⟨X0, _, _, _, _, T0⟩ F9 N9 TI0 (.inr fun vs q => by cases q) (by rw [hit]; exact .inl fun q => by cases q) ha1 ?_
    clear N9 F9 TI0
    intro h' tk rest F N TI0
    k_steps
    unfold Halt
    rename News _ _ _ _ => N9
    refine useDraw (n := n) [(I, it)] ?R X0 T0 (by k_asm) (News.sub N9 (by walk_at "mine perm")) TI0 ?hown hi0 hl0 (by have := many_pos (2 + p); omega) (many_div1 (by omega)) ?_
    case R => walk_at "mine room"
    case hown => (refine List.forall_mem_cons.mpr ⟨?_, List.forall_mem_nil _⟩; rw [hit]; exact fun q => absurd (Value.type.inj q) (by decide))
    clear N9 hi0 hl0
    rename Fr _ _ _ _ => F8
    clear F8
    intro mb t h' tk us ns n F N hi0 hl0 mb0 mb1
    dsimp only [List.cons_append, List.nil_append] at N
    obtain ⟨⟨m2, e2, hm2, ha2⟩, m3, e3, hm3, ha3⟩ := H2 (2 + p) mb (by omega) (by omega) mb0 mb1
    k_steps
    unfold Halt
    rename News _ _ _ _ => N9
    rename Fr _ _ _ _ => F9
    refine useA4 rfl rfl (fun q => by cases q) (by walk_at "mine room") ⟨X0, _, _, _, _, T0⟩ F9 N9 TI0 (.inr fun vs q => by cases q) (by rw [hit]; exact .inl fun q => by cases q) ha2 ?_
    clear N9 F9 TI0
    intro h' tk rest F N TI0
    k_steps
    unfold Halt
    rename News _ _ _ _ => N9
    rename Fr _ _ _ _ => F9
    refine useA4 rfl rfl (fun q => by cases q) (by walk_at "mine room") ⟨X0, _, _, _, _, T0⟩ F9 N9 TI0 (.inr fun vs q => by cases q) (by rw [hit]; exact .inl fun q => by cases q) ha3 ?_
    clear N9 F9 TI0
    intro h' tk rest F N TI0
    k_steps
    unfold Halt
    rename News _ _ _ _ => N9
    refine useDraw (n := n) [(I, it)] ?R X0 T0 (by k_asm) (News.sub N9 (by walk_at "mine perm")) TI0 ?hown hi0 hl0 (by decide) (by decide) ?_
    case R => walk_at "mine room"
    case hown => (refine List.forall_mem_cons.mpr ⟨?_, List.forall_mem_nil _⟩; rw [hit]; exact fun q => absurd (Value.type.inj q) (by decide))
    clear N9 hi0 hl0
    rename Fr _ _ _ _ => F8
    clear F8
    intro a t h' tk us ns n F N hi0 hl0 a0 a1
    dsimp only [List.cons_append, List.nil_append] at N
    obtain ⟨hm, he, _, _, hl1, _, _⟩ := H3 (2 + p) a 0 (by omega) (by omega) a0 a1 (by decide) (by decide)
    k_steps
    unfold Halt
    rename News _ _ _ _ => N9
    rename Fr _ _ _ _ => F9
    refine useDraw4 (by walk_at "mine room") X0 T0 F9 N9 TI0 (fun q => by cases q) (fun q => absurd (Value.type.inj q) (by decide)) (by rw [hit]; exact fun q => absurd (Value.type.inj q) (by decide)) hi0 hl0 (by decide) (by decide) ?_
    clear N9 hi0 hl0 F9
    intro b t h' tk us ns n F N hi0 hl0 b0 b1
    obtain ⟨hm', he', wm, we, hl1', hl2, hpt⟩ := H3 (2 + p) a b (by omega) (by omega) a0 a1 b0 b1
    rw [hl1] at hl1'
    cases hl1'
    k_steps
    · rename News _ _ _ _ => N9
      rename Fr _ _ _ _ => F9
      exact turn_end (n := n) hit rfl F9 (News.sub N9 (by walk_at "mine perm")) TI0 hi0 hl0 rfl
    · unfold Halt
      rename News _ _ _ _ => N9
      rename Fr _ _ _ _ => F9
      rename (_ && _) = false => hz
      have hz' : ¬ (hm = 0 ∧ wm = 0) := by simpa using hz
      refine' usePt (D := D) (I := I) (oD := W.listOf us.toArray n) (oI := it) ?R ⟨X0, _, _, _, _, T0⟩ F9 (News.sub N9 ?N) TI0 (.inr fun vs q => by cases q) (by rw [hit]; exact .inl fun q => by cases q) (hpt hz') ?_
      case R => walk_at "mine room"
      case N =>
        refine List.forall_mem_cons.mpr (And.intro ?_ ?_)
        · k_mem
        refine List.forall_mem_cons.mpr (And.intro ?_ ?_)
        · k_mem
        refine List.forall_mem_cons.mpr (And.intro ?_ ?_)
        · k_mem
        refine List.forall_mem_cons.mpr (And.intro ?_ ?_)
        · k_mem
        walk_at "mine perm"
      clear N9 F9 TI0
      intro h' tk rest F N TI0
      k_steps
      rename News _ _ _ _ => N9
      rename Fr _ _ _ _ => F9
      exact turn_end hit rfl F9 N9 TI0 hi0 hl0 rfl
)
end Mine
end
noncomputable section
open PySem PySem.W PyProof.Rows
set_option linter.all false
set_option maxRecDepth 100000
set_option exponentiation.threshold 5000
namespace Mine
/-- a Nat that is worked out ahead -/
noncomputable def fo {α : Type} (n : Nat) (k : Nat → α) : α := Nat.rec (motive := fun _ => α) (k 0) (fun m _ => k (Nat.succ m)) n
theorem fo_eq {α : Type} (n : Nat) (k : Nat → α) : fo n k = k n := by cases n <;> rfl
theorem bite_eq {α : Type} (b : Bool) (x y : α) : Bool.rec (motive := fun _ => α) x y b = if b = true then y else x := by cases b <;> rfl
/-- the place of the highest bit, fast -/
noncomputable def lgS (s n acc : Nat) (k : Nat → Nat → Nat) : Nat := Bool.rec (k n acc) (fo (Nat.div n (Nat.pow 2 s)) fun n' => fo (Nat.add acc s) fun a' => k n' a') (Nat.ble (Nat.pow 2 s) n)
noncomputable def lgC (n : Nat) : Nat := lgS 64 n 0 fun n a => lgS 32 n a fun n a => lgS 16 n a fun n a => lgS 8 n a fun n a => lgS 4 n a fun n a => lgS 2 n a fun n a => lgS 1 n a fun _ a => a
noncomputable def lg (n : Nat) : Nat := fo (lgC n) fun l => Bool.rec (Nat.log2 n) l (and (Nat.ble (Nat.pow 2 l) n) (Nat.blt n (Nat.pow 2 (Nat.succ l))))
theorem lg_eq (n : Nat) : lg n = Nat.log2 n := by
  unfold lg
  simp only [fo_eq, bite_eq, Bool.and_eq_true, Nat.ble_eq, Nat.blt_eq]
  split
  · rename_i h
    have hn : n ≠ 0 := fun z => by
      have := h.1; rw [z] at this
      exact absurd (Nat.two_pow_pos (lgC n)) (by have e : (Nat.pow 2 (lgC n)) = 2 ^ lgC n := rfl; rw [z] at *; omega)
    exact ((Nat.log2_eq_iff hn).mpr ⟨h.1, h.2⟩).symm
  · rfl
theorem fdiv_nat (a b : Nat) : (a : Int).fdiv b = ((a / b : Nat) : Int) := by
  rw [Int.fdiv_eq_ediv_of_nonneg _ (Int.natCast_nonneg b)]; rfl
theorem up_nat (a b : Nat) (hb : 0 < b) : 0 - (0 - (a : Int)).fdiv b = (((a + (b - 1)) / b : Nat) : Int) := by
  rw [Int.fdiv_eq_ediv_of_nonneg _ (Int.natCast_nonneg b)]
  have hb' : (0 : Int) < b := by omega
  have h1 : ((a + (b - 1) : Nat) : Int) = a + (b - 1) := by omega
  have e1 := Int.mul_ediv_add_emod (0 - (a : Int)) b
  have l1 := Int.emod_nonneg (0 - (a : Int)) (by omega : (b : Int) ≠ 0)
  have l2 := Int.emod_lt_of_pos (0 - (a : Int)) hb'
  rw [Int.natCast_ediv, h1]
  symm
  refine Int.le_antisymm ?_ ?_
  · refine Int.lt_add_one_iff.mp ?_
    refine Int.ediv_lt_of_lt_mul hb' ?_
    have : (0 - (0 - (a : Int)) / (b : Int) + 1) * (b : Int) = b - (b : Int) * ((0 - (a : Int)) / b) := by
      rw [Int.add_mul, Int.sub_mul, Int.mul_comm ((0 - (a : Int)) / b)]; omega
    rw [this]; omega
  · refine (Int.le_ediv_iff_mul_le hb').mpr ?_
    have : (0 - (0 - (a : Int)) / (b : Int)) * (b : Int) = - ((b : Int) * ((0 - (a : Int)) / b)) := by
      rw [Int.sub_mul, Int.mul_comm ((0 - (a : Int)) / b)]; omega
    rw [this]; omega
theorem pow_nat (k : Nat) : (2 : Int) ^ k = ((2 ^ k : Nat) : Int) := by simp
theorem sh_nat (x : Nat) (k : Int) : sh (x : Int) k = ((x / 2 ^ k.toNat : Nat) : Int) := by
  unfold sh; rw [pow_nat, fdiv_nat]
theorem sl_nat (x : Nat) (k : Int) : sl (x : Int) k = ((x * 2 ^ k.toNat : Nat) : Int) := by
  unfold sl; rw [pow_nat]; simp
theorem upsh_nat (x : Nat) (k : Int) : 0 - sh (0 - (x : Int)) k = (((x + (2 ^ k.toNat - 1)) / 2 ^ k.toNat : Nat) : Int) := by
  unfold sh; rw [pow_nat, up_nat _ _ (Nat.two_pow_pos _)]
theorem iabs_nat (x : Nat) : iabs (x : Int) = x := by unfold iabs; rw [if_neg (by omega)]
theorem great_nat {a b : Nat} (h : a ≤ b) : greatP ((a : Int), (b : Int)) = b := by
  show max2 (iabs a) (iabs b) = b
  rw [iabs_nat, iabs_nat]; unfold max2; split <;> omega
theorem min4_nat {a b c d : Nat} (h : a ≤ b) (g : c ≤ d) : min4 ((a : Int) * c) (a * d) (b * c) (b * d) = ((a * c : Nat) : Int) := by
  have h1 : a * c ≤ a * d := Nat.mul_le_mul_left _ g
  have h2 : a * c ≤ b * c := Nat.mul_le_mul_right _ h
  have h3 : a * c ≤ b * d := Nat.mul_le_mul h g
  simp only [← Int.natCast_mul]
  generalize a * c = p at *; generalize a * d = q at *; generalize b * c = r at *; generalize b * d = t at *
  simp only [min4, min2]; (repeat' split) <;> omega
theorem max4_nat {a b c d : Nat} (h : a ≤ b) (g : c ≤ d) : max4 ((a : Int) * c) (a * d) (b * c) (b * d) = ((b * d : Nat) : Int) := by
  have h1 : a * d ≤ b * d := Nat.mul_le_mul_right _ h
  have h2 : b * c ≤ b * d := Nat.mul_le_mul_left _ g
  have h3 : a * c ≤ b * d := Nat.mul_le_mul h g
  simp only [← Int.natCast_mul]
  generalize a * c = p at *; generalize a * d = q at *; generalize b * c = r at *; generalize b * d = t at *
  simp only [max4, max2]; (repeat' split) <;> omega
theorem prodP_nat {a b c d : Nat} (w : Int) (h : a ≤ b) (g : c ≤ d) : prodP w ((a : Int), (b : Int)) ((c : Int), (d : Int)) = ((((a * c / 2 ^ w.toNat : Nat) : Int), (((b * d + (2 ^ w.toNat - 1)) / 2 ^ w.toNat : Nat) : Int)) : Int × Int) := by
  show (sh (min4 ((a : Int) * c) (a * d) (b * c) (b * d)) w, 0 - sh (0 - max4 ((a : Int) * c) (a * d) (b * c) (b * d)) w) = ((_ : Int), (_ : Int))
  rw [min4_nat h g, max4_nat h g, sh_nat, upsh_nat]
theorem mulOk_nat {a b : Nat} (h : a < 2 ^ 4000) (g : b < 2 ^ 4000) : mulOk (a : Int) b := by
  unfold mulOk; simp only [Int.natAbs_natCast]; exact ⟨h, g⟩
abbrev OddT : Type := Nat → Nat → Nat → Nat → Nat → Nat → Nat → Nat → Nat → Nat → Bool → Option (Int × Int)
noncomputable def oddB (ih : OddT) : OddT := fun W q0 q1 a b e pl ph nl nh neg =>
    Bool.rec (some (Int.sub (Int.sub (Int.ofNat pl) (Int.ofNat nh)) (Int.ofNat (Nat.add (Nat.mul 2 b) 2)), Int.add (Int.sub (Int.ofNat ph) (Int.ofNat nl)) (Int.ofNat (Nat.add (Nat.mul 2 b) 2))))
      (Bool.rec none
       (fo (Nat.div (Nat.mul a q0) W) fun a' => fo (Nat.div (Nat.add (Nat.mul b q1) (Nat.sub W 1)) W) fun b' => fo (Nat.div a' e) fun x => fo (Nat.div (Nat.add b' (Nat.sub e 1)) e) fun y =>
       Bool.rec (ih W q0 q1 a' b' (Nat.add e 2) (Nat.add pl x) (Nat.add ph y) nl nh true)
         (ih W q0 q1 a' b' (Nat.add e 2) pl ph (Nat.add nl x) (Nat.add nh y) false) neg) (Nat.ble b W))
      (Nat.ble 2 b)
noncomputable def oddN (n : Nat) : OddT := Nat.rec (motive := fun _ => OddT) (fun _ _ _ _ _ _ _ _ _ _ _ => none) (fun _ ih => oddB ih) n
theorem oddN_succ (n W q0 q1 a b e pl ph nl nh : Nat) (neg : Bool) : oddN (n + 1) W q0 q1 a b e pl ph nl nh neg =
    if 2 ≤ b then (if b ≤ W then (if neg = true then oddN n W q0 q1 (a * q0 / W) ((b * q1 + (W - 1)) / W) (e + 2) pl ph (nl + a * q0 / W / e) (nh + ((b * q1 + (W - 1)) / W + (e - 1)) / e) false
      else oddN n W q0 q1 (a * q0 / W) ((b * q1 + (W - 1)) / W) (e + 2) (pl + a * q0 / W / e) (ph + ((b * q1 + (W - 1)) / W + (e - 1)) / e) nl nh true) else none)
    else some ((pl : Int) - nh - ((2 * b + 2 : Nat) : Int), (ph : Int) - nl + ((2 * b + 2 : Nat) : Int)) := by
  show oddB (oddN n) W q0 q1 a b e pl ph nl nh neg = _
  unfold oddB
  simp only [fo_eq, bite_eq, Nat.ble_eq]
  rfl
theorem odd_sound (work : Int) (W : Nat) (hW : W = 2 ^ work.toNat) (hb : W < 2 ^ 4000) (q0 q1 : Nat) (hq : q0 ≤ q1) (hq1 : q1 < 2 ^ 4000) :
    ∀ (n a b e pl ph nl nh : Nat) (neg : Bool) (r : Int × Int), a ≤ b → 2 ≤ e → e + 2 * n ≤ 10000 → oddN n W q0 q1 a b e pl ph nl nh neg = some r →
    oddLoop n work (-1) ((q0 : Int), (q1 : Int)) ((a : Int), (b : Int)) ((pl : Int) - nh, (ph : Int) - nl) ((e : Int) - 2) (if neg = true then 1 else -1) = some r := by
  intro n
  induction n with
  | zero => intro a b e pl ph nl nh neg r _ _ _ h; exact absurd h (by show none ≠ _; nofun)
  | succ n ih =>
    intro a b e pl ph nl nh neg r hab he hen h
    rw [oddN_succ] at h
    unfold oddLoop
    rw [great_nat hab]
    by_cases c : 2 ≤ b
    · rw [if_pos c] at h
      rw [if_pos (by omega : (1 : Int) < b)]
      by_cases c2 : b ≤ W
      · rw [if_pos c2] at h
        have hWp : 0 < W := hW ▸ Nat.two_pow_pos _
        have e1 : ((e : Int) - 2 + 2) = (e : Int) := by omega
        rw [if_pos (show prodOk ((a : Int), (b : Int)) ((q0 : Int), (q1 : Int)) from ⟨mulOk_nat (by omega) (by omega), mulOk_nat (by omega) (by omega), mulOk_nat (by omega) (by omega), mulOk_nat (by omega) (by omega)⟩)]
        rw [e1, if_pos (show divOk (e : Int) from ⟨by omega, by rw [Int.natAbs_natCast]; exact Nat.lt_of_le_of_lt (by omega : e ≤ 2 ^ 14) (Nat.pow_lt_pow_right (by decide) (by decide))⟩)]
        rw [prodP_nat work hab hq, ← hW]
        have hab' : a * q0 / W ≤ (b * q1 + (W - 1)) / W := Nat.div_le_div_right (Nat.le_trans (Nat.mul_le_mul hab hq) (Nat.le_add_right _ _))
        generalize a * q0 / W = a' at *
        generalize (b * q1 + (W - 1)) / W = b' at *
        have hp : partP ((a' : Int), (b' : Int)) (e : Int) = (((a' / e : Nat) : Int), (((b' + (e - 1)) / e : Nat) : Int)) := by
          show ((a' : Int).fdiv e, 0 - (0 - (b' : Int)).fdiv e) = _
          rw [fdiv_nat, up_nat _ _ (by omega)]
        rw [hp]
        have hxy : a' / e ≤ (b' + (e - 1)) / e := Nat.div_le_div_right (by omega)
        generalize a' / e = x at *
        generalize (b' + (e - 1)) / e = y at *
        cases neg with
        | true =>
          rw [if_pos rfl] at h
          have := ih a' b' (e + 2) pl ph (nl + x) (nh + y) false r hab' (by omega) (by omega) h
          rw [← this]
          have e2 : oftenP ((x : Int), (y : Int)) ((if true = true then (1 : Int) else -1) * -1) = (-(y : Int), -(x : Int)) := by
            show (min2 _ _, max2 _ _) = _
            simp only [min2, max2, if_true]; congr 1 <;> (split <;> omega)
          rw [e2]
          congr 1
          · show ((pl : Int) - nh + -(y : Int), (ph : Int) - nl + -(x : Int)) = _
            congr 1 <;> omega
          · omega
        | false =>
          rw [if_neg (by decide)] at h
          have := ih a' b' (e + 2) (pl + x) (ph + y) nl nh true r hab' (by omega) (by omega) h
          rw [← this]
          have e2 : oftenP ((x : Int), (y : Int)) ((if false = true then (1 : Int) else -1) * -1) = ((x : Int), (y : Int)) := by
            show (min2 _ _, max2 _ _) = _
            simp only [min2, max2, if_neg Bool.false_ne_true]; congr 1 <;> (split <;> omega)
          rw [e2]
          congr 1
          · show ((pl : Int) - nh + (x : Int), (ph : Int) - nl + (y : Int)) = _
            congr 1 <;> omega
          · omega
      · rw [if_neg c2] at h; cases h
    · rw [if_neg c] at h
      rw [if_neg (by omega : ¬ (1 : Int) < b)]
      rw [← h]
      show some ((pl : Int) - nh - (2 * (b : Int) + 2), (ph : Int) - nl + (2 * (b : Int) + 2)) = _
      congr 2
end Mine
end
noncomputable section
open PySem PySem.W PyProof.Rows
set_option linter.all false
set_option maxRecDepth 100000
set_option exponentiation.threshold 5000
namespace Mine
theorem lt_of_log2 {t n : Nat} (h : t.log2 ≤ n) : t < 2 ^ (n + 1) := by
  by_cases z : t = 0
  · subst z; exact Nat.two_pow_pos _
  · exact (Nat.log2_lt z).mp (by omega)
theorem lt4 {t : Nat} (h : t.log2 ≤ 3000) : t < 2 ^ 4000 := Nat.lt_of_lt_of_le (lt_of_log2 h) (Nat.pow_le_pow_right (by decide) (by decide))
theorem lt3 {t : Nat} (h : t ≤ 2 ^ 3000) : t < 2 ^ 4000 := Nat.lt_of_le_of_lt h (Nat.pow_lt_pow_right (by decide) (by decide))
/-- the odd series of a number from 0 on -/
noncomputable def oddP (w t b : Nat) : Option (Int × Int) :=
  Bool.rec none (fo (Nat.pow 2 w) fun W => fo (Nat.div (Nat.mul t W) b) fun a => fo (Nat.div (Nat.add (Nat.mul t W) (Nat.sub b 1)) b) fun c =>
    fo (Nat.div (Nat.mul a a) W) fun q0 => fo (Nat.div (Nat.add (Nat.mul c c) (Nat.sub W 1)) W) fun q1 => Bool.rec none (oddN 1000 W q0 q1 a c 3 a c 0 0 true) (and (Nat.ble c (Nat.mul 4 W)) (Nat.ble q1 (Nat.mul 16 W))))
    (and (Nat.ble w 2000) (and (Nat.ble 1 b) (and (Nat.ble t (Nat.pow 2 3000)) (Nat.ble b (Nat.pow 2 3000)))))
theorem oddP_sound {w t b : Nat} {r : Int × Int} (h : oddP w t b = some r) : oddF w t b (-1) = some r := by
  unfold oddP at h
  simp only [fo_eq, bite_eq, Bool.and_eq_true, Nat.ble_eq] at h
  split at h
  · rename_i c
    obtain ⟨c1, c2, c3, c4⟩ := c
    split at h
    · rename_i d
      obtain ⟨d1, d2⟩ := d
      replace h : oddN 1000 (2 ^ w) (t * 2 ^ w / b * (t * 2 ^ w / b) / 2 ^ w) (((t * 2 ^ w + (b - 1)) / b * ((t * 2 ^ w + (b - 1)) / b) + (2 ^ w - 1)) / 2 ^ w) (t * 2 ^ w / b) ((t * 2 ^ w + (b - 1)) / b) 3 (t * 2 ^ w / b) ((t * 2 ^ w + (b - 1)) / b) 0 0 true = some r := h
      replace d1 : (t * 2 ^ w + (b - 1)) / b ≤ 4 * 2 ^ w := d1
      replace d2 : ((t * 2 ^ w + (b - 1)) / b * ((t * 2 ^ w + (b - 1)) / b) + (2 ^ w - 1)) / 2 ^ w ≤ 16 * 2 ^ w := d2
      have hfb : fboundP w t b = (((t * 2 ^ w / b : Nat) : Int), (((t * 2 ^ w + (b - 1)) / b : Nat) : Int)) := by
        show ((sl (t : Int) w).fdiv b, 0 - (0 - sl (t : Int) w).fdiv b) = _
        rw [sl_nat, fdiv_nat, up_nat _ _ (by omega)]; rfl
      have hac : t * 2 ^ w / b ≤ (t * 2 ^ w + (b - 1)) / b := Nat.div_le_div_right (Nat.le_add_right _ _)
      have hW : 16 * 2 ^ w < 2 ^ 4000 := by
        have e : 16 * 2 ^ w = 2 ^ (w + 4) := by rw [Nat.pow_add]; omega
        rw [e]; exact Nat.pow_lt_pow_right (by decide) (by omega)
      unfold oddF
      rw [if_pos (show shlOk (t : Int) w from ⟨by omega, by omega, by rw [Int.natAbs_natCast]; exact lt3 c3⟩)]
      rw [if_pos (show divOk (b : Int) from ⟨by omega, by rw [Int.natAbs_natCast]; exact lt3 c4⟩)]
      rw [hfb]
      generalize t * 2 ^ w / b = a at *
      generalize (t * 2 ^ w + (b - 1)) / b = c at *
      have hc : c < 2 ^ 4000 := by omega
      have ha : a < 2 ^ 4000 := by omega
      rw [if_pos (show prodOk ((a : Int), (c : Int)) ((a : Int), (c : Int)) from ⟨mulOk_nat ha ha, mulOk_nat ha hc, mulOk_nat hc ha, mulOk_nat hc hc⟩)]
      rw [prodP_nat (w : Int) hac hac]
      have hq : a * a / 2 ^ w ≤ (c * c + (2 ^ w - 1)) / 2 ^ w := Nat.div_le_div_right (Nat.le_trans (Nat.mul_le_mul hac hac) (Nat.le_add_right _ _))
      have := odd_sound w (2 ^ w) rfl (by omega) _ _ hq (Nat.lt_of_le_of_lt d2 hW) 1000 a c 3 a c 0 0 true r hac (by omega) (by omega) h
      rw [← this]
      congr 1 <;> simp
    · cases h
  · cases h
theorem min4_neg (a b c d : Int) : min4 (-a) (-b) (-c) (-d) = - max4 a b c d := by
  simp only [min4, max4, min2, max2]; (repeat' split) <;> omega
theorem max4_neg (a b c d : Int) : max4 (-a) (-b) (-c) (-d) = - min4 a b c d := by
  simp only [min4, max4, min2, max2]; (repeat' split) <;> omega
theorem min4_swap (a b c d : Int) : min4 c d a b = min4 a b c d := by
  simp only [min4, min2]; (repeat' split) <;> omega
theorem max4_swap (a b c d : Int) : max4 c d a b = max4 a b c d := by
  simp only [max4, max2]; (repeat' split) <;> omega
theorem min4_swap2 (a b c d : Int) : min4 b a d c = min4 a b c d := by
  simp only [min4, min2]; (repeat' split) <;> omega
theorem max4_swap2 (a b c d : Int) : max4 b a d c = max4 a b c d := by
  simp only [max4, max2]; (repeat' split) <;> omega
theorem contra_mk (a b : Int) : contraP (a, b) = (0 - b, 0 - a) := rfl
theorem prodP_contra (w : Int) (p q : Int × Int) : prodP w (contraP p) q = contraP (prodP w p q) := by
  obtain ⟨a, b⟩ := p; obtain ⟨c, d⟩ := q
  show (sh (min4 ((0 - b) * c) ((0 - b) * d) ((0 - a) * c) ((0 - a) * d)) w, 0 - sh (0 - max4 ((0 - b) * c) ((0 - b) * d) ((0 - a) * c) ((0 - a) * d)) w) = (0 - (0 - sh (0 - max4 (a * c) (a * d) (b * c) (b * d)) w), 0 - sh (min4 (a * c) (a * d) (b * c) (b * d)) w)
  simp only [Int.zero_sub, Int.neg_mul, min4_neg, max4_neg, Int.neg_neg, max4_swap (a * c), min4_swap (a * c)]
theorem prodOk_contra (p q : Int × Int) : prodOk (contraP p) q ↔ prodOk p q := by
  obtain ⟨a, b⟩ := p; obtain ⟨c, d⟩ := q
  unfold prodOk mulOk
  have e1 : (0 - b).natAbs = b.natAbs := by omega
  have e2 : (0 - a).natAbs = a.natAbs := by omega
  show ((0 - b).natAbs < _ ∧ _) ∧ ((0 - b).natAbs < _ ∧ _) ∧ ((0 - a).natAbs < _ ∧ _) ∧ ((0 - a).natAbs < _ ∧ _) ↔ _
  rw [e1, e2]
  constructor
  · rintro ⟨⟨a, b⟩, ⟨c, d⟩, ⟨e, f⟩, ⟨g, h⟩⟩; exact ⟨⟨e, f⟩, ⟨g, h⟩, ⟨a, b⟩, ⟨c, d⟩⟩
  · rintro ⟨⟨a, b⟩, ⟨c, d⟩, ⟨e, f⟩, ⟨g, h⟩⟩; exact ⟨⟨e, f⟩, ⟨g, h⟩, ⟨a, b⟩, ⟨c, d⟩⟩
theorem great_contra (p : Int × Int) : greatP (contraP p) = greatP p := by
  obtain ⟨a, b⟩ := p
  show max2 (iabs (0 - b)) (iabs (0 - a)) = max2 (iabs a) (iabs b)
  simp only [max2, iabs]; (repeat' split) <;> omega
theorem more_contra (p q : Int × Int) : moreP (contraP p) (contraP q) = contraP (moreP p q) := by
  obtain ⟨a, b⟩ := p; obtain ⟨c, d⟩ := q
  show (0 - b + (0 - d), 0 - a + (0 - c)) = (0 - (b + d), 0 - (a + c))
  congr 1 <;> omega
theorem part_contra (p : Int × Int) (k : Int) : partP (contraP p) k = contraP (partP p k) := by
  obtain ⟨a, b⟩ := p
  show ((0 - b).fdiv k, 0 - (0 - (0 - a)).fdiv k) = (0 - (0 - (0 - b).fdiv k), 0 - a.fdiv k)
  have e : 0 - (0 - a) = a := by omega
  have e2 : ∀ x : Int, 0 - (0 - x) = x := fun x => by omega
  rw [e, e2]
theorem often_contra (p : Int × Int) (k : Int) : oftenP (contraP p) k = contraP (oftenP p k) := by
  obtain ⟨a, b⟩ := p
  show (min2 ((0 - b) * k) ((0 - a) * k), max2 ((0 - b) * k) ((0 - a) * k)) = (0 - max2 (a * k) (b * k), 0 - min2 (a * k) (b * k))
  simp only [Int.zero_sub, Int.neg_mul, min2, max2]
  congr 1 <;> ((repeat' split) <;> omega)
theorem wide_contra (p : Int × Int) (k : Int) : wideP (contraP p) k = contraP (wideP p k) := by
  obtain ⟨a, b⟩ := p
  show (0 - b - k, 0 - a + k) = (0 - (b + k), 0 - (a - k))
  congr 1 <;> omega
theorem oddLoop_contra (work sign : Int) (q : Int × Int) : ∀ (n : Nat) (p t : Int × Int) (e now : Int), oddLoop n work sign q (contraP p) (contraP t) e now = (oddLoop n work sign q p t e now).map contraP := by
  intro n
  induction n with
  | zero => intros; rfl
  | succ n ih =>
    intro p t e now
    simp only [oddLoop, great_contra, prodOk_contra, prodP_contra, part_contra, often_contra, more_contra, wide_contra, ih]
    (repeat' split) <;> rfl
theorem fbound_contra (w t b : Int) : fboundP w (-t) b = contraP (fboundP w t b) := by
  show ((-t * 2 ^ w.toNat).fdiv b, 0 - (0 - -t * 2 ^ w.toNat).fdiv b) = (0 - (0 - (0 - t * 2 ^ w.toNat).fdiv b), 0 - (t * 2 ^ w.toNat).fdiv b)
  have e2 : ∀ x : Int, 0 - (0 - x) = x := fun x => by omega
  simp only [Int.neg_mul, e2, Int.zero_sub, Int.neg_neg]
theorem prodP_contra2 (w : Int) (p : Int × Int) : prodP w (contraP p) (contraP p) = prodP w p p := by
  obtain ⟨a, b⟩ := p
  show (sh (min4 ((0 - b) * (0 - b)) ((0 - b) * (0 - a)) ((0 - a) * (0 - b)) ((0 - a) * (0 - a))) w, 0 - sh (0 - max4 ((0 - b) * (0 - b)) ((0 - b) * (0 - a)) ((0 - a) * (0 - b)) ((0 - a) * (0 - a))) w) = (sh (min4 (a * a) (a * b) (b * a) (b * b)) w, 0 - sh (0 - max4 (a * a) (a * b) (b * a) (b * b)) w)
  have e : ∀ x y : Int, (0 - x) * (0 - y) = x * y := fun x y => by rw [Int.zero_sub, Int.zero_sub, Int.neg_mul_neg]
  simp only [e]
  have h1 : min4 (b * b) (b * a) (a * b) (a * a) = min4 (a * a) (a * b) (b * a) (b * b) := by simp only [min4, min2]; (repeat' split) <;> omega
  have h2 : max4 (b * b) (b * a) (a * b) (a * a) = max4 (a * a) (a * b) (b * a) (b * b) := by simp only [max4, max2]; (repeat' split) <;> omega
  rw [h1, h2]
theorem oddF_contra (w t b s : Int) : oddF w (-t) b s = (oddF w t b s).map contraP := by
  unfold oddF
  have e1 : shlOk (-t) w ↔ shlOk t w := by unfold shlOk; rw [Int.natAbs_neg]
  have e2 : ∀ p : Int × Int, prodOk (contraP p) (contraP p) ↔ prodOk p p := fun p => by
    obtain ⟨a, b⟩ := p
    unfold prodOk mulOk
    show ((0 - b).natAbs < _ ∧ (0 - b).natAbs < _) ∧ ((0 - b).natAbs < _ ∧ (0 - a).natAbs < _) ∧ ((0 - a).natAbs < _ ∧ (0 - b).natAbs < _) ∧ ((0 - a).natAbs < _ ∧ (0 - a).natAbs < _) ↔ _
    rw [show (0 - b).natAbs = b.natAbs by omega, show (0 - a).natAbs = a.natAbs by omega]
    show _ ↔ (a.natAbs < _ ∧ a.natAbs < _) ∧ (a.natAbs < _ ∧ b.natAbs < _) ∧ (b.natAbs < _ ∧ a.natAbs < _) ∧ (b.natAbs < _ ∧ b.natAbs < _)
    constructor
    · rintro ⟨⟨x, _⟩, ⟨_, y⟩, _⟩; exact ⟨⟨y, y⟩, ⟨y, x⟩, ⟨x, y⟩, ⟨x, x⟩⟩
    · rintro ⟨⟨x, _⟩, ⟨_, y⟩, _⟩; exact ⟨⟨y, y⟩, ⟨y, x⟩, ⟨x, y⟩, ⟨x, x⟩⟩
  simp only [fbound_contra, e1, e2, prodP_contra2, oddLoop_contra]
  (repeat' split) <;> rfl
noncomputable def orK {α : Type} (a b : Option α) : Option α := Option.rec (motive := fun _ => Option α) b (fun r => some r) a
noncomputable def mapK {α β : Type} (f : α → β) (a : Option α) : Option β := Option.rec (motive := fun _ => Option β) none (fun r => some (f r)) a
/-- the odd series, fast -/
noncomputable def oddK (work top bottom : Int) : Option (Int × Int) :=
  orK (Int.rec (motive := fun _ => Option (Int × Int)) (fun w => Int.rec (motive := fun _ => Option (Int × Int)) (fun b => Int.rec (motive := fun _ => Option (Int × Int)) (fun t => oddP w t b) (fun t => mapK contraP (oddP w (Nat.succ t) b)) top) (fun _ => none) bottom) (fun _ => none) work) (oddF work top bottom (-1))
theorem orK_eq {α : Type} {a b : Option α} (h : ∀ r, a = some r → b = some r) : orK a b = b := by
  cases a with
  | none => rfl
  | some r => exact (h r rfl).symm
theorem oddK_eq (work top bottom : Int) : oddK work top bottom = oddF work top bottom (-1) := by
  refine orK_eq fun r h => ?_
  cases work with
  | negSucc w => cases h
  | ofNat w =>
    cases bottom with
    | negSucc b => cases h
    | ofNat b =>
      cases top with
      | ofNat t => exact oddP_sound h
      | negSucc t =>
        replace h : mapK contraP (oddP w (t + 1) b) = some r := h
        cases h2 : oddP w (t + 1) b with
        | none => rw [h2] at h; cases h
        | some q =>
          rw [h2] at h; cases h
          have := oddP_sound h2
          have e : (Int.negSucc t) = -((t + 1 : Nat) : Int) := rfl
          show oddF (w : Int) (Int.negSucc t) (b : Int) (-1) = some (contraP q)
          rw [e, oddF_contra, this]; rfl
end Mine
end
noncomputable section
open PySem PySem.W PyProof.Rows
set_option linter.all false
set_option maxRecDepth 100000
set_option exponentiation.threshold 5000
namespace Mine
abbrev InvT : Type := Nat → Nat → Nat → Nat → Nat → Bool → Option (Int × Int)
noncomputable def invB (num2 : Nat) (ih : InvT) : InvT := fun power pl nl e steps neg =>
    Bool.rec (some (Int.sub (Int.sub (Int.ofNat pl) (Int.ofNat nl)) (Int.ofNat (Nat.add (Nat.mul 2 steps) 4)), Int.add (Int.sub (Int.ofNat pl) (Int.ofNat nl)) (Int.ofNat (Nat.add (Nat.mul 2 steps) 4))))
      (fo (Nat.div power num2) fun p' => fo (Nat.div power e) fun x =>
       Bool.rec (ih p' (Nat.add pl x) nl (Nat.add e 2) (Nat.add steps 1) true) (ih p' pl (Nat.add nl x) (Nat.add e 2) (Nat.add steps 1) false) neg)
      (Nat.ble 1 power)
noncomputable def invN (num2 n : Nat) : InvT := Nat.rec (motive := fun _ => InvT) (fun _ _ _ _ _ _ => none) (fun _ ih => invB num2 ih) n
theorem invN_succ (num2 n power pl nl e steps : Nat) (neg : Bool) : invN num2 (n + 1) power pl nl e steps neg =
    if 1 ≤ power then (if neg = true then invN num2 n (power / num2) pl (nl + power / e) (e + 2) (steps + 1) false else invN num2 n (power / num2) (pl + power / e) nl (e + 2) (steps + 1) true)
    else some ((pl : Int) - nl - ((2 * steps + 4 : Nat) : Int), (pl : Int) - nl + ((2 * steps + 4 : Nat) : Int)) := by
  show invB num2 (invN num2 n) power pl nl e steps neg = _
  unfold invB
  simp only [fo_eq, bite_eq, Nat.ble_eq]
  rfl
theorem inv_sound (num : Nat) : ∀ (n power pl nl e steps : Nat) (neg : Bool) (r : Int × Int), 1 ≤ e → e + 2 * n ≤ 10000 → invN (num * num) n power pl nl e steps neg = some r →
    invLoop n num (-1) (power : Int) ((pl : Int) - nl) e (if neg = true then -1 else 1) steps = some r := by
  intro n
  induction n with
  | zero => intro power pl nl e steps neg r _ _ h; exact absurd h (by show none ≠ _; nofun)
  | succ n ih =>
    intro power pl nl e steps neg r he hen h
    rw [invN_succ] at h
    unfold invLoop
    by_cases c : 1 ≤ power
    · rw [if_pos c] at h
      rw [if_pos (by omega : (0 : Int) < power), if_pos (show divOk (e : Int) from ⟨by omega, by rw [Int.natAbs_natCast]; exact Nat.lt_of_le_of_lt (by omega : e ≤ 2 ^ 14) (Nat.pow_lt_pow_right (by decide) (by decide))⟩)]
      rw [← Int.natCast_mul, fdiv_nat, fdiv_nat]
      generalize power / (num * num) = p' at *
      generalize power / e = x at *
      cases neg with
      | true =>
        rw [if_pos rfl] at h
        rw [← ih p' pl (nl + x) (e + 2) (steps + 1) false r (by omega) (by omega) h]
        simp only [if_true, if_neg Bool.false_ne_true]
        congr 1 <;> omega
      | false =>
        rw [if_neg Bool.false_ne_true] at h
        rw [← ih p' (pl + x) nl (e + 2) (steps + 1) true r (by omega) (by omega) h]
        simp only [if_true, if_neg Bool.false_ne_true]
        congr 1 <;> omega
    · rw [if_neg c] at h
      rw [if_neg (by omega : ¬ (0 : Int) < power), ← h]
      congr 2
/-- the inverse series, fast -/
noncomputable def invK (work : Int) (num : Nat) : Option (Int × Int) :=
  orK (Int.rec (motive := fun _ => Option (Int × Int)) (fun w => Bool.rec none (fo (Nat.div (Nat.pow 2 w) num) fun p => fo (Nat.mul num num) fun num2 => invN num2 1000 p 0 0 1 0 false) (Nat.ble w 3000)) (fun _ => none) work) (invF work num (-1))
theorem invK_eq (work : Int) (num : Nat) : invK work num = invF work num (-1) := by
  refine orK_eq fun r h => ?_
  cases work with
  | negSucc w => cases h
  | ofNat w =>
    simp only [fo_eq, bite_eq, Nat.ble_eq] at h
    split at h
    · rename_i c
      unfold invF
      rw [if_pos (show shlOk 1 (Int.ofNat w) from ⟨Int.natCast_nonneg w, by show (w : Int) ≤ 4000; omega, Nat.one_lt_two_pow (by decide)⟩)]
      have e : sl 1 (Int.ofNat w) = ((2 ^ w : Nat) : Int) := by
        have := sl_nat 1 (w : Int)
        simpa using this
      rw [e, fdiv_nat]
      exact inv_sound num 1000 (2 ^ w / num) 0 0 1 0 false r (by omega) (by omega) h
    · cases h

abbrev WavT : Type := Nat → Nat → Int → Int → Int → Int → Option (Int × Int)
noncomputable def rotN (n : Nat) : Int → Int → Int → Int → Option (Int × Int) := Nat.rec (motive := fun _ => Int → Int → Int → Int → Option (Int × Int)) (fun a b c d => some (a - c, d - b)) (fun _ ih a b c d => ih b c d a) n
theorem rot_wave (top bottom : Int) (h1 : top.natAbs < 2 ^ 4000) (h2 : 0 < bottom) (h3 : bottom.natAbs < 2 ^ 3900) : ∀ (n : Nat) (count : Int) (a b c d : Int), 0 < count → count + n ≤ 100 → waveLoop n top bottom count 0 a b c d = rotN n a b c d := by
  intro n
  induction n with
  | zero => intros; rfl
  | succ n ih =>
    intro count a b c d hc hn
    unfold waveLoop
    have hbc : (bottom * count).natAbs < 2 ^ 4000 := by
      rw [Int.natAbs_mul]
      have e : (2 : Nat) ^ 4000 = 2 ^ 3900 * 2 ^ 100 := by rw [← Nat.pow_add]
      rw [e]
      exact Nat.mul_lt_mul_of_lt_of_le' h3 (Nat.le_trans (by omega : count.natAbs ≤ 100) (by decide)) (by omega)
    rw [if_pos (show mulOk 0 top from ⟨Nat.two_pow_pos _, h1⟩), if_pos (show divOk (bottom * count) from ⟨Int.ne_of_gt (Int.mul_pos h2 hc), hbc⟩)]
    have e : (0 * top).fdiv (bottom * count) = 0 := by rw [Int.zero_mul, Int.zero_fdiv]
    rw [e, ih (count + 1) b c d (a + 0) (by omega) (by omega), Int.add_zero]
    rfl
noncomputable def wavB (top bottom n : Nat) (ih : WavT) : WavT := fun count term a b c d =>
  Bool.rec (rotN (Nat.succ n) a b c d) (Bool.rec none (fo (Nat.div (Nat.mul term top) (Nat.mul bottom count)) fun t => ih (Nat.succ count) t b c d (Int.add a (Int.ofNat t))) (Nat.ble term (Nat.pow 2 3000))) (Nat.ble 1 term)
noncomputable def wavN (top bottom n : Nat) : WavT := Nat.rec (motive := fun _ => WavT) (fun _ _ a b c d => some (a - c, d - b)) (fun n ih => wavB top bottom n ih) n
theorem wavN_succ (top bottom n count term : Nat) (a b c d : Int) : wavN top bottom (n + 1) count term a b c d =
    if 1 ≤ term then (if term ≤ 2 ^ 3000 then wavN top bottom n (count + 1) (term * top / (bottom * count)) b c d (a + ((term * top / (bottom * count) : Nat) : Int)) else none) else rotN (n + 1) a b c d := by
  show wavB top bottom n (wavN top bottom n) count term a b c d = _
  unfold wavB
  simp only [fo_eq, bite_eq, Nat.ble_eq]
  rfl
theorem wav_sound (top bottom : Nat) (h1 : top < 2 ^ 4000) (h2 : 0 < bottom) (h3 : bottom < 2 ^ 3900) : ∀ (n count term : Nat) (a b c d : Int) (r : Int × Int), 0 < count → count + n ≤ 100 → wavN top bottom n count term a b c d = some r → waveLoop n top bottom count term a b c d = some r := by
  intro n
  induction n with
  | zero => intro count term a b c d r _ _ h; exact h
  | succ n ih =>
    intro count term a b c d r hc hn h
    rw [wavN_succ] at h
    by_cases z : 1 ≤ term
    · rw [if_pos z] at h
      split at h
      · rename_i hl
        unfold waveLoop
        have hbc : bottom * count < 2 ^ 4000 := by
          have e : (2 : Nat) ^ 4000 = 2 ^ 3900 * 2 ^ 100 := by rw [← Nat.pow_add]
          rw [e]
          exact Nat.mul_lt_mul_of_lt_of_le' h3 (Nat.le_trans (by omega : count ≤ 100) (by decide)) (by omega)
        have hpos : 0 < bottom * count := Nat.mul_pos h2 hc
        rw [if_pos (mulOk_nat (lt3 hl) h1), ← Int.natCast_mul, ← Int.natCast_mul, if_pos (show divOk ((bottom * count : Nat) : Int) from ⟨by omega, by rw [Int.natAbs_natCast]; exact hbc⟩), fdiv_nat]
        exact ih (count + 1) _ b c d _ r (by omega) (by omega) h
      · cases h
    · rw [if_neg z] at h
      have : term = 0 := by omega
      subst this
      rw [← h]
      exact rot_wave top bottom (by rw [Int.natAbs_natCast]; exact h1) (by omega) (by rw [Int.natAbs_natCast]; exact h3) (n + 1) count a b c d (by omega) (by omega)
/-- the waves, fast -/
noncomputable def wavesK (top bottom : Int) : Option (Int × Int) :=
  orK (Int.rec (motive := fun _ => Option (Int × Int)) (fun t => Int.rec (motive := fun _ => Option (Int × Int)) (fun b => Bool.rec none (fo t fun t => fo b fun b => wavN t b 60 1 (Nat.pow 2 100) 0 0 0 (Int.ofNat (Nat.pow 2 100))) (and (Nat.ble 1 b) (and (Nat.ble t (Nat.pow 2 3000)) (Nat.ble b (Nat.pow 2 3000))))) (fun _ => none) bottom) (fun _ => none) top) (wavesF top bottom)
theorem wavesK_eq (top bottom : Int) : wavesK top bottom = wavesF top bottom := by
  refine orK_eq fun r h => ?_
  cases top with
  | negSucc w => cases h
  | ofNat t =>
    cases bottom with
    | negSucc w => cases h
    | ofNat b =>
      simp only [fo_eq, bite_eq, Nat.ble_eq, Bool.and_eq_true] at h
      split at h
      · rename_i c
        exact wav_sound t b (lt3 c.2.1) (by omega) (Nat.lt_of_le_of_lt c.2.2 (Nat.pow_lt_pow_right (by decide) (by decide))) 60 1 (2 ^ 100) 0 0 0 _ r (by omega) (by omega) h
      · cases h
end Mine
end
noncomputable section
open PySem PySem.W PyProof.Rows
set_option linter.all false
set_option maxRecDepth 100000
set_option exponentiation.threshold 5000
namespace Mine
theorem bits_nat (x : Nat) (h : 1 ≤ x) : Builtin.Int.intBits (x : Int) = x.log2 + 1 := by
  unfold Builtin.Int.intBits
  rw [if_neg (by simp; omega), Int.natAbs_natCast]
theorem sz_nat (x : Nat) (h : 1 ≤ x) : sz (x : Int) = ((x.log2 + 1 : Nat) : Int) := by
  unfold sz; rw [if_neg (by omega), bits_nat x h]
theorem sz_neg (x : Int) : sz (-x) = sz x := by
  unfold sz
  congr 2
  (repeat' split) <;> omega
theorem bitAnd_nat (a b : Nat) : Builtin.bitAnd (a : Int) (b : Int) = ((a &&& b : Nat) : Int) := by
  unfold Builtin.bitAnd
  rw [decide_eq_true (Int.natCast_nonneg a), decide_eq_true (Int.natCast_nonneg b)]; rfl
theorem zb_nat (z : Nat) (h : 1 ≤ z) (hd : 1 ≤ z - (z &&& (z - 1))) : zb (z : Int) = ((z - (z &&& (z - 1))).log2 : Int) := by
  unfold zb Builtin.bitAnd
  rw [decide_eq_true (Int.natCast_nonneg z), decide_eq_false (by omega : ¬ (0 : Int) ≤ 0 - z)]
  have e1 : (Builtin.bitNot (0 - (z : Int))).toNat = z - 1 := by unfold Builtin.bitNot; omega
  show ((Builtin.Int.intBits ((z : Int) - ((z &&& (Builtin.bitNot (0 - (z : Int))).toNat : Nat) : Int)) : Nat) : Int) - 1 = _
  rw [e1]
  have hle : z &&& (z - 1) ≤ z := Nat.and_le_left
  have e2 : (z : Int) - ((z &&& (z - 1) : Nat) : Int) = ((z - (z &&& (z - 1)) : Nat) : Int) := by omega
  rw [e2, bits_nat _ hd]; omega
theorem zb_neg (z : Nat) (h : 1 ≤ z) : zb (-(z : Int)) = zb (z : Int) := by
  unfold zb Builtin.bitAnd
  rw [decide_eq_true (Int.natCast_nonneg z), decide_eq_false (by omega : ¬ (0 : Int) ≤ 0 - z), decide_eq_false (by omega : ¬ (0 : Int) ≤ - z), decide_eq_true (by omega : (0 : Int) ≤ 0 - (-(z : Int)))]
  have e1 : (0 - -(z : Int)) = z := by omega
  have e2 : (0 - (z : Int)) = -z := by omega
  rw [e1, e2]
theorem lean_nat (z l : Nat) (e : Int) (hz : 1 ≤ z) (hd : 1 ≤ z - (z &&& (z - 1))) (hl : l = (z - (z &&& (z - 1))).log2) (hm : z % 2 ^ l = 0) (hp : iabs (((z.log2 + 1 : Nat) : Int) + e) ≤ 65536) :
    leanF (z : Int) e = some (((z / 2 ^ l : Nat) : Int), e + l) ∧ leanF (-(z : Int)) e = some (-((z / 2 ^ l : Nat) : Int), e + l) := by
  constructor
  · unfold leanF
    rw [if_neg (by omega), sz_nat z hz, if_neg (by omega), zb_nat z hz hd, ← hl, if_pos (by omega), sh_nat]; rfl
  · unfold leanF
    rw [if_neg (by omega), sz_neg, sz_nat z hz, if_neg (by omega), zb_neg z hz, zb_nat z hz hd, ← hl, if_pos (by omega)]
    have : sh (-(z : Int)) (l : Int) = -((z / 2 ^ l : Nat) : Int) := by
      unfold sh
      have tl : ((l : Int)).toNat = l := by omega
      rw [tl, pow_nat, Int.fdiv_eq_ediv_of_nonneg _ (Int.natCast_nonneg _), Int.neg_ediv_of_dvd (Int.natCast_dvd_natCast.mpr (Nat.dvd_of_mod_eq_zero hm))]; rfl
    rw [this]
/-- the rounding of a number above 0 -/
noncomputable def nearN (y g : Nat) : Nat :=
  fo (Nat.pow 2 g) fun G => fo (Nat.land y (Nat.sub G 1)) fun rest => fo (Nat.div y G) fun kept => fo (Nat.div G 2) fun half =>
    Bool.rec (Bool.rec kept (Bool.rec kept (Nat.succ kept) (Nat.beq (Nat.land kept 1) 1)) (Nat.beq rest half)) (Nat.succ kept) (Nat.blt half rest)
theorem nearN_eq (y g : Nat) (hg : 1 ≤ g) : nearestF (y : Int) (g : Int) = ((nearN y g : Nat) : Int) := by
  unfold nearN
  simp only [fo_eq, bite_eq, Nat.beq_eq, Nat.blt_eq]
  unfold nearestF
  have e1 : sl 1 ((g : Int) - 1) = ((2 ^ g / 2 : Nat) : Int) := by
    have := sl_nat 1 ((g : Int) - 1)
    have t : ((g : Int) - 1).toNat = g - 1 := by omega
    rw [t, Nat.one_mul] at this
    have q : 2 ^ g / 2 = 2 ^ (g - 1) := by
      obtain ⟨k, rfl⟩ : ∃ k, g = k + 1 := ⟨g - 1, by omega⟩
      rw [Nat.pow_succ, Nat.add_sub_cancel]; omega
    rw [q, ← this]; rfl
  have hG : 1 ≤ 2 ^ g := Nat.one_le_two_pow
  have e2 : sl 1 (g : Int) - 1 = ((2 ^ g - 1 : Nat) : Int) := by
    have := sl_nat 1 (g : Int)
    rw [Nat.one_mul] at this
    have t : ((g : Int)).toNat = g := by omega
    rw [t] at this
    have this' : sl 1 (g : Int) = ((2 ^ g : Nat) : Int) := this
    omega
  rw [e1, e2, bitAnd_nat, sh_nat]
  have t : ((g : Int)).toNat = g := by omega
  rw [t]
  have e3 : Builtin.bitAnd ((y / 2 ^ g : Nat) : Int) 1 = ((y / 2 ^ g &&& 1 : Nat) : Int) := bitAnd_nat _ 1
  rw [e3]
  show _ = ((if 2 ^ g / 2 < y &&& (2 ^ g - 1) then y / 2 ^ g + 1 else if y &&& (2 ^ g - 1) = 2 ^ g / 2 then (if y / 2 ^ g &&& 1 = 1 then y / 2 ^ g + 1 else y / 2 ^ g) else y / 2 ^ g : Nat) : Int)
  generalize 2 ^ g / 2 = half
  generalize y &&& (2 ^ g - 1) = rest
  generalize y / 2 ^ g &&& 1 = odd
  generalize y / 2 ^ g = kept
  (repeat' split) <;> omega
noncomputable def roundN2 (p S y : Nat) : Option (Int × Int) :=
    fo (lg y) fun ly => Bool.rec none (fo (Nat.sub (Nat.succ ly) p) fun g => fo (nearN y g) fun z => fo (Nat.sub z (Nat.land z (Nat.sub z 1))) fun d => fo (lg d) fun l =>
      Bool.rec none (some (Int.ofNat (Nat.div z (Nat.pow 2 l)), Int.add (Int.sub (Int.ofNat g) (Int.ofNat (Nat.succ S))) (Int.ofNat l))) (and (Nat.ble 1 z) (and (Nat.ble (lg z) 3000) (and (Nat.ble 1 d) (Nat.beq (Nat.mod z (Nat.pow 2 l)) 0)))))
     (and (Nat.ble 1 y) (and (Nat.ble p ly) (Nat.ble ly 3000)))
noncomputable def stickN (k r : Nat) : Nat := Bool.rec (Nat.succ (Nat.mul 2 k)) (Nat.mul 2 k) (Nat.beq r 0)
noncomputable def roundN (p t b : Nat) : Option (Int × Int) :=
  fo (lg t) fun lt => fo (lg b) fun lb => Bool.rec none (fo (Nat.sub (Nat.add (Nat.add p 2) lb) lt) fun S => fo (Nat.mul t (Nat.pow 2 S)) fun x => fo (stickN (Nat.div x b) (Nat.mod x b)) fun y => roundN2 p S y)
    (and (Nat.ble 1 t) (and (Nat.ble 1 b) (and (Nat.ble p 1000) (and (Nat.ble lt 2000) (and (Nat.ble lb 2000) (Nat.ble lt (Nat.add (Nat.add p 2) lb)))))))
theorem fmod_nat (a b : Nat) : (a : Int).fmod b = ((a % b : Nat) : Int) := by
  rw [Int.fmod_eq_emod_of_nonneg _ (Int.natCast_nonneg b)]; rfl
theorem sgn_pos {x : Int} (h : 0 < x) : sgn x = 1 := by
  unfold sgn b2i; rw [decide_eq_true h, decide_eq_false (by omega)]; rfl
theorem sgn_neg {x : Int} (h : x < 0) : sgn x = -1 := by
  unfold sgn b2i; rw [decide_eq_true h, decide_eq_false (by omega)]; rfl
theorem round2_sound {p S y : Nat} {m e : Int} (h : roundN2 p S y = some (m, e)) (hS : S ≤ 4000) : shroundF p (y : Int) (0 - (S : Int) - 1) = some (m, e) ∧ shroundF p (-(y : Int)) (0 - (S : Int) - 1) = some (-m, e) := by
  unfold roundN2 at h
  simp only [fo_eq, bite_eq, lg_eq, Nat.ble_eq, Bool.and_eq_true, Nat.beq_eq] at h
  split at h
  · rename_i d
    obtain ⟨y1, y2, y3⟩ := d
    split at h
    · rename_i f
      obtain ⟨f1, f2, f3, f4⟩ := f
      have hg : ((y.log2 + 1 : Nat) : Int) - (p : Int) = ((y.log2 + 1 - p : Nat) : Int) := by omega
      have hsh : shlOk 1 ((y.log2 + 1 - p : Nat) : Int) := ⟨by omega, by omega, Nat.one_lt_two_pow (by decide)⟩
      have hn := nearN_eq y (y.log2 + 1 - p) (by omega)
      replace h : some (((nearN y (y.log2 + 1 - p) / 2 ^ (nearN y (y.log2 + 1 - p) - (nearN y (y.log2 + 1 - p) &&& (nearN y (y.log2 + 1 - p) - 1))).log2 : Nat) : Int), ((y.log2 + 1 - p : Nat) : Int) - ((S + 1 : Nat) : Int) + ((nearN y (y.log2 + 1 - p) - (nearN y (y.log2 + 1 - p) &&& (nearN y (y.log2 + 1 - p) - 1))).log2 : Int)) = some (m, e) := h
      replace f1 : 1 ≤ nearN y (y.log2 + 1 - p) := f1
      replace f2 : (nearN y (y.log2 + 1 - p)).log2 ≤ 3000 := f2
      replace f3 : 1 ≤ nearN y (y.log2 + 1 - p) - (nearN y (y.log2 + 1 - p) &&& (nearN y (y.log2 + 1 - p) - 1)) := f3
      replace f4 : nearN y (y.log2 + 1 - p) % 2 ^ (nearN y (y.log2 + 1 - p) - (nearN y (y.log2 + 1 - p) &&& (nearN y (y.log2 + 1 - p) - 1))).log2 = 0 := f4
      generalize nearN y (y.log2 + 1 - p) = z at *
      have L := lean_nat z _ ((0 - (S : Int) - 1) + ((y.log2 + 1 - p : Nat) : Int)) f1 f3 rfl f4 (by unfold iabs; split <;> omega)
      generalize (z - (z &&& (z - 1))).log2 = l at *
      have ee : (0 - (S : Int) - 1) + ((y.log2 + 1 - p : Nat) : Int) + l = ((y.log2 + 1 - p : Nat) : Int) - ((S + 1 : Nat) : Int) + (l : Int) := by omega
      rw [ee] at L
      cases h
      constructor
      · unfold shroundF
        rw [sz_nat y y1, hg, if_neg (by omega), if_pos hsh, iabs_nat, hn, sgn_pos (by omega), Int.one_mul]
        exact L.1
      · have hi : iabs (-(y : Int)) = y := by unfold iabs; split <;> omega
        unfold shroundF
        rw [sz_neg, sz_nat y y1, hg, if_neg (by omega), if_pos hsh, hi, hn, sgn_neg (by omega), Int.neg_mul, Int.one_mul]
        exact L.2
    · cases h
  · cases h
theorem stickN_eq (k r : Nat) : stickyF (k : Int) (((r : Nat) : Int) != 0) = ((stickN k r : Nat) : Int) := by
  unfold stickN stickyF
  simp only [bite_eq, Nat.beq_eq]
  by_cases hr : r = 0
  · subst hr; simp
  · have : (((r : Nat) : Int) != 0) = true := by simp; omega
    rw [this, if_pos rfl, if_neg hr]
    show 2 * (k : Int) + 1 = ((2 * k + 1 : Nat) : Int)
    omega
theorem round_sound {p t b : Nat} {m e : Int} (h : roundN p t b = some (m, e)) : roundF p t b = some (m, e) ∧ roundF p (-(t : Int)) b = some (-m, e) := by
  unfold roundN at h
  simp only [fo_eq, bite_eq, lg_eq, Nat.ble_eq, Bool.and_eq_true] at h
  split at h
  · rename_i c
    obtain ⟨c1, c2, c3, c4, c5, c6⟩ := c
    have c6' : t.log2 ≤ p + 2 + b.log2 := c6
    replace h : roundN2 p (p + 2 + b.log2 - t.log2) (stickN (t * 2 ^ (p + 2 + b.log2 - t.log2) / b) (t * 2 ^ (p + 2 + b.log2 - t.log2) % b)) = some (m, e) := h
    have eS : (((p : Int) + 2 + sz (b : Int) - sz (t : Int))) = ((p + 2 + b.log2 - t.log2 : Nat) : Int) := by
      rw [sz_nat b c2, sz_nat t c1]; omega
    have cS : p + 2 + b.log2 - t.log2 ≤ 4000 := by omega
    generalize p + 2 + b.log2 - t.log2 = S at *
    have hS : (0 : Int) ≤ (S : Int) := by omega
    have hok : shlOk (t : Int) (S : Int) := ⟨hS, by omega, by rw [Int.natAbs_natCast]; exact lt4 (by omega)⟩
    have hdv : divOk (b : Int) := ⟨by omega, by rw [Int.natAbs_natCast]; exact lt4 (by omega)⟩
    have hx : sl (t : Int) (S : Int) = ((t * 2 ^ S : Nat) : Int) := sl_nat _ _
    have K := round2_sound h cS
    have hst : stickyF (((t * 2 ^ S : Nat) : Int).fdiv b) (((t * 2 ^ S : Nat) : Int).fmod b != 0) = ((stickN (t * 2 ^ S / b) (t * 2 ^ S % b) : Nat) : Int) := by
      rw [fdiv_nat, fmod_nat, stickN_eq]
    have hit : iabs (-(t : Int)) = t := by unfold iabs; split <;> omega
    constructor
    · unfold roundF
      rw [if_neg (by omega), eS, if_pos hS, iabs_nat, if_pos hok, if_pos hdv, hx, hst, sgn_pos (by omega), Int.one_mul]
      exact K.1
    · unfold roundF
      rw [if_neg (by omega), sz_neg, eS, if_pos hS, hit, if_pos hok, if_pos hdv, hx, hst, sgn_neg (by omega), Int.neg_mul, Int.one_mul]
      exact K.2
  · cases h
/-- the rounding, fast -/
noncomputable def roundK (p top bottom : Int) : Option (Int × Int) :=
  orK (Int.rec (motive := fun _ => Option (Int × Int)) (fun p => Int.rec (motive := fun _ => Option (Int × Int)) (fun b => Int.rec (motive := fun _ => Option (Int × Int)) (fun t => fo t fun t => fo b fun b => roundN p t b) (fun t => fo t fun t => fo b fun b => mapK (fun r => (Int.neg r.1, r.2)) (roundN p (Nat.succ t) b)) top) (fun _ => none) bottom) (fun _ => none) p) (roundF p top bottom)
theorem roundK_eq (p top bottom : Int) : roundK p top bottom = roundF p top bottom := by
  refine orK_eq fun r h => ?_
  cases p with
  | negSucc w => cases h
  | ofNat w =>
    cases bottom with
    | negSucc b => cases h
    | ofNat b =>
      cases top with
      | ofNat t =>
        simp only [fo_eq] at h
        exact (round_sound (m := r.1) (e := r.2) h).1
      | negSucc t =>
        simp only [fo_eq] at h
        replace h : mapK (fun r => (Int.neg r.1, r.2)) (roundN w (t + 1) b) = some r := h
        cases h2 : roundN w (t + 1) b with
        | none => rw [h2] at h; cases h
        | some q =>
          rw [h2] at h; cases h
          exact (round_sound (m := q.1) (e := q.2) h2).2
end Mine
end
noncomputable section
open PySem PySem.W PyProof.Rows
set_option linter.all false
set_option maxRecDepth 100000
set_option exponentiation.threshold 5000
namespace Mine
noncomputable def halfK (work : Int) : Option (Int × Int) := (invK work 5).bind fun a => (invK work 239).bind fun b => some (lessP (oftenP a 16) (oftenP b 4))
theorem halfK_eq : @halfK = @halfF := by
  (repeat (refine funext fun _ => ?_)); simp only [halfK, halfF, roundK_eq, wavesK_eq, show ∀ w : Int, invK w 5 = invF w 5 (-1) from fun w => invK_eq w 5, show ∀ w : Int, invK w 239 = invF w 239 (-1) from fun w => invK_eq w 239, show ∀ w : Int, invK w 2 = invF w 2 (-1) from fun w => invK_eq w 2, oddK_eq]; try rfl
noncomputable def smallK (work top bottom : Int) : Option (Int × Int) :=
  if 7 * bottom < 10 * top then (halfK work).bind fun a => (oddK work (top - bottom) (top + bottom)).bind fun b => some (moreP (partP a 4) b)
  else if bottom < 4 * top then (oddK work (2 * top - bottom) (2 * bottom + top)).bind fun b => (invK work 2).bind fun a => some (moreP a b)
  else oddK work top bottom
theorem smallK_eq : @smallK = @smallF := by
  (repeat (refine funext fun _ => ?_)); simp only [smallK, smallF, roundK_eq, wavesK_eq, halfK_eq, show ∀ w : Int, invK w 5 = invF w 5 (-1) from fun w => invK_eq w 5, show ∀ w : Int, invK w 239 = invF w 239 (-1) from fun w => invK_eq w 239, show ∀ w : Int, invK w 2 = invF w 2 (-1) from fun w => invK_eq w 2, oddK_eq]; try rfl
noncomputable def arcK0 (work top bottom : Int) : Option (Int × Int) :=
  if top ≤ bottom then smallK work top bottom else (halfK work).bind fun a => (smallK work bottom top).bind fun b => some (lessP (partP a 2) b)
theorem arcK0_eq : @arcK0 = @arcF0 := by
  (repeat (refine funext fun _ => ?_)); simp only [arcK0, arcF0, roundK_eq, wavesK_eq, halfK_eq, smallK_eq, show ∀ w : Int, invK w 5 = invF w 5 (-1) from fun w => invK_eq w 5, show ∀ w : Int, invK w 239 = invF w 239 (-1) from fun w => invK_eq w 239, show ∀ w : Int, invK w 2 = invF w 2 (-1) from fun w => invK_eq w 2, oddK_eq]; try rfl
noncomputable def arcK (work top bottom : Int) : Option (Int × Int) :=
  if top < 0 then (arcK0 work (0 - top) bottom).bind fun a => some (contraP a) else arcK0 work top bottom
theorem arcK_eq : @arcK = @arcF := by
  (repeat (refine funext fun _ => ?_)); simp only [arcK, arcF, roundK_eq, wavesK_eq, halfK_eq, smallK_eq, arcK0_eq, show ∀ w : Int, invK w 5 = invF w 5 (-1) from fun w => invK_eq w 5, show ∀ w : Int, invK w 239 = invF w 239 (-1) from fun w => invK_eq w 239, show ∀ w : Int, invK w 2 = invF w 2 (-1) from fun w => invK_eq w 2, oddK_eq]; try rfl
noncomputable def withinK (work : Int) (a : Int × Int) : Option (Int × Int) :=
  if shlOk 1 work then (arcK work a.1 (sl 1 work)).bind fun x => (arcK work a.2 (sl 1 work)).bind fun y => some (x.1, y.2) else none
theorem withinK_eq : @withinK = @withinF := by
  (repeat (refine funext fun _ => ?_)); simp only [withinK, withinF, roundK_eq, wavesK_eq, halfK_eq, smallK_eq, arcK0_eq, arcK_eq, show ∀ w : Int, invK w 5 = invF w 5 (-1) from fun w => invK_eq w 5, show ∀ w : Int, invK w 239 = invF w 239 (-1) from fun w => invK_eq w 239, show ∀ w : Int, invK w 2 = invF w 2 (-1) from fun w => invK_eq w 2, oddK_eq]; try rfl
noncomputable def acosbK (work m e : Int) : Option (Int × Int) :=
  (fracF m e).bind fun f => (rbF work (f.2 - f.1) (f.2 + f.1)).bind fun w => (withinK work w).bind fun r => some (oftenP r 2)
theorem acosbK_eq : @acosbK = @acosbF := by
  (repeat (refine funext fun _ => ?_)); simp only [acosbK, acosbF, roundK_eq, wavesK_eq, halfK_eq, smallK_eq, arcK0_eq, arcK_eq, withinK_eq, show ∀ w : Int, invK w 5 = invF w 5 (-1) from fun w => invK_eq w 5, show ∀ w : Int, invK w 239 = invF w 239 (-1) from fun w => invK_eq w 239, show ∀ w : Int, invK w 2 = invF w 2 (-1) from fun w => invK_eq w 2, oddK_eq]; try rfl
noncomputable def decK (g : Int → Option (Option (Int × Int))) : Nat → Int → Int → Option (Int × Int)
  | 0, _, _ => none
  | n + 1, p, work => (g work).bind fun f => match f with
    | none => decK g n p (2 * work)
    | some b => if shlOk 1 work then (roundK p b.1 (sl 1 work)).bind fun x => (roundK p b.2 (sl 1 work)).bind fun y => if ((x.1 == y.1) && (x.2 == y.2)) = true then some x else decK g n p (2 * work) else none
theorem decK_eq (g : Int → Option (Option (Int × Int))) : ∀ (n : Nat) (p work : Int), decK g n p work = decF g n p work := by
  intro n
  induction n with
  | zero => intros; rfl
  | succ n ih => intro p work; simp only [decK, decF, roundK_eq, ih]; try rfl
noncomputable def atanK (p m e : Int) : Option (Int × Int) :=
  if sgn m = 0 then some (m, e) else if 2 * (sz m + e) < 0 - p - 4 then some (m, e)
  else (fracF m e).bind fun f => decK (fun w => (arcK w f.1 f.2).map some) 20 p (2 * p + 12 + max2 0 (0 - (sz m + e)))
theorem atanK_eq : @atanK = @atanF := by
  (repeat (refine funext fun _ => ?_)); simp only [atanK, atanF, roundK_eq, wavesK_eq, halfK_eq, smallK_eq, arcK0_eq, arcK_eq, withinK_eq, acosbK_eq, decK_eq, show ∀ w : Int, invK w 5 = invF w 5 (-1) from fun w => invK_eq w 5, show ∀ w : Int, invK w 239 = invF w 239 (-1) from fun w => invK_eq w 239, show ∀ w : Int, invK w 2 = invF w 2 (-1) from fun w => invK_eq w 2, oddK_eq]; try rfl
noncomputable def quarterK (sign work : Int) : Option (Option (Int × Int)) := (halfK work).map fun h => some (oftenP (partP h 2) sign)
theorem quarterK_eq : @quarterK = @quarterF := by
  (repeat (refine funext fun _ => ?_)); simp only [quarterK, quarterF, roundK_eq, wavesK_eq, halfK_eq, smallK_eq, arcK0_eq, arcK_eq, withinK_eq, acosbK_eq, decK_eq, atanK_eq, show ∀ w : Int, invK w 5 = invF w 5 (-1) from fun w => invK_eq w 5, show ∀ w : Int, invK w 239 = invF w 239 (-1) from fun w => invK_eq w 239, show ∀ w : Int, invK w 2 = invF w 2 (-1) from fun w => invK_eq w 2, oddK_eq]; try rfl
noncomputable def asinbK (work m e : Int) : Option (Option (Int × Int)) :=
  (fracF m e).bind fun f => if mulOk f.2 f.2 then (if mulOk f.1 f.1 then (if shlOk f.1 work then (if divOk f.2 then
    (rbF work (f.2 * f.2 - f.1 * f.1) (f.2 * f.2)).bind fun w =>
      if w.1 ≤ 0 then some none else (quotF work (fboundP work f.1 f.2) w).bind fun q => (withinK work q).bind fun r => some (some r) else none) else none) else none) else none
theorem asinbK_eq : @asinbK = @asinbG := by
  (repeat (refine funext fun _ => ?_)); simp only [asinbK, asinbG, roundK_eq, wavesK_eq, halfK_eq, smallK_eq, arcK0_eq, arcK_eq, withinK_eq, acosbK_eq, decK_eq, atanK_eq, quarterK_eq, show ∀ w : Int, invK w 5 = invF w 5 (-1) from fun w => invK_eq w 5, show ∀ w : Int, invK w 239 = invF w 239 (-1) from fun w => invK_eq w 239, show ∀ w : Int, invK w 2 = invF w 2 (-1) from fun w => invK_eq w 2, oddK_eq]; try rfl
noncomputable def asinK (p m e : Int) : Option (Int × Int) :=
  if sgn m = 0 then some (m, e) else if 2 * (sz m + e) < 0 - p - 4 then some (m, e)
  else if iabs m = 1 ∧ e = 0 then decK (quarterK (sgn m)) 20 p (2 * p + 12 + max2 0 (0 - (sz m + e)))
  else decK (fun w => asinbK w m e) 20 p (2 * p + 12 + max2 0 (0 - (sz m + e)))
theorem asinK_eq : @asinK = @asinF := by
  (repeat (refine funext fun _ => ?_)); simp only [asinK, asinF, roundK_eq, wavesK_eq, halfK_eq, smallK_eq, arcK0_eq, arcK_eq, withinK_eq, acosbK_eq, decK_eq, atanK_eq, quarterK_eq, asinbK_eq, show ∀ w : Int, invK w 5 = invF w 5 (-1) from fun w => invK_eq w 5, show ∀ w : Int, invK w 239 = invF w 239 (-1) from fun w => invK_eq w 239, show ∀ w : Int, invK w 2 = invF w 2 (-1) from fun w => invK_eq w 2, oddK_eq]; try rfl
noncomputable def acosK (p m e : Int) : Option (Int × Int) :=
  if m = 1 ∧ e = 0 then some (0, 0) else if m = -1 ∧ e = 0 then decK (fun w => (halfK w).map some) 20 p (2 * p + 12)
  else decK (fun w => (acosbK w m e).map some) 20 p (2 * p + 12)
theorem acosK_eq : @acosK = @acosF := by
  (repeat (refine funext fun _ => ?_)); simp only [acosK, acosF, roundK_eq, wavesK_eq, halfK_eq, smallK_eq, arcK0_eq, arcK_eq, withinK_eq, acosbK_eq, decK_eq, atanK_eq, quarterK_eq, asinbK_eq, asinK_eq, show ∀ w : Int, invK w 5 = invF w 5 (-1) from fun w => invK_eq w 5, show ∀ w : Int, invK w 239 = invF w 239 (-1) from fun w => invK_eq w 239, show ∀ w : Int, invK w 2 = invF w 2 (-1) from fun w => invK_eq w 2, oddK_eq]; try rfl
noncomputable def boundsK (top bottom turn work : Int) : Option (Option (Int × Int)) := (arcK work top bottom).bind fun a => (halfK work).bind fun b => some (some (moreP a (oftenP b turn)))
theorem boundsK_eq : @boundsK = @boundsF := by
  (repeat (refine funext fun _ => ?_)); simp only [boundsK, boundsF, roundK_eq, wavesK_eq, halfK_eq, smallK_eq, arcK0_eq, arcK_eq, withinK_eq, acosbK_eq, decK_eq, atanK_eq, quarterK_eq, asinbK_eq, asinK_eq, acosK_eq, show ∀ w : Int, invK w 5 = invF w 5 (-1) from fun w => invK_eq w 5, show ∀ w : Int, invK w 239 = invF w 239 (-1) from fun w => invK_eq w 239, show ∀ w : Int, invK w 2 = invF w 2 (-1) from fun w => invK_eq w 2, oddK_eq]; try rfl
noncomputable def atan2K (p a b c d : Int) : Option (Int × Int) :=
  if sgn c = 0 then (if sgn a = 0 then none else decK (quarterK (sgn a)) 20 p (p + 12))
  else if sgn a = 0 then (if 0 < sgn c then some (0, 0) else decK (fun w => (halfK w).map some) 20 p (p + 12))
  else if 0 < sgn c then (ratioF a b c d).bind fun f => if p + 4 < farF f then none else decK (boundsK f.1 f.2 0) 20 p (2 * p + 12 + farF f)
  else (ratioF a b c d).bind fun f => decK (boundsK f.1 f.2 (sgn a)) 20 p (2 * p + 12 + farF f)
theorem atan2K_eq : @atan2K = @atan2F := by
  (repeat (refine funext fun _ => ?_)); simp only [atan2K, atan2F, roundK_eq, wavesK_eq, halfK_eq, smallK_eq, arcK0_eq, arcK_eq, withinK_eq, acosbK_eq, decK_eq, atanK_eq, quarterK_eq, asinbK_eq, asinK_eq, acosK_eq, boundsK_eq, show ∀ w : Int, invK w 5 = invF w 5 (-1) from fun w => invK_eq w 5, show ∀ w : Int, invK w 239 = invF w 239 (-1) from fun w => invK_eq w 239, show ∀ w : Int, invK w 2 = invF w 2 (-1) from fun w => invK_eq w 2, oddK_eq]; try rfl
noncomputable def endsK (p m e : Int) : Option ((Int × Int) × (Int × Int)) :=
  (middlesF p m e).bind fun q => (wavesK q.1 q.2.2).bind fun x => (wavesK q.2.1 q.2.2).bind fun y => some (x, y)
theorem endsK_eq : @endsK = @endsF := by
  (repeat (refine funext fun _ => ?_)); simp only [endsK, endsF, roundK_eq, wavesK_eq, halfK_eq, smallK_eq, arcK0_eq, arcK_eq, withinK_eq, acosbK_eq, decK_eq, atanK_eq, quarterK_eq, asinbK_eq, asinK_eq, acosK_eq, boundsK_eq, atan2K_eq, show ∀ w : Int, invK w 5 = invF w 5 (-1) from fun w => invK_eq w 5, show ∀ w : Int, invK w 239 = invF w 239 (-1) from fun w => invK_eq w 239, show ∀ w : Int, invK w 2 = invF w 2 (-1) from fun w => invK_eq w 2, oddK_eq]; try rfl
noncomputable def isArcK (p m e top bottom : Int) : Bool :=
  if m ≤ 0 then false else match endsK p m e with
  | none => false
  | some ((high, wide), (other, broad)) =>
    if wide ≤ 0 then false else if mulOk (high - offI) bottom then (if mulOk (wide + offI) top then
      (if (wide + offI) * top < (high - offI) * bottom then false else if broad ≤ offI then true
       else if mulOk (other + offI) bottom then (if mulOk (broad - offI) top then decide ((broad - offI) * top ≤ (other + offI) * bottom) else false) else false) else false) else false
theorem isArcK_eq : @isArcK = @isArcF := by
  (repeat (refine funext fun _ => ?_)); simp only [isArcK, isArcF, roundK_eq, wavesK_eq, halfK_eq, smallK_eq, arcK0_eq, arcK_eq, withinK_eq, acosbK_eq, decK_eq, atanK_eq, quarterK_eq, asinbK_eq, asinK_eq, acosK_eq, boundsK_eq, atan2K_eq, endsK_eq, show ∀ w : Int, invK w 5 = invF w 5 (-1) from fun w => invK_eq w 5, show ∀ w : Int, invK w 239 = invF w 239 (-1) from fun w => invK_eq w 239, show ∀ w : Int, invK w 2 = invF w 2 (-1) from fun w => invK_eq w 2, oddK_eq]; try rfl
noncomputable def isSineK (p m e top bottom : Int) : Bool :=
  if m ≤ 0 then false else match endsK p m e with
  | none => false
  | some ((high, wide), (other, broad)) =>
    if wide ≤ 0 then false else if mulOk (high - offI) bottom then (if shlOk top 100 then
      (if sl top 100 < (high - offI) * bottom then false else if broad ≤ offI then true
       else if mulOk (other + offI) bottom then decide (sl top 100 ≤ (other + offI) * bottom) else false) else false) else false
theorem isSineK_eq : @isSineK = @isSineF := by
  (repeat (refine funext fun _ => ?_)); simp only [isSineK, isSineF, roundK_eq, wavesK_eq, halfK_eq, smallK_eq, arcK0_eq, arcK_eq, withinK_eq, acosbK_eq, decK_eq, atanK_eq, quarterK_eq, asinbK_eq, asinK_eq, acosK_eq, boundsK_eq, atan2K_eq, endsK_eq, isArcK_eq, show ∀ w : Int, invK w 5 = invF w 5 (-1) from fun w => invK_eq w 5, show ∀ w : Int, invK w 239 = invF w 239 (-1) from fun w => invK_eq w 239, show ∀ w : Int, invK w 2 = invF w 2 (-1) from fun w => invK_eq w 2, oddK_eq]; try rfl
noncomputable def isCosK (p m e top bottom : Int) : Bool :=
  if m ≤ 0 then false else match endsK p m e with
  | none => false
  | some ((high, wide), (other, broad)) =>
    if high ≤ 0 then false else if mulOk (wide + offI) bottom then (if shlOk top 100 then
      (if (wide + offI) * bottom < sl top 100 then false else if other ≤ offI then true
       else if mulOk (broad - offI) bottom then decide ((broad - offI) * bottom ≤ sl top 100) else false) else false) else false
theorem isCosK_eq : @isCosK = @isCosF := by
  (repeat (refine funext fun _ => ?_)); simp only [isCosK, isCosF, roundK_eq, wavesK_eq, halfK_eq, smallK_eq, arcK0_eq, arcK_eq, withinK_eq, acosbK_eq, decK_eq, atanK_eq, quarterK_eq, asinbK_eq, asinK_eq, acosK_eq, boundsK_eq, atan2K_eq, endsK_eq, isArcK_eq, isSineK_eq, show ∀ w : Int, invK w 5 = invF w 5 (-1) from fun w => invK_eq w 5, show ∀ w : Int, invK w 239 = invF w 239 (-1) from fun w => invK_eq w 239, show ∀ w : Int, invK w 2 = invF w 2 (-1) from fun w => invK_eq w 2, oddK_eq]; try rfl
end Mine
end
noncomputable section
open PySem PySem.W PyProof.Rows
set_option linter.all false
set_option maxRecDepth 100000
set_option exponentiation.threshold 5000
namespace Mine
/-- an Int that is worked out ahead -/
noncomputable def fI {α : Type} (x : Int) (k : Int → α) : α := Int.rec (motive := fun _ => α) (fun n => fo n fun n => k (Int.ofNat n)) (fun n => fo n fun n => k (Int.negSucc n)) x
theorem fI_eq {α : Type} (x : Int) (k : Int → α) : fI x k = k x := by cases x with
  | ofNat n => exact fo_eq n fun n => k (Int.ofNat n)
  | negSucc n => exact fo_eq n fun n => k (Int.negSucc n)
noncomputable def withO (x : Option (Int × Int)) (k : Int → Int → Bool) : Bool := Option.rec (motive := fun _ => Bool) false (fun r => fI r.1 fun a => fI r.2 fun b => k a b) x
theorem withO_sound {x : Option (Int × Int)} {k : Int → Int → Bool} (h : withO x k = true) : ∃ a b, x = some (a, b) ∧ k a b = true := by
  cases x with
  | none => cases h
  | some r =>
    have e : withO (some r) k = k r.1 r.2 := by
      show fI r.1 (fun a => fI r.2 fun b => k a b) = _
      rw [fI_eq, fI_eq]
    exact ⟨r.1, r.2, rfl, e ▸ h⟩
noncomputable def eqO (x : Option (Int × Int)) (a b : Int) : Bool := withO x fun c d => and (decide (c = a)) (decide (d = b))
theorem and_both {a b : Bool} (h : and a b = true) : a = true ∧ b = true := by cases a <;> cases b <;> first | exact ⟨rfl, rfl⟩ | cases h
theorem eqO_sound {x : Option (Int × Int)} {a b : Int} (h : eqO x a b = true) : x = some (a, b) := by
  obtain ⟨c, d, e, h⟩ := withO_sound h
  obtain ⟨h1, h2⟩ := and_both h
  rw [e, of_decide_eq_true h1, of_decide_eq_true h2]
noncomputable def cosB (p m e f0 f1 : Int) : Bool := withO (acosK p m e) fun g h => isCosK p g h f0 f1
theorem cosB_sound {p m e f0 f1 : Int} (h : cosB p m e f0 f1 = true) : ∃ g k, acosF p m e = some (g, k) ∧ isCosF p g k f0 f1 = true := by
  obtain ⟨a, b, h1, h2⟩ := withO_sound h
  exact ⟨a, b, acosK_eq ▸ h1, isCosK_eq ▸ h2⟩
noncomputable def mainB (p m n e f0 f1 : Int) : Bool := withO (asinK p m e) fun d k => and (eqO (asinK p n e) (0 - d) k) (and (eqO (leanF (0 - (0 - d)) k) d k) (and (isSineK p d k f0 f1)
  (and (Bool.rec (cosB p m e f0 f1) (eqO (acosK p m e) 0 0) (decide (f0 = f1))) (cosB p n e (0 - f0) f1))))
theorem mainB_sound {p m e f0 f1 : Int} (h : mainB p m (0 - m) e f0 f1 = true) (h0 : 0 < f0) (h1 : 0 < f1) (hle : ¬ f1 < f0) (e1 : fracF m e = some (f0, f1)) (e2 : fracF (0 - m) e = some (0 - f0, f1)) :
    MainOk p m e (0 - m) e f0 f1 ∧ MainOk p (0 - m) e m e (0 - f0) f1 := by
  obtain ⟨d, k, ha, h⟩ := withO_sound h
  obtain ⟨hb, h⟩ := and_both h
  obtain ⟨hc, h⟩ := and_both h
  obtain ⟨hs, h⟩ := and_both h
  obtain ⟨hx, hn⟩ := and_both h
  rw [asinK_eq] at ha
  have hb := eqO_sound hb
  rw [asinK_eq] at hb
  have hc := eqO_sound hc
  rw [isSineK_eq] at hs
  have i0 : iabs f0 = f0 := if_neg (by omega)
  have i1 : iabs (0 - f0) = f0 := by rw [show iabs (0 - f0) = -(0 - f0) from if_pos (by omega)]; omega
  obtain ⟨g, q, hg1, hg2⟩ := cosB_sound hn
  refine ⟨⟨0 - f0, f1, d, k, e2, by rw [i1]; exact hle, ha, hb, ?_⟩, f0, f1, 0 - d, k, e1, by rw [i0]; exact hle, hb, by rw [show 0 - (0 - d) = d by omega]; exact ha, .inr (.inr ⟨by omega, by omega, d, k, hc, by rw [i1]; exact hs, g, q, hg1, hg2⟩)⟩
  by_cases c : f0 = f1
  · rw [decide_eq_true c] at hx
    exact .inl ⟨h0, by rw [i0]; exact hs, c, acosK_eq ▸ eqO_sound hx⟩
  · rw [decide_eq_false c] at hx
    exact .inr (.inl ⟨h0, by rw [i0]; exact hs, c, cosB_sound hx⟩)
noncomputable def pairB (p m n e : Int) : Bool := and (eqO (leanF m e) m e) (and (eqO (leanF n e) n e) (withO (fracF m e) fun f0 f1 => and (eqO (fracF n e) (0 - f0) f1) (and (decide (0 < f0)) (and (decide (0 < f1))
  (withO (atanK p m e) fun b k => and (eqO (atanK p n e) (0 - b) k) (and (isArcK p b k f0 f1) (Bool.rec (mainB p m n e f0 f1) true (decide (f1 < f0)))))))))
theorem pairB_sound {p m e : Int} (h : pairB p m (0 - m) e = true) (hm : 0 < m) : ArcsOk p m e ∧ ArcsOk p (0 - m) e := by
  obtain ⟨l1, h⟩ := and_both h
  obtain ⟨l2, h⟩ := and_both h
  obtain ⟨f0, f1, e1, h⟩ := withO_sound h
  obtain ⟨e2, h⟩ := and_both h
  obtain ⟨h0, h⟩ := and_both h
  obtain ⟨h1, h⟩ := and_both h
  obtain ⟨b, k, a1, h⟩ := withO_sound h
  obtain ⟨a2, h⟩ := and_both h
  obtain ⟨hi, h⟩ := and_both h
  have l1 := eqO_sound l1
  have l2 := eqO_sound l2
  have e2 := eqO_sound e2
  have h0 := of_decide_eq_true h0
  have h1 := of_decide_eq_true h1
  rw [atanK_eq] at a1
  have a2 := eqO_sound a2
  rw [atanK_eq] at a2
  rw [isArcK_eq] at hi
  have i0 : iabs f0 = f0 := if_neg (by omega)
  have i1 : iabs (0 - f0) = f0 := by rw [show iabs (0 - f0) = -(0 - f0) from if_pos (by omega)]; omega
  have j0 : iabs m = m := if_neg (by omega)
  have j1 : iabs (0 - m) = m := by rw [show iabs (0 - m) = -(0 - m) from if_pos (by omega)]; omega
  have j2 : 0 - (0 - m) = m := by omega
  have j3 : 0 - (0 - b) = b := by omega
  have hx : ¬ f1 < f0 → MainOk p m e (0 - m) e f0 f1 ∧ MainOk p (0 - m) e m e (0 - f0) f1 := fun c => by
    rw [decide_eq_false c] at h
    exact mainB_sound h h0 h1 c e1 e2
  exact ⟨⟨f0, f1, 0 - m, e, e1, l2, .inr ⟨by omega, m, e, b, k, b, k, by rw [j0]; exact l1, a1, by rw [i0]; exact hi, a1, a2, fun c => (hx (by rw [i0] at c; exact c)).1⟩⟩,
    ⟨0 - f0, f1, m, e, e2, by rw [j2]; exact l1, .inr ⟨by omega, m, e, b, k, 0 - b, k, by rw [j1]; exact l1, a1, by rw [i1]; exact hi, a2, by rw [j3]; exact a1, fun c => (hx (by rw [i1] at c; exact c)).2⟩⟩⟩
noncomputable def allN (n : Nat) (f : Nat → Bool) : Bool := Nat.rec (motive := fun _ => Bool) true (fun i ih => and (f i) ih) n
theorem allN_sound {f : Nat → Bool} : ∀ {n : Nat}, allN n f = true → ∀ i, i < n → f i = true
  | n + 1, h, i, hi => by
    obtain ⟨h1, h2⟩ := and_both (show and (f n) (allN n f) = true from h)
    by_cases c : i = n
    · rw [c]; exact h1
    · exact allN_sound h2 i (by omega)
/-- the numbers (2 * k + 1) * 2 ** e, and their contraries, of p bits, e from - 9 - p on, c of them -/
noncomputable def rowB (p k c : Nat) : Bool := fo (Nat.succ (Nat.mul 2 k)) fun m => allN c fun j => fI (Int.sub (Int.ofNat j) (Int.ofNat (Nat.add 9 p))) fun e => fI (Int.neg (Int.ofNat m)) fun n => pairB (Int.ofNat p) (Int.ofNat m) n e
theorem rowB_sound {p k c : Nat} (h : rowB p k c = true) (j : Nat) (hj : j < c) : ArcsOk p (2 * k + 1 : Nat) ((j : Int) - (9 + p : Nat)) ∧ ArcsOk p (0 - ((2 * k + 1 : Nat) : Int)) ((j : Int) - (9 + p : Nat)) := by
  unfold rowB at h
  rw [fo_eq] at h
  have := allN_sound h j hj
  rw [fI_eq, fI_eq] at this
  refine pairB_sound ?_ (by omega)
  have e : (0 : Int) - ((2 * k + 1 : Nat) : Int) = Int.neg (Int.ofNat (Nat.succ (Nat.mul 2 k))) := by show _ = -((2 * k + 1 : Nat) : Int); omega
  rw [e]
  exact this
noncomputable def blockB (p a n : Nat) : Bool := allN n fun i => fo (Nat.add a i) fun k => fo (Nat.sub (Nat.add 19 p) (Nat.succ (Nat.log2 (Nat.succ (Nat.mul 2 k))))) fun c => rowB p k c
theorem blockB_sound {p a n : Nat} (h : blockB p a n = true) (k j : Nat) (h1 : a ≤ k) (h2 : k < a + n) (hj : j + (2 * k + 1).log2 + 1 < 19 + p) : ArcsOk p (2 * k + 1 : Nat) ((j : Int) - (9 + p : Nat)) ∧ ArcsOk p (0 - ((2 * k + 1 : Nat) : Int)) ((j : Int) - (9 + p : Nat)) := by
  have := allN_sound h (k - a) (by omega)
  rw [fo_eq, fo_eq] at this
  have e : Nat.add a (k - a) = k := by show a + (k - a) = k; omega
  rw [e] at this
  exact rowB_sound this j (by show j < (19 + p) - ((2 * k + 1).log2 + 1); omega)
noncomputable def withE (x : Option ((Int × Int) × (Int × Int))) (k : Int → Int → Int → Int → Bool) : Bool := Option.rec (motive := fun _ => Bool) false (fun r => fI r.1.1 fun a => fI r.1.2 fun b => fI r.2.1 fun c => fI r.2.2 fun d => k a b c d) x
theorem withE_sound {x : Option ((Int × Int) × (Int × Int))} {k : Int → Int → Int → Int → Bool} (h : withE x k = true) : ∃ a b c d, x = some ((a, b), (c, d)) ∧ k a b c d = true := by
  cases x with
  | none => cases h
  | some r =>
    have e : withE (some r) k = k r.1.1 r.1.2 r.2.1 r.2.2 := by
      show fI r.1.1 (fun a => fI r.1.2 fun b => fI r.2.1 fun c => fI r.2.2 fun d => k a b c d) = _
      rw [fI_eq, fI_eq, fI_eq, fI_eq]
    exact ⟨_, _, _, _, rfl, e ▸ h⟩
noncomputable def pointB (p hm he wm we : Int) : Bool := withO (atan2K p hm he wm we) fun a b => withO (leanF (0 - hm) he) fun lm le => withO (atan2K p lm le wm we) fun c d =>
  Bool.rec (and (decide (decide (0 < a) = decide (0 < hm) ∧ c = 0 - a ∧ d = b)) (withO (leanF (iabs a) b) fun tm te => withE (endsK p tm te) fun r br o bd => withO (fracF hm he) fun t0 _ => withO (fracF wm we) fun c0 _ =>
      decide (shlOk (iabs t0 + iabs c0) 20 ∧ mulOk br (iabs t0) ∧ mulOk r c0 ∧ mulOk o c0 ∧ mulOk bd (iabs t0) ∧ 0 - sl (iabs t0 + iabs c0) 20 ≤ br * iabs t0 - r * c0 ∧ 0 - sl (iabs t0 + iabs c0) 20 ≤ o * c0 - bd * iabs t0)))
    (decide (decide (a = 0) = decide (0 < wm) ∧ 0 ≤ a)) (decide (hm = 0))
theorem pointB_sound {p hm he wm we : Int} (h : pointB p hm he wm we = true) : PointOk p hm he wm we := by
  obtain ⟨a, b, h1, h⟩ := withO_sound h
  obtain ⟨lm, le, h2, h⟩ := withO_sound h
  obtain ⟨c, d, h3, h⟩ := withO_sound h
  rw [atan2K_eq] at h1 h3
  refine ⟨a, b, lm, le, c, d, h1, h2, h3, ?_⟩
  by_cases z : hm = 0
  · rw [decide_eq_true z] at h
    obtain ⟨h4, h5⟩ := of_decide_eq_true h
    exact .inl ⟨z, h4, h5⟩
  · rw [decide_eq_false z] at h
    obtain ⟨h4, h⟩ := and_both h
    obtain ⟨h5, h6, h7⟩ := of_decide_eq_true h4
    obtain ⟨tm, te, g1, h⟩ := withO_sound h
    obtain ⟨r, br, o, bd, g2, h⟩ := withE_sound h
    obtain ⟨t0, t1, g3, h⟩ := withO_sound h
    obtain ⟨c0, c1, g4, h⟩ := withO_sound h
    rw [endsK_eq] at g2
    exact .inr ⟨z, h5, h6, h7, tm, te, r, br, o, bd, t0, t1, c0, c1, g1, g2, g3, g4, of_decide_eq_true h⟩
noncomputable def ptB (p a b : Nat) : Bool := fI (Int.sub (Int.ofNat a) 4) fun a => fI (Int.sub (Int.ofNat b) 4) fun b => withO (leanF a 0) fun hm he => withO (leanF b 0) fun wm we => Bool.rec (pointB (Int.ofNat p) hm he wm we) true (decide (hm = 0 ∧ wm = 0))
noncomputable def ptsB (p : Nat) : Bool := allN 9 fun a => allN 9 fun b => ptB p a b
theorem ptsB_sound {p : Nat} (h : ptsB p = true) (a b : Nat) (ha : a < 9) (hb : b < 9) : ∃ hm he wm we, leanF ((a : Int) - 4) 0 = some (hm, he) ∧ leanF ((b : Int) - 4) 0 = some (wm, we) ∧ (¬ (hm = 0 ∧ wm = 0) → PointOk p hm he wm we) := by
  have h := allN_sound (allN_sound h a ha) b hb
  unfold ptB at h
  rw [fI_eq, fI_eq] at h
  obtain ⟨hm, he, h1, h⟩ := withO_sound h
  obtain ⟨wm, we, h2, h⟩ := withO_sound h
  refine ⟨hm, he, wm, we, h1, h2, fun n => ?_⟩
  rw [decide_eq_false n] at h
  exact pointB_sound h
noncomputable def kN (mt : Nat) : Nat := (sh (mt : Int) (zb mt)).toNat / 2
noncomputable def zN (mt : Nat) : Nat := (zb (mt : Int)).toNat
noncomputable def lowB (mt : Nat) : Bool := decide (zb (mt : Int) = zN mt ∧ sh (mt : Int) (zb mt) = (2 * kN mt + 1 : Nat) ∧ zb (0 - (mt : Int)) = zN mt ∧ sh (0 - (mt : Int)) (zb (0 - (mt : Int))) = 0 - ((2 * kN mt + 1 : Nat) : Int) ∧ sz (mt : Int) ≤ 8 ∧ sz (0 - (mt : Int)) ≤ 8 ∧ mt = (2 * kN mt + 1) * 2 ^ zN mt)
theorem low_all : allN 128 (fun i => lowB (Nat.succ i)) = true := by decide +kernel
theorem low {mt : Nat} (h0 : 1 ≤ mt) (h1 : mt ≤ 128) : ∃ k z : Nat, mt = (2 * k + 1) * 2 ^ z ∧ ∀ e : Int, -30 ≤ e → e ≤ 30 → leanF mt e = some (((2 * k + 1 : Nat) : Int), e + z) ∧ leanF (0 - (mt : Int)) e = some (0 - ((2 * k + 1 : Nat) : Int), e + z) := by
  have h := allN_sound low_all (mt - 1) (by omega)
  rw [show Nat.succ (mt - 1) = mt by omega] at h
  obtain ⟨a1, a2, a3, a4, a5, a6, a7⟩ := of_decide_eq_true h
  refine ⟨kN mt, zN mt, a7, fun e l1 l2 => ?_⟩
  have go : ∀ x y : Int, x ≠ 0 → zb x = zN mt → sh x (zb x) = y → 0 ≤ sz x → sz x ≤ 8 → leanF x e = some (y, e + zN mt) := fun x y q1 q2 q3 q4 q5 => by
    unfold leanF
    rw [if_neg q1, if_neg (by show ¬ 65536 < (if sz x + e < 0 then -(sz x + e) else sz x + e); generalize sz x = g at *; split <;> omega), if_pos (by rw [q2]; exact Int.natCast_nonneg _), q3, q2]
  exact ⟨go _ _ (by omega) a1 a2 (Int.natCast_nonneg _) a5, go _ _ (by omega) a3 a4 (Int.natCast_nonneg _) a6⟩
end Mine
end
noncomputable section
open PySem PySem.W PyProof.Rows
set_option linter.all false
set_option maxRecDepth 100000
set_option exponentiation.threshold 5000
namespace Mine
theorem blk2x0 : blockB 2 0 2 = true := by decide +kernel
theorem pts2 : ptsB 2 = true := by decide +kernel
theorem blk3x0 : blockB 3 0 4 = true := by decide +kernel
theorem pts3 : ptsB 3 = true := by decide +kernel
theorem blk4x0 : blockB 4 0 4 = true := by decide +kernel
theorem blk4x4 : blockB 4 4 4 = true := by decide +kernel
theorem pts4 : ptsB 4 = true := by decide +kernel
theorem blk5x0 : blockB 5 0 4 = true := by decide +kernel
theorem blk5x4 : blockB 5 4 4 = true := by decide +kernel
theorem blk5x8 : blockB 5 8 4 = true := by decide +kernel
theorem blk5x12 : blockB 5 12 4 = true := by decide +kernel
theorem pts5 : ptsB 5 = true := by decide +kernel
theorem blk6x0 : blockB 6 0 4 = true := by decide +kernel
theorem blk6x4 : blockB 6 4 4 = true := by decide +kernel
theorem blk6x8 : blockB 6 8 4 = true := by decide +kernel
theorem blk6x12 : blockB 6 12 4 = true := by decide +kernel
theorem blk6x16 : blockB 6 16 4 = true := by decide +kernel
theorem blk6x20 : blockB 6 20 4 = true := by decide +kernel
theorem blk6x24 : blockB 6 24 4 = true := by decide +kernel
theorem blk6x28 : blockB 6 28 4 = true := by decide +kernel
theorem pts6 : ptsB 6 = true := by decide +kernel
theorem blk7x0 : blockB 7 0 4 = true := by decide +kernel
theorem blk7x4 : blockB 7 4 4 = true := by decide +kernel
theorem blk7x8 : blockB 7 8 4 = true := by decide +kernel
theorem blk7x12 : blockB 7 12 4 = true := by decide +kernel
theorem blk7x16 : blockB 7 16 4 = true := by decide +kernel
theorem blk7x20 : blockB 7 20 4 = true := by decide +kernel
theorem blk7x24 : blockB 7 24 4 = true := by decide +kernel
theorem blk7x28 : blockB 7 28 4 = true := by decide +kernel
theorem blk7x32 : blockB 7 32 4 = true := by decide +kernel
theorem blk7x36 : blockB 7 36 4 = true := by decide +kernel
theorem blk7x40 : blockB 7 40 4 = true := by decide +kernel
theorem blk7x44 : blockB 7 44 4 = true := by decide +kernel
theorem blk7x48 : blockB 7 48 4 = true := by decide +kernel
theorem blk7x52 : blockB 7 52 4 = true := by decide +kernel
theorem blk7x56 : blockB 7 56 4 = true := by decide +kernel
theorem blk7x60 : blockB 7 60 4 = true := by decide +kernel
theorem pts7 : ptsB 7 = true := by decide +kernel
theorem all2 (k j : Nat) (hk : k < 2) (hj : j + (2 * k + 1).log2 + 1 < 19 + 2) : ArcsOk ((2 : Nat) : Int) (2 * k + 1 : Nat) ((j : Int) - (9 + 2 : Nat)) ∧ ArcsOk ((2 : Nat) : Int) (0 - ((2 * k + 1 : Nat) : Int)) ((j : Int) - (9 + 2 : Nat)) := by
  exact blockB_sound blk2x0 k j (by omega) hk hj
theorem all3 (k j : Nat) (hk : k < 4) (hj : j + (2 * k + 1).log2 + 1 < 19 + 3) : ArcsOk ((3 : Nat) : Int) (2 * k + 1 : Nat) ((j : Int) - (9 + 3 : Nat)) ∧ ArcsOk ((3 : Nat) : Int) (0 - ((2 * k + 1 : Nat) : Int)) ((j : Int) - (9 + 3 : Nat)) := by
  exact blockB_sound blk3x0 k j (by omega) hk hj
theorem all4 (k j : Nat) (hk : k < 8) (hj : j + (2 * k + 1).log2 + 1 < 19 + 4) : ArcsOk ((4 : Nat) : Int) (2 * k + 1 : Nat) ((j : Int) - (9 + 4 : Nat)) ∧ ArcsOk ((4 : Nat) : Int) (0 - ((2 * k + 1 : Nat) : Int)) ((j : Int) - (9 + 4 : Nat)) := by
  by_cases c0 : k < 4
  · exact blockB_sound blk4x0 k j (by omega) c0 hj
  exact blockB_sound blk4x4 k j (by omega) hk hj
theorem all5 (k j : Nat) (hk : k < 16) (hj : j + (2 * k + 1).log2 + 1 < 19 + 5) : ArcsOk ((5 : Nat) : Int) (2 * k + 1 : Nat) ((j : Int) - (9 + 5 : Nat)) ∧ ArcsOk ((5 : Nat) : Int) (0 - ((2 * k + 1 : Nat) : Int)) ((j : Int) - (9 + 5 : Nat)) := by
  by_cases c0 : k < 4
  · exact blockB_sound blk5x0 k j (by omega) c0 hj
  by_cases c1 : k < 8
  · exact blockB_sound blk5x4 k j (by omega) c1 hj
  by_cases c2 : k < 12
  · exact blockB_sound blk5x8 k j (by omega) c2 hj
  exact blockB_sound blk5x12 k j (by omega) hk hj
theorem all6 (k j : Nat) (hk : k < 32) (hj : j + (2 * k + 1).log2 + 1 < 19 + 6) : ArcsOk ((6 : Nat) : Int) (2 * k + 1 : Nat) ((j : Int) - (9 + 6 : Nat)) ∧ ArcsOk ((6 : Nat) : Int) (0 - ((2 * k + 1 : Nat) : Int)) ((j : Int) - (9 + 6 : Nat)) := by
  by_cases c0 : k < 4
  · exact blockB_sound blk6x0 k j (by omega) c0 hj
  by_cases c1 : k < 8
  · exact blockB_sound blk6x4 k j (by omega) c1 hj
  by_cases c2 : k < 12
  · exact blockB_sound blk6x8 k j (by omega) c2 hj
  by_cases c3 : k < 16
  · exact blockB_sound blk6x12 k j (by omega) c3 hj
  by_cases c4 : k < 20
  · exact blockB_sound blk6x16 k j (by omega) c4 hj
  by_cases c5 : k < 24
  · exact blockB_sound blk6x20 k j (by omega) c5 hj
  by_cases c6 : k < 28
  · exact blockB_sound blk6x24 k j (by omega) c6 hj
  exact blockB_sound blk6x28 k j (by omega) hk hj
theorem all7 (k j : Nat) (hk : k < 64) (hj : j + (2 * k + 1).log2 + 1 < 19 + 7) : ArcsOk ((7 : Nat) : Int) (2 * k + 1 : Nat) ((j : Int) - (9 + 7 : Nat)) ∧ ArcsOk ((7 : Nat) : Int) (0 - ((2 * k + 1 : Nat) : Int)) ((j : Int) - (9 + 7 : Nat)) := by
  by_cases c0 : k < 4
  · exact blockB_sound blk7x0 k j (by omega) c0 hj
  by_cases c1 : k < 8
  · exact blockB_sound blk7x4 k j (by omega) c1 hj
  by_cases c2 : k < 12
  · exact blockB_sound blk7x8 k j (by omega) c2 hj
  by_cases c3 : k < 16
  · exact blockB_sound blk7x12 k j (by omega) c3 hj
  by_cases c4 : k < 20
  · exact blockB_sound blk7x16 k j (by omega) c4 hj
  by_cases c5 : k < 24
  · exact blockB_sound blk7x20 k j (by omega) c5 hj
  by_cases c6 : k < 28
  · exact blockB_sound blk7x24 k j (by omega) c6 hj
  by_cases c7 : k < 32
  · exact blockB_sound blk7x28 k j (by omega) c7 hj
  by_cases c8 : k < 36
  · exact blockB_sound blk7x32 k j (by omega) c8 hj
  by_cases c9 : k < 40
  · exact blockB_sound blk7x36 k j (by omega) c9 hj
  by_cases c10 : k < 44
  · exact blockB_sound blk7x40 k j (by omega) c10 hj
  by_cases c11 : k < 48
  · exact blockB_sound blk7x44 k j (by omega) c11 hj
  by_cases c12 : k < 52
  · exact blockB_sound blk7x48 k j (by omega) c12 hj
  by_cases c13 : k < 56
  · exact blockB_sound blk7x52 k j (by omega) c13 hj
  by_cases c14 : k < 60
  · exact blockB_sound blk7x56 k j (by omega) c14 hj
  exact blockB_sound blk7x60 k j (by omega) hk hj
theorem allp {p : Nat} (h1 : 2 ≤ p) (h2 : p ≤ 7) (k j : Nat) (hk : 2 * k + 1 < 2 ^ p) (hj : j + (2 * k + 1).log2 + 1 < 19 + p) : ArcsOk p (2 * k + 1 : Nat) ((j : Int) - (9 + p : Nat)) ∧ ArcsOk p (0 - ((2 * k + 1 : Nat) : Int)) ((j : Int) - (9 + p : Nat)) := by
  have : p = 2 ∨ p = 3 ∨ p = 4 ∨ p = 5 ∨ p = 6 ∨ p = 7 := by omega
  rcases this with rfl | rfl | rfl | rfl | rfl | rfl
  · exact all2 k j (by omega) hj
  · exact all3 k j (by omega) hj
  · exact all4 k j (by omega) hj
  · exact all5 k j (by omega) hj
  · exact all6 k j (by omega) hj
  · exact all7 k j (by omega) hj
theorem ptsp {p : Nat} (h1 : 2 ≤ p) (h2 : p ≤ 7) : ptsB p = true := by
  have : p = 2 ∨ p = 3 ∨ p = 4 ∨ p = 5 ∨ p = 6 ∨ p = 7 := by omega
  rcases this with rfl | rfl | rfl | rfl | rfl | rfl
  · exact pts2
  · exact pts3
  · exact pts4
  · exact pts5
  · exact pts6
  · exact pts7
theorem zeroOk {p : Nat} (h1 : 2 ≤ p) (h2 : p ≤ 7) : ArcsOk p 0 0 :=
  ⟨0, 1, 0, 0, by decide +kernel, by decide +kernel, .inl ⟨rfl, by decide +kernel, by unfold atanF; rw [if_pos (by decide)], by unfold asinF; rw [if_pos (by decide)]⟩⟩
theorem lean_zero (e : Int) : leanF 0 e = some (0, 0) := if_pos rfl
theorem two_le {p mt k z : Nat} (e : mt = (2 * k + 1) * 2 ^ z) (h : mt ≤ 2 ^ p) : (2 * k + 1).log2 + z ≤ p ∧ 2 * k + 1 ≤ 2 ^ p := by
  have h1 : 2 ^ (2 * k + 1).log2 ≤ 2 * k + 1 := Nat.log2_self_le (by omega)
  have h2 : 2 ^ ((2 * k + 1).log2 + z) ≤ 2 ^ p := by
    rw [Nat.pow_add]
    exact Nat.le_trans (Nat.le_trans (Nat.mul_le_mul_right _ h1) (Nat.le_of_eq e.symm)) h
  refine ⟨(Nat.pow_le_pow_iff_right (by decide)).mp h2, Nat.le_trans ?_ h⟩
  rw [e]
  exact Nat.le_mul_of_pos_right _ (Nat.two_pow_pos z)
/-- a mantissa of at most p bits, or 2 ** p, by any exponent that is asked -/
theorem real_ok {p mt : Nat} (h1 : 2 ≤ p) (h2 : p ≤ 7) (hm : 1 ≤ mt) (hl : mt ≤ 2 ^ p) {e : Int} {q : Nat} (he : e = (q : Int) - 9 - p) (hq : q ≤ 18) (hx : mt < 2 ^ p ∨ q ≤ 17) :
    (∃ m k, leanF mt e = some (m, k) ∧ ArcsOk p m k) ∧ ∃ m k, leanF (0 - (mt : Int)) e = some (m, k) ∧ ArcsOk p m k := by
  have h128 : 2 ^ p ≤ 2 ^ 7 := Nat.pow_le_pow_right (by decide) h2
  obtain ⟨k, z, e1, e2⟩ := low hm (by omega)
  obtain ⟨l1, l2⟩ := e2 e (by omega) (by omega)
  obtain ⟨b1, b2⟩ := two_le e1 hl
  have b3 : 2 * k + 1 < 2 ^ p := by
    have : 2 ^ p = 2 * 2 ^ (p - 1) := by rw [← Nat.pow_succ']; congr 1; omega
    omega
  have b4 : (2 * k + 1).log2 + z < p ∨ q ≤ 17 := by
    rcases hx with hx | hx
    · refine .inl ?_
      have : (2 * k + 1).log2 + z ≤ p - 1 ∨ (2 * k + 1).log2 + z = p := by omega
      rcases this with c | c
      · omega
      · exfalso
        have h3 : 2 ^ (2 * k + 1).log2 ≤ 2 * k + 1 := Nat.log2_self_le (by omega)
        have h4 : 2 ^ ((2 * k + 1).log2 + z) ≤ mt := by
          rw [Nat.pow_add, e1]
          exact Nat.mul_le_mul_right _ h3
        rw [c] at h4; omega
    · exact .inr hx
  obtain ⟨A1, A2⟩ := allp h1 h2 k (q + z) b3 (by omega)
  have ee : e + z = ((q + z : Nat) : Int) - (9 + p : Nat) := by omega
  rw [ee] at l1 l2
  exact ⟨⟨_, _, l1, A1⟩, _, _, l2, A2⟩
theorem pow_cast (p : Nat) : (1 : Int) * 2 ^ Int.toNat (p : Int) = ((2 ^ p : Nat) : Int) := by simp
theorem law1 : ∀ p mt val q : Int, 2 ≤ p → p ≤ 7 → 0 ≤ mt → mt < 1 * 2 ^ Int.toNat p → (val = mt ∨ val = 0 - mt) → 0 ≤ q → q < 19 → ∃ m e, leanF val (q - 9 - p) = some (m, e) ∧ ArcsOk p m e := by
  intro p mt val q h1 h2 h3 h4 h5 h6 h7
  obtain ⟨p, rfl⟩ := Int.eq_ofNat_of_zero_le (show 0 ≤ p by omega)
  obtain ⟨mt, rfl⟩ := Int.eq_ofNat_of_zero_le h3
  obtain ⟨q, rfl⟩ := Int.eq_ofNat_of_zero_le h6
  rw [pow_cast] at h4
  by_cases z : mt = 0
  · subst z
    have : val = 0 := by omega
    subst this
    exact ⟨0, 0, lean_zero _, zeroOk (by omega) (by omega)⟩
  · obtain ⟨R1, R2⟩ := real_ok (p := p) (mt := mt) (e := (q : Int) - 9 - p) (q := q) (by omega) (by omega) (by omega) (by omega) rfl (by omega) (.inl (by omega))
    rcases h5 with rfl | rfl
    · exact R1
    · exact R2
theorem law2 : ∀ p mt : Int, 2 ≤ p → p ≤ 7 → 0 ≤ mt → mt < 1 * 2 ^ Int.toNat p + 1 → (∃ m e, leanF mt (0 - p) = some (m, e) ∧ ArcsOk p m e) ∧ ∃ m e, leanF (0 - mt) (0 - p) = some (m, e) ∧ ArcsOk p m e := by
  intro p mt h1 h2 h3 h4
  obtain ⟨p, rfl⟩ := Int.eq_ofNat_of_zero_le (show 0 ≤ p by omega)
  obtain ⟨mt, rfl⟩ := Int.eq_ofNat_of_zero_le h3
  rw [pow_cast] at h4
  by_cases z : mt = 0
  · subst z
    exact ⟨⟨0, 0, lean_zero _, zeroOk (by omega) (by omega)⟩, 0, 0, lean_zero _, zeroOk (by omega) (by omega)⟩
  · exact real_ok (p := p) (mt := mt) (q := 9) (by omega) (by omega) (by omega) (by omega) (by omega) (by omega) (.inr (by omega))
theorem law3 : ∀ p a b : Int, 2 ≤ p → p ≤ 7 → 0 ≤ a → a < 9 → 0 ≤ b → b < 9 → ∃ hm he wm we, leanF (a - 4) 0 = some (hm, he) ∧ leanF (b - 4) 0 = some (wm, we) ∧ (¬ (hm = 0 ∧ wm = 0) → PointOk p hm he wm we) := by
  intro p a b h1 h2 h3 h4 h5 h6
  obtain ⟨p, rfl⟩ := Int.eq_ofNat_of_zero_le (show 0 ≤ p by omega)
  obtain ⟨a, rfl⟩ := Int.eq_ofNat_of_zero_le h3
  obtain ⟨b, rfl⟩ := Int.eq_ofNat_of_zero_le h5
  exact ptsB_sound (ptsp (by omega) (by omega)) a b (by omega) (by omega)
end Mine
end
set_option maxRecDepth 100000 in
theorem PySem.Challenge.cw_pc0352_01_holds : PySem.Challenge.rw_pc0352_01.Holds :=
  Mine.law_walk Mine.law1 Mine.law2 Mine.law3
