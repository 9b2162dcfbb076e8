/- The sum of no text, worked out; the laws on sums and mixing. No condition. -/
import Derived.Test.YtfphibjfddmnlaaKg
import Derived.Test.YtfphibjfddmnlaaQe
set_option maxRecDepth 100000
set_option linter.unusedSimpArgs false
set_option linter.unusedVariables false
namespace Go.Vm
open Go Go.RowKit Go.Proofs

def ofL (l : List W64) : K25 := fun i => l.getD i 0
def rol0 (x : W64) (k : Nat) : W64 := x <<< k ||| x >>> (64 - k)
def kC0 (A : K25) (x : Nat) : W64 := A x ^^^ A (x + 5) ^^^ A (x + 10) ^^^ A (x + 15) ^^^ A (x + 20)
def kD0 (A : K25) (x : Nat) : W64 := kC0 A ((x + 4) % 5) ^^^ rol0 (kC0 A ((x + 1) % 5)) 1
def sr0 (j : Nat) : Nat := ([0, 6, 12, 18, 24, 3, 9, 10, 16, 22, 1, 7, 13, 19, 20, 4, 5, 11, 17, 23, 2, 8, 14, 15, 21] : List Nat).getD j 0
def by0 (j : Nat) : Nat := ([0, 1, 62, 28, 27, 36, 44, 6, 55, 20, 3, 10, 43, 25, 39, 41, 45, 15, 21, 8, 18, 2, 61, 56, 14] : List Nat).getD j 0
def kB0 (A : K25) (j : Nat) : W64 := rol0 (A (sr0 j) ^^^ kD0 A (sr0 j % 5)) (by0 (sr0 j))
def kE0 (A : K25) (i : Nat) : W64 := kB0 A i ^^^ ~~~(kB0 A (i / 5 * 5 + (i + 1) % 5)) &&& kB0 A (i / 5 * 5 + (i + 2) % 5)
def rnd0 (A : K25) (c : W64) (i : Nat) : W64 := if i = 0 then kE0 A 0 ^^^ c else if i < 25 then kE0 A i else 0
theorem rol_0 : rol = rol0 := rol_eq
theorem kC_0 : kC = kC0 := kC_eq
theorem kD_0 : kD = kD0 := by rw [kD_eq, kC_0, rol_0]; rfl
theorem srT_0' : srT = sr0 := srT_eq
theorem byT_0' : byT = by0 := byT_eq
theorem kB_0 : kB = kB0 := by rw [kB_eq, kD_0, rol_0, srT_0', byT_0']; rfl
theorem kE_0 : kE = kE0 := by rw [kE_eq, kB_0]; rfl
theorem rnd_0' : rnd = rnd0 := by rw [rnd_eq, kE_0]; rfl
theorem rnd_step (l l' : List W64) (c : W64) (hl : l'.length = 25) (h : ∀ i, i < 25 → rnd0 (ofL l) c i = l'.getD i 0) : rnd (ofL l) c = ofL l' := by
  rw [rnd_0']
  funext i
  by_cases hi : i < 25
  · exact h i hi
  · have e : ofL l' i = 0 := by unfold ofL; rw [List.getD_eq_getElem?_getD, List.getElem?_eq_none (by omega)]; rfl
    rw [e]
    unfold rnd0
    rw [if_neg (by omega), if_neg hi]
theorem rcw_nt (k : Nat) (n : Nat) (h : rcT k = (n : Int)) : rcw k = BitVec.ofNat 64 n := by
  rw [rcw_eq, nt_eq]; simp only [h]; exact BitVec.ofInt_natCast 64 n
def kS0 : List W64 := [1, 0, 0, 0, 0, 0, 0, 0, 0, 0, 0, 0, 0, 0, 0, 0, 9223372036854775808, 0, 0, 0, 0, 0, 0, 0, 0]
def kS1 : List W64 := [4398046511105, 17592186044416, 4398046543872, 0, 17592186077184, 8, 52776560230400, 1152921504606846984, 52776558133248, 1152921504608944128, 2, 544, 262144, 514, 262176, 268436480, 68719493120, 1024, 268451840, 68719476736, 2305844108725321728, 2199023255552, 1099511627780, 2305845208236949504, 4]
def kS2 : List W64 := [3904711243048682726, 1207872589841957126, 3184368193241127169, 12971028319727649889, 10286551402689075458, 1259783720018274, 12214679202016067586, 9224121225299901428, 2992272534782738451, 9800689182623078597, 4611726720294328428, 11685850236297012, 1495365005022904395, 15813382930697286, 6111808659584533265, 124981832595311936, 2684240834651972352, 4912301736543682948, 2488263262048755776, 4778390286886047620, 1163347847091065233, 16868443555924821730, 154580546982776916, 15564660919037354401, 2456770817776948750]
def kS3 : List W64 := [8289102824591434380, 2650440079073489379, 11459863657423534455, 3078203046191370419, 10243614441579508732, 6715684478468316285, 9021721613749738627, 16323907559936263589, 14712371453287876238, 13207516449244145029, 6716728777335539109, 2516792122779427716, 5461754274945430388, 3341045827627689583, 3296329752392194682, 14297203439033465259, 11493424483223189197, 10504499887245279853, 3308135633588744113, 5098721825536174192, 8664368315221462042, 11716894083276002874, 2098923162028634215, 7303567510403455548, 4883930803803657273]
def kS4 : List W64 := [9145702616912342758, 16632607361196628137, 5807045512169203855, 6548049296825423573, 2911560703121806936, 12452414146356170408, 431667818003843456, 4945739612319476974, 12460092556240016733, 7658648394962756264, 13350366495830902207, 1953387479264944757, 17420282858972716739, 1215582556029742168, 7692344429658740155, 17977349082556873670, 1858614526669458582, 10964871947398476332, 15514956647893279288, 179932933774914631, 17508529487041048502, 7503018368851633981, 929261442150911620, 2851383533632874710, 7153482467733786193]
def kS5 : List W64 := [3217695626026700231, 7228520851561084131, 7840336919730310393, 6868346474795808920, 5817928043512098185, 483728965144457366, 2094125954139152251, 13290615271988912878, 6116732081573619054, 12404040371124941288, 5210583702804515577, 6569965374713754428, 9650717987591950737, 1838917144515589093, 6206879949013857101, 13836215650485784034, 2777104299206127432, 9162378715153818446, 2579248593664187030, 4649761399498197408, 4345672674621089333, 17727600499527599874, 15951120162837397783, 1486441073599636038, 7526975559096822753]
def kS6 : List W64 := [248066060412482913, 10809642231442205384, 5504895099598155415, 2584332703152910123, 10449879252273190592, 13355132533173292400, 16887410369553470650, 1390404604944908871, 10467819199160078225, 12586248386544345989, 13287309445471910499, 9168388512907289048, 10117223767413104261, 15763460986669702239, 10756186891316440689, 4278624213941474887, 14275455272196532991, 18250878328984007816, 4482727192120861170, 9721683024389909677, 9163772564863624264, 8489753604216688595, 816201186782976613, 1144184611068540487, 4128866423754115227]
def kS7 : List W64 := [18402963122672406245, 17859514631694764789, 14428715717768966649, 457031613351869429, 10894224858909162407, 8575137199002047859, 17809232792270138362, 4808146580191774126, 14627578404221294643, 7601016815347446848, 8500045888007553416, 2044036892383418708, 15900193137531961059, 8052354359019095129, 17216125304898466993, 16993524951797960044, 5609346022144275528, 15760809127494505806, 8446841439649264471, 18088848446523253189, 8270102827973632420, 9423595931552552983, 16228370102390044934, 12045389637071608679, 7056785534201200939]
def kS8 : List W64 := [12753376061805899333, 2111981560556758208, 13166824882716378987, 12172034681548868104, 16455514320282466043, 3265329870635658802, 5063956176412677616, 15307341599108955523, 17042901249887048594, 15606817482875957131, 12401061165045441397, 14112825205738012444, 7528182654139171963, 679949399121675847, 16110029214220444666, 16075443586991710645, 11809122633193920135, 824682708434772612, 9546558219524207792, 14570838741769169544, 16015354101246307490, 14937681164076894612, 16170554185854218030, 13411014959602602192, 17659497305141992864]
def kS9 : List W64 := [16607373423488820546, 2151422635867277830, 6572340985991069695, 14653210170250470996, 11791760579977573355, 4065323483469060406, 7283395855969466639, 13325119192580981824, 240953767092294249, 4061085087821419309, 15280882476846897925, 2750505582437592369, 2704748849273168765, 6327325585883090832, 2013544036530064293, 11337392647161457476, 9951477293767922198, 15216922623802272473, 4089965193502969186, 10262383148774694472, 11601735218912882699, 3910853304622802100, 1874362684601583732, 14635665072728267742, 11912924353201045756]
def kS10 : List W64 := [12443570198016410408, 15073234423324879037, 16538284292177595253, 770694436111563450, 4661629519587471725, 4134871225352118654, 4776995384142827210, 15478826137546518068, 18066846374717646578, 14270287239788042585, 2910516952809473229, 949633455367371438, 5615595303185522976, 12732927536893994306, 1974801021048620803, 8494920415961791039, 4379175404697166052, 779617988408921914, 11515541233266066687, 10851941993204617098, 17521537655693928411, 15329457299099953713, 8642253880621323691, 13248831312752232176, 9167496934457325936]
def kS11 : List W64 := [2784670699769870044, 12458046501618073558, 14125649387247164462, 2371862000334975945, 17449621713181921370, 18084473122477533316, 10555653529814021168, 1286435700208258660, 7900972333389060382, 13695579594619900831, 14617506584737283108, 16851691067561729428, 8573020770547936416, 15064676017279082892, 17197415585843555401, 15776906507246342037, 9813731578541049216, 12800378173865872612, 15297178561593300238, 11409222445058284577, 15122744860265765604, 5517594499147034503, 7999930204173150732, 15392201373165449930, 12679951944464799674]
def kS12 : List W64 := [16291156846118844451, 9692757143822035377, 17748466164917623592, 18297723408675364712, 5768111022144358297, 5032647943730211172, 240223639921337555, 3573006762761062315, 4418081664467045005, 14050874540553342331, 10482449059741954494, 13992079101437996990, 2435977504749834253, 10982271880190543118, 11974228964236697225, 15115158931448373871, 12735725188152392398, 7627438592320754813, 272652177933322935, 14245570792134504674, 8744534987003128554, 11356875620725102920, 8928226865784257667, 1524680525473545806, 2896276078172484414]
def kS13 : List W64 := [6665051101374537130, 5495771786181444414, 12537915500868265617, 17060231565289718284, 15561324751258473602, 7930404497004154902, 8849067938713931991, 6658565175150454632, 5282570462567558459, 11559245968373515903, 16566202011258081367, 674556369021680881, 3345820050997912695, 4671081468424751526, 7757084567577850828, 8502623553496775840, 3955259317059675661, 8106862701908889232, 6703677908344537012, 6580670985836187516, 9403347355581011122, 7905832091148999944, 5292914193962333749, 11887527448341663821, 16621059256266911255]
def kS14 : List W64 := [10716439878011516281, 15967399425266700355, 12076011584974892592, 16248055671756128434, 10643350871698206347, 10594214463648586357, 7116189751946765041, 7750545512743031734, 18247594507314572309, 7378220163111131807, 14999407657225623861, 7928369854754402115, 17844316675013910964, 15171488774331430663, 7614485196347525793, 11605212344200916950, 15157978784662469348, 11718935584924530645, 5535191362811376685, 14772790920984104005, 10448524766163212306, 4825435813474788858, 17005218769600310333, 13954843883325706830, 4929584870877703474]
def kS15 : List W64 := [1319998251610336165, 5389285008839651730, 9332282829561635961, 9409139626766683675, 6470951802939581099, 17252944717417249465, 17165277815629499916, 3963403808094557162, 14184007887274758158, 9596262242135920298, 10210589069919534081, 14250294093777783787, 8039572666876461379, 2368146889392807232, 1812659259149163614, 16807801796138206746, 11647457970582845122, 6166919066429959443, 1147388708393040668, 1303057136894895726, 1903883279373033606, 2131164935238924974, 4953436646693238779, 2641527683450144340, 2816144971954173157]
def kS16 : List W64 := [13881630218582485081, 16617007106358093478, 8370579830314427868, 1713224054433245973, 13627151018451951556, 10871226027031491916, 4699765345504525133, 4286537013572583285, 17310739681736795836, 99398265043109114, 3545503971586557412, 7556410075305792076, 15679693291762405836, 2729857338541306968, 1921741768395976932, 14263894358714132532, 11009055271111244000, 845971141115169140, 13270182711450419347, 17079085579333711468, 10503578552956300308, 6627023678281057244, 5403374185706104778, 6659075922477107110, 8592110512596117136]
def kS17 : List W64 := [8416411914720361245, 3448560865030073472, 3919536279875559698, 5573607003621883193, 984465805306826053, 15024535068875014392, 3681621266475130062, 9998293171501847344, 14839532389281272683, 533539312507974110, 16824156633091540864, 16389535479321433015, 13782841269213835654, 4122073509668400045, 7683819886385778366, 3592048281988696895, 8681389608761840015, 17598965942532483458, 16560167496673567885, 8777595276064781908, 9594426284182731638, 13108639988284796722, 15254667260581302934, 2433642677842468666, 1064465948127417059]
def kS18 : List W64 := [534296193886098135, 3695287213502380591, 11532049842336470888, 17974523857070849737, 12954850201481240735, 5716772798672216727, 2583007236467463893, 10427970853733301948, 700439106234402195, 7192762512095310632, 4383158246966191391, 18315691205404178545, 18043931791961935518, 16287759594864535142, 15352249056180256782, 18367201066277418680, 6748360514621293390, 9837915013220625665, 12422998273549796530, 12621865645966804366, 4594662070598184093, 8622633690173154066, 12904333489760771204, 385777527094370260, 6037929239432104378]
def kS19 : List W64 := [17242234307811427515, 7298945131924620938, 12512959417444303430, 16244176617175768424, 3826401358280227816, 8589395152097341129, 18321848104009695025, 11680515094655873510, 3680928998899718032, 5209258824295493052, 14420353876404795782, 13596398079702832869, 12202387532391994898, 721433745371800063, 9896885544113945439, 6680377346781173919, 5332700740124661618, 13318027231967735991, 16563930016949065197, 220674366890030230, 6699529091897125322, 2739507427232859638, 15711608159680198358, 15839554650221487652, 11575241304029856712]
def kS20 : List W64 := [16702010266589328720, 11785696339686387325, 16232021429448662837, 4621936354538492110, 16839935569400247044, 3516106972774747115, 11724013555230036502, 7480607343544516906, 14577750021349342573, 2421771942493426498, 8252672638237332873, 8249004131460997133, 778286484670419507, 5467066643722607965, 1760155417958766819, 5539793005320924506, 11397623340431491872, 12864342638065520035, 12083379459737583179, 14892306294104856657, 14623186648705301253, 5128653977437664874, 14734488673449380773, 17399174579470271659, 14787652485258740643]
def kS21 : List W64 := [16488390307541943305, 17559693018003947265, 9108537271992078214, 10423841811661870631, 3040236185740504183, 857882767517711827, 3492714315419207287, 2789125034051568249, 81920884436605105, 13331759205602966770, 16754353820981313164, 6741055624195280880, 5263857701266955350, 4627132801428790548, 7422782385993692804, 3730241882621406845, 4399100234652493596, 15025317568737056282, 4375033872217880358, 3359671850727625416, 1362862387812853932, 8387689881403993048, 8688947589982045175, 11585555971117405732, 16397411802621700634]
def kS22 : List W64 := [7468857592912166551, 7509402213287554103, 5920166622310057021, 1245229838719934601, 11412606850931652734, 4778997266118777220, 13503050704312239975, 9078797036224177493, 9046123609337478232, 2279923682132033021, 968663569872637247, 12528780394224896734, 15109038439802043243, 2514154137644936742, 13074992029672084631, 9981334051720804394, 10929166993946436931, 10786302343937411402, 2172383237928275479, 15222838835840319035, 6535328264755286323, 3021073620629705380, 6914764477367934026, 14161662948158972437, 2646073473019538392]
def kS23 : List W64 := [13219969621820782240, 3226093193424914092, 10846161881167012984, 13470522419822434072, 9395429576182681946, 8530498048516093610, 5651939854162289461, 7915235748700633099, 16590736201521082154, 11443586452577361644, 11578784407731530241, 12555284199035474007, 103191304442796045, 2407050918456829886, 8809156603158525029, 15242461923984447565, 13645658932555888328, 11207932644415108528, 2606492158503956003, 17367323008410274790, 14914538695926853805, 15728690031541589181, 7389391625128953151, 12128506732059288731, 17622300515349969486]
def kS24 : List W64 := [4333579421379646149, 13836122230913597074, 4262519377828905189, 8116759062988257915, 8406387447366859581, 14671339323370021561, 2243375101132795228, 9371364203318886753, 9347994793612953298, 12814238161780307547, 4391692840257016808, 4309499098775122448, 13438072403645551266, 18018124564071650747, 4323130096954625545, 16970298442240338249, 1971761234120675839, 450719451514497906, 18340686150147091359, 11254645818134300982, 16062291397582171322, 1601982631079003425, 7734681229251997073, 13256946727218518206, 11816912122432958423]
theorem kst0 : rnd (ofL kS0) (rcw 0) = ofL kS1 := by
  rw [rcw_nt 0 1 rcT_0]
  exact rnd_step kS0 kS1 1#64 rfl (by decide +kernel)
theorem kst1 : rnd (ofL kS1) (rcw 1) = ofL kS2 := by
  rw [rcw_nt 1 32898 rcT_1]
  exact rnd_step kS1 kS2 32898#64 rfl (by decide +kernel)
theorem kst2 : rnd (ofL kS2) (rcw 2) = ofL kS3 := by
  rw [rcw_nt 2 9223372036854808714 rcT_2]
  exact rnd_step kS2 kS3 9223372036854808714#64 rfl (by decide +kernel)
theorem kst3 : rnd (ofL kS3) (rcw 3) = ofL kS4 := by
  rw [rcw_nt 3 9223372039002292224 rcT_3]
  exact rnd_step kS3 kS4 9223372039002292224#64 rfl (by decide +kernel)
theorem kst4 : rnd (ofL kS4) (rcw 4) = ofL kS5 := by
  rw [rcw_nt 4 32907 rcT_4]
  exact rnd_step kS4 kS5 32907#64 rfl (by decide +kernel)
theorem kst5 : rnd (ofL kS5) (rcw 5) = ofL kS6 := by
  rw [rcw_nt 5 2147483649 rcT_5]
  exact rnd_step kS5 kS6 2147483649#64 rfl (by decide +kernel)
theorem kst6 : rnd (ofL kS6) (rcw 6) = ofL kS7 := by
  rw [rcw_nt 6 9223372039002292353 rcT_6]
  exact rnd_step kS6 kS7 9223372039002292353#64 rfl (by decide +kernel)
theorem kst7 : rnd (ofL kS7) (rcw 7) = ofL kS8 := by
  rw [rcw_nt 7 9223372036854808585 rcT_7]
  exact rnd_step kS7 kS8 9223372036854808585#64 rfl (by decide +kernel)
theorem kst8 : rnd (ofL kS8) (rcw 8) = ofL kS9 := by
  rw [rcw_nt 8 138 rcT_8]
  exact rnd_step kS8 kS9 138#64 rfl (by decide +kernel)
theorem kst9 : rnd (ofL kS9) (rcw 9) = ofL kS10 := by
  rw [rcw_nt 9 136 rcT_9]
  exact rnd_step kS9 kS10 136#64 rfl (by decide +kernel)
theorem kst10 : rnd (ofL kS10) (rcw 10) = ofL kS11 := by
  rw [rcw_nt 10 2147516425 rcT_10]
  exact rnd_step kS10 kS11 2147516425#64 rfl (by decide +kernel)
theorem kst11 : rnd (ofL kS11) (rcw 11) = ofL kS12 := by
  rw [rcw_nt 11 2147483658 rcT_11]
  exact rnd_step kS11 kS12 2147483658#64 rfl (by decide +kernel)
theorem kst12 : rnd (ofL kS12) (rcw 12) = ofL kS13 := by
  rw [rcw_nt 12 2147516555 rcT_12]
  exact rnd_step kS12 kS13 2147516555#64 rfl (by decide +kernel)
theorem kst13 : rnd (ofL kS13) (rcw 13) = ofL kS14 := by
  rw [rcw_nt 13 9223372036854775947 rcT_13]
  exact rnd_step kS13 kS14 9223372036854775947#64 rfl (by decide +kernel)
theorem kst14 : rnd (ofL kS14) (rcw 14) = ofL kS15 := by
  rw [rcw_nt 14 9223372036854808713 rcT_14]
  exact rnd_step kS14 kS15 9223372036854808713#64 rfl (by decide +kernel)
theorem kst15 : rnd (ofL kS15) (rcw 15) = ofL kS16 := by
  rw [rcw_nt 15 9223372036854808579 rcT_15]
  exact rnd_step kS15 kS16 9223372036854808579#64 rfl (by decide +kernel)
theorem kst16 : rnd (ofL kS16) (rcw 16) = ofL kS17 := by
  rw [rcw_nt 16 9223372036854808578 rcT_16]
  exact rnd_step kS16 kS17 9223372036854808578#64 rfl (by decide +kernel)
theorem kst17 : rnd (ofL kS17) (rcw 17) = ofL kS18 := by
  rw [rcw_nt 17 9223372036854775936 rcT_17]
  exact rnd_step kS17 kS18 9223372036854775936#64 rfl (by decide +kernel)
theorem kst18 : rnd (ofL kS18) (rcw 18) = ofL kS19 := by
  rw [rcw_nt 18 32778 rcT_18]
  exact rnd_step kS18 kS19 32778#64 rfl (by decide +kernel)
theorem kst19 : rnd (ofL kS19) (rcw 19) = ofL kS20 := by
  rw [rcw_nt 19 9223372039002259466 rcT_19]
  exact rnd_step kS19 kS20 9223372039002259466#64 rfl (by decide +kernel)
theorem kst20 : rnd (ofL kS20) (rcw 20) = ofL kS21 := by
  rw [rcw_nt 20 9223372039002292353 rcT_20]
  exact rnd_step kS20 kS21 9223372039002292353#64 rfl (by decide +kernel)
theorem kst21 : rnd (ofL kS21) (rcw 21) = ofL kS22 := by
  rw [rcw_nt 21 9223372036854808704 rcT_21]
  exact rnd_step kS21 kS22 9223372036854808704#64 rfl (by decide +kernel)
theorem kst22 : rnd (ofL kS22) (rcw 22) = ofL kS23 := by
  rw [rcw_nt 22 2147483649 rcT_22]
  exact rnd_step kS22 kS23 2147483649#64 rfl (by decide +kernel)
theorem kst23 : rnd (ofL kS23) (rcw 23) = ofL kS24 := by
  rw [rcw_nt 23 9223372039002292232 rcT_23]
  exact rnd_step kS23 kS24 9223372039002292232#64 rfl (by decide +kernel)
theorem kmix : mixN 24 (ofL kS0) = ofL kS24 := by
  rw [← mixN_succ 23, ← mixN_succ 22, ← mixN_succ 21, ← mixN_succ 20, ← mixN_succ 19, ← mixN_succ 18, ← mixN_succ 17, ← mixN_succ 16, ← mixN_succ 15, ← mixN_succ 14, ← mixN_succ 13, ← mixN_succ 12, ← mixN_succ 11, ← mixN_succ 10, ← mixN_succ 9, ← mixN_succ 8, ← mixN_succ 7, ← mixN_succ 6, ← mixN_succ 5, ← mixN_succ 4, ← mixN_succ 3, ← mixN_succ 2, ← mixN_succ 1, ← mixN_succ 0, mixN_0, kst0, kst1, kst2, kst3, kst4, kst5, kst6, kst7, kst8, kst9, kst10, kst11, kst12, kst13, kst14, kst15, kst16, kst17, kst18, kst19, kst20, kst21, kst22, kst23]
theorem pad_nil : padL [] = [1, 0, 0, 0, 0, 0, 0, 0, 0, 0, 0, 0, 0, 0, 0, 0, 0, 0, 0, 0, 0, 0, 0, 0, 0, 0, 0, 0, 0, 0, 0, 0, 0, 0, 0, 0, 0, 0, 0, 0, 0, 0, 0, 0, 0, 0, 0, 0, 0, 0, 0, 0, 0, 0, 0, 0, 0, 0, 0, 0, 0, 0, 0, 0, 0, 0, 0, 0, 0, 0, 0, 0, 0, 0, 0, 0, 0, 0, 0, 0, 0, 0, 0, 0, 0, 0, 0, 0, 0, 0, 0, 0, 0, 0, 0, 0, 0, 0, 0, 0, 0, 0, 0, 0, 0, 0, 0, 0, 0, 0, 0, 0, 0, 0, 0, 0, 0, 0, 0, 0, 0, 0, 0, 0, 0, 0, 0, 0, 0, 0, 0, 0, 0, 0, 0, 128] := by rw [padL_eq, tailL_eq]; decide
def bt0 (l : List UInt8) (j : Nat) : W64 := BitVec.ofNat 64 (l[j]?.getD 0).toNat
def wd0 (l : List UInt8) : W64 := bt0 l 0 <<< 0 ^^^ bt0 l 1 <<< 8 ^^^ bt0 l 2 <<< 16 ^^^ bt0 l 3 <<< 24 ^^^ bt0 l 4 <<< 32 ^^^ bt0 l 5 <<< 40 ^^^ bt0 l 6 <<< 48 ^^^ bt0 l 7 <<< 56
theorem bt_0 : bt = bt0 := bt_eq
theorem wd_0 : wd = wd0 := by rw [wd_eq, bt_0]; rfl
theorem kinit : xb zk (padL []) = ofL kS0 := by
  rw [pad_nil, xb_eq, wd_0, zk_eq]
  funext i
  by_cases hi : i < 25
  · revert i
    decide +kernel
  · have e : ofL kS0 i = 0 := by unfold ofL; rw [List.getD_eq_getElem?_getD, List.getElem?_eq_none (by show 25 ≤ i; omega)]; rfl
    rw [e]
    simp only
    rw [if_neg (by omega)]
    rfl
theorem lo8_0 : lo8 = fun x => UInt8.ofNat x.toNat := lo8_eq
theorem sum_nil : (sumL []).take 4 = [197, 210, 70, 1] := by
  rw [sumL_eq]
  simp only [List.length_nil, Nat.zero_div, Nat.zero_add]
  rw [absN_succ, absN_0, kinit, kmix, outL_eq, lo8_0]
  decide +kernel

noncomputable def trueG : List DV → Option RV
  | [] => some (.one (.pl (.bool true)))
  | _ => none
theorem alive_ok : ∀ ds r, trueG ds = some r → Spec Try.prog 7 ds r := by
  intro ds r h
  unfold trueG at h
  split at h
  case h_2 => cases h
  cases h
  have hΓ : Env.ok [(8, sumG)] Try.prog := ok_cons ksum_ok (ok_nil _)
  have h0 : (⟨#[]⟩ : ByteArray).size ≤ 1000000 := by decide
  have h1 : (⟨#[]⟩ : ByteArray).data.toList = [] := rfl
  have h2 := sum_nil
  have h3 := sumL_len []
  have h4 : (⟨#[197, 210, 70, 1]⟩ : ByteArray).toList = [197, 210, 70, 1] := by rw [ba_toList]
  have h5 : ([197, 210, 70, 1] : List UInt8) == [197, 210, 70, 1] := by decide
  have hb : ∀ l : List UInt8, (bstr l).size = l.length := bstr_size'
  have ht : ∀ l : List UInt8, (bstr l).toList = l := bstr_toList
  refine Spec.of_vx hΓ follows_mixed Try.func7 rfl (by kernel_rfl) (T := []) (by simp [Try.ntmps7]) (by kernel_rfl) rfl Try.ntmps7 (res := [.tmp 0]) rfl ?_
  intro W
  simp -implicitDefEqProofs (maxSteps := 100000000) only [vy_succ, vy_zero, vx_skip, vx_reg0, vx_reg1, vx_ord, xx_done, xx_stop, xx_alt, vx_seq, vx_cond, vx_block, vx_exit, vx_ret, vx_loop, gx_nil, gx_cons, dx_nil, dx_cons, slim, slimOp, gO, gSO, qSO, quietOp, cx_nil, cx_cons, xx_alc, cS, qSB, eK, calmOp, guardS, gK, qK, putK, plK, dOk, St.ev, St.get, St.mem, St.set, St.setm, St.put, lookA, look, newK, nextver, initT, seqE, blockQ, bodyQ, resK, retV, AV.rdv, cells_agg, cells_int, cells_bool, cells_string, cells_slice, cells_uV, agg_uV, isNil_uV, toN_uV, i64_in, IntKind.wrap_u64, IntKind.wrap_u8, IntKind.wrap_u32, ↓binK, ↓intK, unK, ↓loadK, ↓withKey_eq, ↓idxAddrK, ↓indexK, ↓partK, ↓fieldK, ↓fieldAddrK, ↓convK, ↓callK, wrG, updK, ↓lenK, ↓mmK, ↓appK, ↓copyK, ↓sliceK, ↓toArrK, nilK, optK_some, optK_tup, optK_ite, evs, plains, seqParts, capsOf, capsD, List.append_nil, List.nil_append, List.cons_append, AV.dv, AV.cont, isNil_agg, isNil_int, isNil_bool, isNil_string, isNil_nil, isNil_slice, ↓buildV_eq, fillL, placesOf, Option.map_some, Option.map_none, ↓storeK, wrL, RV.av, DV.av, List.set, List.map_cons, List.map_nil, List.length_cons, List.length_nil, List.all_cons, List.all_nil, List.getElem?_cons_zero, List.getElem?_cons_succ, List.getElem?_nil, List.size_toArray, List.getElem?_toArray, List.drop_zero, List.drop_succ_cons, List.take_zero, List.take_succ_cons, Option.getD_some, Option.getD_none, Option.some.injEq, Option.isSome_some, Nat.reduceEqDiff, Nat.reduceAdd, Nat.reduceSub, Nat.reduceMul, Nat.reduceLT, Nat.reduceLeDiff, Nat.reduceMod, Nat.reduceDiv, Int.cast_ofNat_Int, Int.reduceLT, Int.reduceLE, Int.reduceToNat, ↓reduceIte, true_and, and_true, true_or, or_true, or_false, false_or, reduceCtorEq, Bool.false_eq_true, Bool.and_true, Bool.not_true, Bool.not_false, beq_self_eq_true, Bool.true_beq, Bool.false_beq, Value.oneCell', decide_true, decide_false, Int.reduceAdd, Int.reduceSub, Int.reduceMod, Int.reduceMul, Int.reduceNeg, Int.reduceBEq, Int.reduceBNe, Int.reduceTDiv, Int.reduceTMod, ne_eq, not_false_eq_true, not_true_eq_false, Int.reduceEq, Nat.zero_add, Nat.add_zero, Nat.le_refl, Try.underlying2, s_2, g_2, z_2, Try.underlying3, s_3, g_3, z_3, Try.underlying4, s_4, g_4, z_4, Try.underlying5, s_5, g_5, z_5, Try.underlying9, s_9, g_9, z_9, Try.underlying12, s_12, g_12, z_12, Try.underlying13, s_13, g_13, z_13, q_13, Try.underlying21, s_21, g_21, z_21, Try.underlying25, s_25, g_25, z_25, Try.underlying26, s_26, g_26, z_26, q_26, Try.underlying32, s_32, g_32, l_32, r_32, Try.underlying34, s_34, g_34, z_34, Try.underlying35, s_35, g_35, z_35, q_35, Try.underlying38, s_38, g_38, z_38, q_38, Try.underlying42, s_42, g_42, l_42, r_42, Try.underlying44, s_44, g_44, z_44, q_44, Try.underlying57, s_57, g_57, l_57, r_57, Try.underlying69, s_69, g_69, z_69, sumG, h0, h1, h2, h3, h4, h5, hb, ht, bstr_take, Int.reduceLE]

/-! ### Equality of states -/
noncomputable def eqK : K25 → K25 → Bool := Classical.choose (⟨fun A B => @decide (∀ i, i < 25 → A i = B i) (Classical.propDecidable _), rfl⟩ : ∃ f : K25 → K25 → Bool, f = fun A B => @decide (∀ i, i < 25 → A i = B i) (Classical.propDecidable _))
theorem eqK_eq : eqK = fun A B => @decide (∀ i, i < 25 → A i = B i) (Classical.propDecidable _) := Classical.choose_spec (⟨fun A B => @decide (∀ i, i < 25 → A i = B i) (Classical.propDecidable _), rfl⟩ : ∃ f : K25 → K25 → Bool, f = fun A B => @decide (∀ i, i < 25 → A i = B i) (Classical.propDecidable _))
theorem eqK_self (A : K25) : eqK A A = true := by rw [eqK_eq]; simp
noncomputable def tl (A : K25) : List Int := [tn (A 0), tn (A 1), tn (A 2), tn (A 3), tn (A 4), tn (A 5), tn (A 6), tn (A 7), tn (A 8), tn (A 9), tn (A 10), tn (A 11), tn (A 12), tn (A 13), tn (A 14), tn (A 15), tn (A 16), tn (A 17), tn (A 18), tn (A 19), tn (A 20), tn (A 21), tn (A 22), tn (A 23), tn (A 24)]
theorem tl_eq (A B : K25) : (tl A == tl B) = eqK A B := by
  rw [eqK_eq, Bool.eq_iff_iff]
  simp only [beq_iff_eq, decide_eq_true_eq]
  constructor
  · intro h
    refine kV_inj ?_
    have : (tl A).map (Value.int .u64) = (tl B).map (Value.int .u64) := by rw [h]
    exact congrArg (fun l => Value.agg l.toArray) this
  · intro h
    unfold tl
    rw [h 0 (by omega), h 1 (by omega), h 2 (by omega), h 3 (by omega), h 4 (by omega), h 5 (by omega), h 6 (by omega), h 7 (by omega), h 8 (by omega), h 9 (by omega), h 10 (by omega), h 11 (by omega), h 12 (by omega), h 13 (by omega), h 14 (by omega), h 15 (by omega), h 16 (by omega), h 17 (by omega), h 18 (by omega), h 19 (by omega), h 20 (by omega), h 21 (by omega), h 22 (by omega), h 23 (by omega), h 24 (by omega)]
theorem eqV_kV (A B : K25) : eqV Try.prog 26 ((tl A).map (Value.int .u64)).toArray ((tl B).map (Value.int .u64)).toArray = some (eqK A B) := by
  rw [eqV_ints (P := Try.prog) (t := 26) (e := 25) (n := 25) (k := .u64) Try.underlying26 (by kernel_rfl) (by kernel_rfl) Try.underlying25 (tl A) (tl B) rfl rfl, tl_eq]
theorem binK_eqA (A B : K25) (K : Value → Prop) : binK Try.prog .eql 26 (kV A) (kV B) K = K (.bool (eqK A B)) := by
  apply propext
  show (Try.prog.eqGuardType Try.prog.depth 26 = false ∧ ∃ c, eqV Try.prog 26 ((tl A).map (Value.int .u64)).toArray ((tl B).map (Value.int .u64)).toArray = some c ∧ K (.bool c)) ↔ _
  rw [eqV_kV]
  constructor
  · rintro ⟨_, c, hc, hk⟩; cases hc; exact hk
  · intro h; exact ⟨q_26, _, rfl, h⟩

/-! ### The laws -/
theorem sumsL_ok (s : ByteArray) : Spec Try.prog 3 [.pl (.string s)] (.one (.pl (.bool true))) := by
  have hΓ : Env.ok [(8, sumG), (9, sumG), (7, trueG)] Try.prog := ok_cons ksum_ok (ok_cons rsum_ok (ok_cons alive_ok (ok_nil _)))
  obtain ⟨k, hk, hk1, hk2⟩ : ∃ k : Nat, (if (1000 : Int) < (s.size : Int) then (1000 : Int) else (s.size : Int)) = (k : Int) ∧ k ≤ 1000 ∧ k ≤ s.size := by
    by_cases h : s.size ≤ 1000
    · exact ⟨s.size, by rw [if_neg (by omega)], h, Nat.le_refl _⟩
    · exact ⟨1000, by rw [if_pos (by omega)]; rfl, Nat.le_refl _, by omega⟩
  have k1 : (0 : Int) ≤ (k : Int) := by omega
  have k2 : (k : Int) ≤ (s.size : Int) := by omega
  have hts : (s.extract 0 k).size = k := by simp [ByteArray.size_extract]; omega
  generalize ht : s.extract 0 k = t at *
  have c1 : (t.size ≤ 1000000) = True := eq_true (by omega)
  have hb : ∀ l : List UInt8, (bstr l).toList = l := bstr_toList
  refine Spec.of_vx hΓ follows_mixed Try.func3 rfl (by kernel_rfl) (T := []) (by simp [Try.ntmps3]) (by kernel_rfl) rfl Try.ntmps3 (res := [.tmp 2]) rfl ?_
  intro W
  simp -implicitDefEqProofs (maxSteps := 100000000) only [vy_succ, vy_zero, vx_skip, vx_reg0, vx_reg1, vx_ord, xx_done, xx_stop, xx_alt, vx_seq, vx_cond, vx_block, vx_exit, vx_ret, vx_loop, gx_nil, gx_cons, dx_nil, dx_cons, slim, slimOp, gO, gSO, qSO, quietOp, cx_nil, cx_cons, xx_alc, cS, qSB, eK, calmOp, guardS, gK, qK, putK, plK, dOk, St.ev, St.get, St.mem, St.set, St.setm, St.put, lookA, look, newK, nextver, initT, seqE, blockQ, bodyQ, resK, retV, AV.rdv, cells_agg, cells_int, cells_bool, cells_string, cells_slice, cells_uV, agg_uV, isNil_uV, toN_uV, i64_in, IntKind.wrap_u64, IntKind.wrap_u8, IntKind.wrap_u32, ↓binK, ↓intK, unK, ↓loadK, ↓withKey_eq, ↓idxAddrK, ↓indexK, ↓partK, ↓fieldK, ↓fieldAddrK, ↓convK, ↓callK, wrG, updK, ↓lenK, ↓mmK, ↓appK, ↓copyK, ↓sliceK, ↓toArrK, nilK, optK_some, optK_tup, optK_ite, evs, plains, seqParts, capsOf, capsD, List.append_nil, List.nil_append, List.cons_append, AV.dv, AV.cont, isNil_agg, isNil_int, isNil_bool, isNil_string, isNil_nil, isNil_slice, ↓buildV_eq, fillL, placesOf, Option.map_some, Option.map_none, ↓storeK, wrL, RV.av, DV.av, List.set, List.map_cons, List.map_nil, List.length_cons, List.length_nil, List.all_cons, List.all_nil, List.getElem?_cons_zero, List.getElem?_cons_succ, List.getElem?_nil, List.size_toArray, List.getElem?_toArray, List.drop_zero, List.drop_succ_cons, List.take_zero, List.take_succ_cons, Option.getD_some, Option.getD_none, Option.some.injEq, Option.isSome_some, Nat.reduceEqDiff, Nat.reduceAdd, Nat.reduceSub, Nat.reduceMul, Nat.reduceLT, Nat.reduceLeDiff, Nat.reduceMod, Nat.reduceDiv, Int.cast_ofNat_Int, Int.reduceLT, Int.reduceLE, Int.reduceToNat, ↓reduceIte, true_and, and_true, true_or, or_true, or_false, false_or, reduceCtorEq, Bool.false_eq_true, Bool.and_true, Bool.not_true, Bool.not_false, beq_self_eq_true, Bool.true_beq, Bool.false_beq, Value.oneCell', decide_true, decide_false, Int.reduceAdd, Int.reduceSub, Int.reduceMod, Int.reduceMul, Int.reduceNeg, Int.reduceBEq, Int.reduceBNe, Int.reduceTDiv, Int.reduceTMod, ne_eq, not_false_eq_true, not_true_eq_false, Int.reduceEq, Nat.zero_add, Nat.add_zero, Nat.le_refl, Try.underlying2, s_2, g_2, z_2, Try.underlying3, s_3, g_3, z_3, Try.underlying4, s_4, g_4, z_4, Try.underlying5, s_5, g_5, z_5, Try.underlying9, s_9, g_9, z_9, Try.underlying12, s_12, g_12, z_12, Try.underlying13, s_13, g_13, z_13, q_13, Try.underlying21, s_21, g_21, z_21, Try.underlying25, s_25, g_25, z_25, Try.underlying26, s_26, g_26, z_26, q_26, Try.underlying32, s_32, g_32, l_32, r_32, Try.underlying34, s_34, g_34, z_34, Try.underlying35, s_35, g_35, z_35, q_35, Try.underlying38, s_38, g_38, z_38, q_38, Try.underlying42, s_42, g_42, l_42, r_42, Try.underlying44, s_44, g_44, z_44, q_44, Try.underlying57, s_57, g_57, l_57, r_57, Try.underlying69, s_69, g_69, z_69, mmK, hk, k1, k2, ht, c1, sumG, trueG, hb, Int.toNat_natCast]

theorem mixesL_ok (A : K25) : Spec Try.prog 4 [.pl (kV A)] (.one (.pl (.bool true))) := by
  have hΓ : Env.ok [(10, mixG), (11, mixG), (7, trueG)] Try.prog := ok_cons mix_ok (ok_cons rmix_ok (ok_cons alive_ok (ok_nil _)))
  have hs := eqK_self (mixN 24 A)
  have hf := kV_fold A
  refine Spec.of_vx hΓ follows_mixed Try.func4 rfl (by kernel_rfl) (T := []) (by simp [Try.ntmps4]) (by kernel_rfl) rfl Try.ntmps4 (res := [.tmp 2]) rfl ?_
  intro W
  simp -implicitDefEqProofs (maxSteps := 100000000) only [↓binK_eqA, vy_succ, vy_zero, vx_skip, vx_reg0, vx_reg1, vx_ord, xx_done, xx_stop, xx_alt, vx_seq, vx_cond, vx_block, vx_exit, vx_ret, vx_loop, gx_nil, gx_cons, dx_nil, dx_cons, slim, slimOp, gO, gSO, qSO, quietOp, cx_nil, cx_cons, xx_alc, cS, qSB, eK, calmOp, guardS, gK, qK, putK, plK, dOk, St.ev, St.get, St.mem, St.set, St.setm, St.put, lookA, look, newK, nextver, initT, seqE, blockQ, bodyQ, resK, retV, AV.rdv, cells_agg, cells_int, cells_bool, cells_string, cells_slice, cells_uV, agg_uV, isNil_uV, toN_uV, i64_in, IntKind.wrap_u64, IntKind.wrap_u8, IntKind.wrap_u32, ↓binK, ↓intK, unK, ↓loadK, ↓withKey_eq, ↓idxAddrK, ↓indexK, ↓partK, ↓fieldK, ↓fieldAddrK, ↓convK, ↓callK, wrG, updK, ↓lenK, ↓mmK, ↓appK, ↓copyK, ↓sliceK, ↓toArrK, nilK, optK_some, optK_tup, optK_ite, evs, plains, seqParts, capsOf, capsD, List.append_nil, List.nil_append, List.cons_append, AV.dv, AV.cont, isNil_agg, isNil_int, isNil_bool, isNil_string, isNil_nil, isNil_slice, ↓buildV_eq, fillL, placesOf, Option.map_some, Option.map_none, ↓storeK, wrL, RV.av, DV.av, List.set, List.map_cons, List.map_nil, List.length_cons, List.length_nil, List.all_cons, List.all_nil, List.getElem?_cons_zero, List.getElem?_cons_succ, List.getElem?_nil, List.size_toArray, List.getElem?_toArray, List.drop_zero, List.drop_succ_cons, List.take_zero, List.take_succ_cons, Option.getD_some, Option.getD_none, Option.some.injEq, Option.isSome_some, Nat.reduceEqDiff, Nat.reduceAdd, Nat.reduceSub, Nat.reduceMul, Nat.reduceLT, Nat.reduceLeDiff, Nat.reduceMod, Nat.reduceDiv, Int.cast_ofNat_Int, Int.reduceLT, Int.reduceLE, Int.reduceToNat, ↓reduceIte, true_and, and_true, true_or, or_true, or_false, false_or, reduceCtorEq, Bool.false_eq_true, Bool.and_true, Bool.not_true, Bool.not_false, beq_self_eq_true, Bool.true_beq, Bool.false_beq, Value.oneCell', decide_true, decide_false, Int.reduceAdd, Int.reduceSub, Int.reduceMod, Int.reduceMul, Int.reduceNeg, Int.reduceBEq, Int.reduceBNe, Int.reduceTDiv, Int.reduceTMod, ne_eq, not_false_eq_true, not_true_eq_false, Int.reduceEq, Nat.zero_add, Nat.add_zero, Nat.le_refl, Try.underlying2, s_2, g_2, z_2, Try.underlying3, s_3, g_3, z_3, Try.underlying4, s_4, g_4, z_4, Try.underlying5, s_5, g_5, z_5, Try.underlying9, s_9, g_9, z_9, Try.underlying12, s_12, g_12, z_12, Try.underlying13, s_13, g_13, z_13, q_13, Try.underlying21, s_21, g_21, z_21, Try.underlying25, s_25, g_25, z_25, Try.underlying26, s_26, g_26, z_26, q_26, Try.underlying32, s_32, g_32, l_32, r_32, Try.underlying34, s_34, g_34, z_34, Try.underlying35, s_35, g_35, z_35, q_35, Try.underlying38, s_38, g_38, z_38, q_38, Try.underlying42, s_42, g_42, l_42, r_42, Try.underlying44, s_44, g_44, z_44, q_44, Try.underlying57, s_57, g_57, l_57, r_57, Try.underlying69, s_69, g_69, z_69, mixG, trueG, toK_kV, mixN_24, isNil_kV, cells_kV, hs, hf]
theorem kV_open {l : List Int} (hl : l.length = 25) (hw : ∀ z ∈ l, 0 ≤ z ∧ z < 18446744073709551616) : ∃ A : K25, Value.agg (l.map (Value.int .u64)).toArray = kV A := by
  refine ⟨fun i => nt (l.getD i 0), ?_⟩
  match l, hl with
  | [x0, x1, x2, x3, x4, x5, x6, x7, x8, x9, x10, x11, x12, x13, x14, x15, x16, x17, x18, x19, x20, x21, x22, x23, x24], _ =>
    have h : ∀ z ∈ [x0, x1, x2, x3, x4, x5, x6, x7, x8, x9, x10, x11, x12, x13, x14, x15, x16, x17, x18, x19, x20, x21, x22, x23, x24], tn (nt z) = z := fun z hz => tn_nt (okW_of (hw z hz).1 (hw z hz).2)
    unfold kV
    show _ = Value.agg #[.int .u64 (tn (nt x0)), .int .u64 (tn (nt x1)), .int .u64 (tn (nt x2)), .int .u64 (tn (nt x3)), .int .u64 (tn (nt x4)), .int .u64 (tn (nt x5)), .int .u64 (tn (nt x6)), .int .u64 (tn (nt x7)), .int .u64 (tn (nt x8)), .int .u64 (tn (nt x9)), .int .u64 (tn (nt x10)), .int .u64 (tn (nt x11)), .int .u64 (tn (nt x12)), .int .u64 (tn (nt x13)), .int .u64 (tn (nt x14)), .int .u64 (tn (nt x15)), .int .u64 (tn (nt x16)), .int .u64 (tn (nt x17)), .int .u64 (tn (nt x18)), .int .u64 (tn (nt x19)), .int .u64 (tn (nt x20)), .int .u64 (tn (nt x21)), .int .u64 (tn (nt x22)), .int .u64 (tn (nt x23)), .int .u64 (tn (nt x24))]
    rw [h x0 (by simp), h x1 (by simp), h x2 (by simp), h x3 (by simp), h x4 (by simp), h x5 (by simp), h x6 (by simp), h x7 (by simp), h x8 (by simp), h x9 (by simp), h x10 (by simp), h x11 (by simp), h x12 (by simp), h x13 (by simp), h x14 (by simp), h x15 (by simp), h x16 (by simp), h x17 (by simp), h x18 (by simp), h x19 (by simp), h x20 (by simp), h x21 (by simp), h x22 (by simp), h x23 (by simp), h x24 (by simp)]
    rfl
end Go.Vm
